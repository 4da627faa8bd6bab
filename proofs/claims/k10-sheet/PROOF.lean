import PyProof.Rows.All
import Wide.All
import OpenK.AllK
import Wide.FinOn
import HandS.ForMost
import HandS.Exc
import HandS.ExcOwn
import HandS.ExcCtx
import HandS.CallSlots
import HandS.HotCalls
import HandS.Deep
import HandS.DictComp
import HandS.Defaults
import HandS.ListItems
import HandS.Conv
import HandS.SortInts
import HandS.SortRule
import HandS.NoneIn
import HandS.Iter
import KE.KDictKeyed
import HandS.IsInst
import HandS.TupAny
import HandS.ExcIs
import HandS.Style
import HandS.HeadHook1
import HandS.HeadHook2
import HandS.Comp
import HandS.List
import HandS.Wide
import KE.KDictWalk
import HandS.Ends
import HandS.Head0
import HandS.Head1
import HandS.Head2
import HandS.HeadEnd
import HandS.MakeKwOnly
import PySem.Challenge.RW_vaultbridge_k10_sheet
set_option Elab.async false
set_option linter.all false
set_option maxRecDepth 100000
/-! The plain layer, part 0: data, a small language, and what its programs do. -/
namespace Vb
open PySem
abbrev Id := List Nat
/-- data: seq true = a tuple, seq false = a list that nobody changes any more; giv = the list of numbers that the law is given -/
inductive D where
  | non | bl (b : Bool) | int (i : Int) | str (x : Str) | seq (t : Bool) (xs : List D) | ref (i : Id) | giv (ns : List Int)
deriving Inhabited
abbrev D.tup (xs : List D) : D := .seq true xs
abbrev D.lst (xs : List D) : D := .seq false xs
namespace D
mutual
def beq : D → D → Bool
  | .non, y => (match y with | .non => true | _ => false)
  | .bl a, y => (match y with | .bl b => a == b | _ => false)
  | .int a, y => (match y with | .int b => decide (a = b) | _ => false)
  | .str a, y => (match y with | .str b => decide (a = b) | _ => false)
  | .seq t xs, y => (match y with | .seq u ys => (t == u) && beqs xs ys | _ => false)
  | .ref i, y => (match y with | .ref j => decide (i = j) | _ => false)
  | .giv c, y => (match y with | .giv d => decide (c = d) | _ => false)
def beqs : List D → List D → Bool
  | [], ys => (match ys with | [] => true | _ :: _ => false)
  | x :: xs, ys => (match ys with | [] => false | y :: ys => beq x y && beqs xs ys)
end
mutual
theorem beq_rfl : ∀ x : D, beq x x = true
  | .non => rfl
  | .bl a => by simp [beq]
  | .int a => by simp [beq]
  | .str a => by simp [beq]
  | .seq t xs => by simp [beq, beqs_rfl xs]
  | .ref i => by simp [beq]
  | .giv c => by simp [beq]
theorem beqs_rfl : ∀ x : List D, beqs x x = true
  | [] => rfl
  | x :: xs => by simp [beqs, beq_rfl x, beqs_rfl xs]
end
mutual
theorem beq_eq : ∀ x y : D, beq x y = true → x = y
  | .non, y, h => by cases y <;> simp_all [beq]
  | .bl a, y, h => by cases y <;> simp_all [beq]
  | .int a, y, h => by cases y <;> simp_all [beq]
  | .str a, y, h => by cases y <;> simp_all [beq]
  | .seq t xs, y, h => by
    cases y with
    | seq u ys =>
      simp only [beq, Bool.and_eq_true, beq_iff_eq] at h
      rw [h.1, beqs_eq xs ys h.2]
    | _ => simp [beq] at h
  | .ref i, y, h => by cases y <;> simp_all [beq]
  | .giv c, y, h => by cases y <;> simp_all [beq]
theorem beqs_eq : ∀ x y : List D, beqs x y = true → x = y
  | [], y, h => by cases y <;> simp_all [beqs]
  | x :: xs, y, h => by
    cases y with
    | nil => simp [beqs] at h
    | cons y ys =>
      simp only [beqs, Bool.and_eq_true] at h
      rw [beq_eq x y h.1, beqs_eq xs ys h.2]
end
instance : DecidableEq D := fun a b => if h : beq a b = true then .isTrue (beq_eq a b h) else .isFalse fun e => h (e ▸ beq_rfl a)
/-! as the kit's data -/
mutual
def data : D → PyData
  | .non => .none
  | .bl b => .bool b
  | .int i => .int i
  | .str x => .str x
  | .seq true xs => .tuple (datas xs)
  | .seq false xs => .list (datas xs)
  | .ref _ => .dict []
  | .giv _ => .dict []
def datas : List D → List PyData
  | [] => []
  | x :: xs => data x :: datas xs
end
mutual
/-- no object of the program's own within -/
def pure : D → Bool
  | .non | .bl _ | .int _ => true
  | .str x => x.cps.all (· < 0x110000)
  | .seq _ xs => pures xs
  | .ref _ | .giv _ => false
def pures : List D → Bool
  | [] => true
  | x :: xs => pure x && pures xs
end
mutual
def dep : D → Nat
  | .non | .bl _ | .int _ | .str _ => 0
  | .seq _ xs => deps xs + 1
  | .ref _ | .giv _ => 0
def deps : List D → Nat
  | [] => 0
  | x :: xs => max (dep x) (deps xs)
end
mutual
/-- Python's == on data -/
def eqv : D → D → Bool
  | .non, y => (match y with | .non => true | _ => false)
  | .bl a, y => (match y with | .bl b => a == b | .int j => (if a then 1 else 0) == j | _ => false)
  | .int i, y => (match y with | .bl b => i == (if b then 1 else 0) | .int j => i == j | _ => false)
  | .str a, y => (match y with | .str b => a == b | _ => false)
  | .seq t xs, y => (match y with | .seq u ys => (t == u) && eqvs xs ys | _ => false)
  | .ref _, _ => false
  | .giv _, _ => false
def eqvs : List D → List D → Bool
  | [], ys => (match ys with | [] => true | _ :: _ => false)
  | x :: xs, ys => (match ys with | [] => false | y :: ys => eqv x y && eqvs xs ys)
end
/-- == is asked without more ado -/
def eqOk : D → D → Bool
  | .int _, .int _ => true
  | .str _, .str _ => true
  | .bl _, .bl _ => true
  | .non, .int _ => true
  | .int _, .non => true
  | .non, .str _ => true
  | .str _, .non => true
  | x, y => x.pure && (y.pure && decide (min x.dep y.dep ≤ 60))
/-- a key by itself: a number, a text -/
def keyF : D → Bool
  | .int _ => true
  | .str _ => true
  | _ => false
mutual
/-- a part of a key that is a tuple -/
def keyN : D → Bool
  | .non => true
  | .int _ => true
  | .str _ => true
  | .seq true xs => keyNs xs
  | _ => false
def keyNs : List D → Bool
  | [] => true
  | x :: xs => keyN x && keyNs xs
end
def keyT : D → Bool
  | .seq true xs => keyNs xs && decide (deps xs ≤ 7)
  | _ => false
/-- a number, a text, a truth value, None -/
def flat : D → Bool
  | .non | .bl _ | .int _ | .str _ => true
  | _ => false
end D

/-- keys of one kind -/
def keysOk (kvs : List (D × D)) (k : D) : Bool := (k.keyF && kvs.all fun p => p.1.keyF) || (k.keyT && kvs.all fun p => p.1.keyT)
def dGet (kvs : List (D × D)) (k : D) : Option D := (kvs.find? fun p => decide (p.1 = k)).map (·.2)
def dPut (kvs : List (D × D)) (k v : D) : List (D × D) := if (kvs.any fun p => decide (p.1 = k)) = true then kvs.map fun p => if p.1 = k then (p.1, v) else p else kvs ++ [(k, v)]
def dDel (kvs : List (D × D)) (k : D) : List (D × D) := kvs.filter fun p => decide (p.1 ≠ k)
inductive Op where | add | sub | mul | fdiv | mod | pow | fdw | mlw
deriving DecidableEq
inductive Cm where | eq | ne | lt | le | gt | ge | is_ | isnot
deriving DecidableEq
inductive Ty where | int | bool | str | tuple | list | dict
deriving DecidableEq
/-- built-ins upon values -/
inductive Bi where | abs | min2 | max2 | int1 | str1
deriving DecidableEq

/-- asked of a container and values -/
inductive Xb where | index
/-- a new container out of one -/
inductive Xc where | srti | srtp | srts | dprs
deriving DecidableEq
/-- what is walked of a dict -/
inductive Dk where | keys | items | vals
deriving DecidableEq
inductive Tg where | slot (i : Nat) | tup (ts : List Nat)

mutual
/-- expressions -/
inductive E where
  /-- never reached -/
  | nev
  | con (d : D)
  | var (i : Nat)
  | glb (g : Nat)
  | attr (o : E) (f : Nat)
  | tup (es : Es)
  | fz (c : Cr)
  | al (c : Cr)
  | bin (o : Op) (a b : E)
  | neg (a : E)
  | not (a : E)
  | bo (k : Bool) (es : Es)
  | ife (c a b : E)
  | cmp (o : Cm) (a b : E)
  | chain (o o' : Cm) (a b c : E)
  | isin (neg : Bool) (a : E) (p : Pl)
  | eqp (neg : Bool) (p q : Pl)
  | truth (p : Pl)
  | call (f : Nat) (es : Es)
  | new (c : Nat) (es : Es)
  /-- f(..) with defaults; C(k = v, ..) with defaults -/
  | callk (f : Nat) (ds : List D) (es : Es)
  | newk (c : Nat) (ks : List Str) (ds : List D) (es : Es)
  | meth (m : Nat) (o : E) (es : Es)
  | bi (b : Bi) (es : Es)
  | isi (a : E) (t : Ty)
  | excis (i : Nat) (c : Nat)
  | excword (i : Nat)
  | len (p : Pl)
  | idx (p : Pl) (k : E)
  | idxf (p : Pl) (k : E)
  | slc (p : Pl) (lo hi : Oe)
  /-- a frozen list cut, the bounds any -/
  | slcf (p : Pl) (lo hi : Oe)
  | totup (p : Pl)
  | sum (p : Pl)
  | allof (p : Pl)
  | anyof (p : Pl)
  | popat (p : Pl) (k : E)
  | pop0 (p : Pl)
  | dget (p : Pl) (k : E)
  | din (neg : Bool) (a : E) (p : Pl)
  | dgt1 (p : Pl) (k : E)
  | dgt2 (p : Pl) (k x : E)
  | dlen (p : Pl)
  | xb (b : Xb) (p : Pl) (es : Es)
inductive Oe where | no | so (e : E)
inductive Es where | nil | cons (e : E) (r : Es)
/-- a container: by a value, in a slot of one's own, in a field of one's own -/
inductive Pl where
  | v (e : E)
  | loc (j : Nat)
  | fld (o : E) (f : Nat)
/-- what makes a new container -/
inductive Cr where
  | lst (es : Es)
  | slice (p : Pl) (lo hi : Oe)
  | tolist (p : Pl)
  | cat (p q : Pl)
  /-- a list object and a list, the second any -/
  | catc (p q : Pl)
  | comp (own : List Nat) (t : Tg) (it : It) (c : Oe) (e : E)
  | dnew
  | dlit (ks : List (Sum Int Str)) (es : Es)
  | dsrt (p : Pl)
  | dcopy (p : Pl)
  | dvals (p : Pl)
  | xc (b : Xc) (p : Pl)
  | compd (own : List Nat) (t : Tg) (k : Dk) (p : Pl) (c : Oe) (e : E)
  /-- {k: v for .. in it if c}; .. of a dict -/
  | dcl (own : List Nat) (t : Tg) (it : It) (c : Oe) (k v : E)
  | dcd (own : List Nat) (t : Tg) (w : Dk) (p : Pl) (c : Oe) (k v : E)
/-- what is walked -/
inductive It where
  | pl (p : Pl)
  | rng1 (e : E)
  | rng2 (a b : E)
  | enum (p : Pl)
end

mutual
inductive S where
  /-- never reached, nor what follows -/
  | nev
  | expr (e : E)
  | set (i : Nat) (e : E)
  | setown (i : Nat) (c : Cr)
  | settup (is : List Nat) (e : E)
  | setlst (is : List Nat) (p : Pl)
  | setf (o : E) (f : Nat) (e : E)
  | setfown (o : E) (f : Nat) (c : Cr)
  | seti (p : Pl) (k e : E)
  | app (p : Pl) (e : E)
  | setpop (x : Nat) (p : Pl) (k : Oe)
  | ifs (c : E) (a b : Ss)
  | whil (c : E) (b : Ss)
  | for_ (t : Tg) (it : It) (b : Ss)
  /-- over a dict, which nothing writes meanwhile -/
  | ford (t : Tg) (w : Dk) (p : Pl) (b : Ss)
  /-- over a frozen list whose end is never reached -/
  | forh (t : Tg) (p : Pl) (b : Ss)
  | ret (e : E)
  | retn
  | raise (c : Nat)
  | try_ (b : Ss) (c : Nat) (x : Option Nat) (h : Ss)
  | pass | cont | brk
  | frz (i : Nat)
  | dput (p : Pl) (k e : E)
  | ddel (p : Pl) (k : E)
inductive Ss where | nil | cons (s : S) (r : Ss)
end

/-! ### which expressions leave all that stands as it is -/
mutual
def simE : E → Bool
  | .nev => false
  | .con _ => true
  | .var _ => true
  | .glb _ => true
  | .attr o _ => simE o
  | .tup es => simEs es
  | .fz c => simC c
  | .al _ => false
  | .bin _ a b => simE a && simE b
  | .neg a => simE a
  | .not a => simE a
  | .bo _ es => simEs es
  | .ife c a b => simE c && (simE a && simE b)
  | .cmp _ a b => simE a && simE b
  | .chain _ _ a b c => simE a && (simE b && simE c)
  | .isin _ a p => simE a && simP p
  | .eqp _ p q => simP p && simP q
  | .truth p => simP p
  | .call _ _ => false
  | .new _ _ => false
  | .callk _ _ _ => false
  | .newk _ _ _ _ => false
  | .meth _ _ _ => false
  | .bi _ es => simEs es
  | .isi a _ => simE a
  | .excis _ _ => true
  | .excword _ => false
  | .len p => simP p
  | .idx p k => simP p && simE k
  | .idxf p k => simP p && simE k
  | .slc p lo hi => simP p && (simO lo && simO hi)
  | .slcf _ _ _ => false
  | .totup p => simP p
  | .sum p => simP p
  | .allof p => simP p
  | .anyof p => simP p
  | .popat _ _ => false
  | .pop0 _ => false
  | .dget p k => simP p && simE k
  | .din _ a p => simE a && simP p
  | .dgt1 p k => simP p && simE k
  | .dgt2 p k x => simP p && (simE k && simE x)
  | .dlen p => simP p
  | .xb _ p es => simP p && simEs es
def simO : Oe → Bool
  | .no => true
  | .so e => simE e
def simEs : Es → Bool
  | .nil => true
  | .cons e r => simE e && simEs r
def simP : Pl → Bool
  | .v e => simE e
  | .loc _ => true
  | .fld o _ => simE o
def simC : Cr → Bool
  | .lst es => simEs es
  | .slice p lo hi => simP p && (simO lo && simO hi)
  | .tolist p => simP p
  | .cat p q => simP p && simP q
  | .catc _ _ => false
  | .comp _ _ it c e => simI it && (simO c && simE e)
  | .dnew => true
  | .dlit _ es => simEs es
  | .dsrt p => simP p
  | .dcopy p => simP p
  | .dvals p => simP p
  | .xc _ p => simP p
  | .compd _ _ _ p c e => simP p && (simO c && simE e)
  | .dcl _ _ it c k v => simI it && (simO c && (simE k && simE v))
  | .dcd _ _ _ p c k v => simP p && (simO c && (simE k && simE v))
def simI : It → Bool
  | .pl p => simP p
  | .rng1 e => simE e
  | .rng2 a b => simE a && simE b
  | .enum p => simP p
end

/-! ### states -/
inductive Ct where
  | lst (xs : List D)
  | dct (kvs : List (D × D))
deriving Inhabited
/-- a slot: a value, or a container that it alone holds -/
inductive Sl where
  | val (d : D)
  | own (c : Ct)
  | exc (c : Nat)
deriving Inhabited
inductive Ob where
  | ct (c : Ct)
  /-- a dict that is being walked, by the heap's object -/
  | lkd (kvs : List (D × D)) (o : PySem.Obj) (u : L2.HO)
  | ins (c : Nat) (fs : List (Nat × Sl))
deriving Inhabited
abbrev G := Id → Option Ob
def up (g : G) (i : Id) (o : Ob) : G := fun j => if j = i then some o else g j
@[simp] theorem up_same (g : G) (i : Id) (o : Ob) : up g i o i = some o := by simp [up]
theorem up_ne (g : G) {i j : Id} (o : Ob) (h : j ≠ i) : up g i o j = g j := by simp [up, h]
abbrev Rho := List (Option Sl)
def noX (r : Rho) : Bool := r.all fun s => match s with
  | some (.exc _) => false
  | _ => true
def outX (x : Option Nat) (r : Rho) : Rho := match x with
  | some i => r.set i none
  | none => r
def inX (x : Option Nat) (e : Nat) (r : Rho) : Rho := match x with
  | some i => r.set i (some (.exc e))
  | none => r
/-- a container's content -/
inductive Cv where
  | seq (t : Bool) (xs : List D)
  | str (s : Str)
  | dct (kvs : List (D × D))
def Ct.cv : Ct → Cv
  | .lst xs => .seq false xs
  | .dct k => .dct k
def putS (f : Nat) (s : Sl) : List (Nat × Sl) → List (Nat × Sl)
  | [] => [(f, s)]
  | (g, x) :: r => if g = f then (g, s) :: r else (g, x) :: putS f s r
def getS (f : Nat) : List (Nat × Sl) → Option Sl
  | [] => none
  | (g, x) :: r => if g = f then some x else getS f r
def fldOf (g : G) (d : D) (f : Nat) : Option Sl := match d with
  | .ref i => (match g i with
    | some (.ins _ fs) => getS f fs
    | _ => none)
  | _ => none
def cvOf (g : G) (d : D) : Option Cv := match d with
  | .seq t xs => some (.seq t xs)
  | .str s => some (.str s)
  | .ref i => (match g i with
    | some (.ct c) => some c.cv
    | some (.lkd k _ _) => some (.dct k)
    | _ => none)
  | .giv ns => some (.seq false (ns.map D.int))
  | _ => none

/-! ### operators -/
abbrev lineN : Nat := 1000000
def mulOk (i j : Int) : Prop := (-(2 ^ 64) < i ∧ i < 2 ^ 64) ∨ (-(2 ^ 64) < j ∧ j < 2 ^ 64)
def strRep (x : Str) (n : Int) : Str := if n < 1 then Str.empty else if (n == 1 || x.length == 0) = true then x else ⟨(List.replicate n.toNat x.cps).foldl (· ++ ·) #[]⟩
/-- a op b, what is wanted of it -/
def wOp (o : Op) (x y : D) (K : D → Prop) : Prop := match o, x, y with
  | .add, .int i, .int j => K (.int (i + j))
  | .sub, .int i, .int j => K (.int (i - j))
  | .mul, .int i, .int j => mulOk i j ∧ K (.int (i * j))
  | .mul, .str a, .int n => (-1000 ≤ n ∧ n ≤ 1000 ∧ a.length ≤ 1000) ∧ K (.str (strRep a n))
  | .fdiv, .int i, .int j => (j ≠ 0 ∧ j.natAbs < 1073741824) ∧ K (.int (i.fdiv j))
  | .mod, .int i, .int j => j ≠ 0 ∧ K (.int (i.fmod j))
  | .pow, .int i, .int j => (0 ≤ j ∧ j ≤ 1000000 ∧ i.natAbs < 2 ^ 64) ∧ K (.int (i ^ j.toNat))
  | .fdw, .int i, .int j => (0 < j ∧ j.natAbs.log2 < 9000) ∧ K (.int (i / j))
  | .mlw, .int i, .int j => (i.natAbs.log2 + j.natAbs.log2 < 1000000) ∧ K (.int (i * j))
  | .add, .str a, .str b => a.length + b.length ≤ lineN ∧ K (.str (a ++ b))
  | .add, .seq true a, .seq true b => a.length + b.length ≤ lineN ∧ K (.seq true (a ++ b))
  | _, _, _ => False
def ltStr (a b : Str) : Bool := decide (a.cps.toList < b.cps.toList)
def wCm (o : Cm) (x y : D) (K : Bool → Prop) : Prop := match o with
  | .eq => D.eqOk x y = true ∧ K (D.eqv x y)
  | .ne => D.eqOk x y = true ∧ K (!D.eqv x y)
  | .lt => (match x, y with | .int i, .int j => K (decide (i < j)) | _, _ => False)
  | .le => (match x, y with | .int i, .int j => K (decide (i ≤ j)) | _, _ => False)
  | .gt => (match x, y with | .int i, .int j => K (decide (j < i)) | _, _ => False)
  | .ge => (match x, y with | .int i, .int j => K (decide (j ≤ i)) | _, _ => False)
  | .is_ => (match y with | .non => K (decide (x = .non)) | .bl b => (match x with | .bl a => K (decide (a = b)) | _ => False) | _ => False)
  | .isnot => (match y with | .non => K (!decide (x = .non)) | .bl b => (match x with | .bl a => K (!decide (a = b)) | _ => False) | _ => False)
def tyOf (g : G) (d : D) (t : Ty) : Option Bool := match d with
  | .non => some false
  | .bl _ => some (t == .bool || t == .int)
  | .int _ => some (t == .int)
  | .str _ => some (t == .str)
  | .seq true _ => some (t == .tuple)
  | .seq false _ => some (t == .list)
  | .ref i => (match g i with
    | some (.ct (.lst _)) => some (t == .list)
    | some (.ct (.dct _)) => none
    | some (.lkd _ _ _) => none
    | some (.ins _ _) => none
    | none => none)
  | .giv _ => some (t == .list)
def wBi (b : Bi) (xs : List D) (K : D → Prop) : Prop := match b, xs with
  | .abs, [.int i] => K (.int (if i < 0 then -i else i))
  | .min2, [.int i, .int j] => K (.int (if j < i then j else i))
  | .max2, [.int i, .int j] => K (.int (if j > i then j else i))
  | .int1, [.int i] => K (.int i)
  | .int1, [.bl b] => K (.int (if b then 1 else 0))
  | .str1, [.int i] => i.natAbs.log2 < 1920 ∧ K (.str (toString i))
  | _, _ => False
def strs? : List D → Option (List Str)
  | [] => some []
  | .str i :: r => (strs? r).map (i :: ·)
  | _ :: _ => none
def prs? : List D → Option (List (Int × Int))
  | [] => some []
  | .seq true [.int i, .int j] :: r => (prs? r).map ((i, j) :: ·)
  | _ :: _ => none
def kvs? : List D → Option (List (D × D))
  | [] => some []
  | .seq true [k, v] :: r => (kvs? r).map ((k, v) :: ·)
  | _ :: _ => none
def lexle (a b : Int × Int) : Prop := a.1 < b.1 ∨ (a.1 = b.1 ∧ a.2 ≤ b.2)
abbrev prD2 (q : Int × Int) : D := .seq true [.int q.1, .int q.2]
def itemsD : Dk → List (D × D) → List D
  | .keys, kvs => kvs.map (·.1)
  | .items, kvs => kvs.map fun q => .seq true [q.1, q.2]
  | .vals, kvs => kvs.map (·.2)
abbrev idxN (i : Int) (n : Nat) : Option Nat := L2.ixN n i
def wIdx (c : Cv) (k : D) (K : D → Prop) : Prop := match c, k with
  | .seq _ xs, .int i => (match L2.atI xs i with | some d => K d | none => False)
  | _, _ => False
def lenCv : Cv → Nat
  | .seq _ xs => xs.length
  | .str s => s.length
  | .dct k => k.length
def lenOk : Cv → Prop
  | .str s => s.length ≤ lineN
  | .dct _ => False
  | _ => True
def sliceL {α : Type} (xs : List α) (lo hi : Option Int) : List α := (xs.drop (HT.sIx xs.length 0 lo)).take (HT.sIx xs.length xs.length hi - HT.sIx xs.length 0 lo)
def ints? : List D → Option (List Int)
  | [] => some []
  | .int i :: r => (ints? r).map (i :: ·)
  | _ :: _ => none
def bools? : List D → Option (List Bool)
  | [] => some []
  | .bl i :: r => (bools? r).map (i :: ·)
  | _ :: _ => none

def xbOk : Xb → Cv → Bool
  | .index, .seq false _ => true
  | _, _ => false
def wXb : Xb → Cv → List D → (D → Prop) → Prop
  | .index, .seq false xs, [d], K => (d.flat = true ∧ xs.all D.flat = true) ∧ (match xs.findIdx? (fun y => D.eqv y d) with | some n => K (.int (n : Nat)) | none => False)
  | _, _, _, _ => False
def kD : Sum Int Str → D
  | .inl i => .int i
  | .inr x => .str x
def wXc : Xc → Cv → (Ct → Prop) → Prop
  | .srti, .seq false xs, K => (match Vb.ints? xs with | some ns => ∀ ms : List Int, ms.Perm ns → ms.Pairwise (· ≤ ·) → K (.lst (ms.map .int)) | none => False)
  | .srtp, .seq false xs, K => (match prs? xs with | some ps => ∀ qs : List (Int × Int), qs.Perm ps → qs.Pairwise lexle → K (.lst (qs.map prD2)) | none => False)
  | .srts, .seq false xs, K => (match strs? xs with | some ss => ss.length < 64 ∧ ∀ ts : List Str, ts.Perm ss → PyProof.Rows.sortedS ts = true → K (.lst (ts.map .str)) | none => False)
  | .dprs, .seq false xs, K => (match kvs? xs with | some kvs => (kvs.all fun p => p.1.keyF) = true ∧ K (.dct (kvs.foldl (fun d p => dPut d p.1 p.2) [])) | none => False)
  | _, _, _ => False

/-! ### the program's tables -/
structure Fn where
  params : Nat
  slots : Nat
  body : Ss
structure Cl where
  methods : List (Nat × Nat)
  fields : List Nat
  /-- the classes that an except clause of which takes it: itself and its bases (only exceptions) -/
  supers : List Nat
  word : Option Str
structure Pg where
  fns : List Fn
  cls : List Cl
  glb : List D
  init : Nat
def Pg.mth (p : Pg) (c m : Nat) : Option Nat := match p.cls[c]? with
  | some k => (k.methods.find? fun q => q.1 == m).map (·.2)
  | none => none
def Pg.fldOk (p : Pg) (c f : Nat) : Bool := match p.cls[c]? with
  | some k => k.fields.contains f
  | none => false
def Pg.isExc (p : Pg) (c : Nat) : Bool := match p.cls[c]? with
  | some k => !k.supers.isEmpty
  | none => false
def Pg.catches (p : Pg) (c e : Nat) : Bool := match p.cls[c]? with
  | some k => k.supers.contains e
  | none => false

/-! ### what programs do -/
abbrev Kd := D → G → Prop
abbrev Kx := Nat → G → Prop
abbrev Call := Nat → List D → G → Kd → Kx → Prop
inductive Out where | nx | brk | cnt | ret (d : D) | exc (c : Nat)
abbrev Ks := Out → Rho → G → Prop

/-- where a walked container lies -/
inductive Src where | no | obj (i : Id) | loc (j : Nat) | fld (i : Id) (f : Nat) | giv
def srcOf : D → Src
  | .ref i => .obj i
  | .giv _ => .giv
  | _ => .no
def Src.notFld : Src → Bool
  | .fld _ _ => false
  | _ => true
def Src.notGiv : Src → Bool
  | .giv => false
  | _ => true
def Src.ok (xs : List D) (r : Rho) (g : G) : Src → Prop
  | .no => True
  | .obj i => g i = some (.ct (.lst xs))
  | .loc j => r[j]? = some (some (.own (.lst xs)))
  | .fld i f => ∃ c fs, g i = some (.ins c fs) ∧ getS f fs = some (.own (.lst xs))
  | .giv => True
/-- a list that an expression has left as it is -/
def Src.kept (c : Cv) (g : G) : Src → Prop
  | .no => True
  | .obj j => (match c with | .seq false xs => g j = some (.ct (.lst xs)) | _ => False)
  | _ => False
/-- the same for any container -/
def Src.okC (c : Ct) (r : Rho) (g : G) : Src → Prop
  | .no => True
  | .obj i => g i = some (.ct c)
  | .loc j => r[j]? = some (some (.own c))
  | .fld i f => ∃ cl fs, g i = some (.ins cl fs) ∧ getS f fs = some (.own c)
  | .giv => True
def putC (s : Src) (c : Ct) (r : Rho) (g : G) (K : Rho → G → Prop) : Prop := match s with
  | .obj j => K r (up g j (.ct c))
  | .loc j => K (r.set j (some (.own c))) g
  | .fld i f => (match g i with | some (.ins cl fs) => K r (up g i (.ins cl (putS f (.own c) fs))) | _ => False)
  | .no => False
  | .giv => False
def putP (s : Src) (xs : List D) (r : Rho) (g : G) (K : Rho → G → Prop) : Prop := match s with
  | .obj j => K r (up g j (.ct (.lst xs)))
  | .loc j => K (r.set j (some (.own (.lst xs)))) g
  | .fld i f => (match g i with | some (.ins c fs) => K r (up g i (.ins c (putS f (.own (.lst xs)) fs))) | _ => False)
  | .no => False
  | .giv => False
/-- where what is walked lies: nobody changes it; an object; elsewhere -/
inductive Ws where | no | ob (i : Id) (xs : List D) | un | lk (i : Id) (kvs : List (D × D)) (o : PySem.Obj) (u : L2.HO)
def wsOf (s : Src) (xs : List D) : Ws := match s with
  | .no => .no
  | .obj i => .ob i xs
  | .giv => .no
  | _ => .un
def Ws.ok (g : G) : Ws → Prop
  | .no => True
  | .ob i xs => g i = some (.ct (.lst xs))
  | .un => True
  | .lk i kvs o u => g i = some (.lkd kvs o u)
/-- a dict's place that is not walked -/
def Src.ctB (g : G) : Src → Bool
  | .obj i => (match g i with | some (.ct _) => true | _ => false)
  | _ => true
def Ws.st : Ws → Bool
  | .un => false
  | _ => true
def bindT (t : Tg) (d : D) (r : Rho) : Option Rho := match t with
  | .slot i => some (r.set i (some (.val d)))
  | .tup is => (match d with
    | .seq true ds => if ds.length = is.length then some ((is.zip ds).foldl (fun r q => r.set q.1 (some (.val q.2))) r) else none
    | _ => none)
def wipeR (r : Rho) : List Nat → Rho
  | [] => r
  | v :: vs => (wipeR r vs).set v none
/-- a for loop over the items xs (of all, from src) -/
def wFor (src : Ws) (t : Tg) (body : Rho → G → Ks → Prop) : List D → Rho → G → Ks → Prop
  | [], r, g, K => src.ok g ∧ K .nx r g
  | x :: xs, r, g, K => src.ok g ∧ (match bindT t x r with
    | none => False
    | some r1 => body r1 g fun o r2 g2 => match o with
      | .nx => wFor src t body xs r2 g2 K
      | .cnt => wFor src t body xs r2 g2 K
      | .brk => K .nx r2 g2
      | .ret d => K (.ret d) r2 g2
      | .exc c => K (.exc c) r2 g2)
/-- a for loop that never comes to its list's end -/
def wForN (t : Tg) (body : Rho → G → Ks → Prop) : List D → Rho → G → Ks → Prop
  | [], _, _, _ => False
  | x :: xs, r, g, K => match bindT t x r with
    | none => False
    | some r1 => body r1 g fun o r2 g2 => match o with
      | .nx => wForN t body xs r2 g2 K
      | .cnt => wForN t body xs r2 g2 K
      | .brk => K .nx r2 g2
      | .ret d => K (.ret d) r2 g2
      | .exc c => K (.exc c) r2 g2
/-- a dict comprehension over the items xs: acc what it has -/
def dcV (t : Tg) (r0 : Rho) (tv : Rho → Option Bool) (kv vv : Rho → Option D) : List D → List (D × D) → Option (List (D × D))
  | [], acc => some acc
  | x :: xs, acc => match bindT t x r0 with
    | none => none
    | some r1 => (tv r1).bind fun b => if b = true then (kv r1).bind fun k => (vv r1).bind fun z => if keysOk acc k = true then dcV t r0 tv kv vv xs (dPut acc k z) else none else dcV t r0 tv kv vv xs acc
/-- a comprehension over the items xs: acc what it has -/
def wComp (ok : G → Prop) (t : Tg) (r0 : Rho) (test : Rho → G → (Bool → G → Prop) → Prop) (elt : Rho → G → Kd → Prop) : List D → List D → G → (List D → G → Prop) → Prop
  | [], acc, g, K => ok g ∧ K acc g
  | x :: xs, acc, g, K => ok g ∧ (match bindT t x r0 with
    | none => False
    | some r1 => test r1 g fun b g1 => if b = true then elt r1 g1 fun d g2 => acc.length < lineN ∧ wComp ok t r0 test elt xs (acc ++ [d]) g2 K else wComp ok t r0 test elt xs acc g1 K)
def ownOk (r : Rho) (own : List Nat) : Bool := own.all fun v => match r[v]? with
  | some (some (.own _)) => false
  | some (some (.exc _)) => false
  | _ => true
def wWhile (test : Rho → G → (Bool → G → Prop) → (Nat → G → Prop) → Prop) (body : Rho → G → Ks → Prop) : Nat → Rho → G → Ks → Prop
  | 0, _, _, _ => False
  | n + 1, r, g, K => test r g (fun b g1 => if b = true then body r g1 fun o r2 g2 => match o with
      | .nx => wWhile test body n r2 g2 K
      | .cnt => wWhile test body n r2 g2 K
      | .brk => K .nx r2 g2
      | .ret d => K (.ret d) r2 g2
      | .exc c => K (.exc c) r2 g2
    else K .nx r g1) (fun c g1 => K (.exc c) r g1)

/-! ### what an expression without calls and new containers is -/
def opV (o : Op) (x y : D) : Option D := match o, x, y with
  | .add, .int i, .int j => some (.int (i + j))
  | .sub, .int i, .int j => some (.int (i - j))
  | .mul, .int i, .int j => if (-(2 ^ 64) < i ∧ i < 2 ^ 64) ∨ (-(2 ^ 64) < j ∧ j < 2 ^ 64) then some (.int (i * j)) else none
  | .mul, .str a, .int n => if -1000 ≤ n ∧ n ≤ 1000 ∧ a.length ≤ 1000 then some (.str (strRep a n)) else none
  | .fdiv, .int i, .int j => if j ≠ 0 ∧ j.natAbs < 1073741824 then some (.int (i.fdiv j)) else none
  | .mlw, .int i, .int j => if i.natAbs.log2 + j.natAbs.log2 < 1000000 then some (.int (i * j)) else none
  | .fdw, .int i, .int j => if 0 < j ∧ j.natAbs.log2 < 9000 then some (.int (i / j)) else none
  | .mod, .int i, .int j => if j ≠ 0 then some (.int (i.fmod j)) else none
  | .pow, .int i, .int j => if 0 ≤ j ∧ j ≤ 1000000 ∧ i.natAbs < 2 ^ 64 then some (.int (i ^ j.toNat)) else none
  | .add, .str a, .str b => if a.length + b.length ≤ lineN then some (.str (a ++ b)) else none
  | .add, .seq true a, .seq true b => if a.length + b.length ≤ lineN then some (.seq true (a ++ b)) else none
  | _, _, _ => none
def cmV (o : Cm) (x y : D) : Option Bool := match o with
  | .eq => if D.eqOk x y = true then some (D.eqv x y) else none
  | .ne => if D.eqOk x y = true then some (!D.eqv x y) else none
  | .lt => (match x, y with | .int i, .int j => some (decide (i < j)) | _, _ => none)
  | .le => (match x, y with | .int i, .int j => some (decide (i ≤ j)) | _, _ => none)
  | .gt => (match x, y with | .int i, .int j => some (decide (j < i)) | _, _ => none)
  | .ge => (match x, y with | .int i, .int j => some (decide (j ≤ i)) | _, _ => none)
  | .is_ => (match y with | .non => some (decide (x = .non)) | .bl b => (match x with | .bl a => some (decide (a = b)) | _ => none) | _ => none)
  | .isnot => (match y with | .non => some (!decide (x = .non)) | .bl b => (match x with | .bl a => some (!decide (a = b)) | _ => none) | _ => none)
def biV (b : Bi) (xs : List D) : Option D := match b, xs with
  | .abs, [.int i] => some (.int (if i < 0 then -i else i))
  | .min2, [.int i, .int j] => some (.int (if j < i then j else i))
  | .max2, [.int i, .int j] => some (.int (if j > i then j else i))
  | .int1, [.int i] => some (.int i)
  | .int1, [.bl b] => some (.int (if b then 1 else 0))
  | .str1, [.int i] => if i.natAbs.log2 < 1920 then some (.str (toString i)) else none
  | _, _ => none
def idxV (c : Cv) (k : D) : Option D := match c, k with
  | .seq _ xs, .int i => L2.atI xs i
  | _, _ => none
/-- a comprehension's items, where the state stays as it is -/
def compV (t : Tg) (r0 : Rho) (test : Rho → Option Bool) (elt : Rho → Option D) : List D → Option (List D)
  | [] => some []
  | x :: xs => (match bindT t x r0 with
    | none => none
    | some r1 => (test r1).bind fun b => if b = true then (elt r1).bind fun d => (compV t r0 test elt xs).map fun ys => d :: ys else compV t r0 test elt xs)
def xbV (b : Xb) (c : Cv) (ds : List D) : Option D := match b, c, ds with
  | .index, .seq false xs, [d] => if d.flat = true ∧ xs.all D.flat = true then (xs.findIdx? fun y => D.eqv y d).map fun n => .int (n : Nat) else none
  | _, _, _ => none
section
variable (P : Pg)
mutual
def evE : E → Rho → G → Option D
  | .nev, _, _ => none
  | .con d, _, _ => some d
  | .var i, r, _ => (match r[i]? with | some (some (.val d)) => some d | _ => none)
  | .glb n, _, _ => P.glb[n]?
  | .attr o f, r, g => (evE o r g).bind fun d => (match fldOf g d f with | some (.val x) => some x | _ => none)
  | .tup es, r, g => (evEs es r g).bind fun ds => if ds.length ≤ lineN then some (.seq true ds) else none
  | .fz c, r, g => (evC c r g).map (.seq false)
  | .al _, _, _ => none
  | .bin o a b, r, g => (evE a r g).bind fun x => (evE b r g).bind fun y => opV o x y
  | .neg a, r, g => (evE a r g).bind fun x => (match x with | .int i => some (.int (-i)) | _ => none)
  | .not a, r, g => (evE a r g).bind fun x => (match x with | .bl b => some (.bl (!b)) | _ => none)
  | .bo k es, r, g => evBo k es r g
  | .ife c a b, r, g => (evE c r g).bind fun x => (match x with | .bl true => evE a r g | .bl false => evE b r g | _ => none)
  | .cmp o a b, r, g => (evE a r g).bind fun x => (evE b r g).bind fun y => (cmV o x y).map .bl
  | .chain o o' a b c, r, g => (evE a r g).bind fun x => (evE b r g).bind fun y => (cmV o x y).bind fun z => if z = true then (evE c r g).bind fun u => (cmV o' y u).map .bl else some (.bl false)
  | .isin n a p, r, g => (evE a r g).bind fun x => (evP p r g).bind fun q => (match q.2 with
      | .seq _ xs => if (x.flat = true ∧ xs.all D.flat = true) ∨ (x.pure = true ∧ D.pures xs = true ∧ x.dep ≤ 60) then some (.bl (n != xs.any fun y => D.eqv y x)) else none
      | _ => none)
  | .eqp n p q, r, g => (evP p r g).bind fun a => (evP q r g).bind fun b => (match a.2, b.2 with
      | .seq t xs, .seq u ys => if D.pures xs = true ∧ D.pures ys = true ∧ min (D.deps xs) (D.deps ys) ≤ 59 then some (.bl (n != D.eqv (.seq t xs) (.seq u ys))) else none
      | _, _ => none)
  | .truth p, r, g => (evP p r g).bind fun q => (match q.2 with | .seq _ xs => some (.bl (!xs.isEmpty)) | _ => none)
  | .call _ _, _, _ => none
  | .new _ _, _, _ => none
  | .callk _ _ _, _, _ => none
  | .newk _ _ _ _, _, _ => none
  | .meth _ _ _, _, _ => none
  | .bi b es, r, g => (evEs es r g).bind fun ds => biV b ds
  | .isi a t, r, g => (evE a r g).bind fun x => (tyOf g x t).map .bl
  | .excis i c, r, _ => (match r[i]? with | some (some (.exc e)) => some (.bl (P.catches e c)) | _ => none)
  | .excword _, _, _ => none
  | .len p, r, g => (evP p r g).bind fun q => (match q.2 with
      | .seq _ xs => some (.int xs.length)
      | .str s => if s.length ≤ lineN then some (.int s.length) else none
      | .dct _ => none)
  | .idx p k, r, g => (evP p r g).bind fun q => (evE k r g).bind fun d => idxV q.2 d
  | .slcf _ _ _, _, _ => none
  | .slc p lo hi, r, g => (evP p r g).bind fun q => (evO lo r g).bind fun a => (evO hi r g).bind fun b => (match q.2 with
      | .seq t xs => some (.seq t (sliceL xs a b))
      | _ => none)
  | .totup p, r, g => (evP p r g).bind fun q => (match q.2 with | .seq _ xs => some (.seq true xs) | _ => none)
  | .sum p, r, g => (evP p r g).bind fun q => (match q.2 with | .seq false xs => (ints? xs).map fun ns => .int ns.sum | _ => none)
  | .allof p, r, g => (evP p r g).bind fun q => (match q.2 with | .seq false xs => (bools? xs).map fun bs => .bl (bs.all id) | _ => none)
  | .anyof p, r, g => (evP p r g).bind fun q => (match q.2 with | .seq false xs => (bools? xs).map fun bs => .bl (bs.any id) | _ => none)
  | .popat _ _, _, _ => none
  | .idxf _ _, _, _ => none
  | .pop0 _, _, _ => none
  | .dget p k, r, g => (evP p r g).bind fun q => (evE k r g).bind fun d => (match q.2 with | .dct kvs => if keysOk kvs d = true then dGet kvs d else none | _ => none)
  | .din n a p, r, g => (evE a r g).bind fun x => (evP p r g).bind fun q => (match q.2 with | .dct kvs => if keysOk kvs x = true then some (.bl (n != (dGet kvs x).isSome)) else none | _ => none)
  | .dgt1 p k, r, g => (evP p r g).bind fun q => (evE k r g).bind fun d => (match q.2 with | .dct kvs => if keysOk kvs d = true then some ((dGet kvs d).getD .non) else none | _ => none)
  | .dgt2 p k x, r, g => (evP p r g).bind fun q => (evE k r g).bind fun d => (evE x r g).bind fun z => (match q.2 with | .dct kvs => if keysOk kvs d = true then some ((dGet kvs d).getD z) else none | _ => none)
  | .dlen p, r, g => (evP p r g).bind fun q => (match q.2 with | .dct kvs => some (.int kvs.length) | _ => none)
  | .xb b p es, r, g => (evP p r g).bind fun q => (evEs es r g).bind fun ds => if xbOk b q.2 = true then xbV b q.2 ds else none
def evO : Oe → Rho → G → Option (Option Int)
  | .no, _, _ => some none
  | .so e, r, g => (evE e r g).bind fun d => (match d with | .int i => some (some i) | _ => none)
def evEs : Es → Rho → G → Option (List D)
  | .nil, _, _ => some []
  | .cons e es, r, g => (evE e r g).bind fun d => (evEs es r g).map fun ds => d :: ds
def evBo (k : Bool) : Es → Rho → G → Option D
  | .nil, _, _ => none
  | .cons e es, r, g => (match es with
    | .nil => evE e r g
    | .cons _ _ => (evE e r g).bind fun d => (match d with
      | .bl b => if b = k then evBo k es r g else some (.bl b)
      | _ => none))
def evP : Pl → Rho → G → Option (Src × Cv)
  | .v e, r, g => (evE e r g).bind fun d => (cvOf g d).map fun c => (srcOf d, c)
  | .loc j, r, _ => (match r[j]? with | some (some (.own c)) => some (.loc j, c.cv) | _ => none)
  | .fld o f, r, g => (evE o r g).bind fun d => (match d with
      | .ref i => (match fldOf g d f with | some (.own c) => some (.fld i f, c.cv) | _ => none)
      | _ => none)
def evC : Cr → Rho → G → Option (List D)
  | .lst es, r, g => (evEs es r g).bind fun ds => if ds.length ≤ lineN then some ds else none
  | .slice p lo hi, r, g => (evP p r g).bind fun q => (evO lo r g).bind fun a => (evO hi r g).bind fun b => (match q.2 with
      | .seq false xs => some (sliceL xs a b)
      | _ => none)
  | .tolist p, r, g => (evP p r g).bind fun q => (match q.2 with | .seq _ xs => some xs | _ => none)
  | .catc _ _, _, _ => none
  | .cat p q, r, g => (evP p r g).bind fun a => (evP q r g).bind fun b => (match a.2, b.2 with
      | .seq false xs, .seq false ys => if (a.1.notGiv = true ∧ b.1.notGiv = true) ∧ xs.length + ys.length ≤ lineN then some (xs ++ ys) else none
      | _, _ => none)
  | .comp own t it c e, r, g => if ownOk r own = true ∧ (simO c && simE e) = true then (evI it r g).bind fun q => if q.2.length ≤ lineN then compV t (wipeR r own) (fun r1 => evT c r1 g) (fun r1 => evE e r1 g) q.2 else none else none
  | .dnew, _, _ => none
  | .dlit _ _, _, _ => none
  | .dsrt _, _, _ => none
  | .dcopy _, _, _ => none
  | .dvals p, r, g => (evP p r g).bind fun q => (match q.2 with | .dct kvs => if (kvs.all fun p => p.1.keyF) = true then some (kvs.map (·.2)) else none | _ => none)
  | .xc _ _, _, _ => none
  | .compd own t k p c e, r, g => if ownOk r own = true then (evP p r g).bind fun q => (match q.2 with
      | .dct kvs => if kvs.length ≤ lineN ∧ q.1.ctB g = true then compV t (wipeR r own) (fun r1 => evT c r1 g) (fun r1 => evE e r1 g) (itemsD k kvs) else none
      | _ => none) else none
  | .dcl _ _ _ _ _ _, _, _ => none
  | .dcd _ _ _ _ _ _ _, _, _ => none
def evT : Oe → Rho → G → Option Bool
  | .no, _, _ => some true
  | .so e, r, g => (evE e r g).bind fun d => (match d with | .bl b => some b | _ => none)
def evI : It → Rho → G → Option (Ws × List D)
  | .pl p, r, g => (evP p r g).bind fun q => (match q.2 with
      | .seq _ xs => some (wsOf q.1 xs, xs)
      | _ => none)
  | .rng1 e, r, g => (evE e r g).bind fun d => (match d with
      | .int j => if -(2 ^ 62) ≤ j ∧ j < 2 ^ 62 then some (.no, (List.range j.toNat).map fun (n : Nat) => D.int (n : Int)) else none
      | _ => none)
  | .rng2 a b, r, g => (evE a r g).bind fun x => (evE b r g).bind fun y => (match x, y with
      | .int i, .int j => if -(2 ^ 62) ≤ i ∧ i < 2 ^ 62 ∧ -(2 ^ 62) ≤ j ∧ j < 2 ^ 62 then some (.no, (List.range (j - i).toNat).map fun (n : Nat) => D.int (i + (n : Int))) else none
      | _, _ => none)
  | .enum p, r, g => (evP p r g).bind fun q => (match q.2 with
      | .seq false xs => some (wsOf q.1 xs, xs.zipIdx.map fun q => .seq true [.int q.2, q.1])
      | _ => none)
end
end
section
variable (P : Pg) (C : Call)
mutual
def wE : E → Rho → G → Kd → Kx → Prop
  | .nev, _, _, _, _ => False
  | .con d, _, g, K, _ => K d g
  | .var i, r, g, K, _ => (match r[i]? with | some (some (.val d)) => K d g | _ => False)
  | .glb n, _, g, K, _ => (match P.glb[n]? with | some d => K d g | none => False)
  | .attr o f, r, g, K, X => wE o r g (fun d g1 => match fldOf g1 d f with | some (.val x) => K x g1 | _ => False) X
  | .tup es, r, g, K, X => wEs es r g (fun ds g1 => ds.length ≤ lineN ∧ K (.seq true ds) g1) X
  | .fz c, r, g, K, X => wC c r g (fun ct g1 => match ct with | .lst xs => K (.seq false xs) g1 | _ => False) X
  | .al c, r, g, K, X => wC c r g (fun ct g1 => ∃ i, g1 i = none ∧ K (.ref i) (up g1 i (.ct ct))) X
  | .bin o a b, r, g, K, X => wE a r g (fun x g1 => wE b r g1 (fun y g2 => wOp o x y fun z => K z g2) X) X
  | .neg a, r, g, K, X => wE a r g (fun x g1 => match x with | .int i => K (.int (-i)) g1 | _ => False) X
  | .not a, r, g, K, X => wE a r g (fun x g1 => match x with | .bl b => K (.bl (!b)) g1 | _ => False) X
  | .bo k es, r, g, K, X => wBo k es r g K X
  | .ife c a b, r, g, K, X => wE c r g (fun x g1 => match x with | .bl true => wE a r g1 K X | .bl false => wE b r g1 K X | _ => False) X
  | .cmp o a b, r, g, K, X => wE a r g (fun x g1 => wE b r g1 (fun y g2 => wCm o x y fun z => K (.bl z) g2) X) X
  | .chain o o' a b c, r, g, K, X => wE a r g (fun x g1 => wE b r g1 (fun y g2 => wCm o x y fun z => if z = true then wE c r g2 (fun u g3 => wCm o' y u fun z' => K (.bl z') g3) X else K (.bl false) g2) X) X
  | .isin n a p, r, g, K, X => wE a r g (fun x g1 => wP p r g1 (fun _ c g2 => match c with
      | .seq t xs => ((x.flat = true ∧ xs.all D.flat = true) ∨ (x.pure = true ∧ D.pures xs = true ∧ x.dep ≤ 60)) ∧ K (.bl (n != xs.any fun y => D.eqv y x)) g2
      | _ => False) X) X
  | .eqp n p q, r, g, K, X => wP p r g (fun _ c g1 => wP q r g1 (fun _ c' g2 => match c, c' with
      | .seq t xs, .seq u ys => (D.pures xs = true ∧ D.pures ys = true ∧ min (D.deps xs) (D.deps ys) ≤ 59) ∧ K (.bl (n != D.eqv (.seq t xs) (.seq u ys))) g2
      | _, _ => False) X) X
  | .truth p, r, g, K, X => wP p r g (fun _ c g1 => match c with
      | .seq _ xs => K (.bl (!xs.isEmpty)) g1
      | _ => False) X
  | .call f es, r, g, K, X => wEs es r g (fun ds g1 => C f ds g1 K X) X
  | .new c es, r, g, K, X => wEs es r g (fun ds g1 => ∃ i, g1 i = none ∧ (match P.mth c P.init with
      | some f => C f (.ref i :: ds) (up g1 i (.ins c [])) (fun d g2 => d = .non ∧ K (.ref i) g2) X
      | none => False)) X
  | .callk f xs es, r, g, K, X => wEs es r g (fun ds g1 => C f (ds ++ xs) g1 K X) X
  | .newk c _ xs es, r, g, K, X => wEs es r g (fun ds g1 => ∃ i, g1 i = none ∧ (match P.mth c P.init with
      | some f => C f (.ref i :: (ds ++ xs)) (up g1 i (.ins c [])) (fun d g2 => d = .non ∧ K (.ref i) g2) X
      | none => False)) X
  | .meth m o es, r, g, K, X => wE o r g (fun d g1 => match d with
      | .ref i => (match g1 i with
        | some (.ins c fs) => (match P.mth c m with
          | some f => getS m fs = none ∧ wEs es r g1 (fun ds g2 => C f (d :: ds) g2 K X) X
          | none => False)
        | _ => False)
      | _ => False) X
  | .bi b es, r, g, K, X => wEs es r g (fun ds g1 => wBi b ds fun z => K z g1) X
  | .isi a t, r, g, K, X => wE a r g (fun x g1 => match tyOf g1 x t with | some b => K (.bl b) g1 | none => False) X
  | .excis i c, r, g, K, _ => (match r[i]? with | some (some (.exc e)) => K (.bl (P.catches e c)) g | _ => False)
  | .excword i, r, g, K, _ => (match r[i]? with
      | some (some (.exc e)) => (match P.cls[e]? with | some k => (match k.word with | some x => K (.str x) g | none => False) | none => False)
      | _ => False)
  | .len p, r, g, K, X => wP p r g (fun _ c g1 => lenOk c ∧ K (.int (lenCv c)) g1) X
  | .idx p k, r, g, K, X => wP p r g (fun _ c g1 => wE k r g1 (fun d g2 => wIdx c d fun z => K z g2) X) X
  | .idxf p k, r, g, K, X => wP p r g (fun s c g1 => wE k r g1 (fun d g2 => s.kept c g2 ∧ wIdx c d fun z => K z g2) X) X
  | .slcf p lo hi, r, g, K, X => wP p r g (fun s c g1 => wO lo r g1 (fun a g2 => wO hi r g2 (fun b g3 => s = .no ∧ (match c with
      | .seq false xs => K (.seq false (sliceL xs a b)) g3
      | _ => False)) X) X) X
  | .slc p lo hi, r, g, K, X => wP p r g (fun _ c g1 => wO lo r g1 (fun a g2 => wO hi r g2 (fun b g3 => match c with
      | .seq t xs => K (.seq t (sliceL xs a b)) g3
      | _ => False) X) X) X
  | .totup p, r, g, K, X => wP p r g (fun _ c g1 => match c with
      | .seq _ xs => K (.seq true xs) g1
      | _ => False) X
  | .sum p, r, g, K, X => wP p r g (fun _ c g1 => match c with
      | .seq false xs => (match ints? xs with | some ns => K (.int ns.sum) g1 | none => False)
      | _ => False) X
  | .allof p, r, g, K, X => wP p r g (fun _ c g1 => match c with
      | .seq false xs => (match bools? xs with | some bs => K (.bl (bs.all id)) g1 | none => False)
      | _ => False) X
  | .anyof p, r, g, K, X => wP p r g (fun _ c g1 => match c with
      | .seq false xs => (match bools? xs with | some bs => K (.bl (bs.any id)) g1 | none => False)
      | _ => False) X
  | .popat p k, r, g, K, X => wP p r g (fun s c g1 => match c, s with
      | .seq false xs, .obj j => wE k r g1 (fun d g2 => match d with
        | .int i => (match idxN i xs.length with
          | some n => (match xs[n]? with | some z => (xs.length ≤ lineN ∧ g2 j = some (.ct (.lst xs))) ∧ K z (up g2 j (.ct (.lst (xs.eraseIdx n)))) | none => False)
          | none => False)
        | _ => False) X
      | _, _ => False) X
  | .pop0 p, r, g, K, X => wP p r g (fun s c g1 => match c, s with
      | .seq false xs, .obj j => g1 j = some (.ct (.lst xs)) ∧ (match xs[xs.length - 1]? with | some z => K z (up g1 j (.ct (.lst xs.dropLast))) | none => False)
      | _, _ => False) X
  | .dget p k, r, g, K, X => wP p r g (fun _ c g1 => wE k r g1 (fun d g2 => match c with
      | .dct kvs => keysOk kvs d = true ∧ (match dGet kvs d with | some z => K z g2 | none => False)
      | _ => False) X) X
  | .din n a p, r, g, K, X => wE a r g (fun x g1 => wP p r g1 (fun _ c g2 => match c with
      | .dct kvs => keysOk kvs x = true ∧ K (.bl (n != (dGet kvs x).isSome)) g2
      | _ => False) X) X
  | .dgt1 p k, r, g, K, X => wP p r g (fun _ c g1 => match c with
      | .dct kvs => wE k r g1 (fun d g2 => keysOk kvs d = true ∧ K ((dGet kvs d).getD .non) g2) X
      | _ => False) X
  | .dgt2 p k x, r, g, K, X => wP p r g (fun _ c g1 => match c with
      | .dct kvs => wE k r g1 (fun d g2 => wE x r g2 (fun z g3 => keysOk kvs d = true ∧ K ((dGet kvs d).getD z) g3) X) X
      | _ => False) X
  | .dlen p, r, g, K, X => wP p r g (fun _ c g1 => match c with
      | .dct kvs => K (.int kvs.length) g1
      | _ => False) X
  | .xb b p es, r, g, K, X => wP p r g (fun _ c g1 => xbOk b c = true ∧ wEs es r g1 (fun ds g2 => wXb b c ds fun z => K z g2) X) X
def wO : Oe → Rho → G → (Option Int → G → Prop) → Kx → Prop
  | .no, _, g, K, _ => K none g
  | .so e, r, g, K, X => wE e r g (fun d g1 => match d with | .int i => K (some i) g1 | _ => False) X
def wEs : Es → Rho → G → (List D → G → Prop) → Kx → Prop
  | .nil, _, g, K, _ => K [] g
  | .cons e es, r, g, K, X => wE e r g (fun d g1 => wEs es r g1 (fun ds g2 => K (d :: ds) g2) X) X
def wBo (k : Bool) : Es → Rho → G → Kd → Kx → Prop
  | .nil, _, _, _, _ => False
  | .cons e es, r, g, K, X => (match es with
    | .nil => wE e r g K X
    | .cons _ _ => wE e r g (fun d g1 => match d with
      | .bl b => if b = k then wBo k es r g1 K X else K (.bl b) g1
      | _ => False) X)
def wP : Pl → Rho → G → (Src → Cv → G → Prop) → Kx → Prop
  | .v e, r, g, K, X => wE e r g (fun d g1 => match cvOf g1 d with
      | some c => K (srcOf d) c g1
      | none => False) X
  | .loc j, r, g, K, _ => (match r[j]? with | some (some (.own c)) => K (.loc j) c.cv g | _ => False)
  | .fld o f, r, g, K, X => wE o r g (fun d g1 => match d with
      | .ref i => (match fldOf g1 d f with
        | some (.own c) => K (.fld i f) c.cv g1
        | _ => False)
      | _ => False) X
def wC : Cr → Rho → G → (Ct → G → Prop) → Kx → Prop
  | .lst es, r, g, K, X => wEs es r g (fun ds g1 => ds.length ≤ lineN ∧ K (.lst ds) g1) X
  | .slice p lo hi, r, g, K, X => wP p r g (fun _ c g1 => wO lo r g1 (fun a g2 => wO hi r g2 (fun b g3 => match c with
      | .seq false xs => K (.lst (sliceL xs a b)) g3
      | _ => False) X) X) X
  | .tolist p, r, g, K, X => wP p r g (fun _ c g1 => match c with
      | .seq _ xs => K (.lst xs) g1
      | _ => False) X
  | .catc p q, r, g, K, X => wP p r g (fun s c g1 => wP q r g1 (fun s' c' g2 => match s, c, c' with
      | .obj j, .seq false xs, .seq false ys => (g2 j = some (.ct (.lst xs)) ∧ s'.notGiv = true) ∧ xs.length + ys.length ≤ lineN ∧ K (.lst (xs ++ ys)) g2
      | _, _, _ => False) X) X
  | .cat p q, r, g, K, X => wP p r g (fun s c g1 => wP q r g1 (fun s' c' g2 => match c, c' with
      | .seq false xs, .seq false ys => (s.notGiv = true ∧ s'.notGiv = true) ∧ xs.length + ys.length ≤ lineN ∧ K (.lst (xs ++ ys)) g2
      | _, _ => False) X) X
  | .comp own t it c e, r, g, K, X => ownOk r own = true ∧ wI it r g (fun src xs g1 => ((simO c && simE e) || src.st) = true ∧
      wComp (fun g => if (simO c && simE e) = true then True else src.ok g) t (wipeR r own) (fun r1 g2 K2 => wT c r1 g2 K2) (fun r1 g2 K2 => wE e r1 g2 K2 fun _ _ => False) xs [] g1 fun acc g2 => K (.lst acc) g2) X
  | .dnew, _, g, K, _ => K (.dct []) g
  | .dlit ks es, r, g, K, X => wEs es r g (fun ds g1 => ds.length = ks.length ∧ K (.dct ((ks.map kD).zip ds)) g1) X
  | .dsrt p, r, g, K, X => wP p r g (fun _ c g1 => match c with
      | .dct kvs => ∃ ss : List Str, kvs.map (·.1) = ss.map D.str ∧ ss.length < 64 ∧ ∀ ts : List Str, ts.Perm ss → PyProof.Rows.sortedS ts = true → K (.lst (ts.map .str)) g1
      | _ => False) X
  | .dcopy p, r, g, K, X => wP p r g (fun _ c g1 => match c with
      | .dct kvs => (kvs.all fun p => p.1.keyF) = true ∧ K (.dct kvs) g1
      | _ => False) X
  | .dvals p, r, g, K, X => wP p r g (fun _ c g1 => match c with
      | .dct kvs => (kvs.all fun p => p.1.keyF) = true ∧ K (.lst (kvs.map (·.2))) g1
      | _ => False) X
  | .xc b p, r, g, K, X => wP p r g (fun _ c g1 => wXc b c fun ct => K ct g1) X
  | .compd own t k p c e, r, g, K, _ => ∃ src kvs ys, (ownOk r own = true ∧ kvs.length ≤ lineN ∧ src.ctB g = true) ∧ evP P p r g = some (src, .dct kvs) ∧ compV t (wipeR r own) (fun r1 => evT P c r1 g) (fun r1 => evE P e r1 g) (itemsD k kvs) = some ys ∧ K (.lst ys) g
  | .dcl own t it c k v, r, g, K, X => wI it r g (fun _ xs g1 => (ownOk r own = true ∧ xs.length ≤ lineN) ∧ ∃ ys, dcV t (wipeR r own) (fun r1 => evT P c r1 g1) (fun r1 => evE P k r1 g1) (fun r1 => evE P v r1 g1) xs [] = some ys ∧ K (.dct ys) g1) X
  | .dcd own t w p c k v, r, g, K, _ => ∃ src kvs ys, (ownOk r own = true ∧ kvs.length ≤ lineN ∧ src.ctB g = true) ∧ evP P p r g = some (src, .dct kvs) ∧ dcV t (wipeR r own) (fun r1 => evT P c r1 g) (fun r1 => evE P k r1 g) (fun r1 => evE P v r1 g) (itemsD w kvs) [] = some ys ∧ K (.dct ys) g
def wT : Oe → Rho → G → (Bool → G → Prop) → Prop
  | .no, _, g, K => K true g
  | .so e, r, g, K => wE e r g (fun d g1 => match d with | .bl b => K b g1 | _ => False) fun _ _ => False
def wI : It → Rho → G → (Ws → List D → G → Prop) → Kx → Prop
  | .pl p, r, g, K, X => wP p r g (fun s c g1 => match c with
      | .seq _ xs => K (wsOf s xs) xs g1
      | _ => False) X
  | .rng1 e, r, g, K, X => wE e r g (fun d g1 => match d with
      | .int j => (-(2 ^ 62) ≤ j ∧ j < 2 ^ 62) ∧ K .no ((List.range j.toNat).map fun (n : Nat) => D.int (n : Int)) g1
      | _ => False) X
  | .rng2 a b, r, g, K, X => wE a r g (fun x g1 => wE b r g1 (fun y g2 => match x, y with
      | .int i, .int j => (-(2 ^ 62) ≤ i ∧ i < 2 ^ 62 ∧ -(2 ^ 62) ≤ j ∧ j < 2 ^ 62) ∧ K .no ((List.range (j - i).toNat).map fun (n : Nat) => D.int (i + (n : Int))) g2
      | _, _ => False) X) X
  | .enum p, r, g, K, X => wP p r g (fun s c g1 => match c with
      | .seq false xs => K (wsOf s xs) (xs.zipIdx.map fun q => .seq true [.int q.2, q.1]) g1
      | _ => False) X
end
/-- an expression as a test -/
def wB (e : E) (r : Rho) (g : G) (K : Bool → G → Prop) (X : Kx) : Prop := wE P C e r g (fun d g1 => match d with | .bl b => K b g1 | _ => False) X
mutual
def wS : S → Rho → G → Ks → Prop
  | .nev, _, _, _ => False
  | .expr e, r, g, K => wE P C e r g (fun _ g1 => K .nx r g1) fun c g1 => K (.exc c) r g1
  | .set i e, r, g, K => wE P C e r g (fun d g1 => K .nx (r.set i (some (.val d))) g1) fun c g1 => K (.exc c) r g1
  | .setown i c, r, g, K => wC P C c r g (fun ct g1 => K .nx (r.set i (some (.own ct))) g1) fun c g1 => K (.exc c) r g1
  | .settup is e, r, g, K => wE P C e r g (fun d g1 => match bindT (.tup is) d r with | some r1 => K .nx r1 g1 | none => False) fun c g1 => K (.exc c) r g1
  | .setlst is p, r, g, K => wP P C p r g (fun _ c g1 => match c with | .seq false xs => (match bindT (.tup is) (.seq true xs) r with | some r1 => K .nx r1 g1 | none => False) | _ => False) fun c g1 => K (.exc c) r g1
  | .setf o f e, r, g, K => wE P C e r g (fun d g1 => wE P C o r g1 (fun x g2 => match x with
      | .ref i => (match g2 i with
        | some (.ins c fs) => P.fldOk c f = true ∧ fs.length < 1000 ∧ K .nx r (up g2 i (.ins c (putS f (.val d) fs)))
        | _ => False)
      | _ => False) fun c g1 => K (.exc c) r g1) fun c g1 => K (.exc c) r g1
  | .setfown o f c, r, g, K => wC P C c r g (fun ct g1 => wE P C o r g1 (fun x g2 => match x with
      | .ref i => (match g2 i with
        | some (.ins c fs) => P.fldOk c f = true ∧ fs.length < 1000 ∧ K .nx r (up g2 i (.ins c (putS f (.own ct) fs)))
        | _ => False)
      | _ => False) fun c g1 => K (.exc c) r g1) fun c g1 => K (.exc c) r g1
  | .seti p k e, r, g, K => wE P C e r g (fun d g1 => wP P C p r g1 (fun s c g2 => wE P C k r g2 (fun kd g3 => match c, kd with
      | .seq false xs, .int i => (match idxN i xs.length with
        | some n => s.ok xs r g3 ∧ putP s (xs.set n d) r g3 fun r1 g4 => K .nx r1 g4
        | none => False)
      | _, _ => False) fun c g1 => K (.exc c) r g1) fun c g1 => K (.exc c) r g1) fun c g1 => K (.exc c) r g1
  | .app p e, r, g, K => wP P C p r g (fun s c g1 => match c with
      | .seq false xs => wE P C e r g1 (fun d g2 => (simE e || s.notFld) = true ∧ xs.length < lineN ∧ s.ok xs r g2 ∧ putP s (xs ++ [d]) r g2 fun r1 g3 => K .nx r1 g3) fun c g1 => K (.exc c) r g1
      | _ => False) fun c g1 => K (.exc c) r g1
  | .setpop x p k, r, g, K => False
  | .ifs c a b, r, g, K => wB P C c r g (fun z g1 => if z = true then wSs a r g1 K else wSs b r g1 K) fun c g1 => K (.exc c) r g1
  | .whil c b, r, g, K => ∃ n, wWhile (fun r g K X => wB P C c r g K X) (fun r g K => wSs b r g K) n r g K
  | .for_ t it b, r, g, K => wI P C it r g (fun src xs g1 => src.st = true ∧ wFor src t (fun r g K => wSs b r g K) xs r g1 K) fun c g1 => K (.exc c) r g1
  | .ford t w p b, r, g, K => ∃ j kvs, evP P p r g = some (.obj j, .dct kvs) ∧ g j = some (.ct (.dct kvs)) ∧ ∀ o u, evP P p r (up g j (.lkd kvs o u)) = some (.obj j, .dct kvs) ∧
      wFor (.lk j kvs o u) t (fun r g K => wSs b r g K) (itemsD w kvs) r (up g j (.lkd kvs o u)) fun o' r2 g2 => match o' with
        | .exc _ => False
        | o' => g2 j = some (.lkd kvs o u) ∧ K o' r2 (up g2 j (.ct (.dct kvs)))
  | .forh t p b, r, g, K => wP P C p r g (fun s c g1 => match c with
      | .seq false xs => s = .no ∧ wForN t (fun r g K => wSs b r g K) xs r g1 K
      | _ => False) fun c g1 => K (.exc c) r g1
  | .ret e, r, g, K => wE P C e r g (fun d g1 => K (.ret d) r g1) fun c g1 => K (.exc c) r g1
  | .retn, r, g, K => K (.ret .non) r g
  | .raise c, r, g, K => K (.exc c) r g
  | .try_ b c x h, r, g, K => wSs b r g fun o r1 g1 => match o with
      | .exc e => P.isExc e = true ∧ if P.catches e c = true then wSs h (inX x e r1) g1 fun o r2 g2 => (match o with
        | .exc _ => False
        | o => noX (outX x r2) = true ∧ K o (outX x r2) g2) else K (.exc e) r1 g1
      | o => K o r1 g1
  | .pass, r, g, K => K .nx r g
  | .cont, r, g, K => K .cnt r g
  | .brk, r, g, K => K .brk r g
  | .frz i, r, g, K => (match r[i]? with | some (some (.own (.lst xs))) => K .nx (r.set i (some (.val (.seq false xs)))) g | _ => False)
  | .dput p k e, r, g, K => wE P C e r g (fun d g1 => wP P C p r g1 (fun s c g2 => wE P C k r g2 (fun kd g3 => match c with
      | .dct kvs => keysOk kvs kd = true ∧ kvs.length < lineN ∧ s.okC (.dct kvs) r g3 ∧ putC s (.dct (dPut kvs kd d)) r g3 fun r1 g4 => K .nx r1 g4
      | _ => False) fun c g1 => K (.exc c) r g1) fun c g1 => K (.exc c) r g1) fun c g1 => K (.exc c) r g1
  | .ddel p k, r, g, K => wP P C p r g (fun s c g1 => wE P C k r g1 (fun kd g2 => match c with
      | .dct kvs => keysOk kvs kd = true ∧ (dGet kvs kd).isSome = true ∧ s.okC (.dct kvs) r g2 ∧ putC s (.dct (dDel kvs kd)) r g2 fun r1 g3 => K .nx r1 g3
      | _ => False) fun c g1 => K (.exc c) r g1) fun c g1 => K (.exc c) r g1
def wSs : Ss → Rho → G → Ks → Prop
  | .nil, r, g, K => K .nx r g
  | .cons s ss, r, g, K => wS s r g fun o r1 g1 => match o with
      | .nx => wSs ss r1 g1 K
      | o => K o r1 g1
end
end
/-- a def's call, so many calls deep -/
def wCall (P : Pg) : Nat → Call
  | 0 => fun _ _ _ _ _ => False
  | n + 1 => fun f ds g K X => match P.fns[f]? with
    | some fn => ds.length = fn.params ∧ wSs P (wCall P n) fn.body (ds.map (fun d => some (.val d)) ++ List.replicate (fn.slots - ds.length) none) g fun o _ g1 => match o with
      | .nx => K .non g1
      | .ret d => K d g1
      | .exc c => X c g1
      | _ => False
    | none => False
end Vb

set_option maxHeartbeats 4000000
/-! The plain layer: the evaluator tells what the meaning asks. -/
namespace Vb
open PySem
theorem opV_ok {o : Op} {x y z : D} {K : D → Prop} (h : opV o x y = some z) (k : K z) : wOp o x y K := by
  unfold opV at h
  split at h <;> first
    | (cases h; exact k)
    | (split at h <;> first | (cases h; rename_i c; exact ⟨c, k⟩) | cases h)
    | cases h
theorem cmV_ok {o : Cm} {x y : D} {b : Bool} {K : Bool → Prop} (h : cmV o x y = some b) (k : K b) : wCm o x y K := by
  cases o with
  | eq =>
    have h : (if D.eqOk x y = true then some (D.eqv x y) else none) = some b := h
    split at h
    · cases h
      rename_i c
      exact ⟨c, k⟩
    · cases h
  | ne =>
    have h : (if D.eqOk x y = true then some (!D.eqv x y) else none) = some b := h
    split at h
    · cases h
      rename_i c
      exact ⟨c, k⟩
    · cases h
  | lt => cases x <;> cases y <;> first | (cases h; exact k) | cases h
  | le => cases x <;> cases y <;> first | (cases h; exact k) | cases h
  | gt => cases x <;> cases y <;> first | (cases h; exact k) | cases h
  | ge => cases x <;> cases y <;> first | (cases h; exact k) | cases h
  | is_ =>
    cases y with
    | non => cases h; exact k
    | bl b => cases x <;> first | (cases h; exact k) | cases h
    | _ => cases h
  | isnot =>
    cases y with
    | non => cases h; exact k
    | bl b => cases x <;> first | (cases h; exact k) | cases h
    | _ => cases h
theorem biV_ok {b : Bi} {xs : List D} {z : D} {K : D → Prop} (h : biV b xs = some z) (k : K z) : wBi b xs K := by
  unfold biV at h
  split at h <;> first
    | (cases h; exact k)
    | (split at h <;> first | (cases h; rename_i c; exact ⟨c, k⟩) | cases h)
    | cases h
theorem idxV_ok {c : Cv} {k z : D} {K : D → Prop} (h : idxV c k = some z) (q : K z) : wIdx c k K := by
  unfold idxV at h
  split at h
  · unfold wIdx
    dsimp only
    rw [h]
    exact q
  · cases h
theorem xbV_ok {b : Xb} {c : Cv} {ds : List D} {z : D} {K : D → Prop} (h : xbV b c ds = some z) (k : K z) : wXb b c ds K := by
  unfold xbV at h
  split at h
  · split at h
    · rename_i q
      obtain ⟨n, e, rfl⟩ := Option.map_eq_some_iff.mp h
      refine ⟨q, ?_⟩
      rw [e]
      exact k
    · cases h
  · cases h
section
variable {P : Pg} {C : Call}
theorem compV_ok {ok : G → Prop} {t : Tg} {r0 : Rho} {test : Rho → G → (Bool → G → Prop) → Prop} {elt : Rho → G → Kd → Prop} {tv : Rho → Option Bool} {ev : Rho → Option D} {g : G} {K : List D → G → Prop} (hok : ok g)
    (h1 : ∀ (r : Rho) (b : Bool) (K : Bool → G → Prop), tv r = some b → K b g → test r g K) (h2 : ∀ (r : Rho) (d : D) (K : Kd), ev r = some d → K d g → elt r g K) :
    ∀ (xs acc ys : List D), compV t r0 tv ev xs = some ys → acc.length + xs.length ≤ lineN → K (acc ++ ys) g → wComp ok t r0 test elt xs acc g K
  | [], acc, ys, h, _, k => by
    cases h
    exact ⟨hok, by simpa using k⟩
  | x :: xs, acc, ys, h, hl, k => by
    refine ⟨hok, ?_⟩
    unfold compV at h
    cases e : bindT t x r0 with
    | none =>
      rw [e] at h
      cases h
    | some r1 =>
      rw [e] at h
      obtain ⟨b, b1, h⟩ := Option.bind_eq_some_iff.mp h
      refine h1 r1 b _ b1 ?_
      simp at hl
      by_cases q : b = true
      · rw [if_pos q] at h ⊢
        obtain ⟨d, d1, h⟩ := Option.bind_eq_some_iff.mp h
        obtain ⟨zs, z1, rfl⟩ := Option.map_eq_some_iff.mp h
        exact h2 r1 d _ d1 ⟨by omega, compV_ok hok h1 h2 xs (acc ++ [d]) zs z1 (by simp; omega) (by simpa using k)⟩
      · rw [if_neg q] at h ⊢
        exact compV_ok hok h1 h2 xs acc ys h (by omega) k
/-- such a comprehension, item by item -/
theorem compV_map {t : Tg} {r0 : Rho} {tv : Rho → Option Bool} {ev : Rho → Option D} {α : Type} (c : α → D) (p : α → Bool) (f : α → D) : ∀ (xs : List α), (∀ x ∈ xs, ∃ r1, bindT t (c x) r0 = some r1 ∧ tv r1 = some (p x) ∧ (p x = true → ev r1 = some (f x))) → compV t r0 tv ev (xs.map c) = some ((xs.filter p).map f)
  | [], _ => rfl
  | x :: xs, h => by
    obtain ⟨r1, h1, h2, h3⟩ := h x List.mem_cons_self
    have ih := compV_map c p f xs fun y hy => h y (List.mem_cons_of_mem _ hy)
    show (match bindT t (c x) r0 with | none => none | some r1 => (tv r1).bind fun b => if b = true then (ev r1).bind fun d => (compV t r0 tv ev (xs.map c)).map fun ys => d :: ys else compV t r0 tv ev (xs.map c)) = _
    rw [h1]
    show ((tv r1).bind fun b => if b = true then (ev r1).bind fun d => (compV t r0 tv ev (xs.map c)).map fun ys => d :: ys else compV t r0 tv ev (xs.map c)) = _
    rw [h2, Option.bind_some, ih]
    by_cases q : p x = true
    · rw [if_pos q, h3 q, List.filter_cons_of_pos q]
      rfl
    · rw [if_neg q, List.filter_cons_of_neg q]
theorem bnd {α β : Type} {o : Option α} {f : α → Option β} {z : β} (h : o.bind f = some z) : ∃ a, o = some a ∧ f a = some z := Option.bind_eq_some_iff.mp h
mutual
theorem evE_ok : ∀ (e : E) {r : Rho} {g : G} {d : D} {K : Kd} {X : Kx}, evE P e r g = some d → K d g → wE P C e r g K X
  | .nev, r, g, z, K, X, h, k => by cases h
  | .con d, r, g, z, K, X, h, k => by cases h; exact k
  | .var i, r, g, z, K, X, h, k => by
    have h : (match r[i]? with | some (some (.val d)) => some d | _ => none) = some z := h
    show (match r[i]? with | some (some (.val d)) => K d g | _ => False)
    split at h
    · cases h; exact k
    · cases h
  | .glb n, r, g, z, K, X, h, k => by
    have h : P.glb[n]? = some z := h
    show (match P.glb[n]? with | some d => K d g | none => False)
    rw [h]; exact k
  | .attr o f, r, g, z, K, X, h, k => by
    obtain ⟨d, h1, h2⟩ := bnd h
    have q : (match fldOf g d f with | some (.val x) => K x g | _ => False) := by
      revert h2
      cases fldOf g d f with
      | none => exact fun h2 => by cases h2
      | some s =>
        cases s with
        | val x => exact fun h2 => by cases h2; exact k
        | own _ => exact fun h2 => by cases h2
        | exc _ => exact fun h2 => by cases h2
    exact evE_ok o h1 q
  | .tup es, r, g, z, K, X, h, k => by
    obtain ⟨d, h1, h2⟩ := bnd h
    refine evEs_ok es h1 ?_
    split at h2
    · rename_i c; cases h2; exact ⟨c, k⟩
    · cases h2
  | .fz c, r, g, z, K, X, h, k => by
    obtain ⟨xs, h1, rfl⟩ := Option.map_eq_some_iff.mp h
    exact evC_ok c h1 k
  | .al _, r, g, z, K, X, h, k => by cases h
  | .bin o a b, r, g, z, K, X, h, k => by
    obtain ⟨x, h1, h⟩ := bnd h
    obtain ⟨y, h2, h⟩ := bnd h
    exact evE_ok a h1 (evE_ok b h2 (opV_ok h k))
  | .neg a, r, g, z, K, X, h, k => by
    obtain ⟨x, h1, h⟩ := bnd h
    refine evE_ok a h1 ?_
    split at h
    · cases h; exact k
    · cases h
  | .not a, r, g, z, K, X, h, k => by
    obtain ⟨x, h1, h⟩ := bnd h
    refine evE_ok a h1 ?_
    split at h
    · cases h; exact k
    · cases h
  | .bo kk es, r, g, z, K, X, h, k => evBo_ok kk es h k
  | .ife c a b, r, g, z, K, X, h, k => by
    obtain ⟨x, h1, h⟩ := bnd h
    refine evE_ok c h1 ?_
    split at h
    · exact evE_ok a h k
    · exact evE_ok b h k
    · cases h
  | .cmp o a b, r, g, z, K, X, h, k => by
    obtain ⟨x, h1, h⟩ := bnd h
    obtain ⟨y, h2, h⟩ := bnd h
    obtain ⟨q, h3, rfl⟩ := Option.map_eq_some_iff.mp h
    exact evE_ok a h1 (evE_ok b h2 (cmV_ok h3 k))
  | .chain o o' a b c, r, g, z, K, X, h, k => by
    obtain ⟨x, h1, h⟩ := bnd h
    obtain ⟨y, h2, h⟩ := bnd h
    obtain ⟨q, h3, h⟩ := bnd h
    refine evE_ok a h1 (evE_ok b h2 (cmV_ok h3 ?_))
    split at h
    · rename_i e
      rw [if_pos e]
      obtain ⟨u, h4, h⟩ := bnd h
      obtain ⟨q', h5, rfl⟩ := Option.map_eq_some_iff.mp h
      exact evE_ok c h4 (cmV_ok h5 k)
    · rename_i e
      cases h
      rw [if_neg e]
      exact k
  | .isin n a p, r, g, z, K, X, h, k => by
    obtain ⟨x, h1, h⟩ := bnd h
    obtain ⟨⟨s, c⟩, h2, h⟩ := bnd h
    refine evE_ok a h1 (evP_ok p h2 ?_)
    cases c with
    | seq t xs =>
      have h : (if (x.flat = true ∧ xs.all D.flat = true) ∨ (x.pure = true ∧ D.pures xs = true ∧ x.dep ≤ 60) then some (D.bl (n != xs.any fun y => D.eqv y x)) else none) = some z := h
      split at h
      · rename_i c; cases h; exact ⟨c, k⟩
      · cases h
    | _ => cases h
  | .eqp n p q, r, g, z, K, X, h, k => by
    obtain ⟨⟨s, c⟩, h1, h⟩ := bnd h
    obtain ⟨⟨s', c'⟩, h2, h⟩ := bnd h
    refine evP_ok p h1 (evP_ok q h2 ?_)
    cases c with
    | seq t xs =>
      cases c' with
      | seq u ys =>
        have h : (if D.pures xs = true ∧ D.pures ys = true ∧ min (D.deps xs) (D.deps ys) ≤ 59 then some (D.bl (n != D.eqv (.seq t xs) (.seq u ys))) else none) = some z := h
        split at h
        · rename_i c; cases h; exact ⟨c, k⟩
        · cases h
      | _ => cases h
    | _ => cases h
  | .truth p, r, g, z, K, X, h, k => by
    obtain ⟨⟨s, c⟩, h1, h⟩ := bnd h
    refine evP_ok p h1 ?_
    cases c with
    | seq t xs => cases h; exact k
    | _ => cases h
  | .call _ _, r, g, z, K, X, h, k => by cases h
  | .new _ _, r, g, z, K, X, h, k => by cases h
  | .meth _ _ _, r, g, z, K, X, h, k => by cases h
  | .bi b es, r, g, z, K, X, h, k => by
    obtain ⟨ds, h1, h⟩ := bnd h
    exact evEs_ok es h1 (biV_ok h k)
  | .isi a t, r, g, z, K, X, h, k => by
    obtain ⟨x, h1, h⟩ := bnd h
    obtain ⟨q, h3, rfl⟩ := Option.map_eq_some_iff.mp h
    refine evE_ok a h1 ?_
    rw [h3]
    exact k
  | .excis i c, r, g, z, K, X, h, k => by
    have h : (match r[i]? with | some (some (.exc e)) => some (D.bl (P.catches e c)) | _ => none) = some z := h
    show (match r[i]? with | some (some (.exc e)) => K (.bl (P.catches e c)) g | _ => False)
    split at h
    · cases h; exact k
    · cases h
  | .excword _, r, g, z, K, X, h, k => by cases h
  | .len p, r, g, z, K, X, h, k => by
    obtain ⟨⟨s, c⟩, h1, h⟩ := bnd h
    refine evP_ok p h1 ?_
    cases c with
    | seq t xs => cases h; exact ⟨True.intro, k⟩
    | dct d => cases h
    | str s =>
      have h : (if s.length ≤ lineN then some (D.int s.length) else none) = some z := h
      split at h
      · rename_i c; cases h; exact ⟨c, k⟩
      · cases h
  | .idx p kk, r, g, z, K, X, h, k => by
    obtain ⟨⟨s, c⟩, h1, h⟩ := bnd h
    obtain ⟨y, h2, h⟩ := bnd h
    exact evP_ok p h1 (evE_ok kk h2 (idxV_ok h k))
  | .slcf _ _ _, r, g, z, K, X, h, k => by cases h
  | .slc p lo hi, r, g, z, K, X, h, k => by
    obtain ⟨⟨s, c⟩, h1, h⟩ := bnd h
    obtain ⟨a, h2, h⟩ := bnd h
    obtain ⟨b, h3, h⟩ := bnd h
    refine evP_ok p h1 (evO_ok lo h2 (evO_ok hi h3 ?_))
    cases c with
    | seq t xs => cases h; exact k
    | _ => cases h
  | .totup p, r, g, z, K, X, h, k => by
    obtain ⟨⟨s, c⟩, h1, h⟩ := bnd h
    refine evP_ok p h1 ?_
    cases c with
    | seq t xs => cases h; exact k
    | _ => cases h
  | .sum p, r, g, z, K, X, h, k => by
    obtain ⟨⟨s, c⟩, h1, h⟩ := bnd h
    refine evP_ok p h1 ?_
    cases c with
    | seq t xs =>
      cases t with
      | true => cases h
      | false =>
        obtain ⟨ns, h3, rfl⟩ := Option.map_eq_some_iff.mp (show (ints? xs).map (fun ns => D.int ns.sum) = some z from h)
        show (match ints? xs with | some ns => K (.int ns.sum) g | none => False)
        rw [h3]
        exact k
    | _ => cases h
  | .allof p, r, g, z, K, X, h, k => by
    obtain ⟨⟨s, c⟩, h1, h⟩ := bnd h
    refine evP_ok p h1 ?_
    cases c with
    | seq t xs =>
      cases t with
      | true => cases h
      | false =>
        obtain ⟨ns, h3, rfl⟩ := Option.map_eq_some_iff.mp (show (bools? xs).map (fun bs => D.bl (bs.all id)) = some z from h)
        show (match bools? xs with | some bs => K (.bl (bs.all id)) g | none => False)
        rw [h3]
        exact k
    | _ => cases h
  | .anyof p, r, g, z, K, X, h, k => by
    obtain ⟨⟨s, c⟩, h1, h⟩ := bnd h
    refine evP_ok p h1 ?_
    cases c with
    | seq t xs =>
      cases t with
      | true => cases h
      | false =>
        obtain ⟨ns, h3, rfl⟩ := Option.map_eq_some_iff.mp (show (bools? xs).map (fun bs => D.bl (bs.any id)) = some z from h)
        show (match bools? xs with | some bs => K (.bl (bs.any id)) g | none => False)
        rw [h3]
        exact k
    | _ => cases h
  | .popat _ _, r, g, z, K, X, h, k => by cases h
  | .idxf _ _, r, g, z, K, X, h, k => by cases h
  | .pop0 _, r, g, z, K, X, h, k => by cases h
  | .dget p kk, r, g, z, K, X, h, k => by
    obtain ⟨⟨s, c⟩, h1, h⟩ := bnd h
    obtain ⟨d, h2, h⟩ := bnd h
    refine evP_ok p h1 (evE_ok kk h2 ?_)
    cases c with
    | dct kvs =>
      have h : (if keysOk kvs d = true then dGet kvs d else none) = some z := h
      split at h
      · rename_i q
        exact ⟨q, by rw [h]; exact k⟩
      · cases h
    | _ => cases h
  | .din n a p, r, g, z, K, X, h, k => by
    obtain ⟨x, h1, h⟩ := bnd h
    obtain ⟨⟨s, c⟩, h2, h⟩ := bnd h
    refine evE_ok a h1 (evP_ok p h2 ?_)
    cases c with
    | dct kvs =>
      have h : (if keysOk kvs x = true then some (D.bl (n != (dGet kvs x).isSome)) else none) = some z := h
      split at h
      · rename_i q
        cases h
        exact ⟨q, k⟩
      · cases h
    | _ => cases h
  | .dgt1 p kk, r, g, z, K, X, h, k => by
    obtain ⟨⟨s, c⟩, h1, h⟩ := bnd h
    obtain ⟨d, h2, h⟩ := bnd h
    refine evP_ok p h1 ?_
    cases c with
    | dct kvs =>
      refine evE_ok kk h2 ?_
      have h : (if keysOk kvs d = true then some ((dGet kvs d).getD .non) else none) = some z := h
      split at h
      · rename_i q
        cases h
        exact ⟨q, k⟩
      · cases h
    | _ => cases h
  | .dgt2 p kk x, r, g, z, K, X, h, k => by
    obtain ⟨⟨s, c⟩, h1, h⟩ := bnd h
    obtain ⟨d, h2, h⟩ := bnd h
    obtain ⟨y, h3, h⟩ := bnd h
    refine evP_ok p h1 ?_
    cases c with
    | dct kvs =>
      refine evE_ok kk h2 (evE_ok x h3 ?_)
      have h : (if keysOk kvs d = true then some ((dGet kvs d).getD y) else none) = some z := h
      split at h
      · rename_i q
        cases h
        exact ⟨q, k⟩
      · cases h
    | _ => cases h
  | .dlen p, r, g, z, K, X, h, k => by
    obtain ⟨⟨s, c⟩, h1, h⟩ := bnd h
    refine evP_ok p h1 ?_
    cases c with
    | dct kvs =>
      cases h
      exact k
    | _ => cases h
  | .xb b p es, r, g, z, K, X, h, k => by
    obtain ⟨⟨s, c⟩, h1, h⟩ := bnd h
    obtain ⟨ds, h2, h⟩ := bnd h
    refine evP_ok p h1 ?_
    dsimp only at h
    split at h
    · rename_i q
      exact ⟨q, evEs_ok es h2 (xbV_ok h k)⟩
    · cases h
theorem evO_ok : ∀ (o : Oe) {r : Rho} {g : G} {d : Option Int} {K : Option Int → G → Prop} {X : Kx}, evO P o r g = some d → K d g → wO P C o r g K X
  | .no, r, g, z, K, X, h, k => by cases h; exact k
  | .so e, r, g, z, K, X, h, k => by
    obtain ⟨d, h1, h⟩ := bnd h
    refine evE_ok e h1 ?_
    split at h
    · cases h; exact k
    · cases h
theorem evEs_ok : ∀ (es : Es) {r : Rho} {g : G} {ds : List D} {K : List D → G → Prop} {X : Kx}, evEs P es r g = some ds → K ds g → wEs P C es r g K X
  | .nil, r, g, z, K, X, h, k => by cases h; exact k
  | .cons e es, r, g, z, K, X, h, k => by
    obtain ⟨d, h1, h⟩ := bnd h
    obtain ⟨q, h3, rfl⟩ := Option.map_eq_some_iff.mp h
    exact evE_ok e h1 (evEs_ok es h3 k)
theorem evBo_ok (kk : Bool) : ∀ (es : Es) {r : Rho} {g : G} {d : D} {K : Kd} {X : Kx}, evBo P kk es r g = some d → K d g → wBo P C kk es r g K X
  | .nil, r, g, z, K, X, h, k => by cases h
  | .cons e es, r, g, z, K, X, h, k => by
    cases es with
    | nil => exact evE_ok e h k
    | cons e2 es =>
      obtain ⟨d, h1, h⟩ := bnd h
      refine evE_ok e h1 ?_
      cases d with
      | bl b =>
        have h : (if b = kk then evBo P kk (.cons e2 es) r g else some (.bl b)) = some z := h
        show (if b = kk then wBo P C kk (.cons e2 es) r g K X else K (.bl b) g)
        split at h
        · rename_i q
          rw [if_pos q]
          exact evBo_ok kk (.cons e2 es) h k
        · rename_i q
          rw [if_neg q]
          cases h
          exact k
      | _ => cases h
theorem evP_ok : ∀ (p : Pl) {r : Rho} {g : G} {q : Src × Cv} {K : Src → Cv → G → Prop} {X : Kx}, evP P p r g = some q → K q.1 q.2 g → wP P C p r g K X
  | .v e, r, g, z, K, X, h, k => by
    obtain ⟨d, h1, h⟩ := bnd h
    obtain ⟨c, h3, rfl⟩ := Option.map_eq_some_iff.mp h
    refine evE_ok e h1 ?_
    rw [h3]
    exact k
  | .loc j, r, g, z, K, X, h, k => by
    have h : (match r[j]? with | some (some (.own c)) => some (Src.loc j, c.cv) | _ => none) = some z := h
    show (match r[j]? with | some (some (.own c)) => K (.loc j) c.cv g | _ => False)
    split at h
    · cases h; exact k
    · cases h
  | .fld o f, r, g, z, K, X, h, k => by
    obtain ⟨d, h1, h⟩ := bnd h
    refine evE_ok o h1 ?_
    cases d with
    | ref i =>
      have h : (match fldOf g (.ref i) f with | some (.own c) => some (Src.fld i f, c.cv) | _ => none) = some z := h
      show (match fldOf g (.ref i) f with | some (.own c) => K (.fld i f) c.cv g | _ => False)
      split at h
      · cases h; exact k
      · cases h
    | _ => cases h
theorem evC_ok : ∀ (c : Cr) {r : Rho} {g : G} {xs : List D} {K : Ct → G → Prop} {X : Kx}, evC P c r g = some xs → K (.lst xs) g → wC P C c r g K X
  | .lst es, r, g, z, K, X, h, k => by
    obtain ⟨d, h1, h⟩ := bnd h
    refine evEs_ok es h1 ?_
    split at h
    · rename_i c; cases h; exact ⟨c, k⟩
    · cases h
  | .slice p lo hi, r, g, z, K, X, h, k => by
    obtain ⟨⟨s, c⟩, h1, h⟩ := bnd h
    obtain ⟨a, h2, h⟩ := bnd h
    obtain ⟨b, h3, h⟩ := bnd h
    refine evP_ok p h1 (evO_ok lo h2 (evO_ok hi h3 ?_))
    cases c with
    | seq t xs =>
      cases t with
      | true => cases h
      | false => cases h; exact k
    | _ => cases h
  | .tolist p, r, g, z, K, X, h, k => by
    obtain ⟨⟨s, c⟩, h1, h⟩ := bnd h
    refine evP_ok p h1 ?_
    cases c with
    | seq t xs => cases h; exact k
    | _ => cases h
  | .catc _ _, r, g, z, K, X, h, k => by cases h
  | .cat p q, r, g, z, K, X, h, k => by
    obtain ⟨⟨s, c⟩, h1, h⟩ := bnd h
    obtain ⟨⟨s', c'⟩, h2, h⟩ := bnd h
    refine evP_ok p h1 (evP_ok q h2 ?_)
    cases c with
    | seq t xs =>
      cases t with
      | true => cases c' <;> cases h
      | false =>
        cases c' with
        | seq u ys =>
          cases u with
          | true => cases h
          | false =>
            have h : (if (s.notGiv = true ∧ s'.notGiv = true) ∧ xs.length + ys.length ≤ lineN then some (xs ++ ys) else none) = some z := h
            split at h
            · rename_i c; cases h; exact ⟨c.1, c.2, k⟩
            · cases h
        | _ => cases h
    | _ => cases h
  | .comp own t it c e, r, g, z, K, X, h, k => by
    have h : (if ownOk r own = true ∧ (simO c && simE e) = true then (evI P it r g).bind fun q => if q.2.length ≤ lineN then compV t (wipeR r own) (fun r1 => evT P c r1 g) (fun r1 => evE P e r1 g) q.2 else none else none) = some z := h
    by_cases q : ownOk r own = true ∧ (simO c && simE e) = true
    · rw [if_pos q] at h
      obtain ⟨⟨src, xs⟩, h1, h⟩ := bnd h
      by_cases q2 : xs.length ≤ lineN
      · rw [if_pos q2] at h
        refine ⟨q.1, evI_ok it h1 ⟨by rw [q.2]; rfl, ?_⟩⟩
        refine compV_ok (by show (if (simO c && simE e) = true then True else _); rw [if_pos q.2]; exact True.intro) (fun r1 b K2 hb k2 => evT_ok c hb k2) (fun r1 d K2 hd k2 => evE_ok e hd k2) xs [] z h (by simpa using q2) (by simpa using k)
      · rw [if_neg q2] at h
        cases h
    · rw [if_neg q] at h
      cases h
  | .dnew, r, g, z, K, X, h, k => by cases h
  | .dlit _ _, r, g, z, K, X, h, k => by cases h
  | .dsrt _, r, g, z, K, X, h, k => by cases h
  | .dcopy _, r, g, z, K, X, h, k => by cases h
  | .dvals p, r, g, z, K, X, h, k => by
    obtain ⟨⟨s, c⟩, h1, h⟩ := bnd h
    refine evP_ok p h1 ?_
    cases c with
    | dct kvs =>
      have h : (if (kvs.all fun p => p.1.keyF) = true then some (kvs.map (·.2)) else none) = some z := h
      split at h
      · rename_i q
        cases h
        exact ⟨q, k⟩
      · cases h
    | _ => cases h
  | .xc _ _, r, g, z, K, X, h, k => by cases h
  | .dcl _ _ _ _ _ _, r, g, z, K, X, h, k => by cases h
  | .dcd _ _ _ _ _ _ _, r, g, z, K, X, h, k => by cases h
  | .compd own t kk p c e, r, g, z, K, X, h, k => by
    have h : (if ownOk r own = true then (evP P p r g).bind fun q => (match q.2 with
      | .dct kvs => if kvs.length ≤ lineN ∧ q.1.ctB g = true then compV t (wipeR r own) (fun r1 => evT P c r1 g) (fun r1 => evE P e r1 g) (itemsD kk kvs) else none
      | _ => none) else none) = some z := h
    split at h
    · rename_i ho
      obtain ⟨⟨s, cv⟩, h1, h⟩ := bnd h
      cases cv with
      | dct kvs =>
        dsimp only at h
        split at h
        · rename_i hf
          exact ⟨s, kvs, z, ⟨ho, hf.1, hf.2⟩, h1, h, k⟩
        · cases h
      | _ => cases h
    · cases h
theorem evT_ok : ∀ (o : Oe) {r : Rho} {g : G} {b : Bool} {K : Bool → G → Prop}, evT P o r g = some b → K b g → wT P C o r g K
  | .no, r, g, z, K, h, k => by cases h; exact k
  | .so e, r, g, z, K, h, k => by
    obtain ⟨d, h1, h⟩ := bnd h
    refine evE_ok e h1 ?_
    cases d with
    | bl b => cases h; exact k
    | _ => cases h
theorem evI_ok : ∀ (it : It) {r : Rho} {g : G} {q : Ws × List D} {K : Ws → List D → G → Prop} {X : Kx}, evI P it r g = some q → K q.1 q.2 g → wI P C it r g K X
  | .pl p, r, g, z, K, X, h, k => by
    obtain ⟨⟨s, c⟩, h1, h⟩ := bnd h
    refine evP_ok p h1 ?_
    cases c with
    | seq t xs => cases h; exact k
    | _ => cases h
  | .rng1 e, r, g, z, K, X, h, k => by
    obtain ⟨d, h1, h⟩ := bnd h
    refine evE_ok e h1 ?_
    cases d with
    | int j =>
      have h : (if -(2 ^ 62) ≤ j ∧ j < 2 ^ 62 then some (Ws.no, (List.range j.toNat).map fun (n : Nat) => D.int (n : Int)) else none) = some z := h
      by_cases q : -(2 ^ 62) ≤ j ∧ j < 2 ^ 62
      · rw [if_pos q] at h
        cases h
        exact ⟨q, k⟩
      · rw [if_neg q] at h
        cases h
    | _ => cases h
  | .rng2 a b, r, g, z, K, X, h, k => by
    obtain ⟨x, h1, h⟩ := bnd h
    obtain ⟨y, h2, h⟩ := bnd h
    refine evE_ok a h1 (evE_ok b h2 ?_)
    cases x with
    | int i =>
      cases y with
      | int j =>
        have h : (if -(2 ^ 62) ≤ i ∧ i < 2 ^ 62 ∧ -(2 ^ 62) ≤ j ∧ j < 2 ^ 62 then some (Ws.no, (List.range (j - i).toNat).map fun (n : Nat) => D.int (i + (n : Int))) else none) = some z := h
        by_cases q : -(2 ^ 62) ≤ i ∧ i < 2 ^ 62 ∧ -(2 ^ 62) ≤ j ∧ j < 2 ^ 62
        · rw [if_pos q] at h
          cases h
          exact ⟨q, k⟩
        · rw [if_neg q] at h
          cases h
      | _ => cases h
    | _ => cases h
  | .enum p, r, g, z, K, X, h, k => by
    obtain ⟨⟨s, c⟩, h1, h⟩ := bnd h
    refine evP_ok p h1 ?_
    cases c with
    | seq t xs =>
      cases t with
      | true => cases h
      | false => cases h; exact k
    | _ => cases h
end
end
end Vb

set_option maxHeartbeats 1000000
/-! The plain layer, part 1: how the plain states lie in the kit's abstract heap. -/
namespace Vb
open PySem L2
/-- what binds the tables to the program's text -/
structure Bd where
  P : Pg
  prog : Program
  w : World
  K : PySem.W.Frag
  mg : Str → Option Value
  base : Heap
  cad : Nat → Addr
  an : List Str
  fad : Nat → Addr
  fd : Nat → FuncData
  ps : Nat → List Str
  /-- the exception at hand: where it lies, its class -/
  hx : Option (Addr × Nat)
  /-- the dict that is walked -/
  lk : Option Addr
inductive Tag where
  | fz (u : HO) | fr (u : HO) | id (i : Id) | fld (i : Id) (f : Nat) | loc (j : Nat)
structure Tm where
  at_ : Addr → Option Tag
  ex : Option (Addr × Nat)
def hdOf (t : Bool) (vs : List V) : HO := if t = true then .tup vs else .lst vs
def Wr (K : PySem.W.Frag) (t : Bool) (a : Addr) (vs : List V) : Prop := if t = true then SqT K (fun _ => none) a vs else False
def FzS (B : Bd) (T : Tm) (t : Bool) (a : Addr) (vs : List V) : Prop := (∃ u, T.at_ a = some (.fz u) ∧ (u = hdOf t vs ∨ ∃ o, u = .frz o (hdOf t vs))) ∨ Wr B.K t a vs
def GvS (B : Bd) (T : Tm) (a : Addr) (vs : List V) : Prop := (∃ u, T.at_ a = some (.fz u) ∧ (u = .lst vs ∨ ∃ o, u = .frz o (.lst vs))) ∨ SqL B.K (fun _ => none) a vs
mutual
def RD (B : Bd) (T : Tm) : D → V → Prop
  | .non, v => v = .non
  | .bl b, v => v = .bl b
  | .int i, v => v = .int i
  | .str x, v => v = .str x
  | .seq t xs, v => ∃ a vs, v = .ref a ∧ FzS B T t a vs ∧ RDs B T xs vs
  | .ref i, v => ∃ a, v = .ref a ∧ T.at_ a = some (.id i)
  | .giv ns, v => ∃ a, v = .ref a ∧ GvS B T a (ns.map V.int)
def RDs (B : Bd) (T : Tm) : List D → List V → Prop
  | [], vs => vs = []
  | x :: xs, vs => ∃ y ys, vs = y :: ys ∧ RD B T x y ∧ RDs B T xs ys
end
mutual
/-- a key as the kit's nested keys -/
def nk : D → NestedKey
  | .int i => .num i
  | .str x => .text x
  | .seq _ xs => .tup (nks xs)
  | _ => .none
def nks : List D → List NestedKey
  | [] => []
  | x :: xs => nk x :: nks xs
end
def kF : Key → D
  | .inl i => .int i
  | .inr x => .str x
/-- a dict with tuples for keys, by its one object -/
def DXo (P : Program) (w : World) (a : Addr) (xs : List (NestedKey × Addr × V)) : Heap → Prop := fun h => xs.length ≤ sizeLine ∧ (a == sysModules) = false ∧
  ∃ ys : List (NestedKey × Addr × Value), Paired (fun p q => p.1 = q.1 ∧ p.2.1 = q.2.1 ∧ RelV p.2.2 q.2.2) xs ys ∧
    ∃ o es ep, h.get? a = some o ∧ o.ExactDict ∧ o.data = .dict es ep ∧ es.toList = ys.map (entryOfKey (nestedKind P w)) ∧ (ys.map (·.1)).Nodup
/-- what stands at a, walked or not -/
def At (B : Bd) (H : Hp) (a : Addr) (u : HO) : Prop := (B.lk ≠ some a ∧ H a = some u) ∨ (B.lk = some a ∧ ∃ o, H a = some (.frz o u))
def KfR (B : Bd) (T : Tm) (p : D × D) (q : Key × V) : Prop := p.1 = kF q.1 ∧ RD B T p.2 q.2
def KtR (B : Bd) (T : Tm) (p : D × D) (x : NestedKey × Addr × V) : Prop := p.1.keyT = true ∧ x.1 = nk p.1 ∧ RD B T p.1 (.ref x.2.1) ∧ RD B T p.2 x.2.2
def RDc (B : Bd) (T : Tm) (H : Hp) (a : Addr) (kvs : List (D × D)) : Prop :=
  (∃ ks : List (Key × V), At B H a (.dK ks) ∧ Paired (KfR B T) kvs ks) ∨ ∃ xs, xs ≠ [] ∧ At B H a (.ext (DXo B.prog B.w a xs)) ∧ Paired (KtR B T) kvs xs
/-- what stands at a, walked or not, for who reads it -/
def AtR (H : Hp) (a : Addr) (u : HO) : Prop := H a = some u ∨ ∃ o, H a = some (.frz o u)
def RDu (B : Bd) (T : Tm) (a : Addr) (kvs : List (D × D)) (u : HO) : Prop :=
  (∃ ks : List (Key × V), u = .dK ks ∧ Paired (KfR B T) kvs ks) ∨ ∃ xs, xs ≠ [] ∧ u = .ext (DXo B.prog B.w a xs) ∧ Paired (KtR B T) kvs xs
def RDr (B : Bd) (T : Tm) (H : Hp) (a : Addr) (kvs : List (D × D)) : Prop := ∃ u, AtR H a u ∧ RDu B T a kvs u
/-- what a container's content lies as, at a -/
def RCt (B : Bd) (T : Tm) (H : Hp) (a : Addr) : Ct → Prop
  | .lst xs => ∃ vs, H a = some (.lst vs) ∧ RDs B T xs vs
  | .dct kvs => RDc B T H a kvs
def RSl (B : Bd) (T : Tm) (H : Hp) (pl : Tag) : Sl → V → Prop
  | .val d, v => RD B T d v
  | .own c, v => ∃ a, v = .ref a ∧ T.at_ a = some pl ∧ RCt B T H a c
  | .exc c, v => (∃ j, pl = .loc j) ∧ ∃ a, v = .ref a ∧ T.ex = some (a, c)
def RFs (B : Bd) (T : Tm) (H : Hp) (i : Id) (fs : List (Nat × Sl)) (vs : List (Str × V)) : Prop :=
  Paired (fun (p : Nat × Sl) (q : Str × V) => B.an[p.1]? = some q.1 ∧ RSl B T H (.fld i p.1) p.2 q.2) fs vs
def ROb (B : Bd) (T : Tm) (H : Hp) (i : Id) (a : Addr) : Ob → Prop
  | .ct c => RCt B T H a c
  | .lkd kvs o u => H a = some (.frz o u) ∧ RDu B T a kvs u
  | .ins c fs => ∃ dx vs, H a = some (.ins (B.cad c) dx vs) ∧ ((∀ p ∈ fs, B.P.fldOk c p.1 = true) ∧ (fs.map (·.1)).Nodup) ∧ RFs B T H i fs vs
structure RR (B : Bd) (T : Tm) (g : G) (r : Rho) (H : Hp) (σ : St) : Prop where
  hx : T.ex = B.hx
  len : σ.length = r.length
  fz : ∀ a u, T.at_ a = some (.fz u) → H a = some u
  fr : ∀ a u, T.at_ a = some (.fr u) → H a = some u
  tg : ∀ a t, T.at_ a = some t → ∃ o, H a = some o
  inj : ∀ a b i, T.at_ a = some (.id i) → T.at_ b = some (.id i) → a = b
  dom : ∀ a i, T.at_ a = some (.id i) → ∃ o, g i = some o
  obj : ∀ i o, g i = some o → ∃ a, T.at_ a = some (.id i) ∧ ROb B T H i a o
  slt : ∀ j s, r[j]? = some (some s) → ∃ v, σ[j]? = some (some v) ∧ RSl B T H (.loc j) s v
structure Ext (T T' : Tm) : Prop where
  fz : ∀ a u, T.at_ a = some (.fz u) → T'.at_ a = some (.fz u)
  fr : ∀ a u, T.at_ a = some (.fr u) → T'.at_ a = some (.fr u)
  id : ∀ a i, T.at_ a = some (.id i) → T'.at_ a = some (.id i)
  ex : T'.ex = T.ex
theorem Ext.refl (T : Tm) : Ext T T := ⟨fun _ _ h => h, fun _ _ h => h, fun _ _ h => h, rfl⟩
theorem Ext.trans {T T1 T2 : Tm} (a : Ext T T1) (b : Ext T1 T2) : Ext T T2 :=
  ⟨fun x u h => b.fz x u (a.fz x u h), fun x u h => b.fr x u (a.fr x u h), fun x u h => b.id x u (a.id x u h), b.ex.trans a.ex⟩
variable {B : Bd} {T T' : Tm} {g g' : G} {r r' : Rho} {H H' : Hp} {σ σ' : St}
theorem FzS.ext (e : Ext T T') {t : Bool} {a : Addr} {vs : List V} (h : FzS B T t a vs) : FzS B T' t a vs := by
  rcases h with ⟨u, h, q⟩ | h
  · exact .inl ⟨u, e.fz _ _ h, q⟩
  · exact .inr h
mutual
theorem RD.ext (e : Ext T T') : ∀ (d : D) (v : V), RD B T d v → RD B T' d v
  | .non, _, h => h
  | .bl _, _, h => h
  | .int _, _, h => h
  | .str _, _, h => h
  | .seq t xs, v, h => by
    obtain ⟨a, vs, h1, h2, h3⟩ := h
    exact ⟨a, vs, h1, h2.ext e, RDs.ext e xs vs h3⟩
  | .ref i, v, h => by
    obtain ⟨a, h1, h2⟩ := h
    exact ⟨a, h1, e.id _ _ h2⟩
  | .giv ns, v, h => by
    obtain ⟨a, h1, h2⟩ := h
    refine ⟨a, h1, ?_⟩
    rcases h2 with ⟨u, h2, h3⟩ | h2
    · exact .inl ⟨u, e.fz _ _ h2, h3⟩
    · exact .inr h2
theorem RDs.ext (e : Ext T T') : ∀ (ds : List D) (vs : List V), RDs B T ds vs → RDs B T' ds vs
  | [], _, h => h
  | x :: xs, vs, h => by
    obtain ⟨y, ys, h1, h2, h3⟩ := h
    exact ⟨y, ys, h1, RD.ext e x y h2, RDs.ext e xs ys h3⟩
end
theorem At.keep {a : Addr} {u : HO} (e : H' a = H a) (h : At B H a u) : At B H' a u := by
  rcases h with ⟨l, h⟩ | ⟨l, o, h⟩
  · exact .inl ⟨l, e.trans h⟩
  · exact .inr ⟨l, o, e.trans h⟩
theorem At.same {a : Addr} {u : HO} (e : Same H H') (h : At B H a u) : At B H' a u := by
  rcases h with ⟨l, h⟩ | ⟨l, o, h⟩
  · exact .inl ⟨l, e _ _ h⟩
  · exact .inr ⟨l, o, e _ _ h⟩
theorem At.there {a : Addr} {u : HO} (h : At B H a u) : ∃ o, H a = some o := by
  rcases h with ⟨l, h⟩ | ⟨l, o, h⟩
  · exact ⟨_, h⟩
  · exact ⟨_, h⟩
theorem RDc.map (h : ∀ d v, RD B T d v → RD B T' d v) (k : ∀ a u, At B H a u → At B H' a u) {a : Addr} {kvs : List (D × D)} (q : RDc B T H a kvs) : RDc B T' H' a kvs := by
  rcases q with ⟨ks, q1, q2⟩ | ⟨xs, q0, q1, q2⟩
  · exact .inl ⟨ks, k _ _ q1, Paired.mapP q2 fun _ _ z => ⟨z.1, h _ _ z.2⟩⟩
  · exact .inr ⟨xs, q0, k _ _ q1, Paired.mapP q2 fun _ _ z => ⟨z.1, z.2.1, h _ _ z.2.2.1, h _ _ z.2.2.2⟩⟩
theorem RDs.length : ∀ {ds : List D} {vs : List V}, RDs B T ds vs → vs.length = ds.length
  | [], _, h => by rw [show _ = [] from h]; rfl
  | x :: xs, vs, h => by
    obtain ⟨y, ys, rfl, _, h3⟩ := h
    simp [RDs.length h3]
theorem RDs.get : ∀ {ds : List D} {vs : List V} {n : Nat} {d : D}, RDs B T ds vs → ds[n]? = some d → ∃ v, vs[n]? = some v ∧ RD B T d v
  | [], _, _, _, _, h => by simp at h
  | x :: xs, vs, 0, d, h, e => by
    obtain ⟨y, ys, rfl, h2, _⟩ := h
    simp at e
    subst e
    exact ⟨y, rfl, h2⟩
  | x :: xs, vs, n + 1, d, h, e => by
    obtain ⟨y, ys, rfl, _, h3⟩ := h
    simpa using RDs.get h3 (by simpa using e)
theorem RDs.append : ∀ {ds es : List D} {vs ws : List V}, RDs B T ds vs → RDs B T es ws → RDs B T (ds ++ es) (vs ++ ws)
  | [], _, _, _, h, h' => by
    rw [show _ = [] from h]
    exact h'
  | x :: xs, es, vs, ws, h, h' => by
    obtain ⟨y, ys, rfl, h2, h3⟩ := h
    exact ⟨y, ys ++ ws, rfl, h2, RDs.append h3 h'⟩
theorem RDs.one {d : D} {v : V} (h : RD B T d v) : RDs B T [d] [v] := ⟨v, [], rfl, h, rfl⟩
theorem RDs.take : ∀ {ds : List D} {vs : List V} (n : Nat), RDs B T ds vs → RDs B T (ds.take n) (vs.take n)
  | [], _, n, h => by rw [show _ = [] from h]; simp [RDs]
  | x :: xs, vs, 0, h => by simp [RDs]
  | x :: xs, vs, n + 1, h => by
    obtain ⟨y, ys, rfl, h2, h3⟩ := h
    exact ⟨y, ys.take n, rfl, h2, RDs.take n h3⟩
theorem RDs.drop : ∀ {ds : List D} {vs : List V} (n : Nat), RDs B T ds vs → RDs B T (ds.drop n) (vs.drop n)
  | [], _, n, h => by rw [show _ = [] from h]; simp [RDs]
  | x :: xs, vs, 0, h => by simpa using h
  | x :: xs, vs, n + 1, h => by
    obtain ⟨y, ys, rfl, h2, h3⟩ := h
    simpa using RDs.drop n h3
theorem RDs.set : ∀ {ds : List D} {vs : List V} (n : Nat) {d : D} {v : V}, RDs B T ds vs → RD B T d v → RDs B T (ds.set n d) (vs.set n v)
  | [], _, n, _, _, h, _ => by rw [show _ = [] from h]; simp [RDs]
  | x :: xs, vs, 0, d, v, h, h' => by
    obtain ⟨y, ys, rfl, h2, h3⟩ := h
    exact ⟨v, ys, rfl, h', h3⟩
  | x :: xs, vs, n + 1, d, v, h, h' => by
    obtain ⟨y, ys, rfl, h2, h3⟩ := h
    exact ⟨y, ys.set n v, rfl, h2, RDs.set n h3 h'⟩
theorem RDs.erase : ∀ {ds : List D} {vs : List V} (n : Nat), RDs B T ds vs → RDs B T (ds.eraseIdx n) (vs.eraseIdx n)
  | [], _, n, h => by rw [show _ = [] from h]; simp [RDs]
  | x :: xs, vs, 0, h => by
    obtain ⟨y, ys, rfl, h2, h3⟩ := h
    exact h3
  | x :: xs, vs, n + 1, h => by
    obtain ⟨y, ys, rfl, h2, h3⟩ := h
    exact ⟨y, ys.eraseIdx n, rfl, h2, RDs.erase n h3⟩
theorem RDs.ints : ∀ {ds : List D} {vs : List V} {ns : List Int}, RDs B T ds vs → ints? ds = some ns → vs = ns.map V.int
  | [], _, ns, h, e => by
    simp [ints?] at e
    subst e
    exact h
  | x :: xs, vs, ns, h, e => by
    obtain ⟨y, ys, rfl, h2, h3⟩ := h
    cases x with
    | int i =>
      simp only [ints?, Option.map_eq_some_iff] at e
      obtain ⟨ms, e1, rfl⟩ := e
      rw [RDs.ints h3 e1, show y = V.int i from h2]
      rfl
    | _ => simp [ints?] at e
theorem RDs.bools : ∀ {ds : List D} {vs : List V} {ns : List Bool}, RDs B T ds vs → bools? ds = some ns → vs = ns.map V.bl
  | [], _, ns, h, e => by
    simp [bools?] at e
    subst e
    exact h
  | x :: xs, vs, ns, h, e => by
    obtain ⟨y, ys, rfl, h2, h3⟩ := h
    cases x with
    | bl i =>
      simp only [bools?, Option.map_eq_some_iff] at e
      obtain ⟨ms, e1, rfl⟩ := e
      rw [RDs.bools h3 e1, show y = V.bl i from h2]
      rfl
    | _ => simp [bools?] at e

/-! ### containers as the kit reads them -/
theorem Wr.read {K : PySem.W.Frag} {t : Bool} {a : Addr} {vs : List V} (h : Wr K t a vs) (H : Hp) : if t = true then SqT K H a vs else SqL K H a vs := by
  unfold Wr at h
  cases t with
  | true =>
    simp only [if_true] at h ⊢
    rcases h with (h | ⟨_, h⟩) | h
    · cases h
    · cases h
    · exact .inr h
  | false =>
    simp only [Bool.false_eq_true, if_false] at h
theorem RR.fzT (R : RR B T g r H σ) {a : Addr} {vs : List V} (h : FzS B T true a vs) : SqT B.K H a vs := by
  rcases h with ⟨u, h, rfl | ⟨o, rfl⟩⟩ | h
  · exact .inl (.inl (R.fz _ _ h))
  · exact .inl (.inr ⟨o, R.fz _ _ h⟩)
  · exact h.read H
theorem RR.fzL (R : RR B T g r H σ) {a : Addr} {vs : List V} (h : FzS B T false a vs) : SqL B.K H a vs := by
  rcases h with ⟨u, h, rfl | ⟨o, rfl⟩⟩ | h
  · exact .inl (.inl (R.fz _ _ h))
  · exact .inl (.inr ⟨o, R.fz _ _ h⟩)
  · exact h.read H
theorem RR.gvL (R : RR B T g r H σ) {a : Addr} {vs : List V} (h : GvS B T a vs) : SqL B.K H a vs := by
  rcases h with ⟨u, h, rfl | ⟨o, rfl⟩⟩ | (h | ⟨_, h⟩) | h
  · exact .inl (.inl (R.fz _ _ h))
  · exact .inl (.inr ⟨o, R.fz _ _ h⟩)
  · cases h
  · cases h
  · exact .inr h
/-- a list of the heap -/
def LH (H : Hp) (a : Addr) (vs : List V) : Prop := H a = some (.lst vs) ∨ ∃ o, H a = some (.frz o (.lst vs))
theorem RR.fzLH (R : RR B T g r H σ) {a : Addr} {vs : List V} (h : FzS B T false a vs) : LH H a vs := by
  rcases h with ⟨u, h, rfl | ⟨o, rfl⟩⟩ | h
  · exact .inl (R.fz _ _ h)
  · exact .inr ⟨o, R.fz _ _ h⟩
  · simp [Wr] at h
theorem LH.keep {a : Addr} {vs : List V} (s : Same H H') (h : LH H a vs) : LH H' a vs := by
  rcases h with h | ⟨o, h⟩
  · exact .inl (s _ _ h)
  · exact .inr ⟨o, s _ _ h⟩
theorem RDu.map (h : ∀ d v, RD B T d v → RD B T' d v) {a : Addr} {kvs : List (D × D)} {u : HO} (q : RDu B T a kvs u) : RDu B T' a kvs u := by
  rcases q with ⟨ks, q1, q2⟩ | ⟨xs, q0, q1, q2⟩
  · exact .inl ⟨ks, q1, Paired.mapP q2 fun _ _ z => ⟨z.1, h _ _ z.2⟩⟩
  · exact .inr ⟨xs, q0, q1, Paired.mapP q2 fun _ _ z => ⟨z.1, z.2.1, h _ _ z.2.2.1, h _ _ z.2.2.2⟩⟩
theorem RDr.keep (h : ∀ d v, RD B T d v → RD B T' d v) (e : Same H H') {a : Addr} {kvs : List (D × D)} (q : RDr B T H a kvs) : RDr B T' H' a kvs := by
  obtain ⟨u, q1 | ⟨o, q1⟩, q2⟩ := q
  · exact ⟨u, .inl (e _ _ q1), q2.map h⟩
  · exact ⟨u, .inr ⟨o, e _ _ q1⟩, q2.map h⟩
theorem RDc.rd {a : Addr} {kvs : List (D × D)} (q : RDc B T H a kvs) : RDr B T H a kvs := by
  rcases q with ⟨ks, ⟨_, q1⟩ | ⟨_, o, q1⟩, q2⟩ | ⟨xs, q0, ⟨_, q1⟩ | ⟨_, o, q1⟩, q2⟩
  · exact ⟨_, .inl q1, .inl ⟨ks, rfl, q2⟩⟩
  · exact ⟨_, .inr ⟨o, q1⟩, .inl ⟨ks, rfl, q2⟩⟩
  · exact ⟨_, .inl q1, .inr ⟨xs, q0, rfl, q2⟩⟩
  · exact ⟨_, .inr ⟨o, q1⟩, .inr ⟨xs, q0, rfl, q2⟩⟩
/-- a container's content, read -/
def RCv (B : Bd) (T : Tm) (H : Hp) : Cv → V → Prop
  | .seq true xs, v => ∃ a vs, v = .ref a ∧ FzS B T true a vs ∧ RDs B T xs vs
  | .seq false xs, v => ∃ a vs, v = .ref a ∧ SqL B.K H a vs ∧ RDs B T xs vs
  | .str s, v => v = .str s
  | .dct kvs, v => ∃ a, v = .ref a ∧ RDr B T H a kvs
theorem Same.sqT {K : PySem.W.Frag} {a : Addr} {xs : List V} (e : Same H H') (h : SqT K H a xs) : SqT K H' a xs := by
  rcases h with (h | ⟨o, h⟩) | h
  · exact .inl (.inl (e _ _ h))
  · exact .inl (.inr ⟨o, e _ _ h⟩)
  · exact .inr h
theorem RCv.keep (x : Ext T T') (e : Same H H') : ∀ {c : Cv} {v : V}, RCv B T H c v → RCv B T' H' c v
  | .seq true _, _, h => by
    obtain ⟨a, vs, h1, h2, h3⟩ := h
    exact ⟨a, vs, h1, h2.ext x, RDs.ext x _ _ h3⟩
  | .seq false _, _, h => by
    obtain ⟨a, vs, h1, h2, h3⟩ := h
    exact ⟨a, vs, h1, e.seq h2, RDs.ext x _ _ h3⟩
  | .str _, _, h => h
  | .dct _, _, h => by
    obtain ⟨a, h1, h2⟩ := h
    exact ⟨a, h1, h2.keep (fun d v q => RD.ext x d v q) e⟩

/-! ### what a change keeps -/
theorem RCt.keep (x : Ext T T') {a : Addr} (e : H' a = H a) : ∀ {c : Ct}, RCt B T H a c → RCt B T' H' a c
  | .lst _, h => by
    obtain ⟨vs, h1, h2⟩ := h
    exact ⟨vs, e.trans h1, RDs.ext x _ _ h2⟩
  | .dct _, h => by
    have h : RDc B T H a _ := h
    rcases h with ⟨ks, q1, q2⟩ | ⟨xs, q0, q1, q2⟩
    · exact .inl ⟨ks, q1.keep e, Paired.mapP q2 fun _ _ z => ⟨z.1, RD.ext x _ _ z.2⟩⟩
    · exact .inr ⟨xs, q0, q1.keep e, Paired.mapP q2 fun _ _ z => ⟨z.1, z.2.1, RD.ext x _ _ z.2.2.1, RD.ext x _ _ z.2.2.2⟩⟩
/-- a change of the tags and of the heap that leaves all owned containers where they are -/
structure Kp (T T' : Tm) (H H' : Hp) : Prop where
  ext : Ext T T'
  fld : ∀ a i f, T.at_ a = some (.fld i f) → T'.at_ a = some (.fld i f) ∧ H' a = H a
  loc : ∀ a j, T.at_ a = some (.loc j) → T'.at_ a = some (.loc j) ∧ H' a = H a
theorem RSl.keepF (k : Kp T T' H H') {i : Id} {f : Nat} : ∀ {s : Sl} {v : V}, RSl B T H (.fld i f) s v → RSl B T' H' (.fld i f) s v
  | .val _, _, h => RD.ext k.ext _ _ h
  | .own _, _, h => by
    obtain ⟨a, h1, h2, h3⟩ := h
    exact ⟨a, h1, (k.fld _ _ _ h2).1, h3.keep k.ext (k.fld _ _ _ h2).2⟩
  | .exc _, _, h => by
    obtain ⟨⟨_, z⟩, _⟩ := h
    cases z
theorem RSl.keepL (k : Kp T T' H H') {j : Nat} : ∀ {s : Sl} {v : V}, RSl B T H (.loc j) s v → RSl B T' H' (.loc j) s v
  | .val _, _, h => RD.ext k.ext _ _ h
  | .own _, _, h => by
    obtain ⟨a, h1, h2, h3⟩ := h
    exact ⟨a, h1, (k.loc _ _ h2).1, h3.keep k.ext (k.loc _ _ h2).2⟩
  | .exc _, _, h => ⟨h.1, h.2.choose, h.2.choose_spec.1, k.ext.ex.trans h.2.choose_spec.2⟩
theorem RFs.keep (k : Kp T T' H H') {i : Id} {fs : List (Nat × Sl)} {vs : List (Str × V)} (h : RFs B T H i fs vs) : RFs B T' H' i fs vs :=
  Paired.mapP h fun _ _ q => ⟨q.1, RSl.keepF k q.2⟩
theorem ROb.keep (k : Kp T T' H H') {i : Id} {a : Addr} (e : H' a = H a) : ∀ {o : Ob}, ROb B T H i a o → ROb B T' H' i a o
  | .lkd _ _ _, h => ⟨e.trans h.1, h.2.map fun d v q => RD.ext k.ext d v q⟩
  | .ct _, h => RCt.keep k.ext e h
  | .ins _ _, h => by
    obtain ⟨dx, vs, h1, h0, h2⟩ := h
    exact ⟨dx, vs, e.trans h1, h0, h2.keep k⟩
/-- a tag at a new address -/
def Tm.put (T : Tm) (p : Addr) (t : Tag) : Tm := ⟨fun a => if a = p then some t else T.at_ a, T.ex⟩
theorem put_same {p : Addr} {t : Tag} : (T.put p t).at_ p = some t := by simp [Tm.put]
theorem put_ne {p a : Addr} {t : Tag} (h : a ≠ p) : (T.put p t).at_ a = T.at_ a := by simp [Tm.put, h]
theorem RR.fresh (R : RR B T g r H σ) {p : Addr} (np : H p = none) : T.at_ p = none := by
  cases e : T.at_ p with
  | none => rfl
  | some t =>
    obtain ⟨o, q⟩ := R.tg p t e
    rw [np] at q
    cases q
theorem RR.ext_put (R : RR B T g r H σ) {p : Addr} (np : H p = none) (t : Tag) : Ext T (T.put p t) := by
  have ne : ∀ {a t'}, T.at_ a = some t' → a ≠ p := fun {a t'} h q => by
    rw [q, R.fresh np] at h
    cases h
  exact ⟨fun a u h => (put_ne (ne h)).trans h, fun a u h => (put_ne (ne h)).trans h, fun a u h => (put_ne (ne h)).trans h, rfl⟩
theorem RR.kp_put (R : RR B T g r H σ) {p : Addr} (np : H p = none) (t : Tag) (o : HO) : Kp T (T.put p t) H (upd H p o) := by
  have ne : ∀ {a t'}, T.at_ a = some t' → a ≠ p := fun {a t'} h q => by
    rw [q, R.fresh np] at h
    cases h
  exact ⟨R.ext_put np t, fun a i f h => ⟨(put_ne (ne h)).trans h, upd_ne (ne h)⟩, fun a j h => ⟨(put_ne (ne h)).trans h, upd_ne (ne h)⟩⟩
theorem Same.upd {p : Addr} {o : HO} (np : H p = none) : Same H (upd H p o) := fun b q e => by
  rw [upd_ne (ne_of_none e np)]
  exact e
/-- a new thing that nobody changes -/
theorem RR.frozen (R : RR B T g r H σ) {p : Addr} (np : H p = none) (o : HO) : RR B (T.put p (.fz o)) g r (upd H p o) σ := by
  have k := R.kp_put np (.fz o) o
  have ne : ∀ {a t'}, T.at_ a = some t' → a ≠ p := fun {a t'} h q => by
    rw [q, R.fresh np] at h
    cases h
  refine ⟨R.hx, R.len, fun a u h => ?_, fun a u h => ?_, fun a t h => ?_, fun a b i h1 h2 => ?_, fun a i h => ?_, fun i ob h => ?_, fun j s h => ?_⟩
  · by_cases e : a = p
    · subst e
      rw [put_same] at h
      cases h
      exact upd_same
    · rw [put_ne e] at h
      rw [upd_ne e]
      exact R.fz a u h
  · by_cases e : a = p
    · subst e
      rw [put_same] at h
      cases h
    · rw [put_ne e] at h
      rw [upd_ne e]
      exact R.fr a u h
  · by_cases e : a = p
    · subst e
      exact ⟨o, upd_same⟩
    · rw [put_ne e] at h
      rw [upd_ne e]
      exact R.tg a t h
  · have a1 : a ≠ p := fun q => by
      rw [q, put_same] at h1
      cases h1
    have b1 : b ≠ p := fun q => by
      rw [q, put_same] at h2
      cases h2
    rw [put_ne a1] at h1
    rw [put_ne b1] at h2
    exact R.inj a b i h1 h2
  · have a1 : a ≠ p := fun q => by
      rw [q, put_same] at h
      cases h
    rw [put_ne a1] at h
    exact R.dom a i h
  · obtain ⟨a, h1, h2⟩ := R.obj i ob h
    exact ⟨a, k.ext.id _ _ h1, h2.keep k (upd_ne (ne h1))⟩
  · obtain ⟨v, h1, h2⟩ := R.slt j s h
    exact ⟨v, h1, h2.keepL k⟩
/-- a new object at a free name -/
theorem RR.laid (R : RR B T g r H σ) {p : Addr} (np : H p = none) {i : Id} (ni : g i = none) {o : HO} {ob : Ob} (new : ROb B (T.put p (.id i)) (upd H p o) i p ob) : RR B (T.put p (.id i)) (up g i ob) r (upd H p o) σ := by
  have k := R.kp_put np (.id i) o
  have ne : ∀ {a t'}, T.at_ a = some t' → a ≠ p := fun {a t'} h q => by
    rw [q, R.fresh np] at h
    cases h
  have noi : ∀ a, T.at_ a ≠ some (.id i) := fun a h => by
    obtain ⟨o, q⟩ := R.dom a i h
    rw [ni] at q
    cases q
  refine ⟨R.hx, R.len, fun a u h => ?_, fun a u h => ?_, fun a t h => ?_, fun a b j h1 h2 => ?_, fun a j h => ?_, fun j ob' h => ?_, fun j s h => ?_⟩
  · by_cases e : a = p
    · subst e
      rw [put_same] at h
      cases h
    · rw [put_ne e] at h
      rw [upd_ne e]
      exact R.fz a u h
  · by_cases e : a = p
    · subst e
      rw [put_same] at h
      cases h
    · rw [put_ne e] at h
      rw [upd_ne e]
      exact R.fr a u h
  · by_cases e : a = p
    · subst e
      exact ⟨o, upd_same⟩
    · rw [put_ne e] at h
      rw [upd_ne e]
      exact R.tg a t h
  · by_cases ea : a = p
    · by_cases eb : b = p
      · rw [ea, eb]
      · subst ea
        rw [put_same] at h1
        cases h1
        rw [put_ne eb] at h2
        exact absurd h2 (noi b)
    · rw [put_ne ea] at h1
      by_cases eb : b = p
      · subst eb
        rw [put_same] at h2
        cases h2
        exact absurd h1 (noi a)
      · rw [put_ne eb] at h2
        exact R.inj a b j h1 h2
  · by_cases e : a = p
    · subst e
      rw [put_same] at h
      cases h
      exact ⟨ob, up_same _ _ _⟩
    · rw [put_ne e] at h
      obtain ⟨o', q⟩ := R.dom a j h
      refine ⟨o', ?_⟩
      rw [up_ne _ _ (fun z => by rw [z, ni] at q; cases q)]
      exact q
  · by_cases e : j = i
    · subst e
      rw [up_same] at h
      cases h
      exact ⟨p, put_same, new⟩
    · rw [up_ne _ _ e] at h
      obtain ⟨a, h1, h2⟩ := R.obj j ob' h
      exact ⟨a, k.ext.id _ _ h1, h2.keep k (upd_ne (ne h1))⟩
  · obtain ⟨v, h1, h2⟩ := R.slt j s h
    exact ⟨v, h1, h2.keepL k⟩
/-- the object i at a is changed to ob (the tags stay) -/
theorem RR.put (R : RR B T g r H σ) {a : Addr} {i : Id} (ha : T.at_ a = some (.id i)) {o : HO} {ob : Ob} (new : ROb B T (upd H a o) i a ob) : RR B T (up g i ob) r (upd H a o) σ := by
  have ne : ∀ {b t'}, T.at_ b = some t' → t' ≠ .id i → b ≠ a := fun {b t'} h d q => by
    rw [q, ha] at h
    cases h
    exact d rfl
  have k : Kp T T H (upd H a o) := ⟨Ext.refl T, fun b j f h => ⟨h, upd_ne (ne h (by intro z; cases z))⟩, fun b j h => ⟨h, upd_ne (ne h (by intro z; cases z))⟩⟩
  refine ⟨R.hx, R.len, fun b u h => ?_, fun b u h => ?_, fun b t h => ?_, R.inj, fun b j h => ?_, fun j ob' h => ?_, fun j s h => ?_⟩
  · rw [upd_ne (ne h (by intro z; cases z))]
    exact R.fz b u h
  · rw [upd_ne (ne h (by intro z; cases z))]
    exact R.fr b u h
  · by_cases e : b = a
    · subst e
      exact ⟨o, upd_same⟩
    · rw [upd_ne e]
      exact R.tg b t h
  · by_cases e : j = i
    · subst e
      exact ⟨ob, up_same _ _ _⟩
    · rw [up_ne _ _ e]
      exact R.dom b j h
  · by_cases e : j = i
    · subst e
      rw [up_same] at h
      cases h
      exact ⟨a, ha, new⟩
    · rw [up_ne _ _ e] at h
      obtain ⟨b, h1, h2⟩ := R.obj j ob' h
      exact ⟨b, h1, h2.keep k (upd_ne (ne h1 (by intro z; cases z; exact e rfl)))⟩
  · obtain ⟨v, h1, h2⟩ := R.slt j s h
    exact ⟨v, h1, h2.keepL k⟩
/-- a slot gets a value -/
theorem RR.setv (R : RR B T g r H σ) {j : Nat} {d : D} {v : V} (h : RD B T d v) : RR B T g (r.set j (some (.val d))) H (σ.set j (some v)) := by
  have hl := R.len
  refine ⟨R.hx, by simpa using R.len, R.fz, R.fr, R.tg, R.inj, R.dom, R.obj, fun i s e => ?_⟩
  by_cases q : j = i
  · subst q
    by_cases lt : j < r.length
    · rw [List.getElem?_set_self lt] at e
      cases e
      exact ⟨v, by rw [List.getElem?_set_self (by omega)], h⟩
    · rw [List.getElem?_eq_none (by simpa using lt)] at e
      cases e
  · rw [List.getElem?_set_ne q] at e
    obtain ⟨v', h1, h2⟩ := R.slt i s e
    exact ⟨v', by rw [List.getElem?_set_ne q]; exact h1, h2⟩
/-- a slot is forgotten -/
theorem RR.forget (R : RR B T g r H σ) {j : Nat} (σ' : St) (hl : σ'.length = σ.length) (h : ∀ i v, i ≠ j → σ[i]? = some (some v) → σ'[i]? = some (some v)) : RR B T g (r.set j none) H σ' := by
  refine ⟨R.hx, by simpa using hl.trans R.len, R.fz, R.fr, R.tg, R.inj, R.dom, R.obj, fun i s e => ?_⟩
  by_cases q : j = i
  · subst q
    by_cases lt : j < r.length
    · rw [List.getElem?_set_self lt] at e
      cases e
    · rw [List.getElem?_eq_none (by simpa using lt)] at e
      cases e
  · rw [List.getElem?_set_ne q] at e
    obtain ⟨v', h1, h2⟩ := R.slt i s e
    exact ⟨v', h i v' (Ne.symm q) h1, h2⟩
/-- of an object -/
theorem RR.objAt (R : RR B T g r H σ) {i : Id} {o : Ob} {a : Addr} (h : g i = some o) (ha : T.at_ a = some (.id i)) : ROb B T H i a o := by
  obtain ⟨b, h1, h2⟩ := R.obj i o h
  rw [R.inj a b i ha h1]
  exact h2
/-! ### a call: the frame's own containers stand aside -/
def Tm.hide (T : Tm) (H : Hp) : Tm := ⟨fun a => match T.at_ a with
  | some (.loc _) => (H a).map .fr
  | t => t, T.ex⟩
def Tm.back (T T2 : Tm) : Tm := ⟨fun a => match T.at_ a with
  | some (.loc j) => some (.loc j)
  | _ => T2.at_ a, T.ex⟩
theorem hide_loc {a : Addr} {j : Nat} {o : HO} (h : T.at_ a = some (.loc j)) (e : H a = some o) : (T.hide H).at_ a = some (.fr o) := by simp [Tm.hide, h, e]
theorem hide_other {a : Addr} (h : ∀ j, T.at_ a ≠ some (.loc j)) : (T.hide H).at_ a = T.at_ a := by
  unfold Tm.hide
  dsimp only
  split
  · rename_i j e
    exact absurd e (h j)
  · rfl
theorem hide_some {a : Addr} {t : Tag} (h : (T.hide H).at_ a = some t) : T.at_ a = some t ∨ ∃ j o, T.at_ a = some (.loc j) ∧ H a = some o ∧ t = .fr o := by
  unfold Tm.hide at h
  dsimp only at h
  split at h
  · rename_i j e
    obtain ⟨o, h1, h2⟩ := Option.map_eq_some_iff.mp h
    exact .inr ⟨j, o, e, h1, h2.symm⟩
  · exact .inl h
theorem hide_fz {a : Addr} {u : HO} : (T.hide H).at_ a = some (.fz u) ↔ T.at_ a = some (.fz u) := by
  refine ⟨fun h => ?_, fun h => ?_⟩
  · rcases hide_some h with h | ⟨_, _, _, _, z⟩
    · exact h
    · cases z
  · rw [hide_other (fun j z => by rw [z] at h; cases h)]
    exact h
theorem hide_id {a : Addr} {i : Id} : (T.hide H).at_ a = some (.id i) ↔ T.at_ a = some (.id i) := by
  refine ⟨fun h => ?_, fun h => ?_⟩
  · rcases hide_some h with h | ⟨_, _, _, _, z⟩
    · exact h
    · cases z
  · rw [hide_other (fun j z => by rw [z] at h; cases h)]
    exact h
theorem hide_fld {a : Addr} {i : Id} {f : Nat} : (T.hide H).at_ a = some (.fld i f) ↔ T.at_ a = some (.fld i f) := by
  refine ⟨fun h => ?_, fun h => ?_⟩
  · rcases hide_some h with h | ⟨_, _, _, _, z⟩
    · exact h
    · cases z
  · rw [hide_other (fun j z => by rw [z] at h; cases h)]
    exact h
mutual
theorem RD.of {T1 : Tm} (f : ∀ a u, T.at_ a = some (.fz u) → T1.at_ a = some (.fz u)) (i : ∀ a u, T.at_ a = some (.id u) → T1.at_ a = some (.id u)) (x : T1.ex = T.ex) : ∀ (d : D) (v : V), RD B T d v → RD B T1 d v
  | .non, _, h => h
  | .bl _, _, h => h
  | .int _, _, h => h
  | .str _, _, h => h
  | .seq t xs, v, h => by
    obtain ⟨a, vs, h1, h2, h3⟩ := h
    refine ⟨a, vs, h1, ?_, RDs.of f i x xs vs h3⟩
    rcases h2 with ⟨u, h, q⟩ | h
    · exact .inl ⟨u, f _ _ h, q⟩
    · exact .inr h
  | .ref _, v, h => by
    obtain ⟨a, h1, h2⟩ := h
    exact ⟨a, h1, i _ _ h2⟩
  | .giv ns, v, h => by
    obtain ⟨a, h1, h2⟩ := h
    refine ⟨a, h1, ?_⟩
    rcases h2 with ⟨u, h2, h3⟩ | h2
    · exact .inl ⟨u, f _ _ h2, h3⟩
    · exact .inr h2
theorem RDs.of {T1 : Tm} (f : ∀ a u, T.at_ a = some (.fz u) → T1.at_ a = some (.fz u)) (i : ∀ a u, T.at_ a = some (.id u) → T1.at_ a = some (.id u)) (x : T1.ex = T.ex) : ∀ (ds : List D) (vs : List V), RDs B T ds vs → RDs B T1 ds vs
  | [], _, h => h
  | d :: ds, vs, h => by
    obtain ⟨y, ys, h1, h2, h3⟩ := h
    exact ⟨y, ys, h1, RD.of f i x d y h2, RDs.of f i x ds ys h3⟩
end
theorem RCt.of {T1 : Tm} (f : ∀ a u, T.at_ a = some (.fz u) → T1.at_ a = some (.fz u)) (i : ∀ a u, T.at_ a = some (.id u) → T1.at_ a = some (.id u)) (x : T1.ex = T.ex) {a : Addr} (e : H' a = H a) : ∀ {c : Ct}, RCt B T H a c → RCt B T1 H' a c
  | .lst _, h => by
    obtain ⟨vs, h1, h2⟩ := h
    exact ⟨vs, e.trans h1, RDs.of f i x _ _ h2⟩
  | .dct _, h => by
    have h : RDc B T H a _ := h
    rcases h with ⟨ks, q1, q2⟩ | ⟨xs, q0, q1, q2⟩
    · exact .inl ⟨ks, q1.keep e, Paired.mapP q2 fun _ _ z => ⟨z.1, RD.of f i x _ _ z.2⟩⟩
    · exact .inr ⟨xs, q0, q1.keep e, Paired.mapP q2 fun _ _ z => ⟨z.1, z.2.1, RD.of f i x _ _ z.2.2.1, RD.of f i x _ _ z.2.2.2⟩⟩
theorem RSl.ofF {T1 : Tm} (f : ∀ a u, T.at_ a = some (.fz u) → T1.at_ a = some (.fz u)) (i : ∀ a u, T.at_ a = some (.id u) → T1.at_ a = some (.id u)) (x : T1.ex = T.ex)
    (l : ∀ a i f, T.at_ a = some (.fld i f) → T1.at_ a = some (.fld i f) ∧ H' a = H a) {n : Id} {k : Nat} : ∀ {s : Sl} {v : V}, RSl B T H (.fld n k) s v → RSl B T1 H' (.fld n k) s v
  | .val _, _, h => RD.of f i x _ _ h
  | .own _, _, h => by
    obtain ⟨a, h1, h2, h3⟩ := h
    exact ⟨a, h1, (l _ _ _ h2).1, h3.of f i x (l _ _ _ h2).2⟩
  | .exc _, _, h => by
    obtain ⟨⟨_, z⟩, _⟩ := h
    cases z
theorem ROb.of {T1 : Tm} (f : ∀ a u, T.at_ a = some (.fz u) → T1.at_ a = some (.fz u)) (i : ∀ a u, T.at_ a = some (.id u) → T1.at_ a = some (.id u)) (x : T1.ex = T.ex)
    (l : ∀ a i f, T.at_ a = some (.fld i f) → T1.at_ a = some (.fld i f) ∧ H' a = H a) {n : Id} {a : Addr} (e : H' a = H a) : ∀ {o : Ob}, ROb B T H n a o → ROb B T1 H' n a o
  | .lkd _ _ _, h => ⟨e.trans h.1, h.2.map fun d v q => RD.of f i x d v q⟩
  | .ct _, h => RCt.of f i x e h
  | .ins _ _, h => by
    obtain ⟨dx, vs, h1, h0, h2⟩ := h
    exact ⟨dx, vs, e.trans h1, h0, Paired.mapP h2 fun _ _ q => ⟨q.1, RSl.ofF f i x l q.2⟩⟩
/-- into a call -/
theorem RR.enter (R : RR B T g r H σ) : RR B (T.hide H) g [] H [] := by
  refine ⟨R.hx, rfl, fun a u h => R.fz a u (hide_fz.mp h), fun a u h => ?_, fun a t h => ?_, fun a b i h1 h2 => R.inj a b i (hide_id.mp h1) (hide_id.mp h2), fun a i h => R.dom a i (hide_id.mp h), fun i o h => ?_, fun j s h => by simp at h⟩
  · rcases hide_some h with h | ⟨_, _, _, h, z⟩
    · exact R.fr a u h
    · cases z
      exact h
  · rcases hide_some h with h | ⟨_, o, _, h, z⟩
    · exact R.tg a t h
    · exact ⟨o, h⟩
  · obtain ⟨a, h1, h2⟩ := R.obj i o h
    exact ⟨a, hide_id.mpr h1, h2.of (fun _ _ => hide_fz.mpr) (fun _ _ => hide_id.mpr) rfl (fun _ _ _ q => ⟨hide_fld.mpr q, rfl⟩) rfl⟩
theorem RD.enter {d : D} {v : V} (h : RD B T d v) : RD B (T.hide H) d v := RD.of (fun _ _ => hide_fz.mpr) (fun _ _ => hide_id.mpr) rfl _ _ h
theorem RDs.enter {d : List D} {v : List V} (h : RDs B T d v) : RDs B (T.hide H) d v := RDs.of (fun _ _ => hide_fz.mpr) (fun _ _ => hide_id.mpr) rfl _ _ h
theorem back_loc {T2 : Tm} {a : Addr} {j : Nat} (h : T.at_ a = some (.loc j)) : (T.back T2).at_ a = some (.loc j) := by simp [Tm.back, h]
theorem back_some {T2 : Tm} {a : Addr} {t : Tag} (h : (T.back T2).at_ a = some t) : (∃ j, T.at_ a = some (.loc j) ∧ t = .loc j) ∨ T2.at_ a = some t := by
  unfold Tm.back at h
  dsimp only at h
  split at h
  · rename_i j e
    cases h
    exact .inl ⟨j, e, rfl⟩
  · exact .inr h
theorem back_of {T2 : Tm} (R : RR B T g r H σ) (x : Ext (T.hide H) T2) {a : Addr} {t : Tag} (h : T2.at_ a = some t) (nf : ∀ u, t ≠ .fr u) : (T.back T2).at_ a = some t := by
  unfold Tm.back
  dsimp only
  split
  · rename_i j e
    obtain ⟨o, q⟩ := R.tg a _ e
    have z := x.fr a o (hide_loc e q)
    rw [h] at z
    cases z
    exact absurd rfl (nf o)
  · exact h
theorem RD.back {T2 : Tm} (R : RR B T g r H σ) (x : Ext (T.hide H) T2) {d : D} {v : V} (h : RD B T2 d v) : RD B (T.back T2) d v :=
  RD.of (fun _ _ q => back_of R x q (by intro u z; cases z)) (fun _ _ q => back_of R x q (by intro u z; cases z)) (show T.ex = T2.ex from x.ex.symm) _ _ h
theorem back_ext {T2 : Tm} (R : RR B T g r H σ) (x : Ext (T.hide H) T2) : Ext T (T.back T2) := by
  refine ⟨fun a u h => back_of R x (x.fz _ _ (hide_fz.mpr h)) (by intro u z; cases z), fun a u h => ?_, fun a u h => back_of R x (x.id _ _ (hide_id.mpr h)) (by intro u z; cases z), rfl⟩
  unfold Tm.back
  dsimp only
  split
  · rename_i j e
    rw [h] at e
    cases e
  · refine x.fr a u ?_
    rw [hide_other (fun j z => by rw [h] at z; cases z)]
    exact h
theorem RR.leave {T2 : Tm} {g2 : G} {H2 : Hp} (R : RR B T g r H σ) (x : Ext (T.hide H) T2) (R2 : RR B T2 g2 [] H2 []) : RR B (T.back T2) g2 r H2 σ := by
  have loc : ∀ a j, T.at_ a = some (.loc j) → H2 a = H a := fun a j h => by
    obtain ⟨o, q⟩ := R.tg a _ h
    rw [q]
    exact R2.fr a o (x.fr a o (hide_loc h q))
  refine ⟨R.hx, R.len, fun a u h => ?_, fun a u h => ?_, fun a t h => ?_, fun a b i h1 h2 => ?_, fun a i h => ?_, fun i o h => ?_, fun j s h => ?_⟩
  · rcases back_some h with ⟨_, _, z⟩ | h
    · cases z
    · exact R2.fz a u h
  · rcases back_some h with ⟨_, _, z⟩ | h
    · cases z
    · exact R2.fr a u h
  · rcases back_some h with ⟨j, h, _⟩ | h
    · obtain ⟨o, q⟩ := R.tg a _ h
      exact ⟨o, (loc a j h).trans q⟩
    · exact R2.tg a t h
  · rcases back_some h1 with ⟨_, _, z⟩ | h1
    · cases z
    · rcases back_some h2 with ⟨_, _, z⟩ | h2
      · cases z
      · exact R2.inj a b i h1 h2
  · rcases back_some h with ⟨_, _, z⟩ | h
    · cases z
    · exact R2.dom a i h
  · obtain ⟨a, h1, h2⟩ := R2.obj i o h
    exact ⟨a, back_of R x h1 (by intro u z; cases z), h2.of (fun _ _ q => back_of R x q (by intro u z; cases z)) (fun _ _ q => back_of R x q (by intro u z; cases z)) (show T.ex = T2.ex from x.ex.symm) (fun _ _ _ q => ⟨back_of R x q (by intro u z; cases z), rfl⟩) rfl⟩
  · obtain ⟨v, h1, h2⟩ := R.slt j s h
    refine ⟨v, h1, ?_⟩
    have X := back_ext R x
    cases s with
    | val d => exact RD.ext X _ _ h2
    | own c =>
      obtain ⟨a, q1, q2, q3⟩ := h2
      exact ⟨a, q1, back_loc q2, q3.keep X (loc a j q2)⟩
    | exc c => exact ⟨h2.1, h2.2.choose, h2.2.choose_spec.1, X.ex.trans h2.2.choose_spec.2⟩
end Vb

set_option maxHeartbeats 1000000
/-! The plain layer, part 2: expressions. -/
namespace Vb
open PySem L2
/-! ### readings -/
def RSrc (B : Bd) (T : Tm) (H : Hp) (σ : St) (v : V) : Src → Prop
  | .no => True
  | .giv => True
  | .obj i => ∃ a, v = .ref a ∧ T.at_ a = some (.id i)
  | .loc j => ∃ a, v = .ref a ∧ σ[j]? = some (some v)
  | .fld i f => ∃ a b C dx vs x, v = .ref a ∧ T.at_ b = some (.id i) ∧ H b = some (.ins C dx vs) ∧ B.an[f]? = some x ∧ vs.lookup x = some v
def tG {α : Type} (B : Bd) (W : WX) (rel : Tm → Hp → St → α → V → Prop) (wp : Rho → G → (α → G → Prop) → Kx → Prop) (sim : Bool) : TE := fun σ H Q =>
  ∃ (T : Tm) (g : G) (r : Rho) (Ke : α → G → Prop) (Xe : Kx), RR B T g r H σ ∧ wp r g Ke Xe ∧
    (∀ x g' T' H' v, Ext T T' → RR B T' g' r H' σ → rel T' H' σ x v → (sim = true → Same H H') → Ke x g' → Q v H') ∧
    (∀ c g' T' H', Ext T T' → RR B T' g' r H' σ → Xe c g' → W (.ref (B.cad c)) none σ H')
def relD (B : Bd) : Tm → Hp → St → D → V → Prop := fun T _ _ d v => RD B T d v
def RFz (B : Bd) (T : Tm) : Cv → V → Prop
  | .seq false xs, v => ∃ a vs, v = .ref a ∧ FzS B T false a vs ∧ RDs B T xs vs
  | _, _ => True
def RLH (B : Bd) (T : Tm) (H : Hp) : Cv → V → Prop
  | .seq false xs, v => ∃ a vs, v = .ref a ∧ LH H a vs ∧ RDs B T xs vs
  | _, _ => True
def RSr (B : Bd) (T : Tm) (H : Hp) (σ : St) (q : Src × Cv) (v : V) : Prop := RSrc B T H σ v q.1 ∧ (q.1 = .no → RFz B T q.2 v) ∧ (q.1.notGiv = true → RLH B T H q.2 v) ∧ (q.1 = .giv → ∃ (a : Addr) (ns : List Int), v = .ref a ∧ q.2 = .seq false (ns.map D.int) ∧ GvS B T a (ns.map V.int))
def relP (B : Bd) : Tm → Hp → St → Src × Cv → V → Prop := fun T H σ q v => RCv B T H q.2 v ∧ RSr B T H σ q v
/-- a new container that nothing holds -/
def relC (B : Bd) : Tm → Hp → St → Ct → V → Prop := fun T H _ c v => ∃ a, v = .ref a ∧ T.at_ a = none ∧ RCt B T H a c
abbrev tE (B : Bd) (C : Call) (W : WX) (e : E) : TE := tG B W (relD B) (wE B.P C e) (simE e)
abbrev tP (B : Bd) (C : Call) (W : WX) (p : Pl) : TE := tG B W (relP B) (fun r g K X => wP B.P C p r g (fun s c g1 => K (s, c) g1) X) (simP p)
abbrev tC (B : Bd) (C : Call) (W : WX) (c : Cr) : TE := tG B W (relC B) (wC B.P C c) (simC c)
def tAs (B : Bd) (C : Call) (W : WX) (es : Es) : TA := fun σ H Q =>
  ∃ (T : Tm) (g : G) (r : Rho) (Ke : List D → G → Prop) (Xe : Kx), RR B T g r H σ ∧ wEs B.P C es r g Ke Xe ∧
    (∀ x g' T' H' v, Ext T T' → RR B T' g' r H' σ → RDs B T' x v → (simEs es = true → Same H H') → Ke x g' → Q v H') ∧
    (∀ c g' T' H', Ext T T' → RR B T' g' r H' σ → Xe c g' → W (.ref (B.cad c)) none σ H')
def tOs (B : Bd) (C : Call) (W : WX) (o : Oe) : TO := fun σ H Q =>
  ∃ (T : Tm) (g : G) (r : Rho) (Ke : Option Int → G → Prop) (Xe : Kx), RR B T g r H σ ∧ wO B.P C o r g Ke Xe ∧
    (∀ x g' T' H', Ext T T' → RR B T' g' r H' σ → (simO o = true → Same H H') → Ke x g' → Q x H') ∧
    (∀ c g' T' H', Ext T T' → RR B T' g' r H' σ → Xe c g' → W (.ref (B.cad c)) none σ H')
/-- as a test -/
def tB' (B : Bd) (C : Call) (W : WX) (e : E) : TT := fun σ H Q =>
  ∃ (T : Tm) (g : G) (r : Rho) (Ke : Bool → G → Prop) (Xe : Kx), RR B T g r H σ ∧ wB B.P C e r g Ke Xe ∧
    (∀ x g' T' H', Ext T T' → RR B T' g' r H' σ → (simE e = true → Same H H') → Ke x g' → Q x H') ∧
    (∀ c g' T' H', Ext T T' → RR B T' g' r H' σ → Xe c g' → W (.ref (B.cad c)) none σ H')
theorem PE.imp {X : Cx} {e : Expr} {t t' : TE} (h : PE X e t) (i : ∀ σ H Q, t' σ H Q → t σ H Q) : PE X e t' := ⟨fun pins s σ H Q I q => h.run pins s σ H Q I (i σ H Q q)⟩
theorem PT.imp {X : Cx} {e : Expr} {t t' : TT} (h : PT X e t) (i : ∀ σ H Q, t' σ H Q → t σ H Q) : PT X e t' := ⟨fun pins s σ H Q I q => h.run pins s σ H Q I (i σ H Q q)⟩
theorem PA.imp {X : Cx} {e : List Expr} {t t' : TA} (h : PA X e t) (i : ∀ σ H Q, t' σ H Q → t σ H Q) : PA X e t' := ⟨fun pos pins s σ H Q I q => h.run pos pins s σ H Q I (i σ H Q q)⟩
theorem ands {a b : Bool} (h : (a && b) = true) : a = true ∧ b = true := by simpa using h
variable {B : Bd} {C : Call} {W : WX} {X : Cx} {pos : Pos}
variable {T T' : Tm} {g g' : G} {r r' : Rho} {H H' : Hp} {σ σ' : St}
/-! ### new frozen things -/
theorem new_fz (R : RR B T g r H σ) {t : Bool} {ds : List D} {vs : List V} (rv : RDs B T ds vs) {p : Addr} (np : H p = none) :
    Ext T (T.put p (.fz (hdOf t vs))) ∧ RR B (T.put p (.fz (hdOf t vs))) g r (upd H p (hdOf t vs)) σ ∧ RD B (T.put p (.fz (hdOf t vs))) (.seq t ds) (.ref p) ∧ Same H (upd H p (hdOf t vs)) := by
  have x := R.ext_put np (.fz (hdOf t vs))
  exact ⟨x, R.frozen np _, ⟨p, vs, rfl, .inl ⟨_, put_same, .inl rfl⟩, RDs.ext x _ _ rv⟩, Same.upd np⟩
/-- a new container that nothing holds becomes one that nobody changes -/
theorem RR.freeze (R : RR B T g r H σ) {a : Addr} {o : HO} (ha : T.at_ a = none) (e : H a = some o) : Ext T (T.put a (.fz o)) ∧ RR B (T.put a (.fz o)) g r H σ := by
  have ne : ∀ {b t'}, T.at_ b = some t' → b ≠ a := fun {b t'} h q => by
    rw [q, ha] at h
    cases h
  have x : Ext T (T.put a (.fz o)) := ⟨fun b u h => (put_ne (ne h)).trans h, fun b u h => (put_ne (ne h)).trans h, fun b u h => (put_ne (ne h)).trans h, rfl⟩
  have k : Kp T (T.put a (.fz o)) H H := ⟨x, fun b i f h => ⟨(put_ne (ne h)).trans h, rfl⟩, fun b j h => ⟨(put_ne (ne h)).trans h, rfl⟩⟩
  have nid : ∀ b t', (T.put a (.fz o)).at_ b = some t' → (∀ u, t' ≠ .fz u) → T.at_ b = some t' := fun b t' h q => by
    by_cases e : b = a
    · subst e
      rw [put_same] at h
      cases h
      exact absurd rfl (q o)
    · rw [put_ne e] at h
      exact h
  refine ⟨x, R.hx, R.len, fun b u h => ?_, fun b u h => R.fr b u (nid b _ h (by intro u z; cases z)), fun b t h => ?_, fun b c i h1 h2 => R.inj b c i (nid b _ h1 (by intro u z; cases z)) (nid c _ h2 (by intro u z; cases z)),
    fun b i h => R.dom b i (nid b _ h (by intro u z; cases z)), fun i ob h => ?_, fun j s h => ?_⟩
  · by_cases q : b = a
    · subst q
      rw [put_same] at h
      cases h
      exact e
    · rw [put_ne q] at h
      exact R.fz b u h
  · by_cases q : b = a
    · subst q
      exact ⟨o, e⟩
    · rw [put_ne q] at h
      exact R.tg b t h
  · obtain ⟨b, h1, h2⟩ := R.obj i ob h
    exact ⟨b, x.id _ _ h1, h2.keep k rfl⟩
  · obtain ⟨v, h1, h2⟩ := R.slt j s h
    exact ⟨v, h1, h2.keepL k⟩
/-- a new container that nothing holds -/
theorem RR.loose (R : RR B T g r H σ) {p : Addr} (np : H p = none) (o : HO) : RR B T g r (upd H p o) σ := by
  have ne : ∀ {b t'}, T.at_ b = some t' → b ≠ p := fun {b t'} h q => by
    rw [q, R.fresh np] at h
    cases h
  have k : Kp T T H (upd H p o) := ⟨Ext.refl T, fun b i f h => ⟨h, upd_ne (ne h)⟩, fun b j h => ⟨h, upd_ne (ne h)⟩⟩
  refine ⟨R.hx, R.len, fun b u h => (upd_ne (ne h)).trans (R.fz b u h), fun b u h => (upd_ne (ne h)).trans (R.fr b u h), fun b t h => ?_, R.inj, R.dom, fun i ob h => ?_, fun j s h => ?_⟩
  · obtain ⟨q, e⟩ := R.tg b t h
    exact ⟨q, (upd_ne (ne h)).trans e⟩
  · obtain ⟨b, h1, h2⟩ := R.obj i ob h
    exact ⟨b, h1, h2.keep k (upd_ne (ne h1))⟩
  · obtain ⟨v, h1, h2⟩ := R.slt j s h
    exact ⟨v, h1, h2.keepL k⟩
theorem new_lst (R : RR B T g r H σ) {ds : List D} {vs : List V} (rv : RDs B T ds vs) {p : Addr} (np : H p = none) : RR B T g r (upd H p (.lst vs)) σ ∧ relC B T (upd H p (.lst vs)) σ (.lst ds) (.ref p) ∧ Same H (upd H p (.lst vs)) :=
  ⟨R.loose np _, ⟨p, rfl, R.fresh np, vs, upd_same, rv⟩, Same.upd np⟩
/-! ### constants, names -/
theorem a_con {ast : Expr} {d : D} {v : V} (h : PE X ast (L2.tC v)) (hd : ∀ T, RD B T d v) : PE X ast (tE B C W (.con d)) :=
  PE.imp h fun σ H Q ⟨T, g, r, Ke, Xe, R, hw, hq, _⟩ => hq d g T H v (Ext.refl T) R (hd T) (fun _ => Same.refl H) hw
theorem a_var {i : Nat} {x : Str} (hN : X.N[i]? = some x) (hv : Vis X.env.scope x) (hd : (x == ("__debug__" : Str)) = false) (hc : (x == ("__classdict__" : Str)) = false) : PE X (.Name x pos) (tE B C W (.var i)) := by
  refine PE.imp (pe_var hN hv hd hc) fun σ H Q ⟨T, g, r, Ke, Xe, R, hw, hq, _⟩ => ?_
  have hw : (match r[i]? with | some (some (.val d)) => Ke d g | _ => False) := hw
  split at hw
  · rename_i d e
    obtain ⟨v, h1, h2⟩ := R.slt i _ e
    exact ⟨v, h1, hq d g T H v (Ext.refl T) R h2 (fun _ => Same.refl H) hw⟩
  · cases hw
/-! ### operators -/
theorem a_bin {a b : Expr} {ea eb : E} {op : Operator} {o : Op} {rl : R2} (ho : OpR X (binaryOp op) rl)
    (hr : ∀ (x y : D) (v u : V) (T : Tm) (g : G) (r : Rho) (H : Hp) (σ : St) (K : D → Prop) (Q : VK), RR B T g r H σ → RD B T x v → RD B T y u → wOp o x y K →
      (∀ z T' H' v', Ext T T' → RR B T' g r H' σ → RD B T' z v' → Same H H' → K z → Q v' H') → rl v u H Q)
    (ha : PE X a (tE B C W ea)) (hb : PE X b (tE B C W eb)) : PE X (.BinOp a op b pos) (tE B C W (.bin o ea eb)) := by
  refine PE.imp (pe_op ho ha hb) fun σ H Q ⟨T, g, r, Ke, Xe, R, hw, hq, hx⟩ => ?_
  refine ⟨T, g, r, _, Xe, R, hw, fun x g1 T1 H1 v x1 R1 rv sm hk => ?_, hx⟩
  refine ⟨T1, g1, r, _, Xe, R1, hk, fun y g2 T2 H2 u x2 R2 ru sm2 hk2 => ?_, fun c g' T' H' e R' => hx c g' T' H' (x1.trans e) R'⟩
  refine hr x y v u T2 g2 r H2 σ _ Q R2 (RD.ext x2 _ _ rv) ru hk2 fun z T3 H3 v' x3 R3 rz s3 hz => hq z g2 T3 H3 v' ((x1.trans x2).trans x3) R3 rz (fun sim => ?_) hz
  obtain ⟨s1, s2⟩ := ands sim
  exact ((sm s1).trans (sm2 s2)).trans s3
theorem line_le {n : Nat} (h : n ≤ lineN) : n ≤ sizeLine := Nat.le_trans h (by decide)
theorem line_lt {n : Nat} (h : n < lineN) : n < sizeLine := Nat.lt_of_lt_of_le h (by decide)
theorem inv_add {x y : D} {K : D → Prop} (h : wOp .add x y K) : (∃ i j, x = .int i ∧ y = .int j ∧ K (.int (i + j))) ∨ (∃ a b, x = .str a ∧ y = .str b ∧ a.length + b.length ≤ lineN ∧ K (.str (a ++ b))) ∨
    ∃ a b, x = .seq true a ∧ y = .seq true b ∧ a.length + b.length ≤ lineN ∧ K (.seq true (a ++ b)) := by
  unfold wOp at h
  split at h <;> first
    | exact .inl ⟨_, _, rfl, rfl, h⟩
    | exact .inr (.inl ⟨_, _, rfl, rfl, h⟩)
    | exact .inr (.inr ⟨_, _, rfl, rfl, h⟩)
    | exact h.elim
    | contradiction
theorem inv_int {o : Op} {x y : D} {K : D → Prop} (h : wOp o x y K) (ho : o ≠ .add) (hm : o ≠ .mul) : ∃ i j, x = .int i ∧ y = .int j := by
  unfold wOp at h
  split at h <;> first
    | exact ⟨_, _, rfl, rfl⟩
    | exact h.elim
    | exact absurd rfl ho
    | exact absurd rfl hm
theorem inv_mul {x y : D} {K : D → Prop} (h : wOp .mul x y K) : (∃ i j, x = .int i ∧ y = .int j ∧ mulOk i j ∧ K (.int (i * j))) ∨ ∃ a n, x = .str a ∧ y = .int n ∧ (-1000 ≤ n ∧ n ≤ 1000 ∧ a.length ≤ 1000) ∧ K (.str (strRep a n)) := by
  unfold wOp at h
  split at h <;> first
    | exact .inl ⟨_, _, rfl, rfl, h⟩
    | exact .inr ⟨_, _, rfl, rfl, h⟩
    | exact h.elim
    | contradiction
theorem rep_size (c : Array Nat) : ∀ (n : Nat) (a : Array Nat), ((List.replicate n c).foldl (· ++ ·) a).size = a.size + n * c.size
  | 0, a => by simp
  | n + 1, a => by
    rw [List.replicate_succ, List.foldl_cons, rep_size c n, Array.size_append, Nat.succ_mul]
    omega
theorem op_mul_str : OpR X (binaryOp .Mult) (fun x y H Q => ∃ a n, x = .str a ∧ y = .int n ∧ (-1000 ≤ n ∧ n ≤ 1000 ∧ a.length ≤ 1000) ∧ Q (.str (strRep a n)) H) := by
  intro pins s σ H x y v u Q I rx ry h
  obtain ⟨a, n, rfl, rfl, ⟨h1, h2, h3⟩, q⟩ := h
  obtain ⟨t, rfl⟩ := rx
  obtain ⟨t', rfl⟩ := ry
  have fin : ∀ (z : Str) (tk t2 : Tok), Q (.str z) H → EP X pins σ Q (.str z tk) { s with toks := t2 } := fun z tk t2 q => ⟨.str z, H, I.tok _, ⟨_, rfl⟩, q⟩
  have big : n ≥ 1 → a.length * n.toNat ≤ 1000 * 1000 := fun _ => Nat.mul_le_mul h3 (by omega)
  refine PySem.P.mul_str (by rw [decide_eq_false (by omega), decide_eq_false (by omega)]; rfl) (fun e _ => ?_) (fun e _ => ?_) ?_
  · intro z
    have q1 : (2 ^ 63 - 1 : Int) < ((2 ^ 63 - 1) / n + 1) * n := Int.lt_ediv_add_one_mul_self _ (by omega)
    have q2 : ((2 ^ 63 - 1) / n + 1) * n ≤ 1001 * 1000 := Int.mul_le_mul (by omega) h2 (by omega) (by omega)
    omega
  · have := big (by omega)
    show decide (a.length * n.toNat > sizeLine) = false
    rw [sizeLine_eq]
    exact decide_eq_false (by omega)
  · unfold strRep at q
    by_cases e : n < 1
    · rw [if_pos e] at q ⊢
      exact ⟨by decide, fin _ _ _ q⟩
    · rw [if_neg e] at q ⊢
      by_cases e1 : (n == 1 || a.length == 0) = true
      · rw [if_pos e1] at q ⊢
        exact ⟨.str a, H, I, ⟨_, rfl⟩, q⟩
      · rw [if_neg e1] at q ⊢
        refine ⟨?_, fin _ _ _ q⟩
        have hz := rep_size a.cps n.toNat #[]
        have hb := big (by omega)
        show ((List.replicate n.toNat a.cps).foldl (· ++ ·) #[]).size ≤ sizeLine
        rw [hz, sizeLine_eq]
        have e3 : n.toNat * a.cps.size = a.length * n.toNat := Nat.mul_comm _ _
        simp only [List.size_toArray, List.length_nil]
        omega
section
variable {a b : Expr} {ea eb : E}
theorem a_add (ha : PE X a (tE B C W ea)) (hb : PE X b (tE B C W eb)) (hK : X.K = B.K) : PE X (.BinOp a .Add b pos) (tE B C W (.bin .add ea eb)) := by
  refine a_bin (OpR.or op_add (OpR.or op_add_str op_catA)) (fun x y v u T g r H σ K Q R rv ru h f => ?_) ha hb
  rcases inv_add h with ⟨i, j, rfl, rfl, h⟩ | ⟨i, j, rfl, rfl, hl, h⟩ | ⟨xs, ys, rfl, rfl, hl, h⟩
  · exact .inl ⟨i, j, rv, ru, f (.int (i + j)) T H _ (Ext.refl T) R rfl (Same.refl H) h⟩
  · exact .inr (.inl ⟨i, j, rv, ru, line_le hl, f (.str (i ++ j)) T H _ (Ext.refl T) R rfl (Same.refl H) h⟩)
  · obtain ⟨p, vs, rfl, fv, rvs⟩ := id rv
    obtain ⟨q, us, rfl, fu, rus⟩ := id ru
    refine .inr (.inr ⟨p, q, vs, us, rfl, rfl, hK ▸ R.fzT fv, hK ▸ R.fzT fu, by rw [rvs.length, rus.length]; exact line_le hl, fun e => ?_, fun _ e => ?_, fun _ _ n nn => ?_⟩)
    · have e0 := rvs.length
      rw [e] at e0
      have e1 : xs = [] := List.length_eq_zero_iff.mp e0.symm
      rw [e1, List.nil_append] at h
      exact f _ T H _ (Ext.refl T) R ru (Same.refl H) h
    · have e0 := rus.length
      rw [e] at e0
      have e1 : ys = [] := List.length_eq_zero_iff.mp e0.symm
      rw [e1, List.append_nil] at h
      exact f _ T H _ (Ext.refl T) R rv (Same.refl H) h
    · obtain ⟨x3, R3, rd, sm⟩ := new_fz (t := true) R (rvs.append rus) nn
      exact f _ _ _ _ x3 R3 rd sm h
theorem a_sub (ha : PE X a (tE B C W ea)) (hb : PE X b (tE B C W eb)) : PE X (.BinOp a .Sub b pos) (tE B C W (.bin .sub ea eb)) := by
  refine a_bin op_sub (fun x y v u T g r H σ K Q R rv ru h f => ?_) ha hb
  obtain ⟨i, j, rfl, rfl⟩ := inv_int h (by decide) (by decide)
  exact ⟨i, j, rv, ru, f (.int (i - j)) T H _ (Ext.refl T) R rfl (Same.refl H) h⟩
theorem a_mul (ha : PE X a (tE B C W ea)) (hb : PE X b (tE B C W eb)) : PE X (.BinOp a .Mult b pos) (tE B C W (.bin .mul ea eb)) := by
  refine a_bin (OpR.or op_mul op_mul_str) (fun x y v u T g r H σ K Q R rv ru h f => ?_) ha hb
  rcases inv_mul h with ⟨i, j, rfl, rfl, h1, h⟩ | ⟨a, n, rfl, rfl, h1, h⟩
  · exact .inl ⟨i, j, rv, ru, h1, f (.int (i * j)) T H _ (Ext.refl T) R rfl (Same.refl H) h⟩
  · exact .inr ⟨a, n, rv, ru, h1, f (.str (strRep a n)) T H _ (Ext.refl T) R rfl (Same.refl H) h⟩
theorem a_fdiv (ha : PE X a (tE B C W ea)) (hb : PE X b (tE B C W eb)) : PE X (.BinOp a .FloorDiv b pos) (tE B C W (.bin .fdiv ea eb)) := by
  refine a_bin op_fdivN (fun x y v u T g r H σ K Q R rv ru h f => ?_) ha hb
  obtain ⟨i, j, rfl, rfl⟩ := inv_int h (by decide) (by decide)
  obtain ⟨h1, h⟩ : (j ≠ 0 ∧ j.natAbs < 1073741824) ∧ K (.int (i.fdiv j)) := h
  exact ⟨i, j, rv, ru, h1, f (.int (i.fdiv j)) T H _ (Ext.refl T) R rfl (Same.refl H) h⟩
theorem a_mod (ha : PE X a (tE B C W ea)) (hb : PE X b (tE B C W eb)) : PE X (.BinOp a .Mod b pos) (tE B C W (.bin .mod ea eb)) := by
  refine a_bin op_modN (fun x y v u T g r H σ K Q R rv ru h f => ?_) ha hb
  obtain ⟨i, j, rfl, rfl⟩ := inv_int h (by decide) (by decide)
  obtain ⟨h1, h⟩ : j ≠ 0 ∧ K (.int (i.fmod j)) := h
  exact ⟨i, j, rv, ru, h1, f (.int (i.fmod j)) T H _ (Ext.refl T) R rfl (Same.refl H) h⟩
theorem a_pow (ha : PE X a (tE B C W ea)) (hb : PE X b (tE B C W eb)) : PE X (.BinOp a .Pow b pos) (tE B C W (.bin .pow ea eb)) := by
  refine a_bin op_pow (fun x y v u T g r H σ K Q R rv ru h f => ?_) ha hb
  obtain ⟨i, j, rfl, rfl⟩ := inv_int h (by decide) (by decide)
  obtain ⟨h1, h⟩ : (0 ≤ j ∧ j ≤ 1000000 ∧ i.natAbs < 2 ^ 64) ∧ K (.int (i ^ j.toNat)) := h
  exact ⟨i, j, rv, ru, h1, f (.int (i ^ j.toNat)) T H _ (Ext.refl T) R rfl (Same.refl H) h⟩
end
end Vb

set_option maxHeartbeats 1000000
/-! The plain layer, part 3: expressions, further. -/
namespace Vb
open PySem L2
variable {B : Bd} {C : Call} {W : WX} {X : Cx} {pos : Pos}
variable {T T' : Tm} {g g' : G} {r r' : Rho} {H H' : Hp} {σ σ' : St}
/-! ### data as the kit's -/
mutual
theorem data_eqv : ∀ (x y : D), x.pure = true → y.pure = true → PyData.eqv x.data y.data = D.eqv x y
  | .non, y, _, hy => by
    cases y with
    | seq t ys => cases t <;> simp [D.data, PyData.eqv, D.eqv]
    | ref _ => simp [D.pure] at hy
    | giv _ => simp [D.pure] at hy
    | _ => simp [D.data, PyData.eqv, D.eqv]
  | .bl a, y, _, hy => by
    cases y with
    | seq t ys => cases t <;> simp [D.data, PyData.eqv, D.eqv]
    | ref _ => simp [D.pure] at hy
    | giv _ => simp [D.pure] at hy
    | _ => simp [D.data, PyData.eqv, D.eqv]
  | .int a, y, _, hy => by
    cases y with
    | seq t ys => cases t <;> simp [D.data, PyData.eqv, D.eqv]
    | ref _ => simp [D.pure] at hy
    | giv _ => simp [D.pure] at hy
    | _ => simp [D.data, PyData.eqv, D.eqv]
  | .str a, y, _, hy => by
    cases y with
    | seq t ys => cases t <;> simp [D.data, PyData.eqv, D.eqv]
    | ref _ => simp [D.pure] at hy
    | giv _ => simp [D.pure] at hy
    | _ => simp [D.data, PyData.eqv, D.eqv]
  | .seq t xs, y, hx, hy => by
    cases y with
    | seq u ys =>
      have ih := datas_eqv xs ys (by simpa [D.pure] using hx) (by simpa [D.pure] using hy)
      cases t <;> cases u <;> simp [D.data, PyData.eqv, D.eqv, ih]
    | ref _ => simp [D.pure] at hy
    | giv _ => simp [D.pure] at hy
    | _ => cases t <;> simp [D.data, PyData.eqv, D.eqv]
  | .ref _, y, hx, _ => by simp [D.pure] at hx
  | .giv _, y, hx, _ => by simp [D.pure] at hx
theorem datas_eqv : ∀ (x y : List D), D.pures x = true → D.pures y = true → PyData.eqvAll (D.datas x) (D.datas y) = D.eqvs x y
  | [], y, _, _ => by cases y <;> simp [D.datas, PyData.eqvAll, D.eqvs]
  | x :: xs, [], _, _ => by simp [D.datas, PyData.eqvAll, D.eqvs]
  | x :: xs, y :: ys, hx, hy => by
    simp only [D.pures, Bool.and_eq_true] at hx hy
    simp [D.datas, PyData.eqvAll, D.eqvs, data_eqv x y hx.1 hy.1, datas_eqv xs ys hx.2 hy.2]
end
mutual
theorem data_lay : ∀ (x : D), x.pure = true → x.data.canLay0 = true
  | .non, _ => rfl
  | .bl _, _ => rfl
  | .int _, _ => rfl
  | .str x, h => by
    have h' : PyData.strOk x = true := h
    simpa [D.data, PyData.canLay0] using h'
  | .seq t xs, h => by
    have ih := datas_lay xs (by simpa [D.pure] using h)
    cases t <;> simpa [D.data, PyData.canLay0] using ih
  | .ref _, h => by simp [D.pure] at h
  | .giv _, h => by simp [D.pure] at h
theorem datas_lay : ∀ (x : List D), D.pures x = true → PyData.canLayAll0 (D.datas x) = true
  | [], _ => rfl
  | x :: xs, h => by
    simp only [D.pures, Bool.and_eq_true] at h
    simp [D.datas, PyData.canLayAll0, data_lay x h.1, datas_lay xs h.2]
end
mutual
theorem data_dep : ∀ (x : D), x.pure = true → x.data.depth = x.dep
  | .non, _ => by simp [D.data, PyData.depth, D.dep]
  | .bl _, _ => by simp [D.data, PyData.depth, D.dep]
  | .int _, _ => by simp [D.data, PyData.depth, D.dep]
  | .str x, _ => by simp [D.data, PyData.depth, D.dep]
  | .seq t xs, h => by
    have ih := datas_dep xs (by simpa [D.pure] using h)
    cases t <;> simp [D.data, PyData.depth, D.dep, ih]
  | .ref _, h => by simp [D.pure] at h
  | .giv _, h => by simp [D.pure] at h
theorem datas_dep : ∀ (x : List D), D.pures x = true → PyData.depthAll (D.datas x) = D.deps x
  | [], _ => by simp [D.datas, PyData.depthAll, D.deps]
  | x :: xs, h => by
    simp only [D.pures, Bool.and_eq_true] at h
    simp [D.datas, PyData.depthAll, D.deps, data_dep x h.1, datas_dep xs h.2]
end
mutual
theorem RD.dp (R : RR B T g r H σ) : ∀ (d : D) (v : V), d.pure = true → RD B T d v → Dp B.K H v d.data
  | .non, v, _, h => by rw [show v = V.non from h]; exact .non
  | .bl _, v, _, h => by rw [show v = _ from h]; exact .bl _
  | .int _, v, _, h => by rw [show v = _ from h]; exact .int _
  | .str _, v, _, h => by rw [show v = _ from h]; exact .str _
  | .seq true xs, v, p, h => by
    obtain ⟨a, vs, rfl, f, rs⟩ := h
    exact .tup (R.fzT f) (RDs.dp R xs vs (by simpa [D.pure] using p) rs)
  | .seq false xs, v, p, h => by
    obtain ⟨a, vs, rfl, f, rs⟩ := h
    exact .lst (R.fzL f) (RDs.dp R xs vs (by simpa [D.pure] using p) rs)
  | .ref _, _, h, _ => by simp [D.pure] at h
  | .giv _, _, h, _ => by simp [D.pure] at h
theorem RDs.dp (R : RR B T g r H σ) : ∀ (d : List D) (v : List V), D.pures d = true → RDs B T d v → DpAll B.K H v (D.datas d)
  | [], v, _, h => by rw [show v = [] from h]; exact .nil
  | x :: xs, v, p, h => by
    obtain ⟨y, ys, rfl, h1, h2⟩ := h
    simp only [D.pures, Bool.and_eq_true] at p
    exact .cons (RD.dp R x y p.1 h1) (RDs.dp R xs ys p.2 h2)
end
def rEqM (K : PySem.W.Frag) (neg : Bool) : R2 := fun x y H Q => ∃ d e, Dp K H x d ∧ Dp K H y e ∧ d.canLay0 = true ∧ e.canLay0 = true ∧ min d.depth e.depth ≤ 60 ∧ Q (.bl (neg != PyData.eqv d e)) H
theorem op_eqM (hu : X.A.units + 200 < cLine) : OpR X (compareOp .Eq) (rEqM X.K false) := by
  intro pins s σ H x y v u Q I rx ry h
  obtain ⟨d, e, hd, he, sd, se, hm, q⟩ := h
  obtain ⟨as, r1⟩ := Dp.reads I d x v hd rx
  obtain ⟨bs, r2⟩ := Dp.reads I e y u he ry
  exact SeqAt.compareEq_reads r1 r2 sd se (by omega) ⟨.bl _, H, I, by simp [RelV], q⟩
theorem op_neM (hu : X.A.units + 200 < cLine) : OpR X (compareOp .NotEq) (rEqM X.K true) := by
  intro pins s σ H x y v u Q I rx ry h
  obtain ⟨d, e, hd, he, sd, se, hm, q⟩ := h
  obtain ⟨as, r1⟩ := Dp.reads I d x v hd rx
  obtain ⟨bs, r2⟩ := Dp.reads I e y u he ry
  exact SeqAt.compareNe_reads r1 r2 sd se (by omega) ⟨.bl _, H, I, by simp [RelV], q⟩
def rInM (K : PySem.W.Frag) (neg : Bool) : R2 := fun x y H Q => ∃ d ds, Dp K H x d ∧ (Dp K H y (.list ds) ∨ Dp K H y (.tuple ds)) ∧ d.canLay0 = true ∧ PyData.canLayAll0 ds = true ∧ d.depth ≤ 60 ∧ Q (.bl (neg != ds.any fun z => PyData.eqv z d)) H
theorem op_inM (hu : X.A.units + 200 < cLine) : OpR X (compareOp .In) (rInM X.K false) := by
  intro pins s σ H x y v u Q I rx ry h
  obtain ⟨d, ds, hd, he, sd, se, hm, q⟩ := h
  obtain ⟨as, r1⟩ := Dp.reads I d x v hd rx
  rcases he with he | he
  · obtain ⟨bs, r2⟩ := Dp.reads I _ y u he ry
    exact SeqAt.in_list_reads r2 r1 se sd (by omega) ⟨.bl _, H, I, by simp [RelV], q⟩
  · obtain ⟨bs, r2⟩ := Dp.reads I _ y u he ry
    exact SeqAt.in_tuple_reads r2 r1 se sd (by omega) ⟨.bl _, H, I, by simp [RelV], q⟩
theorem op_notInM (hu : X.A.units + 200 < cLine) : OpR X (compareOp .NotIn) (rInM X.K true) := by
  intro pins s σ H x y v u Q I rx ry h
  obtain ⟨d, ds, hd, he, sd, se, hm, q⟩ := h
  obtain ⟨as, r1⟩ := Dp.reads I d x v hd rx
  rcases he with he | he
  · obtain ⟨bs, r2⟩ := Dp.reads I _ y u he ry
    exact SeqAt.notIn_list_reads r2 r1 se sd (by omega) ⟨.bl _, H, I, by simp [RelV], q⟩
  · obtain ⟨bs, r2⟩ := Dp.reads I _ y u he ry
    exact SeqAt.notIn_tuple_reads r2 r1 se sd (by omega) ⟨.bl _, H, I, by simp [RelV], q⟩
/-- two data compared -/
theorem eq_read (R : RR B T g r H σ) {x y : D} {v u : V} (rv : RD B T x v) (ru : RD B T y u) (ok : D.eqOk x y = true) {neg : Bool} {Q : VK} (q : Q (.bl (neg != D.eqv x y)) H) :
    (scal v u = true ∧ Q (.bl (neg != decide (v = u))) H) ∨ rEqM B.K neg v u H Q := by
  have full : x.pure = true → y.pure = true → min x.dep y.dep ≤ 60 → rEqM B.K neg v u H Q := fun px py hm =>
    ⟨x.data, y.data, RD.dp R x v px rv, RD.dp R y u py ru, data_lay x px, data_lay y py, by rw [data_dep x px, data_dep y py]; exact hm, by rw [data_eqv x y px py]; exact q⟩
  unfold D.eqOk at ok
  split at ok
  · rename_i i j
    obtain rfl : v = V.int i := rv
    obtain rfl : u = V.int j := ru
    refine .inl ⟨rfl, ?_⟩
    rw [dec_int]
    exact q
  · rename_i i j
    obtain rfl : v = V.str i := rv
    obtain rfl : u = V.str j := ru
    refine .inl ⟨rfl, ?_⟩
    rw [dec_str]
    exact q
  · rename_i i j
    obtain rfl : v = V.bl i := rv
    obtain rfl : u = V.bl j := ru
    refine .inl ⟨rfl, ?_⟩
    rw [dec_bl]
    exact q
  · rename_i i
    obtain rfl : v = V.non := rv
    obtain rfl : u = V.int i := ru
    exact .inl ⟨rfl, by simpa [D.eqv] using q⟩
  · rename_i i
    obtain rfl : v = V.int i := rv
    obtain rfl : u = V.non := ru
    exact .inl ⟨rfl, by simpa [D.eqv] using q⟩
  · rename_i i
    obtain rfl : v = V.non := rv
    obtain rfl : u = V.str i := ru
    exact .inl ⟨rfl, by simpa [D.eqv] using q⟩
  · rename_i i
    obtain rfl : v = V.str i := rv
    obtain rfl : u = V.non := ru
    exact .inl ⟨rfl, by simpa [D.eqv] using q⟩
  · simp only [Bool.and_eq_true, decide_eq_true_eq] at ok
    exact .inr (full ok.1 ok.2.1 ok.2.2)
/-! ### comparisons -/
def cmOp : Cm → CmpOp
  | .eq => .Eq | .ne => .NotEq | .lt => .Lt | .le => .LtE | .gt => .Gt | .ge => .GtE | .is_ => .Is | .isnot => .IsNot
def rlC (K : PySem.W.Frag) : Cm → R2
  | .eq => fun x y H Q => rEq x y H Q ∨ rEqM K false x y H Q
  | .ne => fun x y H Q => rNe x y H Q ∨ rEqM K true x y H Q
  | .lt => rI0 fun i j => .bl (decide (i < j))
  | .le => rI0 fun i j => .bl (decide (i ≤ j))
  | .gt => rI0 fun i j => .bl (decide (j < i))
  | .ge => rI0 fun i j => .bl (decide (j ≤ i))
  | .is_ => fun x y H Q => (y = .non ∧ Q (.bl (decide (x = .non))) H) ∨ rIsB x y H Q
  | .isnot => fun x y H Q => (y = .non ∧ Q (.bl (!decide (x = .non))) H) ∨ rNotB x y H Q
theorem op_cm (hu : X.A.units + 200 < cLine) (o : Cm) : OpR X (compareOp (cmOp o)) (rlC X.K o) := by
  cases o with
  | eq => exact OpR.or op_eq (op_eqM hu)
  | ne => exact OpR.or op_ne (op_neM hu)
  | lt => exact op_lt
  | le => exact op_le
  | gt => exact op_gt
  | ge => exact op_ge
  | is_ => exact OpR.or op_isN op_isBl
  | isnot => exact OpR.or op_notN op_notBl
theorem RD.non_iff {d : D} {v : V} (h : RD B T d v) : decide (v = V.non) = decide (d = .non) := by
  cases d with
  | non => rw [show v = V.non from h]; rfl
  | bl b => rw [show v = V.bl b from h]; rfl
  | int i => rw [show v = V.int i from h]; simp
  | str x => rw [show v = V.str x from h]; simp
  | seq t xs => obtain ⟨a, vs, rfl, _⟩ := h; simp
  | ref i => obtain ⟨a, rfl, _⟩ := h; simp
  | giv ns => obtain ⟨a, rfl, _⟩ := h; simp
theorem cm_read (hK : X.K = B.K) (R : RR B T g r H σ) {o : Cm} {x y : D} {v u : V} (rv : RD B T x v) (ru : RD B T y u) {K : Bool → Prop} (h : wCm o x y K) {Q : VK} (q : ∀ b, K b → Q (.bl b) H) : rlC X.K o v u H Q := by
  rw [hK]
  cases o with
  | eq =>
    obtain ⟨ok, h⟩ := h
    rcases eq_read (neg := false) R rv ru ok (by simpa using q _ h) with ⟨a, b⟩ | z
    · exact .inl ⟨a, by simpa using b⟩
    · exact .inr z
  | ne =>
    obtain ⟨ok, h⟩ := h
    rcases eq_read (neg := true) R rv ru ok (by simpa using q _ h) with ⟨a, b⟩ | z
    · exact .inl ⟨a, by simpa using b⟩
    · exact .inr z
  | lt =>
    unfold wCm at h
    dsimp only at h
    split at h
    · rename_i i j
      exact ⟨i, j, rv, ru, q _ h⟩
    · exact h.elim
  | le =>
    unfold wCm at h
    dsimp only at h
    split at h
    · rename_i i j
      exact ⟨i, j, rv, ru, q _ h⟩
    · exact h.elim
  | gt =>
    unfold wCm at h
    dsimp only at h
    split at h
    · rename_i i j
      exact ⟨i, j, rv, ru, q _ h⟩
    · exact h.elim
  | ge =>
    unfold wCm at h
    dsimp only at h
    split at h
    · rename_i i j
      exact ⟨i, j, rv, ru, q _ h⟩
    · exact h.elim
  | is_ =>
    unfold wCm at h
    dsimp only at h
    split at h
    · exact .inl ⟨ru, by rw [rv.non_iff]; exact q _ h⟩
    · split at h
      · rename_i b _ a
        exact .inr ⟨a, b, rv, ru, q _ h⟩
      · exact h.elim
    · exact h.elim
  | isnot =>
    unfold wCm at h
    dsimp only at h
    split at h
    · exact .inl ⟨ru, by rw [rv.non_iff]; exact q _ h⟩
    · split at h
      · rename_i b _ a
        exact .inr ⟨a, b, rv, ru, q _ h⟩
      · exact h.elim
    · exact h.elim
/-- a test is a value that is True or False -/
theorem tB_tE {e : E} {σ : St} {H : Hp} {Q : Bool → Hp → Prop} (h : tB' B C W e σ H Q) : tE B C W e σ H fun x H' => ∃ k, x = .bl k ∧ Q k H' := by
  obtain ⟨T, g, r, Ke, Xe, R, hw, hq, hx⟩ := h
  refine ⟨T, g, r, _, Xe, R, hw, fun x g1 T1 H1 v x1 R1 rv sm hk => ?_, hx⟩
  cases x with
  | bl b => exact ⟨b, rv, hq b g1 T1 H1 x1 R1 sm hk⟩
  | _ => exact hk.elim
theorem b_val {e : E} {ast : Expr} (h : PE X ast (tE B C W e)) (he : ∀ whole, isTrue ast X.env whole = (do let v ← whole; standAt ast.pos; holding [v] (truthy v))) : PT X ast (tB' B C W e) :=
  PT.imp (pt_val h he) fun σ H Q q => tB_tE q
section
variable {a b c : Expr} {ea eb ec : E}
theorem cmp_conv (hK : X.K = B.K) {o : Cm} {σ : St} {H : Hp} {Q : VK} (h : tE B C W (.cmp o ea eb) σ H Q) : tOp (rlC X.K o) (tE B C W ea) (tE B C W eb) σ H Q := by
  obtain ⟨T, g, r, Ke, Xe, R, hw, hq, hx⟩ := h
  refine ⟨T, g, r, _, Xe, R, hw, fun x g1 T1 H1 v x1 R1 rv sm hk => ?_, hx⟩
  refine ⟨T1, g1, r, _, Xe, R1, hk, fun y g2 T2 H2 u x2 R2 ru sm2 hk2 => ?_, fun c g' T' H' e R' => hx c g' T' H' (x1.trans e) R'⟩
  refine cm_read hK R2 (RD.ext x2 _ _ rv) ru hk2 fun b hb => hq (.bl b) g2 T2 H2 _ (x1.trans x2) R2 rfl (fun sim => ?_) hb
  obtain ⟨s1, s2⟩ := ands sim
  exact (sm s1).trans (sm2 s2)
theorem a_cmp (hu : X.A.units + 200 < cLine) (hK : X.K = B.K) {o : Cm} (ha : PE X a (tE B C W ea)) (hb : PE X b (tE B C W eb)) (hm : behindInMarks (cmOp o) b = false) : PE X (.Compare a [cmOp o] [b] pos) (tE B C W (.cmp o ea eb)) :=
  PE.imp (pe_cmpR (op_cm hu o) ha hb hm) fun _ _ _ h => cmp_conv hK h
theorem b_cmp (hu : X.A.units + 200 < cLine) (hK : X.K = B.K) {o : Cm} (ha : PE X a (tE B C W ea)) (hb : PE X b (tE B C W eb)) (hm : behindInMarks (cmOp o) b = false) : PT X (.Compare a [cmOp o] [b] pos) (tB' B C W (.cmp o ea eb)) :=
  PT.imp (pt_cmpR (op_cm hu o) ha hb hm) fun _ _ _ h => cmp_conv hK (tB_tE h)
theorem chain_conv (hK : X.K = B.K) {o o' : Cm} {σ : St} {H : Hp} {Q : VK} (h : tE B C W (.chain o o' ea eb ec) σ H Q) : tChain (rlC X.K o) (rlC X.K o') (tE B C W ea) (tE B C W eb) (tE B C W ec) σ H Q := by
  obtain ⟨T, g, r, Ke, Xe, R, hw, hq, hx⟩ := h
  refine ⟨T, g, r, _, Xe, R, hw, fun x g1 T1 H1 v x1 R1 rv sm hk => ?_, hx⟩
  refine ⟨T1, g1, r, _, Xe, R1, hk, fun y g2 T2 H2 u x2 R2 ru sm2 hk2 => ?_, fun c g' T' H' e R' => hx c g' T' H' (x1.trans e) R'⟩
  refine cm_read hK R2 (RD.ext x2 _ _ rv) ru hk2 fun b hb => ⟨b, rfl, ?_⟩
  cases b with
  | false =>
    simp only [Bool.false_eq_true, if_false] at hb ⊢
    refine hq (.bl false) g2 T2 H2 _ (x1.trans x2) R2 rfl (fun sim => ?_) hb
    obtain ⟨s1, s2⟩ := ands sim
    exact (sm s1).trans (sm2 (ands s2).1)
  | true =>
    simp only [if_true] at hb ⊢
    refine ⟨T2, g2, r, _, Xe, R2, hb, fun z g3 T3 H3 z' x3 R3 rz sm3 hk3 => ?_, fun c g' T' H' e R' => hx c g' T' H' ((x1.trans x2).trans e) R'⟩
    refine cm_read hK R3 (RD.ext x3 _ _ ru) rz hk3 fun b hb => hq (.bl b) g3 T3 H3 _ ((x1.trans x2).trans x3) R3 rfl (fun sim => ?_) hb
    obtain ⟨s1, s2⟩ := ands sim
    obtain ⟨s2, s3⟩ := ands s2
    exact ((sm s1).trans (sm2 s2)).trans (sm3 s3)
theorem a_chain (hu : X.A.units + 200 < cLine) (hK : X.K = B.K) {o o' : Cm} (ha : PE X a (tE B C W ea)) (hb : PE X b (tE B C W eb)) (hc : PE X c (tE B C W ec)) (hm : lastMarks [cmOp o, cmOp o'] [b, c] = false) :
    PE X (.Compare a [cmOp o, cmOp o'] [b, c] pos) (tE B C W (.chain o o' ea eb ec)) := PE.imp (pe_chain (op_cm hu o) (op_cm hu o') ha hb hc hm) fun _ _ _ h => chain_conv hK h
theorem b_chain (hu : X.A.units + 200 < cLine) (hK : X.K = B.K) {o o' : Cm} (ha : PE X a (tE B C W ea)) (hb : PE X b (tE B C W eb)) (hc : PE X c (tE B C W ec)) (hm : lastMarks [cmOp o, cmOp o'] [b, c] = false) :
    PT X (.Compare a [cmOp o, cmOp o'] [b, c] pos) (tB' B C W (.chain o o' ea eb ec)) := PT.imp (pt_chain (op_cm hu o) (op_cm hu o') ha hb hc hm) fun _ _ _ h => chain_conv hK (tB_tE h)
/-! ### not, - -/
theorem a_neg (ha : PE X a (tE B C W ea)) : PE X (.UnaryOp .USub a pos) (tE B C W (.neg ea)) := by
  refine PE.imp (pe_un un_neg ha) fun σ H Q ⟨T, g, r, Ke, Xe, R, hw, hq, hx⟩ => ?_
  refine ⟨T, g, r, _, Xe, R, hw, fun x g1 T1 H1 v x1 R1 rv sm hk => ?_, hx⟩
  cases x with
  | int i => exact ⟨i, rv, hq (.int (-i)) g1 T1 H1 _ x1 R1 rfl sm hk⟩
  | _ => exact hk.elim
theorem a_not (ha : PE X a (tE B C W ea)) : PE X (.UnaryOp .Not a pos) (tE B C W (.not ea)) := by
  refine PE.imp (pe_not ha) fun σ H Q ⟨T, g, r, Ke, Xe, R, hw, hq, hx⟩ => ?_
  refine ⟨T, g, r, _, Xe, R, hw, fun x g1 T1 H1 v x1 R1 rv sm hk => ?_, hx⟩
  cases x with
  | bl b => exact ⟨b, rv, hq (.bl (!b)) g1 T1 H1 _ x1 R1 rfl sm hk⟩
  | _ => exact hk.elim
theorem b_not (ha : PT X a (tB' B C W ea)) : PT X (.UnaryOp .Not a pos) (tB' B C W (.not ea)) := by
  refine PT.imp (pt_not ha) fun σ H Q ⟨T, g, r, Ke, Xe, R, hw, hq, hx⟩ => ?_
  refine ⟨T, g, r, fun b g1 => Ke (!b) g1, Xe, R, ?_, fun x g1 T1 H1 x1 R1 sm hk => hq (!x) g1 T1 H1 x1 R1 sm hk, hx⟩
  have e : wB B.P C (.not ea) r g Ke Xe = wB B.P C ea r g (fun b g1 => Ke (!b) g1) Xe := by
    refine congrFun (congrArg (wE B.P C ea r g) ?_) Xe
    funext d g1
    cases d <;> rfl
  rw [← e]
  exact hw
/-! ### and, or -/
/-- the values of a list of expressions, each by itself -/
def AllE (B : Bd) (C : Call) (W : WX) (X : Cx) : List Expr → Es → Prop
  | [], .nil => True
  | a :: as, .cons e es => PE X a (tE B C W e) ∧ AllE B C W X as es
  | _, _ => False
def AllB (B : Bd) (C : Call) (W : WX) (X : Cx) : List Expr → Es → Prop
  | [], .nil => True
  | a :: as, .cons e es => PT X a (tB' B C W e) ∧ AllB B C W X as es
  | _, _ => False
theorem bo_one {k : Bool} {e : E} {σ : St} {H : Hp} {Q : VK} (h : tE B C W (.bo k (.cons e .nil)) σ H Q) : tE B C W e σ H Q := by
  obtain ⟨T, g, r, Ke, Xe, R, hw, hq, hx⟩ := h
  exact ⟨T, g, r, Ke, Xe, R, hw, fun x g1 T1 H1 v x1 R1 rv sm hk => hq x g1 T1 H1 v x1 R1 rv (fun s => sm (ands s).1) hk, hx⟩
theorem bo_oneB {k : Bool} {e : E} {σ : St} {H : Hp} {Q : Bool → Hp → Prop} (h : tB' B C W (.bo k (.cons e .nil)) σ H Q) : tB' B C W e σ H Q := by
  obtain ⟨T, g, r, Ke, Xe, R, hw, hq, hx⟩ := h
  exact ⟨T, g, r, Ke, Xe, R, hw, fun x g1 T1 H1 x1 R1 sm hk => hq x g1 T1 H1 x1 R1 (fun s => sm (ands s).1) hk, hx⟩
theorem a_and : ∀ (as : List Expr) (es : Es), AllE B C W X as es → as ≠ [] → PE X (.BoolOp .And as pos) (tE B C W (.bo true es))
  | [], _, _, n => absurd rfl n
  | [a], .cons e .nil, h, _ => PE.imp (pe_one h.1) fun _ _ _ q => bo_one q
  | [_], .nil, h, _ => h.elim
  | [_], .cons _ (.cons _ _), h, _ => h.2.elim
  | _ :: _ :: _, .nil, h, _ => h.elim
  | _ :: _ :: _, .cons _ .nil, h, _ => h.2.elim
  | a :: b :: r, .cons e (.cons e2 es), h, _ => by
    refine PE.imp (pe_and h.1 (a_and (b :: r) (.cons e2 es) h.2 (by simp))) fun σ H Q ⟨T, g, ρ, Ke, Xe, R, hw, hq, hx⟩ => ?_
    refine ⟨T, g, ρ, _, Xe, R, hw, fun x g1 T1 H1 v x1 R1 rv sm hk => ?_, hx⟩
    cases x with
    | bl c =>
      refine ⟨c, rv, ?_⟩
      cases c with
      | true => exact ⟨T1, g1, ρ, _, Xe, R1, hk, fun y g2 T2 H2 u x2 R2 ru sm2 hk2 => hq y g2 T2 H2 u (x1.trans x2) R2 ru (fun s => (sm (ands s).1).trans (sm2 (ands s).2)) hk2, fun c g' T' H' e R' => hx c g' T' H' (x1.trans e) R'⟩
      | false => exact hq (.bl false) g1 T1 H1 _ x1 R1 rfl (fun s => sm (ands s).1) hk
    | _ => exact hk.elim
theorem a_or : ∀ (as : List Expr) (es : Es), AllE B C W X as es → as ≠ [] → PE X (.BoolOp .Or as pos) (tE B C W (.bo false es))
  | [], _, _, n => absurd rfl n
  | [a], .cons e .nil, h, _ => PE.imp (pe_one h.1) fun _ _ _ q => bo_one q
  | [_], .nil, h, _ => h.elim
  | [_], .cons _ (.cons _ _), h, _ => h.2.elim
  | _ :: _ :: _, .nil, h, _ => h.elim
  | _ :: _ :: _, .cons _ .nil, h, _ => h.2.elim
  | a :: b :: r, .cons e (.cons e2 es), h, _ => by
    refine PE.imp (pe_or h.1 (a_or (b :: r) (.cons e2 es) h.2 (by simp))) fun σ H Q ⟨T, g, ρ, Ke, Xe, R, hw, hq, hx⟩ => ?_
    refine ⟨T, g, ρ, _, Xe, R, hw, fun x g1 T1 H1 v x1 R1 rv sm hk => ?_, hx⟩
    cases x with
    | bl c =>
      refine ⟨c, rv, ?_⟩
      cases c with
      | false => exact ⟨T1, g1, ρ, _, Xe, R1, hk, fun y g2 T2 H2 u x2 R2 ru sm2 hk2 => hq y g2 T2 H2 u (x1.trans x2) R2 ru (fun s => (sm (ands s).1).trans (sm2 (ands s).2)) hk2, fun c g' T' H' e R' => hx c g' T' H' (x1.trans e) R'⟩
      | true => exact hq (.bl true) g1 T1 H1 _ x1 R1 rfl (fun s => sm (ands s).1) hk
    | _ => exact hk.elim
theorem wBo_test {k : Bool} {e e2 : E} {es : Es} {r : Rho} {g : G} {Ke : Bool → G → Prop} {Xe : Kx} :
    wB B.P C (.bo k (.cons e (.cons e2 es))) r g Ke Xe = wB B.P C e r g (fun b g1 => if b = k then wB B.P C (.bo k (.cons e2 es)) r g1 Ke Xe else Ke b g1) Xe := by
  refine congrFun (congrArg (wE B.P C e r g) ?_) Xe
  funext d g1
  cases d with
  | bl b =>
    show (if b = k then _ else _) = (if b = k then _ else _)
    rfl
  | _ => rfl
theorem w_and : ∀ (as : List Expr) (es : Es), AllB B C W X as es → as ≠ [] → PW X (.BoolOp .And as pos) (tB' B C W (.bo true es))
  | [], _, _, n => absurd rfl n
  | [a], .cons e .nil, h, _ => ⟨fun wh pins s σ H Q I q => (pw_and1 h.1).run wh pins s σ H Q I (bo_oneB q)⟩
  | [_], .nil, h, _ => h.elim
  | [_], .cons _ (.cons _ _), h, _ => h.2.elim
  | _ :: _ :: _, .nil, h, _ => h.elim
  | _ :: _ :: _, .cons _ .nil, h, _ => h.2.elim
  | a :: b :: r, .cons e (.cons e2 es), h, _ => by
    refine ⟨fun wh pins s σ H Q I q => (pw_and h.1 (w_and (b :: r) (.cons e2 es) h.2 (by simp))).run wh pins s σ H Q I ?_⟩
    obtain ⟨T, g, ρ, Ke, Xe, R, hw, hq, hx⟩ := q
    rw [wBo_test] at hw
    refine ⟨T, g, ρ, _, Xe, R, hw, fun c g1 T1 H1 x1 R1 sm hk => ?_, hx⟩
    cases c with
    | true =>
      simp only [if_true] at hk ⊢
      exact ⟨T1, g1, ρ, _, Xe, R1, hk, fun y g2 T2 H2 x2 R2 sm2 hk2 => hq y g2 T2 H2 (x1.trans x2) R2 (fun s => (sm (ands s).1).trans (sm2 (ands s).2)) hk2, fun c g' T' H' e R' => hx c g' T' H' (x1.trans e) R'⟩
    | false =>
      simp only [Bool.false_eq_true, if_false] at hk ⊢
      exact hq false g1 T1 H1 x1 R1 (fun s => sm (ands s).1) hk
theorem w_or : ∀ (as : List Expr) (es : Es), AllB B C W X as es → as ≠ [] → PW X (.BoolOp .Or as pos) (tB' B C W (.bo false es))
  | [], _, _, n => absurd rfl n
  | [a], .cons e .nil, h, _ => ⟨fun wh pins s σ H Q I q => (pw_or1 h.1).run wh pins s σ H Q I (bo_oneB q)⟩
  | [_], .nil, h, _ => h.elim
  | [_], .cons _ (.cons _ _), h, _ => h.2.elim
  | _ :: _ :: _, .nil, h, _ => h.elim
  | _ :: _ :: _, .cons _ .nil, h, _ => h.2.elim
  | a :: b :: r, .cons e (.cons e2 es), h, _ => by
    refine ⟨fun wh pins s σ H Q I q => (pw_or h.1 (w_or (b :: r) (.cons e2 es) h.2 (by simp))).run wh pins s σ H Q I ?_⟩
    obtain ⟨T, g, ρ, Ke, Xe, R, hw, hq, hx⟩ := q
    rw [wBo_test] at hw
    refine ⟨T, g, ρ, _, Xe, R, hw, fun c g1 T1 H1 x1 R1 sm hk => ?_, hx⟩
    cases c with
    | false =>
      simp only [if_true] at hk
      simp only [Bool.false_eq_true, if_false]
      exact ⟨T1, g1, ρ, _, Xe, R1, hk, fun y g2 T2 H2 x2 R2 sm2 hk2 => hq y g2 T2 H2 (x1.trans x2) R2 (fun s => (sm (ands s).1).trans (sm2 (ands s).2)) hk2, fun c g' T' H' e R' => hx c g' T' H' (x1.trans e) R'⟩
    | true =>
      simp only [Bool.true_eq_false, if_false] at hk
      simp only [if_true]
      exact hq true g1 T1 H1 x1 R1 (fun s => sm (ands s).1) hk
theorem a_ife (hc : PT X c (tB' B C W ec)) (ha : PE X a (tE B C W ea)) (hb : PE X b (tE B C W eb)) : PE X (.IfExp c a b pos) (tE B C W (.ife ec ea eb)) := by
  refine PE.imp (pe_ifExp hc ha hb) fun σ H Q ⟨T, g, r, Ke, Xe, R, hw, hq, hx⟩ => ?_
  refine ⟨T, g, r, fun b g1 => if b = true then wE B.P C ea r g1 Ke Xe else wE B.P C eb r g1 Ke Xe, Xe, R, ?_, fun z g1 T1 H1 x1 R1 sm hk => ?_, hx⟩
  · have e : wE B.P C (.ife ec ea eb) r g Ke Xe = wB B.P C ec r g (fun b g1 => if b = true then wE B.P C ea r g1 Ke Xe else wE B.P C eb r g1 Ke Xe) Xe := by
      refine congrFun (congrArg (wE B.P C ec r g) ?_) Xe
      funext d g1
      cases d with
      | bl b => cases b <;> rfl
      | _ => rfl
    rw [← e]
    exact hw
  · cases z with
    | true =>
      simp only [if_true] at hk ⊢
      exact ⟨T1, g1, r, _, Xe, R1, hk, fun y g2 T2 H2 u x2 R2 ru sm2 hk2 => hq y g2 T2 H2 u (x1.trans x2) R2 ru (fun s => (sm (ands s).1).trans (sm2 (ands (ands s).2).1)) hk2, fun c g' T' H' e R' => hx c g' T' H' (x1.trans e) R'⟩
    | false =>
      simp only [Bool.false_eq_true, if_false] at hk ⊢
      exact ⟨T1, g1, r, _, Xe, R1, hk, fun y g2 T2 H2 u x2 R2 ru sm2 hk2 => hq y g2 T2 H2 u (x1.trans x2) R2 ru (fun s => (sm (ands s).1).trans (sm2 (ands (ands s).2).2)) hk2, fun c g' T' H' e R' => hx c g' T' H' (x1.trans e) R'⟩
end
end Vb

set_option maxHeartbeats 1000000
/-! The plain layer, part 4: containers. -/
namespace Vb
open PySem L2
variable {B : Bd} {C : Call} {W : WX} {X : Cx} {pos : Pos}
variable {T T' : Tm} {g g' : G} {r r' : Rho} {H H' : Hp} {σ σ' : St}
/-- names in the text: of defs, classes, constants -/
structure Nms where
  f : List (Option Str)
  c : List Str
  g : List Str
  /-- calls with defaults: def, positional values, keywords, defaults -/
  k : List (Nat × Nat × List Str × List D)
def Nms.plain (n : Nms) (f : Nat) : Bool := n.k.all fun e => !(e.1 == f)
def flV : D → V
  | .bl b => .bl b
  | .int i => .int i
  | .str x => .str x
  | _ => .non
theorem flV_ok {B : Bd} {T : Tm} : ∀ {ds : List D}, ds.all D.flat = true → RDs B T ds (ds.map flV)
  | [], _ => rfl
  | d :: ds, z => by
    simp only [List.all_cons, Bool.and_eq_true] at z
    refine ⟨_, _, rfl, ?_, flV_ok z.2⟩
    cases d with
    | non => rfl
    | bl _ => rfl
    | int _ => rfl
    | str _ => rfl
    | _ => exact absurd z.1 (by simp [D.flat])
/-- how such a call binds -/
def KbOk (K : PySem.W.Frag) (fd : FuncData) (ps : List Str) (m : Nat) (ks : List Str) (ds : List D) : Prop := ds.all D.flat = true ∧ ∃ dv : List Value, Vals (ds.map flV) dv ∧ m + (ks.length + dv.length) = ps.length ∧
  ∀ (s : Shared) (us ws : List Value), K.In s.heap → us.length = m → ws.length = ks.length → BindsTo s fd ⟨us, ks.zip ws⟩ (ps.zip (us ++ (ws ++ dv)))
/-- what is known of the program's top -/
structure Good (B : Bd) (n : Nms) : Prop where
  an : B.an.Nodup
  fld : ∀ (c f : Nat) (x : Str), B.P.fldOk c f = true → B.an[f]? = some x → Cls B.K (B.cad c) ∧ NoAttr B.K (B.cad c) x
  mth : ∀ (c m f : Nat) (x : Str), B.P.mth c m = some f → B.an[m]? = some x → Cls B.K (B.cad c) ∧ Meth B.K (B.cad c) x (B.fad f) ∧ (n.plain f = true → Binds B.K (B.fd f) (B.ps f) [])
  ini : ∀ (c f : Nat), B.P.mth c B.P.init = some f → Mk B.K (B.cad c) (B.fad f) ∧ (n.plain f = true → Binds B.K (B.fd f) (B.ps f) [])
  cnm : ∀ (c : Nat) (x : Str), n.c[c]? = some x → B.mg x = some (.ref (B.cad c))
  exc : ∀ c : Nat, B.P.isExc c = true → PySem.W.excIn B.K (B.cad c) He.veBase "ValueError.__new__" = true ∧ PySem.W.keepIn B.K (.ref (B.cad c)) = true ∧ PySem.W.subIn B.K (.ref (B.cad c)) (.type "BaseException") = some true ∧ PySem.W.typeIn B.K (.ref (B.cad c)) = some (.type "type")
  exa : ∀ c : Nat, B.P.isExc c = true → ExcC B.K (B.cad c)
  exm : ∀ e c : Nat, B.P.isExc e = true → B.P.isExc c = true → PySem.W.exmOne B.K (.ref (B.cad e)) (.ref (B.cad c)) = some (B.P.catches e c) ∧ PySem.W.kitOne B.K (.ref (B.cad e)) (.ref (B.cad c)) = some (B.P.catches e c)
  fn : ∀ (f : Nat) (x : Str), n.f[f]? = some (some x) → B.mg x = some (.ref (B.fad f)) ∧ PySem.W.keepIn B.K (.ref (B.fad f)) = true ∧ (n.plain f = true → Binds B.K (B.fd f) (B.ps f) [])
  kb : ∀ (f m : Nat) (ks : List Str) (ds : List D), (f, m, ks, ds) ∈ n.k → KbOk B.K (B.fd f) (B.ps f) m ks ds
  glb : ∀ (k : Nat) (x : Str) (d : D), n.g[k]? = some x → B.P.glb[k]? = some d → ∃ u v, B.mg x = some u ∧ RelV v u ∧ ∀ T, RD B T d v
  blt : ∀ x : Str, x ∈ (["abs", "all", "any", "dict", "enumerate", "int", "isinstance", "len", "list", "max", "min", "range", "reversed", "sorted", "str", "sum", "tuple", "zip", "bool"] : List Str) → B.mg x = none
/-! ### argument lists -/
def notStar : Expr → Bool
  | .Starred _ _ => false
  | _ => true
theorem star_cons {e : Expr} {es : List Expr} {env : Env} (h : notStar e = true) : starEach (e :: es) env = (false, eval e env) :: starEach es env := by
  cases e <;> first | rfl | (simp [notStar] at h)
theorem star_none {env : Env} {p : Pos} : ∀ {es : List Expr}, es.all notStar = true → (backTo p (starEach es env)).any (·.1) = false
  | [], _ => rfl
  | e :: es, h => by
    simp only [List.all_cons, Bool.and_eq_true] at h
    rw [star_cons h.1]
    show (false || (backTo p (starEach es env)).any (·.1)) = false
    rw [star_none h.2]
    rfl
theorem as_nil : PA X [] (tAs B C W .nil) := PA.imp pa_nil fun σ H Q ⟨T, g, r, Ke, Xe, R, hw, hq, hx⟩ => hq [] g T H [] (Ext.refl T) R rfl (fun _ => Same.refl H) hw
theorem as_cons {a : Expr} {as : List Expr} {e : E} {es : Es} (ha : PE X a (tE B C W e)) (hr : PA X as (tAs B C W es)) (hs : notStar a = true) : PA X (a :: as) (tAs B C W (.cons e es)) := by
  refine PA.imp (pa_cons ha hr (star_cons hs)) fun σ H Q ⟨T, g, r, Ke, Xe, R, hw, hq, hx⟩ => ?_
  refine ⟨T, g, r, _, Xe, R, hw, fun x g1 T1 H1 v x1 R1 rv sm hk => ?_, hx⟩
  refine ⟨T1, g1, r, _, Xe, R1, hk, fun y g2 T2 H2 u x2 R2 ru sm2 hk2 => ?_, fun c g' T' H' e R' => hx c g' T' H' (x1.trans e) R'⟩
  exact hq (x :: y) g2 T2 H2 (v :: u) (x1.trans x2) R2 ⟨v, u, rfl, RD.ext x2 _ _ rv, ru⟩ (fun s => (sm (ands s).1).trans (sm2 (ands s).2)) hk2
theorem as_all : ∀ {as : List Expr} {es : Es}, AllE B C W X as es → as.all notStar = true → PA X as (tAs B C W es)
  | [], .nil, _, _ => as_nil
  | [], .cons _ _, h, _ => h.elim
  | _ :: _, .nil, h, _ => h.elim
  | a :: as, .cons e es, h, hs => by
    simp only [List.all_cons, Bool.and_eq_true] at hs
    exact as_cons h.1 (as_all h.2 hs.2) hs.1
theorem a_tup {as : List Expr} {es : Es} {k : Nat} (h : PA X as (tAs B C W es)) : PE X (.Tuple as k pos) (tE B C W (.tup es)) := by
  refine PE.imp (pe_tup h) fun σ H Q ⟨T, g, r, Ke, Xe, R, hw, hq, hx⟩ => ?_
  refine ⟨T, g, r, _, Xe, R, hw, fun x g1 T1 H1 v x1 R1 rv sm ⟨hl, hk⟩ => ⟨by rw [rv.length]; exact line_le hl, fun p np => ?_⟩, hx⟩
  obtain ⟨x3, R3, rd, s3⟩ := new_fz (t := true) R1 rv np
  exact hq (.seq true x) g1 _ _ _ (x1.trans x3) R3 rd (fun s => (sm s).trans s3) hk
theorem c_lst {as : List Expr} {es : Es} (h : PA X as (tAs B C W es)) : PE X (.List as pos) (tC B C W (.lst es)) := by
  refine PE.imp (pe_lst h) fun σ H Q ⟨T, g, r, Ke, Xe, R, hw, hq, hx⟩ => ?_
  refine ⟨T, g, r, _, Xe, R, hw, fun x g1 T1 H1 v x1 R1 rv sm ⟨hl, hk⟩ => ⟨by rw [rv.length]; exact line_le hl, fun p np => ?_⟩, hx⟩
  obtain ⟨R3, rc, s3⟩ := new_lst R1 rv np
  exact hq (.lst x) g1 _ _ _ x1 R3 rc (fun s => (sm s).trans s3) hk
/-- a new container becomes one that nobody changes -/
theorem fz_conv {c : Cr} {σ : St} {H : Hp} {Q : VK} (h : tE B C W (.fz c) σ H Q) : tC B C W c σ H Q := by
  obtain ⟨T, g, r, Ke, Xe, R, hw, hq, hx⟩ := h
  refine ⟨T, g, r, _, Xe, R, hw, fun x g1 T1 H1 v x1 R1 rv sm hk => ?_, hx⟩
  obtain ⟨a, rfl, ha, hc⟩ := rv
  cases x with
  | lst xs =>
    obtain ⟨vs, e, rs⟩ := hc
    obtain ⟨x2, R2⟩ := R1.freeze ha e
    exact hq (.seq false xs) g1 _ H1 _ (x1.trans x2) R2 ⟨a, vs, rfl, .inl ⟨_, put_same, .inl rfl⟩, RDs.ext x2 _ _ rs⟩ sm hk
  | dct _ => exact hk.elim
theorem a_fz {ast : Expr} {c : Cr} (h : PE X ast (tC B C W c)) : PE X ast (tE B C W (.fz c)) := PE.imp h fun σ H Q q => fz_conv q
/-- a new container gets a name -/
theorem RR.named (R : RR B T g r H σ) {a : Addr} {o : HO} (ha : T.at_ a = none) (e : H a = some o) {i : Id} (ni : g i = none) {c : Ct} (hc : RCt B T H a c) : Ext T (T.put a (.id i)) ∧ RR B (T.put a (.id i)) (up g i (.ct c)) r H σ := by
  have ne : ∀ {b t'}, T.at_ b = some t' → b ≠ a := fun {b t'} h q => by
    rw [q, ha] at h
    cases h
  have x : Ext T (T.put a (.id i)) := ⟨fun b u h => (put_ne (ne h)).trans h, fun b u h => (put_ne (ne h)).trans h, fun b u h => (put_ne (ne h)).trans h, rfl⟩
  have k : Kp T (T.put a (.id i)) H H := ⟨x, fun b i f h => ⟨(put_ne (ne h)).trans h, rfl⟩, fun b j h => ⟨(put_ne (ne h)).trans h, rfl⟩⟩
  have noi : ∀ b, T.at_ b ≠ some (.id i) := fun b h => by
    obtain ⟨o, q⟩ := R.dom b i h
    rw [ni] at q
    cases q
  have old : ∀ b t', (T.put a (.id i)).at_ b = some t' → t' ≠ .id i → T.at_ b = some t' := fun b t' h q => by
    by_cases e : b = a
    · subst e
      rw [put_same] at h
      cases h
      exact absurd rfl q
    · rw [put_ne e] at h
      exact h
  refine ⟨x, R.hx, R.len, fun b u h => R.fz b u (old b _ h (by intro z; cases z)), fun b u h => R.fr b u (old b _ h (by intro z; cases z)), fun b t h => ?_, fun b d j h1 h2 => ?_, fun b j h => ?_, fun j ob h => ?_, fun j s h => ?_⟩
  · by_cases q : b = a
    · subst q
      exact ⟨o, e⟩
    · rw [put_ne q] at h
      exact R.tg b t h
  · by_cases eb : b = a
    · by_cases ed : d = a
      · rw [eb, ed]
      · subst eb
        rw [put_same] at h1
        cases h1
        rw [put_ne ed] at h2
        exact absurd h2 (noi d)
    · rw [put_ne eb] at h1
      by_cases ed : d = a
      · subst ed
        rw [put_same] at h2
        cases h2
        exact absurd h1 (noi b)
      · rw [put_ne ed] at h2
        exact R.inj b d j h1 h2
  · by_cases q : b = a
    · subst q
      rw [put_same] at h
      cases h
      exact ⟨.ct c, up_same _ _ _⟩
    · rw [put_ne q] at h
      obtain ⟨o', q'⟩ := R.dom b j h
      exact ⟨o', by rw [up_ne _ _ (fun z => by rw [z, ni] at q'; cases q')]; exact q'⟩
  · by_cases q : j = i
    · subst q
      rw [up_same] at h
      cases h
      exact ⟨a, put_same, RCt.keep x rfl hc⟩
    · rw [up_ne _ _ q] at h
      obtain ⟨b, h1, h2⟩ := R.obj j ob h
      exact ⟨b, x.id _ _ h1, h2.keep k rfl⟩
  · obtain ⟨v, h1, h2⟩ := R.slt j s h
    exact ⟨v, h1, h2.keepL k⟩
theorem RCt.there {a : Addr} {c : Ct} (h : RCt B T H a c) : ∃ o, H a = some o := by
  cases c with
  | lst xs =>
    obtain ⟨vs, e, _⟩ := h
    exact ⟨_, e⟩
  | dct _ =>
    rcases (show RDc B T H a _ from h) with ⟨ks, q1, q2⟩ | ⟨xs, _, q1, q2⟩
    · exact q1.there
    · exact q1.there
theorem al_conv {c : Cr} {σ : St} {H : Hp} {Q : VK} (h : tE B C W (.al c) σ H Q) : tC B C W c σ H Q := by
  obtain ⟨T, g, r, Ke, Xe, R, hw, hq, hx⟩ := h
  refine ⟨T, g, r, _, Xe, R, hw, fun x g1 T1 H1 v x1 R1 rv sm hk => ?_, hx⟩
  obtain ⟨a, rfl, ha, hc⟩ := rv
  obtain ⟨i, ni, hk⟩ := hk
  obtain ⟨o, e⟩ := hc.there
  obtain ⟨x2, R2⟩ := R1.named ha e ni hc
  exact hq (.ref i) _ _ H1 _ (x1.trans x2) R2 ⟨a, rfl, put_same⟩ (fun s => by cases s) hk
theorem a_al {ast : Expr} {c : Cr} (h : PE X ast (tC B C W c)) : PE X ast (tE B C W (.al c)) := PE.imp h fun σ H Q q => al_conv q
/-! ### containers -/
theorem RCt.cv {a : Addr} {c : Ct} (h : RCt B T H a c) : RCv B T H c.cv (.ref a) := by
  cases c with
  | lst xs =>
    obtain ⟨vs, e, rs⟩ := h
    exact ⟨a, vs, rfl, SqL.of e, rs⟩
  | dct _ => exact ⟨a, rfl, RDc.rd h⟩
theorem RCt.lh {a : Addr} {c : Ct} (h : RCt B T H a c) : RLH B T H c.cv (.ref a) := by
  cases c with
  | lst xs =>
    obtain ⟨vs, e, rs⟩ := h
    exact ⟨a, vs, rfl, .inl e, rs⟩
  | dct _ => exact True.intro
theorem RD.cv (R : RR B T g r H σ) {d : D} {v : V} {c : Cv} (h : RD B T d v) (e : cvOf g d = some c) : RCv B T H c v ∧ RSr B T H σ (srcOf d, c) v := by
  cases d with
  | seq t xs =>
    cases e
    obtain ⟨a, vs, rfl, f, rs⟩ := h
    cases t with
    | true => exact ⟨⟨a, vs, rfl, f, rs⟩, True.intro, fun _ => True.intro, fun _ => True.intro, fun z => (by cases z)⟩
    | false => exact ⟨⟨a, vs, rfl, R.fzL f, rs⟩, True.intro, fun _ => ⟨a, vs, rfl, f, rs⟩, fun _ => ⟨a, vs, rfl, R.fzLH f, rs⟩, fun z => (by cases z)⟩
  | str s =>
    cases e
    exact ⟨h, True.intro, fun _ => True.intro, fun _ => True.intro, fun z => (by cases z)⟩
  | ref i =>
    obtain ⟨a, rfl, ha⟩ := h
    have e : (match g i with | some (.ct c) => some c.cv | some (.lkd k _ _) => some (.dct k) | _ => none) = some c := e
    split at e
    · rename_i c' q
      cases e
      exact ⟨(show RCt B T H a c' from R.objAt q ha).cv, ⟨a, rfl, ha⟩, fun z => (by cases z), fun _ => (show RCt B T H a c' from R.objAt q ha).lh, fun z => (by cases z)⟩
    · rename_i k o u q
      cases e
      obtain ⟨h1, h2⟩ := R.objAt q ha
      exact ⟨⟨a, rfl, u, .inr ⟨o, h1⟩, h2⟩, ⟨a, rfl, ha⟩, fun z => (by cases z), fun _ => True.intro, fun z => (by cases z)⟩
    · cases e
  | giv ns =>
    cases e
    obtain ⟨a, rfl, h⟩ := h
    have rs : RDs B T (ns.map D.int) (ns.map V.int) := by
      clear h
      induction ns with
      | nil => rfl
      | cons i ns ih => exact ⟨_, _, rfl, rfl, ih⟩
    exact ⟨⟨a, _, rfl, R.gvL h, rs⟩, True.intro, fun z => (by cases z), fun z => (by cases z), fun _ => ⟨a, ns, rfl, rfl, h⟩⟩
  | _ => cases e
theorem p_v {ast : Expr} {e : E} (h : PE X ast (tE B C W e)) : PE X ast (tP B C W (.v e)) := by
  refine PE.imp h fun σ H Q ⟨T, g, r, Ke, Xe, R, hw, hq, hx⟩ => ?_
  refine ⟨T, g, r, _, Xe, R, hw, fun x g1 T1 H1 v x1 R1 rv sm hk => ?_, hx⟩
  have hk : (match cvOf g1 x with | some c => Ke (srcOf x, c) g1 | none => False) := hk
  split at hk
  · rename_i c e
    exact hq (srcOf x, c) g1 T1 H1 v x1 R1 (rv.cv R1 e) sm hk
  · exact hk.elim
theorem p_loc {j : Nat} {x : Str} (hN : X.N[j]? = some x) (hv : Vis X.env.scope x) (hd : (x == ("__debug__" : Str)) = false) (hc : (x == ("__classdict__" : Str)) = false) : PE X (.Name x pos) (tP B C W (.loc j)) := by
  refine PE.imp (pe_var hN hv hd hc) fun σ H Q ⟨T, g, r, Ke, Xe, R, hw, hq, _⟩ => ?_
  have hw : (match r[j]? with | some (some (.own c)) => Ke (.loc j, c.cv) g | _ => False) := hw
  split at hw
  · rename_i c e
    obtain ⟨v, h1, h2⟩ := R.slt j _ e
    obtain ⟨a, rfl, ha, hc⟩ := h2
    exact ⟨.ref a, h1, hq (.loc j, c.cv) g T H _ (Ext.refl T) R ⟨hc.cv, ⟨a, rfl, h1⟩, fun z => (by cases z), fun _ => hc.lh, fun z => (by cases z)⟩ (fun _ => Same.refl H) hw⟩
  · exact hw.elim
theorem RFs.get {i : Id} : ∀ {fs : List (Nat × Sl)} {vs : List (Str × V)}, RFs B T H i fs vs → B.an.Nodup → ∀ {f : Nat} {x : Str}, B.an[f]? = some x → (∀ s, getS f fs = some s → ∃ v, vs.lookup x = some v ∧ RSl B T H (.fld i f) s v) ∧ (getS f fs = none → vs.lookup x = none)
  | [], _, h, _, f, x, _ => by
    have h : Paired _ [] _ := h
    cases h
    exact ⟨fun s e => (by cases e), fun _ => rfl⟩
  | (k, s) :: fs, _, h, nd, f, x, hx => by
    have h : Paired _ ((k, s) :: fs) _ := h
    cases h with
    | @cons _ q _ vs h1 h2 =>
      obtain ⟨y, v⟩ := q
      obtain ⟨e1, e2⟩ := h1
      have ih := RFs.get (show RFs B T H i fs vs from h2) nd hx
      by_cases e : k = f
      · subst e
        have exy : y = x := by
          have e1 : B.an[k]? = some y := e1
          rw [hx] at e1
          exact (Option.some.inj e1).symm
        subst exy
        refine ⟨fun s' q => ?_, fun q => ?_⟩
        · have q : some s = some s' := by simpa [getS] using q
          cases q
          exact ⟨v, by simp [List.lookup_cons], e2⟩
        · simp [getS] at q
      · have nxy : ¬ x = y := fun z => by
          subst z
          exact e (nodup_ix nd e1 hx)
        have hb : (x == y) = false := by simpa using nxy
        refine ⟨fun s' q => ?_, fun q => ?_⟩
        · have q : getS f fs = some s' := by simpa [getS, e] using q
          obtain ⟨v', h1, h2⟩ := ih.1 s' q
          exact ⟨v', by rw [List.lookup_cons, hb]; exact h1, h2⟩
        · have q : getS f fs = none := by simpa [getS, e] using q
          rw [List.lookup_cons, hb]
          exact ih.2 q
theorem getS_mem {f : Nat} {s : Sl} : ∀ {fs : List (Nat × Sl)}, getS f fs = some s → (f, s) ∈ fs
  | [], h => by cases h
  | (k, x) :: r, h => by
    unfold getS at h
    split at h
    · rename_i e
      cases h
      rw [e]
      exact List.mem_cons_self
    · exact List.mem_cons_of_mem _ (getS_mem h)
/-- a field of an object -/
theorem fld_read {n : Nms} (Gd : Good B n) (R : RR B T g r H σ) {d : D} {v : V} {f : Nat} {x : Str} {s : Sl} (hx : B.an[f]? = some x) (h : RD B T d v) (e : fldOf g d f = some s) :
    ∃ i a c dx vs u, d = .ref i ∧ v = .ref a ∧ T.at_ a = some (.id i) ∧ H a = some (.ins (B.cad c) dx vs) ∧ Cls B.K (B.cad c) ∧ NoAttr B.K (B.cad c) x ∧ vs.lookup x = some u ∧ RSl B T H (.fld i f) s u := by
  cases d with
  | ref i =>
    obtain ⟨a, rfl, ha⟩ := h
    have e : (match g i with | some (.ins _ fs) => getS f fs | _ => none) = some s := e
    split at e
    · rename_i c fs q
      obtain ⟨dx, vs, h1, h0, h2⟩ := R.objAt q ha
      obtain ⟨u, h3, h4⟩ := (h2.get Gd.an hx).1 s e
      obtain ⟨c1, c2⟩ := Gd.fld c f x (h0.1 _ (getS_mem e)) hx
      exact ⟨i, a, c, dx, vs, u, rfl, rfl, ha, h1, c1, c2, h3, h4⟩
    · cases e
  | _ => cases e
theorem a_attr {n : Nms} (Gd : Good B n) (hK : X.K = B.K) {o : Expr} {eo : E} {f : Nat} {x : Str} (hx : B.an[f]? = some x) (ho : PE X o (tE B C W eo)) (hb : attributeBase o x X.env (eval o X.env) = eval o X.env) : PE X (.Attribute o x pos) (tE B C W (.attr eo f)) := by
  refine PE.imp (pe_fld ho hb) fun σ H Q ⟨T, g, r, Ke, Xe, R, hw, hq, hx'⟩ => ?_
  refine ⟨T, g, r, _, Xe, R, hw, fun y g1 T1 H1 v x1 R1 rv sm hk => ?_, hx'⟩
  split at hk
  · rename_i d e
    obtain ⟨i, a, c, dx, vs, u, rfl, rfl, ha, h1, c1, c2, h3, h4⟩ := fld_read Gd R1 hx rv e
    exact ⟨a, _, dx, vs, u, rfl, h1, hK ▸ c1, hK ▸ c2, h3, hq d g1 T1 H1 u x1 R1 h4 sm hk⟩
  · exact hk.elim
theorem p_fld {n : Nms} (Gd : Good B n) (hK : X.K = B.K) {o : Expr} {eo : E} {f : Nat} {x : Str} (hx : B.an[f]? = some x) (ho : PE X o (tE B C W eo)) (hb : attributeBase o x X.env (eval o X.env) = eval o X.env) : PE X (.Attribute o x pos) (tP B C W (.fld eo f)) := by
  refine PE.imp (pe_fld ho hb) fun σ H Q ⟨T, g, r, Ke, Xe, R, hw, hq, hx'⟩ => ?_
  refine ⟨T, g, r, _, Xe, R, hw, fun y g1 T1 H1 v x1 R1 rv sm hk => ?_, hx'⟩
  cases y with
  | ref i =>
    have hk : (match fldOf g1 (.ref i) f with | some (.own c) => Ke (.fld i f, c.cv) g1 | _ => False) := hk
    split at hk
    · rename_i d e
      obtain ⟨i', a, c, dx, vs, u, e1, rfl, ha, h1, c1, c2, h3, h4⟩ := fld_read Gd R1 hx rv e
      cases e1
      obtain ⟨b, rfl, hb', hc⟩ := h4
      exact ⟨a, _, dx, vs, _, rfl, h1, hK ▸ c1, hK ▸ c2, h3, hq (.fld i f, d.cv) g1 T1 H1 _ x1 R1 ⟨hc.cv, ⟨b, a, _, dx, vs, x, rfl, ha, h1, hx, h3⟩, fun z => (by cases z), fun _ => hc.lh, fun z => (by cases z)⟩ sm hk⟩
    · exact hk.elim
  | _ => exact hk.elim
/-! ### what is read of a container -/
theorem inv_idx {c : Cv} {k : D} {K : D → Prop} (h : wIdx c k K) : ∃ t xs i d, c = .seq t xs ∧ k = .int i ∧ atI xs i = some d ∧ K d := by
  unfold wIdx at h
  split at h
  · split at h
    · rename_i e
      exact ⟨_, _, _, _, rfl, rfl, e, h⟩
    · exact h.elim
  · exact h.elim
theorem a_idx {p k : Expr} {ep : Pl} {ek : E} (hK : X.K = B.K) (hp : PE X p (tP B C W ep)) (hk : PE X k (tE B C W ek)) (sk : simE ek = true) (hs : PlainIx k) : PE X (.Subscript p k pos) (tE B C W (.idx ep ek)) := by
  refine PE.imp (pe_ix ix_seq hp hk hs) fun σ H Q ⟨T, g, r, Ke, Xe, R, hw, hq, hx⟩ => ?_
  refine ⟨T, g, r, fun q g1 => wE B.P C ek r g1 (fun d g2 => wIdx q.2 d fun z => Ke z g2) Xe, Xe, R, hw, fun q g1 T1 H1 v x1 R1 ⟨rv, _⟩ sm hk => ?_, hx⟩
  refine ⟨T1, g1, r, _, Xe, R1, hk, fun y g2 T2 H2 u x2 R2 ru sm2 hk2 => ?_, fun c g' T' H' e R' => hx c g' T' H' (x1.trans e) R'⟩
  have rv := rv.keep x2 (sm2 sk)
  obtain ⟨_, c⟩ := q
  rw [hK]
  obtain ⟨t, xs, i, d, ec, rfl, e, hk3⟩ := inv_idx hk2
  dsimp only at ec rv
  subst ec
  have S : simE (.idx ep ek) = true → Same H H2 := fun s => (sm (ands s).1).trans (sm2 (ands s).2)
  unfold atI at e
  obtain ⟨j, e1, e2⟩ := Option.bind_eq_some_iff.mp e
  cases t with
  | true =>
    obtain ⟨a, vs, rfl, f, rs⟩ := rv
    obtain ⟨w, h1, h2⟩ := rs.get e2
    exact .inr (.inl ⟨a, vs, i, w, rfl, ru, R2.fzT f, by unfold atI; rw [rs.length, e1]; exact h1, hq d g2 T2 H2 w (x1.trans x2) R2 h2 S hk3⟩)
  | false =>
    obtain ⟨a, vs, rfl, f, rs⟩ := rv
    obtain ⟨w, h1, h2⟩ := rs.get e2
    exact .inl ⟨a, vs, i, w, rfl, ru, f, by unfold atI; rw [rs.length, e1]; exact h1, hq d g2 T2 H2 w (x1.trans x2) R2 h2 S hk3⟩
/-- a frozen container, or a list that stands, is read, whatever the place's reckoning does -/
theorem a_idxf {p k : Expr} {ep : Pl} {ek : E} (hK : X.K = B.K) (hp : PE X p (tP B C W ep)) (hk : PE X k (tE B C W ek)) (hs : PlainIx k) : PE X (.Subscript p k pos) (tE B C W (.idxf ep ek)) := by
  refine PE.imp (pe_ix ix_seq hp hk hs) fun σ H Q ⟨T, g, r, Ke, Xe, R, hw, hq, hx⟩ => ?_
  refine ⟨T, g, r, fun q g1 => wE B.P C ek r g1 (fun d g2 => q.1.kept q.2 g2 ∧ wIdx q.2 d fun z => Ke z g2) Xe, Xe, R, hw, fun q g1 T1 H1 v x1 R1 ⟨rv, rs⟩ sm hk => ?_, hx⟩
  refine ⟨T1, g1, r, _, Xe, R1, hk, fun y g2 T2 H2 u x2 R2 ru sm2 hk2 => ?_, fun c g' T' H' e R' => hx c g' T' H' (x1.trans e) R'⟩
  obtain ⟨src, c⟩ := q
  rw [hK]
  obtain ⟨es, hk2⟩ := hk2
  obtain ⟨t, xs, i, d, ec, rfl, e, hk3⟩ := inv_idx hk2
  dsimp only at ec rv es
  subst ec
  have S : simE (.idxf ep ek) = true → Same H H2 := fun s => (sm (ands s).1).trans (sm2 (ands s).2)
  unfold atI at e
  obtain ⟨j, e1, e2⟩ := Option.bind_eq_some_iff.mp e
  cases src with
  | no =>
    cases t with
    | true =>
      obtain ⟨a, vs, rfl, f, rv⟩ := rv
      obtain ⟨w, h1, h2⟩ := (RDs.ext x2 _ _ rv).get e2
      exact .inr (.inl ⟨a, vs, i, w, rfl, ru, R2.fzT (f.ext x2), by unfold atI; rw [rv.length, e1]; exact h1, hq d g2 T2 H2 w (x1.trans x2) R2 h2 S hk3⟩)
    | false =>
      obtain ⟨a, vs, rfl, f, rv⟩ := rs.2.1 rfl
      obtain ⟨w, h1, h2⟩ := (RDs.ext x2 _ _ rv).get e2
      exact .inl ⟨a, vs, i, w, rfl, ru, R2.fzL (f.ext x2), by unfold atI; rw [rv.length, e1]; exact h1, hq d g2 T2 H2 w (x1.trans x2) R2 h2 S hk3⟩
  | obj k =>
    cases t with
    | true => exact es.elim
    | false =>
      obtain ⟨a, rfl, ha⟩ := rs.1
      obtain ⟨a', vs, q1, eH, rvs⟩ : RCv B T2 H2 (.seq false xs) (.ref a) := (show RCt B T2 H2 a (.lst xs) from R2.objAt (show g2 k = some (.ct (.lst xs)) from es) (x2.id _ _ ha)).cv
      cases q1
      obtain ⟨w, h1, h2⟩ := rvs.get e2
      exact .inl ⟨a, vs, i, w, rfl, ru, eH, by unfold atI; rw [rvs.length, e1]; exact h1, hq d g2 T2 H2 w (x1.trans x2) R2 h2 S hk3⟩
  | loc _ => exact es.elim
  | fld _ _ => exact es.elim
  | giv => exact es.elim
theorem RDs.cut {xs : List D} {vs : List V} (h : RDs B T xs vs) (lo hi : Option Int) : RDs B T (sliceL xs lo hi) (cutV vs lo hi) := by
  unfold sliceL cutV
  rw [h.length]
  exact (h.drop _).take _
theorem o_no : PO X none (tOs B C W .no) := ⟨fun pins s σ H Q I ⟨T, g, r, Ke, Xe, R, hw, hq, _⟩ => po_none.run pins s σ H Q I (hq none g T H (Ext.refl T) R (fun _ => Same.refl H) hw)⟩
theorem o_so {a : Expr} {e : E} (h : PE X a (tE B C W e)) : PO X (some a) (tOs B C W (.so e)) := by
  refine ⟨fun pins s σ H Q I ⟨T, g, r, Ke, Xe, R, hw, hq, hx⟩ => (po_some h).run pins s σ H Q I ?_⟩
  refine ⟨T, g, r, _, Xe, R, hw, fun x g1 T1 H1 v x1 R1 rv sm hk => ?_, hx⟩
  cases x with
  | int i => exact ⟨i, rv, hq (some i) g1 T1 H1 x1 R1 sm hk⟩
  | _ => exact hk.elim
theorem whole_cut {α : Type} {xs : List α} {lo hi : Option Int} (h : HT.sIx xs.length 0 lo = 0 ∧ HT.sIx xs.length xs.length hi = xs.length) : sliceL xs lo hi = xs := by
  unfold sliceL
  rw [h.1, h.2]
  simp
theorem a_slc {p : Expr} {lo hi : Option Expr} {ep : Pl} {el eh : Oe} {p2 : Pos} (hK : X.K = B.K) (hp : PE X p (tP B C W ep)) (hl : PO X lo (tOs B C W el)) (hh : PO X hi (tOs B C W eh)) (sl : simO el = true) (sh : simO eh = true) :
    PE X (.Subscript p (.Slice lo hi none p2) pos) (tE B C W (.slc ep el eh)) := by
  refine PE.imp (pe_slice (SlR.or sl_list sl_tupA) hp hl hh) fun σ H Q ⟨T, g, r, Ke, Xe, R, hw, hq, hx⟩ => ?_
  refine ⟨T, g, r, fun q g1 => wO B.P C el r g1 (fun a g2 => wO B.P C eh r g2 (fun b g3 => match q.2 with | .seq t xs => Ke (.seq t (sliceL xs a b)) g3 | _ => False) Xe) Xe, Xe, R, hw, fun q g1 T1 H1 v x1 R1 ⟨rv, _⟩ sm hk => ?_, hx⟩
  refine ⟨T1, g1, r, _, Xe, R1, hk, fun y g2 T2 H2 x2 R2 sm2 hk2 => ?_, fun c g' T' H' e R' => hx c g' T' H' (x1.trans e) R'⟩
  refine ⟨T2, g2, r, _, Xe, R2, hk2, fun z g3 T3 H3 x3 R3 sm3 hk3 => ?_, fun c g' T' H' e R' => hx c g' T' H' ((x1.trans x2).trans e) R'⟩
  have rv := (rv.keep x2 (sm2 sl)).keep x3 (sm3 sh)
  obtain ⟨_, c⟩ := q
  have S : simE (.slc ep el eh) = true → Same H H3 := fun s => ((sm (ands s).1).trans (sm2 sl)).trans (sm3 sh)
  rw [hK]
  cases c with
  | seq t xs =>
    have hk3 : Ke (.seq t (sliceL xs y z)) g3 := hk3
    cases t with
    | false =>
      obtain ⟨a, vs, rfl, f, rs⟩ := rv
      refine .inl ⟨a, vs, rfl, f, fun p np => ?_⟩
      obtain ⟨x4, R4, rd, s4⟩ := new_fz (t := false) R3 (rs.cut y z) np
      exact hq _ g3 _ _ _ (((x1.trans x2).trans x3).trans x4) R4 rd (fun s => (S s).trans s4) hk3
    | true =>
      obtain ⟨a, vs, rfl, f, rs⟩ := id rv
      refine .inr ⟨a, vs, rfl, R3.fzT f, fun wh => ?_, fun _ p np => ?_⟩
      · rw [rs.length] at wh
        rw [whole_cut wh] at hk3
        exact hq (.seq true xs) g3 _ _ _ ((x1.trans x2).trans x3) R3 ⟨a, vs, rfl, f, rs⟩ S hk3
      · obtain ⟨x4, R4, rd, s4⟩ := new_fz (t := true) R3 (rs.cut y z) np
        exact hq _ g3 _ _ _ (((x1.trans x2).trans x3).trans x4) R4 rd (fun s => (S s).trans s4) hk3
  | _ => exact hk3.elim
/-- a frozen list is cut, whatever the bounds' reckoning does -/
theorem a_slcf {p : Expr} {lo hi : Option Expr} {ep : Pl} {el eh : Oe} {p2 : Pos} (hK : X.K = B.K) (hp : PE X p (tP B C W ep)) (hl : PO X lo (tOs B C W el)) (hh : PO X hi (tOs B C W eh)) :
    PE X (.Subscript p (.Slice lo hi none p2) pos) (tE B C W (.slcf ep el eh)) := by
  refine PE.imp (pe_slice (SlR.or sl_list sl_tupA) hp hl hh) fun σ H Q ⟨T, g, r, Ke, Xe, R, hw, hq, hx⟩ => ?_
  refine ⟨T, g, r, fun q g1 => wO B.P C el r g1 (fun a g2 => wO B.P C eh r g2 (fun b g3 => q.1 = .no ∧ (match q.2 with | .seq false xs => Ke (.seq false (sliceL xs a b)) g3 | _ => False)) Xe) Xe, Xe, R, hw, fun q g1 T1 H1 v x1 R1 ⟨rv, rs0⟩ sm hk => ?_, hx⟩
  refine ⟨T1, g1, r, _, Xe, R1, hk, fun y g2 T2 H2 x2 R2 sm2 hk2 => ?_, fun c g' T' H' e R' => hx c g' T' H' (x1.trans e) R'⟩
  refine ⟨T2, g2, r, _, Xe, R2, hk2, fun z g3 T3 H3 x3 R3 sm3 hk3 => ?_, fun c g' T' H' e R' => hx c g' T' H' ((x1.trans x2).trans e) R'⟩
  obtain ⟨src, c⟩ := q
  obtain ⟨es, hk3⟩ := hk3
  dsimp only at es
  subst es
  rw [hK]
  cases c with
  | seq t xs =>
    cases t with
    | false =>
      have hk3 : Ke (.seq false (sliceL xs y z)) g3 := hk3
      obtain ⟨a, vs, rfl, f, rs⟩ := rs0.2.1 rfl
      have f3 := R3.fzL ((f.ext x2).ext x3)
      have rs3 := RDs.ext x3 _ _ (RDs.ext x2 _ _ rs)
      refine .inl ⟨a, vs, rfl, f3, fun p np => ?_⟩
      obtain ⟨x4, R4, rd, s4⟩ := new_fz (t := false) R3 (rs3.cut y z) np
      exact hq _ g3 _ _ _ (((x1.trans x2).trans x3).trans x4) R4 rd (fun s => by cases s) hk3
    | true => exact hk3.elim
  | _ => exact hk3.elim
end Vb

set_option maxHeartbeats 1000000
/-! The plain layer, part 5: built-ins. -/
namespace Vb
open PySem L2
variable {B : Bd} {C : Call} {W : WX} {X : Cx} {pos p0 : Pos}
variable {T T' : Tm} {g g' : G} {r r' : Rho} {H H' : Hp} {σ σ' : St}
/-- a built-in of one argument, by its name -/
theorem blt1 {x : Str} {id : String} {rl : List V → Hp → VK → Prop} {a : Expr} {ta : TE} (hc : CallR X (.builtin id) rl) (hg : Gl X x) (hm : X.mg x = none) (hv : bootBuiltins x = some (.builtin id)) (hn : x ≠ "__name__") (hd : (x == ("__debug__" : Str)) = false)
    (ha : PE X a ta) (ns : notStar a = true) : PE X (.Call (.Name x p0) [a] [] pos) (tCB rl (tCons ta tNil)) :=
  pe_callB hc hg hm hv (pa_cons ha pa_nil (star_cons ns)) hn hd (star_cons ns) rfl
theorem blt1T {x : Str} {id : String} {rl : List V → Hp → VK → Prop} {a : Expr} {ta : TE} (hc : CallR X (.type id) rl) (hg : Gl X x) (hm : X.mg x = none) (hv : bootBuiltins x = some (.type id)) (hn : x ≠ "__name__") (hd : (x == ("__debug__" : Str)) = false)
    (ha : PE X a ta) (ns : notStar a = true) : PE X (.Call (.Name x p0) [a] [] pos) (tCB rl (tCons ta tNil)) :=
  pe_callTy hc hg hm hv (pa_cons ha pa_nil (star_cons ns)) hn hd (star_cons ns) rfl
theorem blt2 {x : Str} {id : String} {rl : List V → Hp → VK → Prop} {a b : Expr} {t : TA} (hc : CallR X (.builtin id) rl) (hg : Gl X x) (hm : X.mg x = none) (hv : bootBuiltins x = some (.builtin id)) (hn : x ≠ "__name__") (hd : (x == ("__debug__" : Str)) = false)
    (ha : PA X [a, b] t) (ns : notStar a = true) (nb : notStar b = true) : PE X (.Call (.Name x p0) [a, b] [] pos) (tCB rl t) :=
  pe_callB hc hg hm hv ha hn hd (star_cons ns) (star_none (by simp [nb]))
section
variable {a b : Expr} {ep : Pl} {ea eb : E}
theorem a_len (hK : X.K = B.K) (hg : Gl X "len") (hm : X.mg "len" = none) (ha : PE X a (tP B C W ep)) (ns : notStar a = true) : PE X (.Call (.Name "len" p0) [a] [] pos) (tE B C W (.len ep)) := by
  refine PE.imp (blt1 (CallR.or call_len_seq call_len_str) hg hm boot_len (by decide) (by decide) ha ns) fun σ H Q ⟨T, g, r, Ke, Xe, R, hw, hq, hx⟩ => ?_
  refine ⟨T, g, r, fun q g1 => lenOk q.2 ∧ Ke (.int (lenCv q.2)) g1, Xe, R, hw, fun q g1 T1 H1 v x1 R1 ⟨rv, _⟩ sm ⟨hl, hk⟩ => ?_, hx⟩
  obtain ⟨s, c⟩ := q
  cases c with
  | seq t xs =>
    cases t with
    | true =>
      obtain ⟨a, vs, rfl, f, rs⟩ := rv
      exact .inl ⟨a, vs, rfl, .inr (hK ▸ R1.fzT f), by rw [rs.length]; exact hq (.int (xs.length : Nat)) g1 T1 H1 _ x1 R1 rfl sm hk⟩
    | false =>
      obtain ⟨a, vs, rfl, f, rs⟩ := rv
      exact .inl ⟨a, vs, rfl, .inl (hK ▸ f), by rw [rs.length]; exact hq (.int (xs.length : Nat)) g1 T1 H1 _ x1 R1 rfl sm hk⟩
  | str s =>
    refine .inr ⟨s, by rw [show v = V.str s from rv], line_le hl, hq (.int (s.length : Nat)) g1 T1 H1 _ x1 R1 rfl sm hk⟩
  | dct k => exact hl.elim
theorem a_sum (hK : X.K = B.K) (hc : X.calm = true) (hg : Gl X "sum") (hm : X.mg "sum" = none) (ha : PE X a (tP B C W ep)) (ns : notStar a = true) : PE X (.Call (.Name "sum" p0) [a] [] pos) (tE B C W (.sum ep)) := by
  refine PE.imp (blt1 (cr_sum hc) hg hm (by decide +kernel) (by decide) (by decide) ha ns) fun σ H Q ⟨T, g, r, Ke, Xe, R, hw, hq, hx⟩ => ?_
  refine ⟨T, g, r, fun q g1 => (match q.2 with | .seq false xs => (match ints? xs with | some ns => Ke (.int ns.sum) g1 | none => False) | _ => False), Xe, R, hw, fun q g1 T1 H1 v x1 R1 ⟨rv, _⟩ sm hk => ?_, hx⟩
  obtain ⟨s, c⟩ := q
  cases c with
  | seq t xs =>
    cases t with
    | true => exact hk.elim
    | false =>
      obtain ⟨a, vs, rfl, f, rs⟩ := rv
      dsimp only at hk
      split at hk
      · rename_i ns e
        exact ⟨a, ns, rfl, by rw [← rs.ints e]; exact hK ▸ f, hq (.int ns.sum) g1 T1 H1 _ x1 R1 rfl sm hk⟩
      · exact hk.elim
  | _ => exact hk.elim
theorem a_all (hK : X.K = B.K) (hc : X.calm = true) (hg : Gl X "all") (hm : X.mg "all" = none) (ha : PE X a (tP B C W ep)) (ns : notStar a = true) : PE X (.Call (.Name "all" p0) [a] [] pos) (tE B C W (.allof ep)) := by
  refine PE.imp (blt1 (cr_all hc) hg hm (by decide +kernel) (by decide) (by decide) ha ns) fun σ H Q ⟨T, g, r, Ke, Xe, R, hw, hq, hx⟩ => ?_
  refine ⟨T, g, r, fun q g1 => (match q.2 with | .seq false xs => (match bools? xs with | some ns => Ke (.bl (ns.all id)) g1 | none => False) | _ => False), Xe, R, hw, fun q g1 T1 H1 v x1 R1 ⟨rv, _⟩ sm hk => ?_, hx⟩
  obtain ⟨s, c⟩ := q
  cases c with
  | seq t xs =>
    cases t with
    | true => exact hk.elim
    | false =>
      obtain ⟨a, vs, rfl, f, rs⟩ := rv
      dsimp only at hk
      split at hk
      · rename_i ns e
        exact ⟨a, ns, rfl, by rw [← rs.bools e]; exact hK ▸ f, hq (.bl (ns.all id)) g1 T1 H1 _ x1 R1 rfl sm hk⟩
      · exact hk.elim
  | _ => exact hk.elim
theorem a_any (hK : X.K = B.K) (hc : X.calm = true) (hg : Gl X "any") (hm : X.mg "any" = none) (ha : PE X a (tP B C W ep)) (ns : notStar a = true) : PE X (.Call (.Name "any" p0) [a] [] pos) (tE B C W (.anyof ep)) := by
  refine PE.imp (blt1 (cr_any hc) hg hm (by decide +kernel) (by decide) (by decide) ha ns) fun σ H Q ⟨T, g, r, Ke, Xe, R, hw, hq, hx⟩ => ?_
  refine ⟨T, g, r, fun q g1 => (match q.2 with | .seq false xs => (match bools? xs with | some ns => Ke (.bl (ns.any id)) g1 | none => False) | _ => False), Xe, R, hw, fun q g1 T1 H1 v x1 R1 ⟨rv, _⟩ sm hk => ?_, hx⟩
  obtain ⟨s, c⟩ := q
  cases c with
  | seq t xs =>
    cases t with
    | true => exact hk.elim
    | false =>
      obtain ⟨a, vs, rfl, f, rs⟩ := rv
      dsimp only at hk
      split at hk
      · rename_i ns e
        exact ⟨a, ns, rfl, by rw [← rs.bools e]; exact hK ▸ f, hq (.bl (ns.any id)) g1 T1 H1 _ x1 R1 rfl sm hk⟩
      · exact hk.elim
  | _ => exact hk.elim
theorem a_totup (hK : X.K = B.K) (hg : Gl X "tuple") (hm : X.mg "tuple" = none) (ha : PE X a (tP B C W ep)) (ns : notStar a = true) : PE X (.Call (.Name "tuple" p0) [a] [] pos) (tE B C W (.totup ep)) := by
  refine PE.imp (blt1T call_tuple_of hg hm (by decide +kernel) (by decide) (by decide) ha ns) fun σ H Q ⟨T, g, r, Ke, Xe, R, hw, hq, hx⟩ => ?_
  refine ⟨T, g, r, fun q g1 => (match q.2 with | .seq _ xs => Ke (.seq true xs) g1 | _ => False), Xe, R, hw, fun q g1 T1 H1 v x1 R1 ⟨rv, _⟩ sm hk => ?_, hx⟩
  obtain ⟨s, c⟩ := q
  cases c with
  | seq t xs =>
    dsimp only at hk
    cases t with
    | true =>
      obtain ⟨a, vs, rfl, f, rs⟩ := rv
      exact ⟨a, vs, rfl, .inr ⟨hK ▸ R1.fzT f, hq (.seq true xs) g1 T1 H1 _ x1 R1 ⟨a, vs, rfl, f, rs⟩ sm hk⟩⟩
    | false =>
      obtain ⟨a, vs, rfl, f, rs⟩ := rv
      refine ⟨a, vs, rfl, .inl ⟨hK ▸ f, fun p np => ?_⟩⟩
      obtain ⟨x3, R3, rd, s3⟩ := new_fz (t := true) R1 rs np
      exact hq (.seq true xs) g1 _ _ _ (x1.trans x3) R3 rd (fun s => (sm s).trans s3) hk
  | _ => exact hk.elim
theorem c_tolist (hK : X.K = B.K) (hg : Gl X "list") (hm : X.mg "list" = none) (ha : PE X a (tP B C W ep)) (ns : notStar a = true) : PE X (.Call (.Name "list" p0) [a] [] pos) (tC B C W (.tolist ep)) := by
  refine PE.imp (blt1T call_list_of hg hm (by decide +kernel) (by decide) (by decide) ha ns) fun σ H Q ⟨T, g, r, Ke, Xe, R, hw, hq, hx⟩ => ?_
  refine ⟨T, g, r, fun q g1 => (match q.2 with | .seq _ xs => Ke (.lst xs) g1 | _ => False), Xe, R, hw, fun q g1 T1 H1 v x1 R1 ⟨rv, _⟩ sm hk => ?_, hx⟩
  obtain ⟨s, c⟩ := q
  cases c with
  | seq t xs =>
    dsimp only at hk
    cases t with
    | true =>
      obtain ⟨a, vs, rfl, f, rs⟩ := rv
      refine ⟨a, vs, rfl, .inr (hK ▸ R1.fzT f), fun p np => ?_⟩
      obtain ⟨R3, rc, s3⟩ := new_lst R1 rs np
      exact hq (.lst xs) g1 _ _ _ x1 R3 rc (fun s => (sm s).trans s3) hk
    | false =>
      obtain ⟨a, vs, rfl, f, rs⟩ := rv
      refine ⟨a, vs, rfl, .inl (hK ▸ f), fun p np => ?_⟩
      obtain ⟨R3, rc, s3⟩ := new_lst R1 rs np
      exact hq (.lst xs) g1 _ _ _ x1 R3 rc (fun s => (sm s).trans s3) hk
  | _ => exact hk.elim
/-! ### upon values -/
def biName : Bi → Str
  | .abs => "abs" | .min2 => "min" | .max2 => "max" | .int1 => "int" | .str1 => "str"
theorem a_abs (hg : Gl X "abs") (hm : X.mg "abs" = none) (ha : PE X a (tE B C W ea)) (ns : notStar a = true) : PE X (.Call (.Name "abs" p0) [a] [] pos) (tE B C W (.bi .abs (.cons ea .nil))) := by
  refine PE.imp (blt1 call_abs hg hm (by decide +kernel) (by decide) (by decide) ha ns) fun σ H Q ⟨T, g, r, Ke, Xe, R, hw, hq, hx⟩ => ?_
  refine ⟨T, g, r, _, Xe, R, hw, fun x g1 T1 H1 v x1 R1 rv sm hk => ?_, hx⟩
  cases x with
  | int i => exact ⟨i, by rw [show v = V.int i from rv], hq (.int (if i < 0 then -i else i)) g1 T1 H1 _ x1 R1 rfl (fun s => sm (ands s).1) hk⟩
  | _ => exact hk.elim
theorem a_int1 (hg : Gl X "int") (hm : X.mg "int" = none) (ha : PE X a (tE B C W ea)) (ns : notStar a = true) : PE X (.Call (.Name "int" p0) [a] [] pos) (tE B C W (.bi .int1 (.cons ea .nil))) := by
  refine PE.imp (blt1T call_int1 hg hm (by decide +kernel) (by decide) (by decide) ha ns) fun σ H Q ⟨T, g, r, Ke, Xe, R, hw, hq, hx⟩ => ?_
  refine ⟨T, g, r, _, Xe, R, hw, fun x g1 T1 H1 v x1 R1 rv sm hk => ?_, hx⟩
  cases x with
  | int i => exact .inl ⟨i, by rw [show v = V.int i from rv], hq (.int i) g1 T1 H1 _ x1 R1 rfl (fun s => sm (ands s).1) hk⟩
  | bl b => exact .inr ⟨b, by rw [show v = V.bl b from rv], hq (.int (if b then 1 else 0)) g1 T1 H1 _ x1 R1 rfl (fun s => sm (ands s).1) hk⟩
  | _ => exact hk.elim
theorem a_str1 (hg : Gl X "str") (hm : X.mg "str" = none) (ha : PE X a (tE B C W ea)) (ns : notStar a = true) : PE X (.Call (.Name "str" p0) [a] [] pos) (tE B C W (.bi .str1 (.cons ea .nil))) := by
  refine PE.imp (blt1T call_str_int hg hm (by decide +kernel) (by decide) (by decide) ha ns) fun σ H Q ⟨T, g, r, Ke, Xe, R, hw, hq, hx⟩ => ?_
  refine ⟨T, g, r, _, Xe, R, hw, fun x g1 T1 H1 v x1 R1 rv sm hk => ?_, hx⟩
  cases x with
  | int i =>
    obtain ⟨hl, hk⟩ : i.natAbs.log2 < 1920 ∧ Ke (.str (toString i)) g1 := hk
    exact ⟨i, by rw [show v = V.int i from rv], hl, hq (.str (toString i)) g1 T1 H1 _ x1 R1 rfl (fun s => sm (ands s).1) hk⟩
  | _ => exact hk.elim
theorem inv_min {ds : List D} {K : D → Prop} (h : wBi .min2 ds K) : ∃ i j, ds = [.int i, .int j] ∧ K (.int (if j < i then j else i)) := by
  unfold wBi at h
  split at h <;> first
    | exact ⟨_, _, rfl, h⟩
    | exact h.elim
    | contradiction
theorem inv_max {ds : List D} {K : D → Prop} (h : wBi .max2 ds K) : ∃ i j, ds = [.int i, .int j] ∧ K (.int (if j > i then j else i)) := by
  unfold wBi at h
  split at h <;> first
    | exact ⟨_, _, rfl, h⟩
    | exact h.elim
    | contradiction
theorem RDs.two {x y : D} {vs : List V} (h : RDs B T [x, y] vs) : ∃ v u, vs = [v, u] ∧ RD B T x v ∧ RD B T y u := by
  obtain ⟨v, _, rfl, h1, u, _, rfl, h2, h3⟩ := h
  exact ⟨v, u, by rw [show _ = [] from h3], h1, h2⟩
theorem a_min (hc : X.calm = true) (hg : Gl X "min") (hm : X.mg "min" = none) (ha : PA X [a, b] (tAs B C W (.cons ea (.cons eb .nil)))) (ns : notStar a = true) (nb : notStar b = true) : PE X (.Call (.Name "min" p0) [a, b] [] pos) (tE B C W (.bi .min2 (.cons ea (.cons eb .nil)))) := by
  refine PE.imp (blt2 (call_min2 hc) hg hm (by decide +kernel) (by decide) (by decide) ha ns nb) fun σ H Q ⟨T, g, r, Ke, Xe, R, hw, hq, hx⟩ => ?_
  refine ⟨T, g, r, _, Xe, R, hw, fun x g1 T1 H1 v x1 R1 rv sm hk => ?_, hx⟩
  obtain ⟨i, j, rfl, hk2⟩ := inv_min hk
  obtain ⟨v1, v2, rfl, r1, r2⟩ := rv.two
  exact ⟨i, j, by rw [show v1 = V.int i from r1, show v2 = V.int j from r2], hq (.int (if j < i then j else i)) g1 T1 H1 _ x1 R1 rfl sm hk2⟩
theorem a_max (hc : X.calm = true) (hg : Gl X "max") (hm : X.mg "max" = none) (ha : PA X [a, b] (tAs B C W (.cons ea (.cons eb .nil)))) (ns : notStar a = true) (nb : notStar b = true) : PE X (.Call (.Name "max" p0) [a, b] [] pos) (tE B C W (.bi .max2 (.cons ea (.cons eb .nil)))) := by
  refine PE.imp (blt2 (call_max2 hc) hg hm (by decide +kernel) (by decide) (by decide) ha ns nb) fun σ H Q ⟨T, g, r, Ke, Xe, R, hw, hq, hx⟩ => ?_
  refine ⟨T, g, r, _, Xe, R, hw, fun x g1 T1 H1 v x1 R1 rv sm hk => ?_, hx⟩
  obtain ⟨i, j, rfl, hk2⟩ := inv_max hk
  obtain ⟨v1, v2, rfl, r1, r2⟩ := rv.two
  exact ⟨i, j, by rw [show v1 = V.int i from r1, show v2 = V.int j from r2], hq (.int (if j > i then j else i)) g1 T1 H1 _ x1 R1 rfl sm hk2⟩
/-! ### isinstance -/
def tyStr : Ty → String
  | .int => "int" | .bool => "bool" | .str => "str" | .tuple => "tuple" | .list => "list" | .dict => "dict"
def tyNm : Ty → Str
  | .int => "int" | .bool => "bool" | .str => "str" | .tuple => "tuple" | .list => "list" | .dict => "dict"
theorem ty_non (t : Ty) : kitB "NoneType" (tyStr t) = some false := by cases t <;> decide +kernel
theorem ty_bl (t : Ty) : kitB "bool" (tyStr t) = some (t == .bool || t == .int) := by cases t <;> decide +kernel
theorem ty_int (t : Ty) : kitB "int" (tyStr t) = some (t == .int) := by cases t <;> decide +kernel
theorem ty_str (t : Ty) : kitB "str" (tyStr t) = some (t == .str) := by cases t <;> decide +kernel
theorem ty_tup (t : Ty) : kitB "tuple" (tyStr t) = some (t == .tuple) := by cases t <;> decide +kernel
theorem ty_lst (t : Ty) : kitB "list" (tyStr t) = some (t == .list) := by cases t <;> decide +kernel
/-- a list, a tuple that is read: of which type -/
theorem tyX_T {a : Addr} {vs : List V} (h : SqT X.K H a vs) : TyX X.K H (.ref a) (.type "tuple") := by
  rcases h with (h | ⟨o, h⟩) | ⟨o, _, _, h, c, _⟩
  · exact .base (.tup h)
  · exact .fTuple h
  · exact .kTuple h c
theorem tyX_L {a : Addr} {vs : List V} (h : SqL X.K H a vs) : TyX X.K H (.ref a) (.type "list") := by
  rcases h with (h | ⟨o, h⟩) | ⟨o, _, _, h, c, _⟩
  · exact .base (.lst h)
  · exact .base (.frz h)
  · exact .kList h c
theorem ty_read (hK : X.K = B.K) (R : RR B T g r H σ) {d : D} {v : V} {t : Ty} {b : Bool} (h : RD B T d v) (e : tyOf g d t = some b) : ∃ n, TyX X.K H v (.type n) ∧ kitB n (tyStr t) = some b := by
  cases d with
  | non =>
    cases e
    rw [show v = V.non from h]
    exact ⟨_, .base .non, ty_non t⟩
  | bl k =>
    cases e
    rw [show v = V.bl k from h]
    exact ⟨_, .base (.bl k), ty_bl t⟩
  | int k =>
    cases e
    rw [show v = V.int k from h]
    exact ⟨_, .base (.int k), ty_int t⟩
  | str k =>
    cases e
    rw [show v = V.str k from h]
    exact ⟨_, .base (.str k), ty_str t⟩
  | seq k xs =>
    obtain ⟨a, vs, rfl, f, rs⟩ := h
    cases k with
    | true =>
      cases e
      exact ⟨_, tyX_T (hK ▸ R.fzT f), ty_tup t⟩
    | false =>
      cases e
      exact ⟨_, tyX_L (hK ▸ R.fzL f), ty_lst t⟩
  | ref i =>
    obtain ⟨a, rfl, ha⟩ := h
    unfold tyOf at e
    dsimp only at e
    split at e
    · rename_i xs q
      cases e
      obtain ⟨vs, h1, h2⟩ := R.objAt q ha
      exact ⟨_, .base (.lst h1), ty_lst t⟩
    · rename_i kvs q
      cases e
    · cases e
    · cases e
    · cases e
  | giv ns =>
    cases e
    obtain ⟨a, rfl, h⟩ := h
    exact ⟨_, hK ▸ tyX_L (X := X) (hK ▸ R.gvL h), ty_lst t⟩
theorem a_isi (hK : X.K = B.K) {t : Ty} {p1 : Pos} (hg : Gl X "isinstance") (hm : X.mg "isinstance" = none) (ht : Gl X (tyNm t)) (htm : X.mg (tyNm t) = none) (ha : PE X a (tE B C W ea)) (ns : notStar a = true) :
    PE X (.Call (.Name "isinstance" p0) [a, .Name (tyNm t) p1] [] pos) (tE B C W (.isi ea t)) := by
  have hv : bootBuiltins (tyNm t) = some (.type (tyStr t)) := by cases t <;> decide +kernel
  have hT : PE X (.Name (tyNm t) p1) (L2.tC (.ty (tyStr t))) := pe_bltn ht htm hv rfl (by cases t <;> decide) (by cases t <;> decide)
  refine PE.imp (blt2 call_isi hg hm (by decide +kernel) (by decide) (by decide) (pa_cons ha (pa_cons hT pa_nil (star_cons rfl)) (star_cons ns)) ns rfl) fun σ H Q ⟨T, g, r, Ke, Xe, R, hw, hq, hx⟩ => ?_
  refine ⟨T, g, r, _, Xe, R, hw, fun x g1 T1 H1 v x1 R1 rv sm hk => ?_, hx⟩
  split at hk
  · rename_i b e
    obtain ⟨n, h1, h2⟩ := ty_read hK R1 rv e
    exact ⟨v, .ty (tyStr t), .type n, .type (tyStr t), b, rfl, .ty _, h1, kit_ty h2, hq (.bl b) g1 T1 H1 _ x1 R1 rfl sm hk⟩
  · exact hk.elim
/-! ### in, truth -/
theorem flat_V {d : D} {v : V} (h : RD B T d v) (f : d.flat = true) : flatV v = true := by
  cases d <;> first | (cases f; done) | (rw [show v = _ from h]; rfl)
theorem flats_V : ∀ {ds : List D} {vs : List V}, RDs B T ds vs → ds.all D.flat = true → vs.all flatV = true
  | [], _, h, _ => by rw [show _ = [] from h]; rfl
  | d :: ds, vs, h, f => by
    obtain ⟨y, ys, rfl, h1, h2⟩ := h
    simp only [List.all_cons, Bool.and_eq_true] at f ⊢
    exact ⟨flat_V h1 f.1, flats_V h2 f.2⟩
theorem flat_eqv {x y : D} {v u : V} (hx : RD B T x v) (hy : RD B T y u) (fx : x.flat = true) (fy : y.flat = true) : L2.eqV v u = D.eqv x y := by
  cases x <;> first | (cases fx; done) | skip
  all_goals cases y <;> first | (cases fy; done) | skip
  all_goals (rw [show v = _ from hx, show u = _ from hy]; simp [L2.eqV, D.eqv])
theorem flats_in {x : D} {v : V} (hx : RD B T x v) (fx : x.flat = true) : ∀ {ds : List D} {vs : List V}, RDs B T ds vs → ds.all D.flat = true → inV v vs = ds.any fun y => D.eqv y x
  | [], _, h, _ => by rw [show _ = [] from h]; rfl
  | d :: ds, vs, h, f => by
    obtain ⟨y, ys, rfl, h1, h2⟩ := h
    simp only [List.all_cons, Bool.and_eq_true] at f
    have ih := flats_in hx fx h2 f.2
    unfold inV at ih ⊢
    rw [List.any_cons, List.any_cons, ih, flat_eqv h1 hx f.1 fx]
def rInA (K : PySem.W.Frag) (neg : Bool) : R2 := fun x y H Q => rIn K neg x y H Q ∨ rInM K neg x y H Q
theorem any_eqv {x : D} : ∀ {ds : List D}, D.pures ds = true → x.pure = true → (D.datas ds).any (fun z => PyData.eqv z x.data) = ds.any fun y => D.eqv y x
  | [], _, _ => rfl
  | d :: ds, h, hx => by
    simp only [D.pures, Bool.and_eq_true] at h
    show (PyData.eqv d.data x.data || (D.datas ds).any _) = _
    rw [any_eqv h.2 hx, data_eqv d x h.1 hx]
    rfl
theorem isin_conv (hK : X.K = B.K) {n : Bool} {σ : St} {H : Hp} {Q : VK} (h : tE B C W (.isin n ea ep) σ H Q) : tOp (rInA X.K n) (tE B C W ea) (tP B C W ep) σ H Q := by
  obtain ⟨T, g, r, Ke, Xe, R, hw, hq, hx⟩ := h
  refine ⟨T, g, r, _, Xe, R, hw, fun x g1 T1 H1 v x1 R1 rv sm hk => ?_, hx⟩
  refine ⟨T1, g1, r, fun q g2 => (match q.2 with
      | .seq t xs => ((x.flat = true ∧ xs.all D.flat = true) ∨ (x.pure = true ∧ D.pures xs = true ∧ x.dep ≤ 60)) ∧ Ke (.bl (n != xs.any fun y => D.eqv y x)) g2
      | _ => False), Xe, R1, hk, fun q g2 T2 H2 u x2 R2 ⟨ru, _⟩ sm2 hk2 => ?_, fun c g' T' H' e R' => hx c g' T' H' (x1.trans e) R'⟩
  have rv := RD.ext x2 _ _ rv
  have S : simE (.isin n ea ep) = true → Same H H2 := fun s => (sm (ands s).1).trans (sm2 (ands s).2)
  obtain ⟨s, c⟩ := q
  rw [hK]
  cases c with
  | seq t xs =>
    obtain ⟨hc, hk2⟩ := hk2
    have fin := hq (.bl (n != xs.any fun y => D.eqv y x)) g2 T2 H2 (.bl (n != xs.any fun y => D.eqv y x)) (x1.trans x2) R2 rfl S hk2
    have main : ∀ (a : Addr) (vs : List V), u = .ref a → (SqL B.K H2 a vs ∨ SqT B.K H2 a vs) → RDs B T2 xs vs → rInA B.K n v u H2 Q := fun a vs eu hs rs => by
      subst eu
      rcases hc with ⟨fx, fs⟩ | ⟨px, ps, hd⟩
      · refine .inl ⟨a, vs, rfl, hs, flat_V rv fx, flats_V rs fs, ?_⟩
        rw [flats_in rv fx rs fs]
        cases n with
        | true => simpa using fin
        | false => simpa using fin
      · refine .inr ⟨x.data, D.datas xs, RD.dp R2 x v px rv, ?_, data_lay x px, datas_lay xs ps, by rw [data_dep x px]; exact hd, by rw [any_eqv ps px]; exact fin⟩
        rcases hs with hs | hs
        · exact .inl (.lst hs (RDs.dp R2 xs vs ps rs))
        · exact .inr (.tup hs (RDs.dp R2 xs vs ps rs))
    cases t with
    | true =>
      obtain ⟨a, vs, e, f, rs⟩ := ru
      exact main a vs e (.inr (R2.fzT f)) rs
    | false =>
      obtain ⟨a, vs, e, f, rs⟩ := ru
      exact main a vs e (.inl f) rs
  | _ => exact hk2.elim
def inOp : Bool → CmpOp
  | false => .In
  | true => .NotIn
theorem RCv.dp (R : RR B T g r H σ) {t : Bool} {xs : List D} {v : V} (h : RCv B T H (.seq t xs) v) (p : D.pures xs = true) : Dp B.K H v (D.seq t xs).data := by
  cases t with
  | true =>
    obtain ⟨a, vs, rfl, f, rs⟩ := h
    exact .tup (R.fzT f) (RDs.dp R xs vs p rs)
  | false =>
    obtain ⟨a, vs, rfl, f, rs⟩ := h
    exact .lst f (RDs.dp R xs vs p rs)
def eqCm (n : Bool) : CmpOp := cmOp (if n = true then .ne else .eq)
theorem eqp_conv (hK : X.K = B.K) {n : Bool} {p q : Pl} (sq : simP q = true) {σ : St} {H : Hp} {Q : VK} (h : tE B C W (.eqp n p q) σ H Q) : tOp (rEqM X.K n) (tP B C W p) (tP B C W q) σ H Q := by
  obtain ⟨T, g, r, Ke, Xe, R, hw, hq, hx⟩ := h
  refine ⟨T, g, r, fun z g1 => wP B.P C q r g1 (fun _ c' g2 => match z.2, c' with
      | .seq t xs, .seq u ys => (D.pures xs = true ∧ D.pures ys = true ∧ min (D.deps xs) (D.deps ys) ≤ 59) ∧ Ke (.bl (n != D.eqv (.seq t xs) (.seq u ys))) g2
      | _, _ => False) Xe, Xe, R, hw, fun z g1 T1 H1 v x1 R1 ⟨rv, _⟩ sm hk => ?_, hx⟩
  refine ⟨T1, g1, r, fun y g2 => (match z.2, y.2 with
      | .seq t xs, .seq u ys => (D.pures xs = true ∧ D.pures ys = true ∧ min (D.deps xs) (D.deps ys) ≤ 59) ∧ Ke (.bl (n != D.eqv (.seq t xs) (.seq u ys))) g2
      | _, _ => False), Xe, R1, hk, fun y g2 T2 H2 u x2 R2 ⟨ru, _⟩ sm2 hk2 => ?_, fun c g' T' H' e R' => hx c g' T' H' (x1.trans e) R'⟩
  obtain ⟨_, c⟩ := z
  obtain ⟨_, c'⟩ := y
  have inv : ∃ t xs u ys, c = .seq t xs ∧ c' = .seq u ys ∧ (D.pures xs = true ∧ D.pures ys = true ∧ min (D.deps xs) (D.deps ys) ≤ 59) ∧ Ke (.bl (n != D.eqv (.seq t xs) (.seq u ys))) g2 := by
    dsimp only at hk2
    split at hk2
    · exact ⟨_, _, _, _, rfl, rfl, hk2⟩
    · exact hk2.elim
  obtain ⟨t, xs, u', ys, rfl, rfl, ⟨p1, p2, p3⟩, hk3⟩ := inv
  have rv := rv.keep x2 (sm2 sq)
  have q1 : (D.seq t xs).pure = true := p1
  have q2 : (D.seq u' ys).pure = true := p2
  rw [hK]
  refine ⟨_, _, rv.dp R2 p1, ru.dp R2 p2, data_lay _ q1, data_lay _ q2, ?_, ?_⟩
  · rw [data_dep _ q1, data_dep _ q2]
    show min (D.deps xs + 1) (D.deps ys + 1) ≤ 60
    omega
  · rw [data_eqv _ _ q1 q2]
    exact hq (.bl (n != D.eqv (.seq t xs) (.seq u' ys))) g2 T2 H2 _ (x1.trans x2) R2 rfl (fun s => (sm (ands s).1).trans (sm2 (ands s).2)) hk3
theorem op_eqA (hu : X.A.units + 200 < cLine) (n : Bool) : OpR X (compareOp (eqCm n)) (rEqM X.K n) := by
  cases n with
  | false => exact op_eqM hu
  | true => exact op_neM hu
theorem a_eqp {a b : Expr} {p q : Pl} (hu : X.A.units + 200 < cLine) (hK : X.K = B.K) {n : Bool} (ha : PE X a (tP B C W p)) (hb : PE X b (tP B C W q)) (sq : simP q = true) (hm : behindInMarks (eqCm n) b = false) : PE X (.Compare a [eqCm n] [b] pos) (tE B C W (.eqp n p q)) :=
  PE.imp (pe_cmpR (op_eqA hu n) ha hb hm) fun _ _ _ h => eqp_conv hK sq h
theorem b_eqp {a b : Expr} {p q : Pl} (hu : X.A.units + 200 < cLine) (hK : X.K = B.K) {n : Bool} (ha : PE X a (tP B C W p)) (hb : PE X b (tP B C W q)) (sq : simP q = true) (hm : behindInMarks (eqCm n) b = false) : PT X (.Compare a [eqCm n] [b] pos) (tB' B C W (.eqp n p q)) :=
  PT.imp (pt_cmpR (op_eqA hu n) ha hb hm) fun _ _ _ h => eqp_conv hK sq (tB_tE h)
theorem op_inA (hu : X.A.units + 200 < cLine) (n : Bool) : OpR X (compareOp (inOp n)) (rInA X.K n) := by
  cases n with
  | false => exact OpR.or op_in_seq (op_inM hu)
  | true => exact OpR.or op_notIn_seq (op_notInM hu)
theorem a_isin (hu : X.A.units + 200 < cLine) (hK : X.K = B.K) {n : Bool} (ha : PE X a (tE B C W ea)) (hb : PE X b (tP B C W ep)) (hm : behindInMarks (inOp n) b = false) : PE X (.Compare a [inOp n] [b] pos) (tE B C W (.isin n ea ep)) :=
  PE.imp (pe_cmpR (op_inA hu n) ha hb hm) fun _ _ _ h => isin_conv hK h
theorem b_isin (hu : X.A.units + 200 < cLine) (hK : X.K = B.K) {n : Bool} (ha : PE X a (tE B C W ea)) (hb : PE X b (tP B C W ep)) (hm : behindInMarks (inOp n) b = false) : PT X (.Compare a [inOp n] [b] pos) (tB' B C W (.isin n ea ep)) :=
  PT.imp (pt_cmpR (op_inA hu n) ha hb hm) fun _ _ _ h => isin_conv hK (tB_tE h)
theorem b_truth (hK : X.K = B.K) (ha : PE X a (tP B C W ep)) (he : ∀ whole, isTrue a X.env whole = (do let v ← whole; standAt a.pos; holding [v] (truthy v))) : PT X a (tB' B C W (.truth ep)) := by
  refine PT.imp (pt_truth ha he) fun σ H Q ⟨T, g, r, Ke, Xe, R, hw, hq, hx⟩ => ?_
  refine ⟨T, g, r, fun q g1 => (match q.2 with | .seq _ xs => Ke (!xs.isEmpty) g1 | _ => False), Xe, R, ?_, fun q g1 T1 H1 v x1 R1 ⟨rv, _⟩ sm hk => ?_, hx⟩
  · have e : wB B.P C (.truth ep) r g Ke Xe = wP B.P C ep r g (fun s c g1 => (match c with | .seq _ xs => Ke (!xs.isEmpty) g1 | _ => False)) Xe := by
      refine congrFun (congrArg (wP B.P C ep r g) ?_) Xe
      funext s c g1
      cases c <;> rfl
    rw [e] at hw
    exact hw
  · obtain ⟨s, c⟩ := q
    cases c with
    | seq t xs =>
      dsimp only at hk
      have em : ∀ vs, RDs B T1 xs vs → (!xs.isEmpty) = !vs.isEmpty := fun vs rs => by
        have := rs.length
        cases vs <;> cases xs <;> simp_all
      cases t with
      | true =>
        obtain ⟨a, vs, rfl, f, rs⟩ := rv
        exact ⟨_, .inr (.inl ⟨vs, hK ▸ R1.fzT f, em vs rs⟩), hq _ g1 T1 H1 x1 R1 sm hk⟩
      | false =>
        obtain ⟨a, vs, rfl, f, rs⟩ := rv
        exact ⟨_, .inl ⟨vs, hK ▸ f, em vs rs⟩, hq _ g1 T1 H1 x1 R1 sm hk⟩
    | _ => exact hk.elim
end
end Vb

set_option maxHeartbeats 1000000
/-! The plain layer, part 6: globals, pops, what is walked, comprehensions. -/
namespace Vb
open PySem L2
variable {B : Bd} {C : Call} {W : WX} {X : Cx} {pos : Pos}
variable {T T' : Tm} {g g' : G} {r r' : Rho} {H H' : Hp} {σ σ' : St}
/-! ### retagging -/
def Tm.sett (T : Tm) (p : Addr) (t : Option Tag) : Tm := ⟨fun a => if a = p then t else T.at_ a, T.ex⟩
theorem sett_same {p : Addr} {t : Option Tag} : (T.sett p t).at_ p = t := by simp [Tm.sett]
theorem sett_ne {p a : Addr} {t : Option Tag} (h : a ≠ p) : (T.sett p t).at_ a = T.at_ a := by simp [Tm.sett, h]
theorem RR.retag (R : RR B T g r H σ) {p : Addr} (hp : T.at_ p = none ∨ ∃ u, T.at_ p = some (.fr u)) {o : HO} {t : Option Tag} (ht : ∀ u, t = some (.fz u) ∨ t = some (.fr u) → u = o) (hi : ∀ i, t ≠ some (.id i)) : RR B (T.sett p t) g r (upd H p o) σ := by
  have ne : ∀ {a t'}, T.at_ a = some t' → (∀ u, t' ≠ .fr u) → a ≠ p := fun {a t'} h q e => by
    subst e
    rcases hp with z | ⟨u, z⟩
    · rw [h] at z
      cases z
    · rw [h] at z
      cases z
      exact q u rfl
  have oldi : ∀ {a i}, (T.sett p t).at_ a = some (.id i) → T.at_ a = some (.id i) := fun {a i} h => by
    by_cases e : a = p
    · subst e
      rw [sett_same] at h
      exact absurd h (hi i)
    · rw [sett_ne e] at h
      exact h
  have nw : ∀ {a t'}, T.at_ a = some t' → (∀ u, t' ≠ .fr u) → (T.sett p t).at_ a = some t' := fun h q => (sett_ne (ne h q)).trans h
  have kf : ∀ {a t'}, T.at_ a = some t' → (∀ u, t' ≠ .fr u) → upd H p o a = H a := fun h q => upd_ne (ne h q)
  refine ⟨R.hx, R.len, fun a u h => ?_, fun a u h => ?_, fun a t' h => ?_, fun a b i h1 h2 => R.inj a b i (oldi h1) (oldi h2), fun a i h => R.dom a i (oldi h), fun i ob h => ?_, fun j s h => ?_⟩
  · by_cases e : a = p
    · subst e
      rw [sett_same] at h
      rw [ht u (.inl h)]
      exact upd_same
    · rw [sett_ne e] at h
      rw [upd_ne e]
      exact R.fz a u h
  · by_cases e : a = p
    · subst e
      rw [sett_same] at h
      rw [ht u (.inr h)]
      exact upd_same
    · rw [sett_ne e] at h
      rw [upd_ne e]
      exact R.fr a u h
  · by_cases e : a = p
    · subst e
      exact ⟨o, upd_same⟩
    · rw [sett_ne e] at h
      rw [upd_ne e]
      exact R.tg a t' h
  · obtain ⟨a, h1, h2⟩ := R.obj i ob h
    exact ⟨a, nw h1 (by intro u z; cases z), h2.of (fun _ _ q => nw q (by intro u z; cases z)) (fun _ _ q => nw q (by intro u z; cases z)) rfl (fun _ _ _ q => ⟨nw q (by intro u z; cases z), kf q (by intro u z; cases z)⟩) (kf h1 (by intro u z; cases z))⟩
  · obtain ⟨v, h1, h2⟩ := R.slt j s h
    refine ⟨v, h1, ?_⟩
    cases s with
    | val d => exact RD.of (fun _ _ q => nw q (by intro u z; cases z)) (fun _ _ q => nw q (by intro u z; cases z)) rfl _ _ h2
    | own c =>
      obtain ⟨a, q1, q2, q3⟩ := h2
      exact ⟨a, q1, nw q2 (by intro u z; cases z), q3.of (fun _ _ q => nw q (by intro u z; cases z)) (fun _ _ q => nw q (by intro u z; cases z)) rfl (kf q2 (by intro u z; cases z))⟩
    | exc c => exact h2
theorem tg_fr {o : HO} : ∀ u, (some (Tag.fr o) : Option Tag) = some (.fz u) ∨ (some (Tag.fr o) : Option Tag) = some (.fr u) → u = o := fun u h => by
  rcases h with h | h
  · cases h
  · cases h
    rfl
theorem tg_no {o : HO} : ∀ u, (none : Option Tag) = some (.fz u) ∨ (none : Option Tag) = some (.fr u) → u = o := fun u h => by
  rcases h with h | h <;> cases h
theorem RDs.retag {p : Addr} (hp : T.at_ p = none ∨ ∃ u, T.at_ p = some (.fr u)) {t : Option Tag} {ds : List D} {vs : List V} (h : RDs B T ds vs) : RDs B (T.sett p t) ds vs := by
  have nw : ∀ {a t'}, T.at_ a = some t' → (∀ u, t' ≠ .fr u) → (T.sett p t).at_ a = some t' := fun {a t'} h q => by
    rw [sett_ne]
    · exact h
    · intro e
      subst e
      rcases hp with z | ⟨u, z⟩
      · rw [h] at z
        cases z
      · rw [h] at z
        cases z
        exact q u rfl
  exact RDs.of (fun _ _ q => nw q (by intro u z; cases z)) (fun _ _ q => nw q (by intro u z; cases z)) rfl _ _ h
/-! ### globals -/
theorem a_glb {n : Nms} (Gd : Good B n) (hmg : X.mg = B.mg) {k : Nat} {x : Str} (hn : n.g[k]? = some x) (hg : Gl X x) (hd : (x == ("__debug__" : Str)) = false) : PE X (.Name x pos) (tE B C W (.glb k)) := by
  cases e : B.P.glb[k]? with
  | none =>
    refine ⟨fun pins s σ H Q I ⟨T, g, r, Ke, Xe, R, hw, _⟩ => ?_⟩
    have hw : (match B.P.glb[k]? with | some d => Ke d g | none => False) := hw
    rw [e] at hw
    exact hw.elim
  | some d =>
    obtain ⟨u, v, h1, h2, h3⟩ := Gd.glb k x d hn e
    refine PE.imp (pe_glob hg (by rw [hmg]; exact h1) h2 hd) fun σ H Q ⟨T, g, r, Ke, Xe, R, hw, hq, _⟩ => ?_
    have hw : (match B.P.glb[k]? with | some d => Ke d g | none => False) := hw
    rw [e] at hw
    exact hq d g T H v (Ext.refl T) R (h3 T) (fun _ => Same.refl H) hw
/-! ### what is walked -/
def Wk (B : Bd) (T : Tm) (H : Hp) (src : Ws) (xs : List D) (J : L2.It) : Prop :=
  ∀ (T' : Tm) (g' : G) (r' : Rho) (H' : Hp) (σ' : St), Ext T T' → RR B T' g' r' H' σ' → (Same H H' ∨ (src.ok g' ∧ src.st = true)) → ∀ i : Nat,
    (xs.length ≤ i → J.stop i H') ∧ ∀ d, xs[i]? = some d → J.go i H' ∧ ∀ x H'', J.yld i H' x H'' → ∃ T'', Ext T' T'' ∧ RR B T'' g' r' H'' σ' ∧ Same H' H'' ∧ RD B T'' d x
theorem RDs.ofInts : ∀ ns : List Int, RDs B T (ns.map D.int) (ns.map V.int)
  | [] => rfl
  | i :: ns => ⟨_, _, rfl, rfl, RDs.ofInts ns⟩
theorem src_list (R : RR B T g r H σ) {src : Src} {xs : List D} {v : V} {a : Addr} {vs : List V} (hv : v = .ref a) (sq : SqL B.K H a vs) (rs : RDs B T xs vs) (hr : RSr B T H σ (src, .seq false xs) v) (e : Ext T T') (R' : RR B T' g' r' H' σ')
    (hs : Same H H' ∨ ((wsOf src xs).ok g' ∧ (wsOf src xs).st = true)) : ∃ vs', SqL B.K H' a vs' ∧ RDs B T' xs vs' := by
  subst hv
  rcases hs with s | ⟨ok, st⟩
  · exact ⟨vs, s.seq sq, RDs.ext e _ _ rs⟩
  · cases src with
    | no =>
      obtain ⟨a', vs', e1, f, rs'⟩ := hr.2.1 rfl
      cases e1
      exact ⟨vs', R'.fzL (f.ext e), RDs.ext e _ _ rs'⟩
    | obj i =>
      obtain ⟨a', e1, ha⟩ := hr.1
      cases e1
      have ok : g' i = some (.ct (.lst xs)) := ok
      obtain ⟨vs', e2, rs'⟩ := (show RCt B T' H' a (.lst xs) from R'.objAt ok (e.id _ _ ha))
      exact ⟨vs', SqL.of e2, rs'⟩
    | giv =>
      obtain ⟨a', ns, e1, e2, gv⟩ := hr.2.2.2 rfl
      cases e1
      have e2 : Cv.seq false xs = .seq false (ns.map D.int) := e2
      cases e2
      have gv' : GvS B T' a (ns.map V.int) := by
        rcases gv with ⟨u, h2, h3⟩ | h2
        · exact .inl ⟨u, e.fz _ _ h2, h3⟩
        · exact .inr h2
      have rs : RDs B T' (ns.map D.int) (ns.map V.int) := RDs.ofInts ns
      exact ⟨_, R'.gvL gv', rs⟩
    | loc _ => cases st
    | fld _ _ => cases st
theorem wk_seq (R : RR B T g r H σ) {src : Src} {t : Bool} {xs : List D} {v : V} (h : RCv B T H (.seq t xs) v) (hr : RSr B T H σ (src, .seq t xs) v) :
    ∃ a, v = .ref a ∧ (((∃ vs, SqL B.K H a vs) ∧ Wk B T H (wsOf src xs) xs (Itl B.K a)) ∨ ((∃ vs, SqT B.K H a vs) ∧ Wk B T H (wsOf src xs) xs (Itt B.K a))) := by
  cases t with
  | false =>
    obtain ⟨a, vs, e, f, rs⟩ := h
    refine ⟨a, e, .inl ⟨⟨vs, f⟩, fun T' g' r' H' σ' x' R' hs i => ?_⟩⟩
    obtain ⟨vs', sq, rs'⟩ := src_list R e f rs hr x' R' hs
    refine ⟨fun hl => ⟨vs', sq, by rw [rs'.length]; exact hl⟩, fun d hd => ?_⟩
    obtain ⟨w, h1, h2⟩ := rs'.get hd
    refine ⟨⟨vs', w, sq, h1⟩, fun x H'' y => ?_⟩
    obtain ⟨rfl, f'⟩ := y
    have := f' vs' sq
    rw [h1] at this
    cases this
    exact ⟨T', Ext.refl T', R', Same.refl _, h2⟩
  | true =>
    obtain ⟨a, vs, e, f, rs⟩ := h
    refine ⟨a, e, .inr ⟨⟨vs, R.fzT f⟩, fun T' g' r' H' σ' x' R' hs i => ?_⟩⟩
    have sq := R'.fzT (f.ext x')
    have rs' := RDs.ext x' _ _ rs
    refine ⟨fun hl => ⟨vs, sq, by rw [rs'.length]; exact hl⟩, fun d hd => ?_⟩
    obtain ⟨w, h1, h2⟩ := rs'.get hd
    refine ⟨⟨vs, w, sq, h1⟩, fun x H'' y => ?_⟩
    obtain ⟨rfl, f'⟩ := y
    have := f' vs sq
    rw [h1] at this
    cases this
    exact ⟨T', Ext.refl T', R', Same.refl _, h2⟩
theorem wk_enum (R : RR B T g r H σ) {src : Src} {xs : List D} {v : V} (h : RCv B T H (.seq false xs) v) (hr : RSr B T H σ (src, .seq false xs) v) :
    ∃ a vs, v = .ref a ∧ SqL B.K H a vs ∧ Wk B T H (wsOf src xs) (xs.zipIdx.map fun q => .seq true [.int q.2, q.1]) (Ite B.K a) := by
  obtain ⟨a, vs, e, f, rs⟩ := h
  refine ⟨a, vs, e, f, fun T' g' r' H' σ' x' R' hs i => ?_⟩
  obtain ⟨vs', sq, rs'⟩ := src_list R e f rs hr x' R' hs
  refine ⟨fun hl => ⟨vs', sq, by rw [rs'.length]; simpa using hl⟩, fun d hd => ?_⟩
  simp only [List.getElem?_map, List.getElem?_zipIdx, Option.map_map, Option.map_eq_some_iff] at hd
  obtain ⟨z, h1, rfl⟩ := hd
  obtain ⟨w, h2, h3⟩ := rs'.get h1
  refine ⟨⟨vs', w, sq, h2⟩, fun x H'' y => ?_⟩
  obtain ⟨p, u, rfl, np, rfl, f'⟩ := y
  have := f' vs' sq
  rw [h2] at this
  cases this
  have rv : RDs B T' [.int (i : Nat), z] [.int (i : Nat), w] := ⟨_, _, rfl, rfl, _, _, rfl, h3, rfl⟩
  obtain ⟨x3, R3, rd, s3⟩ := new_fz (t := true) R' rv np
  refine ⟨_, x3, R3, s3, ?_⟩
  simpa using rd
theorem wk_range {lo : Int} {n : Nat} : Wk B T H .no ((List.range n).map fun (k : Nat) => D.int (lo + (k : Int))) (Itr lo n) := by
  intro T' g' r' H' σ' x' R' hs i
  refine ⟨fun hl => (show n ≤ i by simpa using hl), fun d hd => ?_⟩
  simp only [List.getElem?_map, Option.map_eq_some_iff] at hd
  obtain ⟨k, h1, rfl⟩ := hd
  have lt : i < n := by
    rcases Nat.lt_or_ge i n with h | h
    · exact h
    · rw [List.getElem?_eq_none (by simpa using h)] at h1
      cases h1
  have ek : k = i := by
    rw [List.getElem?_range lt] at h1
    exact (Option.some.inj h1).symm
  subst ek
  refine ⟨lt, fun x H'' y => ?_⟩
  obtain ⟨rfl, rfl⟩ := y
  exact ⟨T', Ext.refl T', R', Same.refl _, rfl⟩
def tI (B : Bd) (C : Call) (W : WX) (it : It) : TI := fun σ H R =>
  ∃ (T : Tm) (g : G) (r : Rho) (Ki : Ws → List D → G → Prop) (Xe : Kx), RR B T g r H σ ∧ wI B.P C it r g Ki Xe ∧
    (∀ src xs g' T' H' J, Ext T T' → RR B T' g' r H' σ → Wk B T' H' src xs J → (simI it = true → Same H H') → Ki src xs g' → R J H') ∧
    (∀ c g' T' H', Ext T T' → RR B T' g' r H' σ → Xe c g' → W (.ref (B.cad c)) none σ H')
def iSeq (K : PySem.W.Frag) (tl : TE) : TI := fun σ H R => tl σ H fun x H1 => ∃ a, x = .ref a ∧ (((∃ xs, SqL K H1 a xs) ∧ R (Itl K a) H1) ∨ ((∃ xs, SqT K H1 a xs) ∧ R (Itt K a) H1))
theorem pi_seq {tg l : Expr} {tl : TE} (hl : PE X l tl) : PI X tg l (iSeq X.K tl) := by
  refine ⟨fun pins s σ H R I h => ?_⟩
  refine thn (hl.run pins s σ H _ I h) fun v s1 ⟨x, H1, I1, r1, q1⟩ => ?_
  obtain ⟨a, e, q⟩ := q1
  subst e
  cases r1
  rcases q with ⟨⟨xs, hq⟩, q⟩ | ⟨⟨xs, hq⟩, q⟩
  · obtain ⟨its, rv, p, hz⟩ := I1.list hq
    refine wpAny_pyIter_list p.isList ?_
    refine ⟨s1.heap.objs.size, [s1.heap.objs.size], _, _, H1, rfl, I1.kept (t' := s1.toks) fun b o e => Heap.get?_push_of_some _ e, turn_list a _, ⟨_, Heap.get?_push_size _ rfl, rfl, rfl⟩, fun b hb => ?_, q⟩
    have e : b = s1.heap.objs.size := by simpa using hb
    subst e
    exact I1.fpOk (Nat.le_refl _) (I1.hok.fresh (Nat.le_refl _))
  · obtain ⟨its, rv, p, hz⟩ := I1.tuple hq
    refine wpAny_pyIter_tuple (show s1.heap.IsTuple a its.toArray from p) ?_
    refine ⟨s1.heap.objs.size, [s1.heap.objs.size], _, _, H1, rfl, I1.kept (t' := s1.toks) fun b o e => Heap.get?_push_of_some _ e, turn_tuple a _, ⟨_, Heap.get?_push_size _ rfl, rfl, rfl⟩, fun b hb => ?_, q⟩
    have e : b = s1.heap.objs.size := by simpa using hb
    subst e
    exact I1.fpOk (Nat.le_refl _) (I1.hok.fresh (Nat.le_refl _))
theorem PI.imp {tg l : Expr} {t t' : TI} (h : PI X tg l t) (i : ∀ σ H R, t' σ H R → t σ H R) : PI X tg l t' := ⟨fun pins s σ H R I q => h.run pins s σ H R I (i σ H R q)⟩
theorem i_pl {tg p : Expr} {ep : Pl} (hK : X.K = B.K) (hp : PE X p (tP B C W ep)) : PI X tg p (tI B C W (.pl ep)) := by
  refine PI.imp (pi_seq hp) fun σ H Q ⟨T, g, r, Ke, Xe, R, hw, hq, hx⟩ => ?_
  refine ⟨T, g, r, fun q g1 => (match q.2 with | .seq _ xs => Ke (wsOf q.1 xs) xs g1 | _ => False), Xe, R, hw, fun q g1 T1 H1 v x1 R1 ⟨rv, rs⟩ sm hk => ?_, hx⟩
  obtain ⟨src, c⟩ := q
  rw [hK]
  cases c with
  | seq t xs =>
    obtain ⟨a, rfl, h | h⟩ := wk_seq R1 rv rs
    · exact ⟨a, rfl, .inl ⟨h.1, hq (wsOf src xs) xs g1 T1 H1 _ x1 R1 h.2 sm hk⟩⟩
    · exact ⟨a, rfl, .inr ⟨h.1, hq (wsOf src xs) xs g1 T1 H1 _ x1 R1 h.2 sm hk⟩⟩
  | _ => exact hk.elim
theorem i_rng1 {tg a : Expr} {ea : E} {p0 : Pos} (hg : Gl X "range") (hm : X.mg "range" = none) (ha : PE X a (tE B C W ea)) (ns : notStar a = true) : PI X tg (.Call (.Name "range" p0) [a] [] pos) (tI B C W (.rng1 ea)) := by
  refine PI.imp (pi_range1 hg hm (pa_cons ha pa_nil (star_cons ns)) (star_cons ns)) fun σ H Q ⟨T, g, r, Ke, Xe, R, hw, hq, hx⟩ => ?_
  refine ⟨T, g, r, _, Xe, R, hw, fun d g1 T1 H1 v x1 R1 rv sm hk => ?_, hx⟩
  cases d with
  | int j =>
    obtain ⟨⟨h1, h2⟩, hk⟩ := hk
    refine ⟨j, by rw [show v = V.int j from rv], h1, h2, hq .no _ g1 T1 H1 _ x1 R1 ?_ sm hk⟩
    have w := @wk_range B T1 H1 0 j.toNat
    simpa using w
  | _ => exact hk.elim
theorem i_rng2 {tg a b : Expr} {ea eb : E} {p0 : Pos} (hg : Gl X "range") (hm : X.mg "range" = none) (ha : PE X a (tE B C W ea)) (hb : PE X b (tE B C W eb)) (na : notStar a = true) (nb : notStar b = true) : PI X tg (.Call (.Name "range" p0) [a, b] [] pos) (tI B C W (.rng2 ea eb)) := by
  refine PI.imp (pi_range2 hg hm (pa_cons ha (pa_cons hb pa_nil (star_cons nb)) (star_cons na)) (by rw [star_cons na, star_cons nb]; rfl) (star_cons nb)) fun σ H Q ⟨T, g, r, Ke, Xe, R, hw, hq, hx⟩ => ?_
  refine ⟨T, g, r, _, Xe, R, hw, fun x g1 T1 H1 v x1 R1 rv sm hk => ?_, hx⟩
  refine ⟨T1, g1, r, _, Xe, R1, hk, fun y g2 T2 H2 u x2 R2 ru sm2 hk2 => ?_, fun c g' T' H' e R' => hx c g' T' H' (x1.trans e) R'⟩
  have inv : ∃ i j, x = .int i ∧ y = .int j ∧ (-(2 ^ 62) ≤ i ∧ i < 2 ^ 62 ∧ -(2 ^ 62) ≤ j ∧ j < 2 ^ 62) ∧ Ke .no ((List.range (j - i).toNat).map fun (n : Nat) => D.int (i + (n : Int))) g2 := by
    split at hk2
    · exact ⟨_, _, rfl, rfl, hk2⟩
    · exact hk2.elim
  obtain ⟨i, j, rfl, rfl, hb, hk3⟩ := inv
  obtain rfl : v = V.int i := rv
  obtain rfl : u = V.int j := ru
  exact ⟨i, j, rfl, hb, hq .no _ g2 T2 H2 _ (x1.trans x2) R2 wk_range (fun s => (sm (ands s).1).trans (sm2 (ands s).2)) hk3⟩
theorem i_enum {elts : List Expr} {kk : Nat} {tpos p0 : Pos} {p : Expr} {ep : Pl} (hK : X.K = B.K) (hg : Gl X "enumerate") (hm : X.mg "enumerate" = none) (hp : PE X p (tP B C W ep)) (ns : notStar p = true) :
    PI X (.Tuple elts kk tpos) (.Call (.Name "enumerate" p0) [p] [] pos) (tI B C W (.enum ep)) := by
  refine PI.imp (pi_enum hg hm (pa_cons hp pa_nil (star_cons ns)) (star_cons ns)) fun σ H Q ⟨T, g, r, Ke, Xe, R, hw, hq, hx⟩ => ?_
  refine ⟨T, g, r, fun q g1 => (match q.2 with | .seq false xs => Ke (wsOf q.1 xs) (xs.zipIdx.map fun q => .seq true [.int q.2, q.1]) g1 | _ => False), Xe, R, hw, fun q g1 T1 H1 v x1 R1 ⟨rv, rs⟩ sm hk => ?_, hx⟩
  obtain ⟨src, c⟩ := q
  rw [hK]
  cases c with
  | seq t xs =>
    cases t with
    | false =>
      obtain ⟨a, vs, rfl, h1, h2⟩ := wk_enum R1 rv rs
      exact ⟨a, vs, rfl, h1, hq (wsOf src xs) _ g1 T1 H1 _ x1 R1 h2 sm hk⟩
    | true => exact hk.elim
  | _ => exact hk.elim
end Vb

set_option maxHeartbeats 1000000
/-! The plain layer, part 7: targets, comprehensions, calls. -/
namespace Vb
open PySem L2
variable {B : Bd} {C : Call} {W : WX} {X : Cx} {pos : Pos}
variable {T T' : Tm} {g g' : G} {r r' : Rho} {H H' : Hp} {σ σ' : St}
/-! ### wiping -/
theorem wipe_get : ∀ (vs : List Nat) (σ : St) (i : Nat), (wipe σ vs)[i]? = if i ∈ vs then (σ[i]?).map (fun _ => none) else σ[i]?
  | [], σ, i => by simp [wipe]
  | v :: vs, σ, i => by
    have ih := wipe_get vs σ i
    show ((wipe σ vs).set v none)[i]? = _
    rw [List.getElem?_set]
    by_cases e : v = i
    · subst e
      simp only [if_true, List.mem_cons, true_or, wipe_length]
      by_cases l : v < σ.length
      · simp [l]
      · simp [l, List.getElem?_eq_none (Nat.le_of_not_lt l)]
    · simp only [e, if_false, List.mem_cons, ih]
      have e' : ¬ i = v := fun z => e z.symm
      simp [e']
theorem wipeR_length (σ : Rho) : ∀ vs : List Nat, (wipeR σ vs).length = σ.length
  | [] => rfl
  | v :: vs => by
    show ((wipeR σ vs).set v none).length = _
    rw [List.length_set, wipeR_length σ vs]
theorem wipeR_get : ∀ (vs : List Nat) (σ : Rho) (i : Nat), (wipeR σ vs)[i]? = if i ∈ vs then (σ[i]?).map (fun _ => none) else σ[i]?
  | [], σ, i => by simp [wipeR]
  | v :: vs, σ, i => by
    have ih := wipeR_get vs σ i
    show ((wipeR σ vs).set v none)[i]? = _
    rw [List.getElem?_set]
    by_cases e : v = i
    · subst e
      simp only [if_true, List.mem_cons, true_or, wipeR_length]
      by_cases l : v < σ.length
      · simp [l]
      · simp [l, List.getElem?_eq_none (Nat.le_of_not_lt l)]
    · simp only [e, if_false, List.mem_cons, ih]
      have e' : ¬ i = v := fun z => e z.symm
      simp [e']
theorem wipe_set {σ : St} {vs : List Nat} {i : Nat} {x : Option V} (h : i ∈ vs) : wipe (σ.set i x) vs = wipe σ vs := by
  refine List.ext_getElem? fun j => ?_
  rw [wipe_get, wipe_get]
  by_cases e : j ∈ vs
  · simp only [e, if_true, List.getElem?_set]
    by_cases q : i = j
    · subst q
      by_cases l : i < σ.length
      · simp [l]
      · simp [l, List.getElem?_eq_none (Nat.le_of_not_lt l)]
    · simp [q]
  · simp only [e, if_false]
    rw [List.getElem?_set_ne (fun z => e (by rw [← z]; exact h))]
theorem wipeR_set {σ : Rho} {vs : List Nat} {i : Nat} {x : Option Sl} (h : i ∈ vs) : wipeR (σ.set i x) vs = wipeR σ vs := by
  refine List.ext_getElem? fun j => ?_
  rw [wipeR_get, wipeR_get]
  by_cases e : j ∈ vs
  · simp only [e, if_true, List.getElem?_set]
    by_cases q : i = j
    · subst q
      by_cases l : i < σ.length
      · simp [l]
      · simp [l, List.getElem?_eq_none (Nat.le_of_not_lt l)]
    · simp [q]
  · simp only [e, if_false]
    rw [List.getElem?_set_ne (fun z => e (by rw [← z]; exact h))]
theorem wipe_idem {σ : St} {vs : List Nat} : wipe (wipe σ vs) vs = wipe σ vs := by
  refine List.ext_getElem? fun j => ?_
  rw [wipe_get, wipe_get]
  by_cases e : j ∈ vs
  · simp only [e, if_true, Option.map_map]
    rfl
  · simp only [e, if_false]
theorem wipeR_idem {σ : Rho} {vs : List Nat} : wipeR (wipeR σ vs) vs = wipeR σ vs := by
  refine List.ext_getElem? fun j => ?_
  rw [wipeR_get, wipeR_get]
  by_cases e : j ∈ vs
  · simp only [e, if_true, Option.map_map]
    rfl
  · simp only [e, if_false]
theorem RR.wipe (R : RR B T g r H σ) (vs : List Nat) : RR B T g (wipeR r vs) H (L2.wipe σ vs) := by
  refine ⟨R.hx, by rw [wipe_length, wipeR_length]; exact R.len, R.fz, R.fr, R.tg, R.inj, R.dom, R.obj, fun j s h => ?_⟩
  rw [wipeR_get] at h
  by_cases e : j ∈ vs
  · simp only [e, if_true, Option.map_eq_some_iff] at h
    obtain ⟨_, _, z⟩ := h
    cases z
  · simp only [e, if_false] at h
    obtain ⟨v, h1, h2⟩ := R.slt j s h
    exact ⟨v, by rw [wipe_get]; simp only [e, if_false]; exact h1, h2⟩
theorem RR.unwipe (R : RR B T g r H σ) {own : List Nat} (ok : ownOk r own = true) (x : Ext T T') (R' : RR B T' g' (wipeR r own) H' (L2.wipe σ own)) : RR B T' g' r H' σ := by
  refine ⟨R'.hx, R.len, R'.fz, R'.fr, R'.tg, R'.inj, R'.dom, R'.obj, fun j s h => ?_⟩
  by_cases e : j ∈ own
  · obtain ⟨v, h1, h2⟩ := R.slt j s h
    refine ⟨v, h1, ?_⟩
    have q := List.all_eq_true.mp ok j e
    rw [h] at q
    cases s with
    | val d => exact RD.ext x _ _ h2
    | own c => cases q
    | exc c => cases q
  · obtain ⟨v, h1, h2⟩ := R'.slt j s (by rw [wipeR_get]; simp only [e, if_false]; exact h)
    rw [wipe_get] at h1
    simp only [e, if_false] at h1
    exact ⟨v, h1, h2⟩
/-! ### targets -/
def gNs : List Nat → TGs
  | [] => gNil
  | i :: is => gCons (gName i) (gNs is)
def gTg (K : PySem.W.Frag) : Tg → TG
  | .slot i => gName i
  | .tup is => gTup K is.length (gNs is)
def Tg.ix : Tg → List Nat
  | .slot i => [i]
  | .tup is => is
theorem gNs_ok {Q : St → Hp → Prop} : ∀ (is : List Nat) (ds : List D) (vs : List V) (r : Rho) (σ : St), RR B T g r H σ → RDs B T ds vs → ds.length = is.length →
    (∀ σ', RR B T g ((is.zip ds).foldl (fun r q => r.set q.1 (some (.val q.2))) r) H σ' → (∀ ws : List Nat, (∀ i ∈ is, i ∈ ws) → L2.wipe σ' ws = L2.wipe σ ws ∧ wipeR ((is.zip ds).foldl (fun r q => r.set q.1 (some (.val q.2))) r) ws = wipeR r ws) → Q σ' H) → gNs is vs σ H Q
  | [], ds, vs, r, σ, R, rs, hl, hq => by
    have e : ds = [] := List.length_eq_zero_iff.mp hl
    subst e
    exact ⟨rs, hq σ R fun _ _ => ⟨rfl, rfl⟩⟩
  | i :: is, [], vs, r, σ, R, rs, hl, hq => by cases hl
  | i :: is, d :: ds, vs, r, σ, R, rs, hl, hq => by
    obtain ⟨v, us, rfl, h1, h2⟩ := rs
    refine ⟨v, us, rfl, ?_⟩
    refine gNs_ok is ds us _ _ (R.setv h1) h2 (by simpa using hl) fun σ' R' hw => hq σ' R' fun ws hi => ?_
    obtain ⟨w1, w2⟩ := hw ws fun j hj => hi j (List.mem_cons_of_mem _ hj)
    exact ⟨w1.trans (wipe_set (hi i List.mem_cons_self)), w2.trans (wipeR_set (hi i List.mem_cons_self))⟩
theorem gTg_ok {t : Tg} {d : D} {v : V} {r1 : Rho} {Q : St → Hp → Prop} (R : RR B T g r H σ) (rv : RD B T d v) (hb : bindT t d r = some r1)
    (hq : ∀ σ', RR B T g r1 H σ' → (∀ ws : List Nat, (∀ i ∈ t.ix, i ∈ ws) → L2.wipe σ' ws = L2.wipe σ ws ∧ wipeR r1 ws = wipeR r ws) → Q σ' H) : gTg B.K t v σ H Q := by
  cases t with
  | slot i =>
    cases hb
    exact hq _ (R.setv rv) fun ws h => ⟨wipe_set (h i List.mem_cons_self), wipeR_set (h i List.mem_cons_self)⟩
  | tup is =>
    unfold bindT at hb
    dsimp only at hb
    split at hb
    · rename_i ds
      split at hb
      · rename_i hl
        cases hb
        obtain ⟨a, vs, rfl, f, rs⟩ := rv
        exact ⟨a, vs, rfl, R.fzT f, by rw [rs.length]; exact hl, gNs_ok is ds vs r σ R rs hl hq⟩
      · cases hb
    · cases hb
theorem asg_names {env : Env} : ∀ {es : List Expr}, es.all notStar = true → (assignEach es env).length = es.length ∧ (assignEach es env).findIdx? (·.1) = none ∧ (assignEach es env).map (·.2) = es.map (fun e => assign e env)
  | [], _ => ⟨rfl, rfl, rfl⟩
  | e :: es, h => by
    simp only [List.all_cons, Bool.and_eq_true] at h
    obtain ⟨h1, h2, h3⟩ := @asg_names env es h.2
    have q : assignEach (e :: es) env = (false, assign e env) :: assignEach es env := by
      cases e <;> first | rfl | (exact absurd h.1 (by simp [notStar]))
    rw [q]
    refine ⟨by simp [h1], ?_, by simp [h3]⟩
    rw [List.findIdx?_cons]
    simp [h2]
/-! ### comprehensions -/
def tT (B : Bd) (C : Call) (c : Oe) : TT := fun σ H Q =>
  ∃ (T : Tm) (g : G) (r : Rho) (Kb : Bool → G → Prop), RR B T g r H σ ∧ wT B.P C c r g Kb ∧
    (∀ b g' T' H', Ext T T' → RR B T' g' r H' σ → (simO c = true → Same H H') → Kb b g' → Q b H')
abbrev W0 : WX := fun _ _ _ _ => False
theorem t_no : PTs X [] (tT B C .no) := ⟨fun pins s σ H Q I ⟨T, g, r, Kb, R, hw, hq⟩ => pts_nil.run pins s σ H Q I (hq true g T H (Ext.refl T) R (fun _ => Same.refl H) hw)⟩
theorem t_so {e : Expr} {ee : E} (h : PT X e (tB' B C W0 ee)) : PTs X [e] (tT B C (.so ee)) := ⟨fun pins s σ H Q I ⟨T, g, r, Kb, R, hw, hq⟩ => (pts_one h).run pins s σ H Q I
  ⟨T, g, r, Kb, fun _ _ => False, R, hw, hq, fun c g' T' H' _ _ z => z.elim⟩⟩
theorem comp_conv (hK : X.K = B.K) {own : List Nat} {t : Tg} {it : It} {c : Oe} {e : E} (ho : ∀ i ∈ t.ix, i ∈ own) {σ : St} {H : Hp} {Q : VK} (h : tC B C W (.comp own t it c e) σ H Q) :
    tLc (tI B C W it) (gTg X.K t) (tT B C c) (tE B C W0 e) own σ H Q := by
  obtain ⟨T, g, r, Ke, Xe, R, ⟨ok, hw⟩, hq, hx⟩ := h
  rw [hK]
  refine ⟨T, g, r, _, Xe, R, hw, fun src xs g1 T1 H1 J x1 R1 wk sm hk => ?_, hx⟩
  intro p np
  obtain ⟨hst, hk⟩ := hk
  have n1 : T1.at_ p = none := R1.fresh np
  -- the invariant
  let Inv' : Nat → Nat → Hp → Prop := fun i m H' => m = xs.length - i ∧ i ≤ xs.length ∧ ∃ (T2 : Tm) (g2 : G) (acc : List D) (vs : List V), Ext T1 T2 ∧ T2.at_ p = some (.fr (.lst vs)) ∧ RDs B T2 acc vs ∧ RR B T2 g2 (wipeR r own) H' (L2.wipe σ own) ∧
    ((simO c && simE e) = true → Same H1 H') ∧
    wComp (fun g => if (simO c && simE e) = true then True else src.ok g) t (wipeR r own) (fun r1 g2 K2 => wT B.P C c r1 g2 K2) (fun r1 g2 K2 => wE B.P C e r1 g2 K2 fun _ _ => False) (xs.drop i) acc g2 (fun acc g2 => Ke (.lst acc) g2)
  have e0 : Ext T1 (T1.sett p (some (.fr (.lst [])))) := by
    have ne : ∀ {a t'}, T1.at_ a = some t' → a ≠ p := fun {a t'} h q => by
      rw [q, n1] at h
      cases h
    exact ⟨fun a u h => (sett_ne (ne h)).trans h, fun a u h => (sett_ne (ne h)).trans h, fun a u h => (sett_ne (ne h)).trans h, rfl⟩
  refine ⟨Inv', ⟨_, rfl, Nat.zero_le _, _, g1, [], [], e0, sett_same, rfl, (R1.retag (.inl n1) tg_fr (by intro i z; cases z)).wipe own, fun _ => Same.upd np, hk⟩, ?_⟩
  rintro i m H2 ⟨rfl, hi, T2, g2, acc, vs, x2, hp2, ra, R2, sm2, hc⟩
  have okc : (if (simO c && simE e) = true then True else src.ok g2) := by
    cases hd : xs.drop i with
    | nil => rw [hd] at hc; exact hc.1
    | cons y ys => rw [hd] at hc; exact hc.1
  have hstab : Same H1 H2 ∨ (src.ok g2 ∧ src.st = true) := by
    by_cases s : (simO c && simE e) = true
    · exact .inl (sm2 s)
    · rw [if_neg s] at okc
      refine .inr ⟨okc, ?_⟩
      have s' : (simO c && simE e) = false := by simpa using s
      rw [s', Bool.false_or] at hst
      exact hst
  have step := wk T2 g2 _ H2 _ x2 R2 hstab i
  by_cases lt : i < xs.length
  · refine .inr ?_
    have hd : xs[i]? = some xs[i] := by simp [lt]
    obtain ⟨go, yl⟩ := step.2 _ hd
    refine ⟨go, fun H' => ∃ m', m' < xs.length - i ∧ Inv' (i + 1) m' H', fun H' h => h, fun x H3 y => ?_⟩
    obtain ⟨T3, x3, R3, s3, rx⟩ := yl x H3 y
    rw [List.drop_eq_getElem_cons lt] at hc
    obtain ⟨_, hc⟩ := hc
    split at hc
    · exact hc.elim
    rename_i r1 hb
    refine gTg_ok R3 rx hb fun σ4 R4 hwp => ?_
    obtain ⟨w1, w2⟩ := hwp own ho
    rw [wipe_idem] at w1
    rw [wipeR_idem] at w2
    refine ⟨by first | exact w1 | (rw [wipe_idem]; exact w1), ?_⟩
    refine ⟨T3, g2, r1, _, R4, hc, fun b g5 T5 H5 x5 R5 s5 hb5 => ?_⟩
    have p5 := x5.fr _ _ (x3.fr _ _ hp2)
    have X15 : Ext T1 T5 := (x2.trans x3).trans x5
    have ra5 := RDs.ext (x3.trans x5) _ _ ra
    cases b with
    | true =>
      simp only [if_true] at hb5 ⊢
      refine ⟨T5, g5, r1, _, _, R5, hb5, fun d g6 T6 H6 v x6 R6 rd s6 hd6 => ?_, fun c g' T' H' _ _ z => z.elim⟩
      obtain ⟨hl, hd6⟩ := hd6
      have p6 := x6.fr _ _ p5
      have ra6 := RDs.ext x6 _ _ ra5
      refine ⟨vs, R6.fr _ _ p6, by rw [ra6.length]; exact line_lt hl, ?_⟩
      refine ⟨_, ?_, rfl, lt, T6.sett p (some (.fr (.lst (vs ++ [v])))), g6, acc ++ [d], vs ++ [v], ?_, sett_same, (ra6.append (RDs.one rd)).retag (.inr ⟨_, p6⟩), ?_, fun s => ?_, hd6⟩
      · omega
      · have ne : ∀ {a t'}, T1.at_ a = some t' → a ≠ p := fun {a t'} h q => by
          rw [q, n1] at h
          cases h
        have X16 := X15.trans x6
        exact ⟨fun a u h => (sett_ne (ne h)).trans (X16.fz _ _ h), fun a u h => (sett_ne (ne h)).trans (X16.fr _ _ h), fun a u h => (sett_ne (ne h)).trans (X16.id _ _ h), X16.ex⟩
      · have R7 := (R6.retag (p := p) (.inr ⟨_, p6⟩) (o := .lst (vs ++ [v])) tg_fr (by intro i z; cases z)).wipe own
        rw [w1, w2] at R7
        exact R7
      · obtain ⟨s1, s2⟩ := ands s
        intro b q hb'
        have ne : b ≠ p := fun z => by
          rw [z, np] at hb'
          cases hb'
        rw [upd_ne ne]
        exact s6 s2 _ _ (s5 s1 _ _ (s3 _ _ (sm2 s _ _ hb')))
    | false =>
      simp only [Bool.false_eq_true, if_false] at hb5 ⊢
      refine ⟨_, ?_, rfl, lt, T5, g5, acc, vs, X15, p5, ra5, ?_, fun s => ?_, hb5⟩
      · omega
      · have R7 := R5.wipe own
        rw [w1, w2] at R7
        exact R7
      · obtain ⟨s1, s2⟩ := ands s
        exact ((sm2 s).trans s3).trans (s5 s1)
  · refine .inl ⟨step.1 (Nat.le_of_not_lt lt), ?_⟩
    rw [List.drop_eq_nil_of_le (Nat.le_of_not_lt lt)] at hc
    obtain ⟨_, hc⟩ := hc
    have hH := R2.fr _ _ hp2
    have R3 := R2.retag (p := p) (.inr ⟨_, hp2⟩) (o := .lst vs) (t := none) tg_no (by intro i z; cases z)
    have eu : upd H2 p (.lst vs) = H2 := by
      funext b
      by_cases q : b = p
      · subst q
        rw [upd_same, hH]
      · rw [upd_ne q]
    rw [eu] at R3
    have ne : ∀ {a t'}, T1.at_ a = some t' → a ≠ p := fun {a t'} h q => by
      rw [q, n1] at h
      cases h
    have x4 : Ext T1 (T2.sett p none) := ⟨fun a u h => (sett_ne (ne h)).trans (x2.fz _ _ h), fun a u h => (sett_ne (ne h)).trans (x2.fr _ _ h), fun a u h => (sett_ne (ne h)).trans (x2.id _ _ h), x2.ex⟩
    refine hq (.lst acc) g2 (T2.sett p none) H2 _ (x1.trans x4) (R.unwipe ok (x1.trans x4) R3) ⟨p, rfl, sett_same, vs, hH, ra.retag (.inr ⟨_, hp2⟩)⟩ (fun s => ?_) hc
    obtain ⟨s1, s2⟩ := ands s
    exact (sm s1).trans (sm2 s2)
/-! ### calls -/
def spC (B : Bd) (C : Call) (f : Nat) : Sp := fun vs H Q E =>
  ∃ (T : Tm) (g : G) (ds : List D) (Kk : Kd) (Xk : Kx), RR B T g [] H [] ∧ RDs B T ds vs ∧ C f ds g Kk Xk ∧
    (∀ d g' T' H' v, Ext T T' → RR B T' g' [] H' [] → RD B T' d v → Kk d g' → Q v H') ∧
    (∀ c g' T' H', Ext T T' → RR B T' g' [] H' [] → Xk c g' → E (.ref (B.cad c)) none H')
/-- the callees keep their promises -/
structure Fns (B : Bd) (C : Call) (k : Nat) : Prop where
  len : ∀ f ds g Kk Xk, C f ds g Kk Xk → ds.length = (B.ps f).length
  ok : ∀ f, FnOk B.prog B.w B.K B.mg B.base (L2N.CX B.prog B.w) k (B.fad f) (B.fd f) (B.ps f) (spC B C f)
/-- the context is one of the program's -/
structure OnB (B : Bd) (X : Cx) : Prop where
  prog : X.prog = B.prog
  w : X.w = B.w
  K : X.K = B.K
  mg : X.mg = B.mg
  base : X.base = B.base
theorem call_sp {f : Nat} {vs : List V} {ds : List D} {Ke : Kd} {Xe : Kx} {Q : VK} (R : RR B T g r H σ) (rs : RDs B T ds vs) (hc : C f ds g Ke Xe) {Q : VK}
    (hq : ∀ d g' T' H' v, Ext T T' → RR B T' g' r H' σ → RD B T' d v → Ke d g' → Q v H') (hx : ∀ c g' T' H', Ext T T' → RR B T' g' r H' σ → Xe c g' → W (.ref (B.cad c)) none σ H') : spC B C f vs H Q (WE W σ) :=
  ⟨T.hide H, g, ds, Ke, Xe, R.enter, rs.enter, hc, fun d g' T' H' v x R' rd hk => hq d g' (T.back T') H' v (back_ext R x) (R.leave x R') (RD.back R x rd) hk,
    fun c g' T' H' x R' hk => hx c g' (T.back T') H' (back_ext R x) (R.leave x R') hk⟩
theorem run_call {k : Nat} (F : Fns B C k) (ob : OnB B X) (tk : L2N.Takes X W) (hr : Room k X.A) {f : Nat} {us : List Value} {vs : List V} {pins : List (Addr × Obj)} {s : Shared} {Q : VK} (hb : Binds B.K (B.fd f) (B.ps f) []) (I : Inv X pins σ H s) (rv : Vals vs us)
    (h : spC B C f vs H Q (WE W σ)) : wpAny (model X.prog X.w) X.A (call (.ref (B.fad f)) us) (EP X pins σ Q) X.xe s := by
  have F1 := F.ok f
  rw [← ob.prog, ← ob.w, ← ob.K, ← ob.mg, ← ob.base] at F1
  rw [← ob.K] at hb
  exact run_fnS (E := WE W) F1 hr hb (L2N.passAt tk σ) I rv h
theorem RDs.nil_v {vs : List V} (h : RDs B T [] vs) : vs = [] := h
theorem a_call {n : Nms} {k : Nat} (Gd : Good B n) (F : Fns B C k) (ob : OnB B X) (tk : L2N.Takes X W) (hr : Room k X.A) {f : Nat} {x : Str} {p : Pos} {as : List Expr} {es : Es} (hn : n.f[f]? = some (some x)) (pl : n.plain f = true) (hg : Gl X x) (hd : (x == ("__debug__" : Str)) = false)
    (hE : AllE B C W X as es) (ns : as.all notStar = true) : PE X (.Call (.Name x p) as [] pos) (tE B C W (.call f es)) := by
  obtain ⟨g1, g2, g3⟩ := Gd.fn f x hn
  have g3 := g3 pl
  have ha := as_all hE ns
  refine ⟨fun pins s σ H Q I ⟨T, g, r, Ke, Xe, R, hw, hq, hx⟩ => ?_⟩
  refine wpAny_Call_Name_kw (ld_glob I hg (by rw [ob.mg]; exact g1) ?_ hd)
  have post : ∀ vs H1, (∃ x g' T', Ext T T' ∧ RR B T' g' r H1 σ ∧ RDs B T' x vs ∧ C f x g' Ke Xe) → spC B C f vs H1 Q (WE W σ) := fun vs H1 ⟨x, g', T', e, R', rs, hc⟩ =>
    call_sp (Q := Q) R' rs hc (fun d g2 T2 H2 v x2 R2 rd hk => hq d g2 T2 H2 v (e.trans x2) R2 rd (fun z => by cases z) hk) (fun c g2 T2 H2 x2 R2 hk => hx c g2 T2 H2 (e.trans x2) R2 hk)
  cases as with
  | nil =>
    cases es with
    | nil => exact PySem.W.callWith_K0 (first := []) I.kIn (by rw [ob.K]; exact g2) (run_call (us := []) (vs := []) F ob tk hr g3 I .nil (post [] H ⟨[], g, T, Ext.refl T, R, rfl, hw⟩))
    | cons _ _ => exact hE.elim
  | cons a as =>
    simp only [List.all_cons, Bool.and_eq_true] at ns
    have run := ha.run pos pins s σ H (fun vs H1 => ∃ x g' T', Ext T T' ∧ RR B T' g' r H1 σ ∧ RDs B T' x vs ∧ C f x g' Ke Xe) I
      ⟨T, g, r, _, Xe, R, hw, fun x g' T' H' v e R' rs _ hk => ⟨x, g', T', e, R', rs, hk⟩, hx⟩
    refine PySem.W.callWith_K (h₀ := X.base) I.ok.mod.kin (by rw [ob.K]; exact g2) (thn run fun us s1 ⟨vs, H1, I1, rv, q⟩ => ⟨I1.kIn, ?_⟩) (star_cons ns.1) (star_none ns.2)
    exact run_call F ob tk hr g3 I1 rv (post vs H1 q)
/-! ### methods -/
def notSup : Expr → Bool
  | .Call (.Name _ _) _ _ _ => false
  | _ => true
theorem sup_base {o : Expr} {m : Str} {env : Env} (h : notSup o = true) : attributeBase o m env (eval o env) = eval o env := by
  unfold attributeBase
  split
  · rename_i id p1 pos
    cases h
  · rfl
theorem few_ok {as : List Expr} {env : Env} {p : Pos} (h : as.all notStar = true) (hl : as.length < 30) : methodCallForm (as.length + ([] : List Keyword).length) (backTo p (starEach as env)) (backToKw p (keywordEach [] env)) = true := by
  have q : ∀ as : List Expr, as.all notStar = true → (backTo p (starEach as env)).all (!·.1) = true := by
    intro as
    induction as with
    | nil => intro _; rfl
    | cons a as ih =>
      intro h
      simp only [List.all_cons, Bool.and_eq_true] at h
      rw [star_cons h.1]
      show (!false && (backTo p (starEach as env)).all (!·.1)) = true
      rw [ih h.2]
      rfl
  unfold methodCallForm
  rw [q as h]
  show (true && true && decide (as.length + 0 + 0 < 30)) = true
  simp [hl]
theorem m_form {o : Expr} {m : Str} {apos : Pos} {as : List Expr} {env : Env} (hb : notSup o = true) (ns : as.all notStar = true) (hl : as.length < 30) (he : (apos.endLine == pos.line) = true) :
    eval (.Call (.Attribute o m apos) as [] pos) env = (do
      let ov ← eval o env
      standAt apos.atName
      let (f, first) ← holding [ov] (getMethod ov m (do return (← importBound o env).getD true))
      callWith pos f first (backTo pos (starEach as env)) (backToKw pos (keywordEach [] env))) := by
  have hf := @few_ok as env pos ns hl
  show (do let ov ← attributeBase o m env (eval o env); standAt apos.atName; methodCall o m apos pos env ov (as.length + ([] : List Keyword).length) (backTo pos (starEach as env)) (backToKw pos (keywordEach [] env))) = _
  rw [sup_base hb]
  unfold methodCall calleeOf methodCallPos
  rw [hf]
  simp only [he, Bool.not_true, Bool.false_or, if_true]
  rfl
theorem a_meth {n : Nms} {k : Nat} (Gd : Good B n) (F : Fns B C k) (ob : OnB B X) (tk : L2N.Takes X W) (hr : Room k X.A) {m : Nat} {x : Str} {apos : Pos} {o : Expr} {eo : E} {as : List Expr} {es : Es} (hm : B.an[m]? = some x) (pl : ∀ c f, B.P.mth c m = some f → n.plain f = true)
    (ho : PE X o (tE B C W eo)) (hb : notSup o = true) (hE : AllE B C W X as es) (ns : as.all notStar = true) (hl : as.length < 30) (he : (apos.endLine == pos.line) = true) : PE X (.Call (.Attribute o x apos) as [] pos) (tE B C W (.meth m eo es)) := by
  have ha := as_all hE ns
  refine ⟨fun pins s σ H Q I ⟨T, g, r, Ke, Xe, R, hw, hq, hx⟩ => ?_⟩
  refine PySem.W.methodCall_KW (thn (ho.run pins s σ H (fun v H1 => ∃ d g1 T1, Ext T T1 ∧ RR B T1 g1 r H1 σ ∧ RD B T1 d v ∧ (match d with
      | .ref i => (match g1 i with
        | some (.ins c fs) => (match B.P.mth c m with
          | some f => getS m fs = none ∧ wEs B.P C es r g1 (fun ds g2 => C f (d :: ds) g2 Ke Xe) Xe
          | none => False)
        | _ => False)
      | _ => False)) I ⟨T, g, r, _, Xe, R, hw, fun d g1 T1 H1 v x1 R1 rd _ hk => ⟨d, g1, T1, x1, R1, rd, hk⟩, hx⟩) fun u s1 ⟨v, H1, I1, rv, d, g1, T1, x1, R1, rd, hk⟩ => ?_) (m_form hb ns hl he)
  split at hk
  rotate_left
  · exact hk.elim
  rename_i i
  split at hk
  rotate_left
  · exact hk.elim
  rename_i c fs e
  split at hk
  rotate_left
  · exact hk.elim
  rename_i f ef
  obtain ⟨hn, hk⟩ := hk
  obtain ⟨a, rfl, ha1⟩ := id rd
  obtain rfl : u = Value.ref a := rv
  obtain ⟨dx, vs0, h1, _, h2⟩ := R1.objAt e ha1
  obtain ⟨c1, c2, c3⟩ := Gd.mth c m f x ef hm
  have c3 := c3 (pl c f ef)
  refine getmeth_ok I1 h1 (ob.K ▸ c1) (ob.K ▸ c2) ((h2.get Gd.an hm).2 hn) ?_
  have post : ∀ vs H2, (∃ x g' T', Ext T1 T' ∧ RR B T' g' r H2 σ ∧ RDs B T' x vs ∧ C f (.ref i :: x) g' Ke Xe) → spC B C f (.ref a :: vs) H2 Q (WE W σ) := fun vs H2 ⟨ds, g', T', e', R', rs, hc⟩ =>
    call_sp (Q := Q) (ds := .ref i :: ds) R' (show RDs B T' (.ref i :: ds) (.ref a :: vs) from ⟨_, _, rfl, RD.ext e' _ _ rd, rs⟩) hc (fun d g2 T2 H2 v x2 R2 rd hk => hq d g2 T2 H2 v ((x1.trans e').trans x2) R2 rd (fun z => by cases z) hk) (fun c g2 T2 H2 x2 R2 hk => hx c g2 T2 H2 ((x1.trans e').trans x2) R2 hk)
  have kp : PySem.W.keepIn X.K (.ref (B.fad f)) = true := by rw [ob.K]; exact c2.kp
  cases as with
  | nil =>
    cases es with
    | nil => exact PySem.W.callWith_K0 (first := [.ref a]) I1.kIn kp (run_call (us := [.ref a]) (vs := [.ref a]) F ob tk hr c3 I1 (.cons rfl .nil) (post [] H1 ⟨[], g1, T1, Ext.refl T1, R1, rfl, hk⟩))
    | cons _ _ => exact hE.elim
  | cons b as =>
    simp only [List.all_cons, Bool.and_eq_true] at ns
    have run := ha.run pos pins s1 σ H1 (fun vs H2 => ∃ x g' T', Ext T1 T' ∧ RR B T' g' r H2 σ ∧ RDs B T' x vs ∧ C f (.ref i :: x) g' Ke Xe) I1
      ⟨T1, g1, r, _, Xe, R1, hk, fun x g' T' H' v e R' rs _ hk => ⟨x, g', T', e, R', rs, hk⟩, fun c g2 T2 H2 x2 R2 hk => hx c g2 T2 H2 (x1.trans x2) R2 hk⟩
    refine PySem.W.callWith_K (first := [.ref a]) (h₀ := X.base) I1.ok.mod.kin kp (thn run fun us s2 ⟨vs, H2, I2, rv, q⟩ => ⟨I2.kIn, ?_⟩) (star_cons ns.1) (star_none ns.2)
    exact run_call (us := .ref a :: us) (vs := .ref a :: vs) F ob tk hr c3 I2 (.cons rfl rv) (post vs H2 q)
/-! ### new objects -/
theorem a_new {n : Nms} {k : Nat} (Gd : Good B n) (F : Fns B C k) (ob : OnB B X) (tk : L2N.Takes X W) (hr : Room (k + 1) X.A) {c f : Nat} {x : Str} {p : Pos} {as : List Expr} {es : Es} (hf : B.P.mth c B.P.init = some f) (pl : n.plain f = true) (hn : n.c[c]? = some x) (hg : Gl X x) (hd : (x == ("__debug__" : Str)) = false)
    (hE : AllE B C W X as es) (ns : as.all notStar = true) : PE X (.Call (.Name x p) as [] pos) (tE B C W (.new c es)) := by
  have g1 := Gd.cnm c x hn
  obtain ⟨g2, g3⟩ := Gd.ini c f hf
  have g3 := g3 pl
  have ha := as_all hE ns
  refine ⟨fun pins s σ H Q I ⟨T, g, r, Ke, Xe, R, hw, hq, hx⟩ => ?_⟩
  refine wpAny_Call_Name_kw (ld_glob I hg (by rw [ob.mg]; exact g1) ?_ hd)
  have g2' : Mk X.K (B.cad c) (B.fad f) := ob.K ▸ g2
  have F1 := F.ok f
  rw [← ob.prog, ← ob.w, ← ob.K, ← ob.mg, ← ob.base] at F1
  have g3' : Binds X.K (B.fd f) (B.ps f) [] := ob.K ▸ g3
  have go : ∀ (us : List Value) (vs : List V) (s1 : Shared) (H1 : Hp), Inv X pins σ H1 s1 → Vals vs us → (∃ ds g' T', Ext T T' ∧ RR B T' g' r H1 σ ∧ RDs B T' ds vs ∧ (∃ i, g' i = none ∧ (match B.P.mth c B.P.init with
      | some f => C f (.ref i :: ds) (up g' i (.ins c [])) (fun d g2 => d = .non ∧ Ke (.ref i) g2) Xe
      | none => False))) → wpAny (model X.prog X.w) X.A (call (.ref (B.cad c)) us) (EP X pins σ Q) X.xe s1 := by
    intro us vs s1 H1 I1 rv ⟨ds, g', T', e, R', rs, i, ni, hc⟩
    rw [hf] at hc
    have hq0 : ∀ a dx, H1 a = none → H1 dx = none → dx ≠ a → spC B C f (.ref a :: vs) (upd (upd H1 dx (.own a)) a (.ins (B.cad c) dx [])) (fun v H2 => v = .non ∧ Q (.ref a) H2) (WE W σ) := by
      intro a dx na nd ne
      have R1 := R'.loose nd (.own a)
      have nd1 : T'.at_ dx = none := R'.fresh nd
      have na1 : upd H1 dx (.own a) a = none := by rw [upd_ne (Ne.symm ne)]; exact na
      have R2 := R1.laid na1 ni (o := .ins (B.cad c) dx []) (ob := .ins c []) (show ROb B (T'.put a (.id i)) _ i a (.ins c []) from ⟨dx, [], upd_same, ⟨fun p hp => (by cases hp), List.nodup_nil⟩, Paired.nil⟩)
      have x2 := R1.ext_put na1 (.id i)
      refine call_sp (Q := fun v H2 => v = .non ∧ Q (.ref a) H2) (σ := σ) (r := r) (ds := .ref i :: ds) R2 (show RDs B (T'.put a (.id i)) (.ref i :: ds) (.ref a :: vs) from ⟨_, _, rfl, ⟨a, rfl, put_same⟩, RDs.ext x2 _ _ rs⟩) hc (fun d g2 T2 H2 v x3 R3 rd hk => ?_) (fun c g2 T2 H2 x3 R3 hk => hx c g2 T2 H2 ((e.trans x2).trans x3) R3 hk)
      obtain ⟨rfl, hk⟩ := hk
      exact ⟨rd, hq (.ref i) g2 T2 H2 _ ((e.trans x2).trans x3) R3 ⟨a, rfl, x3.id _ _ put_same⟩ (fun z => by cases z) hk⟩
    have hq := hq0 (s1.heap.objs.size + 1) s1.heap.objs.size (I1.hok.fresh (Nat.le_succ _)) (I1.hok.fresh (Nat.le_refl _)) (Nat.ne_of_lt (Nat.lt_succ_self _))
    have I2 := Inv.made (C := B.cad c) I1
    have r2 : Vals (V.ref (s1.heap.objs.size + 1) :: vs) (Value.ref (s1.heap.objs.size + 1) :: us) := .cons rfl rv
    have hl : (Value.ref (s1.heap.objs.size + 1) :: us ++ []).length = (B.ps f).length := by
      rw [List.append_nil, ← r2.length]
      exact F1.len _ _ _ _ hq
    have hbd := g3' _ (Value.ref (s1.heap.objs.size + 1) :: us) I2.kIn hl
    rw [List.append_nil] at hbd
    refine wpAny_call (make_map (f := B.fad f) I1.kIn g2'.makes g2'.init (beq_iff_eq.mp g2'.fn) (codeAny_mono (F1.run _ X.stack _ _ ⟨Value.ref (s1.heap.objs.size + 1) :: us, []⟩ (Value.ref (s1.heap.objs.size + 1) :: us) _ _ (WE W σ) (hr.make (B.cad c) us [])
      (I2.env0.make (B.cad c) us []) hbd r2 hq) fun r s' hq' => ?_))
    cases r with
    | error e => exact L2N.passAt tk σ pins _ _ e s' I2 hq'
    | ok fl =>
      cases fl with
      | ret u =>
        obtain ⟨v, H', I3, rv, ev, q3⟩ := I2.after hq'
        subst ev
        exact ⟨rv, ⟨V.ref (s1.heap.objs.size + 1), H', I3, rfl, q3⟩⟩
      | next => exact False.elim hq'
      | brk => exact False.elim hq'
      | cont => exact False.elim hq'
  cases as with
  | nil =>
    cases es with
    | nil => exact PySem.W.callWith_K0 (first := []) I.kIn g2'.kp (go [] [] s H I .nil ⟨[], g, T, Ext.refl T, R, rfl, hw⟩)
    | cons _ _ => exact hE.elim
  | cons a as =>
    simp only [List.all_cons, Bool.and_eq_true] at ns
    have run := ha.run pos pins s σ H (fun vs H1 => ∃ ds g' T', Ext T T' ∧ RR B T' g' r H1 σ ∧ RDs B T' ds vs ∧ _) I
      ⟨T, g, r, _, Xe, R, hw, fun x g' T' H' v e R' rs _ hk => ⟨x, g', T', e, R', rs, hk⟩, hx⟩
    refine PySem.W.callWith_K (h₀ := X.base) I.ok.mod.kin g2'.kp (thn run fun us s1 ⟨vs, H1, I1, rv, q⟩ => ⟨I1.kIn, ?_⟩) (star_cons ns.1) (star_none ns.2)
    exact go us vs s1 H1 I1 rv q
/-! ### calls with defaults and keywords -/
theorem run_callk {k : Nat} (F : Fns B C k) (ob : OnB B X) (tk : L2N.Takes X W) (hr : Room k X.A) {f m : Nat} {ks : List Str} {ds : List D} {us ws : List Value} {vs zs : List V} {pins : List (Addr × Obj)} {s : Shared} {Q : VK} (hb : KbOk B.K (B.fd f) (B.ps f) m ks ds) (I : Inv X pins σ H s) (rv : Vals vs us) (rz : Vals zs ws) (l : ws.length = ks.length)
    (h : spC B C f (vs ++ (zs ++ ds.map flV)) H Q (WE W σ)) : wpAny (model X.prog X.w) X.A (call (.ref (B.fad f)) us (ks.zip ws)) (EP X pins σ Q) X.xe s := by
  obtain ⟨_, dv, rd, hl, hb⟩ := hb
  have F1 := F.ok f
  rw [← ob.prog, ← ob.w, ← ob.K, ← ob.mg, ← ob.base] at F1
  rw [← ob.K] at hb
  have r2 : Vals (vs ++ (zs ++ ds.map flV)) (us ++ (ws ++ dv)) := rv.append (rz.append rd)
  have l1 := F1.len _ _ _ _ h
  rw [r2.length, List.length_append, List.length_append] at l1
  refine wpAny_call (codeAny_mono (F1.run X.A X.stack s H ⟨us, ks.zip ws⟩ (us ++ (ws ++ dv)) (vs ++ (zs ++ ds.map flV)) Q (WE W σ) hr I.env0 (hb s us ws I.kIn (by omega) l) r2 h) fun r s' hq => ?_)
  cases r with
  | error e => exact L2N.passAt tk σ pins _ _ e s' I hq
  | ok fl =>
    cases fl with
    | ret u => exact I.after hq
    | next => exact False.elim hq
    | brk => exact False.elim hq
    | cont => exact False.elim hq
theorem a_callk {n : Nms} {k : Nat} (Gd : Good B n) (F : Fns B C k) (ob : OnB B X) (tk : L2N.Takes X W) (hr : Room k X.A) {f m : Nat} {ds : List D} {x : Str} {p : Pos} {as : List Expr} {es : Es} (hn : n.f[f]? = some (some x)) (hk : (f, m, [], ds) ∈ n.k) (hg : Gl X x) (hd : (x == ("__debug__" : Str)) = false)
    (hE : AllE B C W X as es) (ns : as.all notStar = true) : PE X (.Call (.Name x p) as [] pos) (tE B C W (.callk f ds es)) := by
  obtain ⟨g1, g2, _⟩ := Gd.fn f x hn
  have g3 := Gd.kb f m [] ds hk
  have ha := as_all hE ns
  refine ⟨fun pins s σ H Q I ⟨T, g, r, Ke, Xe, R, hw, hq, hx⟩ => ?_⟩
  refine wpAny_Call_Name_kw (ld_glob I hg (by rw [ob.mg]; exact g1) ?_ hd)
  have post : ∀ vs H1, (∃ x g' T', Ext T T' ∧ RR B T' g' r H1 σ ∧ RDs B T' x vs ∧ C f (x ++ ds) g' Ke Xe) → spC B C f (vs ++ ([] ++ ds.map flV)) H1 Q (WE W σ) := fun vs H1 ⟨x, g', T', e, R', rs, hc⟩ =>
    call_sp (Q := Q) R' (RDs.append rs (flV_ok g3.1)) hc (fun d g2 T2 H2 v x2 R2 rd hk => hq d g2 T2 H2 v (e.trans x2) R2 rd (fun z => by cases z) hk) (fun c g2 T2 H2 x2 R2 hk => hx c g2 T2 H2 (e.trans x2) R2 hk)
  cases as with
  | nil =>
    cases es with
    | nil => exact PySem.W.callWith_K0 (first := []) I.kIn (by rw [ob.K]; exact g2) (run_callk (us := []) (vs := []) (ws := []) (zs := []) (ks := []) F ob tk hr g3 I .nil .nil rfl (post [] H ⟨[], g, T, Ext.refl T, R, rfl, hw⟩))
    | cons _ _ => exact hE.elim
  | cons a as =>
    simp only [List.all_cons, Bool.and_eq_true] at ns
    have run := ha.run pos pins s σ H (fun vs H1 => ∃ x g' T', Ext T T' ∧ RR B T' g' r H1 σ ∧ RDs B T' x vs ∧ C f (x ++ ds) g' Ke Xe) I
      ⟨T, g, r, _, Xe, R, hw, fun x g' T' H' v e R' rs _ hk => ⟨x, g', T', e, R', rs, hk⟩, hx⟩
    refine PySem.W.callWith_K (h₀ := X.base) I.ok.mod.kin (by rw [ob.K]; exact g2) (thn run fun us s1 ⟨vs, H1, I1, rv, q⟩ => ⟨I1.kIn, ?_⟩) (star_cons ns.1) (star_none ns.2)
    exact run_callk (ws := []) (zs := []) (ks := []) F ob tk hr g3 I1 rv .nil rfl (post vs H1 q)
theorem kws_all : ∀ {kws : List Keyword} {es : Es}, AllE B C W X (kws.map (·.value)) es → PK X kws (tAs B C W es)
  | [], .nil, _ => ⟨fun pos pins s σ H Q I ⟨T, g, r, Ke, Xe, R, hw, hq, hx⟩ => pk_nil.run pos pins s σ H Q I (hq [] g T H [] (Ext.refl T) R rfl (fun _ => Same.refl H) hw)⟩
  | [], .cons _ _, h => h.elim
  | _ :: _, .nil, h => h.elim
  | ⟨nm, a, kp⟩ :: as, .cons e es, h => ⟨fun pos pins s σ H Q I ⟨T, g, r, Ke, Xe, R, hw, hq, hx⟩ => by
    refine (pk_cons h.1 (kws_all h.2)).run pos pins s σ H Q I ?_
    refine ⟨T, g, r, _, Xe, R, hw, fun x g1 T1 H1 v x1 R1 rv sm hk => ?_, hx⟩
    refine ⟨T1, g1, r, _, Xe, R1, hk, fun y g2 T2 H2 u x2 R2 ru sm2 hk2 => ?_, fun c g' T' H' e R' => hx c g' T' H' (x1.trans e) R'⟩
    exact hq (x :: y) g2 T2 H2 (v :: u) (x1.trans x2) R2 ⟨v, u, rfl, RD.ext x2 _ _ rv, ru⟩ (fun s => (sm (ands s).1).trans (sm2 (ands s).2)) hk2⟩
theorem kw_names {env : Env} {p : Pos} : ∀ {kws : List Keyword} {ks : List Str}, kws.map (·.arg) = ks.map some → (backToKw p (keywordEach kws env)).all (·.1.isSome) = true ∧ (backToKw p (keywordEach kws env)).filterMap (·.1) = ks ∧ (backToKw p (keywordEach kws env)).any (·.1.isNone) = false
  | [], [], _ => ⟨rfl, rfl, rfl⟩
  | [], _ :: _, h => by cases h
  | _ :: _, [], h => by cases h
  | ⟨nm, a, kp⟩ :: kws, k :: ks, h => by
    have h : nm :: kws.map (·.arg) = some k :: ks.map some := h
    injection h with h1 h2
    subst h1
    obtain ⟨q1, q2, q3⟩ := kw_names (env := env) (p := p) h2
    refine ⟨?_, ?_, ?_⟩
    · show (true && (backToKw p (keywordEach kws env)).all (·.1.isSome)) = true
      rw [q1]; rfl
    · show k :: (backToKw p (keywordEach kws env)).filterMap (·.1) = _
      rw [q2]
    · show (false || (backToKw p (keywordEach kws env)).any (·.1.isNone)) = false
      rw [q3]; rfl
theorem a_newk {n : Nms} {k : Nat} (Gd : Good B n) (F : Fns B C k) (ob : OnB B X) (tk : L2N.Takes X W) (hr : Room (k + 1) X.A) {c f : Nat} {ks : List Str} {xs : List D} {x : Str} {p : Pos} {kws : List Keyword} {es : Es} (hf : B.P.mth c B.P.init = some f) (hk : (f, 1, ks, xs) ∈ n.k) (hn : n.c[c]? = some x) (hks : kws.map (·.arg) = ks.map some) (hg : Gl X x) (hd : (x == ("__debug__" : Str)) = false)
    (hE : AllE B C W X (kws.map (·.value)) es) : PE X (.Call (.Name x p) [] kws pos) (tE B C W (.newk c ks xs es)) := by
  have g1 := Gd.cnm c x hn
  obtain ⟨g2, _⟩ := Gd.ini c f hf
  obtain ⟨gf, dv, rdv, hlk, g3⟩ := Gd.kb f 1 ks xs hk
  have ha := kws_all hE
  obtain ⟨n1, n2, n3⟩ := kw_names (env := X.env) (p := pos) hks
  refine ⟨fun pins s σ H Q I ⟨T, g, r, Ke, Xe, R, hw, hq, hx⟩ => ?_⟩
  refine wpAny_Call_Name_kw (ld_glob I hg (by rw [ob.mg]; exact g1) ?_ hd)
  have g2' : Mk X.K (B.cad c) (B.fad f) := ob.K ▸ g2
  have F1 := F.ok f
  rw [← ob.prog, ← ob.w, ← ob.K, ← ob.mg, ← ob.base] at F1
  rw [← ob.K] at g3
  have go : ∀ (us : List Value) (vs : List V) (s1 : Shared) (H1 : Hp), Inv X pins σ H1 s1 → Vals vs us → (∃ ds g' T', Ext T T' ∧ RR B T' g' r H1 σ ∧ RDs B T' ds vs ∧ (∃ i, g' i = none ∧ (match B.P.mth c B.P.init with
      | some f => C f (.ref i :: (ds ++ xs)) (up g' i (.ins c [])) (fun d g2 => d = .non ∧ Ke (.ref i) g2) Xe
      | none => False))) → wpAny (model X.prog X.w) X.A (call (.ref (B.cad c)) [] (ks.zip us)) (EP X pins σ Q) X.xe s1 := by
    intro us vs s1 H1 I1 rv ⟨ds, g', T', e, R', rs, i, ni, hc⟩
    rw [hf] at hc
    have hq0 : ∀ a dx, H1 a = none → H1 dx = none → dx ≠ a → spC B C f (.ref a :: (vs ++ xs.map flV)) (upd (upd H1 dx (.own a)) a (.ins (B.cad c) dx [])) (fun v H2 => v = .non ∧ Q (.ref a) H2) (WE W σ) := by
      intro a dx na nd ne
      have R1 := R'.loose nd (.own a)
      have nd1 : T'.at_ dx = none := R'.fresh nd
      have na1 : upd H1 dx (.own a) a = none := by rw [upd_ne (Ne.symm ne)]; exact na
      have R2 := R1.laid na1 ni (o := .ins (B.cad c) dx []) (ob := .ins c []) (show ROb B (T'.put a (.id i)) _ i a (.ins c []) from ⟨dx, [], upd_same, ⟨fun p hp => (by cases hp), List.nodup_nil⟩, Paired.nil⟩)
      have x2 := R1.ext_put na1 (.id i)
      refine call_sp (Q := fun v H2 => v = .non ∧ Q (.ref a) H2) (σ := σ) (r := r) (ds := .ref i :: (ds ++ xs)) R2 (show RDs B (T'.put a (.id i)) (.ref i :: (ds ++ xs)) (.ref a :: (vs ++ xs.map flV)) from ⟨_, _, rfl, ⟨a, rfl, put_same⟩, RDs.append (RDs.ext x2 _ _ rs) (flV_ok gf)⟩) hc (fun d g2 T2 H2 v x3 R3 rd hk => ?_) (fun c g2 T2 H2 x3 R3 hk => hx c g2 T2 H2 ((e.trans x2).trans x3) R3 hk)
      obtain ⟨rfl, hk⟩ := hk
      exact ⟨rd, hq (.ref i) g2 T2 H2 _ ((e.trans x2).trans x3) R3 ⟨a, rfl, x3.id _ _ put_same⟩ (fun z => by cases z) hk⟩
    have hq := hq0 (s1.heap.objs.size + 1) s1.heap.objs.size (I1.hok.fresh (Nat.le_succ _)) (I1.hok.fresh (Nat.le_refl _)) (Nat.ne_of_lt (Nat.lt_succ_self _))
    have I2 := Inv.made (C := B.cad c) I1
    have r2 : Vals (V.ref (s1.heap.objs.size + 1) :: (vs ++ xs.map flV)) ([Value.ref (s1.heap.objs.size + 1)] ++ (us ++ dv)) := .cons rfl (rv.append rdv)
    have hl : ([Value.ref (s1.heap.objs.size + 1)] ++ (us ++ dv)).length = (B.ps f).length := by
      rw [← r2.length]
      exact F1.len _ _ _ _ hq
    have hl2 : us.length = ks.length := by
      simp only [List.length_append, List.length_cons, List.length_nil] at hl
      omega
    have hbd := g3 _ [Value.ref (s1.heap.objs.size + 1)] us I2.kIn rfl hl2
    refine wpAny_call (make_map (f := B.fad f) I1.kIn g2'.makes g2'.init (beq_iff_eq.mp g2'.fn) (codeAny_mono (F1.run _ X.stack _ _ ⟨Value.ref (s1.heap.objs.size + 1) :: [], ks.zip us⟩ ([Value.ref (s1.heap.objs.size + 1)] ++ (us ++ dv)) _ _ (WE W σ) (hr.make (B.cad c) [] (ks.zip us))
      (I2.env0.make (B.cad c) [] (ks.zip us)) hbd r2 hq) fun r s' hq' => ?_))
    cases r with
    | error e => exact L2N.passAt tk σ pins _ _ e s' I2 hq'
    | ok fl =>
      cases fl with
      | ret u =>
        obtain ⟨v, H', I3, rv, ev, q3⟩ := I2.after hq'
        subst ev
        exact ⟨rv, ⟨V.ref (s1.heap.objs.size + 1), H', I3, rfl, q3⟩⟩
      | next => exact False.elim hq'
      | brk => exact False.elim hq'
      | cont => exact False.elim hq'
  have run := ha.run pos pins s σ H (fun vs H1 => ∃ ds g' T', Ext T T' ∧ RR B T' g' r H1 σ ∧ RDs B T' ds vs ∧ _) I
    ⟨T, g, r, _, Xe, R, hw, fun x g' T' H' v e R' rs _ hk => ⟨x, g', T', e, R', rs, hk⟩, hx⟩
  refine PySem.W.callWith_KW0 (h₀ := X.base) (first := []) I.ok.mod.kin g2'.kp n1 (thn run fun us s1 ⟨vs, H1, I1, rv, q⟩ => ⟨I1.kIn, ?_⟩) (by rw [n3]; rfl)
  rw [n2]
  exact go us vs s1 H1 I1 rv q
end Vb

set_option maxHeartbeats 1000000
/-! The plain layer, part 8: the remaining expressions. -/
namespace Vb
open PySem L2
variable {B : Bd} {C : Call} {W : WX} {X : Cx} {pos : Pos}
variable {T T' : Tm} {g g' : G} {r r' : Rho} {H H' : Hp} {σ σ' : St}
def rCatH : R2 := fun x y H Q => ∃ l b xs zs, x = .ref l ∧ y = .ref b ∧ LH H l xs ∧ LH H b zs ∧ xs.length + zs.length ≤ sizeLine ∧ ∀ p, H p = none → Q (.ref p) (upd H p (.lst (xs ++ zs)))
theorem op_catH : OpR X (binaryOp .Add) rCatH := by
  intro pins s σ H x y v u Q I rx ry h
  obtain ⟨l, b, xs, zs, rfl, rfl, hH, hB, hz, q⟩ := h
  cases rx
  cases ry
  obtain ⟨z, its, n, r, e⟩ := (show Rd H l (.lst xs) from hH).ok I.hok
  obtain ⟨z2, its2, n2, r2, e2⟩ := (show Rd H b (.lst zs) from hB).ok I.hok
  have hl := r.length
  have hl2 := r2.length
  refine PySem.P.add_list e e2 ?_ (by rw [List.size_toArray, List.size_toArray]; omega)
  have ea : its.toArray ++ its2.toArray = (its ++ its2).toArray := by simp
  rw [ea]
  exact ⟨.ref _, _, I.lnew (t' := s.toks) (r.append r2) (by rw [List.length_append]; omega), rfl, q _ I.fresh⟩
theorem c_cat {a b : Expr} {p q : Pl} (ha : PE X a (tP B C W p)) (hb : PE X b (tP B C W q)) (sq : simP q = true) : PE X (.BinOp a .Add b pos) (tC B C W (.cat p q)) := by
  refine PE.imp (pe_op op_catH ha hb) fun σ H Q ⟨T, g, r, Ke, Xe, R, hw, hq, hx⟩ => ?_
  refine ⟨T, g, r, fun z g1 => wP B.P C q r g1 (fun s' c' g2 => match z.2, c' with | .seq false xs, .seq false ys => (z.1.notGiv = true ∧ s'.notGiv = true) ∧ xs.length + ys.length ≤ lineN ∧ Ke (.lst (xs ++ ys)) g2 | _, _ => False) Xe, Xe, R, hw, fun z g1 T1 H1 v x1 R1 ⟨_, rs⟩ sm hk => ?_, hx⟩
  refine ⟨T1, g1, r, fun y g2 => (match z.2, y.2 with | .seq false xs, .seq false ys => (z.1.notGiv = true ∧ y.1.notGiv = true) ∧ xs.length + ys.length ≤ lineN ∧ Ke (.lst (xs ++ ys)) g2 | _, _ => False), Xe, R1, hk, fun y g2 T2 H2 u x2 R2 ⟨_, ru⟩ sm2 hk2 => ?_, fun c g' T' H' e R' => hx c g' T' H' (x1.trans e) R'⟩
  obtain ⟨sz, c⟩ := z
  obtain ⟨sy, c'⟩ := y
  have inv : ∃ xs ys, c = .seq false xs ∧ c' = .seq false ys ∧ (sz.notGiv = true ∧ sy.notGiv = true) ∧ xs.length + ys.length ≤ lineN ∧ Ke (.lst (xs ++ ys)) g2 := by
    dsimp only at hk2
    split at hk2
    · exact ⟨_, _, rfl, rfl, hk2⟩
    · exact hk2.elim
  obtain ⟨xs, ys, rfl, rfl, ⟨n1, n2⟩, hl, hk3⟩ := inv
  obtain ⟨l, vs, rfl, h1, r1⟩ := rs.2.2.1 n1
  obtain ⟨b', us, rfl, h2, r2⟩ := ru.2.2.1 n2
  have r1' := RDs.ext x2 _ _ r1
  refine ⟨l, b', vs, us, rfl, rfl, h1.keep (sm2 sq), h2, by rw [r1.length, r2.length]; exact line_le hl, fun p np => ?_⟩
  obtain ⟨R3, rc, s3⟩ := new_lst R2 (r1'.append r2) np
  exact hq _ g2 _ _ _ (x1.trans x2) R3 rc (fun s => ((sm (ands s).1).trans (sm2 (ands s).2)).trans s3) hk3
theorem c_slice {p : Expr} {lo hi : Option Expr} {ep : Pl} {el eh : Oe} {p2 : Pos} (hK : X.K = B.K) (hp : PE X p (tP B C W ep)) (hl : PO X lo (tOs B C W el)) (hh : PO X hi (tOs B C W eh)) (sl : simO el = true) (sh : simO eh = true) :
    PE X (.Subscript p (.Slice lo hi none p2) pos) (tC B C W (.slice ep el eh)) := by
  refine PE.imp (pe_slice sl_list hp hl hh) fun σ H Q ⟨T, g, r, Ke, Xe, R, hw, hq, hx⟩ => ?_
  refine ⟨T, g, r, fun q g1 => wO B.P C el r g1 (fun a g2 => wO B.P C eh r g2 (fun b g3 => match q.2 with | .seq false xs => Ke (.lst (sliceL xs a b)) g3 | _ => False) Xe) Xe, Xe, R, hw, fun q g1 T1 H1 v x1 R1 ⟨rv, _⟩ sm hk => ?_, hx⟩
  refine ⟨T1, g1, r, _, Xe, R1, hk, fun y g2 T2 H2 x2 R2 sm2 hk2 => ?_, fun c g' T' H' e R' => hx c g' T' H' (x1.trans e) R'⟩
  refine ⟨T2, g2, r, _, Xe, R2, hk2, fun z g3 T3 H3 x3 R3 sm3 hk3 => ?_, fun c g' T' H' e R' => hx c g' T' H' ((x1.trans x2).trans e) R'⟩
  have rv := (rv.keep x2 (sm2 sl)).keep x3 (sm3 sh)
  obtain ⟨_, c⟩ := q
  rw [hK]
  cases c with
  | seq t xs =>
    cases t with
    | false =>
      have hk3 : Ke (.lst (sliceL xs y z)) g3 := hk3
      obtain ⟨a, vs, rfl, f, rs⟩ := rv
      refine ⟨a, vs, rfl, f, fun p np => ?_⟩
      obtain ⟨R4, rc, s4⟩ := new_lst R3 (rs.cut y z) np
      exact hq _ g3 _ _ _ ((x1.trans x2).trans x3) R4 rc (fun s => ((((sm (ands s).1).trans (sm2 sl)).trans (sm3 sh)).trans s4)) hk3
    | true => exact hk3.elim
  | _ => exact hk3.elim
/-! ### pops -/
theorem base_sup {o : Expr} {m : Str} {env : Env} (h : notSup o = true) : attributeBase o m env (eval o env) = eval o env := sup_base h
theorem obj_list (R : RR B T g r H σ) {j : Id} {xs : List D} {a : Addr} (e : g j = some (.ct (.lst xs))) (ha : T.at_ a = some (.id j)) : ∃ vs, H a = some (.lst vs) ∧ RDs B T xs vs := (show RCt B T H a (.lst xs) from R.objAt e ha)
theorem c_catc {a b : Expr} {p q : Pl} (ha : PE X a (tP B C W p)) (hb : PE X b (tP B C W q)) : PE X (.BinOp a .Add b pos) (tC B C W (.catc p q)) := by
  refine PE.imp (pe_op op_catH ha hb) fun σ H Q ⟨T, g, r, Ke, Xe, R, hw, hq, hx⟩ => ?_
  refine ⟨T, g, r, fun z g1 => wP B.P C q r g1 (fun s' c' g2 => match z.1, z.2, c' with | .obj j, .seq false xs, .seq false ys => (g2 j = some (.ct (.lst xs)) ∧ s'.notGiv = true) ∧ xs.length + ys.length ≤ lineN ∧ Ke (.lst (xs ++ ys)) g2 | _, _, _ => False) Xe, Xe, R, hw, fun z g1 T1 H1 v x1 R1 ⟨_, rs⟩ sm hk => ?_, hx⟩
  refine ⟨T1, g1, r, fun y g2 => (match z.1, z.2, y.2 with | .obj j, .seq false xs, .seq false ys => (g2 j = some (.ct (.lst xs)) ∧ y.1.notGiv = true) ∧ xs.length + ys.length ≤ lineN ∧ Ke (.lst (xs ++ ys)) g2 | _, _, _ => False), Xe, R1, hk, fun y g2 T2 H2 u x2 R2 ⟨_, ru⟩ sm2 hk2 => ?_, fun c g' T' H' e R' => hx c g' T' H' (x1.trans e) R'⟩
  obtain ⟨sz, c⟩ := z
  obtain ⟨sy, c'⟩ := y
  have inv : ∃ j xs ys, sz = .obj j ∧ c = .seq false xs ∧ c' = .seq false ys ∧ (g2 j = some (.ct (.lst xs)) ∧ sy.notGiv = true) ∧ xs.length + ys.length ≤ lineN ∧ Ke (.lst (xs ++ ys)) g2 := by
    dsimp only at hk2
    split at hk2
    · exact ⟨_, _, _, rfl, rfl, rfl, hk2⟩
    · exact hk2.elim
  obtain ⟨j, xs, ys, rfl, rfl, rfl, ⟨n1, n2⟩, hl, hk3⟩ := inv
  obtain ⟨l, rfl, hid⟩ := rs.1
  obtain ⟨vs, h1, r1⟩ := obj_list R2 n1 (x2.id _ _ hid)
  obtain ⟨b', us, rfl, h2, r2⟩ := ru.2.2.1 n2
  refine ⟨l, b', vs, us, rfl, rfl, .inl h1, h2, by rw [r1.length, r2.length]; exact line_le hl, fun p np => ?_⟩
  obtain ⟨R3, rc, s3⟩ := new_lst R2 (r1.append r2) np
  exact hq _ g2 _ _ _ (x1.trans x2) R3 rc (fun s => by cases s) hk3
theorem put_lst (R : RR B T g r H σ) {j : Id} {xs : List D} {vs : List V} {a : Addr} (ha : T.at_ a = some (.id j)) (rs : RDs B T xs vs) : RR B T (up g j (.ct (.lst xs))) r (upd H a (.lst vs)) σ :=
  R.put ha (show ROb B T (upd H a (.lst vs)) j a (.ct (.lst xs)) from ⟨vs, upd_same, rs⟩)
theorem few_call {as : List Expr} {env : Env} {p : Pos} (h : as.all notStar = true) (hl : as.length < 30) : ((backTo p (starEach as env)).all (fun x => !x.1) && (backToKw p (keywordEach [] env)).all (fun x => x.1.isSome) && decide (as.length + ([] : List Keyword).length + (if ([] : List Keyword).isEmpty then 0 else 1) < 30)) = true := few_ok h hl
theorem RDs.dropLast : ∀ {ds : List D} {vs : List V}, RDs B T ds vs → RDs B T ds.dropLast vs.dropLast
  | [], _, h => by rw [show _ = [] from h]; rfl
  | [x], _, h => by
    obtain ⟨y, ys, rfl, _, h2⟩ := h
    rw [show ys = [] from h2]
    rfl
  | x :: z :: xs, _, h => by
    obtain ⟨y, ys, rfl, h1, h2⟩ := h
    have h3 := RDs.dropLast h2
    obtain ⟨y', ys', rfl, h4, h5⟩ := h2
    exact ⟨y, (y' :: ys').dropLast, rfl, h1, h3⟩
theorem a_pop0 {o : Expr} {p : Pl} {apos : Pos} (hK : X.K = B.K) (ho : PE X o (tP B C W p)) (hb : notSup o = true) (hl : (apos.endLine == pos.line) = true) : PE X (.Call (.Attribute o "pop" apos) [] [] pos) (tE B C W (.pop0 p)) := by
  refine PE.imp (pe_bm0 PySem.F.plainAttrs_list PySem.F.slot_list_pop PySem.F.type_list_pop mt_pop ho (base_sup hb) hl) fun σ H Q ⟨T, g, r, Ke, Xe, R, hw, hq, hx⟩ => ?_
  refine ⟨T, g, r, fun q g1 => (match q.2, q.1 with
      | .seq false xs, .obj j => g1 j = some (.ct (.lst xs)) ∧ (match xs[xs.length - 1]? with | some z => Ke z (up g1 j (.ct (.lst xs.dropLast))) | none => False)
      | _, _ => False), Xe, R, hw, fun q g1 T1 H1 v x1 R1 ⟨rv, rs⟩ sm hk => ?_, hx⟩
  obtain ⟨src, c⟩ := q
  rw [hK]
  dsimp only at hk
  split at hk
  rotate_left
  · exact hk.elim
  rename_i xs j
  obtain ⟨eg, hk⟩ := hk
  split at hk
  rotate_left
  · exact hk.elim
  rename_i z e
  obtain ⟨a, rfl, ha⟩ := rs.1
  obtain ⟨vs, eH, rvs⟩ := obj_list R1 eg ha
  obtain ⟨w, h1, h2⟩ := rvs.get e
  refine ⟨.inl ⟨rfl, vs, SqL.of eH⟩, a, vs, w, rfl, rfl, eH, by rw [rvs.length]; exact h1, ?_⟩
  exact hq z _ T1 _ w x1 (put_lst R1 ha rvs.dropLast) h2 (fun s => by cases s) hk
theorem a_popat {o k : Expr} {p : Pl} {ek : E} {apos : Pos} (hK : X.K = B.K) (ho : PE X o (tP B C W p)) (hk : PE X k (tE B C W ek)) (nk : notStar k = true) (hb : notSup o = true) (hl : (apos.endLine == pos.line) = true) : PE X (.Call (.Attribute o "pop" apos) [k] [] pos) (tE B C W (.popat p ek)) := by
  have ns : [k].all notStar = true := by simp [nk]
  refine PE.imp (pe_bm PySem.F.plainAttrs_list PySem.F.slot_list_pop PySem.F.type_list_pop mt_popAt ho (pa_cons hk pa_nil (star_cons nk)) (base_sup hb) (few_call ns (by simp)) hl (star_cons nk) rfl) fun σ H Q ⟨T, g, r, Ke, Xe, R, hw, hq, hx⟩ => ?_
  refine ⟨T, g, r, fun q g1 => (match q.2, q.1 with
      | .seq false xs, .obj j => wE B.P C ek r g1 (fun d g2 => match d with
        | .int i => (match idxN i xs.length with
          | some n => (match xs[n]? with | some z => (xs.length ≤ lineN ∧ g2 j = some (.ct (.lst xs))) ∧ Ke z (up g2 j (.ct (.lst (xs.eraseIdx n)))) | none => False)
          | none => False)
        | _ => False) Xe
      | _, _ => False), Xe, R, hw, fun q g1 T1 H1 v x1 R1 ⟨rv, rs⟩ sm hk => ?_, hx⟩
  obtain ⟨src, c⟩ := q
  rw [hK]
  have inv : ∃ xs j, c = .seq false xs ∧ src = .obj j ∧ wE B.P C ek r g1 (fun d g2 => match d with
        | .int i => (match idxN i xs.length with
          | some n => (match xs[n]? with | some z => (xs.length ≤ lineN ∧ g2 j = some (.ct (.lst xs))) ∧ Ke z (up g2 j (.ct (.lst (xs.eraseIdx n)))) | none => False)
          | none => False)
        | _ => False) Xe := by
    dsimp only at hk
    split at hk
    · exact ⟨_, _, rfl, rfl, hk⟩
    · exact hk.elim
  obtain ⟨xs, j, rfl, rfl, hk⟩ := inv
  obtain ⟨a, rfl, ha⟩ := rs.1
  have tv : tyV B.K "list" (V.ref a) H1 := by
    obtain ⟨a', vs, e1, sq, _⟩ := rv
    cases e1
    exact .inl ⟨rfl, vs, sq⟩
  refine ⟨tv, T1, g1, r, _, Xe, R1, hk, fun d g2 T2 H2 u x2 R2 ru sm2 hk => ?_, fun c g' T' H' e R' => hx c g' T' H' (x1.trans e) R'⟩
  split at hk
  rotate_left
  · exact hk.elim
  rename_i i
  split at hk
  rotate_left
  · exact hk.elim
  rename_i n en
  split at hk
  rotate_left
  · exact hk.elim
  rename_i z e
  obtain ⟨⟨hz, eg⟩, hk⟩ := hk
  obtain ⟨vs, eH, rvs⟩ := obj_list R2 eg (x2.id _ _ ha)
  obtain ⟨w, h1, h2⟩ := rvs.get e
  obtain ⟨s1, s2, s3, s4⟩ := ixN_seq en
  have hz : xs.length ≤ 1000000 := hz
  obtain rfl : u = V.int i := ru
  refine ⟨a, vs, i, n, w, rfl, rfl, eH, by omega, by omega, by rw [rvs.length]; exact s1, h1, ?_⟩
  exact hq z _ T2 _ w (x1.trans x2) (put_lst R2 (x2.id _ _ ha) (rvs.erase n)) h2 (fun s => by cases s) hk
/-! ### the exception at hand -/
abbrev Bd.at (B : Bd) (h : Option (Addr × Nat)) : Bd := { B with hx := h }
abbrev Tm.at' (T : Tm) (h : Option (Addr × Nat)) : Tm := ⟨T.at_, h⟩
section
variable {h e : Option (Addr × Nat)}
mutual
theorem RD.at : ∀ (d : D) (v : V), RD B T d v → RD (B.at h) (T.at' e) d v
  | .non, _, q => q
  | .bl _, _, q => q
  | .int _, _, q => q
  | .str _, _, q => q
  | .seq t xs, v, q => by
    obtain ⟨a, vs, h1, h2, h3⟩ := q
    exact ⟨a, vs, h1, h2, RDs.at xs vs h3⟩
  | .ref _, _, q => q
  | .giv _, _, q => q
theorem RDs.at : ∀ (d : List D) (v : List V), RDs B T d v → RDs (B.at h) (T.at' e) d v
  | [], _, q => q
  | x :: xs, v, q => by
    obtain ⟨y, ys, h1, h2, h3⟩ := q
    exact ⟨y, ys, h1, RD.at x y h2, RDs.at xs ys h3⟩
end
theorem RCt.at {a : Addr} {c : Ct} (q : RCt B T H a c) : RCt (B.at h) (T.at' e) H a c := by
  cases c with
  | lst xs =>
    obtain ⟨vs, e, rs⟩ := q
    exact ⟨vs, e, RDs.at xs vs rs⟩
  | dct _ =>
    rcases (show RDc B T H a _ from q) with ⟨ks, q1, q2⟩ | ⟨xs, q0, q1, q2⟩
    · exact .inl ⟨ks, q1, Paired.mapP q2 fun _ _ z => ⟨z.1, RD.at _ _ z.2⟩⟩
    · exact .inr ⟨xs, q0, q1, Paired.mapP q2 fun _ _ z => ⟨z.1, z.2.1, RD.at _ _ z.2.2.1, RD.at _ _ z.2.2.2⟩⟩
theorem RSl.at {pl : Tag} {s : Sl} {v : V} (q : RSl B T H pl s v) (n : ∀ c, s ≠ .exc c) : RSl (B.at h) (T.at' e) H pl s v := by
  cases s with
  | val d => exact RD.at d v q
  | own c =>
    obtain ⟨a, h1, h2, h3⟩ := q
    exact ⟨a, h1, h2, h3.at⟩
  | exc c => exact absurd rfl (n c)
theorem ROb.at {i : Id} {a : Addr} {o : Ob} (q : ROb B T H i a o) : ROb (B.at h) (T.at' e) H i a o := by
  cases o with
  | ct c => exact RCt.at q
  | lkd kvs o u =>
    refine ⟨q.1, ?_⟩
    rcases q.2 with ⟨ks, q1, q2⟩ | ⟨xs, q0, q1, q2⟩
    · exact .inl ⟨ks, q1, Paired.mapP q2 fun _ _ z => ⟨z.1, RD.at _ _ z.2⟩⟩
    · exact .inr ⟨xs, q0, q1, Paired.mapP q2 fun _ _ z => ⟨z.1, z.2.1, RD.at _ _ z.2.2.1, RD.at _ _ z.2.2.2⟩⟩
  | ins c fs =>
    obtain ⟨dx, vs, h1, h0, h2⟩ := q
    refine ⟨dx, vs, h1, h0, Paired.mapP h2 fun p q z => ⟨z.1, ?_⟩⟩
    obtain ⟨k, s⟩ := p
    cases s with
    | val d => exact RSl.at z.2 (by intro c z; cases z)
    | own c => exact RSl.at z.2 (by intro c z; cases z)
    | exc c =>
      obtain ⟨⟨_, z⟩, _⟩ := z.2
      cases z
/-- another exception at hand -/
theorem RR.at (R : RR B T g r H σ) (n : noX r = true) : RR (B.at h) (T.at' h) g r H σ := by
  refine ⟨rfl, R.len, R.fz, R.fr, R.tg, R.inj, R.dom, fun i o q => ?_, fun j s q => ?_⟩
  · obtain ⟨a, h1, h2⟩ := R.obj i o q
    exact ⟨a, h1, h2.at⟩
  · obtain ⟨v, h1, h2⟩ := R.slt j s q
    refine ⟨v, h1, h2.at fun c z => ?_⟩
    subst z
    have := List.all_eq_true.mp n _ (List.mem_of_getElem? q)
    cases this
theorem RR.noX (R : RR B T g r H σ) (hb : B.hx = none) : noX r = true := by
  refine List.all_eq_true.mpr fun s hs => ?_
  obtain ⟨j, hj⟩ := List.getElem?_of_mem hs
  cases s with
  | none => rfl
  | some s =>
    cases s with
    | exc c =>
      obtain ⟨v, h1, _, a, _, h2⟩ := R.slt j _ hj
      rw [R.hx, hb] at h2
      cases h2
    | _ => rfl
/-- into a suite -/
theorem RR.suite (R : RR B T g r H σ) (hb : B.hx = none) {a : Addr} {c : Nat} (x : Option Nat) : RR (B.at (some (a, c))) (T.at' (some (a, c))) g (inX x c r) H (match x with | some i => σ.set i (some (.ref a)) | none => σ) := by
  have R1 : RR (B.at (some (a, c))) (T.at' (some (a, c))) g r H σ := R.at (R.noX hb)
  cases x with
  | none => exact R1
  | some j =>
    have hl := R1.len
    refine ⟨R1.hx, by simpa [inX] using R1.len, R1.fz, R1.fr, R1.tg, R1.inj, R1.dom, R1.obj, fun i s e => ?_⟩
    have e : (r.set j (some (.exc c)))[i]? = some (some s) := e
    by_cases q : j = i
    · subst q
      by_cases lt : j < r.length
      · rw [List.getElem?_set_self lt] at e
        cases e
        exact ⟨.ref a, by rw [List.getElem?_set_self (by omega)], ⟨j, rfl⟩, a, rfl, rfl⟩
      · rw [List.getElem?_eq_none (by simpa using lt)] at e
        cases e
    · rw [List.getElem?_set_ne q] at e
      obtain ⟨v', h1, h2⟩ := R1.slt i s e
      exact ⟨v', by rw [List.getElem?_set_ne q]; exact h1, h2⟩
/-- out of it -/
theorem RR.unsuite {a : Addr} {c : Nat} (hb : B.hx = none) (x : Option Nat) {T2 : Tm} {g2 : G} {r2 : Rho} {H2 : Hp} {σ2 : St} (R : RR (B.at (some (a, c))) T2 g2 r2 H2 σ2) (n : Vb.noX (outX x r2) = true) :
    RR B (T2.at' none) g2 (outX x r2) H2 (match x with | some i => σ2.set i none | none => σ2) := by
  have R1 : RR (B.at (some (a, c))) T2 g2 (outX x r2) H2 (match x with | some i => σ2.set i none | none => σ2) := by
    cases x with
    | none => exact R
    | some i => exact R.forget _ (by simp) fun k v q e => by rw [List.getElem?_set_ne (Ne.symm q)]; exact e
  have R2 := R1.at (h := none) n
  have eb : (B.at (some (a, c))).at none = B := by
    cases B
    dsimp only at hb
    subst hb
    rfl
  rw [eb] at R2
  exact R2
end
end Vb

set_option maxHeartbeats 1000000
/-! The plain layer, part 9: changes, statements. -/
namespace Vb
open PySem L2
variable {B : Bd} {C : Call} {W : WX} {X : Cx} {pos : Pos}
variable {T T' : Tm} {g g' : G} {r r' : Rho} {H H' : Hp} {σ σ' : St}
/-! ### changes -/
theorem RR.sets (R : RR B T g r H σ) {j : Nat} {s : Sl} {v : V} (h : RSl B T H (.loc j) s v) : RR B T g (r.set j (some s)) H (σ.set j (some v)) := by
  have hl := R.len
  refine ⟨R.hx, by simpa using R.len, R.fz, R.fr, R.tg, R.inj, R.dom, R.obj, fun i s' e => ?_⟩
  by_cases q : j = i
  · subst q
    by_cases lt : j < r.length
    · rw [List.getElem?_set_self lt] at e
      cases e
      exact ⟨v, by rw [List.getElem?_set_self (by omega)], h⟩
    · rw [List.getElem?_eq_none (by simpa using lt)] at e
      cases e
  · rw [List.getElem?_set_ne q] at e
    obtain ⟨v', h1, h2⟩ := R.slt i s' e
    exact ⟨v', by rw [List.getElem?_set_ne q]; exact h1, h2⟩
theorem ext_sett {p : Addr} {t : Option Tag} (hp : T.at_ p = none ∨ (∃ j, T.at_ p = some (.loc j)) ∨ ∃ i f, T.at_ p = some (.fld i f)) : Ext T (T.sett p t) := by
  have ne : ∀ {a t'}, T.at_ a = some t' → (∀ j, t' ≠ .loc j) → (∀ i f, t' ≠ .fld i f) → a ≠ p := fun {a t'} h q1 q2 e => by
    subst e
    rcases hp with z | ⟨j, z⟩ | ⟨i, f, z⟩ <;> rw [h] at z <;> cases z
    · exact q1 _ rfl
    · exact q2 _ _ rfl
  exact ⟨fun a u h => (sett_ne (ne h (by intro j z; cases z) (by intro i f z; cases z))).trans h, fun a u h => (sett_ne (ne h (by intro j z; cases z) (by intro i f z; cases z))).trans h,
    fun a u h => (sett_ne (ne h (by intro j z; cases z) (by intro i f z; cases z))).trans h, rfl⟩
/-- the container of slot j at p is changed or retagged; the slot is forgotten -/
theorem RR.wrL (R : RR B T g r H σ) {p : Addr} {j : Nat} (hp : T.at_ p = some (.loc j)) {o : HO} {t : Option Tag} (ht : ∀ u, t = some (.fz u) ∨ t = some (.fr u) → u = o) (hi : ∀ i, t ≠ some (.id i)) : RR B (T.sett p t) g (r.set j none) (upd H p o) σ := by
  have ne : ∀ {a t'}, T.at_ a = some t' → t' ≠ .loc j → a ≠ p := fun {a t'} h q e => by
    subst e
    rw [h] at hp
    cases hp
    exact q rfl
  have x : Ext T (T.sett p t) := ext_sett (.inr (.inl ⟨j, hp⟩))
  have oldi : ∀ {a i}, (T.sett p t).at_ a = some (.id i) → T.at_ a = some (.id i) := fun {a i} h => by
    by_cases e : a = p
    · subst e
      rw [sett_same] at h
      exact absurd h (hi i)
    · rw [sett_ne e] at h
      exact h
  have nw : ∀ {a t'}, T.at_ a = some t' → t' ≠ .loc j → (T.sett p t).at_ a = some t' := fun h q => (sett_ne (ne h q)).trans h
  have kf : ∀ {a t'}, T.at_ a = some t' → t' ≠ .loc j → upd H p o a = H a := fun h q => upd_ne (ne h q)
  refine ⟨R.hx, by simpa using R.len, fun a u h => ?_, fun a u h => ?_, fun a t' h => ?_, fun a b i h1 h2 => R.inj a b i (oldi h1) (oldi h2), fun a i h => R.dom a i (oldi h), fun i ob h => ?_, fun k s h => ?_⟩
  · by_cases e : a = p
    · subst e
      rw [sett_same] at h
      rw [ht u (.inl h)]
      exact upd_same
    · rw [sett_ne e] at h
      rw [upd_ne e]
      exact R.fz a u h
  · by_cases e : a = p
    · subst e
      rw [sett_same] at h
      rw [ht u (.inr h)]
      exact upd_same
    · rw [sett_ne e] at h
      rw [upd_ne e]
      exact R.fr a u h
  · by_cases e : a = p
    · subst e
      exact ⟨o, upd_same⟩
    · rw [sett_ne e] at h
      rw [upd_ne e]
      exact R.tg a t' h
  · obtain ⟨a, h1, h2⟩ := R.obj i ob h
    exact ⟨a, nw h1 (by intro z; cases z), h2.of x.fz x.id rfl (fun _ _ _ q => ⟨nw q (by intro z; cases z), kf q (by intro z; cases z)⟩) (kf h1 (by intro z; cases z))⟩
  · by_cases e : j = k
    · subst e
      by_cases lt : j < r.length
      · rw [List.getElem?_set_self lt] at h
        cases h
      · rw [List.getElem?_eq_none (by simpa using lt)] at h
        cases h
    · rw [List.getElem?_set_ne e] at h
      obtain ⟨v, h1, h2⟩ := R.slt k s h
      refine ⟨v, h1, ?_⟩
      cases s with
      | val d => exact RD.ext x _ _ h2
      | own c =>
        obtain ⟨a, q1, q2, q3⟩ := h2
        have nk : Tag.loc k ≠ .loc j := fun z => by cases z; exact e rfl
        exact ⟨a, q1, nw q2 nk, q3.keep x (kf q2 nk)⟩
      | exc c => exact h2
/-- the container at p, a field's, is changed; its object gets new content -/
theorem RR.wrF (R : RR B T g r H σ) {p a0 : Addr} {i0 : Id} {f0 : Nat} (hp : T.at_ p = some (.fld i0 f0)) (ha : T.at_ a0 = some (.id i0)) {o : HO} {ob : Ob} (new : ROb B T (upd H p o) i0 a0 ob) : RR B T (up g i0 ob) r (upd H p o) σ := by
  have ne : ∀ {a t'}, T.at_ a = some t' → t' ≠ .fld i0 f0 → a ≠ p := fun {a t'} h q e => by
    subst e
    rw [h] at hp
    cases hp
    exact q rfl
  have kf : ∀ {a t'}, T.at_ a = some t' → t' ≠ .fld i0 f0 → upd H p o a = H a := fun h q => upd_ne (ne h q)
  refine ⟨R.hx, R.len, fun b u h => ?_, fun b u h => ?_, fun b t h => ?_, R.inj, fun b j h => ?_, fun j ob' h => ?_, fun j s h => ?_⟩
  · rw [kf h (by intro z; cases z)]
    exact R.fz b u h
  · rw [kf h (by intro z; cases z)]
    exact R.fr b u h
  · by_cases e : b = p
    · subst e
      exact ⟨o, upd_same⟩
    · rw [upd_ne e]
      exact R.tg b t h
  · by_cases e : j = i0
    · subst e
      exact ⟨ob, up_same _ _ _⟩
    · rw [up_ne _ _ e]
      exact R.dom b j h
  · by_cases e : j = i0
    · subst e
      rw [up_same] at h
      cases h
      exact ⟨a0, ha, new⟩
    · rw [up_ne _ _ e] at h
      obtain ⟨b, h1, h2⟩ := R.obj j ob' h
      refine ⟨b, h1, ?_⟩
      cases ob' with
      | ct c => exact RCt.keep (Ext.refl T) (kf h1 (by intro z; cases z)) h2
      | lkd kvs ho u => exact ⟨(kf h1 (by intro z; cases z)).trans h2.1, h2.2⟩
      | ins c fs =>
        obtain ⟨dx, vs, q1, q0, q2⟩ := h2
        refine ⟨dx, vs, (kf h1 (by intro z; cases z)).trans q1, q0, Paired.mapP q2 fun pp qq z => ⟨z.1, ?_⟩⟩
        obtain ⟨k, s⟩ := pp
        obtain ⟨z1, z2⟩ := z
        cases s with
        | val d => exact z2
        | own c =>
          obtain ⟨a, w1, w2, w3⟩ := z2
          exact ⟨a, w1, w2, w3.keep (Ext.refl T) (kf w2 (by intro z; cases z; exact e rfl))⟩
        | exc c => exact z2
  · obtain ⟨v, h1, h2⟩ := R.slt j s h
    refine ⟨v, h1, ?_⟩
    cases s with
    | val d => exact h2
    | own c =>
      obtain ⟨a, w1, w2, w3⟩ := h2
      exact ⟨a, w1, w2, w3.keep (Ext.refl T) (kf w2 (by intro z; cases z))⟩
    | exc c => exact h2
theorem RFs.putf {i : Id} {f : Nat} {x : Str} {s : Sl} {v : V} (nd : B.an.Nodup) (hx : B.an[f]? = some x) (hs : RSl B T' H' (.fld i f) s v)
    (ko : ∀ (k : Nat) (s : Sl) (v : V), k ≠ f → RSl B T H (.fld i k) s v → RSl B T' H' (.fld i k) s v) : ∀ {fs : List (Nat × Sl)} {vs : List (Str × V)}, (fs.map (·.1)).Nodup → RFs B T H i fs vs → RFs B T' H' i (putS f s fs) (putF x v vs)
  | [], _, _, h => by
    have h : Paired _ [] _ := h
    cases h
    exact Paired.cons ⟨hx, hs⟩ Paired.nil
  | (k, s0) :: fs, _, dn, h => by
    have h : Paired _ ((k, s0) :: fs) _ := h
    cases h with
    | @cons _ q _ vs h1 h2 =>
      obtain ⟨y, w⟩ := q
      obtain ⟨e1, e2⟩ := h1
      simp only [List.map_cons, List.nodup_cons] at dn
      by_cases e : k = f
      · subst e
        have exy : y = x := by
          have e1 : B.an[k]? = some y := e1
          rw [hx] at e1
          exact (Option.some.inj e1).symm
        subst exy
        have z1 : putS k s ((k, s0) :: fs) = (k, s) :: fs := by simp [putS]
        have z2 : putF y v ((y, w) :: vs) = (y, v) :: vs := by simp [putF]
        rw [z1, z2]
        refine Paired.cons ⟨hx, hs⟩ ?_
        have rest : ∀ {fs : List (Nat × Sl)} {vs : List (Str × V)}, k ∉ fs.map (·.1) → RFs B T H i fs vs → RFs B T' H' i fs vs := by
          intro fs
          induction fs with
          | nil =>
            intro vs _ h
            have h : Paired _ [] _ := h
            cases h
            exact Paired.nil
          | cons p fs ih =>
            intro vs nm h
            have h : Paired _ (p :: fs) _ := h
            cases h with
            | cons h1 h2 =>
              simp only [List.map_cons, List.mem_cons, not_or] at nm
              exact Paired.cons ⟨h1.1, ko _ _ _ (Ne.symm nm.1) h1.2⟩ (ih nm.2 h2)
        exact rest dn.1 h2
      · have nxy : ¬ y = x := fun z => by
          subst z
          exact e (nodup_ix nd e1 hx)
        have z1 : putS f s ((k, s0) :: fs) = (k, s0) :: putS f s fs := by simp [putS, e]
        have z2 : putF x v ((y, w) :: vs) = (y, w) :: putF x v vs := by simp [putF, nxy]
        rw [z1, z2]
        exact Paired.cons ⟨e1, ko k s0 w e e2⟩ (RFs.putf nd hx hs ko dn.2 h2)
theorem RFs.len {i : Id} : ∀ {fs : List (Nat × Sl)} {vs : List (Str × V)}, RFs B T H i fs vs → vs.length = fs.length
  | [], _, h => by
    have h : Paired _ [] _ := h
    cases h
    rfl
  | p :: fs, _, h => by
    have h : Paired _ (p :: fs) _ := h
    cases h with
    | cons h1 h2 => simp [RFs.len h2]
theorem putS_keys (f : Nat) (s : Sl) : ∀ fs : List (Nat × Sl), (putS f s fs).map (·.1) = if f ∈ fs.map (·.1) then fs.map (·.1) else fs.map (·.1) ++ [f]
  | [] => by simp [putS]
  | (k, x) :: fs => by
    unfold putS
    by_cases e : k = f
    · subst e
      simp
    · have e' : ¬ f = k := fun z => e z.symm
      simp only [e, if_false, List.map_cons, putS_keys f s fs, List.mem_cons, e', false_or]
      split <;> simp
theorem putS_nodup {f : Nat} {s : Sl} {fs : List (Nat × Sl)} (h : (fs.map (·.1)).Nodup) : ((putS f s fs).map (·.1)).Nodup := by
  rw [putS_keys]
  split
  · exact h
  · rename_i n
    rw [List.nodup_append]
    exact ⟨h, by simp, fun a ha b hb => by
      have : b = f := by simpa using hb
      subst this
      intro z
      subst z
      exact n ha⟩
theorem putS_fld {c f : Nat} {s : Sl} (hf : B.P.fldOk c f = true) : ∀ {fs : List (Nat × Sl)}, (∀ p ∈ fs, B.P.fldOk c p.1 = true) → ∀ p ∈ putS f s fs, B.P.fldOk c p.1 = true
  | [], _, p, hp => by
    have : p = (f, s) := by simpa [putS] using hp
    subst this
    exact hf
  | (k, x) :: fs, h, p, hp => by
    unfold putS at hp
    split at hp
    · rename_i e
      rcases List.mem_cons.mp hp with z | z
      · subst z
        exact h (k, x) List.mem_cons_self
      · exact h p (List.mem_cons_of_mem _ z)
    · rcases List.mem_cons.mp hp with z | z
      · subst z
        exact h (k, x) List.mem_cons_self
      · exact putS_fld hf (fun p hp => h p (List.mem_cons_of_mem _ hp)) p z
/-- a field gets a value -/
theorem RR.setfv (R : RR B T g r H σ) {n : Nms} (Gd : Good B n) {a : Addr} {i : Id} (ha : T.at_ a = some (.id i)) {c : Nat} {fs : List (Nat × Sl)} (e : g i = some (.ins c fs)) {f : Nat} {x : Str} (hx : B.an[f]? = some x) (hf : B.P.fldOk c f = true) {s : Sl} {v : V}
    (hs : RSl B T H (.fld i f) s v) : ∃ dx vs, H a = some (.ins (B.cad c) dx vs) ∧ vs.length = fs.length ∧ RR B T (up g i (.ins c (putS f s fs))) r (upd H a (.ins (B.cad c) dx (putF x v vs))) σ := by
  obtain ⟨dx, vs, h1, h0, h2⟩ := R.objAt e ha
  have ne : ∀ {b j k}, T.at_ b = some (.fld j k) → b ≠ a := fun h z => by
    rw [z, ha] at h
    cases h
  have kp : ∀ (k : Nat) (s : Sl) (v : V), RSl B T H (.fld i k) s v → RSl B T (upd H a (.ins (B.cad c) dx (putF x v vs))) (.fld i k) s v := by
    intro k s v h
    cases s with
    | val d => exact h
    | own c =>
      obtain ⟨b, w1, w2, w3⟩ := h
      exact ⟨b, w1, w2, w3.keep (Ext.refl T) (upd_ne (ne w2))⟩
    | exc c => exact h
  have kp2 : ∀ (u : V) (k : Nat) (s : Sl) (v : V), RSl B T H (.fld i k) s v → RSl B T (upd H a (.ins (B.cad c) dx (putF x u vs))) (.fld i k) s v := by
    intro u k s v h
    cases s with
    | val d => exact h
    | own c =>
      obtain ⟨b, w1, w2, w3⟩ := h
      exact ⟨b, w1, w2, w3.keep (Ext.refl T) (upd_ne (ne w2))⟩
    | exc c => exact h
  refine ⟨dx, vs, h1, ?_, R.put ha ⟨dx, _, upd_same, ⟨putS_fld hf h0.1, putS_nodup h0.2⟩, RFs.putf Gd.an hx (kp2 v f s v hs) (fun k s w _ h => kp2 v k s w h) h0.2 h2⟩⟩
  exact RFs.len h2
/-- a container is written where it lies -/
theorem place_put {n : Nms} (Gd : Good B n) (R : RR B T g r H σ) {s : Src} {xs xs' : List D} {v : V} {K : Rho → G → Prop} (rs : RSrc B T H σ v s) (ok : s.ok xs r g) (hp : putP s xs' r g K) :
    ∃ a vs, v = .ref a ∧ H a = some (.lst vs) ∧ RDs B T xs vs ∧ ∀ vs', RDs B T xs' vs' → ∃ r1 g1, RR B T g1 r1 (upd H a (.lst vs')) σ ∧ K r1 g1 := by
  cases s with
  | no => exact hp.elim
  | giv => exact hp.elim
  | obj i =>
    obtain ⟨a, rfl, ha⟩ := rs
    obtain ⟨vs, e, rvs⟩ := obj_list R ok ha
    exact ⟨a, vs, rfl, e, rvs, fun vs' r' => ⟨r, _, put_lst R ha r', hp⟩⟩
  | loc j =>
    obtain ⟨a, rfl, hj⟩ := rs
    have ok : r[j]? = some (some (.own (.lst xs))) := ok
    obtain ⟨v, h1, a', rfl, ha, vs, e, rvs⟩ := R.slt j _ ok
    rw [hj] at h1
    cases h1
    refine ⟨a, vs, rfl, e, rvs, fun vs' r' => ⟨_, _, ?_, hp⟩⟩
    have R1 := R.wrL ha (o := .lst vs') (t := some (.loc j)) (by intro u h; rcases h with h | h <;> cases h) (by intro i z; cases z)
    have et : T.sett a (some (.loc j)) = T := by
      cases T
      simp only [Tm.sett, Tm.mk.injEq, and_true]
      funext b
      split
      · rename_i e
        subst e
        exact ha.symm
      · rfl
    rw [et] at R1
    have R2 := R1.sets (j := j) (s := .own (.lst xs')) (v := .ref a) ⟨a, rfl, ha, vs', upd_same, r'⟩
    rw [List.set_set] at R2
    have es : σ.set j (some (.ref a)) = σ := by
      apply List.ext_getElem?
      intro k
      by_cases e : j = k
      · subst e
        rw [List.getElem?_set_self (by
          rcases Nat.lt_or_ge j σ.length with l | l
          · exact l
          · rw [List.getElem?_eq_none l] at hj
            cases hj), hj]
      · rw [List.getElem?_set_ne e]
    rw [es] at R2
    exact R2
  | fld i f =>
    obtain ⟨a, b, CC, dx, ws, x, rfl, hb, eb, hx, hl⟩ := rs
    obtain ⟨c, fs, eg, ef⟩ := ok
    have hp : (match g i with | some (.ins c fs) => K r (up g i (.ins c (putS f (.own (.lst xs')) fs))) | _ => False) := hp
    rw [eg] at hp
    obtain ⟨dx', ws', h1, h0, h2⟩ := R.objAt eg hb
    rw [eb] at h1
    cases h1
    obtain ⟨v', l1, a', rfl, ha, vs, e, rvs⟩ := (h2.get Gd.an hx).1 _ ef
    rw [hl] at l1
    cases l1
    refine ⟨a, vs, rfl, e, rvs, fun vs' r' => ⟨_, _, ?_, hp⟩⟩
    have ne : ∀ {d t}, T.at_ d = some t → t ≠ .fld i f → d ≠ a := fun {d t} h q z => by
      subst z
      rw [ha] at h
      cases h
      exact q rfl
    refine R.wrF ha hb ⟨dx, ws, by rw [upd_ne (ne hb (by intro z; cases z))]; exact eb, ⟨putS_fld (h0.1 _ (getS_mem ef)) h0.1, putS_nodup h0.2⟩, ?_⟩
    have q := RFs.putf (T := T) (T' := T) (H := H) (H' := upd H a (.lst vs')) (i := i) (s := .own (.lst xs')) (v := .ref a) Gd.an hx ⟨a, rfl, ha, vs', upd_same, r'⟩ (fun k s w nk h => by
      cases s with
      | val d => exact h
      | own c =>
        obtain ⟨d, w1, w2, w3⟩ := h
        exact ⟨d, w1, w2, w3.keep (Ext.refl T) (upd_ne (ne w2 (by intro z; cases z; exact nk rfl)))⟩
      | exc c => exact h) h0.2 h2
    have ep : putF x (V.ref a) ws = ws := by
      clear q h2 h0 eb
      induction ws with
      | nil => cases hl
      | cons p ws ih =>
        obtain ⟨y, w⟩ := p
        rw [List.lookup_cons] at hl
        unfold putF
        by_cases e : y = x
        · subst e
          simp at hl
          simp [hl]
        · have nb : (x == y) = false := by
            rw [beq_eq_false_iff_ne]
            exact fun z => e z.symm
          rw [nb] at hl
          simp only [e, if_false]
          rw [ih hl]
    rw [ep] at q
    exact q
end Vb

set_option maxHeartbeats 1000000
/-! The plain layer, part 10: statements. -/
namespace Vb
open PySem L2
variable {B : Bd} {C : Call} {W : WX} {X : Cx} {pos : Pos}
variable {T T' : Tm} {g g' : G} {r r' : Rho} {H H' : Hp} {σ σ' : St}
def EndOk (B : Bd) (T : Tm) (W : WX) (D : Ends) : Out → St → Hp → Prop
  | .nx, σ, H => D.nx σ H
  | .brk, σ, H => D.bk σ H
  | .cnt, σ, H => D.ct σ H
  | .ret d, _, H => ∀ v, RD B T d v → D.rt v H
  | .exc c, σ, H => W (.ref (B.cad c)) none σ H
def tW (B : Bd) (W : WX) (wp : Rho → G → Ks → Prop) : TS := fun D σ H =>
  ∃ (T : Tm) (g : G) (r : Rho) (K : Ks), RR B T g r H σ ∧ wp r g K ∧ ∀ o r' g' T' H' σ', Ext T T' → RR B T' g' r' H' σ' → K o r' g' → EndOk B T' W D o σ' H'
abbrev tS (B : Bd) (C : Call) (W : WX) (s : S) : TS := tW B W (wS B.P C s)
abbrev tSs (B : Bd) (C : Call) (W : WX) (s : Ss) : TS := tW B W (wSs B.P C s)
theorem PS.imp {st : Stmt} {t t' : TS} (h : PS X st t) (i : ∀ D σ H, t' D σ H → t D σ H) : PS X st t' := ⟨fun pins s σ H D I q => h.run pins s σ H D I (i D σ H q)⟩
theorem PSs.imp {st : List Stmt} {t t' : TS} (h : PSs X st t) (i : ∀ D σ H, t' D σ H → t D σ H) : PSs X st t' := ⟨fun pins s σ H D I q => h.run pins s σ H D I (i D σ H q)⟩
/-! ### sequences -/
theorem ss_nil : PSs X [] (tSs B C W .nil) := PSs.imp pss_nil fun D σ H ⟨T, g, r, K, R, hw, hq⟩ => hq .nx r g T H σ (Ext.refl T) R hw
theorem ss_cons {st : Stmt} {rest : List Stmt} {s : S} {ss : Ss} (h1 : PS X st (tS B C W s)) (h2 : PSs X rest (tSs B C W ss)) : PSs X (st :: rest) (tSs B C W (.cons s ss)) := by
  refine PSs.imp (pss_cons h1 h2) fun D σ H ⟨T, g, r, K, R, hw, hq⟩ => ?_
  refine ⟨T, g, r, _, R, hw, fun o r1 g1 T1 H1 σ1 x1 R1 hk => ?_⟩
  cases o with
  | nx => exact ⟨T1, g1, r1, K, R1, hk, fun o r2 g2 T2 H2 σ2 x2 R2 hk => hq o r2 g2 T2 H2 σ2 (x1.trans x2) R2 hk⟩
  | brk => exact hq .brk r1 g1 T1 H1 σ1 x1 R1 hk
  | cnt => exact hq .cnt r1 g1 T1 H1 σ1 x1 R1 hk
  | ret d => exact hq (.ret d) r1 g1 T1 H1 σ1 x1 R1 hk
  | exc c => exact hq (.exc c) r1 g1 T1 H1 σ1 x1 R1 hk
/-- a container of one's own is frozen -/
theorem ss_frz {i : Nat} {sts : List Stmt} {ss : Ss} (h : PSs X sts (tSs B C W ss)) : PSs X sts (tSs B C W (.cons (.frz i) ss)) := by
  refine PSs.imp h fun D σ H ⟨T, g, r, K, R, hw, hq⟩ => ?_
  have hw : (match r[i]? with | some (some (.own (.lst xs))) => wSs B.P C ss (r.set i (some (.val (.seq false xs)))) g K | _ => False) := by
    have hw : (match r[i]? with | some (some (.own (.lst xs))) => (fun o r1 g1 => match o with | .nx => wSs B.P C ss r1 g1 K | o => K o r1 g1) Out.nx (r.set i (some (.val (.seq false xs)))) g | _ => False) := hw
    split at hw
    · rename_i xs e
      exact hw
    · exact hw.elim
  split at hw
  · rename_i xs e
    obtain ⟨v, h1, a, rfl, ha, vs, e2, rvs⟩ := R.slt i _ e
    have x1 : Ext T (T.sett a (some (.fz (.lst vs)))) := ext_sett (.inr (.inl ⟨i, ha⟩))
    have R1 := R.wrL ha (o := .lst vs) (t := some (.fz (.lst vs))) (by intro u h; rcases h with h | h <;> cases h; rfl) (by intro i z; cases z)
    have eu : upd H a (.lst vs) = H := by
      funext b
      by_cases q : b = a
      · subst q
        rw [upd_same, e2]
      · rw [upd_ne q]
    rw [eu] at R1
    have R2 := R1.setv (j := i) (d := .seq false xs) (v := .ref a) ⟨a, vs, rfl, .inl ⟨_, sett_same, .inl rfl⟩, RDs.ext x1 _ _ rvs⟩
    rw [List.set_set] at R2
    have es : σ.set i (some (.ref a)) = σ := by
      apply List.ext_getElem?
      intro k
      by_cases e : i = k
      · subst e
        rw [List.getElem?_set_self (by
          rcases Nat.lt_or_ge i σ.length with l | l
          · exact l
          · rw [List.getElem?_eq_none l] at h1
            cases h1), h1]
      · rw [List.getElem?_set_ne e]
    rw [es] at R2
    exact ⟨_, g, _, K, R2, hw, fun o r2 g2 T2 H2 σ2 x2 R2 hk => hq o r2 g2 T2 H2 σ2 (x1.trans x2) R2 hk⟩
  · exact hw.elim
/-! ### the small ones -/
theorem s_pass : PS X (.Pass pos) (tS B C W .pass) := PS.imp ps_pass fun D σ H ⟨T, g, r, K, R, hw, hq⟩ => hq .nx r g T H σ (Ext.refl T) R hw
theorem s_brk : PS X (.Break pos) (tS B C W .brk) := PS.imp ps_break fun D σ H ⟨T, g, r, K, R, hw, hq⟩ => hq .brk r g T H σ (Ext.refl T) R hw
theorem s_cont : PS X (.Continue pos) (tS B C W .cont) := PS.imp ps_continue fun D σ H ⟨T, g, r, K, R, hw, hq⟩ => hq .cnt r g T H σ (Ext.refl T) R hw
theorem s_retn : PS X (.Return none pos) (tS B C W .retn) := PS.imp ps_retN fun D σ H ⟨T, g, r, K, R, hw, hq⟩ => hq (.ret .non) r g T H σ (Ext.refl T) R hw _ rfl
def isComp : Expr → Bool
  | .ListComp _ _ _ _ => true
  | .SetComp _ _ _ _ => true
  | .DictComp _ _ _ _ _ => true
  | _ => false
theorem sw_no {e : Expr} {tg : Option Expr} {l : Nat} {env : Env} (h : isComp e = false) : swapsWith e tg l env = pure false := by
  cases e <;> first | rfl | cases h
theorem sw_at {e o : Expr} {f : Str} {p : Pos} {l : Nat} {env : Env} : swapsWith e (some (.Attribute o f p)) l env = pure false := by cases e <;> rfl
theorem sw_sub {e o i : Expr} {p : Pos} {l : Nat} {env : Env} : swapsWith e (some (.Subscript o i p)) l env = pure false := by cases e <;> rfl
theorem sw_tup {e : Expr} {es : List Expr} {k : Nat} {p : Pos} {l : Nat} {env : Env} : swapsWith e (some (.Tuple es k p)) l env = pure false := by cases e <;> rfl
theorem s_expr {a : Expr} {e : E} (ha : PE X a (tE B C W e)) (hc : isComp a = false) : PS X (.Expr a pos) (tS B C W (.expr e)) := by
  refine PS.imp (ps_expr ha (sw_no hc)) fun D σ H ⟨T, g, r, K, R, hw, hq⟩ => ?_
  exact ⟨T, g, r, _, _, R, hw, fun x g1 T1 H1 v x1 R1 _ _ hk => hq .nx r g1 T1 H1 σ x1 R1 hk, fun c g1 T1 H1 x1 R1 hk => hq (.exc c) r g1 T1 H1 σ x1 R1 hk⟩
/-- a docstring -/
theorem s_doc {x : Str} {j : Nat} {p : Pos} : PS X (.Expr (.Constant (.str x) j p) pos) (tS B C W .pass) := PS.imp ps_doc fun D σ H ⟨T, g, r, K, R, hw, hq⟩ => hq .nx r g T H σ (Ext.refl T) R hw
theorem s_ret {a : Expr} {e : E} (ha : PE X a (tE B C W e)) : PS X (.Return (some a) pos) (tS B C W (.ret e)) := by
  refine PS.imp (ps_ret ha) fun D σ H ⟨T, g, r, K, R, hw, hq⟩ => ?_
  exact ⟨T, g, r, _, _, R, hw, fun x g1 T1 H1 v x1 R1 rv _ hk => hq (.ret x) r g1 T1 H1 σ x1 R1 hk v rv, fun c g1 T1 H1 x1 R1 hk => hq (.exc c) r g1 T1 H1 σ x1 R1 hk⟩
section
variable {i : Nat} {x : Str} {p' : Pos} {a : Expr}
theorem s_set {e : E} (hN : X.N.Nodup) (hi : X.N[i]? = some x) (hx : Loc X.env.scope x) (hf : X.fn x = true ∨ X.env.scope.names.lookup x = some .local) (ha : PE X a (tE B C W e)) (hc : swapsWith a (some (.Name x p')) pos.line X.env = pure false) : PS X (.Assign [.Name x p'] a pos) (tS B C W (.set i e)) := by
  refine PS.imp (ps_set hN hi hx ha hc hf) fun D σ H ⟨T, g, r, K, R, hw, hq⟩ => ?_
  exact ⟨T, g, r, _, _, R, hw, fun d g1 T1 H1 v x1 R1 rv _ hk => hq .nx _ g1 T1 H1 _ x1 (R1.setv rv) hk, fun c g1 T1 H1 x1 R1 hk => hq (.exc c) r g1 T1 H1 σ x1 R1 hk⟩
theorem own_conv {c : Cr} {D : Ends} {σ : St} {H : Hp} (h : tS B C W (.setown i c) D σ H) : tAsg (tC B C W c) (gName i) D σ H := by
  obtain ⟨T, g, r, K, R, hw, hq⟩ := h
  refine ⟨T, g, r, _, _, R, hw, fun ct g1 T1 H1 v x1 R1 rv _ hk => ?_, fun c g1 T1 H1 x1 R1 hk => hq (.exc c) r g1 T1 H1 σ x1 R1 hk⟩
  obtain ⟨a, rfl, ha, hc⟩ := rv
  obtain ⟨o, eo⟩ := hc.there
  have x2 : Ext T1 (T1.sett a (some (.loc i))) := ext_sett (.inl ha)
  have R2 := R1.retag (p := a) (.inl ha) (o := o) (t := some (.loc i)) (by intro u h; rcases h with h | h <;> cases h) (by intro i z; cases z)
  have eu : upd H1 a o = H1 := by
    funext b
    by_cases q : b = a
    · subst q
      rw [upd_same, eo]
    · rw [upd_ne q]
  rw [eu] at R2
  exact hq .nx _ g1 _ H1 _ (x1.trans x2) (R2.sets (j := i) (s := .own ct) (v := .ref a) ⟨a, rfl, sett_same, hc.keep x2 rfl⟩) hk
theorem s_setown {c : Cr} (hN : X.N.Nodup) (hi : X.N[i]? = some x) (hx : Loc X.env.scope x) (hf : X.fn x = true ∨ X.env.scope.names.lookup x = some .local) (ha : PE X a (tC B C W c)) (hc : swapsWith a (some (.Name x p')) pos.line X.env = pure false) : PS X (.Assign [.Name x p'] a pos) (tS B C W (.setown i c)) :=
  PS.imp (ps_set hN hi hx ha hc hf) fun D σ H h => own_conv h
end
def notTup : Expr → Bool
  | .Tuple _ _ _ => false
  | _ => true
theorem s_settup {is : List Nat} {es : List Expr} {k : Nat} {pt : Pos} {a : Expr} {e : E} (hK : X.K = B.K) (hg : PG X (.Tuple es k pt) (gTg X.K (.tup is))) (ha : PE X a (tE B C W e)) (nt : notTup a = true) : PS X (.Assign [.Tuple es k pt] a pos) (tS B C W (.settup is e)) := by
  have hw : swappedStores [.Tuple es k pt] a X.env = pure none := by cases a <;> first | rfl | cases nt
  refine PS.imp (ps_asg ha hg (sw_tup (es := es) (k := k) (p := pt) (l := pos.line) (env := X.env)) hw) fun D σ H ⟨T, g, r, K, R, hw, hq⟩ => ?_
  refine ⟨T, g, r, _, _, R, hw, fun d g1 T1 H1 v x1 R1 rv _ hk => ?_, fun c g1 T1 H1 x1 R1 hk => hq (.exc c) r g1 T1 H1 σ x1 R1 hk⟩
  split at hk
  · rename_i r1 hb
    rw [hK]
    exact gTg_ok R1 rv hb fun σ' R' _ => hq .nx r1 g1 T1 H1 σ' x1 R' hk
  · exact hk.elim
/-! ### fields -/
section
variable {n : Nms} {o a : Expr} {eo e : E} {f : Nat} {x : Str} {p' : Pos}
theorem s_setf (Gd : Good B n) (hK : X.K = B.K) (hx : B.an[f]? = some x) (ho : PE X o (tE B C W eo)) (ha : PE X a (tE B C W e)) : PS X (.Assign [.Attribute o x p'] a pos) (tS B C W (.setf eo f e)) := by
  refine PS.imp (ps_fld ho ha sw_at) fun D σ H ⟨T, g, r, K, R, hw, hq⟩ => ?_
  refine ⟨T, g, r, _, _, R, hw, fun d g1 T1 H1 v x1 R1 rv _ hk => ?_, fun c g1 T1 H1 x1 R1 hk => hq (.exc c) r g1 T1 H1 σ x1 R1 hk⟩
  refine ⟨T1, g1, r, _, _, R1, hk, fun d2 g2 T2 H2 u x2 R2 ru _ hk => ?_, fun c g2 T2 H2 x2 R2 hk => hq (.exc c) r g2 T2 H2 σ (x1.trans x2) R2 hk⟩
  split at hk
  rotate_left
  · exact hk.elim
  rename_i i
  split at hk
  rotate_left
  · exact hk.elim
  rename_i c fs eg
  obtain ⟨hf, hl, hk⟩ := hk
  obtain ⟨b, rfl, hb⟩ := ru
  obtain ⟨dx, vs, h1, h2, R3⟩ := R2.setfv Gd hb eg hx hf (s := .val d) (v := v) (RD.ext x2 _ _ rv)
  obtain ⟨c1, c2⟩ := Gd.fld c f x hf hx
  exact ⟨b, _, dx, vs, rfl, h1, hK ▸ c1, hK ▸ c2, by omega, hq .nx r _ T2 _ σ (x1.trans x2) R3 hk⟩
theorem s_setfown {c : Cr} (Gd : Good B n) (hK : X.K = B.K) (hx : B.an[f]? = some x) (ho : PE X o (tE B C W eo)) (ha : PE X a (tC B C W c)) : PS X (.Assign [.Attribute o x p'] a pos) (tS B C W (.setfown eo f c)) := by
  refine PS.imp (ps_fld ho ha sw_at) fun D σ H ⟨T, g, r, K, R, hw, hq⟩ => ?_
  refine ⟨T, g, r, _, _, R, hw, fun ct g1 T1 H1 v x1 R1 rv _ hk => ?_, fun c g1 T1 H1 x1 R1 hk => hq (.exc c) r g1 T1 H1 σ x1 R1 hk⟩
  obtain ⟨p, rfl, hp, hc⟩ := rv
  obtain ⟨u0, eo⟩ := hc.there
  have y1 : Ext T1 (T1.sett p (some (.fr u0))) := ext_sett (.inl hp)
  have R1' := R1.retag (p := p) (.inl hp) (o := u0) (t := some (.fr u0)) tg_fr (by intro i z; cases z)
  have eu : upd H1 p u0 = H1 := by
    funext b
    by_cases q : b = p
    · subst q
      rw [upd_same, eo]
    · rw [upd_ne q]
  rw [eu] at R1'
  have hc1 : RCt B (T1.sett p (some (.fr u0))) H1 p ct := hc.keep y1 rfl
  refine ⟨_, g1, r, _, _, R1', hk, fun d2 g2 T2 H2 u x2 R2 ru _ hk => ?_, fun c g2 T2 H2 x2 R2 hk => hq (.exc c) r g2 T2 H2 σ ((x1.trans y1).trans x2) R2 hk⟩
  split at hk
  rotate_left
  · exact hk.elim
  rename_i i
  split at hk
  rotate_left
  · exact hk.elim
  rename_i c fs eg
  obtain ⟨hf, hl, hk⟩ := hk
  obtain ⟨b, rfl, hb⟩ := ru
  have p2 : T2.at_ p = some (.fr u0) := x2.fr _ _ sett_same
  have H2p := R2.fr _ _ p2
  have R3 := R2.retag (p := p) (.inr ⟨_, p2⟩) (o := u0) (t := some (.fld i f)) (by intro u h; rcases h with h | h <;> cases h) (by intro i z; cases z)
  have eu2 : upd H2 p u0 = H2 := by
    funext b
    by_cases q : b = p
    · subst q
      rw [upd_same, H2p]
    · rw [upd_ne q]
  rw [eu2] at R3
  have nb : b ≠ p := fun z => by
    subst z
    rw [hb] at p2
    cases p2
  have hb3 : (T2.sett p (some (.fld i f))).at_ b = some (.id i) := (sett_ne nb).trans hb
  -- from the state before the other's reading to this
  have x3 : Ext T1 (T2.sett p (some (.fld i f))) := by
    have X12 := y1.trans x2
    have ne : ∀ {a t'}, T1.at_ a = some t' → a ≠ p := fun {a t'} h q => by
      rw [q, hp] at h
      cases h
    exact ⟨fun a u h => (sett_ne (ne h)).trans (X12.fz _ _ h), fun a u h => (sett_ne (ne h)).trans (X12.fr _ _ h), fun a u h => (sett_ne (ne h)).trans (X12.id _ _ h), X12.ex⟩
  have hc3 : RCt B (T2.sett p (some (.fld i f))) H2 p ct := hc.keep x3 (H2p.trans eo.symm)
  obtain ⟨dx, vs, h1, h2, R4⟩ := R3.setfv Gd hb3 eg hx hf (s := .own ct) (v := .ref p) ⟨p, rfl, sett_same, hc3⟩
  obtain ⟨c1, c2⟩ := Gd.fld c f x hf hx
  exact ⟨b, _, dx, vs, rfl, h1, hK ▸ c1, hK ▸ c2, by omega, hq .nx r _ _ _ σ (x1.trans x3) R4 hk⟩
/-! ### writing into containers -/
def plainK : Expr → Bool
  | .Slice _ _ _ _ => false
  | .Tuple _ _ _ => false
  | _ => true
theorem src_later {v : V} {s : Src} (rs : RSrc B T H σ v s) (x : Ext T T') (sm : (∀ i f, s ≠ .fld i f) ∨ Same H H') : RSrc B T' H' σ v s := by
  cases s with
  | no => exact True.intro
  | giv => exact True.intro
  | obj i =>
    obtain ⟨a, rfl, ha⟩ := rs
    exact ⟨a, rfl, x.id _ _ ha⟩
  | loc j => exact rs
  | fld i f =>
    obtain ⟨a, b, CC, dx, ws, y, rfl, hb, eb, hy, hl'⟩ := rs
    rcases sm with z | z
    · exact absurd rfl (z i f)
    · exact ⟨a, b, CC, dx, ws, y, rfl, x.id _ _ hb, z _ _ eb, hy, hl'⟩
/-- .. .append(..) -/
theorem s_app {p : Pl} {apos cpos : Pos} (Gd : Good B n) (hK : X.K = B.K) (ho : PE X o (tP B C W p)) (ha : PE X a (tE B C W e)) (na : notStar a = true) (hb : notSup o = true) (hl : (apos.endLine == cpos.line) = true) :
    PS X (.Expr (.Call (.Attribute o "append" apos) [a] [] cpos) pos) (tS B C W (.app p e)) := by
  have ns : [a].all notStar = true := by simp [na]
  refine PS.imp (ps_expr (pe_bm PySem.F.plainAttrs_list PySem.F.slot_list_append PySem.F.type_list_append mt_append ho (pa_cons ha pa_nil (star_cons na)) (base_sup hb) (few_call ns (by simp)) hl (star_cons na) rfl) (sw_no rfl)) fun D σ H ⟨T, g, r, K, R, hw, hq⟩ => ?_
  refine ⟨T, g, r, fun q g1 => (match q.2 with
      | .seq false xs => wE B.P C e r g1 (fun d g2 => (simE e || q.1.notFld) = true ∧ xs.length < lineN ∧ q.1.ok xs r g2 ∧ putP q.1 (xs ++ [d]) r g2 fun r1 g3 => K .nx r1 g3) fun c g1 => K (.exc c) r g1
      | _ => False), _, R, hw, fun q g1 T1 H1 v x1 R1 ⟨rv, rs⟩ sm hk => ?_, fun c g1 T1 H1 x1 R1 hk => hq (.exc c) r g1 T1 H1 σ x1 R1 hk⟩
  obtain ⟨src, c⟩ := q
  dsimp only at hk
  split at hk
  rotate_left
  · exact hk.elim
  rename_i xs
  rw [hK]
  obtain ⟨a', vs0, rfl, sq, _⟩ := rv
  refine ⟨.inl ⟨rfl, vs0, sq⟩, T1, g1, r, _, _, R1, hk, fun d g2 T2 H2 u x2 R2 ru sm2 hk => ?_, fun c g2 T2 H2 x2 R2 hk => hq (.exc c) r g2 T2 H2 σ (x1.trans x2) R2 hk⟩
  obtain ⟨se, hz, ok, hp⟩ := hk
  have later : (∀ i f, src ≠ .fld i f) ∨ Same H1 H2 := by
    rcases Bool.or_eq_true_iff.mp se with q | q
    · exact .inr (sm2 q)
    · exact .inl fun i f z => by
        have z : src = .fld i f := z
        subst z
        cases q
  obtain ⟨a1, vs, e1, e2, rvs, put⟩ := place_put Gd R2 (src_later rs.1 x2 later) ok hp
  cases e1
  obtain ⟨r1, g3, R3, hk⟩ := put (vs ++ [u]) (rvs.append (RDs.one ru))
  exact ⟨a', vs, u, rfl, rfl, e2, by rw [rvs.length]; exact line_lt hz, hq .nx r1 g3 T2 _ σ (x1.trans x2) R3 hk⟩
/-- o[k] = value -/
theorem s_seti {p : Pl} {k : Expr} {ek : E} (Gd : Good B n) (hK : X.K = B.K) (ho : PE X o (tP B C W p)) (hk' : PE X k (tE B C W ek)) (ha : PE X a (tE B C W e)) (sk : simE ek = true) (ns : plainK k = true) (nc : isComp a = false) :
    PS X (.Assign [.Subscript o k p'] a pos) (tS B C W (.seti p ek e)) := by
  have hsub : ∀ v, assign (.Subscript o k p') X.env v = (do
      let ov ← holding [v] (eval o X.env)
      let iv ← holding [v, ov] (eval k X.env)
      standAt p'
      holding [v, ov, iv] (setItem ov iv v)
      release [v, ov, iv] []) := by intro v; cases k <;> first | rfl | cases ns
  have hw : swappedStores [.Subscript o k p'] a X.env = pure none := by cases a <;> rfl
  refine PS.imp (ps_asg ha (pg_sub ho hk' set_list hsub) (sw_sub (o := o) (i := k) (p := p') (l := pos.line) (env := X.env)) hw) fun D σ H ⟨T, g, r, K, R, hw, hq⟩ => ?_
  refine ⟨T, g, r, _, _, R, hw, fun d g1 T1 H1 v x1 R1 rv _ hk => ?_, fun c g1 T1 H1 x1 R1 hk => hq (.exc c) r g1 T1 H1 σ x1 R1 hk⟩
  refine ⟨T1, g1, r, fun q g2 => wE B.P C ek r g2 (fun kd g3 => match q.2, kd with
      | .seq false xs, .int i => (match idxN i xs.length with
        | some n => q.1.ok xs r g3 ∧ putP q.1 (xs.set n d) r g3 fun r1 g4 => K .nx r1 g4
        | none => False)
      | _, _ => False) fun c g1 => K (.exc c) r g1, _, R1, hk, fun q g2 T2 H2 u x2 R2 ⟨ru, rs⟩ _ hk => ?_, fun c g2 T2 H2 x2 R2 hk => hq (.exc c) r g2 T2 H2 σ (x1.trans x2) R2 hk⟩
  refine ⟨T2, g2, r, _, _, R2, hk, fun kd g3 T3 H3 w x3 R3 rw3 sm3 hk => ?_, fun c g3 T3 H3 x3 R3 hk => hq (.exc c) r g3 T3 H3 σ ((x1.trans x2).trans x3) R3 hk⟩
  obtain ⟨src, c⟩ := q
  have inv : ∃ xs i n, c = .seq false xs ∧ kd = .int i ∧ idxN i xs.length = some n ∧ src.ok xs r g3 ∧ putP src (xs.set n d) r g3 fun r1 g4 => K .nx r1 g4 := by
    dsimp only at hk
    split at hk
    · split at hk
      · rename_i e
        exact ⟨_, _, _, rfl, rfl, e, hk⟩
      · exact hk.elim
    · exact hk.elim
  obtain ⟨xs, i, m, rfl, rfl, ei, ok, hp⟩ := inv
  obtain ⟨a1, vs, e1, e2, rvs, put⟩ := place_put Gd R3 (src_later rs.1 x3 (.inr (sm3 sk))) ok hp
  obtain ⟨r1, g4, R4, hk⟩ := put (vs.set m v) (rvs.set m (RD.ext (x2.trans x3) _ _ rv))
  exact ⟨a1, vs, i, m, e1, rw3, e2, by rw [rvs.length]; exact ei, hq .nx r1 g4 T3 _ σ ((x1.trans x2).trans x3) R4 hk⟩
end
/-! ### branches, loops -/
theorem s_ifs {c : Expr} {a b : List Stmt} {ec : E} {sa sb : Ss} (hc : PT X c (tB' B C W ec)) (ha : PSs X a (tSs B C W sa)) (hb : PSs X b (tSs B C W sb)) : PS X (.If c a b pos) (tS B C W (.ifs ec sa sb)) := by
  refine PS.imp (ps_if hc ha hb) fun D σ H ⟨T, g, r, K, R, hw, hq⟩ => ?_
  refine ⟨T, g, r, _, _, R, hw, fun b g1 T1 H1 x1 R1 _ hk => ?_, fun c g1 T1 H1 x1 R1 hk => hq (.exc c) r g1 T1 H1 σ x1 R1 hk⟩
  cases b with
  | true => exact ⟨T1, g1, r, K, R1, hk, fun o r2 g2 T2 H2 σ2 x2 R2 hk => hq o r2 g2 T2 H2 σ2 (x1.trans x2) R2 hk⟩
  | false => exact ⟨T1, g1, r, K, R1, hk, fun o r2 g2 T2 H2 σ2 x2 R2 hk => hq o r2 g2 T2 H2 σ2 (x1.trans x2) R2 hk⟩
theorem s_whil {c : Expr} {b : List Stmt} {ec : E} {sb : Ss} (hp : PassesOwn (model X.prog X.w) X.A X.env X.xe) (hc : PT X c (tB' B C W ec)) (hb : PSs X b (tSs B C W sb)) : PS X (.While c b [] pos) (tS B C W (.whil ec sb)) := by
  refine PS.imp (ps_while hp hc hb) fun D σ H ⟨T, g, r, K, R, ⟨n, hw⟩, hq⟩ => ?_
  refine ⟨fun m σ H => ∃ T1 g1 r1, Ext T T1 ∧ RR B T1 g1 r1 H σ ∧ wWhile (fun r g K X => wB B.P C ec r g K X) (fun r g K => wSs B.P C sb r g K) m r1 g1 K, ⟨n, T, g, r, Ext.refl T, R, hw⟩, ?_⟩
  rintro m σ1 H1 ⟨T1, g1, r1, x1, R1, hw1⟩
  cases m with
  | zero => exact hw1.elim
  | succ m =>
    refine ⟨T1, g1, r1, _, _, R1, hw1, fun b g2 T2 H2 x2 R2 _ hk => ?_, fun c g2 T2 H2 x2 R2 hk => hq (.exc c) r1 g2 T2 H2 σ1 (x1.trans x2) R2 hk⟩
    cases b with
    | true =>
      simp only [if_true] at hk ⊢
      refine ⟨fun σ' H' => ∃ T1 g1 r1, Ext T T1 ∧ RR B T1 g1 r1 H' σ' ∧ wWhile (fun r g K X => wB B.P C ec r g K X) (fun r g K => wSs B.P C sb r g K) m r1 g1 K, fun σ' H' h => ⟨m, Nat.lt_succ_self m, h⟩, ?_⟩
      refine ⟨T2, g2, r1, _, R2, hk, fun o r3 g3 T3 H3 σ3 x3 R3 hk => ?_⟩
      have X3 := (x1.trans x2).trans x3
      cases o with
      | nx => exact ⟨T3, g3, r3, X3, R3, hk⟩
      | cnt => exact ⟨T3, g3, r3, X3, R3, hk⟩
      | brk => exact hq .nx r3 g3 T3 H3 σ3 X3 R3 hk
      | ret d => exact hq (.ret d) r3 g3 T3 H3 σ3 X3 R3 hk
      | exc c => exact hq (.exc c) r3 g3 T3 H3 σ3 X3 R3 hk
    | false =>
      simp only [Bool.false_eq_true, if_false] at hk ⊢
      exact hq .nx r1 g2 T2 H2 σ1 (x1.trans x2) R2 hk
theorem s_for {tg iter : Expr} {b : List Stmt} {t : Tg} {it : It} {sb : Ss} (hK : X.K = B.K) (hp : PassesOwn (model X.prog X.w) X.A X.env X.xe) (hc : X.calm = true) (hi : PI X tg iter (tI B C W it)) (hg : PG X tg (gTg X.K t)) (hb : PSs X b (tSs B C W sb))
    (hs : ∀ x, foldedSetIterable iter X.env x = pure x) : PS X (.For tg iter b [] pos) (tS B C W (.for_ t it sb)) := by
  refine PS.imp (ps_for hp hc hi hg hb hs) fun D σ H ⟨T, g, r, K, R, hw, hq⟩ => ?_
  refine ⟨T, g, r, _, _, R, hw, fun src xs g1 T1 H1 J x1 R1 wk _ hk => ?_, fun c g1 T1 H1 x1 R1 hk => hq (.exc c) r g1 T1 H1 σ x1 R1 hk⟩
  obtain ⟨st, hk⟩ := hk
  let Iv : Nat → St → Hp → Prop := fun i σ H => ∃ T2 g2 r2, Ext T1 T2 ∧ RR B T2 g2 r2 H σ ∧ wFor src t (fun r g K => wSs B.P C sb r g K) (xs.drop i) r2 g2 K
  refine ⟨fun i m σ H => m = xs.length - i ∧ i ≤ xs.length ∧ Iv i σ H, ⟨_, rfl, Nat.zero_le _, T1, g1, r, Ext.refl T1, R1, hk⟩, ?_⟩
  rintro i m σ2 H2 ⟨rfl, hi, T2, g2, r2, x2, R2, hw2⟩
  have ok2 : src.ok g2 := by
    cases hd : xs.drop i with
    | nil => rw [hd] at hw2; exact hw2.1
    | cons y ys => rw [hd] at hw2; exact hw2.1
  have step := wk T2 g2 r2 H2 σ2 x2 R2 (.inr ⟨ok2, st⟩) i
  by_cases lt : i < xs.length
  · refine .inr ?_
    have hd : xs[i]? = some xs[i] := by simp [lt]
    obtain ⟨go, yl⟩ := step.2 _ hd
    refine ⟨go, Iv (i + 1), fun σ' H' h => ⟨xs.length - (i + 1), by omega, rfl, lt, h⟩, fun x H3 y => ?_⟩
    obtain ⟨T3, x3, R3, s3, rx⟩ := yl x H3 y
    rw [List.drop_eq_getElem_cons lt] at hw2
    obtain ⟨_, hw2⟩ := hw2
    split at hw2
    · exact hw2.elim
    rename_i r1 hb
    rw [hK]
    refine gTg_ok R3 rx hb fun σ4 R4 _ => ?_
    refine ⟨T3, g2, r1, _, R4, hw2, fun o r5 g5 T5 H5 σ5 x5 R5 hk => ?_⟩
    have X5 := (x2.trans x3).trans x5
    cases o with
    | nx => exact ⟨T5, g5, r5, X5, R5, hk⟩
    | cnt => exact ⟨T5, g5, r5, X5, R5, hk⟩
    | brk => exact hq .nx r5 g5 T5 H5 σ5 (x1.trans X5) R5 hk
    | ret d => exact hq (.ret d) r5 g5 T5 H5 σ5 (x1.trans X5) R5 hk
    | exc c => exact hq (.exc c) r5 g5 T5 H5 σ5 (x1.trans X5) R5 hk
  · refine .inl ⟨step.1 (Nat.le_of_not_lt lt), ?_⟩
    rw [List.drop_eq_nil_of_le (Nat.le_of_not_lt lt)] at hw2
    exact hq .nx r2 g2 T2 H2 σ2 (x1.trans x2) R2 hw2.2
end Vb

set_option maxHeartbeats 1000000
/-! The plain layer, part 11: exceptions. -/
namespace Vb
open PySem L2
variable {B : Bd} {C : Call} {W : WX} {X : Cx} {pos : Pos}
variable {T T' : Tm} {g g' : G} {r r' : Rho} {H H' : Hp} {σ σ' : St} {n : Nms}
theorem Good.at (Gd : Good B n) (h : Option (Addr × Nat)) : Good (B.at h) n :=
  ⟨Gd.an, Gd.fld, Gd.mth, Gd.ini, Gd.cnm, Gd.exc, Gd.exa, Gd.exm, Gd.fn, Gd.kb, fun k x d h1 h2 => by
    obtain ⟨u, v, q1, q2, q3⟩ := Gd.glb k x d h1 h2
    refine ⟨u, v, q1, q2, fun T => ?_⟩
    exact RD.at (B := B) (T := T) (h := h) (e := T.ex) d v (q3 T), Gd.blt⟩
theorem s_raise {c : Nat} {x m : Str} {j : Nat} {p p2 cpos : Pos} (Gd : Good B n) (ob : OnB B X) (hc : X.calm = true) (tk : L2N.Takes X W) (hx : n.c[c]? = some x) (he : B.P.isExc c = true) (hg : Gl X x) (hd : (x == ("__debug__" : Str)) = false) :
    PS X (.Raise (some (.Call (.Name x p) [.Constant (.str m) j p2] [] cpos)) none pos) (tS B C W (.raise c)) := by
  obtain ⟨e1, e2, e3, e4⟩ := Gd.exc c he
  have gC : X.mg x = some (.ref (B.cad c)) := by rw [ob.mg]; exact Gd.cnm c x hx
  rw [← ob.K] at e1 e2 e3 e4
  refine PS.imp (L2N.ps_raise hc tk (L2N.pmk_own PySem.F.excBase_ValueError e1 gC e2 (raises_own e3 e4) hg hd)) fun D σ H ⟨T, g, r, K, R, hw, hq⟩ => ?_
  exact hq (.exc c) r g T H σ (Ext.refl T) R hw
/-- what an except clause's suite is to do -/
def tsH (B : Bd) (C : Call) (h : Ss) : Addr → Value → Option Addr → TS := fun a cls d D σ H =>
  ∃ c, cls = .ref (B.cad c) ∧ d = none ∧ B.P.isExc c = true ∧ tSs (B.at (some (a, c))) C W0 h D σ H
theorem try_conv {c : Nat} {i : Nat} {b h : Ss} (Gd : Good B n) (hK : X.K = B.K) (hb : B.hx = none) (hc : B.P.isExc c = true) {D : Ends} {σ : St} {H : Hp} (q : tS B C W (.try_ b c (some i) h) D σ H) :
    tSs B C (wAs X.K (.ref (B.cad c)) i (tsH B C h) W D) b D σ H := by
  obtain ⟨T, g, r, K, R, hw, hq⟩ := q
  refine ⟨T, g, r, _, R, hw, fun o r1 g1 T1 H1 σ1 x1 R1 hk => ?_⟩
  cases o with
  | nx => exact hq .nx r1 g1 T1 H1 σ1 x1 R1 hk
  | brk => exact hq .brk r1 g1 T1 H1 σ1 x1 R1 hk
  | cnt => exact hq .cnt r1 g1 T1 H1 σ1 x1 R1 hk
  | ret d => exact hq (.ret d) r1 g1 T1 H1 σ1 x1 R1 hk
  | exc e =>
    obtain ⟨he, hk⟩ := hk
    refine ⟨B.P.catches e c, hK ▸ (Gd.exm e c he hc).1, fun hyes a na => ?_, fun hno => ?_⟩
    · rw [if_pos hyes] at hk
      refine ⟨e, rfl, rfl, he, T1.at' (some (a, e)), g1, inX (some i) e r1, _, R1.suite hb (some i), hk, fun o r2 g2 T2 H2 σ2 x2 R2 hk2 => ?_⟩
      have x3 : Ext T (T2.at' none) := ⟨fun a u h => x2.fz a u (x1.fz a u h), fun a u h => x2.fr a u (x1.fr a u h), fun a u h => x2.id a u (x1.id a u h), by rw [R.hx, hb]⟩
      cases o with
      | exc _ => exact hk2.elim
      | nx => exact hq .nx _ g2 _ H2 _ x3 (R2.unsuite hb (some i) hk2.1) hk2.2
      | brk => exact hq .brk _ g2 _ H2 _ x3 (R2.unsuite hb (some i) hk2.1) hk2.2
      | cnt => exact hq .cnt _ g2 _ H2 _ x3 (R2.unsuite hb (some i) hk2.1) hk2.2
      | ret d =>
        intro v rd
        refine hq (.ret d) _ g2 _ H2 _ x3 (R2.unsuite hb (some i) hk2.1) hk2.2 v ?_
        have z := RD.at (B := B.at (some (a, e))) (T := T2) (h := none) (e := none) d v rd
        have eb : (B.at (some (a, e))).at none = B := by
          cases B
          dsimp only at hb
          subst hb
          rfl
        rw [eb] at z
        exact z
    · have hk : (if B.P.catches e c = true then _ else K (.exc e) r1 g1) := hk
      rw [if_neg (by rw [hno]; exact Bool.false_ne_true)] at hk
      exact hq (.exc e) r1 g1 T1 H1 σ1 x1 R1 hk
theorem try_conv0 {c : Nat} {b h : Ss} (Gd : Good B n) (hK : X.K = B.K) (hb : B.hx = none) (hc : B.P.isExc c = true) {D : Ends} {σ : St} {H : Hp} (q : tS B C W (.try_ b c none h) D σ H) :
    tSs B C (wMany X.K W D [(.ref (B.cad c), tsH B C h)]) b D σ H := by
  obtain ⟨T, g, r, K, R, hw, hq⟩ := q
  refine ⟨T, g, r, _, R, hw, fun o r1 g1 T1 H1 σ1 x1 R1 hk => ?_⟩
  cases o with
  | nx => exact hq .nx r1 g1 T1 H1 σ1 x1 R1 hk
  | brk => exact hq .brk r1 g1 T1 H1 σ1 x1 R1 hk
  | cnt => exact hq .cnt r1 g1 T1 H1 σ1 x1 R1 hk
  | ret d => exact hq (.ret d) r1 g1 T1 H1 σ1 x1 R1 hk
  | exc e =>
    obtain ⟨he, hk⟩ := hk
    refine ⟨B.P.catches e c, hK ▸ (Gd.exm e c he hc).1, fun hyes a na => ?_, fun hno => ?_⟩
    · rw [if_pos hyes] at hk
      refine ⟨e, rfl, rfl, he, T1.at' (some (a, e)), g1, inX none e r1, _, R1.suite hb none, hk, fun o r2 g2 T2 H2 σ2 x2 R2 hk2 => ?_⟩
      have x3 : Ext T (T2.at' none) := ⟨fun a u h => x2.fz a u (x1.fz a u h), fun a u h => x2.fr a u (x1.fr a u h), fun a u h => x2.id a u (x1.id a u h), by rw [R.hx, hb]⟩
      cases o with
      | exc _ => exact hk2.elim
      | nx => exact hq .nx _ g2 _ H2 _ x3 (R2.unsuite hb none hk2.1) hk2.2
      | brk => exact hq .brk _ g2 _ H2 _ x3 (R2.unsuite hb none hk2.1) hk2.2
      | cnt => exact hq .cnt _ g2 _ H2 _ x3 (R2.unsuite hb none hk2.1) hk2.2
      | ret d =>
        intro v rd
        refine hq (.ret d) _ g2 _ H2 _ x3 (R2.unsuite hb none hk2.1) hk2.2 v ?_
        have z := RD.at (B := B.at (some (a, e))) (T := T2) (h := none) (e := none) d v rd
        have eb : (B.at (some (a, e))).at none = B := by
          cases B
          dsimp only at hb
          subst hb
          rfl
        rw [eb] at z
        exact z
    · have hk : (if B.P.catches e c = true then _ else K (.exc e) r1 g1) := hk
      rw [if_neg (by rw [hno]; exact Bool.false_ne_true)] at hk
      exact hq (.exc e) r1 g1 T1 H1 σ1 x1 R1 hk
/-- isinstance(e, X) of the exception at hand -/
theorem a_excis {i c : Nat} {x y : Str} {p0 p1 p2 : Pos} (Gd : Good B n) (ob : OnB B X) (held : ∀ a c, B.hx = some (a, c) → ∃ (X0 : Cx) (oe : Obj) (pn : List (Addr × Obj)), X = X0.suite a ((a, oe) :: pn) ∧ Zc (.ref (B.cad c)) none oe ∧ (∃ vs, oe.data = .fields vs) ∧ B.P.isExc c = true)
    (hN : X.N[i]? = some x) (hv : Vis X.env.scope x) (hd : (x == ("__debug__" : Str)) = false) (hc : (x == ("__classdict__" : Str)) = false) (hy : n.c[c]? = some y) (he : B.P.isExc c = true) (hg : Gl X y) (hdy : (y == ("__debug__" : Str)) = false)
    (hi : Gl X "isinstance") (hm : X.mg "isinstance" = none) : PE X (.Call (.Name "isinstance" p0) [.Name x p1, .Name y p2] [] pos) (tE B C W (.excis i c)) := by
  cases hb : B.hx with
  | none =>
    refine ⟨fun pins s σ H Q I ⟨T, g, r, Ke, Xe, R, hw, _⟩ => ?_⟩
    have hw : (match r[i]? with | some (some (.exc e)) => Ke (.bl (B.P.catches e c)) g | _ => False) := hw
    split at hw
    · rename_i e q
      obtain ⟨v, h1, _, a, _, h2⟩ := R.slt i _ q
      rw [R.hx, hb] at h2
      cases h2
    · exact hw.elim
  | some ac =>
    obtain ⟨a0, c0⟩ := ac
    obtain ⟨X0, oe, pn, rfl, hz, hf, hex⟩ := held a0 c0 hb
    have gC : (X0.suite a0 ((a0, oe) :: pn)).mg y = some (.ref (B.cad c)) := by rw [ob.mg]; exact Gd.cnm c y hy
    have eK : X0.K = B.K := ob.K
    have cls : PE (X0.suite a0 ((a0, oe) :: pn)) (.Name y p2) (L2.tC (.ref (B.cad c))) := pe_glob hg gC rfl hdy
    have call := call_isE (X := X0) (a := a0) (pn := pn) (eK ▸ Gd.exa c0 hex) hz hf
    refine PE.imp (blt2 call hi hm (by decide +kernel) (by decide) (by decide) (pa_cons (pe_var hN hv hd hc) (pa_cons cls pa_nil (star_cons rfl)) (star_cons rfl)) rfl rfl) fun σ H Q ⟨T, g, r, Ke, Xe, R, hw, hq, hx⟩ => ?_
    have hw : (match r[i]? with | some (some (.exc e)) => Ke (.bl (B.P.catches e c)) g | _ => False) := hw
    split at hw
    · rename_i e q
      obtain ⟨v, h1, _, a, rfl, h2⟩ := R.slt i _ q
      rw [R.hx, hb] at h2
      cases h2
      exact ⟨_, h1, _, .ref (B.cad c), _, rfl, fun u h => h, eK ▸ (Gd.exm _ c hex he).2, hq (.bl _) g T H _ (Ext.refl T) R rfl (fun _ => Same.refl H) hw⟩
    · exact hw.elim
end Vb

set_option maxHeartbeats 2000000
/-! The plain layer: a loop over a list whose end is never reached (within an except suite). -/
namespace Vb
open PySem L2 PySem.Spec PyProof.Rows
structure TurnN (P : Program) (w : World) (K : PySem.W.Frag) (tg : Expr) (J : L2.It) (fp : List Addr) (it : Addr) (tn : Nat → Heap → Prop) : Prop where
  obj : ∀ i h, tn i h → ∀ b ∈ fp, ∃ o, h.get? b = some o ∧ ∀ v, o.data ≠ .cell v
  keep : ∀ i h h', tn i h → (∀ b ∈ fp, ∀ o, h.get? b = some o → h'.get? b = some o) → tn i h'
  item : ∀ (X : Cx), X.prog = P → X.w = w → X.K = K → ∀ (i : Nat) (pins : List (Addr × Obj)) (s : Shared) (σ : L2.St) (H : Hp) (E : Value → Shared → Prop), Inv X pins σ H s → (∀ b ∈ fp, FpOk X pins H b) → tn i s.heap → J.go i H →
    wpAny (model P w) X.A (pyNext (.ref it)) (fun r s1 => ∃ u, r = some u ∧
      wpAny (model P w) X.A (letOwnedTupleGo tg (.ref it) u) (fun _ s2 => ∃ x H', Inv X pins σ H' s2 ∧ RelV x u ∧ J.yld i H x H' ∧ tn (i + 1) s2.heap ∧ ∀ b ∈ fp, H' b = none) E s1) E s
  never : ∀ i H, ¬ J.stop i H
def ItlN (K : PySem.W.Frag) (a : Addr) : L2.It := { Itl K a with stop := fun _ _ => False }
theorem turn_listN {P : Program} {w : World} {K : PySem.W.Frag} {tg : Expr} (a it : Addr) : TurnN P w K tg (ItlN K a) [it] it (fun i h => h.IsListIter it a i) where
  obj := fun i h st b hb => by
    have e : b = it := by simpa using hb
    subst e
    obtain ⟨o, e, c, d⟩ := st
    exact ⟨o, e, fun v z => by rw [d] at z; cases z⟩
  keep := fun i h h' st k => st.at fun o e => k it (by simp) o e
  item := by
    intro X hP hw hK i pins s σ H E I hf st hg
    subst hP hw hK
    obtain ⟨xs, x, hq, hx⟩ := hg
    obtain ⟨its, rv, p, hz⟩ := I.list hq
    obtain ⟨u, hu, ru⟩ := rv.get hx
    obtain ⟨f0, f1, f2, f3, f4, f5⟩ := hf it (by simp)
    refine wpAny_pyNext_list_item st p.isList (x := u) (by simpa using hu) fun h' st' sb => ?_
    have I1 : Inv X pins σ H { s with heap := h' } := I.turned (t' := s.toks) (fun b o hb e => (sb.2 b hb).trans e) f0 f1 f3 f4 f5
    obtain ⟨o, e, c, d⟩ := id st'
    exact ⟨u, rfl, go_of (s := { s with heap := h' }) e c d (by decide) ⟨x, H, I1, ru, ⟨rfl, fun ys hy => by rw [I.list_inj hy hq]; exact hx⟩, st', fun b hb => (hf b hb).1⟩⟩
  never := fun _ _ h => h
def PIEN (X : Cx) (pins : List (Addr × Obj)) (σ : L2.St) (tg : Expr) (R : L2.It → Hp → Prop) (itv : Value) (s2 : Shared) : Prop :=
  ∃ (it : Addr) (fp : List Addr) (tn : Nat → Heap → Prop) (J : L2.It) (H' : Hp), itv = .ref it ∧ Inv X pins σ H' s2 ∧ TurnN X.prog X.w X.K tg J fp it tn ∧ tn 0 s2.heap ∧ (∀ b ∈ fp, FpOk X pins H' b) ∧ R J H'
structure PIN (X : Cx) (tg iter : Expr) (wi : TI) : Prop where
  run : ∀ (pins : List (Addr × Obj)) (s : Shared) (σ : L2.St) (H : Hp) (R : L2.It → Hp → Prop), Inv X pins σ H s → wi σ H R →
    wpAny (model X.prog X.w) X.A (eval iter X.env) (fun v s1 => wpAny (model X.prog X.w) X.A (pyIter v) (PIEN X pins σ tg R) X.xe s1) X.xe s
def iSeqN (K : PySem.W.Frag) (tl : TE) : TI := fun σ H R => tl σ H fun x H1 => ∃ a, x = .ref a ∧ (∃ xs, SqL K H1 a xs) ∧ R (ItlN K a) H1
section
variable {X : Cx}
theorem pi_seqN {tg l : Expr} {tl : TE} (hl : PE X l tl) : PIN X tg l (iSeqN X.K tl) := by
  refine ⟨fun pins s σ H R I h => ?_⟩
  refine thn (hl.run pins s σ H _ I h) fun v s1 ⟨x, H1, I1, r1, q1⟩ => ?_
  obtain ⟨a, e, ⟨xs, hq⟩, q⟩ := q1
  subst e
  cases r1
  obtain ⟨its, rv, p, hz⟩ := I1.list hq
  refine wpAny_pyIter_list p.isList ?_
  refine ⟨s1.heap.objs.size, [s1.heap.objs.size], _, _, H1, rfl, I1.kept (t' := s1.toks) fun b o e => Heap.get?_push_of_some _ e, turn_listN a _, ⟨_, Heap.get?_push_size _ rfl, rfl, rfl⟩, fun b hb => ?_, q⟩
  have e : b = s1.heap.objs.size := by simpa using hb
  subst e
  exact I1.fpOk (Nat.le_refl _) (I1.hok.fresh (Nat.le_refl _))
theorem ps_forN {tg iter : Expr} {body : List Stmt} {wi : TI} {g : TG} {tb : TS} {pos : Pos} (hp : PassesOwn (model X.prog X.w) X.A X.env X.xe) (hi : PIN X tg iter wi) (hg : PG X tg g) (hb : PSs X body tb)
    (hs : ∀ x, foldedSetIterable iter X.env x = pure x) : PS X (.For tg iter body [] pos) (tFor wi g tb) := by
  refine ⟨fun pins s σ H D I h => ?_⟩
  refine wpAny_For (thn (hi.run pins s σ H _ I h) fun v s1 h1 => thn h1 fun itv s2 h2 => ?_) hs
  obtain ⟨it, fp, tn, J, H2, e, I2, T, st2, f2, W, ⟨m0, w0⟩, turn⟩ := h2
  subst e
  have stat : ∀ {H' : Hp}, (∀ b ∈ fp, H' b = none) → ∀ b ∈ fp, FpOk X pins H' b := fun hn b hb => ⟨hn b hb, (f2 b hb).2⟩
  refine codeAny_forLoop_any (fun n s' => ∃ i σ' H', Inv X pins σ' H' s' ∧ tn i s'.heap ∧ (∀ b ∈ fp, H' b = none) ∧ W i n σ' H') ?_ m0 ⟨0, σ, H2, I2, st2, fun b hb => (f2 b hb).1, w0⟩
  rintro n s3 ⟨i, σ3, H3, I3, st3, fr3, w3⟩
  rcases turn i n σ3 H3 w3 with ⟨stop, qn⟩ | ⟨go, N, hN, step⟩
  · exact absurd stop (T.never _ _)
  · refine wpAny_passesOwn hp (thn (T.item X rfl rfl rfl i pins s3 σ3 H3 X.xe I3 (stat fr3) st3 go) fun r s4 ⟨u, hr, h4⟩ => ?_)
    subst hr
    refine wpAny_passesOwn hp (thn h4 fun _ s5 ⟨x, H5, I5, r5, y5, st5, fr5⟩ => ?_)
    have I5' := I5.pinned (stat fr5) (T.obj _ _ st5)
    refine wpAny_passesOwn hp (thn (hg.run _ s5 σ3 H5 x u _ I5' r5 (step x H5 y5)) fun _ s6 ⟨σ6, H6, I6, q6⟩ => ?_)
    refine wpAny_passesOwn hp (thn (hb.run _ s6 σ6 H6 _ I6 q6) fun f s7 q7 => ?_)
    have again : ∀ {σ7 : L2.St} {H7 : Hp}, Inv X (pins ++ pinsAt fp s5.heap) σ7 H7 s7 → N σ7 H7 → ∃ m, m < n ∧ ∃ i σ' H', Inv X pins σ' H' s7 ∧ tn i s7.heap ∧ (∀ b ∈ fp, H' b = none) ∧ W i m σ' H' := fun {σ7 H7} I7 n7 => by
      obtain ⟨m', hm, w7⟩ := hN σ7 H7 n7
      refine ⟨m', hm, i + 1, σ7, H7, I7.unpinned, T.keep _ _ _ st5 fun b hb o e => (I7.pin (b, o) (List.mem_append_right _ (List.mem_append_right _ (mem_pinsAt hb e)))).1, fun b hb => ?_, w7⟩
      obtain ⟨o, e, d⟩ := T.obj _ _ st5 b hb
      exact (I7.pin (b, o) (List.mem_append_right _ (List.mem_append_right _ (mem_pinsAt hb e)))).2.1
    cases f with
    | next => obtain ⟨σ7, H7, I7, n7⟩ := q7; exact again I7 n7
    | cont => obtain ⟨σ7, H7, I7, n7⟩ := q7; exact again I7 n7
    | brk => obtain ⟨σ7, H7, I7, q7⟩ := q7; exact ⟨σ7, H7, I7.unpinned, q7⟩
    | ret v => obtain ⟨x7, σ7, H7, I7, r7, q7⟩ := q7; exact ⟨x7, σ7, H7, I7.unpinned, r7, q7⟩
end
section
variable {B : Bd} {C : Call} {W : WX} {X : Cx} {pos : Pos}
variable {T T' : Tm} {g g' : G} {r r' : Rho} {H H' : Hp} {σ σ' : L2.St}
theorem wk_lst (R : RR B T g r H σ) {src : Src} {xs : List D} {v : V} (h : RCv B T H (.seq false xs) v) (hr : RSr B T H σ (src, .seq false xs) v) :
    ∃ a vs, v = .ref a ∧ SqL B.K H a vs ∧ Wk B T H (wsOf src xs) xs (Itl B.K a) := by
  obtain ⟨a, vs, e, f, rs⟩ := h
  refine ⟨a, vs, e, f, fun T' g' r' H' σ' x' R' hs i => ?_⟩
  obtain ⟨vs', sq, rs'⟩ := src_list R e f rs hr x' R' hs
  refine ⟨fun hl => ⟨vs', sq, by rw [rs'.length]; exact hl⟩, fun d hd => ?_⟩
  obtain ⟨w, h1, h2⟩ := rs'.get hd
  refine ⟨⟨vs', w, sq, h1⟩, fun x H'' y => ?_⟩
  obtain ⟨rfl, f'⟩ := y
  have := f' vs' sq
  rw [h1] at this
  cases this
  exact ⟨T', Ext.refl T', R', Same.refl _, h2⟩
theorem s_forN {tg iter : Expr} {b : List Stmt} {t : Tg} {p : Pl} {sb : Ss} (hK : X.K = B.K) (hp : PassesOwn (model X.prog X.w) X.A X.env X.xe) (hi : PE X iter (tP B C W p)) (hg : PG X tg (gTg X.K t)) (hb : PSs X b (tSs B C W sb))
    (hs : ∀ x, foldedSetIterable iter X.env x = pure x) : PS X (.For tg iter b [] pos) (tS B C W (.forh t p sb)) := by
  refine PS.imp (ps_forN hp (pi_seqN hi) hg hb hs) fun D σ H ⟨T, g, r, K, R, hw, hq⟩ => ?_
  refine ⟨T, g, r, fun q g1 => (match q.2 with
      | .seq false xs => q.1 = .no ∧ wForN t (fun r g K => wSs B.P C sb r g K) xs r g1 K
      | _ => False), _, R, hw, fun q g1 T1 H1 v x1 R1 ⟨rv, rs⟩ _ hk => ?_, fun c g1 T1 H1 x1 R1 hk => hq (.exc c) r g1 T1 H1 σ x1 R1 hk⟩
  obtain ⟨src, c⟩ := q
  have inv : ∃ xs, c = .seq false xs ∧ src = .no ∧ wForN t (fun r g K => wSs B.P C sb r g K) xs r g1 K := by
    dsimp only at hk
    split at hk
    · exact ⟨_, rfl, hk⟩
    · exact hk.elim
  clear hk
  obtain ⟨xs, rfl, rfl, hk⟩ := inv
  obtain ⟨a, vs, rfl, sq, wk⟩ := wk_lst R1 rv rs
  rw [hK]
  refine ⟨a, rfl, ⟨vs, sq⟩, ?_⟩
  let Iv : Nat → L2.St → Hp → Prop := fun i σ H => ∃ T2 g2 r2, Ext T1 T2 ∧ RR B T2 g2 r2 H σ ∧ wForN t (fun r g K => wSs B.P C sb r g K) (xs.drop i) r2 g2 K
  refine ⟨fun i m σ H => m = xs.length - i ∧ i ≤ xs.length ∧ Iv i σ H, ⟨_, rfl, Nat.zero_le _, T1, g1, r, Ext.refl T1, R1, hk⟩, ?_⟩
  rintro i m σ2 H2 ⟨rfl, hi, T2, g2, r2, x2, R2, hw2⟩
  have step := wk T2 g2 r2 H2 σ2 x2 R2 (.inr ⟨True.intro, rfl⟩) i
  by_cases lt : i < xs.length
  · refine .inr ?_
    have hd : xs[i]? = some xs[i] := by simp [lt]
    obtain ⟨go, yl⟩ := step.2 _ hd
    refine ⟨go, Iv (i + 1), fun σ' H' h => ⟨xs.length - (i + 1), by omega, rfl, lt, h⟩, fun x H3 y => ?_⟩
    obtain ⟨T3, x3, R3, s3, rx⟩ := yl x H3 y
    rw [List.drop_eq_getElem_cons lt] at hw2
    unfold wForN at hw2
    split at hw2
    · exact hw2.elim
    rename_i r1 hb
    refine gTg_ok R3 rx hb fun σ4 R4 _ => ?_
    refine ⟨T3, g2, r1, _, R4, hw2, fun o r5 g5 T5 H5 σ5 x5 R5 hk => ?_⟩
    have X5 := (x2.trans x3).trans x5
    cases o with
    | nx => exact ⟨T5, g5, r5, X5, R5, hk⟩
    | cnt => exact ⟨T5, g5, r5, X5, R5, hk⟩
    | brk => exact hq .nx r5 g5 T5 H5 σ5 (x1.trans X5) R5 hk
    | ret d => exact hq (.ret d) r5 g5 T5 H5 σ5 (x1.trans X5) R5 hk
    | exc c => exact hq (.exc c) r5 g5 T5 H5 σ5 (x1.trans X5) R5 hk
  · rw [List.drop_eq_nil_of_le (Nat.le_of_not_lt lt)] at hw2
    exact hw2.elim
end
end Vb

set_option maxHeartbeats 2000000
/-! The plain layer: dicts. -/
namespace Vb
open PySem L2
variable {B : Bd} {C : Call} {W : WX} {X : Cx} {pos : Pos} {n : Nms}
variable {T T' : Tm} {g g' : G} {r r' : Rho} {H H' : Hp} {σ σ' : St}
/-! ### keys -/
mutual
theorem nk_inj : ∀ {x y : D}, x.keyN = true → y.keyN = true → nk x = nk y → x = y
  | .non, y, _, hy, e => by
    cases y with
    | seq t ys => cases t <;> simp [nk, D.keyN] at e hy
    | _ => simp_all [nk, D.keyN]
  | .int i, y, _, hy, e => by
    cases y with
    | seq t ys => cases t <;> simp [nk, D.keyN] at e hy
    | _ => simp_all [nk, D.keyN]
  | .str i, y, _, hy, e => by
    cases y with
    | seq t ys => cases t <;> simp [nk, D.keyN] at e hy
    | _ => simp_all [nk, D.keyN]
  | .seq true xs, y, hx, hy, e => by
    cases y with
    | seq t ys =>
      cases t with
      | true =>
        simp only [nk, NestedKey.tup.injEq] at e
        rw [nks_inj (by simpa [D.keyN] using hx) (by simpa [D.keyN] using hy) e]
      | false => simp [D.keyN] at hy
    | _ => simp [nk] at e
  | .seq false xs, y, hx, _, _ => by simp [D.keyN] at hx
  | .bl _, y, hx, _, _ => by simp [D.keyN] at hx
  | .ref _, y, hx, _, _ => by simp [D.keyN] at hx
  | .giv _, y, hx, _, _ => by simp [D.keyN] at hx
theorem nks_inj : ∀ {xs ys : List D}, D.keyNs xs = true → D.keyNs ys = true → nks xs = nks ys → xs = ys
  | [], [], _, _, _ => rfl
  | [], _ :: _, _, _, e => by simp [nks] at e
  | _ :: _, [], _, _, e => by simp [nks] at e
  | x :: xs, y :: ys, hx, hy, e => by
    simp only [D.keyNs, Bool.and_eq_true] at hx hy
    simp only [nks, List.cons.injEq] at e
    rw [nk_inj hx.1 hy.1 e.1, nks_inj hx.2 hy.2 e.2]
end
mutual
theorem nk_dep : ∀ (x : D), (nk x).depth ≤ x.dep
  | .non => by simp [nk, NestedKey.depth]
  | .int i => by simp [nk, NestedKey.depth]
  | .str i => by simp [nk, NestedKey.depth]
  | .seq t xs => by
    have := nks_dep xs
    simp only [nk, NestedKey.depth, D.dep]
    omega
  | .bl _ => by simp [nk, NestedKey.depth]
  | .ref _ => by simp [nk, NestedKey.depth]
  | .giv _ => by simp [nk, NestedKey.depth]
theorem nks_dep : ∀ (x : List D), NestedKey.depthAll (nks x) ≤ D.deps x
  | [] => by simp [nks, NestedKey.depthAll]
  | x :: xs => by
    have h1 := nk_dep x
    have h2 := nks_dep xs
    simp only [nks, NestedKey.depthAll, D.deps]
    omega
end
theorem keyT_inv {x : D} (h : x.keyT = true) : ∃ xs, x = .seq true xs ∧ D.keyNs xs = true ∧ D.deps xs ≤ 7 := by
  cases x with
  | seq t xs =>
    cases t with
    | true =>
      obtain ⟨h1, h2⟩ := ands (show (D.keyNs xs && decide (D.deps xs ≤ 7)) = true from h)
      exact ⟨xs, rfl, h1, of_decide_eq_true h2⟩
    | false => cases h
  | _ => cases h
theorem keyT_N {x : D} (h : x.keyT = true) : x.keyN = true := by
  obtain ⟨xs, rfl, h1, _⟩ := keyT_inv h
  exact h1
theorem keyT_dep {x : D} (h : x.keyT = true) : (nk x).depth ≤ 8 := by
  obtain ⟨xs, rfl, h1, h2⟩ := keyT_inv h
  have := nk_dep (.seq true xs)
  simp only [D.dep] at this
  omega
mutual
theorem nk_is {pins : List (Addr × Obj)} {s : Shared} (hK : X.K = B.K) (I : Inv X pins σ' H s) (R : RR B T g r H σ) : ∀ (d : D) (v : V) (u : Value), d.keyN = true → RD B T d v → RelV v u → NestedIs s.heap (nk d) u
  | .non, v, u, _, h, q => by
    rw [show v = V.non from h] at q
    cases q
    exact .none
  | .int i, v, u, _, h, q => by
    rw [show v = V.int i from h] at q
    obtain ⟨t, rfl⟩ := q
    exact .int i t
  | .str i, v, u, _, h, q => by
    rw [show v = V.str i from h] at q
    obtain ⟨t, rfl⟩ := q
    exact .text i t
  | .seq true xs, v, u, hx, h, q => by
    obtain ⟨a, vs, rfl, f, rs⟩ := h
    cases q
    obtain ⟨its, rv, ht, _⟩ := I.tuple (hK ▸ R.fzT f : SqT X.K H a vs)
    obtain ⟨o, h1, h2, n, h3⟩ := ht
    exact .tup h1 h2 h3 (nks_is hK I R xs vs its (by simpa [D.keyN] using hx) rs rv)
  | .seq false xs, _, _, hx, _, _ => by simp [D.keyN] at hx
  | .bl _, _, _, hx, _, _ => by simp [D.keyN] at hx
  | .ref _, _, _, hx, _, _ => by simp [D.keyN] at hx
  | .giv _, _, _, hx, _, _ => by simp [D.keyN] at hx
theorem nks_is {pins : List (Addr × Obj)} {s : Shared} (hK : X.K = B.K) (I : Inv X pins σ' H s) (R : RR B T g r H σ) : ∀ (ds : List D) (vs : List V) (us : List Value), D.keyNs ds = true → RDs B T ds vs → Vals vs us → NestedAll s.heap (nks ds) us
  | [], vs, us, _, h, q => by
    rw [show vs = [] from h] at q
    cases q
    exact .nil
  | d :: ds, vs, us, hx, h, q => by
    obtain ⟨y, ys, rfl, h1, h2⟩ := h
    simp only [D.keyNs, Bool.and_eq_true] at hx
    cases q with
    | cons q1 q2 => exact .cons (nk_is hK I R d y _ hx.1 h1 q1) (nks_is hK I R ds ys _ hx.2 h2 q2)
end
/-! ### what a dict is -/
theorem kF_keyF (k : Key) : (kF k).keyF = true := by cases k <;> rfl
theorem kF_keyT (k : Key) : (kF k).keyT = false := by cases k <;> rfl
theorem keyF_kF {d : D} (h : d.keyF = true) : ∃ k, d = kF k := by
  cases d with
  | int i => exact ⟨.inl i, rfl⟩
  | str x => exact ⟨.inr x, rfl⟩
  | _ => cases h
theorem keyF_T {d : D} (h : d.keyF = true) : d.keyT = false := by
  obtain ⟨k, rfl⟩ := keyF_kF h
  exact kF_keyT k
theorem kF_inj {a b : Key} (h : kF a = kF b) : a = b := by
  cases a <;> cases b <;> simp_all [kF]
theorem kF_v {k : Key} {v : V} (h : RD B T (kF k) v) : v = kV k := by cases k <;> exact h
theorem dGet_nil {k : D} : dGet [] k = none := rfl
theorem dGet_cons {p : D × D} {kvs : List (D × D)} {k : D} : dGet (p :: kvs) k = if p.1 = k then some p.2 else dGet kvs k := by
  unfold dGet
  rw [List.find?_cons]
  by_cases h : p.1 = k
  · simp [h]
  · simp [h]
theorem dGet_any {kvs : List (D × D)} {k : D} : (kvs.any fun p => decide (p.1 = k)) = (dGet kvs k).isSome := by
  induction kvs with
  | nil => rfl
  | cons p kvs ih =>
    rw [List.any_cons, dGet_cons, ih]
    by_cases h : p.1 = k <;> simp [h]
def RO (B : Bd) (T : Tm) : Option D → Option V → Prop
  | some d, some v => RD B T d v
  | none, none => True
  | _, _ => False
theorem RO.isSome {d : Option D} {v : Option V} (h : RO B T d v) : d.isSome = v.isSome := by
  cases d <;> cases v <;> first | rfl | exact h.elim
theorem RO.getD {d : Option D} {v : Option V} {z : D} {u : V} (h : RO B T d v) (q : RD B T z u) : RD B T (d.getD z) (v.getD u) := by
  cases d <;> cases v <;> first | exact q | exact h | exact h.elim
theorem kf_val {kvs : List (D × D)} {ks : List (Key × V)} (h : Paired (KfR B T) kvs ks) (k : Key) : RO B T (dGet kvs (kF k)) (valV ks k) := by
  induction h with
  | nil => exact True.intro
  | @cons p q ps qs h1 _ ih =>
    rw [dGet_cons]
    by_cases e : q.1 = k
    · rw [valV_pos e, if_pos (by rw [h1.1, e])]
      exact h1.2
    · rw [valV_neg e, if_neg (by rw [h1.1]; exact fun z => e (kF_inj z))]
      exact ih
theorem paired_snoc {α β : Type} {F : α → β → Prop} : ∀ {l : List α} {m : List β} {a : α} {b : β}, Paired F l m → F a b → Paired F (l ++ [a]) (m ++ [b])
  | _, _, _, _, .nil, h => .cons h .nil
  | _, _, _, _, .cons q t, h => .cons q (paired_snoc t h)
theorem kf_put {kvs : List (D × D)} {ks : List (Key × V)} (h : Paired (KfR B T) kvs ks) (k : Key) {d : D} {v : V} (hv : RD B T d v) : Paired (KfR B T) (dPut kvs (kF k) d) (putK ks k v) := by
  have hm : Paired (KfR B T) (kvs.map fun p => if p.1 = kF k then (p.1, d) else p) (ks.map fun p => if p.1 = k then (p.1, v) else p) := by
    induction h with
    | nil => exact .nil
    | @cons p q ps qs h1 _ ih =>
      rw [List.map_cons, List.map_cons]
      refine .cons ?_ ih
      by_cases e : q.1 = k
      · rw [if_pos e, if_pos (by rw [h1.1, e])]
        exact ⟨h1.1, hv⟩
      · rw [if_neg e, if_neg (by rw [h1.1]; exact fun z => e (kF_inj z))]
        exact h1
  unfold dPut putK
  rw [dGet_any, valV_any, (kf_val h k).isSome]
  by_cases e : (valV ks k).isSome = true
  · rw [if_pos e, if_pos e]
    exact hm
  · rw [if_neg e, if_neg e]
    exact paired_snoc h ⟨rfl, hv⟩
theorem kf_drop {kvs : List (D × D)} {ks : List (Key × V)} (h : Paired (KfR B T) kvs ks) (k : Key) : Paired (KfR B T) (dDel kvs (kF k)) (dropK ks k) := by
  unfold dDel dropK
  induction h with
  | nil => exact .nil
  | @cons p q ps qs h1 _ ih =>
    rw [List.filter_cons, List.filter_cons]
    by_cases e : q.1 = k
    · have e' : p.1 = kF k := by rw [h1.1, e]
      rw [if_neg (by simp [e']), if_neg (by simp [e])]
      exact ih
    · have e' : ¬ p.1 = kF k := by rw [h1.1]; exact fun z => e (kF_inj z)
      rw [if_pos (by simp [e']), if_pos (by simp [e])]
      exact .cons h1 ih
theorem paired_all {α β : Type} {F : α → β → Prop} {l : List α} {m : List β} (h : Paired F l m) {p : α → Bool} (q : ∀ a b, F a b → p a = true) : l.all p = true := by
  induction h with
  | nil => rfl
  | cons h1 _ ih => rw [List.all_cons, q _ _ h1, ih]; rfl
/-- the two kinds, by the key -/
theorem keys_kind {kvs : List (D × D)} {d : D} (h : keysOk kvs d = true) : (d.keyF = true ∧ (kvs.all fun p => p.1.keyF) = true) ∨ (d.keyT = true ∧ (kvs.all fun p => p.1.keyT) = true) := by
  unfold keysOk at h
  rcases Bool.or_eq_true_iff.mp h with h | h
  · exact .inl (ands h)
  · exact .inr (ands h)
theorem kt_none {kvs : List (D × D)} {xs : List (NestedKey × Addr × V)} (h : Paired (KtR B T) kvs xs) (q : (kvs.all fun p => p.1.keyF) = true) : kvs = [] ∧ xs = [] := by
  cases h with
  | nil => exact ⟨rfl, rfl⟩
  | cons h1 _ =>
    rw [List.all_cons] at q
    have := keyF_T (ands q).1
    rw [h1.1] at this
    cases this
theorem kf_none {kvs : List (D × D)} {ks : List (Key × V)} (h : Paired (KfR B T) kvs ks) (q : (kvs.all fun p => p.1.keyT) = true) : kvs = [] ∧ ks = [] := by
  cases h with
  | nil => exact ⟨rfl, rfl⟩
  | cons h1 _ =>
    rw [List.all_cons] at q
    have := (ands q).1
    rw [h1.1, kF_keyT] at this
    cases this
/-! ### tuples for keys -/
def DXr (x : NestedKey × Addr × V) (y : NestedKey × Addr × Value) : Prop := x.1 = y.1 ∧ x.2.1 = y.2.1 ∧ RelV x.2.2 y.2.2
def KtV (B : Bd) (T : Tm) (p : D × D) (y : NestedKey × Addr × Value) : Prop := p.1.keyT = true ∧ y.1 = nk p.1 ∧ RD B T p.1 (.ref y.2.1) ∧ ∃ v, RD B T p.2 v ∧ RelV v y.2.2
theorem kt_join {kvs : List (D × D)} {xs : List (NestedKey × Addr × V)} (h : Paired (KtR B T) kvs xs) : ∀ {ys : List (NestedKey × Addr × Value)}, Paired DXr xs ys → Paired (KtV B T) kvs ys := by
  induction h with
  | nil =>
    intro ys q
    cases q
    exact .nil
  | cons h1 _ ih =>
    intro ys q
    cases q with
    | cons q1 q2 => exact .cons ⟨h1.1, q1.1.symm.trans h1.2.1, q1.2.1 ▸ h1.2.2.1, _, h1.2.2.2, q1.2.2⟩ (ih q2)
theorem kt_split {kvs : List (D × D)} {ys : List (NestedKey × Addr × Value)} (h : Paired (KtV B T) kvs ys) : ∃ xs, Paired (KtR B T) kvs xs ∧ Paired DXr xs ys := by
  induction h with
  | nil => exact ⟨[], .nil, .nil⟩
  | @cons p y ps ys h1 _ ih =>
    obtain ⟨xs, i1, i2⟩ := ih
    obtain ⟨v, v1, v2⟩ := h1.2.2.2
    exact ⟨(y.1, y.2.1, v) :: xs, .cons ⟨h1.1, h1.2.1, h1.2.2.1, v1⟩ i1, .cons ⟨rfl, rfl, v2⟩ i2⟩
theorem at_cons {y : NestedKey × Addr × Value} {ys : List (NestedKey × Addr × Value)} {k : NestedKey} : atKey (y :: ys) k = if y.1 = k then some y.2 else atKey ys k := by
  unfold atKey
  rw [List.find?_cons]
  by_cases h : y.1 = k <;> simp [h]
theorem nk_iff {p d : D} (h1 : p.keyT = true) (h2 : d.keyT = true) : nk p = nk d ↔ p = d := ⟨nk_inj (keyT_N h1) (keyT_N h2), fun e => by rw [e]⟩
theorem kt_val {kvs : List (D × D)} {ys : List (NestedKey × Addr × Value)} (h : Paired (KtV B T) kvs ys) {d : D} (hd : d.keyT = true) : ∃ vo : Option V, RO B T (dGet kvs d) vo ∧ RelO vo ((atKey ys (nk d)).map (·.2)) := by
  induction h with
  | nil => exact ⟨none, True.intro, True.intro⟩
  | @cons p y ps ys h1 _ ih =>
    rw [dGet_cons, at_cons]
    by_cases e : p.1 = d
    · rw [if_pos e, if_pos (by rw [h1.2.1, e])]
      obtain ⟨v, v1, v2⟩ := h1.2.2.2
      exact ⟨some v, v1, v2⟩
    · rw [if_neg e, if_neg (by rw [h1.2.1, nk_iff h1.1 hd]; exact e)]
      exact ih
theorem kt_put {kvs : List (D × D)} {ys : List (NestedKey × Addr × Value)} (h : Paired (KtV B T) kvs ys) {d : D} (hd : d.keyT = true) {b : Addr} (hb : RD B T d (.ref b)) {z : D} {v : V} {w : Value} (hz : RD B T z v) (hv : RelV v w) : Paired (KtV B T) (dPut kvs d z) (storedH ys (nk d) b w) := by
  have hm : Paired (KtV B T) (kvs.map fun p => if p.1 = d then (p.1, z) else p) (ys.map (putAt (nk d) w)) := by
    clear hb
    induction h with
    | nil => exact .nil
    | @cons p y ps ys h1 _ ih =>
      rw [List.map_cons, List.map_cons]
      refine .cons ?_ ih
      unfold putAt
      by_cases e : p.1 = d
      · rw [if_pos e, if_pos (by rw [h1.2.1, e])]
        exact ⟨h1.1, h1.2.1, h1.2.2.1, v, hz, hv⟩
      · rw [if_neg e, if_neg (by rw [h1.2.1, nk_iff h1.1 hd]; exact e)]
        exact h1
  obtain ⟨vo, q1, q2⟩ := kt_val h hd
  have e0 : (atKey ys (nk d)).isSome = (dGet kvs d).isSome := by
    rw [q1.isSome]
    cases vo <;> cases ea : atKey ys (nk d) <;> simp [ea] at q2 ⊢ <;> exact q2.elim
  unfold dPut storedH
  rw [dGet_any, e0]
  by_cases e : (dGet kvs d).isSome = true
  · rw [if_pos e, if_pos e]
    exact hm
  · rw [if_neg e, if_neg e]
    exact paired_snoc h ⟨hd, rfl, hb, v, hz, hv⟩
theorem kt_drop {kvs : List (D × D)} {ys : List (NestedKey × Addr × Value)} (h : Paired (KtV B T) kvs ys) {d : D} (hd : d.keyT = true) : Paired (KtV B T) (dDel kvs d) (withoutH ys (nk d)) := by
  unfold dDel withoutH
  induction h with
  | nil => exact .nil
  | @cons p y ps ys h1 _ ih =>
    rw [List.filter_cons, List.filter_cons]
    by_cases e : p.1 = d
    · have e' : y.1 = nk d := by rw [h1.2.1, e]
      rw [if_neg (by simp [e]), if_neg (by simp [e'])]
      exact ih
    · have e' : ¬ y.1 = nk d := by rw [h1.2.1, nk_iff h1.1 hd]; exact e
      rw [if_pos (by simp [e]), if_pos (by simp [e'])]
      exact .cons h1 ih
theorem dDel_len {kvs : List (D × D)} {d : D} : (dDel kvs d).length ≤ kvs.length := List.length_filter_le _ _
theorem dPut_len {kvs : List (D × D)} {d z : D} : (dPut kvs d z).length ≤ kvs.length + 1 := by
  unfold dPut
  split
  · simp
  · simp
/-! ### a dict as the library's -/
/-- the dict at a: its keys are numbers and texts, or tuples -/
inductive DV (P : Program) (w : World) (B : Bd) (T : Tm) (h : Heap) (a : Addr) (kvs : List (D × D)) (d : D) (u : Value) : Prop where
  | flat (k : Key) (ks : List (Key × V)) (vs : List (Key × Value)) (e : d = kF k) (ru : RelV (kV k) u) (p : Paired (KfR B T) kvs ks) (kv : KV ks vs) (hd : h.DictOf (mixKind P w) a vs) : DV P w B T h a kvs d u
  | tup (b : Addr) (ys : List (NestedKey × Addr × Value)) (e : u = .ref b) (hk : d.keyT = true) (rb : RD B T d (.ref b)) (ib : (nestedKind P w).is h (nk d) b) (p : Paired (KtV B T) kvs ys) (hd : h.DictOfH (nestedKind P w) a ys) : DV P w B T h a kvs d u
theorem At.ok {a : Addr} {u : HO} {P : Program} {w : World} {h : Heap} (x : At B H a u) (ok : HOk P w H h) : ObjOk P w H h a u := by
  rcases x with ⟨_, x⟩ | ⟨_, o, x⟩
  · exact ok a u x
  · exact (ok a _ x).2
theorem AtR.ok {a : Addr} {u : HO} {P : Program} {w : World} {h : Heap} (x : AtR H a u) (ok : HOk P w H h) : ObjOk P w H h a u := by
  rcases x with x | ⟨o, x⟩
  · exact ok a u x
  · exact (ok a _ x).2
theorem no_pairs {K : Type} [DecidableEq K] {P : Program} {w : World} {knd : PySem.KeyKind P w K} {es : Array DictEntry} (h : PySem.Pairs knd es.toList []) : es = #[] := by
  cases es with
  | mk l =>
    cases h
    rfl
theorem kt_is {pins : List (Addr × Obj)} {s : Shared} (hK : X.K = B.K) (I : Inv X pins σ' H s) (R : RR B T g r H σ) {kvs : List (D × D)} {ys : List (NestedKey × Addr × Value)} (h : Paired (KtV B T) kvs ys) : ∀ y ∈ ys, (nestedKind X.prog X.w).is s.heap y.1 y.2.1 := by
  induction h with
  | nil => intro y hy; cases hy
  | cons w1 _ ih =>
    intro y' hy
    rcases List.mem_cons.mp hy with e | hy
    · subst e
      exact ⟨w1.2.1 ▸ nk_is hK I R _ _ _ (keyT_N w1.1) w1.2.2.1 rfl, w1.2.1 ▸ keyT_dep w1.1⟩
    · exact ih y' hy
theorem dv_of {pins : List (Addr × Obj)} {s : Shared} (ob : OnB B X) (I : Inv X pins σ' H s) (R : RR B T g r H σ) {a : Addr} {kvs : List (D × D)} (h : RDr B T H a kvs) {d : D} {y : V} {u : Value} (ok : keysOk kvs d = true) (ry : RD B T d y) (ru : RelV y u) :
    DV X.prog X.w B T s.heap a kvs d u ∧ kvs.length ≤ sizeLine ∧ (a == sysModules) = false := by
  have eP := ob.prog
  have ew := ob.w
  obtain ⟨u0, q1, ⟨ks, rfl, q2⟩ | ⟨xs, _, rfl, q2⟩⟩ := h
  · obtain ⟨z, hs, vs, kv, dd⟩ := (show ObjOk X.prog X.w H s.heap a (.dK ks) from q1.ok I.hok)
    refine ⟨?_, by rw [Paired.length q2]; exact z, hs⟩
    rcases keys_kind ok with ⟨k1, k2⟩ | ⟨k1, k2⟩
    · obtain ⟨k, rfl⟩ := keyF_kF k1
      exact .flat k ks vs rfl (by rw [← kF_v ry]; exact ru) q2 kv dd
    · obtain ⟨rfl, rfl⟩ := kf_none q2 k2
      cases kv
      obtain ⟨xs, rfl, _, _⟩ := keyT_inv k1
      obtain ⟨b, vs', rfl, f, rs⟩ := id ry
      cases ru
      obtain ⟨o, es, ep, h1, h2, h3, h4, h5, h6⟩ := dd
      have e := no_pairs h5
      subst e
      exact .tup b [] rfl k1 ry ⟨nk_is ob.K I R _ _ _ (keyT_N k1) ry rfl, keyT_dep k1⟩ .nil ⟨o, _, ep, h1, h2, h3, rfl, fun x hx => (by cases hx), List.nodup_nil⟩
  · obtain ⟨⟨z, hs, ys, py, o, es, ep, h1, h2, h3, h4, h5⟩, _, _⟩ := (show ObjOk X.prog X.w H s.heap a (.ext (DXo B.prog B.w a xs)) from q1.ok I.hok)
    refine ⟨?_, by rw [Paired.length q2]; exact z, hs⟩
    rw [← eP, ← ew] at h4
    have pv := kt_join q2 py
    have his := kt_is ob.K I R pv
    rcases keys_kind ok with ⟨k1, k2⟩ | ⟨k1, k2⟩
    · obtain ⟨rfl, rfl⟩ := kt_none q2 k2
      cases py
      obtain ⟨k, rfl⟩ := keyF_kF k1
      have e : es = #[] := by
        cases es with
        | mk l =>
          have h4 : l = [] := h4
          rw [h4]
      subst e
      exact .flat k [] [] rfl (by rw [← kF_v ry]; exact ru) .nil .nil ⟨o, _, ep, h1, h2, h3, (by intro e he; simp at he), .nil, List.nodup_nil⟩
    · obtain ⟨xs', rfl, _, _⟩ := keyT_inv k1
      obtain ⟨b, vs', rfl, f, rs⟩ := id ry
      cases ru
      exact .tup b ys rfl k1 ry ⟨nk_is ob.K I R _ _ _ (keyT_N k1) ry rfl, keyT_dep k1⟩ pv ⟨o, es, ep, h1, h2, h3, h4, his, h5⟩
/-! ### what is asked of a dict -/
section
variable {pins : List (Addr × Obj)} {s : Shared} {a : Addr} {kvs : List (D × D)} {d z : D} {y v : V} {u w : Value} {A : Around} {E : Value → Shared → Prop}
theorem room_in {A : Around} (h : A.units + 200 < cLine) : A.in1.units + 8 < cLine := by
  show A.units + 1 + 8 < cLine
  omega
theorem g_getItem {Q : Value → Shared → Prop} (hu : A.units + 200 < cLine) (I : Inv X pins σ H s) (dv : DV X.prog X.w B T s.heap a kvs d u) (hz : dGet kvs d = some z) (h : ∀ v w s', Inv X pins σ H s' → RD B T z v → RelV v w → Q w s') :
    wpAny (model X.prog X.w) A (getItem (.ref a) u) Q E s := by
  cases dv with
  | flat k ks vs e ru p kv hd =>
    subst e
    have q := kf_val p k
    rw [hz] at q
    cases ev : valV ks k with
    | none => rw [ev] at q; exact q.elim
    | some v =>
      rw [ev] at q
      obtain ⟨w', hw, rw'⟩ := RelO.some_of (v := v) (o := valueAt vs k) (by rw [← ev]; exact kv.val k)
      exact wpAny_getItem_of (kV_is ru) hd.mapOf hw (h v w' _ (I.tok _) q rw')
  | tup b ys e hk rb ib p hd =>
    subst e
    obtain ⟨vo, q1, q2⟩ := kt_val p hk
    rw [hz] at q1
    cases vo with
    | none => exact q1.elim
    | some v =>
      obtain ⟨w', hw, rw'⟩ := RelO.some_of (v := v) (o := (atKey ys (nk d)).map (·.2)) q2
      obtain ⟨pr, h1, h2⟩ := Option.map_eq_some_iff.mp hw
      refine wpAny_getItem_heap (room_in hu) ib hd h1 ?_
      rw [h2]
      exact h v w' _ (I.tok _) q1 rw'
theorem g_in {Q : Value → Shared → Prop} (neg : Bool) (hu : A.units + 200 < cLine) (I : Inv X pins σ H s) (hs : (a == sysModules) = false) (dv : DV X.prog X.w B T s.heap a kvs d u) (h : ∀ s', Inv X pins σ H s' → Q (.bool (neg != (dGet kvs d).isSome)) s') :
    wpAny (model X.prog X.w) A (compareOp (inOp neg) u (.ref a)) Q E s := by
  cases dv with
  | flat k ks vs e ru p kv hd =>
    subst e
    have q := (kf_val p k).isSome.trans (kv.val k).isSome_eq
    rw [q] at h
    cases neg with
    | false => exact wpAny_in_of (kV_is ru) hs hd.mapOf (by simpa using h _ (I.tok _))
    | true => exact wpAny_notIn_of (kV_is ru) hs hd.mapOf (by simpa using h _ (I.tok _))
  | tup b ys e hk rb ib p hd =>
    subst e
    obtain ⟨vo, q1, q2⟩ := kt_val p hk
    have q := q1.isSome.trans q2.isSome_eq
    rw [Option.isSome_map] at q
    rw [q] at h
    cases neg with
    | false => exact wpAny_in_heap (room_in hu) ib hs hd (by simpa using h _ (I.tok _))
    | true => exact PyProof.Rows.wpAny_notIn_heap (room_in hu) ib hs hd (by simpa using h _ (I.tok _))
theorem RO.both {o : Option D} {vo : Option V} {wo : Option Value} (h1 : RO B T o vo) (h2 : RelO vo wo) (hz : RD B T z v) (rz : RelV v w) : ∃ v', RD B T (o.getD z) v' ∧ RelV v' (wo.getD w) := by
  cases o <;> cases vo <;> cases wo <;> first | exact ⟨v, hz, rz⟩ | exact ⟨_, h1, h2⟩ | exact h1.elim | exact h2.elim
theorem g_get1 {Q : Value → Shared → Prop} (hu : A.units + 200 < cLine) (I : Inv X pins σ H s) (hs : (a == sysModules) = false) (dv : DV X.prog X.w B T s.heap a kvs d u) (h : ∀ v w s', Inv X pins σ H s' → RD B T ((dGet kvs d).getD .non) v → RelV v w → Q w s') :
    wpAny (model X.prog X.w) A (call (.builtin "dict.get") [.ref a, u]) Q E s := by
  cases dv with
  | flat k ks vs e ru p kv hd =>
    subst e
    obtain ⟨v', w1, w2⟩ := RO.both (z := .non) (v := .non) (w := .none) (kf_val p k) (kv.val k) rfl rfl
    exact call_meetsIn PySem.F.slot_dict_get hd.typeIs PySem.F.entry_dict_get (PySem.F.args_dict_get_2 _ _) (meets_dict_get (mixKind X.prog X.w) a (kV_is ru) hs) ⟨_, hd.mapOf, h _ _ _ (I.tok _) w1 w2⟩
  | tup b ys e hk rb ib p hd =>
    subst e
    obtain ⟨vo, q1, q2⟩ := kt_val p hk
    obtain ⟨v', w1, w2⟩ := RO.both (z := .non) (v := .non) (w := .none) q1 q2 rfl rfl
    exact call_meetsIn PySem.F.slot_dict_get hd.typeIs PySem.F.entry_dict_get (PySem.F.args_dict_get_2 _ _) (meetsH_dict_get (nestedKind X.prog X.w) a b hs) ⟨room_in hu, nk d, ys, ib, hd, h _ _ _ (I.tok _) w1 w2⟩
theorem g_get2 {Q : Value → Shared → Prop} (hu : A.units + 200 < cLine) (I : Inv X pins σ H s) (hs : (a == sysModules) = false) (dv : DV X.prog X.w B T s.heap a kvs d u) (hz : RD B T z v) (rz : RelV v w) (h : ∀ v w s', Inv X pins σ H s' → RD B T ((dGet kvs d).getD z) v → RelV v w → Q w s') :
    wpAny (model X.prog X.w) A (call (.builtin "dict.get") [.ref a, u, w]) Q E s := by
  cases dv with
  | flat k ks vs e ru p kv hd =>
    subst e
    obtain ⟨v', w1, w2⟩ := RO.both (kf_val p k) (kv.val k) hz rz
    exact call_meetsIn PySem.F.slot_dict_get hd.typeIs PySem.F.entry_dict_get (PySem.F.args_dict_get_3 _ _ _) (meets_dict_get_default (mixKind X.prog X.w) a (kV_is ru) hs w) ⟨_, hd.mapOf, h _ _ _ (I.tok _) w1 w2⟩
  | tup b ys e hk rb ib p hd =>
    subst e
    obtain ⟨vo, q1, q2⟩ := kt_val p hk
    obtain ⟨v', w1, w2⟩ := RO.both q1 q2 hz rz
    exact call_meetsIn PySem.F.slot_dict_get hd.typeIs PySem.F.entry_dict_get (PySem.F.args_dict_get_3 _ _ _) (meetsH_dict_get_default (nestedKind X.prog X.w) a b hs w) ⟨room_in hu, nk d, ys, ib, hd, h _ _ _ (I.tok _) w1 w2⟩
/-- the dict's new object -/
theorem g_new (I : Inv X pins σ H s) {h' : Heap} {tk : Nat} {o : HO} (he : ∃ q, h'.get? a = some q) (mu : Mut (H a)) (sb : Heap.SameBut a s.heap h') (ok : ObjOk X.prog X.w (upd H a o) h' a o) : Inv X pins σ (upd H a o) { s with heap := h', toks := tk } := by
  exact d_write I mu sb he ok
theorem ext_ok {h : Heap} {H : Hp} {kvs : List (D × D)} {ys : List (NestedKey × Addr × Value)} (ob : OnB B X) (p : Paired (KtV B T) kvs ys) (hl : kvs.length ≤ sizeLine) (hs : (a == sysModules) = false) (hd : h.DictOfH (nestedKind X.prog X.w) a ys) :
    ∃ xs, Paired (KtR B T) kvs xs ∧ ObjOk X.prog X.w H h a (.ext (DXo B.prog B.w a xs)) := by
  obtain ⟨xs, p1, p2⟩ := kt_split p
  obtain ⟨o, es, ep, h1, h2, h3, h4, h5, h6⟩ := hd
  rw [ob.prog, ob.w] at h4
  refine ⟨xs, p1, ⟨?_, hs, ys, p2, o, es, ep, h1, h2, h3, h4, h6⟩, ⟨o, h1⟩, ?_⟩
  · rw [← Paired.length p1]
    exact hl
  · rintro k1 k2 ⟨z1, z2, ys', z3, o', es', ep', w1, w2, w3, w4, w5⟩ st
    exact ⟨z1, z2, ys', z3, o', es', ep', st _ w1, w2, w3, w4, w5⟩
theorem dPut_ne {kvs : List (D × D)} {d z : D} : dPut kvs d z ≠ [] := by
  unfold dPut
  split
  · rename_i h
    intro e
    have e := List.map_eq_nil_iff.mp e
    rw [e] at h
    simp at h
  · intro e
    simp at e
/-- d[u] = w -/
theorem g_setItem {Q : Unit → Shared → Prop} (ob : OnB B X) (nl : B.lk = none) (hu : A.units + 200 < cLine) (I : Inv X pins σ H s) (hs : (a == sysModules) = false) (mu : Mut (H a)) (hl : kvs.length < lineN) (dv : DV X.prog X.w B T s.heap a kvs d u) (hz : RD B T z v) (rz : RelV v w)
    (h : ∀ o s', Inv X pins σ (upd H a o) s' → RDc B T (upd H a o) a (dPut kvs d z) → Q () s') : wpAny (model X.prog X.w) A (setItem (.ref a) u w) Q E s := by
  have hl2 : (dPut kvs d z).length ≤ sizeLine := Nat.le_trans dPut_len (line_lt hl)
  cases dv with
  | flat k ks vs e ru p kv hd =>
    subst e
    have e1 := Paired.length p
    have e2 : ks.length = vs.length := Paired.length kv
    refine wpAny_setItem_pairs (hsz := by rw [← e2, ← e1]; exact Nat.le_of_lt (line_lt hl)) (kV_is ru) hd fun h' dd' sb => ?_
    have p2 := kf_put p k hz
    exact h _ _ (g_new I (by obtain ⟨q, _, _, hq, _⟩ := id dd'; exact ⟨q, hq⟩) mu sb (dk_new (by rw [← Paired.length p2]; exact hl2) hs (kv.put k rz) dd')) (.inl ⟨_, .inl ⟨(by rw [nl]; exact fun z => nomatch z), upd_same⟩, p2⟩)
  | tup b ys e hk rb ib p hd =>
    subst e
    have e1 := Paired.length p
    refine wpAny_setItem_heap (hsz := by rw [← e1]; exact Nat.le_of_lt (line_lt hl)) (room_in hu) ib hd fun h' dd' sb => ?_
    have p2 := kt_put p hk rb hz rz
    obtain ⟨xs, p3, ok⟩ := ext_ok (H := upd H a (.ext (DXo B.prog B.w a (kt_split p2).choose))) ob p2 hl2 hs dd'
    obtain ⟨xs', p4, ok'⟩ := ext_ok (H := upd H a (.ext (DXo B.prog B.w a xs))) ob p2 hl2 hs dd'
    refine h (.ext (DXo B.prog B.w a xs)) _ (g_new I (by obtain ⟨q, _, _, hq, _⟩ := id dd'; exact ⟨q, hq⟩) mu sb ?_) (.inr ⟨xs, fun z => dPut_ne (List.length_eq_zero_iff.mp ((Paired.length p3).trans (by rw [z]; rfl))), .inl ⟨(by rw [nl]; exact fun z => nomatch z), upd_same⟩, p3⟩)
    exact ok
theorem g_delItem {Q : Unit → Shared → Prop} (ob : OnB B X) (nl : B.lk = none) (hu : A.units + 200 < cLine) (I : Inv X pins σ H s) (hs : (a == sysModules) = false) (mu : Mut (H a)) (hl : kvs.length ≤ sizeLine) (dv : DV X.prog X.w B T s.heap a kvs d u) (hz : (dGet kvs d).isSome = true)
    (h : ∀ o s', Inv X pins σ (upd H a o) s' → RDc B T (upd H a o) a (dDel kvs d) → Q () s') : wpAny (model X.prog X.w) A (delItem (.ref a) u) Q E s := by
  have hl2 : (dDel kvs d).length ≤ sizeLine := Nat.le_trans dDel_len hl
  cases dv with
  | flat k ks vs e ru p kv hd =>
    subst e
    have e1 := Paired.length p
    have e2 : ks.length = vs.length := Paired.length kv
    have q := (kf_val p k).isSome.trans (kv.val k).isSome_eq
    rw [q] at hz
    refine wpAny_delItem_slot hd.typeIs (by decide) PySem.F.slot_dict_delitem
      (call_meetsIn PySem.F.slot_dict_delitem hd.typeIs PySem.F.entry_dict_delitem (PySem.F.args_dict_delitem_2 _ _) (meets_dict_delitem_pairs (mixKind X.prog X.w) a (kV_is ru)) ⟨vs, hd, by rw [← e2, ← e1]; exact hl, hz, fun h' dd' sb => ?_⟩)
    have p2 := kf_drop p k
    exact h _ _ (g_new I (by obtain ⟨q, _, _, hq, _⟩ := id dd'; exact ⟨q, hq⟩) mu sb (dk_new (by rw [← Paired.length p2]; exact hl2) hs (kv.drop k) dd')) (.inl ⟨_, .inl ⟨(by rw [nl]; exact fun z => nomatch z), upd_same⟩, p2⟩)
  | tup b ys e hk rb ib p hd =>
    subst e
    have e1 := Paired.length p
    obtain ⟨vo, q1, q2⟩ := kt_val p hk
    have q := q1.isSome.trans q2.isSome_eq
    rw [Option.isSome_map] at q
    rw [q] at hz
    obtain ⟨pr, hp⟩ := Option.isSome_iff_exists.mp hz
    refine wpAny_delItem_heap (hsz := by rw [← e1]; exact hl) (room_in hu) ib hs hd hp fun h' dd' sb => ?_
    have p2 := kt_drop p hk
    obtain ⟨xs, p3, ok⟩ := ext_ok (H := H) ob p2 hl2 hs dd'
    by_cases e0 : xs = []
    · subst e0
      have e2 : dDel kvs d = [] := List.length_eq_zero_iff.mp ((Paired.length p3).trans rfl)
      have e3 : withoutH ys (nk d) = [] := List.length_eq_zero_iff.mp (by rw [← Paired.length p2, e2]; rfl)
      rw [e3] at dd'
      rw [e2] at hl2
      obtain ⟨o, es, ep, h1, h2, h3, h4, h5⟩ := id dd'
      have e : es = #[] := by
        cases es with
        | mk l =>
          have h4 : l = [] := h4
          rw [h4]
      subst e
      refine h (.dK []) _ (g_new I ⟨o, h1⟩ mu sb (dk_new hl2 hs .nil ⟨o, _, ep, h1, h2, h3, (by intro e he; simp at he), .nil, List.nodup_nil⟩)) ?_
      rw [e2]
      exact .inl ⟨[], .inl ⟨(by rw [nl]; exact fun z => nomatch z), upd_same⟩, .nil⟩
    · exact h (.ext (DXo B.prog B.w a xs)) _ (g_new I (by obtain ⟨q, _, _, hq, _⟩ := id dd'; exact ⟨q, hq⟩) mu sb ok) (.inr ⟨xs, e0, .inl ⟨(by rw [nl]; exact fun z => nomatch z), upd_same⟩, p3⟩)
end
end Vb

set_option maxHeartbeats 2000000
/-! The plain layer: dicts, what the text says. -/
namespace Vb
open PySem L2 PySem.Spec PyProof.Rows
variable {B : Bd} {C : Call} {W : WX} {X : Cx} {pos : Pos} {n : Nms}
variable {T T' : Tm} {g g' : G} {r r' : Rho} {H H' : Hp} {σ σ' : L2.St}
theorem DV.typeIs {P : Program} {w : World} {s : Shared} {a : Addr} {kvs : List (D × D)} {d : D} {u : Value} (h : DV P w B T s.heap a kvs d u) : s.TypeIs (.ref a) "dict" := by
  cases h with
  | flat _ _ _ _ _ _ _ hd => exact hd.typeIs
  | tup _ _ _ _ _ _ _ hd => exact hd.typeIs
/-- the dict's object -/
theorem dict_obj {pins : List (Addr × Obj)} {s : Shared} (ob : OnB B X) (I : Inv X pins σ' H s) {a : Addr} {kvs : List (D × D)} (h : RDr B T H a kvs) :
    s.TypeIs (.ref a) "dict" ∧ (∀ b, Value.ref a = .ref b → ∃ o, s.heap.get? b = some o ∧ o.dict = none) ∧ kvs.length ≤ sizeLine ∧ (a == sysModules) = false ∧ ∃ es ep, s.heap.DictRaw a es ep ∧ es.size = kvs.length := by
  obtain ⟨u0, q1, ⟨ks, rfl, q2⟩ | ⟨xs, _, rfl, q2⟩⟩ := h
  · obtain ⟨z, hs, vs, kv, o, es, ep, h1, h2, h3, h4, h5, h6⟩ := (show ObjOk X.prog X.w H s.heap a (.dK ks) from q1.ok I.hok)
    refine ⟨⟨o, h1, h2.1⟩, fun b e => ?_, by rw [Paired.length q2]; exact z, hs, es, ep, ⟨o, h1, h2, h3⟩, ?_⟩
    · cases e
      exact ⟨o, h1, h2.2.1⟩
    · have := h5.length
      rw [Paired.length q2, Paired.length kv, ← this]
      simp
  · obtain ⟨⟨z, hs, ys, py, o, es, ep, h1, h2, h3, h4, h5⟩, _, _⟩ := (show ObjOk X.prog X.w H s.heap a (.ext (DXo B.prog B.w a xs)) from q1.ok I.hok)
    refine ⟨⟨o, h1, h2.1⟩, fun b e => ?_, by rw [Paired.length q2]; exact z, hs, es, ep, ⟨o, h1, h2, h3⟩, ?_⟩
    · cases e
      exact ⟨o, h1, h2.2.1⟩
    · rw [Paired.length q2, Paired.length py, ← Array.length_toList, h4]
      simp
/-! ### d[k] -/
def rDG (X : Cx) : R2 := fun x y H Q => ∃ a : Addr, x = .ref a ∧ ∀ (pins : List (Addr × Obj)) (σ : L2.St) (s : Shared) (u : Value), Inv X pins σ H s → RelV y u →
  s.TypeIs (.ref a) "dict" ∧ wpAny (model X.prog X.w) X.A (getItem (.ref a) u) (EP X pins σ Q) X.xe s
theorem ix_dg : IxR X (rDG X) := by
  intro value slice pins s σ H x y v u Q I rx ry ⟨a, ex, f⟩ hs
  subst ex
  cases rx
  obtain ⟨t, q⟩ := f pins σ s u I ry
  exact tail_any t PySem.F.slot_dict_getitem.lookup q hs
section
variable {p k : Expr} {ep : Pl} {ek : E}
theorem a_dget (ob : OnB B X) (hu : X.A.units + 200 < cLine) (hp : PE X p (tP B C W ep)) (hk : PE X k (tE B C W ek)) (sk : simE ek = true) (hs : PlainIx k) : PE X (.Subscript p k pos) (tE B C W (.dget ep ek)) := by
  refine PE.imp (pe_ix ix_dg hp hk hs) fun σ H Q ⟨T, g, r, Ke, Xe, R, hw, hq, hx⟩ => ?_
  refine ⟨T, g, r, fun q g1 => wE B.P C ek r g1 (fun d g2 => match q.2 with
      | .dct kvs => keysOk kvs d = true ∧ (match dGet kvs d with | some z => Ke z g2 | none => False)
      | _ => False) Xe, Xe, R, hw, fun q g1 T1 H1 v x1 R1 ⟨rv, _⟩ sm hk => ?_, hx⟩
  refine ⟨T1, g1, r, _, Xe, R1, hk, fun d g2 T2 H2 u x2 R2 ru sm2 hk2 => ?_, fun c g' T' H' e R' => hx c g' T' H' (x1.trans e) R'⟩
  obtain ⟨src, c⟩ := q
  cases c with
  | dct kvs =>
    obtain ⟨a, rfl, rc⟩ := rv
    obtain ⟨ok, hk2⟩ := hk2
    have rc2 : RDr B T2 H2 a kvs := rc.keep (fun d v q => RD.ext x2 d v q) (sm2 sk)
    refine ⟨a, rfl, fun pins σ' s w I rw' => ?_⟩
    obtain ⟨dv, _, _⟩ := dv_of ob I R2 rc2 ok ru rw'
    refine ⟨dv.typeIs, ?_⟩
    cases e : dGet kvs d with
    | none =>
      rw [e] at hk2
      exact hk2.elim
    | some z =>
      rw [e] at hk2
      exact g_getItem hu I dv e fun v w s' I' rz rv => ⟨v, H2, I', rv, hq z g2 T2 H2 v (x1.trans x2) R2 rz (fun s => (sm (ands s).1).trans (sm2 (ands s).2)) hk2⟩
  | _ => exact hk2.elim
/-! ### k in d -/
def rDI (X : Cx) (n : Bool) : R2 := fun x y H Q => ∀ (pins : List (Addr × Obj)) (σ : L2.St) (s : Shared) (v u : Value), Inv X pins σ H s → RelV x v → RelV y u →
  wpAny (model X.prog X.w) X.A (compareOp (inOp n) v u) (EP X pins σ Q) X.xe s
theorem op_di (n : Bool) : OpR X (compareOp (inOp n)) (rDI X n) := fun pins s σ H x y v u Q I rx ry h => h pins σ s v u I rx ry
theorem din_conv (ob : OnB B X) (hu : X.A.units + 200 < cLine) {n : Bool} {σ : L2.St} {H : Hp} {Q : VK} (h : tE B C W (.din n ek ep) σ H Q) : tOp (rDI X n) (tE B C W ek) (tP B C W ep) σ H Q := by
  obtain ⟨T, g, r, Ke, Xe, R, hw, hq, hx⟩ := h
  refine ⟨T, g, r, _, Xe, R, hw, fun x g1 T1 H1 v x1 R1 rv sm hk => ?_, hx⟩
  refine ⟨T1, g1, r, fun q g2 => (match q.2 with | .dct kvs => keysOk kvs x = true ∧ Ke (.bl (n != (dGet kvs x).isSome)) g2 | _ => False), Xe, R1, hk, fun q g2 T2 H2 u x2 R2 ⟨ru, _⟩ sm2 hk2 => ?_, fun c g' T' H' e R' => hx c g' T' H' (x1.trans e) R'⟩
  obtain ⟨src, c⟩ := q
  cases c with
  | dct kvs =>
    obtain ⟨a, rfl, rc⟩ := ru
    obtain ⟨ok, hk2⟩ := hk2
    intro pins σ' s w u I rw' ru
    cases ru
    obtain ⟨dv, _, hs⟩ := dv_of ob I R2 rc ok (RD.ext x2 _ _ rv) rw'
    exact g_in n hu I hs dv fun s' I' => ⟨.bl _, H2, I', rfl, hq (.bl (n != (dGet kvs x).isSome)) g2 T2 H2 _ (x1.trans x2) R2 rfl (fun s => (sm (ands s).1).trans (sm2 (ands s).2)) hk2⟩
  | _ => exact hk2.elim
theorem a_din (ob : OnB B X) (hu : X.A.units + 200 < cLine) {n : Bool} (ha : PE X k (tE B C W ek)) (hb : PE X p (tP B C W ep)) (hm : behindInMarks (inOp n) p = false) : PE X (.Compare k [inOp n] [p] pos) (tE B C W (.din n ek ep)) :=
  PE.imp (pe_cmpR (op_di n) ha hb hm) fun _ _ _ h => din_conv ob hu h
theorem b_din (ob : OnB B X) (hu : X.A.units + 200 < cLine) {n : Bool} (ha : PE X k (tE B C W ek)) (hb : PE X p (tP B C W ep)) (hm : behindInMarks (inOp n) p = false) : PT X (.Compare k [inOp n] [p] pos) (tB' B C W (.din n ek ep)) :=
  PT.imp (pt_cmpR (op_di n) ha hb hm) fun _ _ _ h => din_conv ob hu (tB_tE h)
/-! ### methods -/
def DctV (X : Cx) (x : V) (H : Hp) : Prop := ∃ a : Addr, x = .ref a ∧ ∀ (pins : List (Addr × Obj)) (σ : L2.St) (s : Shared), Inv X pins σ H s → s.TypeIs (.ref a) "dict" ∧ ∀ b, Value.ref a = .ref b → ∃ o, s.heap.get? b = some o ∧ o.dict = none
def rDM (X : Cx) (id : String) : V → List V → Hp → VK → Prop := fun x vs H Q => ∀ (pins : List (Addr × Obj)) (σ : L2.St) (s : Shared) (v : Value) (us : List Value), Inv X pins σ H s → RelV x v → Vals vs us →
  wpAny (model X.prog X.w) X.A (call (.builtin id) (v :: us)) (EP X pins σ Q) X.xe s
theorem pe_dm {name : Str} {id : String} {o e : Expr} {es : List Expr} {apos cpos : Pos} {to : TE} {t : TA} (slot : Slot "dict" name id) (hty : typeOf (.builtin id) = pure (.type "method_descriptor")) (ho : PE X o to) (ha : PA X (e :: es) t) (hb : notSup o = true) (ns : (e :: es).all notStar = true) (hl : (e :: es).length < 30) (he : (apos.endLine == cpos.line) = true) :
    PE X (.Call (.Attribute o name apos) (e :: es) [] cpos) (fun σ H Q => to σ H fun x H1 => DctV X x H1 ∧ t σ H1 fun vs H2 => rDM X id x vs H2 Q) := by
  obtain ⟨n1, n2⟩ := ands (show (notStar e && es.all notStar) = true from ns)
  refine ⟨fun pins s σ H Q I h => ?_⟩
  refine wpAny_Call_method (base_sup hb) (few_call ns hl) he PySem.F.plainAttrs_dict slot hty (thn (ho.run pins s σ H _ I h) fun v s1 ⟨x, H1, I1, r1, ⟨a, ex, ty⟩, q1⟩ => ?_)
  subst ex
  cases r1
  obtain ⟨t1, t2⟩ := ty pins σ s1 I1
  refine ⟨t1, t2, ?_⟩
  have hA := ha.run cpos pins s1 σ H1 _ I1 q1
  rw [star_cons n1] at hA ⊢
  refine Calls.callWith_builtin (by show (false || (backTo cpos (starEach es X.env)).any (·.1)) = false; rw [star_none n2]; rfl) (Calls.evalArgs_plain ?_)
  exact thn hA fun us s2 ⟨vs, H2, I2, r2, q2⟩ => q2 pins σ s2 _ us I2 rfl r2
theorem dct_v (ob : OnB B X) {v : V} {kvs : List (D × D)} (rv : RCv B T H (.dct kvs) v) : DctV X v H := by
  obtain ⟨a, rfl, rc⟩ := rv
  refine ⟨a, rfl, fun pins σ s I => ?_⟩
  obtain ⟨t1, t2, _⟩ := dict_obj ob I rc
  exact ⟨t1, t2⟩
theorem a_dgt1 {apos cpos : Pos} (ob : OnB B X) (hu : X.A.units + 200 < cLine) (hp : PE X p (tP B C W ep)) (hk : PE X k (tE B C W ek)) (sk : simE ek = true) (nk' : notStar k = true) (hb : notSup p = true) (he : (apos.endLine == cpos.line) = true) :
    PE X (.Call (.Attribute p "get" apos) [k] [] cpos) (tE B C W (.dgt1 ep ek)) := by
  refine PE.imp (pe_dm PySem.F.slot_dict_get PySem.F.type_dict_get hp (as_cons hk as_nil nk') hb (by simp [nk']) (by simp) he) fun σ H Q ⟨T, g, r, Ke, Xe, R, hw, hq, hx⟩ => ?_
  refine ⟨T, g, r, fun q g1 => (match q.2 with
      | .dct kvs => wE B.P C ek r g1 (fun d g2 => keysOk kvs d = true ∧ Ke ((dGet kvs d).getD .non) g2) Xe
      | _ => False), Xe, R, hw, fun q g1 T1 H1 v x1 R1 ⟨rv, _⟩ sm hk => ?_, hx⟩
  obtain ⟨src, c⟩ := q
  cases c with
  | dct kvs =>
    refine ⟨dct_v ob rv, T1, g1, r, fun ds g2 => (match ds with | [d] => keysOk kvs d = true ∧ Ke ((dGet kvs d).getD .non) g2 | _ => False), Xe, R1, hk, fun ds g2 T2 H2 vs x2 R2 ru sm2 hk2 => ?_, fun c g' T' H' e R' => hx c g' T' H' (x1.trans e) R'⟩
    dsimp only at hk2
    split at hk2
    rotate_left
    · exact hk2.elim
    rename_i d
    obtain ⟨ok, hk2⟩ := hk2
    obtain ⟨y, ys, rfl, ry, rys⟩ := ru
    obtain rfl : ys = [] := rys
    obtain ⟨a, rfl, rc⟩ := rv
    intro pins σ' s v us I rv' rus
    cases rv'
    obtain ⟨u, rfl, ru⟩ := rus.one
    have s2 := sm2 (by simp [simEs, sk])
    have rc2 : RDr B T2 H2 a kvs := rc.keep (fun d v q => RD.ext x2 d v q) s2
    obtain ⟨dv, _, hs⟩ := dv_of ob I R2 rc2 ok ry ru
    exact g_get1 hu I hs dv fun v w s' I' rz rv => ⟨v, H2, I', rv, hq _ g2 T2 H2 v (x1.trans x2) R2 rz (fun s => (sm (ands s).1).trans s2) hk2⟩
  | _ => exact hk.elim
theorem a_dgt2 {apos cpos : Pos} {z : Expr} {ez : E} (ob : OnB B X) (hu : X.A.units + 200 < cLine) (hp : PE X p (tP B C W ep)) (hk : PE X k (tE B C W ek)) (hz : PE X z (tE B C W ez)) (sk : (simE ek && simE ez) = true) (nk' : notStar k = true) (nz : notStar z = true) (hb : notSup p = true) (he : (apos.endLine == cpos.line) = true) :
    PE X (.Call (.Attribute p "get" apos) [k, z] [] cpos) (tE B C W (.dgt2 ep ek ez)) := by
  refine PE.imp (pe_dm PySem.F.slot_dict_get PySem.F.type_dict_get hp (as_cons hk (as_cons hz as_nil nz) nk') hb (by simp [nk', nz]) (by simp) he) fun σ H Q ⟨T, g, r, Ke, Xe, R, hw, hq, hx⟩ => ?_
  refine ⟨T, g, r, fun q g1 => (match q.2 with
      | .dct kvs => wE B.P C ek r g1 (fun d g2 => wE B.P C ez r g2 (fun z g3 => keysOk kvs d = true ∧ Ke ((dGet kvs d).getD z) g3) Xe) Xe
      | _ => False), Xe, R, hw, fun q g1 T1 H1 v x1 R1 ⟨rv, _⟩ sm hk => ?_, hx⟩
  obtain ⟨src, c⟩ := q
  cases c with
  | dct kvs =>
    refine ⟨dct_v ob rv, T1, g1, r, fun ds g2 => (match ds with | [d, z] => keysOk kvs d = true ∧ Ke ((dGet kvs d).getD z) g2 | _ => False), Xe, R1, hk, fun ds g2 T2 H2 vs x2 R2 ru sm2 hk2 => ?_, fun c g' T' H' e R' => hx c g' T' H' (x1.trans e) R'⟩
    dsimp only at hk2
    split at hk2
    rotate_left
    · exact hk2.elim
    rename_i d z
    obtain ⟨ok, hk2⟩ := hk2
    obtain ⟨y, y2, rfl, ry, ry2⟩ := RDs.two ru
    obtain ⟨a, rfl, rc⟩ := rv
    intro pins σ' s v us I rv' rus
    cases rv'
    obtain ⟨u, u2, rfl, ru, ru2⟩ := vals2 rus
    have s2 := sm2 (by simp [simEs]; simpa using sk)
    have rc2 : RDr B T2 H2 a kvs := rc.keep (fun d v q => RD.ext x2 d v q) s2
    obtain ⟨dv, _, hs⟩ := dv_of ob I R2 rc2 ok ry ru
    exact g_get2 hu I hs dv ry2 ru2 fun v w s' I' rz rv => ⟨v, H2, I', rv, hq _ g2 T2 H2 v (x1.trans x2) R2 rz (fun s => (sm (ands s).1).trans s2) hk2⟩
  | _ => exact hk.elim
/-! ### len(d) -/
def rCB (X : Cx) (f : Value) : List V → Hp → VK → Prop := fun vs H Q => ∀ (pins : List (Addr × Obj)) (σ : L2.St) (s : Shared) (us : List Value), Inv X pins σ H s → Vals vs us → wpAny (model X.prog X.w) X.A (call f us) (EP X pins σ Q) X.xe s
theorem cr_any (f : Value) : CallR X f (rCB X f) := fun pins s σ H xs us Q I r h => h pins σ s us I r
theorem a_dlen {p0 : Pos} (ob : OnB B X) (hg : Gl X "len") (hm : X.mg "len" = none) (hp : PE X p (tP B C W ep)) (ns : notStar p = true) : PE X (.Call (.Name "len" p0) [p] [] pos) (tE B C W (.dlen ep)) := by
  refine PE.imp (blt1 (cr_any _) hg hm boot_len (by decide) (by decide) hp ns) fun σ H Q ⟨T, g, r, Ke, Xe, R, hw, hq, hx⟩ => ?_
  refine ⟨T, g, r, fun q g1 => (match q.2 with | .dct kvs => Ke (.int kvs.length) g1 | _ => False), Xe, R, hw, fun q g1 T1 H1 v x1 R1 ⟨rv, _⟩ sm hk => ?_, hx⟩
  obtain ⟨src, c⟩ := q
  cases c with
  | dct kvs =>
    obtain ⟨a, rfl, rc⟩ := rv
    intro pins σ' s us I rus
    obtain ⟨u, rfl, ru⟩ := vals1 rus
    cases ru
    obtain ⟨t1, t2, hz, hs, es, ep, hr, hn⟩ := dict_obj ob I rc
    refine PyProof.Rows.call_len_slot (n := kvs.length) t1 PySem.F.slot_dict_len (fun Q' hq => ?_) (by omega) (by rw [sizeLine_eq] at hz; omega) ?_
    · refine call_len_raw hs hr ?_
      rw [hn]
      exact hq
    · exact ⟨.int kvs.length, H1, I.tok _, ⟨_, rfl⟩, hq (.int (kvs.length : Nat)) g1 T1 H1 _ x1 R1 rfl sm hk⟩
  | _ => exact hk.elim
end
end Vb

set_option maxHeartbeats 2000000
/-! The plain layer: dicts made and written. -/
namespace Vb
open PySem L2 PySem.Spec PyProof.Rows
variable {B : Bd} {C : Call} {W : WX} {X : Cx} {pos : Pos} {n : Nms}
variable {T T' : Tm} {g g' : G} {r r' : Rho} {H H' : Hp} {σ σ' : L2.St}
section
variable {p k : Expr} {ep : Pl} {ek : E}
theorem c_dnew (nl : B.lk = none) : PE X (.Dict [] [] pos) (tC B C W .dnew) := by
  refine PE.imp pe_dnewK fun σ H Q ⟨T, g, r, Ke, Xe, R, hw, hq, hx⟩ => fun p np => ?_
  exact hq (.dct []) g T _ _ (Ext.refl T) (R.loose np _) ⟨p, rfl, R.fresh np, .inl ⟨[], .inl ⟨(by rw [nl]; exact fun z => nomatch z), upd_same⟩, .nil⟩⟩ (fun _ => Same.upd np) hw
theorem kf_all {kvs : List (D × D)} {a : Addr} (h : RDr B T H a kvs) (q : (kvs.all fun p => p.1.keyF) = true) : (∃ ks : List (Key × V), AtR H a (.dK ks) ∧ Paired (KfR B T) kvs ks) := by
  obtain ⟨u0, q1, ⟨ks, rfl, q2⟩ | ⟨xs, q0, rfl, q2⟩⟩ := h
  · exact ⟨ks, q1, q2⟩
  · obtain ⟨rfl, rfl⟩ := kt_none q2 q
    exact absurd rfl q0
/-- the dict as the library's, keys by value -/
theorem flat_of {pins : List (Addr × Obj)} {s : Shared} (ob : OnB B X) (I : Inv X pins σ' H s) {a : Addr} {kvs : List (D × D)} (h : RDr B T H a kvs) (q : (kvs.all fun p => p.1.keyF) = true) :
    ∃ (ks : List (Key × V)) (vs : List (Key × Value)), Paired (KfR B T) kvs ks ∧ KV ks vs ∧ s.heap.DictOf (mixKind X.prog X.w) a vs ∧ kvs.length ≤ sizeLine ∧ (a == sysModules) = false := by
  obtain ⟨ks, q1, q2⟩ := kf_all h q
  obtain ⟨z, hs, vs, kv, dd⟩ := (show ObjOk X.prog X.w H s.heap a (.dK ks) from q1.ok I.hok)
  exact ⟨ks, vs, q2, kv, dd, by rw [Paired.length q2]; exact z, hs⟩
theorem blt1T_c {x : Str} {id : String} {p0 : Pos} {a : Expr} {t : TE} (hc : CallR X (.type id) (rCB X (.type id))) (hg : Gl X x) (hm : X.mg x = none) (hv : bootBuiltins x = some (.type id)) (hn : x ≠ "__name__") (hd : (x == ("__debug__" : Str)) = false) (ha : PE X a t) (ns : notStar a = true) :
    PE X (.Call (.Name x p0) [a] [] pos) (fun σ H Q => t σ H fun v H1 => rCB X (.type id) [v] H1 Q) := blt1T hc hg hm hv hn hd ha ns
theorem c_dcopy {p0 : Pos} (ob : OnB B X) (nl : B.lk = none) (hg : Gl X "dict") (hm : X.mg "dict" = none) (hp : PE X p (tP B C W ep)) (ns : notStar p = true) : PE X (.Call (.Name "dict" p0) [p] [] pos) (tC B C W (.dcopy ep)) := by
  refine PE.imp (blt1T_c (cr_any _) hg hm (show bootBuiltins "dict" = some (.type "dict") by decide +kernel) (by decide) (by decide) hp ns) fun σ H Q ⟨T, g, r, Ke, Xe, R, hw, hq, hx⟩ => ?_
  refine ⟨T, g, r, fun q g1 => (match q.2 with | .dct kvs => (kvs.all fun p => p.1.keyF) = true ∧ Ke (.dct kvs) g1 | _ => False), Xe, R, hw, fun q g1 T1 H1 v x1 R1 ⟨rv, _⟩ sm hk => ?_, hx⟩
  obtain ⟨src, c⟩ := q
  cases c with
  | dct kvs =>
    obtain ⟨a, rfl, rc⟩ := rv
    obtain ⟨hf, hk⟩ := hk
    intro pins σ' s us I rus
    obtain ⟨u, rfl, ru⟩ := vals1 rus
    cases ru
    obtain ⟨ks, vs, pk, kv, dd, hz, hs⟩ := flat_of ob I rc hf
    have e1 := Paired.length pk
    have e2 : ks.length = vs.length := Paired.length kv
    refine kt_call_dict hs dd (by rw [← e2, ← e1]; exact hz) fun h' dd' sb => ?_
    have np : H1 s.heap.objs.size = none := I.hok.fresh (Nat.le_refl _)
    refine ⟨.ref s.heap.objs.size, upd H1 s.heap.objs.size (.dK ks), I.laid (o := .dK ks) (t' := s.toks) (fun b q hq' => ?_) (Nat.le_refl _) (dk_new (by rw [← e1]; exact hz) (beq_eq_false_iff_ne.mpr (Nat.ne_of_gt I.big)) kv dd'), rfl, ?_⟩
    · exact (sb.2 b (Nat.ne_of_lt (Heap.lt_size hq'))).trans (Heap.get?_push_of_some _ hq')
    · exact hq (.dct kvs) g1 T1 _ _ x1 (R1.loose np _) ⟨_, rfl, R1.fresh np, .inl ⟨ks, .inl ⟨(by rw [nl]; exact fun z => nomatch z), upd_same⟩, pk⟩⟩ (fun s => (sm s).trans (Same.upd np)) hk
  | _ => exact hk.elim
/-- list(d.values()) -/
theorem pe_lvals {apos cpos p0 : Pos} {t : TE} (hp : PE X p t) (hg : Gl X "list") (hm : X.mg "list" = none) (hb : notSup p = true) (he : (apos.endLine == cpos.line) = true) :
    PE X (.Call (.Name "list" p0) [.Call (.Attribute p "values" apos) [] [] cpos] [] pos) (fun σ H Q => t σ H fun x H1 => ∃ d : Addr, x = .ref d ∧ ∀ (pins : List (Addr × Obj)) (s : Shared), Inv X pins σ H1 s → ∃ vs : List (Key × Value), s.heap.DictOf (mixKind X.prog X.w) d vs ∧ (d == sysModules) = false ∧
      ∀ s1 : Shared, Inv X pins σ H1 s1 → s1.heap.DictOf (mixKind X.prog X.w) d vs → s1.heap.IsValuesView s.heap.objs.size d → wpAny (model X.prog X.w) X.A (call (.type "list") [.ref s.heap.objs.size]) (EP X pins σ Q) X.xe s1) := by
  refine ⟨fun pins s σ H Q I h => ?_⟩
  refine wpAny_Call_Name_kw (ld_blt I hg hm (show bootBuiltins "list" = some (.type "list") by decide +kernel) ?_)
  have hs : starEach [.Call (.Attribute p "values" apos) [] [] cpos] X.env = (false, eval (.Call (.Attribute p "values" apos) [] [] cpos) X.env) :: starEach [] X.env := star_cons rfl
  refine PyProof.Rows.callWith_type1 ?_ hs rfl
  rw [hs]
  refine Calls.spliced_cons ?_
  refine wpAny_Call_method (T := "dict") (id := "dict.values") (sup_base hb) rfl he PySem.F.plainAttrs_dict PySem.F.slot_dict_values PySem.F.type_dict_values (thn (hp.run pins s σ H _ I h) fun u s1 ⟨x, H1, I1, rx, d, ex, f⟩ => ?_)
  subst ex
  cases rx
  obtain ⟨vs, hd, hs0, q⟩ := f pins s1 I1
  refine ⟨hd.typeIs, hd.mapOf.noDict, ?_⟩
  have I2 : Inv X pins σ H1 { s1 with heap := s1.heap.push { cls := .type "dict_values", data := .fields #[.ref d] } } := I1.kept (t' := s1.toks) fun b ob q => Heap.get?_push_of_some _ q
  show wpAny _ _ (callWith cpos (.builtin "dict.values") [.ref d] [] []) _ X.xe s1
  refine method_meetsIn PySem.F.slot_dict_values PySem.F.entry_dict_values rfl (PySem.evalArgs_none ⟨rfl, hd.typeIs, PySem.F.args_dict_values_1 _, _, meets_dict_values (mixKind X.prog X.w) d hs0, ⟨vs, hd⟩, ?_⟩)
  refine Calls.spliced_nil ?_
  exact q _ I2 (hd.at fun o e => Heap.get?_push_of_some _ e) ⟨_, Heap.get?_push_size _ rfl, rfl, rfl⟩
theorem paired_vals {kvs : List (D × D)} {ks : List (Key × V)} (h : Paired (KfR B T) kvs ks) : RDs B T (kvs.map (·.2)) (ks.map (·.2)) := by
  induction h with
  | nil => rfl
  | cons h1 _ ih => exact ⟨_, _, rfl, h1.2, ih⟩
theorem kv_vals {ks : List (Key × V)} {vs : List (Key × Value)} (h : KV ks vs) : Vals (ks.map (·.2)) (vs.map (·.2)) := by
  unfold KV at h
  induction h with
  | nil => exact .nil
  | cons h1 _ ih => exact .cons h1.2 ih
theorem c_dvals {apos cpos p0 : Pos} (ob : OnB B X) (hc : X.calm = true) (hg : Gl X "list") (hm : X.mg "list" = none) (hp : PE X p (tP B C W ep)) (hb : notSup p = true) (he : (apos.endLine == cpos.line) = true) :
    PE X (.Call (.Name "list" p0) [.Call (.Attribute p "values" apos) [] [] cpos] [] pos) (tC B C W (.dvals ep)) := by
  refine PE.imp (pe_lvals hp hg hm hb he) fun σ H Q ⟨T, g, r, Ke, Xe, R, hw, hq, hx⟩ => ?_
  refine ⟨T, g, r, fun q g1 => (match q.2 with | .dct kvs => (kvs.all fun p => p.1.keyF) = true ∧ Ke (.lst (kvs.map (·.2))) g1 | _ => False), Xe, R, hw, fun q g1 T1 H1 v x1 R1 ⟨rv, _⟩ sm hk => ?_, hx⟩
  obtain ⟨src, c⟩ := q
  cases c with
  | dct kvs =>
    obtain ⟨a, rfl, rc⟩ := rv
    obtain ⟨hf, hk⟩ := hk
    refine ⟨a, rfl, fun pins s I => ?_⟩
    obtain ⟨ks, vs, pk, kv, dd, hz, hs⟩ := flat_of ob I rc hf
    have e1 := Paired.length pk
    have e2 : ks.length = vs.length := Paired.length kv
    refine ⟨vs, dd, hs, fun s1 I1 dd1 view => ?_⟩
    obtain ⟨ep, hat⟩ := dd1.dictAt
    refine PySem.W.kdl_call (PySem.W.kdl_values (knd := mixKind X.prog X.w) (kvs := vs) (ep := ep)) (I1.ok.hd hc) ⟨view, hat⟩ (by rw [← e2, ← e1]; exact hz) fun h' tk acc' c' hkeep hS hacc => ?_
    have np : H1 s1.heap.objs.size = none := I1.hok.fresh (Nat.le_refl _)
    have hv : acc'.toList = vs.map (·.2) := by
      refine List.ext_getElem? fun j => ?_
      rw [Array.getElem?_toList]
      cases e : acc'[j]? with
      | none =>
        have hj : vs.length ≤ j := by
          have := Array.getElem?_eq_none_iff.mp e
          rw [hacc.1] at this
          exact this
        rw [List.getElem?_eq_none (by simpa using hj)]
      | some w =>
        obtain ⟨k, hk'⟩ := hacc.2 j w e
        rw [List.getElem?_map, hk']
        rfl
    have ev := kv_vals kv
    refine ⟨.ref s1.heap.objs.size, upd H1 s1.heap.objs.size (.lst (ks.map (·.2))), I1.laid hkeep (Nat.le_refl _) (show ObjOk X.prog X.w _ _ _ (.lst (ks.map (·.2))) from ⟨by rw [List.length_map, ← e1]; exact hz, acc'.toList, c', by rw [hv]; exact ev, by rw [Array.toArray_toList]; exact hS⟩), rfl, ?_⟩
    exact hq (.lst (kvs.map (·.2))) g1 T1 _ _ x1 (R1.loose np _) ⟨_, rfl, R1.fresh np, ks.map (·.2), upd_same, paired_vals pk⟩ (fun s => (sm s).trans (Same.upd np)) hk
  | _ => exact hk.elim
end
/-! ### writing -/
/-- a container is written where it lies -/
theorem place_ct (Gd : Good B n) (R : RR B T g r H σ) {s : Src} {c c' : Ct} {v : V} {K : Rho → G → Prop} (rs : RSrc B T H σ v s) (ok : s.okC c r g) (hp : putC s c' r g K) :
    ∃ a, v = .ref a ∧ RCt B T H a c ∧ ∀ o, RCt B T (upd H a o) a c' → ∃ r1 g1, RR B T g1 r1 (upd H a o) σ ∧ K r1 g1 := by
  cases s with
  | no => exact hp.elim
  | giv => exact hp.elim
  | obj i =>
    obtain ⟨a, rfl, ha⟩ := rs
    exact ⟨a, rfl, R.objAt ok ha, fun o rc => ⟨r, _, R.put (ob := .ct c') ha rc, hp⟩⟩
  | loc j =>
    obtain ⟨a, rfl, hj⟩ := rs
    have ok : r[j]? = some (some (.own c)) := ok
    obtain ⟨v, h1, a', rfl, ha, hc⟩ := R.slt j _ ok
    rw [hj] at h1
    cases h1
    refine ⟨a, rfl, hc, fun o rc => ⟨_, _, ?_, hp⟩⟩
    have R1 := R.wrL ha (o := o) (t := some (.loc j)) (by intro u h; rcases h with h | h <;> cases h) (by intro i z; cases z)
    have et : T.sett a (some (.loc j)) = T := by
      cases T
      simp only [Tm.sett, Tm.mk.injEq, and_true]
      funext b
      split
      · rename_i e
        rw [e]
        exact ha.symm
      · rfl
    rw [et] at R1
    have R2 := R1.sets (j := j) (s := .own c') (v := .ref a) ⟨a, rfl, ha, rc⟩
    rw [List.set_set] at R2
    have lt : j < σ.length := by
      rcases Nat.lt_or_ge j σ.length with l | l
      · exact l
      · rw [List.getElem?_eq_none l] at hj
        cases hj
    have es : σ.set j (some (.ref a)) = σ := by
      refine List.ext_getElem? fun k => ?_
      by_cases e : j = k
      · rw [← e, List.getElem?_set_self lt, hj]
      · rw [List.getElem?_set_ne e]
    rw [es] at R2
    exact R2
  | fld i f =>
    obtain ⟨a, b, CC, dx, ws, x, rfl, hb, eb, hx, hl⟩ := rs
    obtain ⟨cl, fs, eg, ef⟩ := ok
    have hp : (match g i with | some (.ins cl fs) => K r (up g i (.ins cl (putS f (.own c') fs))) | _ => False) := hp
    rw [eg] at hp
    obtain ⟨dx', ws', h1, h0, h2⟩ := R.objAt eg hb
    rw [eb] at h1
    cases h1
    obtain ⟨v', l1, a', rfl, ha, hc⟩ := (h2.get Gd.an hx).1 _ ef
    rw [hl] at l1
    cases l1
    refine ⟨a, rfl, hc, fun o rc => ⟨_, _, ?_, hp⟩⟩
    have ne : ∀ {d t}, T.at_ d = some t → t ≠ .fld i f → d ≠ a := fun {d t} h q z => by
      subst z
      rw [ha] at h
      cases h
      exact q rfl
    refine R.wrF ha hb ⟨dx, ws, by rw [upd_ne (ne hb (by intro z; cases z))]; exact eb, ⟨putS_fld (h0.1 _ (getS_mem ef)) h0.1, putS_nodup h0.2⟩, ?_⟩
    have q := RFs.putf (T := T) (T' := T) (H := H) (H' := upd H a o) (i := i) (s := .own c') (v := .ref a) Gd.an hx ⟨a, rfl, ha, rc⟩ (fun k s w nk h => by
      cases s with
      | val d => exact h
      | own c =>
        obtain ⟨d, w1, w2, w3⟩ := h
        exact ⟨d, w1, w2, w3.keep (Ext.refl T) (upd_ne (ne w2 (by intro z; cases z; exact nk rfl)))⟩
      | exc c => exact h) h0.2 h2
    have ep : putF x (V.ref a) ws = ws := by
      clear q h2 h0 eb
      induction ws with
      | nil => cases hl
      | cons p ws ih =>
        obtain ⟨y, w⟩ := p
        rw [List.lookup_cons] at hl
        unfold putF
        by_cases e : y = x
        · subst e
          simp at hl
          simp [hl]
        · have nb : (x == y) = false := by
            rw [beq_eq_false_iff_ne]
            exact fun z => e z.symm
          rw [nb] at hl
          simp only [e, if_false]
          rw [ih hl]
    rw [ep] at q
    exact q
theorem rc_mut {a : Addr} {kvs : List (D × D)} (nl : B.lk = none) (h : RDc B T H a kvs) : Mut (H a) := by
  rcases h with ⟨ks, ⟨_, q1⟩ | ⟨l, _⟩, _⟩ | ⟨xs, _, ⟨_, q1⟩ | ⟨l, _⟩, _⟩
  · rw [q1]; exact True.intro
  · rw [nl] at l; cases l
  · rw [q1]; exact True.intro
  · rw [nl] at l; cases l
def plainD : Expr → Bool
  | .Slice _ _ _ _ => false
  | _ => true
def rSD (X : Cx) : TSet := fun o i v H Q => ∃ a : Addr, o = .ref a ∧ ∀ (pins : List (Addr × Obj)) (σ : L2.St) (s : Shared) (iv u : Value), Inv X pins σ H s → RelV i iv → RelV v u →
  wpAny (model X.prog X.w) X.A (setItem (.ref a) iv u) (fun _ s' => ∃ H', Inv X pins σ H' s' ∧ Q H') X.xe s
theorem set_dict : PSet X (rSD X) := by
  intro pins s σ H o i v ov iv u Q I ro ri rv ⟨a, e, f⟩
  subst e
  cases ro
  exact f pins σ s iv u I ri rv
section
variable {o a k : Expr} {e ek : E} {p' : Pos}
theorem s_dput {p : Pl} (Gd : Good B n) (ob : OnB B X) (nl : B.lk = none) (hu : X.A.units + 200 < cLine) (ho : PE X o (tP B C W p)) (hk' : PE X k (tE B C W ek)) (ha : PE X a (tE B C W e)) (sk : simE ek = true) (ns : plainD k = true) (nc : isComp a = false) :
    PS X (.Assign [.Subscript o k p'] a pos) (tS B C W (.dput p ek e)) := by
  have hsub : ∀ v, assign (.Subscript o k p') X.env v = (do
      let ov ← holding [v] (eval o X.env)
      let iv ← holding [v, ov] (eval k X.env)
      standAt p'
      holding [v, ov, iv] (setItem ov iv v)
      release [v, ov, iv] []) := by intro v; cases k <;> first | rfl | cases ns
  have hw : swappedStores [.Subscript o k p'] a X.env = pure none := by cases a <;> rfl
  refine PS.imp (ps_asg ha (pg_sub ho hk' set_dict hsub) (sw_sub (o := o) (i := k) (p := p') (l := pos.line) (env := X.env)) hw) fun D σ H ⟨T, g, r, K, R, hw, hq⟩ => ?_
  refine ⟨T, g, r, _, _, R, hw, fun d g1 T1 H1 v x1 R1 rv _ hk => ?_, fun c g1 T1 H1 x1 R1 hk => hq (.exc c) r g1 T1 H1 σ x1 R1 hk⟩
  refine ⟨T1, g1, r, fun q g2 => wE B.P C ek r g2 (fun kd g3 => match q.2 with
      | .dct kvs => keysOk kvs kd = true ∧ kvs.length < lineN ∧ q.1.okC (.dct kvs) r g3 ∧ putC q.1 (.dct (dPut kvs kd d)) r g3 fun r1 g4 => K .nx r1 g4
      | _ => False) fun c g1 => K (.exc c) r g1, _, R1, hk, fun q g2 T2 H2 u x2 R2 ⟨ru, rs⟩ _ hk => ?_, fun c g2 T2 H2 x2 R2 hk => hq (.exc c) r g2 T2 H2 σ (x1.trans x2) R2 hk⟩
  refine ⟨T2, g2, r, _, _, R2, hk, fun kd g3 T3 H3 w x3 R3 rw3 sm3 hk => ?_, fun c g3 T3 H3 x3 R3 hk => hq (.exc c) r g3 T3 H3 σ ((x1.trans x2).trans x3) R3 hk⟩
  obtain ⟨src, c⟩ := q
  cases c with
  | dct kvs =>
    obtain ⟨kok, hl, ok, hp⟩ := hk
    obtain ⟨a1, e1, rc, put⟩ := place_ct Gd R3 (src_later rs.1 x3 (.inr (sm3 sk))) ok hp
    have rc : RDc B T3 H3 a1 kvs := rc
    refine ⟨a1, e1, fun pins σ' s iv u' I ri rv' => ?_⟩
    obtain ⟨dv, _, hs⟩ := dv_of ob I R3 rc.rd kok rw3 ri
    refine g_setItem ob nl hu I hs (rc_mut nl rc) hl dv (RD.ext (x2.trans x3) _ _ rv) rv' fun o' s' I' rc' => ?_
    obtain ⟨r1, g4, R4, hk⟩ := put o' rc'
    exact ⟨_, I', hq .nx r1 g4 T3 _ σ ((x1.trans x2).trans x3) R4 hk⟩
  | _ => exact hk.elim
def rDel (X : Cx) : V → V → Hp → (Hp → Prop) → Prop := fun x y H Q => ∃ a : Addr, x = .ref a ∧ ∀ (pins : List (Addr × Obj)) (σ : L2.St) (s : Shared) (u : Value), Inv X pins σ H s → RelV y u →
  wpAny (model X.prog X.w) X.A (delItem (.ref a) u) (fun _ s' => ∃ H', Inv X pins σ H' s' ∧ Q H') X.xe s
theorem ps_del {td ty : TE} {tpos : Pos} (ho : PE X o td) (hi : PE X k ty) : PS X (.Delete [.Subscript o k tpos] pos) (fun D σ H => td σ H fun x H1 => ty σ H1 fun y H2 => rDel X x y H2 fun H3 => D.nx σ H3) := by
  refine ⟨fun pins s σ H D I h => wpAny_Delete (wpAny_deleteEach_cons (wpAny_delete_Subscript (thn (ho.run pins s σ H _ I h) fun v s1 ⟨x, H1, I1, rx, q1⟩ => thn (hi.run pins s1 σ H1 _ I1 q1) fun iv s2 ⟨y, H2, I2, ry, z, ex, q2⟩ => ?_)))⟩
  subst ex
  cases rx
  exact thn (q2 pins σ s2 iv I2 ry) fun _ s3 ⟨H3, I3, q3⟩ => wpAny_deleteEach_nil ⟨σ, H3, I3, q3⟩
theorem s_ddel {p : Pl} {tpos : Pos} (Gd : Good B n) (ob : OnB B X) (nl : B.lk = none) (hu : X.A.units + 200 < cLine) (ho : PE X o (tP B C W p)) (hk' : PE X k (tE B C W ek)) (sk : simE ek = true) : PS X (.Delete [.Subscript o k tpos] pos) (tS B C W (.ddel p ek)) := by
  refine PS.imp (ps_del ho hk') fun D σ H ⟨T, g, r, K, R, hw, hq⟩ => ?_
  refine ⟨T, g, r, fun q g1 => wE B.P C ek r g1 (fun kd g2 => match q.2 with
      | .dct kvs => keysOk kvs kd = true ∧ (dGet kvs kd).isSome = true ∧ q.1.okC (.dct kvs) r g2 ∧ putC q.1 (.dct (dDel kvs kd)) r g2 fun r1 g3 => K .nx r1 g3
      | _ => False) fun c g1 => K (.exc c) r g1, _, R, hw, fun q g1 T1 H1 u x1 R1 ⟨ru, rs⟩ _ hk => ?_, fun c g1 T1 H1 x1 R1 hk => hq (.exc c) r g1 T1 H1 σ x1 R1 hk⟩
  refine ⟨T1, g1, r, _, _, R1, hk, fun kd g3 T3 H3 w x3 R3 rw3 sm3 hk => ?_, fun c g3 T3 H3 x3 R3 hk => hq (.exc c) r g3 T3 H3 σ (x1.trans x3) R3 hk⟩
  obtain ⟨src, c⟩ := q
  cases c with
  | dct kvs =>
    obtain ⟨kok, hsm, ok, hp⟩ := hk
    obtain ⟨a1, e1, rc, put⟩ := place_ct Gd R3 (src_later rs.1 x3 (.inr (sm3 sk))) ok hp
    have rc : RDc B T3 H3 a1 kvs := rc
    refine ⟨a1, e1, fun pins σ' s iv I ri => ?_⟩
    obtain ⟨dv, hz, hs⟩ := dv_of ob I R3 rc.rd kok rw3 ri
    refine g_delItem ob nl hu I hs (rc_mut nl rc) hz dv hsm fun o' s' I' rc' => ?_
    obtain ⟨r1, g4, R4, hk⟩ := put o' rc'
    exact ⟨_, I', hq .nx r1 g4 T3 _ σ (x1.trans x3) R4 hk⟩
  | _ => exact hk.elim
end
end Vb

set_option maxHeartbeats 2000000
/-! The plain layer: sorted lists, list.index, dicts out of pairs, lists unpacked. -/
namespace Vb
open PySem L2 PySem.Spec PyProof.Rows
variable {B : Bd} {C : Call} {W : WX} {X : Cx} {pos : Pos} {n : Nms}
variable {T T' : Tm} {g g' : G} {r r' : Rho} {H H' : Hp} {σ σ' : L2.St}
section
variable {a b p k : Expr} {ea eb : E} {ep : Pl}
theorem a_fdw (ha : PE X a (tE B C W ea)) (hb : PE X b (tE B C W eb)) : PE X (.BinOp a .FloorDiv b pos) (tE B C W (.bin .fdw ea eb)) := by
  refine a_bin op_fdivW (fun x y v u T g r H σ K Q R rv ru h f => ?_) ha hb
  obtain ⟨i, j, rfl, rfl⟩ := inv_int h (by decide) (by decide)
  obtain ⟨h1, h⟩ : (0 < j ∧ j.natAbs.log2 < 9000) ∧ K (.int (i / j)) := h
  exact ⟨i, j, rv, ru, h1, f (.int (i / j)) T H _ (Ext.refl T) R rfl (Same.refl H) h⟩
theorem a_mlw (ha : PE X a (tE B C W ea)) (hb : PE X b (tE B C W eb)) : PE X (.BinOp a .Mult b pos) (tE B C W (.bin .mlw ea eb)) := by
  refine a_bin op_mulW (fun x y v u T g r H σ K Q R rv ru h f => ?_) ha hb
  obtain ⟨i, j, rfl, rfl⟩ := inv_int h (by decide) (by decide)
  obtain ⟨h1, h⟩ : (i.natAbs.log2 + j.natAbs.log2 < 1000000) ∧ K (.int (i * j)) := h
  exact ⟨i, j, rv, ru, h1, f (.int (i * j)) T H _ (Ext.refl T) R rfl (Same.refl H) h⟩
/-- l.index(x) -/
theorem findIdx_spec {α : Type} {p : α → Bool} : ∀ {xs : List α} {n : Nat}, xs.findIdx? p = some n → ∃ z, xs[n]? = some z ∧ p z = true ∧ ∀ m z', m < n → xs[m]? = some z' → p z' = false
  | xs, n, h => by
    rw [List.findIdx?_eq_some_iff_getElem] at h
    obtain ⟨h1, h2, h3⟩ := h
    refine ⟨xs[n], by simp [h1], h2, fun m z' hm hz => ?_⟩
    obtain ⟨l, e⟩ := List.getElem?_eq_some_iff.mp hz
    rw [← e]
    have := h3 m hm
    simpa using this
theorem inv_index {c : Cv} {ds : List D} {K : D → Prop} (h : wXb .index c ds K) : ∃ xs d n, c = .seq false xs ∧ ds = [d] ∧ d.flat = true ∧ xs.all D.flat = true ∧ xs.findIdx? (fun y => D.eqv y d) = some n ∧ K (.int (n : Nat)) := by
  unfold wXb at h
  split at h
  · obtain ⟨⟨h1, h2⟩, h3⟩ := h
    split at h3
    · rename_i n e
      exact ⟨_, _, n, rfl, rfl, h1, h2, e, h3⟩
    · exact h3.elim
  · exact h.elim
theorem a_index {apos : Pos} {es : Es} (hK : X.K = B.K) (ho : PE X p (tP B C W ep)) (hk : PA X [k] (tAs B C W es)) (sim : simEs es = true) (nk : notStar k = true) (hb : notSup p = true) (hl : (apos.endLine == pos.line) = true) : PE X (.Call (.Attribute p "index" apos) [k] [] pos) (tE B C W (.xb .index ep es)) := by
  have ns : [k].all notStar = true := by simp [nk]
  refine PE.imp (pe_bm PySem.F.plainAttrs_list PySem.F.slot_list_index PySem.F.type_list_index mt_index ho hk (base_sup hb) (few_call ns (by simp)) hl (star_cons nk) rfl) fun σ H Q ⟨T, g, r, Ke, Xe, R, hw, hq, hx⟩ => ?_
  refine ⟨T, g, r, fun q g1 => xbOk .index q.2 = true ∧ wEs B.P C es r g1 (fun ds g2 => wXb .index q.2 ds fun z => Ke z g2) Xe, Xe, R, hw, fun q g1 T1 H1 v x1 R1 ⟨rv, rs⟩ sm hk => ?_, hx⟩
  obtain ⟨src, c⟩ := q
  rw [hK]
  obtain ⟨hok, hk⟩ := hk
  have inv : ∃ xs, c = .seq false xs := by
    cases c with
    | seq t xs =>
      cases t with
      | false => exact ⟨xs, rfl⟩
      | true => cases hok
    | _ => cases hok
  obtain ⟨xs, rfl⟩ := inv
  have tv : tyV B.K "list" v H1 := by
    obtain ⟨a', vs, e1, sq, _⟩ := rv
    subst e1
    exact .inl ⟨rfl, vs, sq⟩
  refine ⟨tv, T1, g1, r, _, Xe, R1, hk, fun ds g2 T2 H2 us x2 R2 ru sm2 hk => ?_, fun c g' T' H' e R' => hx c g' T' H' (x1.trans e) R'⟩
  obtain ⟨xs', d, m, e1, rfl, f1, f2, e2, hk⟩ := inv_index hk
  cases e1
  obtain ⟨u, rfl, rd⟩ : ∃ u, us = [u] ∧ RD B T2 d u := by
    obtain ⟨y, ys, h1, h2, h3⟩ := ru
    exact ⟨y, by rw [h1, show ys = [] from h3], h2⟩
  obtain ⟨a', vs, rfl, sq, rvs⟩ := rv
  obtain ⟨z, z1, z2, z3⟩ := findIdx_spec e2
  have rvs2 := RDs.ext x2 _ _ rvs
  obtain ⟨w, w1, w2⟩ := rvs2.get z1
  have fz : z.flat = true := List.all_eq_true.mp f2 z (List.mem_of_getElem? z1)
  have sq2 : SqL B.K H2 a' vs := (sm2 sim).seq sq
  refine ⟨a', vs, u, m, w, rfl, rfl, sq2, flat_V rd f1, flats_V rvs2 f2, w1, ?_, fun j w' hj hw' => ?_, ?_⟩
  · rw [flat_eqv w2 rd fz f1]
    exact z2
  · have lj : j < xs.length := by
      have := (List.getElem?_eq_some_iff.mp hw').1
      rw [rvs2.length] at this
      exact this
    obtain ⟨w'', q1, q2⟩ := rvs2.get (show xs[j]? = some xs[j] by simp [lj])
    rw [q1] at hw'
    cases hw'
    rw [flat_eqv q2 rd (List.all_eq_true.mp f2 _ (List.getElem_mem lj)) f1]
    exact z3 j _ hj (by simp [lj])
  · exact hq (.int (m : Nat)) g2 T2 H2 _ (x1.trans x2) R2 rfl (fun s => (sm (ands s).1).trans (sm2 (ands s).2)) hk
/-! new containers out of one -/
theorem strs_map : ∀ {xs : List D} {ss : List Str}, strs? xs = some ss → xs = ss.map .str
  | [], ss, h => by cases h; rfl
  | .str s :: r, ss, h => by
    obtain ⟨q, q1, rfl⟩ := Option.map_eq_some_iff.mp (show (strs? r).map (s :: ·) = some ss from h)
    rw [strs_map q1]
    rfl
  | .non :: _, _, h => by cases h
  | .bl _ :: _, _, h => by cases h
  | .int _ :: _, _, h => by cases h
  | .seq _ _ :: _, _, h => by cases h
  | .ref _ :: _, _, h => by cases h
  | .giv _ :: _, _, h => by cases h
theorem ints_map : ∀ {xs : List D} {ss : List Int}, ints? xs = some ss → xs = ss.map .int
  | [], ss, h => by cases h; rfl
  | .int s :: r, ss, h => by
    obtain ⟨q, q1, rfl⟩ := Option.map_eq_some_iff.mp (show (ints? r).map (s :: ·) = some ss from h)
    rw [ints_map q1]
    rfl
  | .non :: _, _, h => by cases h
  | .bl _ :: _, _, h => by cases h
  | .str _ :: _, _, h => by cases h
  | .seq _ _ :: _, _, h => by cases h
  | .ref _ :: _, _, h => by cases h
  | .giv _ :: _, _, h => by cases h
theorem prs_map : ∀ {xs : List D} {ps : List (Int × Int)}, prs? xs = some ps → xs = ps.map prD2
  | [], ps, h => by cases h; rfl
  | x :: r, ps, h => by
    unfold prs? at h
    split at h
    · rename_i e; exact absurd e (by simp)
    · rename_i i j r' e
      cases e
      obtain ⟨q, q1, rfl⟩ := Option.map_eq_some_iff.mp h
      rw [prs_map q1]
      rfl
    · cases h
theorem kvs_map : ∀ {xs : List D} {ps : List (D × D)}, kvs? xs = some ps → xs = ps.map fun p => .seq true [p.1, p.2]
  | [], ps, h => by cases h; rfl
  | x :: r, ps, h => by
    unfold kvs? at h
    split at h
    · rename_i e; exact absurd e (by simp)
    · rename_i i j r' e
      cases e
      obtain ⟨q, q1, rfl⟩ := Option.map_eq_some_iff.mp h
      rw [kvs_map q1]
      rfl
    · cases h
theorem RDs.strs : ∀ {ss : List Str} {vs : List V}, RDs B T (ss.map .str) vs → vs = ss.map V.str
  | [], _, h => h
  | s :: ss, _, h => by
    obtain ⟨y, ys, rfl, h1, h2⟩ := h
    rw [RDs.strs h2, show y = V.str s from h1]
    rfl
theorem RDs.ofStrs : ∀ ss : List Str, RDs B T (ss.map D.str) (ss.map V.str)
  | [] => rfl
  | s :: ss => ⟨_, _, rfl, rfl, RDs.ofStrs ss⟩
theorem RDs.ints' : ∀ {ss : List Int} {vs : List V}, RDs B T (ss.map .int) vs → vs = ss.map V.int
  | [], _, h => h
  | s :: ss, _, h => by
    obtain ⟨y, ys, rfl, h1, h2⟩ := h
    rw [RDs.ints' h2, show y = V.int s from h1]
    rfl
/-- what a new container's maker is to answer -/
def XcOk (B : Bd) (X : Cx) (b : Xc) (r : List V → Hp → VK → Prop) : Prop := ∀ (T : Tm) (g : G) (rr : Rho) (H : Hp) (σ : L2.St) (a : Addr) (vs : List V) (xs : List D) (K : Ct → Prop) (Q : VK), RR B T g rr H σ → SqL X.K H a vs → RDs B T xs vs → wXc b (.seq false xs) K →
  (∀ ct p o, H p = none → RCt B T (upd H p o) p ct → K ct → Q (.ref p) (upd H p o)) → r [.ref a] H Q
theorem c_one {b : Xc} {r : List V → Hp → VK → Prop} (ok : XcOk B X b r) (hK : X.K = B.K) {call : Expr} (hc : PE X call (fun σ H Q => tP B C W ep σ H fun x H1 => r [x] H1 Q)) (bad : ∀ c K, wXc b c K → ∃ xs, c = .seq false xs) : PE X call (tC B C W (.xc b ep)) := by
  refine PE.imp hc fun σ H Q ⟨T, g, rr, Ke, Xe, R, hw, hq, hx⟩ => ?_
  refine ⟨T, g, rr, fun q g1 => wXc b q.2 fun ct => Ke ct g1, Xe, R, hw, fun q g1 T1 H1 v x1 R1 ⟨rv, _⟩ sm hk => ?_, hx⟩
  obtain ⟨s, c⟩ := q
  obtain ⟨xs, rfl⟩ := bad _ _ hk
  obtain ⟨a, vs, rfl, f, rs⟩ := rv
  refine ok T1 g1 rr H1 σ a vs xs _ Q R1 (hK ▸ f) rs hk fun ct p o np rc hk => ?_
  exact hq ct g1 T1 _ _ x1 (R1.loose np o) ⟨p, rfl, R1.fresh np, rc⟩ (fun s => (sm s).trans (Same.upd np)) hk
theorem bad_srti {c : Cv} {K : Ct → Prop} (h : wXc .srti c K) : ∃ xs, c = .seq false xs := by
  cases c with
  | seq t xs => cases t with
    | false => exact ⟨xs, rfl⟩
    | true => exact h.elim
  | _ => exact h.elim
theorem bad_srtp {c : Cv} {K : Ct → Prop} (h : wXc .srtp c K) : ∃ xs, c = .seq false xs := by
  cases c with
  | seq t xs => cases t with
    | false => exact ⟨xs, rfl⟩
    | true => exact h.elim
  | _ => exact h.elim
theorem bad_srts {c : Cv} {K : Ct → Prop} (h : wXc .srts c K) : ∃ xs, c = .seq false xs := by
  cases c with
  | seq t xs => cases t with
    | false => exact ⟨xs, rfl⟩
    | true => exact h.elim
  | _ => exact h.elim
theorem bad_dprs {c : Cv} {K : Ct → Prop} (h : wXc .dprs c K) : ∃ xs, c = .seq false xs := by
  cases c with
  | seq t xs => cases t with
    | false => exact ⟨xs, rfl⟩
    | true => exact h.elim
  | _ => exact h.elim
theorem ok_srti : XcOk B X .srti (rSortedI X.K) := by
  intro T g rr H σ a vs xs K Q R sq rs hk hq
  have hk : (match ints? xs with | some ns => ∀ ms : List Int, ms.Perm ns → ms.Pairwise (· ≤ ·) → K (.lst (ms.map .int)) | none => False) := hk
  cases e : ints? xs with
  | none => rw [e] at hk; exact hk.elim
  | some ns =>
    rw [e] at hk
    have ev := RDs.ints rs e
    refine ⟨a, ns, rfl, ev ▸ sq, fun ms p h1 h2 np => ?_⟩
    exact hq (.lst (ms.map .int)) p _ np ⟨_, upd_same, RDs.ofInts ms⟩ (hk ms h1 h2)
theorem ok_srts : XcOk B X .srts (rSortedS X.K) := by
  intro T g rr H σ a vs xs K Q R sq rs hk hq
  have hk : (match strs? xs with | some ss => ss.length < 64 ∧ ∀ ts : List Str, ts.Perm ss → PyProof.Rows.sortedS ts = true → K (.lst (ts.map .str)) | none => False) := hk
  cases e : strs? xs with
  | none => rw [e] at hk; exact hk.elim
  | some ss =>
    rw [e] at hk
    obtain ⟨k1, k2⟩ := hk
    have ex := strs_map e
    subst ex
    have ev := RDs.strs rs
    refine ⟨a, ss, rfl, ev ▸ sq, k1, fun ms p h1 h2 np => ?_⟩
    exact hq (.lst (ms.map .str)) p _ np ⟨_, upd_same, RDs.ofStrs ms⟩ (k2 ms h1 h2)
/-! pairs of ints, any tuples -/
def rSortedPS (K : PySem.W.Frag) : List V → Hp → VK → Prop := fun vs H Q => ∃ (a : Addr) (xs : List V) (ps : List (Int × Int)) (Rl : V → Int × Int → Prop), vs = [V.ref a] ∧ SqL K H a xs ∧ (∀ x p, Rl x p → ∃ t, x = V.ref t ∧ SqT K H t [.int p.1, .int p.2]) ∧ Paired Rl xs ps ∧
  ∀ zs qs p, Paired Rl zs qs → qs.Perm ps → qs.Pairwise lexle → H p = none → Q (.ref p) (upd H p (.lst zs))
theorem paired_of {α β : Type} {Rl : α → β → Prop} {k : α → β} : ∀ {zs : List α}, (∀ z ∈ zs, Rl z (k z)) → Paired Rl zs (zs.map k)
  | [], _ => .nil
  | z :: zs, h => .cons (h z List.mem_cons_self) (paired_of fun y hy => h y (List.mem_cons_of_mem _ hy))
theorem paired_mem {α β : Type} {Rl : α → β → Prop} {xs : List α} {ps : List β} (h : Paired Rl xs ps) : ∀ x ∈ xs, ∃ p, Rl x p := by
  induction h with
  | nil => intro x hx; cases hx
  | cons h1 _ ih =>
    intro x hx
    rcases List.mem_cons.mp hx with rfl | hx
    · exact ⟨_, h1⟩
    · exact ih x hx
theorem paired_eq {α β : Type} {Rl : α → β → Prop} {k : α → β} (f : ∀ x p, Rl x p → k x = p) {xs : List α} {ps : List β} (h : Paired Rl xs ps) : xs.map k = ps := by
  induction h with
  | nil => rfl
  | cons h1 _ ih => rw [List.map_cons, f _ _ h1, ih]
open Classical in
theorem cr_sortedPS : CallR X (.builtin "sorted") (rSortedPS X.K) := by
  intro pins s σ H vs us Q I r h
  obtain ⟨a, xs, ps, Rl, rfl, hs, hRl, hp, q⟩ := h
  obtain ⟨its, rv, hl, hz⟩ := I.list hs
  obtain ⟨u, rfl, ru⟩ := vals1 r
  obtain rfl : u = Value.ref a := ru
  let k : V → Int × Int := fun v => if h : ∃ p, Rl v p then h.choose else (0, 0)
  have hk : ∀ x p, Rl x p → Rl x (k x) := fun x p h => by
    have ex : ∃ p, Rl x p := ⟨p, h⟩
    show Rl x (if h : ∃ p, Rl x p then h.choose else (0, 0))
    rw [dif_pos ex]
    exact ex.choose_spec
  have hk2 : ∀ x p, Rl x p → k x = p := fun x p h => by
    obtain ⟨t, e, s1⟩ := hRl _ _ (hk x p h)
    obtain ⟨t', e', s2⟩ := hRl _ _ h
    rw [e] at e'
    cases e'
    have := I.tuple_inj s1 s2
    simp at this
    exact Prod.ext this.1 this.2
  have hx : ∀ x ∈ xs, ∃ t, x = V.ref t ∧ SqT X.K H t [.int (k x).1, .int (k x).2] := fun x m => by
    obtain ⟨p, h⟩ := paired_mem hp x m
    exact hRl _ _ (hk x p h)
  obtain ⟨e1, e2⟩ := refs_back rv fun x m => by
    obtain ⟨t, e, _⟩ := hx x m
    exact ⟨t, e⟩
  refine SrtO.sorted_pairsO (k := fun u => k (backV u)) hl.isList (by rw [← rv.length]; exact hz) (fun v hv => ?_) fun h' d out h1 h2 kp hd hn => ?_
  · obtain ⟨t, rfl⟩ := e2 v hv
    have hm : V.ref t ∈ xs := by rw [e1]; exact List.mem_map.mpr ⟨_, hv, rfl⟩
    obtain ⟨t', e, ht⟩ := hx _ hm
    cases e
    obtain ⟨its2, r2, ⟨o, ho, hc, n, hd⟩, _⟩ := I.tuple ht
    obtain ⟨u1, u2, rfl, ri, rj⟩ := vals2 r2
    obtain ⟨t1, rfl⟩ := ri
    obtain ⟨t2, rfl⟩ := rj
    exact ⟨t, o, t1, t2, n, rfl, ho, hc, hd⟩
  · have h3 : ∀ u ∈ out, ∃ a, u = Value.ref a := fun u hu => e2 u (h2.perm.mem_iff.mp hu)
    obtain ⟨n, hn⟩ := hn
    have hb : SrtO.Stb (ltP k) (out.map backV) xs := by
      rw [e1]
      exact SrtO.Stb.map (ltP_swo k) backV h2
    have hs := SrtO.srtd_map (f := backV) (lt := ltP k) h1
    refine ⟨.ref d, upd H d (.lst (out.map backV)), I.laid (t' := s.toks) kp hd ⟨?_, out, n, vals_back h3, hn⟩, rfl, q _ ((out.map backV).map k) d (paired_of fun z hz => ?_) ?_ ?_ (I.hok.fresh hd)⟩
    · rw [hb.len]
      exact hz
    · obtain ⟨p, h⟩ := paired_mem hp z (hb.perm.mem_iff.mp hz)
      exact hk z p h
    · have := hb.perm.map k
      rw [paired_eq hk2 hp] at this
      exact this
    · refine List.pairwise_map.mpr (List.Pairwise.imp (fun {x y} h => ?_) hs)
      have := SrtO.lexB_no.mp h
      unfold lexle
      omega
theorem paired_prs {Rl : V → Int × Int → Prop} (f : ∀ x p, RD B T (prD2 p) x → Rl x p) : ∀ {ps : List (Int × Int)} {vs : List V}, RDs B T (ps.map prD2) vs → Paired Rl vs ps
  | [], _, h => by rw [show _ = [] from h]; exact .nil
  | p :: ps, vs, h => by
    obtain ⟨y, ys, rfl, h1, h2⟩ := h
    exact .cons (f _ _ h1) (paired_prs f h2)
theorem rds_prs : ∀ {qs : List (Int × Int)} {zs : List V}, Paired (fun x p => RD B T (prD2 p) x) zs qs → RDs B T (qs.map prD2) zs := by
  intro qs zs h
  induction h with
  | nil => exact rfl
  | cons h1 _ ih => exact ⟨_, _, rfl, h1, ih⟩
theorem ok_srtp (hK : X.K = B.K) : XcOk B X .srtp (rSortedPS X.K) := by
  intro T g rr H σ a vs xs K Q R sq rs hk hq
  have hk2 : (match prs? xs with | some ps => ∀ qs : List (Int × Int), qs.Perm ps → qs.Pairwise lexle → K (.lst (qs.map prD2)) | none => False) := hk
  cases e : prs? xs with
  | none => rw [e] at hk2; exact hk2.elim
  | some ps =>
    rw [e] at hk2
    clear hk
    dsimp only at hk2
    have ex := prs_map e
    subst ex
    refine ⟨a, vs, ps, fun x p => RD B T (prD2 p) x, rfl, sq, fun x p h => ?_, paired_prs (fun _ _ h => h) rs, fun zs qs p h1 h2 h3 np => ?_⟩
    · obtain ⟨t, us, rfl, f, ru⟩ := h
      obtain ⟨y1, ys1, rfl, q1, y2, ys2, rfl, q2, q3⟩ := ru
      obtain rfl : y1 = V.int p.1 := q1
      obtain rfl : y2 = V.int p.2 := q2
      obtain rfl : ys2 = [] := q3
      exact ⟨t, rfl, hK ▸ R.fzT f⟩
    · exact hq (.lst (qs.map prD2)) p _ np ⟨_, upd_same, rds_prs h1⟩ (hk2 qs h2 h3)
/-! dict(l), l a list of pairs -/
theorem rkv_split (R : RR B T g r H σ) : ∀ {kvs : List (D × D)} {vs : List V}, (kvs.all fun p => p.1.keyF) = true → RDs B T (kvs.map fun p => .seq true [p.1, p.2]) vs → ∃ (ps : List Addr) (ks : List (Key × V)), vs = ps.map V.ref ∧ Paired (fun p kv => SqT B.K H p [kV kv.1, kv.2]) ps ks ∧ Paired (KfR B T) kvs ks
  | [], vs, _, h => by
    rw [show vs = [] from h]
    exact ⟨[], [], rfl, .nil, .nil⟩
  | (k, z) :: kvs, vs, hf, h => by
    obtain ⟨y, ys, rfl, h1, h2⟩ := h
    rw [List.all_cons, Bool.and_eq_true] at hf
    obtain ⟨ps, ks, rfl, i2, i3⟩ := rkv_split R hf.2 h2
    obtain ⟨t, us, rfl, f, ru⟩ := h1
    obtain ⟨y1, ys1, rfl, q1, y2, ys2, rfl, q2, q3⟩ := ru
    obtain rfl : ys2 = [] := q3
    obtain ⟨kk, rfl⟩ := keyF_kF hf.1
    obtain rfl := kF_v q1
    exact ⟨t :: ps, (kk, y2) :: ks, rfl, .cons (R.fzT f) i2, .cons ⟨rfl, q2⟩ i3⟩
theorem kf_merge : ∀ {more : List (D × D)} {ms : List (Key × V)} {kvs : List (D × D)} {ks : List (Key × V)}, Paired (KfR B T) more ms → Paired (KfR B T) kvs ks → Paired (KfR B T) (more.foldl (fun d p => dPut d p.1 p.2) kvs) (mergeK ks ms) := by
  intro more ms kvs ks h
  induction h generalizing kvs ks with
  | nil => intro q; exact q
  | @cons p q ps qs h1 _ ih =>
    intro h2
    have := kf_put h2 q.1 h1.2
    rw [← h1.1] at this
    exact ih this
def rDprs (X : Cx) : List V → Hp → VK → Prop := fun xs H Q => ∃ (a : Addr) (ps : List Addr) (kvs : List (Key × V)), xs = [.ref a] ∧ SqL X.K H a (ps.map V.ref) ∧ Paired (fun p kv => SqT X.K H p [kV kv.1, kv.2]) ps kvs ∧
    ∀ p, H p = none → Q (.ref p) (upd H p (.dK (mergeK [] kvs)))
theorem ok_dprs (nl : B.lk = none) (hK : X.K = B.K) : XcOk B X .dprs (rDprs X) := by
  intro T g rr H σ a vs xs K Q R sq rs hk hq
  have hk2 : (match kvs? xs with | some kvs => (kvs.all fun p => p.1.keyF) = true ∧ K (.dct (kvs.foldl (fun d p => dPut d p.1 p.2) [])) | none => False) := hk
  cases e : kvs? xs with
  | none => rw [e] at hk2; exact hk2.elim
  | some kvs =>
    rw [e] at hk2
    clear hk
    dsimp only at hk2
    have ex := kvs_map e
    subst ex
    obtain ⟨ps, ks, rfl, p1, p2⟩ := rkv_split R hk2.1 rs
    refine ⟨a, ps, ks, rfl, sq, hK ▸ p1, fun p np => ?_⟩
    exact hq (.dct _) p _ np (show RDc B T _ p _ from .inl ⟨_, .inl ⟨(by rw [nl]; exact fun z => nomatch z), upd_same⟩, kf_merge p2 .nil⟩) hk2.2
/-! the makers -/
theorem c_srti {p0 : Pos} (hK : X.K = B.K) (hg : Gl X "sorted") (hm : X.mg "sorted" = none) (ha : PE X a (tP B C W ep)) (ns : notStar a = true) : PE X (.Call (.Name "sorted" p0) [a] [] pos) (tC B C W (.xc .srti ep)) :=
  c_one ok_srti hK (blt1 cr_sortedI hg hm (by decide +kernel) (by decide) (by decide) ha ns) fun _ _ => bad_srti
theorem c_srts {p0 : Pos} (hK : X.K = B.K) (hg : Gl X "sorted") (hm : X.mg "sorted" = none) (ha : PE X a (tP B C W ep)) (ns : notStar a = true) : PE X (.Call (.Name "sorted" p0) [a] [] pos) (tC B C W (.xc .srts ep)) :=
  c_one ok_srts hK (blt1 cr_sortedS hg hm (by decide +kernel) (by decide) (by decide) ha ns) fun _ _ => bad_srts
theorem c_srtp {p0 : Pos} (hK : X.K = B.K) (hg : Gl X "sorted") (hm : X.mg "sorted" = none) (ha : PE X a (tP B C W ep)) (ns : notStar a = true) : PE X (.Call (.Name "sorted" p0) [a] [] pos) (tC B C W (.xc .srtp ep)) :=
  c_one (ok_srtp hK) hK (blt1 cr_sortedPS hg hm (by decide +kernel) (by decide) (by decide) ha ns) fun _ _ => bad_srtp
theorem c_dprs {p0 : Pos} (nl : B.lk = none) (hc : X.calm = true) (hK : X.K = B.K) (hg : Gl X "dict") (hm : X.mg "dict" = none) (ha : PE X a (tP B C W ep)) (ns : notStar a = true) : PE X (.Call (.Name "dict" p0) [a] [] pos) (tC B C W (.xc .dprs ep)) :=
  c_one (ok_dprs nl hK) hK (blt1T (call_dictP hc) hg hm (by decide +kernel) (by decide) (by decide) ha ns) fun _ _ => bad_dprs
/-! a list unpacked -/
theorem s_setlst {is : List Nat} {es : List Expr} {k : Nat} {pt : Pos} {p : Pl} (hK : X.K = B.K) (hg : PG X (.Tuple es k pt) (gUnl X.K is.length (gNs is))) (ha : PE X a (tP B C W p)) (nt : notTup a = true) : PS X (.Assign [.Tuple es k pt] a pos) (tS B C W (.setlst is p)) := by
  have hw : swappedStores [.Tuple es k pt] a X.env = pure none := by cases a <;> first | rfl | cases nt
  refine PS.imp (ps_asg ha hg (sw_tup (es := es) (k := k) (p := pt) (l := pos.line) (env := X.env)) hw) fun D σ H ⟨T, g, r, K, R, hw, hq⟩ => ?_
  refine ⟨T, g, r, fun q g1 => (match q.2 with | .seq false xs => (match bindT (.tup is) (.seq true xs) r with | some r1 => K .nx r1 g1 | none => False) | _ => False), _, R, hw, fun q g1 T1 H1 v x1 R1 ⟨rv, _⟩ _ hk => ?_, fun c g1 T1 H1 x1 R1 hk => hq (.exc c) r g1 T1 H1 σ x1 R1 hk⟩
  obtain ⟨src, c⟩ := q
  cases c with
  | seq t xs =>
    cases t with
    | true => exact hk.elim
    | false =>
      dsimp only at hk
      split at hk
      · rename_i r1 hb
        unfold bindT at hb
        dsimp only at hb
        split at hb
        · rename_i hl
          cases hb
          obtain ⟨a', vs, rfl, f, rs⟩ := rv
          exact ⟨a', vs, rfl, hK ▸ f, by rw [rs.length]; exact hl, gNs_ok is xs vs r σ R1 rs hl fun σ' R' _ => hq .nx _ g1 T1 H1 σ' x1 R' hk⟩
        · cases hb
      · exact hk.elim
  | _ => exact hk.elim
end
end Vb

set_option maxHeartbeats 2000000
/-! The plain layer: a dict is walked. -/
namespace Vb
open PySem L2 PySem.Spec PyProof.Rows
def Bd.lock (B : Bd) (d : Addr) : Bd := { B with lk := some d }
variable {B : Bd} {C : Call} {W : WX} {X : Cx} {pos : Pos} {n : Nms}
variable {T T' : Tm} {g g' : G} {r r' : Rho} {H H' : Hp} {σ σ' : L2.St}
section
variable {B' : Bd} (eK : B'.K = B.K) (eP : B'.prog = B.prog) (eW : B'.w = B.w) (ea : B'.an = B.an) (ec : B'.cad = B.cad) (eP' : B'.P = B.P)
include eK
theorem FzS.other {t : Bool} {a : Addr} {vs : List V} (h : FzS B T t a vs) : FzS B' T t a vs := by
  rcases h with h | h
  · exact .inl h
  · exact .inr (by rw [eK]; exact h)
theorem GvS.other {a : Addr} {vs : List V} (h : GvS B T a vs) : GvS B' T a vs := by
  rcases h with h | h
  · exact .inl h
  · exact .inr (by rw [eK]; exact h)
mutual
theorem RD.other : ∀ (d : D) (v : V), RD B T d v → RD B' T d v
  | .non, _, q => q
  | .bl _, _, q => q
  | .int _, _, q => q
  | .str _, _, q => q
  | .seq t xs, v, q => by
    obtain ⟨a, vs, h1, h2, h3⟩ := q
    exact ⟨a, vs, h1, FzS.other eK h2, RDs.other xs vs h3⟩
  | .ref _, _, q => q
  | .giv _, _, q => by
    obtain ⟨a, h1, h2⟩ := q
    exact ⟨a, h1, GvS.other eK h2⟩
theorem RDs.other : ∀ (d : List D) (v : List V), RDs B T d v → RDs B' T d v
  | [], _, q => q
  | x :: xs, v, q => by
    obtain ⟨y, ys, h1, h2, h3⟩ := q
    exact ⟨y, ys, h1, RD.other x y h2, RDs.other xs ys h3⟩
end
end
/-! into the lock and out of it -/
section
variable {B' : Bd} (eK : B'.K = B.K) (eP : B'.prog = B.prog) (eW : B'.w = B.w) (ea : B'.an = B.an) (ec : B'.cad = B.cad) (eP' : B'.P = B.P) (eh : B'.hx = B.hx)
include eK eP eW
theorem RCt.other (hA : ∀ a u, At B H a u → At B' H' a u) {a : Addr} (hL : ∀ vs, H a = some (.lst vs) → H' a = some (.lst vs)) : ∀ {c : Ct}, RCt B T H a c → RCt B' T H' a c
  | .lst xs, q => by
    obtain ⟨vs, e, rs⟩ := q
    exact ⟨vs, hL vs e, RDs.other eK xs vs rs⟩
  | .dct _, q => by
    rcases (show RDc B T H a _ from q) with ⟨ks, q1, q2⟩ | ⟨xs, q0, q1, q2⟩
    · exact .inl ⟨ks, hA _ _ q1, Paired.mapP q2 fun _ _ z => ⟨z.1, RD.other eK _ _ z.2⟩⟩
    · exact .inr ⟨xs, q0, by rw [eP, eW]; exact hA _ _ q1, Paired.mapP q2 fun _ _ z => ⟨z.1, z.2.1, RD.other eK _ _ z.2.2.1, RD.other eK _ _ z.2.2.2⟩⟩
theorem RSl.other (hA : ∀ a u, At B H a u → At B' H' a u) (hL : ∀ a vs, H a = some (.lst vs) → H' a = some (.lst vs)) {pl : Tag} {s : Sl} {v : V} (q : RSl B T H pl s v) : RSl B' T H' pl s v := by
  cases s with
  | val d => exact RD.other eK d v q
  | own c =>
    obtain ⟨a, h1, h2, h3⟩ := q
    exact ⟨a, h1, h2, RCt.other eK eP eW hA (hL a) h3⟩
  | exc c => exact q
include ea ec eP'
theorem ROb.other (hA : ∀ a u, At B H a u → At B' H' a u) (hL : ∀ a vs, H a = some (.lst vs) → H' a = some (.lst vs)) (hI : ∀ a C dx vs, H a = some (.ins C dx vs) → H' a = some (.ins C dx vs)) {i : Id} {a : Addr} {o : Ob} (hX : ∀ kvs ob u, o = .lkd kvs ob u → H a = some (.frz ob u) → H' a = some (.frz ob u)) (q : ROb B T H i a o) : ROb B' T H' i a o := by
  cases o with
  | lkd kvs ob u =>
    refine ⟨hX _ _ _ rfl q.1, ?_⟩
    rcases q.2 with ⟨ks, q1, q2⟩ | ⟨xs, q0, q1, q2⟩
    · exact .inl ⟨ks, q1, Paired.mapP q2 fun _ _ z => ⟨z.1, RD.other eK _ _ z.2⟩⟩
    · exact .inr ⟨xs, q0, by rw [eP, eW]; exact q1, Paired.mapP q2 fun _ _ z => ⟨z.1, z.2.1, RD.other eK _ _ z.2.2.1, RD.other eK _ _ z.2.2.2⟩⟩
  | ct c => exact RCt.other eK eP eW hA (hL a) q
  | ins c fs =>
    obtain ⟨dx, vs, h1, h0, h2⟩ := q
    exact ⟨dx, vs, by rw [ec]; exact hI _ _ _ _ h1, by rw [eP']; exact h0, Paired.mapP h2 fun p q z => ⟨by rw [ea]; exact z.1, RSl.other eK eP eW hA hL z.2⟩⟩
include eh
theorem RR.other (hA : ∀ a u, At B H a u → At B' H' a u) (hL : ∀ a vs, H a = some (.lst vs) → H' a = some (.lst vs)) (hI : ∀ a C dx vs, H a = some (.ins C dx vs) → H' a = some (.ins C dx vs))
    (hF : ∀ a u, T.at_ a = some (.fz u) ∨ T.at_ a = some (.fr u) → H' a = H a) (hT : ∀ a o, H a = some o → ∃ o', H' a = some o') (hX : ∀ i a kvs ob u, g i = some (.lkd kvs ob u) → T.at_ a = some (.id i) → H a = some (.frz ob u) → H' a = some (.frz ob u)) (R : RR B T g r H σ) : RR B' T g r H' σ := by
  refine ⟨R.hx.trans eh.symm, R.len, fun a u h => (hF a u (.inl h)).trans (R.fz a u h), fun a u h => (hF a u (.inr h)).trans (R.fr a u h), fun a t h => ?_, R.inj, R.dom, fun i o h => ?_, fun j s h => ?_⟩
  · obtain ⟨o, e⟩ := R.tg a t h
    exact hT a o e
  · obtain ⟨a, h1, h2⟩ := R.obj i o h
    exact ⟨a, h1, ROb.other eK eP eW ea ec eP' hA hL hI (fun kvs ob u e => hX i a kvs ob u (e ▸ h) h1) h2⟩
  · obtain ⟨v, h1, h2⟩ := R.slt j s h
    exact ⟨v, h1, RSl.other eK eP eW hA hL h2⟩
end
/-- a tag that no frozen thing has -/
def Tag.live : Tag → Bool
  | .fz _ => false
  | .fr _ => false
  | _ => true
/-! where a dict lies -/
def Src.tag : Src → Option Tag
  | .obj i => some (.id i)
  | .loc j => some (.loc j)
  | .fld i f => some (.fld i f)
  | _ => none
theorem place_dct (Gd : Good B n) (R : RR B T g r H σ) {s : Src} {kvs : List (D × D)} (ok : s.okC (.dct kvs) r g) (ns : s.tag ≠ none) (hf : ∀ i f, s = .fld i f → ∃ x, B.an[f]? = some x) : ∃ d t, s.tag = some t ∧ t.live = true ∧ T.at_ d = some t ∧ RDc B T H d kvs ∧ RSrc B T H σ (.ref d) s ∧ ∀ v, RSrc B T H σ v s → v = .ref d := by
  cases s with
  | no => exact absurd rfl ns
  | giv => exact absurd rfl ns
  | obj i =>
    obtain ⟨a, h1, h2⟩ := R.obj i _ ok
    exact ⟨a, _, rfl, rfl, h1, h2, ⟨a, rfl, h1⟩, fun v ⟨a', e, h⟩ => by rw [e, R.inj a' a i h h1]⟩
  | loc j =>
    have ok : r[j]? = some (some (.own (.dct kvs))) := ok
    obtain ⟨v, h1, a', rfl, ha, hc⟩ := R.slt j _ ok
    exact ⟨a', _, rfl, rfl, ha, hc, ⟨a', rfl, h1⟩, fun v ⟨a, e, h⟩ => by rw [h1] at h; cases h; rfl⟩
  | fld i f =>
    obtain ⟨cl, fs, eg, ef⟩ := ok
    obtain ⟨x, hx⟩ := hf i f rfl
    obtain ⟨b, hb, dx', ws', h1, h0, h2⟩ := R.obj i _ eg
    obtain ⟨v', l1, a', rfl, ha, hc⟩ := (h2.get Gd.an hx).1 _ ef
    refine ⟨a', _, rfl, rfl, ha, hc, ⟨a', b, _, dx', ws', x, rfl, hb, h1, hx, l1⟩, ?_⟩
    rintro v ⟨a, b2, CC, dx, ws, y, rfl, hb2, eb, hy, hl⟩
    have : b2 = b := R.inj b2 b i hb2 hb
    subst this
    rw [h1] at eb
    cases eb
    rw [hx] at hy
    cases hy
    rw [l1] at hl
    exact (Option.some.inj hl).symm
/-- what an evaluator tells of a dict's place -/
theorem evP_okC {P : Pg} {p : Pl} {s : Src} {kvs : List (D × D)} (h : evP P p r g = some (s, .dct kvs)) (hb : s.ctB g = true) : s.okC (.dct kvs) r g ∧ s.tag ≠ none := by
  cases p with
  | v e =>
    obtain ⟨d, h1, h2⟩ := bnd h
    obtain ⟨c, h3, h4⟩ := Option.map_eq_some_iff.mp h2
    cases h4
    cases d with
    | ref i =>
      have h3 : (match g i with | some (.ct c) => some c.cv | some (.lkd k _ _) => some (.dct k) | _ => none) = some (Cv.dct kvs) := h3
      split at h3
      · rename_i c e
        cases c with
        | lst xs => cases h3
        | dct k =>
          cases h3
          exact ⟨e, by intro z; cases z⟩
      · rename_i k o u e
        have hb : (match g i with | some (.ct _) => true | _ => false) = true := hb
        rw [e] at hb
        cases hb
      · cases h3
    | _ => cases h3
  | loc j =>
    have h : (match r[j]? with | some (some (.own c)) => some (Src.loc j, c.cv) | _ => none) = some (s, .dct kvs) := h
    split at h
    · rename_i c e
      cases c with
      | lst xs => cases h
      | dct k =>
        cases h
        exact ⟨e, by intro z; cases z⟩
    · cases h
  | fld o f =>
    obtain ⟨d, h1, h2⟩ := bnd h
    cases d with
    | ref i =>
      have h2 : (match fldOf g (.ref i) f with | some (.own c) => some (Src.fld i f, c.cv) | _ => none) = some (s, .dct kvs) := h2
      split at h2
      · rename_i c e
        cases c with
        | lst xs => cases h2
        | dct k =>
          cases h2
          have e : (match g i with | some (.ins _ fs) => getS f fs | _ => none) = some (.own (.dct kvs)) := e
          split at e
          · rename_i c' fs q
            exact ⟨⟨c', fs, q, e⟩, by intro z; cases z⟩
          · cases e
      · cases h2
    | _ => cases h2
/-! the loop -/
theorem compd_core {own : List Nat} {t : Tg} {c : Oe} {e : E} {xs ys : List D} {J : L2.It} {Q : VK} {T1 : Tm} {H1 : Hp} (R1 : RR B T1 g r H1 σ) (wk : Wk B T1 H1 .un xs J) (hxs : xs.length ≤ lineN) (ok : ownOk r own = true) (s1 : simO c = true) (s2 : simE e = true) (ho : ∀ i ∈ t.ix, i ∈ own)
    (hv : compV t (wipeR r own) (fun r1 => evT B.P c r1 g) (fun r1 => evE B.P e r1 g) xs = some ys)
    (hq : ∀ T2 H2 p vs, Ext T1 T2 → RR B T2 g r H2 σ → Same H1 H2 → T2.at_ p = none → H2 p = some (.lst vs) → RDs B T2 ys vs → Q (.ref p) H2) :
    ∀ p, H1 p = none → ∃ Wi : Nat → Nat → Hp → Prop, (∃ m, Wi 0 m (upd H1 p (.lst []))) ∧ ∀ i m H, Wi i m H →
      (J.stop i H ∧ Q (.ref p) H) ∨ (J.go i H ∧ ∃ Nx : Hp → Prop, (∀ H', Nx H' → ∃ m', m' < m ∧ Wi (i + 1) m' H') ∧ ∀ x H', J.yld i H x H' → gTg B.K t x (L2.wipe σ own) H' fun σ2 H2 => L2.wipe σ2 own = L2.wipe σ own ∧ tT B C c σ2 H2 fun b H3 =>
        if b = true then tE B C W0 e σ2 H3 fun y H4 => ∃ acc, H4 p = some (.lst acc) ∧ acc.length < sizeLine ∧ Nx (upd H4 p (.lst (acc ++ [y]))) else Nx H3) := by
  intro p np
  have n1 : T1.at_ p = none := R1.fresh np
  let Inv' : Nat → Nat → Hp → Prop := fun i m H' => m = xs.length - i ∧ i ≤ xs.length ∧ ∃ (T2 : Tm) (acc rest : List D) (vs : List V), ys = acc ++ rest ∧ compV t (wipeR r own) (fun r1 => evT B.P c r1 g) (fun r1 => evE B.P e r1 g) (xs.drop i) = some rest ∧ acc.length ≤ i ∧ Ext T1 T2 ∧ T2.at_ p = some (.fr (.lst vs)) ∧ RDs B T2 acc vs ∧ RR B T2 g (wipeR r own) H' (L2.wipe σ own) ∧ Same H1 H'
  have ne1 : ∀ {a t'}, T1.at_ a = some t' → a ≠ p := fun {a t'} h q => by
    rw [q, n1] at h
    cases h
  have e0 : Ext T1 (T1.sett p (some (.fr (.lst [])))) := ⟨fun a u h => (sett_ne (ne1 h)).trans h, fun a u h => (sett_ne (ne1 h)).trans h, fun a u h => (sett_ne (ne1 h)).trans h, rfl⟩
  refine ⟨Inv', ⟨_, rfl, Nat.zero_le _, _, [], ys, [], rfl, hv, Nat.zero_le _, e0, sett_same, rfl, (R1.retag (.inl n1) tg_fr (by intro i z; cases z)).wipe own, Same.upd np⟩, ?_⟩
  rintro i m H2 ⟨rfl, hi, T2, acc, rest, vs, hys, hcv, hal, x2, hp2, ra, R2, sm2⟩
  have step := wk T2 g _ H2 _ x2 R2 (.inl sm2) i
  by_cases lt : i < xs.length
  · refine .inr ?_
    have hd : xs[i]? = some xs[i] := by simp [lt]
    obtain ⟨go, yl⟩ := step.2 _ hd
    refine ⟨go, fun H' => ∃ m', m' < xs.length - i ∧ Inv' (i + 1) m' H', fun H' h => h, fun x H3 y => ?_⟩
    obtain ⟨T3, x3, R3, s3, rx⟩ := yl x H3 y
    rw [List.drop_eq_getElem_cons lt] at hcv
    have hcv : (match bindT t xs[i] (wipeR r own) with
      | none => none
      | some r1 => (evT B.P c r1 g).bind fun b => if b = true then (evE B.P e r1 g).bind fun d => (compV t (wipeR r own) (fun r1 => evT B.P c r1 g) (fun r1 => evE B.P e r1 g) (xs.drop (i + 1))).map fun ys => d :: ys else compV t (wipeR r own) (fun r1 => evT B.P c r1 g) (fun r1 => evE B.P e r1 g) (xs.drop (i + 1))) = some rest := hcv
    split at hcv
    · cases hcv
    rename_i r1 hb
    obtain ⟨b, hb1, hcv⟩ := bnd hcv
    refine gTg_ok R3 rx hb fun σ4 R4 hwp => ?_
    obtain ⟨w1, w2⟩ := hwp own ho
    rw [wipe_idem] at w1
    rw [wipeR_idem] at w2
    refine ⟨by first | exact w1 | (rw [wipe_idem]; exact w1), ?_⟩
    refine ⟨T3, g, r1, fun b' g' => b' = b ∧ g' = g, R4, evT_ok c hb1 ⟨rfl, rfl⟩, fun b' g5 T5 H5 x5 R5 s5 hb5 => ?_⟩
    obtain ⟨eb, eg⟩ := hb5
    rw [eg] at R5
    rw [eb]
    clear eb eg
    have p5 := x5.fr _ _ (x3.fr _ _ hp2)
    have X15 : Ext T1 T5 := (x2.trans x3).trans x5
    have ra5 := RDs.ext (x3.trans x5) _ _ ra
    have S5 : Same H1 H5 := (sm2.trans s3).trans (s5 s1)
    cases b with
    | true =>
      simp only [if_true] at hcv ⊢
      obtain ⟨d, hd1, hcv1⟩ := bnd hcv
      obtain ⟨rest', hcv2, rfl⟩ := Option.map_eq_some_iff.mp hcv1
      refine ⟨T5, g, r1, fun d' g' => d' = d ∧ g' = g, fun _ _ => False, R5, evE_ok e hd1 ⟨rfl, rfl⟩, fun d' g6 T6 H6 v x6 R6 rd s6 hd6 => ?_, fun c g' T' H' _ _ z => z.elim⟩
      obtain ⟨ed, eg6⟩ := hd6
      rw [eg6] at R6
      rw [ed] at rd
      clear ed eg6
      have p6 := x6.fr _ _ p5
      have ra6 := RDs.ext x6 _ _ ra5
      refine ⟨vs, R6.fr _ _ p6, by rw [ra6.length]; exact line_lt (by omega), ?_⟩
      refine ⟨_, ?_, rfl, lt, T6.sett p (some (.fr (.lst (vs ++ [v])))), acc ++ [d], rest', vs ++ [v], by rw [hys]; simp, hcv2, by simp; omega, ?_, sett_same, (ra6.append (RDs.one rd)).retag (.inr ⟨_, p6⟩), ?_, ?_⟩
      · omega
      · have X16 := X15.trans x6
        exact ⟨fun a u h => (sett_ne (ne1 h)).trans (X16.fz _ _ h), fun a u h => (sett_ne (ne1 h)).trans (X16.fr _ _ h), fun a u h => (sett_ne (ne1 h)).trans (X16.id _ _ h), X16.ex⟩
      · have R7 := (R6.retag (p := p) (.inr ⟨_, p6⟩) (o := .lst (vs ++ [v])) tg_fr (by intro i z; cases z)).wipe own
        rw [w1, w2] at R7
        exact R7
      · intro b q hb'
        have ne : b ≠ p := fun z => by
          rw [z, np] at hb'
          cases hb'
        rw [upd_ne ne]
        exact s6 s2 _ _ (S5 _ _ hb')
    | false =>
      simp only [Bool.false_eq_true, if_false] at hcv ⊢
      refine ⟨_, ?_, rfl, lt, T5, acc, rest, vs, hys, hcv, by omega, X15, p5, ra5, ?_, S5⟩
      · omega
      · have R7 := R5.wipe own
        rw [w1, w2] at R7
        exact R7
  · refine .inl ⟨step.1 (Nat.le_of_not_lt lt), ?_⟩
    rw [List.drop_eq_nil_of_le (Nat.le_of_not_lt lt)] at hcv
    cases hcv
    rw [List.append_nil] at hys
    subst hys
    have hH := R2.fr _ _ hp2
    have R3 := R2.retag (p := p) (.inr ⟨_, hp2⟩) (o := .lst vs) (t := none) tg_no (by intro i z; cases z)
    have eu : upd H2 p (.lst vs) = H2 := by
      funext b
      by_cases q : b = p
      · subst q
        rw [upd_same, hH]
      · rw [upd_ne q]
    rw [eu] at R3
    have x4 : Ext T1 (T2.sett p none) := ⟨fun a u h => (sett_ne (ne1 h)).trans (x2.fz _ _ h), fun a u h => (sett_ne (ne1 h)).trans (x2.fr _ _ h), fun a u h => (sett_ne (ne1 h)).trans (x2.id _ _ h), x2.ex⟩
    exact hq (T2.sett p none) H2 p vs x4 (R1.unwipe ok x4 R3) sm2 sett_same hH (ra.retag (.inr ⟨_, hp2⟩))
/-! the walkers -/
theorem rd_kF {k : Key} : RD B T (kF k) (kV k) := by cases k <;> rfl
theorem paired_at {α β : Type} {Rl : α → β → Prop} {xs : List α} {ys : List β} (h : Paired Rl xs ys) : ∀ {i : Nat} {x : α} {y : β}, xs[i]? = some x → ys[i]? = some y → Rl x y := by
  induction h with
  | nil => intro i x y hx; simp at hx
  | cons h1 _ ih =>
    intro i x y hx hy
    cases i with
    | zero =>
      simp at hx hy
      subst hx hy
      exact h1
    | succ i => exact ih (by simpa using hx) (by simpa using hy)
theorem Good.lock (Gd : Good B n) (d : Addr) : Good (B.lock d) n :=
  ⟨Gd.an, Gd.fld, Gd.mth, Gd.ini, Gd.cnm, Gd.exc, Gd.exa, Gd.exm, Gd.fn, Gd.kb, fun k x d' h1 h2 => by
    obtain ⟨u, v, q1, q2, q3⟩ := Gd.glb k x d' h1 h2
    exact ⟨u, v, q1, q2, fun T => RD.other (B := B) (B' := B.lock d) rfl d' v (q3 T)⟩, Gd.blt⟩
end Vb

set_option maxHeartbeats 2000000
/-! The plain layer: dict displays, a dict's keys sorted. -/
namespace Vb
open PySem L2 PySem.Spec PyProof.Rows
variable {B : Bd} {C : Call} {W : WX} {X : Cx} {pos : Pos} {n : Nms}
variable {T T' : Tm} {g g' : G} {r r' : Rho} {H H' : Hp} {σ σ' : L2.St}
theorem kD_kF : ∀ k : Key, kD k = kF k
  | .inl _ => rfl
  | .inr _ => rfl
theorem kD_v {k : Key} {v : V} (h : RD B T (kD k) v) : v = kV k := by
  cases k with
  | inl i => exact h
  | inr x => exact h
theorem merge_nd : ∀ (more acc : List (Key × V)), ((acc ++ more).map (·.1)).Nodup → mergeK acc more = acc ++ more
  | [], acc, _ => (List.append_nil acc).symm
  | q :: more, acc, h => by
    have e : putK acc q.1 q.2 = acc ++ [q] := by
      unfold putK
      rw [if_neg]
      intro z
      obtain ⟨p, hp, ep⟩ := List.any_eq_true.mp z
      have ep : p.1 = q.1 := of_decide_eq_true ep
      rw [List.map_append, List.nodup_append] at h
      exact h.2.2 p.1 (List.mem_map_of_mem hp) q.1 (List.mem_map_of_mem List.mem_cons_self) ep
    show mergeK (putK acc q.1 q.2) more = _
    rw [e, merge_nd more (acc ++ [q]) (by simpa using h)]
    simp
theorem pair_zip : ∀ {ks : List Key} {ds : List D} {vs : List V}, RDs B T ds vs → ds.length = ks.length → Paired (KfR B T) ((ks.map kD).zip ds) (ks.zip vs)
  | [], [], vs, _, _ => .nil
  | [], _ :: _, _, _, h => by simp at h
  | _ :: _, [], _, _, h => by simp at h
  | k :: ks, d :: ds, vs, ⟨v, vs', e, h1, h2⟩, hl => by
    subst e
    exact .cons ⟨kD_kF k, h1⟩ (pair_zip h2 (by simpa using hl))
def KeyE (B : Bd) (C : Call) (W : WX) (X : Cx) : List Key → List (Option Expr) → Prop
  | [], [] => True
  | k :: ks, some a :: as => PE X a (tE B C W (.con (kD k))) ∧ KeyE B C W X ks as
  | _, _ => False
theorem KeyE.all : ∀ {ks : List Key} {as : List (Option Expr)}, KeyE B C W X ks as → as.all (·.isSome) = true ∧ as.length = ks.length
  | [], [], _ => ⟨rfl, rfl⟩
  | [], _ :: _, h => h.elim
  | _ :: _, [], h => h.elim
  | _ :: _, none :: _, h => h.elim
  | k :: ks, some a :: as, h => by
    obtain ⟨q1, q2⟩ := KeyE.all h.2
    exact ⟨by simp [q1], by simp [q2]⟩
def tPrs (B : Bd) (C : Call) (W : WX) : List Key → Es → List (TE × TE)
  | k :: ks, .cons e es => (tE B C W (.con (kD k)), tE B C W e) :: tPrs B C W ks es
  | _, _ => []
theorem pps_all : ∀ {ks : List Key} {as : List (Option Expr)} {vals : List Expr} {es : Es}, ks.length = vals.length → KeyE B C W X ks as → AllE B C W X vals es → PPs X pos as vals (tPrs B C W ks es)
  | [], [], [], .nil, _, _, _ => pps_nil
  | [], [], [], .cons _ _, _, _, h => h.elim
  | [], [], _ :: _, _, h, _, _ => by simp at h
  | [], _ :: _, _, _, _, h, _ => h.elim
  | _ :: _, [], _, _, _, h, _ => h.elim
  | _ :: _, none :: _, _, _, _, h, _ => h.elim
  | _ :: _, some _ :: _, [], _, h, _, _ => by simp at h
  | _ :: _, some _ :: _, _ :: _, .nil, _, _, h => h.elim
  | k :: ks, some a :: as, v :: vals, .cons e es, hl, hk, hv => pps_cons hk.1 hv.1 (pps_all (by simpa using hl) hk.2 hv.2)
theorem prs_run : ∀ {ks : List Key} {vals : List Expr} {es : Es}, ks.length = vals.length → AllE B C W X vals es → ∀ {T : Tm} {g : G} {H : Hp} {K : List D → G → Prop} {Xe : Kx} {Q : List (V × V) → Hp → Prop}, RR B T g r H σ → wEs B.P C es r g K Xe →
    (∀ ds vs g' T' H', Ext T T' → RR B T' g' r H' σ → RDs B T' ds vs → (simEs es = true → Same H H') → K ds g' → Q ((ks.zip vs).map fun q => (kV q.1, q.2)) H') →
    (∀ c g' T' H', Ext T T' → RR B T' g' r H' σ → Xe c g' → W (.ref (B.cad c)) none σ H') → tPairs (tPrs B C W ks es) σ H Q
  | [], [], .nil, _, _, T, g, H, K, Xe, Q, R, hw, hq, _ => hq [] [] g T H (Ext.refl T) R rfl (fun _ => Same.refl H) hw
  | [], [], .cons _ _, _, h, _, _, _, _, _, _, _, _, _, _ => h.elim
  | [], _ :: _, _, h, _, _, _, _, _, _, _, _, _, _, _ => by simp at h
  | _ :: _, [], _, h, _, _, _, _, _, _, _, _, _, _, _ => by simp at h
  | _ :: _, _ :: _, .nil, _, h, _, _, _, _, _, _, _, _, _, _ => h.elim
  | k :: ks, v :: vals, .cons e es, hl, hv, T, g, H, K, Xe, Q, R, hw, hq, hx => by
    show tE B C W (.con (kD k)) σ H fun x H1 => tE B C W e σ H1 fun y H2 => tPairs (tPrs B C W ks es) σ H2 fun ps H3 => Q ((x, y) :: ps) H3
    refine ⟨T, g, r, fun d g1 => d = kD k ∧ wEs B.P C (.cons e es) r g1 K Xe, Xe, R, ⟨rfl, hw⟩, fun d g1 T1 H1 x x1 R1 rx sm1 hk => ?_, hx⟩
    obtain ⟨rfl, hk⟩ := hk
    obtain rfl := kD_v rx
    refine ⟨T1, g1, r, _, Xe, R1, hk, fun d2 g2 T2 H2 y x2 R2 ry sm2 hk2 => ?_, fun c g' T' H' e R' => hx c g' T' H' (x1.trans e) R'⟩
    refine prs_run (by simpa using hl) hv.2 R2 hk2 (fun ds vs g3 T3 H3 x3 R3 rs sm3 hk3 => ?_) fun c g' T' H' e R' => hx c g' T' H' ((x1.trans x2).trans e) R'
    exact hq (d2 :: ds) (y :: vs) g3 T3 H3 ((x1.trans x2).trans x3) R3 ⟨y, vs, rfl, RD.ext x3 _ _ ry, rs⟩ (fun s => ((sm1 rfl).trans (sm2 (ands s).1)).trans (sm3 (ands s).2)) hk3
theorem c_dlit {ks : List Key} {keys : List (Option Expr)} {vals : List Expr} {es : Es} (nl : B.lk = none) (hk : KeyE B C W X ks keys) (hv : AllE B C W X vals es) (nd : ks.Nodup) (l2 : ks.length = vals.length) (h0 : ks ≠ []) (h15 : ks.length ≤ 15) : PE X (.Dict keys vals pos) (tC B C W (.dlit ks es)) := by
  obtain ⟨a1, a2⟩ := hk.all
  have k0 : keys ≠ [] := fun z => by
    rw [z] at a2
    exact h0 (List.length_eq_zero_iff.mp a2.symm)
  refine PE.imp (pe_disp (pps_all l2 hk hv) a1 (a2.trans l2) k0 (by omega)) fun σ H Q ⟨T, g, r, Ke, Xe, R, hw, hq, hx⟩ => fun p np => ?_
  have n1 := R.fresh np
  have R0 := R.retag (p := p) (.inl n1) (o := .dK []) (t := some (.fr (.dK []))) tg_fr (by intro i z; cases z)
  have ne : ∀ {a t'}, T.at_ a = some t' → a ≠ p := fun {a t'} h q => by
    rw [q, n1] at h
    cases h
  have e0 : Ext T (T.sett p (some (.fr (.dK [])))) := ⟨fun a u h => (sett_ne (ne h)).trans h, fun a u h => (sett_ne (ne h)).trans h, fun a u h => (sett_ne (ne h)).trans h, rfl⟩
  refine prs_run l2 hv R0 hw (fun ds vs g' T' H' x' R' rs sm hk => ?_) fun c g' T' H' e R' => hx c g' T' H' (e0.trans e) R'
  obtain ⟨ln, hk⟩ := hk
  have p1 : T'.at_ p = some (.fr (.dK [])) := x'.fr _ _ sett_same
  have hH := R'.fr _ _ p1
  have lv : vs.length = ks.length := rs.length.trans ln
  have mk : (ks.zip vs).map (·.1) = ks := List.map_fst_zip (by omega)
  refine ⟨hH, ks.zip vs, rfl, by rw [List.length_zip]; omega, ?_⟩
  rw [merge_nd _ [] (by rw [List.nil_append, mk]; exact nd), List.nil_append]
  have R2 := R'.retag (p := p) (.inr ⟨_, p1⟩) (o := .dK (ks.zip vs)) (t := none) tg_no (by intro i z; cases z)
  have X0 := e0.trans x'
  have x4 : Ext T (T'.sett p none) := ⟨fun a u h => (sett_ne (ne h)).trans (X0.fz _ _ h), fun a u h => (sett_ne (ne h)).trans (X0.fr _ _ h), fun a u h => (sett_ne (ne h)).trans (X0.id _ _ h), X0.ex⟩
  refine hq (.dct ((ks.map kD).zip ds)) g' (T'.sett p none) _ _ x4 R2 ⟨p, rfl, sett_same, .inl ⟨ks.zip vs, .inl ⟨(by rw [nl]; exact fun z => nomatch z), upd_same⟩, pair_zip (rs.retag (.inr ⟨_, p1⟩)) ln⟩⟩ (fun s b q hb => ?_) hk
  have nb : b ≠ p := fun z => by
    rw [z, np] at hb
    cases hb
  rw [upd_ne nb]
  exact sm s _ _ (by rw [upd_ne nb]; exact hb)
theorem At.rd {a : Addr} {u : HO} (h : At B H a u) : Rd H a u := by
  rcases h with ⟨_, h⟩ | ⟨_, o, h⟩
  · exact .inl h
  · exact .inr ⟨o, h⟩
theorem keys_str : ∀ {kvs : List (D × D)} {ks : List (Key × V)} {ss : List Str}, Paired (KfR B T) kvs ks → kvs.map (·.1) = ss.map D.str → ks.map (·.1) = ss.map Sum.inr := by
  intro kvs ks ss h
  induction h generalizing ss with
  | nil => intro e; cases ss with
    | nil => rfl
    | cons _ _ => cases e
  | @cons p q ps qs h t ih =>
    intro e
    cases ss with
    | nil => cases e
    | cons s ss =>
      rw [List.map_cons, List.map_cons] at e
      injection e with e1 e2
      rw [List.map_cons, List.map_cons, ih e2]
      have h1 := h.1
      rw [e1] at h1
      cases hq : q.1 with
      | inl i => rw [hq] at h1; cases h1
      | inr x =>
        rw [hq] at h1
        cases h1
        rfl
theorem c_dsrt {p0 : Pos} {a : Expr} {ep : Pl} (hc : X.calm = true) (hg : Gl X "sorted") (hm : X.mg "sorted" = none) (ha : PE X a (tP B C W ep)) (ns : notStar a = true) : PE X (.Call (.Name "sorted" p0) [a] [] pos) (tC B C W (.dsrt ep)) := by
  refine PE.imp (blt1 (call_sortedD hc) hg hm (by decide +kernel) (by decide) (by decide) ha ns) fun σ H Q ⟨T, g, r, Ke, Xe, R, hw, hq, hx⟩ => ?_
  refine ⟨T, g, r, fun q g1 => (match q.2 with
      | .dct kvs => ∃ ss : List Str, kvs.map (·.1) = ss.map D.str ∧ ss.length < 64 ∧ ∀ ts : List Str, ts.Perm ss → PyProof.Rows.sortedS ts = true → Ke (.lst (ts.map .str)) g1
      | _ => False), Xe, R, hw, fun q g1 T1 H1 v x1 R1 ⟨rv, _⟩ sm hk => ?_, hx⟩
  obtain ⟨src, c⟩ := q
  cases c with
  | dct kvs =>
    obtain ⟨a, rfl, rc⟩ := rv
    obtain ⟨ss, e1, l64, hk⟩ := hk
    have hf : (kvs.all fun p => p.1.keyF) = true := by
      have : ((kvs.map (·.1)).all D.keyF) = true := by
        rw [e1, List.all_map, List.all_eq_true]
        exact fun _ _ => rfl
      rw [List.all_map] at this
      exact this
    obtain ⟨ks, q1, q2⟩ := kf_all rc hf
    refine ⟨a, ks, ss, rfl, q1, keys_str q2 e1, l64, fun ys p hp hs np => ?_⟩
    exact hq (.lst (ys.map .str)) g1 T1 _ _ x1 (R1.loose np _) ⟨p, rfl, R1.fresh np, _, upd_same, RDs.ofStrs ys⟩ (fun s => (sm s).trans (Same.upd np)) (hk ys hp hs)
  | _ => exact hk.elim
end Vb

set_option maxHeartbeats 2000000
/-! The plain layer: a dict walked whatever its keys are. -/
namespace Vb
open PySem L2 PySem.Spec PyProof.Rows
/-- the items of the dict at d, any keys -/
def RawU (P : Program) (w : World) (d : Addr) (u : HO) (kvs : List (V × V)) : Prop := ∀ (H : Hp) (h : Heap), ObjOk P w H h d u → (d == sysModules) = false ∧
  ∃ (o : Obj) (es : Array DictEntry) (ep : Nat), h.get? d = some o ∧ o.ExactDict ∧ o.data = .dict es ep ∧ es.size = kvs.length ∧ ∀ (i : Nat) (p : V × V), kvs[i]? = some p → ∃ e, es[i]? = some e ∧ RelV p.1 e.key ∧ RelV p.2 e.val
theorem raw_dK {P : Program} {w : World} {d : Addr} (ks : List (Key × V)) : RawU P w d (.dK ks) (ks.map fun p => (kV p.1, p.2)) := by
  intro H h hob
  obtain ⟨z, hs, vs, kv, dd⟩ := hob
  obtain ⟨es, ep, ⟨o, ho, hx, hdt⟩, hsz, hel⟩ := Heap.DictOf.raw dd
  have hl : ks.length = vs.length := Paired.length kv
  refine ⟨hs, o, es, ep, ho, hx, hdt, by rw [hsz, List.length_map, hl], fun i p hp => ?_⟩
  rw [List.getElem?_map] at hp
  obtain ⟨⟨k, v⟩, hq, rfl⟩ := Option.map_eq_some_iff.mp hp
  obtain ⟨u, hu, ru⟩ := kv_get kv hq
  have hi : i < es.size := by
    rw [hsz]
    exact (List.getElem?_eq_some_iff.mp hu).1
  obtain ⟨h1, h2⟩ := hel i hi k u hu
  exact ⟨es[i], Array.getElem?_eq_getElem hi, relV_key (show keyIs k es[i].key = true from h1), by rw [h2]; exact ru⟩
theorem raw_ext {P : Program} {w : World} {d : Addr} (xs : List (NestedKey × Addr × V)) : RawU P w d (.ext (DXo P w d xs)) (xs.map fun x => (.ref x.2.1, x.2.2)) := by
  intro H h hob
  obtain ⟨⟨z, hs, ys, pr, o, es, ep, ho, hx, hdt, he, nd⟩, _, _⟩ := hob
  have hsz := size_of_entries he
  refine ⟨hs, o, es, ep, ho, hx, hdt, by rw [hsz, List.length_map]; exact (Paired.length pr).symm, fun i p hp => ?_⟩
  rw [List.getElem?_map] at hp
  obtain ⟨x, hq, rfl⟩ := Option.map_eq_some_iff.mp hp
  obtain ⟨y, hy, e1, e2, e3⟩ := paired_get pr hq
  have q := entry_at he i
  rw [hy] at q
  refine ⟨_, q, ?_, e3⟩
  show (Value.ref y.2.1) = .ref x.2.1
  rw [e2]
def Rk (d : Addr) (o : Obj) (u : HO) (kvs : List (V × V)) : L2.It :=
  ⟨fun i H => H d = some (.frz o u) ∧ i < kvs.length, fun i H x H' => H' = H ∧ ∃ v, kvs[i]? = some (x, v), fun i H => H d = some (.frz o u) ∧ kvs.length ≤ i⟩
def Rv (d : Addr) (o : Obj) (u : HO) (kvs : List (V × V)) : L2.It :=
  ⟨fun i H => H d = some (.frz o u) ∧ i < kvs.length, fun i H x H' => H' = H ∧ ∃ k, kvs[i]? = some (k, x), fun i H => H d = some (.frz o u) ∧ kvs.length ≤ i⟩
def Ri (d : Addr) (o : Obj) (u : HO) (kvs : List (V × V)) : L2.It :=
  ⟨fun i H => H d = some (.frz o u) ∧ i < kvs.length, fun i H x H' => ∃ T k v, kvs[i]? = some (k, v) ∧ x = .ref T ∧ H T = none ∧ H' = upd H T (.tup [k, v]), fun i H => H d = some (.frz o u) ∧ kvs.length ≤ i⟩
section
variable {X : Cx} {pins : List (Addr × Obj)} {σ : L2.St} {H : Hp} {s : Shared} {d : Addr} {o : Obj} {u : HO} {kvs : List (V × V)}
theorem Inv.raw (I : Inv X pins σ H s) (ru : RawU X.prog X.w d u kvs) (h : H d = some (.frz o u)) : (d == sysModules) = false ∧ s.heap.get? d = some o ∧ o.ExactDict ∧
    ∃ (es : Array DictEntry) (ep : Nat), o.data = .dict es ep ∧ es.size = kvs.length ∧ ∀ (i : Nat) (p : V × V), kvs[i]? = some p → ∃ e, es[i]? = some e ∧ RelV p.1 e.key ∧ RelV p.2 e.val := by
  obtain ⟨hd, hob⟩ := I.hok d _ h
  obtain ⟨hs, o', es, ep, ho, hx, hdt, hsz, hel⟩ := ru H s.heap hob
  rw [hd] at ho
  cases ho
  exact ⟨hs, hd, hx, es, ep, hdt, hsz, hel⟩
end
section
variable {P : Program} {w : World} {K : PySem.W.Frag} {tg : Expr} {d : Addr} {o : Obj} {u : HO} {es : Array DictEntry} {ep : Nat} {kvs : List (V × V)}
theorem turn_rk (ru : RawU P w d u kvs) (it : Addr) (hod : o.data = .dict es ep) (hse : es.size = kvs.length) : Turn P w K tg (Rk d o u kvs) [it] it (fun i h => h.IsKeyIter it d i es.size ep) where
  mem := by simp
  obj := fun i h st b hb => by
    have e : b = it := by simpa using hb
    subst e
    obtain ⟨oi, e, c, dd⟩ := st
    exact ⟨oi, e, fun v z => by rw [dd] at z; cases z⟩
  keep := fun i h h' st k => st.at fun oi e => k it (by simp) oi e
  item := by
    intro X hP hw hK hc i pins s σ H E I hf st hg
    subst hP hw hK
    obtain ⟨hd, hi⟩ := hg
    obtain ⟨f0, f1, f2, f3, f4, f5⟩ := hf it (by simp)
    obtain ⟨hs, hgd, hx, es', ep', hdt, hsz, hel⟩ := Inv.raw I ru hd
    obtain ⟨rfl, rfl⟩ := dict_ep hod hdt
    obtain ⟨en, hen, r1, r2⟩ := hel i kvs[i] (List.getElem?_eq_getElem hi)
    obtain ⟨hle, ee⟩ := Array.getElem?_eq_some_iff.mp hen
    refine wpAny_pyNext_keys_item_raw st ⟨o, hgd, hx, hod⟩ hle fun h' st' sb => ?_
    have I1 : Inv X pins σ H { s with heap := h' } := I.turned (t' := s.toks) (fun b ob hb e => (sb.2 b hb).trans e) f0 f1 f3 f4 f5
    obtain ⟨oi, e, c, dd⟩ := id st'
    exact ⟨_, rfl, go_of (s := { s with heap := h' }) e c dd (by decide) ⟨kvs[i].1, H, I1, by rw [ee]; exact r1, ⟨rfl, kvs[i].2, List.getElem?_eq_getElem hi⟩, st', fun b hb => (hf b hb).1⟩⟩
  done := by
    intro X hP hw hK hc i pins s σ H E I hf st hg
    subst hP hw hK
    obtain ⟨hd, hi⟩ := hg
    obtain ⟨f0, f1, f2, f3, f4, f5⟩ := hf it (by simp)
    obtain ⟨hs, hgd, hx, es', ep', hdt, hsz, hel⟩ := Inv.raw I ru hd
    obtain ⟨rfl, rfl⟩ := dict_ep hod hdt
    exact wpAny_pyNext_keys_end_raw (I.ok.hd hc) st ⟨o, hgd, hx, hod⟩ (by omega) fun h' eb => ⟨rfl, I.turned (t' := s.toks) (fun b ob hb e => eb b ob hb e) f0 f1 f3 f4 f5⟩
  self := fun A i s Q E st h => by
    refine wpAny_pyIter_slot st.typeIs F.slot_dict_keyiterator_iter (wpAny_call_entry F.slot_dict_keyiterator_iter st.typeIs F.entry_dict_keyiterator_iter ?_ (F.args_dict_keyiterator_iter_1 _))
    show wpAny _ _ (ret (.ref it)) _ _ s
    exact wpAny_pure ⟨_, rfl, "dict_keyiterator", _, st.typeIs, F.slot_dict_keyiterator_next.lookup, h⟩
theorem turn_rv (ru : RawU P w d u kvs) (it : Addr) (hod : o.data = .dict es ep) (hse : es.size = kvs.length) : Turn P w K tg (Rv d o u kvs) [it] it (fun i h => h.IsValIter it d i es.size ep) where
  mem := by simp
  obj := fun i h st b hb => by
    have e : b = it := by simpa using hb
    subst e
    obtain ⟨oi, e, c, dd⟩ := st
    exact ⟨oi, e, fun v z => by rw [dd] at z; cases z⟩
  keep := fun i h h' st k => st.at fun oi e => k it (by simp) oi e
  item := by
    intro X hP hw hK hc i pins s σ H E I hf st hg
    subst hP hw hK
    obtain ⟨hd, hi⟩ := hg
    obtain ⟨f0, f1, f2, f3, f4, f5⟩ := hf it (by simp)
    obtain ⟨hs, hgd, hx, es', ep', hdt, hsz, hel⟩ := Inv.raw I ru hd
    obtain ⟨rfl, rfl⟩ := dict_ep hod hdt
    obtain ⟨en, hen, r1, r2⟩ := hel i kvs[i] (List.getElem?_eq_getElem hi)
    obtain ⟨hle, ee⟩ := Array.getElem?_eq_some_iff.mp hen
    refine wpAny_pyNext_values_item_raw st ⟨o, hgd, hx, hod⟩ hle fun h' st' sb => ?_
    have I1 : Inv X pins σ H { s with heap := h' } := I.turned (t' := s.toks) (fun b ob hb e => (sb.2 b hb).trans e) f0 f1 f3 f4 f5
    obtain ⟨oi, e, c, dd⟩ := id st'
    exact ⟨_, rfl, go_of (s := { s with heap := h' }) e c dd (by decide) ⟨kvs[i].2, H, I1, by rw [ee]; exact r2, ⟨rfl, kvs[i].1, List.getElem?_eq_getElem hi⟩, st', fun b hb => (hf b hb).1⟩⟩
  done := by
    intro X hP hw hK hc i pins s σ H E I hf st hg
    subst hP hw hK
    obtain ⟨hd, hi⟩ := hg
    obtain ⟨f0, f1, f2, f3, f4, f5⟩ := hf it (by simp)
    obtain ⟨hs, hgd, hx, es', ep', hdt, hsz, hel⟩ := Inv.raw I ru hd
    obtain ⟨rfl, rfl⟩ := dict_ep hod hdt
    exact wpAny_pyNext_values_end_raw (I.ok.hd hc) st ⟨o, hgd, hx, hod⟩ (by omega) fun h' eb => ⟨rfl, I.turned (t' := s.toks) (fun b ob hb e => eb b ob hb e) f0 f1 f3 f4 f5⟩
  self := fun A i s Q E st h => wpAny_pyIter_valiter st h
theorem turn_ri {elts : List Expr} {kk : Nat} {tpos : Pos} (ru : RawU P w d u kvs) (it : Addr) (hod : o.data = .dict es ep) (hse : es.size = kvs.length) : Turn P w K (.Tuple elts kk tpos) (Ri d o u kvs) [it] it (fun i h => ∃ ok ov, IsItemIter h it d i es.size ep ok ov) where
  mem := by simp
  obj := fun i h st b hb => by
    have e : b = it := by simpa using hb
    subst e
    obtain ⟨ok, ov, e⟩ := st
    exact ⟨_, e, fun v z => nomatch z⟩
  keep := fun i h h' st k => let ⟨ok, ov, e⟩ := st; ⟨ok, ov, k it (by simp) _ e⟩
  item := by
    intro X hP hw hK hc i pins s σ H E I hf st hg
    subst hP hw hK
    obtain ⟨hd, hi⟩ := hg
    obtain ⟨hs, hgd, hx, es', ep', hdt, hsz, hel⟩ := Inv.raw I ru hd
    obtain ⟨rfl, rfl⟩ := dict_ep hod hdt
    obtain ⟨en, hen, r1, r2⟩ := hel i kvs[i] (List.getElem?_eq_getElem hi)
    obtain ⟨hle, ee⟩ := Array.getElem?_eq_some_iff.mp hen
    obtain ⟨ok, ov, he⟩ := st
    have hlt : it < s.heap.objs.size := Heap.lt_size he
    refine wpAny_pyNext_items_item_raw he ⟨o, hgd, hx, hod⟩ hle fun h' ho hT hz hk => ?_
    refine ⟨_, rfl, wpAny_letOwnedTupleGo_items (s := { s with heap := h' }) ho fun h'' he' sb => ?_⟩
    have hT2 : h''.get? s.heap.objs.size = some { cls := .type "tuple", data := .seq #[es'[i].key, es'[i].val] } := (sb.2 _ (Nat.ne_of_gt hlt)).trans hT
    have new : ObjOk X.prog X.w (upd H s.heap.objs.size (.tup [kvs[i].1, kvs[i].2])) h'' s.heap.objs.size (.tup [kvs[i].1, kvs[i].2]) :=
      ⟨by show 2 ≤ sizeLine; decide, [es'[i].key, es'[i].val], .cons (by rw [ee]; exact r1) (.cons (by rw [ee]; exact r2) .nil), ⟨_, hT2, rfl, _, rfl⟩⟩
    have I1 : Inv X pins σ (upd H s.heap.objs.size (.tup [kvs[i].1, kvs[i].2])) { s with heap := h'' } :=
      I.turnedNew (t' := s.toks) (ch := [it]) (fun b ob hb e => (sb.2 b (by simpa using hb)).trans (hk b ob (by simpa using hb) e)) hf (Nat.le_refl _) new
    refine ⟨.ref s.heap.objs.size, _, I1, rfl, ⟨_, kvs[i].1, kvs[i].2, List.getElem?_eq_getElem hi, rfl, I.hok.fresh (Nat.le_refl _), rfl⟩, ⟨_, _, he'⟩, fun b hb => ?_⟩
    have e : b = it := by simpa using hb
    rw [e, upd_ne (Nat.ne_of_lt hlt)]
    exact (hf it (by simp)).1
  done := by
    intro X hP hw hK hc i pins s σ H E I hf st hg
    subst hP hw hK
    obtain ⟨hd, hi⟩ := hg
    obtain ⟨f0, f1, f2, f3, f4, f5⟩ := hf it (by simp)
    obtain ⟨hs, hgd, hx, es', ep', hdt, hsz, hel⟩ := Inv.raw I ru hd
    obtain ⟨rfl, rfl⟩ := dict_ep hod hdt
    obtain ⟨ok, ov, he⟩ := st
    exact wpAny_pyNext_items_end_raw (I.ok.hd hc) he ⟨o, hgd, hx, hod⟩ (by omega) fun h' eb => ⟨rfl, I.turned (t' := s.toks) (fun b ob hb e => eb b ob hb e) f0 f1 f3 f4 f5⟩
  self := fun A i s Q E st h => let ⟨_, _, e⟩ := st; PySem.W.kcp_self e h
end
def iRk (P : Program) (w : World) (td : TE) : TI := fun σ H R => td σ H fun x H1 => ∃ d o u kvs, x = .ref d ∧ H1 d = some (.frz o u) ∧ RawU P w d u kvs ∧ R (Rk d o u kvs) H1
def iRv (P : Program) (w : World) (td : TE) : TI := fun σ H R => td σ H fun x H1 => ∃ d o u kvs, x = .ref d ∧ H1 d = some (.frz o u) ∧ RawU P w d u kvs ∧ R (Rv d o u kvs) H1
def iRi (P : Program) (w : World) (td : TE) : TI := fun σ H R => td σ H fun x H1 => ∃ d o u kvs, x = .ref d ∧ H1 d = some (.frz o u) ∧ RawU P w d u kvs ∧ R (Ri d o u kvs) H1
section
variable {X : Cx} {tg e : Expr} {td : TE} {apos cpos : Pos}
theorem pi_rk (he : PE X e td) : PI X tg e (iRk X.prog X.w td) := by
  refine ⟨fun pins s σ H R I h => ?_⟩
  refine thn (he.run pins s σ H _ I h) fun v s1 ⟨x, H1, I1, rx, d, o, u, kvs, ex, hd, ru, q⟩ => ?_
  subst ex
  obtain rfl : v = Value.ref d := rx
  obtain ⟨hs, hgd, hx, es, ep, hdt, hsz, hel⟩ := Inv.raw I1 ru hd
  exact iter_keys hs hgd hx hdt (pi_one (tk := s1.toks) I1 _ (turn_rk ru _ hdt hsz) ⟨_, Heap.get?_push_size _ rfl, rfl, rfl⟩ q)
theorem pi_rv (he : PE X e td) (hbase : attributeBase e "values" X.env (eval e X.env) = eval e X.env := by rfl) (hline : (apos.endLine == cpos.line) = true := by rfl) : PI X tg (.Call (.Attribute e "values" apos) [] [] cpos) (iRv X.prog X.w td) := by
  refine ⟨fun pins s σ H R I h => ?_⟩
  refine wpAny_Call_method (T := "dict") (id := "dict.values") hbase rfl hline F.plainAttrs_dict F.slot_dict_values F.type_dict_values (thn (he.run pins s σ H _ I h) fun v s1 ⟨x, H1, I1, rx, d, o, u, kvs, ex, hd, ru, q⟩ => ?_)
  subst ex
  obtain rfl : v = Value.ref d := rx
  obtain ⟨hs, hgd, hx, es, ep, hdt, hsz, hel⟩ := Inv.raw I1 ru hd
  have raw : s1.heap.DictRaw d es ep := ⟨o, hgd, hx, hdt⟩
  refine ⟨raw.typeIs, fun b eb => ⟨o, by cases eb; exact hgd, hx.2.1⟩, ?_⟩
  have I2 : Inv X pins σ H1 { s1 with heap := s1.heap.push { cls := .type "dict_values", data := .fields #[.ref d] } } := I1.kept (t' := s1.toks) fun b ob q => Heap.get?_push_of_some _ q
  have fin : wpAny (model X.prog X.w) X.A (pyIter (.ref s1.heap.objs.size)) (PIE X pins σ tg R) X.xe { s1 with heap := s1.heap.push { cls := .type "dict_values", data := .fields #[.ref d] } } :=
    wpAny_pyIter_values_raw (d := d) (es := es) (ep := ep) ⟨_, Heap.get?_push_size _ rfl, rfl, rfl⟩ (raw.at fun o q => Heap.get?_push_of_some _ q) (pi_one (tk := s1.toks) I2 _ (turn_rv ru _ hdt hsz) ⟨_, Heap.get?_push_size _ rfl, rfl, rfl⟩ q)
  show wpAny _ _ (callWith cpos (.builtin "dict.values") [.ref d] [] []) _ X.xe s1
  exact method_meetsIn F.slot_dict_values F.entry_dict_values rfl (PySem.evalArgs_none ⟨rfl, raw.typeIs, F.args_dict_values_1 _, _, meets_dict_values_raw d hs, ⟨es, ep, raw⟩, fin⟩)
theorem pi_ri {elts : List Expr} {kk : Nat} {tpos : Pos} (he : PE X e td) (hbase : attributeBase e "items" X.env (eval e X.env) = eval e X.env := by rfl) (hline : (apos.endLine == cpos.line) = true := by rfl) :
    PI X (.Tuple elts kk tpos) (.Call (.Attribute e "items" apos) [] [] cpos) (iRi X.prog X.w td) := by
  refine ⟨fun pins s σ H R I h => ?_⟩
  refine wpAny_Call_method (T := "dict") (id := "dict.items") hbase rfl hline F.plainAttrs_dict F.slot_dict_items F.type_dict_items (thn (he.run pins s σ H _ I h) fun v s1 ⟨x, H1, I1, rx, d, o, u, kvs, ex, hd, ru, q⟩ => ?_)
  subst ex
  obtain rfl : v = Value.ref d := rx
  obtain ⟨hs, hgd, hx, es, ep, hdt, hsz, hel⟩ := Inv.raw I1 ru hd
  have raw : s1.heap.DictRaw d es ep := ⟨o, hgd, hx, hdt⟩
  refine ⟨raw.typeIs, fun b eb => ⟨o, by cases eb; exact hgd, hx.2.1⟩, ?_⟩
  have I2 : Inv X pins σ H1 { s1 with heap := s1.heap.push { cls := .type "dict_items", data := .fields #[.ref d] } } := I1.kept (t' := s1.toks) fun b ob q => Heap.get?_push_of_some _ q
  have fin : wpAny (model X.prog X.w) X.A (pyIter (.ref s1.heap.objs.size)) (PIE X pins σ (.Tuple elts kk tpos) R) X.xe { s1 with heap := s1.heap.push { cls := .type "dict_items", data := .fields #[.ref d] } } :=
    wpAny_pyIter_items_raw (d := d) (es := es) (ep := ep) ⟨_, Heap.get?_push_size _ rfl, rfl, rfl⟩ (raw.at fun o q => Heap.get?_push_of_some _ q) (pi_one (tk := s1.toks) I2 _ (turn_ri ru _ hdt hsz) ⟨.none, .none, Heap.get?_push_size _ rfl⟩ q)
  show wpAny _ _ (callWith cpos (.builtin "dict.items") [.ref d] [] []) _ X.xe s1
  exact method_meetsIn F.slot_dict_items F.entry_dict_items rfl (PySem.evalArgs_none ⟨rfl, raw.typeIs, F.args_dict_items_1 _, _, meets_dict_items_raw d hs, ⟨es, ep, raw⟩, fin⟩)
end
end Vb

set_option maxHeartbeats 4000000
/-! The plain layer: dict comprehensions, any keys. -/
namespace Vb
open PySem L2 PySem.Spec PyProof.Rows
/-- d[y] = z, in any context that is fit for it -/
def rDS (Ok : Cx → Prop) (D : Addr) (y z : V) (H : Hp) (Nx : Hp → Prop) : Prop := ∀ (X : Cx), Ok X → ∀ (pins : List (Addr × Obj)) (σ : L2.St) (s : Shared) (u r : Value) (E : Value → Shared → Prop), Inv X pins σ H s → RelV y u → RelV z r →
  wpAny (model X.prog X.w) X.A (dictSet D u r) (fun _ s' => ∃ H', Inv X pins σ H' s' ∧ Nx H') E s
def bDc (Ok : Cx → Prop) (g : TG) (tt : TT) (tk tv : TE) (vs : List Nat) (σ : L2.St) (J : L2.It) (H1 : Hp) (Q : VK) : Prop := ∀ D, H1 D = none → ∃ W : Nat → Nat → Hp → Prop, (∃ m, W 0 m (upd H1 D (.dK []))) ∧ ∀ i m H, W i m H →
  (J.stop i H ∧ Q (.ref D) H) ∨ (J.go i H ∧ ∃ Nx : Hp → Prop, (∀ H', Nx H' → ∃ m', m' < m ∧ W (i + 1) m' H') ∧ ∀ x H', J.yld i H x H' → g x (L2.wipe σ vs) H' fun σ2 H2 => L2.wipe σ2 vs = L2.wipe σ vs ∧ tt σ2 H2 fun b H3 =>
    if b = true then tk σ2 H3 fun y H4 => tv σ2 H4 fun z H5 => rDS Ok D y z H5 Nx else Nx H3)
def tDcX (Ok : Cx → Prop) (wi : TI) (g : TG) (tt : TT) (tk tv : TE) (vs : List Nat) : TE := fun σ H Q => wi σ H fun J H1 => bDc Ok g tt tk tv vs σ J H1 Q
section
variable {X : Cx}
theorem dcX_core {Ok : Cx → Prop} {pins : List (Addr × Obj)} {s : Shared} {σ : L2.St} {H : Hp} {Q : VK} {kx vx tg iter : Expr} {ifs : List Expr} {scope : Scope} {own : List (Str × Nat)} {pos pos' : Pos} {wi : TI} {g : TG} {tt : TT} {tk tv : TE} {use : Option (Value → Sem Unit)} {Qf : Value → Shared → Prop}
    (hc : X.calm = true) (hN : X.N.Nodup) (I : Inv X pins σ H s) (hi : PI X tg iter wi) (ok : BlkOk X.N X.env.scope scope own)
    (hO : ∀ (s : Shared) (H : Hp) (C : Addr) (cl : List (Str × Addr)) (fp : List Addr), Ok (X.blk s H scope (compEnvC scope cl C X.env) fp))
    (hg : ∀ (s : Shared) (H : Hp) (C : Addr) (cl : List (Str × Addr)) (fp : List Addr), PG (X.blk s H scope (compEnvC scope cl C X.env) fp) tg g) (ht : ∀ (s : Shared) (H : Hp) (C : Addr) (cl : List (Str × Addr)) (fp : List Addr), PTs (X.blk s H scope (compEnvC scope cl C X.env) fp) ifs tt)
    (hk : ∀ (s : Shared) (H : Hp) (C : Addr) (cl : List (Str × Addr)) (fp : List Addr), PE (X.blk s H scope (compEnvC scope cl C X.env) fp) kx tk)
    (he : ∀ (s : Shared) (H : Hp) (C : Addr) (cl : List (Str × Addr)) (fp : List Addr), PE (X.blk s H scope (compEnvC scope cl C X.env) fp) vx tv) (hs : ∀ x, foldedSetIterable iter X.env x = pure x)
    (h : tDcX Ok wi g tt tk tv (own.map (·.2)) σ H Q)
    (hRR : ∀ D C s' m H', Inv X pins σ H' s' → Q (.ref D) H' → s'.heap.Ns C m → FpOk X pins H' C → compPost (model X.prog X.w) X.A X.xe use Qf (.ref D) C (.ok .next) s') :
    wpAny (model X.prog X.w) X.A (comprehension (.DictComp kx vx [⟨tg, iter, ifs, 0⟩] scope pos) scope X.env pos' newDict false (eval iter X.env) use) Qf X.xe s := by
  have hfree : ∀ y ∈ scope.names, y.2 = .free → ∃ c, X.env.cells.lookup y.1 = some c := fun y hy e => by
    rcases ok.free y hy e with k | k
    · exact I.ok.has _ (.inl k)
    · exact I.ok.has _ (.inr k)
  refine wpAny_comprehension_free (use := use) rfl hs (closure_ok hfree) ok.kind (fun y hy e => by rw [ok.uniq y hy, e])
    (thn (hi.run pins s σ H _ I h) fun xv s1 hx => thn hx fun itv s2 h2 => ?_)
  obtain ⟨it, fp, tn, J, H2, e, I2, T, st2, f2, q⟩ := h2
  subst e
  refine wpAny_newObj_type (newEnv_comp ?_)
  generalize hD : s2.heap.objs.size = D
  have hDn : H2 D = none := I2.hok.fresh (Nat.le_of_eq hD)
  obtain ⟨W, ⟨m0, w0⟩, turn⟩ := q D hDn
  generalize hs3 : ({ s2 with heap := s2.heap.push { cls := .type "dict", data := .dict #[] } } : Shared) = s3
  have I3 : Inv X pins σ (upd H2 D (.dK [])) s3 := by
    rw [← hs3]
    refine I2.laid (t' := s2.toks) (fun b o e => Heap.get?_push_of_some _ e) (Nat.le_of_eq hD) ?_
    rw [← hD]
    exact dk_empty s2.heap I2.big
  have h3 : s3.heap = s2.heap.push { cls := .type "dict", data := .dict #[] } := by rw [← hs3]
  have sz : ∀ b ∈ fp, b < s2.heap.objs.size := fun b hb => by
    obtain ⟨o, e, _⟩ := T.obj _ _ st2 b hb
    exact Heap.lt_size e
  have f3 : ∀ b ∈ fp, FpOk X pins (upd H2 D (.dK [])) b ∧ b < s3.heap.objs.size := fun b hb => by
    have hlt := sz b hb
    refine ⟨⟨?_, (f2 b hb).2⟩, by rw [h3, Heap.size_push]; exact Nat.lt_succ_of_lt hlt⟩
    rw [upd_ne (by rw [← hD]; exact Nat.ne_of_lt hlt)]
    exact (f2 b hb).1
  have st3 : tn 0 s3.heap := T.keep _ _ _ st2 fun b _ o e => by rw [h3]; exact Heap.get?_push_of_some _ e
  have I4 := block_start I3 ok hN f3
  have pO := hO s3 (upd H2 D (.dK [])) s3.heap.objs.size (cellsFrom (s3.heap.objs.size + 1) scope.names (cloFrom X.env.cells scope.names [])) fp
  have pg := hg s3 (upd H2 D (.dK [])) s3.heap.objs.size (cellsFrom (s3.heap.objs.size + 1) scope.names (cloFrom X.env.cells scope.names [])) fp
  have pt := ht s3 (upd H2 D (.dK [])) s3.heap.objs.size (cellsFrom (s3.heap.objs.size + 1) scope.names (cloFrom X.env.cells scope.names [])) fp
  have pk := hk s3 (upd H2 D (.dK [])) s3.heap.objs.size (cellsFrom (s3.heap.objs.size + 1) scope.names (cloFrom X.env.cells scope.names [])) fp
  have pe := he s3 (upd H2 D (.dK [])) s3.heap.objs.size (cellsFrom (s3.heap.objs.size + 1) scope.names (cloFrom X.env.cells scope.names [])) fp
  show codeAny _ _ (.compStart (.DictComp kx vx [⟨tg, iter, ifs, 0⟩] scope pos) 0 (.ref it) (.ref D) (compEnvC scope (cellsFrom (s3.heap.objs.size + 1) scope.names (cloFrom X.env.cells scope.names [])) s3.heap.objs.size X.env)) (compPost (model X.prog X.w) X.A X.xe use Qf (.ref D) s3.heap.objs.size) { s3 with heap := pushCells (s3.heap.push { cls := .type "dict", data := .dict #[] }) scope.names }
  have nfp : ∀ b ∈ fp, (upd H2 D (.dK [])) b = none := fun b hb => (f3 b hb).1.1
  generalize hce : compEnvC scope (cellsFrom (s3.heap.objs.size + 1) scope.names (cloFrom X.env.cells scope.names [])) s3.heap.objs.size X.env = ce at I4 pO pg pt pk pe ⊢
  have cL : ce.locals = s3.heap.objs.size := by subst hce; rfl
  generalize hH3 : upd H2 D (.dK []) = H3 at I3 I4 pO pg pt pk pe w0 nfp f3
  generalize hs4 : ({ s3 with heap := pushCells (s3.heap.push { cls := .type "dict", data := .dict #[] }) scope.names } : Shared) = s4 at I4 ⊢
  have st4 : tn 0 s4.heap := T.keep _ _ _ st3 fun b _ o e => by rw [← hs4]; exact pushCells_keeps _ _ _ _ (Heap.get?_push_of_some _ e)
  have stat : ∀ {σ' : L2.St} {H' : Hp} {s' : Shared}, Inv (X.blk s3 H3 scope ce fp) [] σ' H' s' → (∀ b ∈ fp, H' b = none) → ∀ b ∈ fp, FpOk (X.blk s3 H3 scope ce fp) [] H' b := fun {σ' H' s'} I' hn b hb =>
    ⟨hn b hb, (I'.ok.exf b hb).1, I'.ok.exfs b hb, .inl hb, fun x c e => (I'.ok.exf b hb).2 x c e, fun p hp => absurd (show p ∈ ([] : List (Addr × Obj)) ++ [] from hp) (by simp)⟩
  have loop : codeAny (model X.prog X.w) X.A (.compLoop (.DictComp kx vx [⟨tg, iter, ifs, 0⟩] scope pos) 0 (.ref it) (.ref D) ce) (compPost (model X.prog X.w) X.A X.xe use Qf (.ref D) s3.heap.objs.size) s4 := by
    refine compLoop_anyD (fun n s' => ∃ i H', Inv (X.blk s3 H3 scope ce fp) [] (L2.wipe σ (own.map (·.2))) H' s' ∧ tn i s'.heap ∧ (∀ b ∈ fp, H' b = none) ∧ W i n H') ?_ m0 ⟨0, H3, I4, st4, nfp, w0⟩
    rintro n s5 ⟨i, H5, I5, st5, n5, w5⟩
    rcases turn i n H5 w5 with ⟨stop, qq⟩ | ⟨go, Nx, hNx, step⟩
    · have td := T.done (X.blk s3 H3 scope ce fp) rfl rfl rfl hc i [] s5 _ H5 (fun _ _ => False) I5 (stat I5 n5) st5 stop
      refine thnF td fun r s6 ⟨hr, I6⟩ => ?_
      subst hr
      have I7 : Inv X pins σ H5 s6 := I3.call' (ch := fp) I6.os I6.base I6.hok I6.bare fun b hb => ⟨(f3 b hb).1.2.2.2.1, (f3 b hb).1.2.1, (f3 b hb).1.2.2.2.2.1, (f3 b hb).1.2.2.2.2.2⟩
      have nC : H5 s3.heap.objs.size = none := by
        have z : H5 ce.locals = none := I6.free
        rw [cL] at z
        exact z
      obtain ⟨m, hn, _⟩ := I6.loc
      have hn : s6.heap.Ns ce.locals m := hn
      rw [cL] at hn
      exact hRR D s3.heap.objs.size s6 m H5 I7 qq hn (I3.fpOk (Nat.le_refl _) nC)
    · have ti := T.item (X.blk s3 H3 scope ce fp) rfl rfl rfl hc i [] s5 _ H5 (fun _ _ => False) I5 (stat I5 n5) st5 go
      refine thnF ti fun r s6 ⟨u, hr, h6⟩ => ?_
      subst hr
      refine thnF h6 fun _ s7 ⟨x, H7, I7, r7, y7, st7, n7⟩ => ?_
      have I7' := I7.pinned (stat I7 n7) (T.obj _ _ st7)
      refine thnF (pg.run _ s7 _ H7 x u _ I7' r7 (step x H7 y7)) fun _ s8 ⟨σ8, H8, I8, hw8, q8⟩ => ?_
      refine thnF (pt.run _ s8 σ8 H8 _ I8 q8) fun b s9 ⟨H9, I9, q9⟩ => ?_
      have fin : ∀ {s' : Shared} {H' : Hp}, Inv (X.blk s3 H3 scope ce fp) ([] ++ pinsAt fp s7.heap) σ8 H' s' → Nx H' → ∃ m, m < n ∧ ∃ i H', Inv (X.blk s3 H3 scope ce fp) [] (L2.wipe σ (own.map (·.2))) H' s' ∧ tn i s'.heap ∧ (∀ b ∈ fp, H' b = none) ∧ W i m H' := fun {s' H'} I' nx => by
        obtain ⟨m', hm, w'⟩ := hNx H' nx
        have pin' : ∀ b ∈ fp, ∀ o, s7.heap.get? b = some o → s'.heap.get? b = some o ∧ H' b = none := fun b hb o e =>
          let z := I'.pin (b, o) (List.mem_append_right _ (List.mem_append_right _ (mem_pinsAt hb e)))
          ⟨z.1, z.2.1⟩
        have hl : (L2.wipe σ (own.map (·.2))).length = σ8.length := by rw [← hw8, wipe_length]
        refine ⟨m', hm, i + 1, H', (I'.unpinned (pins := [])).weak hl (fun j v e => ?_), T.keep _ _ _ st7 fun b hb o e => (pin' b hb o e).1, fun b hb => ?_, w'⟩
        · rw [← hw8] at e
          exact (wipe_some e).1
        · obtain ⟨o, e, _⟩ := T.obj _ _ st7 b hb
          exact (pin' b hb o e).2
      cases b with
      | false =>
        simp only [Bool.false_eq_true, if_false] at q9 ⊢
        exact fin I9 q9
      | true =>
        simp only [if_true] at q9 ⊢
        refine thnF (pk.run _ s9 σ8 H9 _ I9 q9) fun z s10 ⟨yk, H10, I10, r10, q10⟩ => ?_
        refine thnF (pe.run _ s10 σ8 H10 _ I10 q10) fun z2 s11 ⟨yv, H11, I11, r11, q11⟩ => ?_
        exact thnF (q11 _ pO _ _ _ _ _ _ I11 r10 r11) fun _ s12 ⟨H12, I12, nx⟩ => fin I12 nx
  exact codeAny_compStart_dict loop (T.self X.A 0 _ _ _ st4 loop)
theorem pe_dcX {Ok : Cx → Prop} {kx vx tg iter : Expr} {ifs : List Expr} {scope : Scope} {own : List (Str × Nat)} {pos : Pos} {wi : TI} {g : TG} {tt : TT} {tk tv : TE} (hc : X.calm = true) (hN : X.N.Nodup) (hi : PI X tg iter wi) (ok : BlkOk X.N X.env.scope scope own)
    (hO : ∀ (s : Shared) (H : Hp) (C : Addr) (cl : List (Str × Addr)) (fp : List Addr), Ok (X.blk s H scope (compEnvC scope cl C X.env) fp))
    (hg : ∀ (s : Shared) (H : Hp) (C : Addr) (cl : List (Str × Addr)) (fp : List Addr), PG (X.blk s H scope (compEnvC scope cl C X.env) fp) tg g) (ht : ∀ (s : Shared) (H : Hp) (C : Addr) (cl : List (Str × Addr)) (fp : List Addr), PTs (X.blk s H scope (compEnvC scope cl C X.env) fp) ifs tt)
    (hk : ∀ (s : Shared) (H : Hp) (C : Addr) (cl : List (Str × Addr)) (fp : List Addr), PE (X.blk s H scope (compEnvC scope cl C X.env) fp) kx tk)
    (he : ∀ (s : Shared) (H : Hp) (C : Addr) (cl : List (Str × Addr)) (fp : List Addr), PE (X.blk s H scope (compEnvC scope cl C X.env) fp) vx tv) (hs : ∀ x, foldedSetIterable iter X.env x = pure x) :
    PE X (.DictComp kx vx [⟨tg, iter, ifs, 0⟩] scope pos) (tDcX Ok wi g tt tk tv (own.map (·.2))) := by
  refine ⟨fun pins s σ H Q I h => ?_⟩
  rw [arm_eval_DictComp]
  refine dcX_core hc hN I hi ok hO hg ht hk he hs h fun D C s' m H' I' q hn f => ⟨m, hn, fun h'' sb => ?_⟩
  obtain ⟨f0, f1, f2, f3, f4, f5⟩ := f
  exact ⟨.ref D, H', I'.turned (t' := s'.toks) (fun b o hb e => (sb.2 b hb).trans e) f0 f1 f3 f4 f5, rfl, q⟩
theorem ps_setDcX {Ok : Cx → Prop} {i : Nat} {y : Str} {py : Pos} {kx vx tg iter : Expr} {ifs : List Expr} {scope : Scope} {own : List (Str × Nat)} {pos spos : Pos} {wi : TI} {g : TG} {tt : TT} {tk tv : TE} (hc : X.calm = true) (hN : X.N.Nodup) (hy : X.N[i]? = some y) (hyl : X.env.scope.names.lookup y = some .local)
    (hsw : swapsWith (.DictComp kx vx [⟨tg, iter, ifs, 0⟩] scope pos) (some (.Name y py)) spos.line X.env = pure true) (hi : PI X tg iter wi) (ok : BlkOk X.N X.env.scope scope own)
    (hO : ∀ (s : Shared) (H : Hp) (C : Addr) (cl : List (Str × Addr)) (fp : List Addr), Ok (X.blk s H scope (compEnvC scope cl C X.env) fp))
    (hg : ∀ (s : Shared) (H : Hp) (C : Addr) (cl : List (Str × Addr)) (fp : List Addr), PG (X.blk s H scope (compEnvC scope cl C X.env) fp) tg g) (ht : ∀ (s : Shared) (H : Hp) (C : Addr) (cl : List (Str × Addr)) (fp : List Addr), PTs (X.blk s H scope (compEnvC scope cl C X.env) fp) ifs tt)
    (hk : ∀ (s : Shared) (H : Hp) (C : Addr) (cl : List (Str × Addr)) (fp : List Addr), PE (X.blk s H scope (compEnvC scope cl C X.env) fp) kx tk)
    (he : ∀ (s : Shared) (H : Hp) (C : Addr) (cl : List (Str × Addr)) (fp : List Addr), PE (X.blk s H scope (compEnvC scope cl C X.env) fp) vx tv) (hs : ∀ x, foldedSetIterable iter X.env x = pure x) :
    PS X (.Assign [.Name y py] (.DictComp kx vx [⟨tg, iter, ifs, 0⟩] scope pos) spos) (tAsg (tDcX Ok wi g tt tk tv (own.map (·.2))) (gName i)) := by
  refine ⟨fun pins s σ H D I h => ?_⟩
  rw [exec_Assign_Name_used _ _ _ _ hsw]
  refine wpAny_bind (wpAny_standAt (wpAny_bind ?_))
  show wpAny _ X.A (do let _ ← comprehension (.DictComp kx vx [⟨tg, iter, ifs, 0⟩] scope pos) scope X.env (firstIterPos [⟨tg, iter, ifs, 0⟩] pos) newDict false (eval iter X.env) (some (assign (.Name y py) X.env))) _ _ s
  have h : tDcX Ok wi g tt tk tv (own.map (·.2)) σ H (fun x H1 => gName i x σ H1 D.nx) := h
  refine wpAny_bind (thn (dcX_core (Qf := fun _ s' => SP X pins D .next s') hc hN I hi ok hO hg ht hk he hs h fun L C s' m H' I' q hn f => ?_) fun _ s' hq => wpAny_pure (wpAny_pure hq))
  show wpAny _ _ (assign (.Name y py) X.env (.ref L)) _ _ _
  refine wpAny_assign_Name (store_ok2 (v := V.ref L) I' hN hy (.inl hyl) rfl (fun s2 I2 ⟨a, sb, ha⟩ => ?_) (.inr hyl))
  obtain ⟨f0, f1, f2, f3, f4, f5⟩ := f
  have haC : C ≠ a := by
    rcases ha with z | z
    · rw [z]; exact f1
    · exact fun e => f4 y a z e.symm
  refine ⟨m, hn.sameBut sb haC, fun h3 sb3 => ?_⟩
  exact ⟨_, H', I2.turned (t' := s2.toks) (fun b o hb e => (sb3.2 b hb).trans e) f0 f1 f3 f4 f5, q⟩
theorem sw_trueD {kx vx : Expr} {gs : List Comprehension} {scope : Scope} {pos py : Pos} {y : Str} {l : Nat} {env : Env} (hk : env.scope.kind = .function) (hy : env.scope.names.lookup y = some .local) (hl : (py.line == pos.line) = true)
    (ha : (scope.names.any fun (n, k) => n == y && (k == .local || k == .cell)) = false) : swapsWith (.DictComp kx vx gs scope pos) (some (.Name y py)) l env = pure true := by
  have ky : env.kindOf y = some .local := hy
  have hb : env.blockKind = .function := by unfold Env.blockKind; rw [hk]; rfl
  unfold swapsWith
  simp only [hb, ky, ha, Expr.pos, hl]
  rfl
end
end Vb

set_option maxHeartbeats 4000000
/-! The plain layer: dict comprehensions over lists and dicts, any keys. -/
namespace Vb
open PySem L2 PySem.Spec PyProof.Rows
variable {B : Bd} {C : Call} {W : WX} {X : Cx} {T T' : Tm} {g g' : G} {r r' : Rho} {H H' : Hp} {σ σ' : L2.St} {n : Nms}
/-! a dict's items as they stand -/
theorem raw_of (nl : B.lk = none) {d : Addr} {kvs : List (D × D)} (h : RDc B T H d kvs) : ∃ (u : HO) (qs : List (V × V)), H d = some u ∧ Mut (some u) ∧ (∀ vs, u ≠ .lst vs) ∧ (∀ Cc dx vs, u ≠ .ins Cc dx vs) ∧ (∀ o v, u ≠ .frz o v) ∧ RDu B T d kvs u ∧ RawU B.prog B.w d u qs ∧
    Paired (fun (p : D × D) (q : V × V) => RD B T p.1 q.1 ∧ RD B T p.2 q.2) kvs qs := by
  rcases h with ⟨ks, at1, pk⟩ | ⟨xs, ne0, at1, pk⟩
  · have hd : H d = some (.dK ks) := by
      rcases at1 with ⟨_, h⟩ | ⟨l, _⟩
      · exact h
      · rw [nl] at l; cases l
    refine ⟨_, _, hd, True.intro, (by intro vs z; cases z), (by intro a b c z; cases z), (by intro a b z; cases z), .inl ⟨ks, rfl, pk⟩, raw_dK ks, ?_⟩
    clear at1 hd
    induction pk with
    | nil => exact .nil
    | cons h1 _ ih => exact .cons ⟨by rw [h1.1]; exact rd_kF, h1.2⟩ ih
  · have hd : H d = some (.ext (DXo B.prog B.w d xs)) := by
      rcases at1 with ⟨_, h⟩ | ⟨l, _⟩
      · exact h
      · rw [nl] at l; cases l
    refine ⟨_, _, hd, True.intro, (by intro vs z; cases z), (by intro a b c z; cases z), (by intro a b z; cases z), .inr ⟨xs, ne0, rfl, pk⟩, raw_ext xs, ?_⟩
    clear at1 hd ne0
    induction pk with
    | nil => exact .nil
    | cons h1 _ ih => exact .cons ⟨h1.2.2.1, h1.2.2.2⟩ ih
section
variable {d : Addr} {od : Obj} {u : HO} {kvs : List (D × D)} {qs : List (V × V)} {T1 : Tm} {H1 : Hp}
theorem wk_rk {src : Ws} (hdd : ∀ (T' : Tm) (g' : G) (r' : Rho) (H' : Hp) (σ' : L2.St), Ext T1 T' → RR B T' g' r' H' σ' → (Same H1 H' ∨ (src.ok g' ∧ src.st = true)) → H' d = some (.frz od u)) (p : Paired (fun (p : D × D) (q : V × V) => RD B T1 p.1 q.1 ∧ RD B T1 p.2 q.2) kvs qs) : Wk B T1 H1 src (itemsD .keys kvs) (Rk d od u qs) := by
  intro T' g' r' H' σ' x' R' hs i
  have hh := hdd T' g' r' H' σ' x' R' hs
  have hl := Paired.length p
  refine ⟨fun h => ⟨hh, by simpa [itemsD, hl] using h⟩, fun y hy => ?_⟩
  have hy : (kvs.map (·.1))[i]? = some y := hy
  rw [List.getElem?_map] at hy
  obtain ⟨q, hq, rfl⟩ := Option.map_eq_some_iff.mp hy
  have lt : i < qs.length := by rw [← hl]; exact (List.getElem?_eq_some_iff.mp hq).1
  refine ⟨⟨hh, lt⟩, fun x H'' yl => ?_⟩
  obtain ⟨rfl, v, hk⟩ := yl
  have := paired_at p hq hk
  exact ⟨T', Ext.refl T', R', Same.refl _, RD.ext x' _ _ this.1⟩
theorem wk_rv {src : Ws} (hdd : ∀ (T' : Tm) (g' : G) (r' : Rho) (H' : Hp) (σ' : L2.St), Ext T1 T' → RR B T' g' r' H' σ' → (Same H1 H' ∨ (src.ok g' ∧ src.st = true)) → H' d = some (.frz od u)) (p : Paired (fun (p : D × D) (q : V × V) => RD B T1 p.1 q.1 ∧ RD B T1 p.2 q.2) kvs qs) : Wk B T1 H1 src (itemsD .vals kvs) (Rv d od u qs) := by
  intro T' g' r' H' σ' x' R' hs i
  have hh := hdd T' g' r' H' σ' x' R' hs
  have hl := Paired.length p
  refine ⟨fun h => ⟨hh, by simpa [itemsD, hl] using h⟩, fun y hy => ?_⟩
  have hy : (kvs.map (·.2))[i]? = some y := hy
  rw [List.getElem?_map] at hy
  obtain ⟨q, hq, rfl⟩ := Option.map_eq_some_iff.mp hy
  have lt : i < qs.length := by rw [← hl]; exact (List.getElem?_eq_some_iff.mp hq).1
  refine ⟨⟨hh, lt⟩, fun x H'' yl => ?_⟩
  obtain ⟨rfl, v, hk⟩ := yl
  have := paired_at p hq hk
  exact ⟨T', Ext.refl T', R', Same.refl _, RD.ext x' _ _ this.2⟩
theorem wk_ri {src : Ws} (hdd : ∀ (T' : Tm) (g' : G) (r' : Rho) (H' : Hp) (σ' : L2.St), Ext T1 T' → RR B T' g' r' H' σ' → (Same H1 H' ∨ (src.ok g' ∧ src.st = true)) → H' d = some (.frz od u)) (p : Paired (fun (p : D × D) (q : V × V) => RD B T1 p.1 q.1 ∧ RD B T1 p.2 q.2) kvs qs) : Wk B T1 H1 src (itemsD .items kvs) (Ri d od u qs) := by
  intro T' g' r' H' σ' x' R' hs i
  have hh := hdd T' g' r' H' σ' x' R' hs
  have hl := Paired.length p
  refine ⟨fun h => ⟨hh, by simpa [itemsD, hl] using h⟩, fun y hy => ?_⟩
  have hy : (kvs.map fun q => D.seq true [q.1, q.2])[i]? = some y := hy
  rw [List.getElem?_map] at hy
  obtain ⟨q, hq, rfl⟩ := Option.map_eq_some_iff.mp hy
  have lt : i < qs.length := by rw [← hl]; exact (List.getElem?_eq_some_iff.mp hq).1
  refine ⟨⟨hh, lt⟩, fun x H'' yl => ?_⟩
  obtain ⟨a, k, v, hk, rfl, np, rfl⟩ := yl
  have := paired_at p hq hk
  have rv : RDs B T' [q.1, q.2] [k, v] := ⟨_, _, rfl, RD.ext x' _ _ this.1, _, _, rfl, RD.ext x' _ _ this.2, rfl⟩
  obtain ⟨x3, R3, rd, s3⟩ := new_fz (t := true) R' rv np
  exact ⟨_, x3, R3, s3, rd⟩
end
theorem wk_un {d : Addr} {od : Obj} {u : HO} {T1 : Tm} {H1 : Hp} (hd : H1 d = some (.frz od u)) : ∀ (T' : Tm) (g' : G) (r' : Rho) (H' : Hp) (σ' : L2.St), Ext T1 T' → RR B T' g' r' H' σ' → (Same H1 H' ∨ ((Ws.un).ok g' ∧ (Ws.un).st = true)) → H' d = some (.frz od u) := fun T' g' r' H' σ' x R hs => (hs.resolve_right fun z => by cases z.2) _ _ hd
def iDr (P : Program) (w : World) : Dk → TE → TI
  | .keys, td => iRk P w td
  | .items, td => iRi P w td
  | .vals, td => iRv P w td
/-! the lock, any dict -/
theorem RR.lockU (nl : B.lk = none) {d : Addr} {od : Obj} {u : HO} (R : RR B T g r H σ) (hd : H d = some u) (uL : ∀ vs, u ≠ .lst vs) (uI : ∀ Cc dx vs, u ≠ .ins Cc dx vs) (uF : ∀ o v, u ≠ .frz o v) {t : Tag} (ht : T.at_ d = some t) (lv : t.live = true) : RR (B.lock d) T g r (upd H d (.frz od u)) σ := by
  have ne : ∀ a o, H a = some o → o ≠ u → a ≠ d := fun a o h q e => by
    rw [e, hd] at h
    cases h
    exact q rfl
  refine RR.other (B := B) (B' := B.lock d) rfl rfl rfl rfl rfl rfl rfl (fun a u' h => ?_) (fun a vs h => ?_) (fun a Cc dx vs h => ?_) (fun a u' h => ?_) (fun a o h => ?_) (fun i a kvs ob u' h1 h2 h => ?_) R
  · rcases h with ⟨_, h⟩ | ⟨l, _⟩
    · by_cases e : a = d
      · subst e
        rw [hd] at h
        cases h
        exact .inr ⟨rfl, od, upd_same⟩
      · exact .inl ⟨fun z => e (Option.some.inj z).symm, by rw [upd_ne e]; exact h⟩
    · rw [nl] at l; cases l
  · rw [upd_ne (ne a _ h fun z => uL vs z.symm)]; exact h
  · rw [upd_ne (ne a _ h fun z => uI Cc dx vs z.symm)]; exact h
  · refine upd_ne fun e => ?_
    rw [e, ht] at h
    rcases h with h | h <;> (cases h; cases lv)
  · by_cases e : a = d
    · exact ⟨_, by rw [e]; exact upd_same⟩
    · exact ⟨o, by rw [upd_ne e]; exact h⟩
  · rw [upd_ne (ne a _ h fun z => uF _ _ z.symm)]; exact h
theorem RR.unlockU (nl : B.lk = none) {d : Addr} {od : Obj} {u : HO} (R : RR (B.lock d) T g r H σ) (hd : H d = some (.frz od u)) {t : Tag} (ht : T.at_ d = some t) (lv : t.live = true) (nlk : ∀ i kvs o u, g i = some (.lkd kvs o u) → T.at_ d ≠ some (.id i)) : RR B T g r (upd H d u) σ := by
  have ne : ∀ a o, H a = some o → o ≠ .frz od u → a ≠ d := fun a o h q e => by
    rw [e, hd] at h
    cases h
    exact q rfl
  refine RR.other (B := B.lock d) (B' := B) rfl rfl rfl rfl rfl rfl rfl (fun a u' h => ?_) (fun a vs h => ?_) (fun a Cc dx vs h => ?_) (fun a u' h => ?_) (fun a o h => ?_) (fun i a kvs ob u' h1 h2 h => ?_) R
  · have no : B.lk ≠ some a := by rw [nl]; exact fun z => nomatch z
    rcases h with ⟨l, h⟩ | ⟨l, o, h⟩
    · have e : a ≠ d := fun z => l (by rw [z]; rfl)
      exact .inl ⟨no, by rw [upd_ne e]; exact h⟩
    · have l : some d = some a := l
      cases l
      rw [hd] at h
      cases h
      exact .inl ⟨no, upd_same⟩
  · rw [upd_ne (ne a _ h (by intro z; cases z))]; exact h
  · rw [upd_ne (ne a _ h (by intro z; cases z))]; exact h
  · refine upd_ne fun e => ?_
    rw [e, ht] at h
    rcases h with h | h <;> (cases h; cases lv)
  · by_cases e : a = d
    · exact ⟨_, by rw [e]; exact upd_same⟩
    · exact ⟨o, by rw [upd_ne e]; exact h⟩
  · rw [upd_ne fun (e : a = d) => nlk i kvs ob u' h1 (by rw [← e]; exact h2)]; exact h
/-! d[k] = v -/
theorem rc_mutA {a : Addr} {kvs : List (D × D)} (nl : B.lk ≠ some a) (h : RDc B T H a kvs) : Mut (H a) := by
  rcases h with ⟨ks, ⟨_, q1⟩ | ⟨l, _⟩, _⟩ | ⟨xs, _, ⟨_, q1⟩ | ⟨l, _⟩, _⟩
  · rw [q1]; exact True.intro
  · exact absurd l nl
  · rw [q1]; exact True.intro
  · exact absurd l nl
section
variable {pins : List (Addr × Obj)} {s : Shared} {a : Addr} {kvs : List (D × D)} {d z : D} {u w : Value} {v : V} {A : Around} {E : Value → Shared → Prop}
theorem g_dictSet {Q : Unit → Shared → Prop} (ob : OnB B X) (nl : B.lk ≠ some a) (hu : A.units + 200 < cLine) (I : Inv X pins σ H s) (hs : (a == sysModules) = false) (mu : Mut (H a)) (hl : kvs.length < lineN) (dv : DV X.prog X.w B T s.heap a kvs d u) (hz : RD B T z v) (rz : RelV v w)
    (h : ∀ o s', Inv X pins σ (upd H a o) s' → RDc B T (upd H a o) a (dPut kvs d z) → Q () s') : wpAny (model X.prog X.w) A (dictSet a u w) Q E s := by
  have hl2 : (dPut kvs d z).length ≤ sizeLine := Nat.le_trans dPut_len (line_lt hl)
  cases dv with
  | flat k ks vs e ru p kv hd =>
    subst e
    have e1 := Paired.length p
    have e2 : ks.length = vs.length := Paired.length kv
    refine wpAny_dictSet_pairs (hsz := by rw [← e2, ← e1]; exact Nat.le_of_lt (line_lt hl)) (kV_is ru) hd fun h' dd' sb => ?_
    have p2 := kf_put p k hz
    exact h _ _ (g_new I (by obtain ⟨q, _, _, hq, _⟩ := id dd'; exact ⟨q, hq⟩) mu sb (dk_new (by rw [← Paired.length p2]; exact hl2) hs (kv.put k rz) dd')) (.inl ⟨_, .inl ⟨nl, upd_same⟩, p2⟩)
  | tup b ys e hk rb ib p hd =>
    subst e
    have e1 := Paired.length p
    refine wpAny_dictSet_heap (hsz := by rw [← e1]; exact Nat.le_of_lt (line_lt hl)) (by show A.units + 8 < cLine; omega) ib hd fun h' dd' sb => ?_
    have p2 := kt_put p hk rb hz rz
    obtain ⟨xs, p3, ok⟩ := ext_ok (H := upd H a (.ext (DXo B.prog B.w a (kt_split p2).choose))) ob p2 hl2 hs dd'
    exact h (.ext (DXo B.prog B.w a xs)) _ (g_new I (by obtain ⟨q, _, _, hq, _⟩ := id dd'; exact ⟨q, hq⟩) mu sb ok) (.inr ⟨xs, fun z => dPut_ne (List.length_eq_zero_iff.mp ((Paired.length p3).trans (by rw [z]; rfl))), .inl ⟨nl, upd_same⟩, p3⟩)
end
theorem RD.retag {p : Addr} (hp : T.at_ p = none ∨ ∃ u, T.at_ p = some (.fr u)) {t : Option Tag} {d : D} {v : V} (h : RD B T d v) : RD B (T.sett p t) d v := by
  obtain ⟨y, ys, e, h2, _⟩ := RDs.retag hp (t := t) (RDs.one h)
  cases e
  exact h2
def OkDc (B : Bd) : Cx → Prop := fun X => OnB B X ∧ X.A.units + 200 < cLine
theorem dc_plain {own : List Nat} {t : Tg} {c : Oe} {ke ve : E} {xs : List D} {ys : List (D × D)} {J : L2.It} {Q : VK} {T1 : Tm} {H1 : Hp} (R1 : RR B T1 g r H1 σ) (wk : Wk B T1 H1 .un xs J) (hxs : xs.length ≤ lineN) (ok : ownOk r own = true) (s1 : simO c = true) (s2 : simE ke = true) (s3 : simE ve = true) (ho : ∀ i ∈ t.ix, i ∈ own)
    (lkd : ∀ d, B.lk = some d → ∃ o, H1 d = some o)
    (hv : dcV t (wipeR r own) (fun r1 => evT B.P c r1 g) (fun r1 => evE B.P ke r1 g) (fun r1 => evE B.P ve r1 g) xs [] = some ys)
    (hq : ∀ T2 H2 p, Ext T1 T2 → RR B T2 g r H2 σ → Same H1 H2 → T2.at_ p = none → RDc B T2 H2 p ys → Q (.ref p) H2) :
    bDc (OkDc B) (gTg B.K t) (tT B C c) (tE B C W0 ke) (tE B C W0 ve) own σ J H1 Q := by
  intro p np
  have nlp : B.lk ≠ some p := fun z => by
    obtain ⟨o, h⟩ := lkd p z
    rw [np] at h
    cases h
  have n1 : T1.at_ p = none := R1.fresh np
  let Inv' : Nat → Nat → Hp → Prop := fun i m H' => m = xs.length - i ∧ i ≤ xs.length ∧ ∃ (T2 : Tm) (acc : List (D × D)) (u : HO), dcV t (wipeR r own) (fun r1 => evT B.P c r1 g) (fun r1 => evE B.P ke r1 g) (fun r1 => evE B.P ve r1 g) (xs.drop i) acc = some ys ∧ acc.length ≤ i ∧ Ext T1 T2 ∧ T2.at_ p = some (.fr u) ∧ RDc B T2 H' p acc ∧ RR B T2 g (wipeR r own) H' (L2.wipe σ own) ∧ Same H1 H'
  have ne1 : ∀ {a t'}, T1.at_ a = some t' → a ≠ p := fun {a t'} h q => by
    rw [q, n1] at h
    cases h
  have e0 : Ext T1 (T1.sett p (some (.fr (.dK [])))) := ⟨fun a u h => (sett_ne (ne1 h)).trans h, fun a u h => (sett_ne (ne1 h)).trans h, fun a u h => (sett_ne (ne1 h)).trans h, rfl⟩
  refine ⟨Inv', ⟨_, rfl, Nat.zero_le _, _, [], .dK [], hv, Nat.zero_le _, e0, sett_same, .inl ⟨[], .inl ⟨nlp, upd_same⟩, .nil⟩, (R1.retag (.inl n1) tg_fr (by intro i z; cases z)).wipe own, Same.upd np⟩, ?_⟩
  rintro i m H2 ⟨rfl, hi, T2, acc, u, hcv, hal, x2, hp2, rc, R2, sm2⟩
  have step := wk T2 g _ H2 _ x2 R2 (.inl sm2) i
  by_cases lt : i < xs.length
  · refine .inr ?_
    have hd : xs[i]? = some xs[i] := by simp [lt]
    obtain ⟨go, yl⟩ := step.2 _ hd
    refine ⟨go, fun H' => ∃ m', m' < xs.length - i ∧ Inv' (i + 1) m' H', fun H' h => h, fun x H3 y => ?_⟩
    obtain ⟨T3, x3, R3, s3', rx⟩ := yl x H3 y
    rw [List.drop_eq_getElem_cons lt] at hcv
    have hcv : (match bindT t xs[i] (wipeR r own) with
      | none => none
      | some r1 => (evT B.P c r1 g).bind fun b => if b = true then (evE B.P ke r1 g).bind fun k => (evE B.P ve r1 g).bind fun z => if keysOk acc k = true then dcV t (wipeR r own) (fun r1 => evT B.P c r1 g) (fun r1 => evE B.P ke r1 g) (fun r1 => evE B.P ve r1 g) (xs.drop (i + 1)) (dPut acc k z) else none else dcV t (wipeR r own) (fun r1 => evT B.P c r1 g) (fun r1 => evE B.P ke r1 g) (fun r1 => evE B.P ve r1 g) (xs.drop (i + 1)) acc) = some ys := hcv
    split at hcv
    · cases hcv
    rename_i r1 hb
    obtain ⟨b, hb1, hcv⟩ := bnd hcv
    refine gTg_ok R3 rx hb fun σ4 R4 hwp => ?_
    obtain ⟨w1, w2⟩ := hwp own ho
    rw [wipe_idem] at w1
    rw [wipeR_idem] at w2
    refine ⟨by first | exact w1 | (rw [wipe_idem]; exact w1), ?_⟩
    refine ⟨T3, g, r1, fun b' g' => b' = b ∧ g' = g, R4, evT_ok c hb1 ⟨rfl, rfl⟩, fun b' g5 T5 H5 x5 R5 s5 hb5 => ?_⟩
    obtain ⟨eb, eg⟩ := hb5
    rw [eg] at R5
    rw [eb]
    clear eb eg
    have p5 := x5.fr _ _ (x3.fr _ _ hp2)
    have X15 : Ext T1 T5 := (x2.trans x3).trans x5
    have S25 : Same H2 H5 := s3'.trans (s5 s1)
    have S5 : Same H1 H5 := sm2.trans S25
    have rc5 : RDc B T5 H5 p acc := RDc.map (fun d v q => RD.ext (x3.trans x5) d v q) (fun a u' q => q.same S25) rc
    cases b with
    | true =>
      simp only [if_true] at hcv ⊢
      obtain ⟨kd, hk1, hcv1⟩ := bnd hcv
      obtain ⟨zd, hz1, hcv2⟩ := bnd hcv1
      split at hcv2
      rotate_left
      · cases hcv2
      rename_i kok
      refine ⟨T5, g, r1, fun d' g' => d' = kd ∧ g' = g, fun _ _ => False, R5, evE_ok ke hk1 ⟨rfl, rfl⟩, fun d' g6 T6 H6 v x6 R6 rd s6 hd6 => ?_, fun c g' T' H' _ _ z => z.elim⟩
      obtain ⟨ed, eg6⟩ := hd6
      rw [eg6] at R6
      rw [ed] at rd
      clear ed eg6
      refine ⟨T6, g, r1, fun d' g' => d' = zd ∧ g' = g, fun _ _ => False, R6, evE_ok ve hz1 ⟨rfl, rfl⟩, fun d' g7 T7 H7 v2 x7 R7 rd2 s7 hd7 => ?_, fun c g' T' H' _ _ z => z.elim⟩
      obtain ⟨ed, eg7⟩ := hd7
      rw [eg7] at R7
      rw [ed] at rd2
      clear ed eg7
      have rdk : RD B T7 kd v := RD.ext x7 _ _ rd
      have p7 := x7.fr _ _ (x6.fr _ _ p5)
      have S57 : Same H5 H7 := (s6 s2).trans (s7 s3)
      have rc7 : RDc B T7 H7 p acc := RDc.map (fun d v q => RD.ext (x6.trans x7) d v q) (fun a u' q => q.same S57) rc5
      rintro X' ⟨ob, un⟩ pins σx s ku zu E I ry rz
      obtain ⟨dv, hz, hs⟩ := dv_of ob I R7 rc7.rd kok rdk ry
      refine g_dictSet ob nlp un I hs (rc_mutA nlp rc7) (by show acc.length < lineN; omega) dv rd2 rz fun o s' I' rc' => ⟨_, I', ?_⟩
      have X17 : Ext T1 T7 := (X15.trans x6).trans x7
      refine ⟨_, ?_, rfl, lt, T7.sett p (some (.fr o)), dPut acc kd zd, o, hcv2, ?_, ?_, sett_same, ?_, ?_, ?_⟩
      · omega
      · have := dPut_len (kvs := acc) (d := kd) (z := zd)
        omega
      · exact ⟨fun a u h => (sett_ne (ne1 h)).trans (X17.fz _ _ h), fun a u h => (sett_ne (ne1 h)).trans (X17.fr _ _ h), fun a u h => (sett_ne (ne1 h)).trans (X17.id _ _ h), X17.ex⟩
      · exact RDc.map (fun d v q => RD.retag (.inr ⟨_, p7⟩) q) (fun a u' q => q) rc'
      · have R8 := (R7.retag (p := p) (.inr ⟨_, p7⟩) (o := o) tg_fr (by intro i z; cases z)).wipe own
        rw [w1, w2] at R8
        exact R8
      · intro b q hb'
        have ne : b ≠ p := fun z => by
          rw [z, np] at hb'
          cases hb'
        rw [upd_ne ne]
        exact S57 _ _ (S5 _ _ hb')
    | false =>
      simp only [Bool.false_eq_true, if_false] at hcv ⊢
      refine ⟨_, ?_, rfl, lt, T5, acc, u, hcv, by omega, X15, p5, rc5, ?_, S5⟩
      · omega
      · have R7 := R5.wipe own
        rw [w1, w2] at R7
        exact R7
  · refine .inl ⟨step.1 (Nat.le_of_not_lt lt), ?_⟩
    rw [List.drop_eq_nil_of_le (Nat.le_of_not_lt lt)] at hcv
    cases hcv
    have hH := R2.fr _ _ hp2
    have R3 := R2.retag (p := p) (.inr ⟨_, hp2⟩) (o := u) (t := none) tg_no (by intro i z; cases z)
    have eu : upd H2 p u = H2 := by
      funext b
      by_cases q : b = p
      · subst q
        rw [upd_same, hH]
      · rw [upd_ne q]
    rw [eu] at R3
    have x4 : Ext T1 (T2.sett p none) := ⟨fun a u h => (sett_ne (ne1 h)).trans (x2.fz _ _ h), fun a u h => (sett_ne (ne1 h)).trans (x2.fr _ _ h), fun a u h => (sett_ne (ne1 h)).trans (x2.id _ _ h), x2.ex⟩
    exact hq (T2.sett p none) H2 p x4 (R1.unwipe ok x4 R3) sm2 sett_same (RDc.map (fun d v q => RD.retag (.inr ⟨_, hp2⟩) q) (fun a u' q => q) rc)
/-! a walk over a dict under a lock -/
theorem Wk.un {xs : List D} {src : Ws} {J : L2.It} (w : Wk B T H src xs J) : Wk B T H .un xs J := fun T' g' r' H' σ' x R' hs i => w T' g' r' H' σ' x R' (.inl (hs.resolve_right fun z => by cases z.2)) i
theorem lock_conv {Body : Addr → L2.It → Hp → VK → Prop} {k : Dk} {p : Pl} {ct : Ct} {Q : VK} {src : Src} {kvs : List (D × D)} (Gd : Good B n) (nl : B.lk = none) (sp : simP p = true) (hf : ∀ o f, p = .fld o f → ∃ x, B.an[f]? = some x)
    (R : RR B T g r H σ) (hev : evP B.P p r g = some (src, .dct kvs)) (hcb : src.ctB g = true)
    (core : ∀ (d : Addr) (Q' : VK) (T1 : Tm) (H1 : Hp) (J : L2.It), Ext T T1 → RR (B.lock d) T1 g r H1 σ → (∃ o, H1 d = some o) → Wk (B.lock d) T1 H1 .un (itemsD k kvs) J → (∀ T2 H2 q, Ext T1 T2 → RR (B.lock d) T2 g r H2 σ → Same H1 H2 → T2.at_ q = none → RCt (B.lock d) T2 H2 q ct → Q' (.ref q) H2) → Body d J H1 Q')
    (hqq : ∀ T2 H2 q, Ext T T2 → RR B T2 g r H2 σ → Same H H2 → T2.at_ q = none → RCt B T2 H2 q ct → Q (.ref q) H2) :
    ∃ d, tLockE (fun σ H Q => iDr B.prog B.w k (tP (B.lock d) C W p) σ H fun J H1 => Body d J H1 Q) σ H Q := by
  obtain ⟨okc, nt⟩ := evP_okC hev hcb
  have hsf : ∀ i f, src = .fld i f → ∃ x, B.an[f]? = some x := by
    intro i f e1
    subst e1
    cases p with
    | fld o f' =>
      obtain ⟨d, h1, h2⟩ := bnd hev
      cases d with
      | ref i' =>
        have h2 : (match fldOf g (.ref i') f' with | some (.own c) => some (Src.fld i' f', c.cv) | _ => none) = some (.fld i f, .dct kvs) := h2
        split at h2
        · have z := congrArg Prod.fst (Option.some.inj h2)
          cases z
          exact hf o _ rfl
        · cases h2
      | _ => cases h2
    | v e =>
      obtain ⟨d, h1, h2⟩ := bnd hev
      obtain ⟨c, h3, h4⟩ := Option.map_eq_some_iff.mp h2
      cases d <;> cases h4
    | loc j =>
      have h : (match r[j]? with | some (some (.own c)) => some (Src.loc j, c.cv) | _ => none) = some (.fld i f, .dct kvs) := hev
      split at h
      · have z := congrArg Prod.fst (Option.some.inj h)
        cases z
      · cases h
  obtain ⟨d, tg, e1, lv, ht, rc, rsd, uq⟩ := place_dct Gd R okc nt hsf
  obtain ⟨u, qs, hd, mu, uL, uI, uF, _, ru, pk⟩ := raw_of nl rc
  refine ⟨d, d, u, hd, mu, fun od => ?_⟩
  have RL := R.lockU nl (od := od) hd uL uI uF ht lv
  have pkL : ∀ T1, Ext T T1 → Paired (fun (p : D × D) (q : V × V) => RD (B.lock d) T1 p.1 q.1 ∧ RD (B.lock d) T1 p.2 q.2) kvs qs := fun T1 x => Paired.mapP pk fun _ _ z => ⟨RD.other (B := B) (B' := B.lock d) rfl _ _ (RD.ext x _ _ z.1), RD.other (B := B) (B' := B.lock d) rfl _ _ (RD.ext x _ _ z.2)⟩
  have cor : ∀ (T1 : Tm) (H1 : Hp) (J : L2.It), Ext T T1 → RR (B.lock d) T1 g r H1 σ → Same (upd H d (.frz od u)) H1 → Wk (B.lock d) T1 H1 .un (itemsD k kvs) J → Body d J H1 fun v H' => H' d = some (.frz od u) ∧ Q v (upd H' d u) := by
    intro T1 H1 J x1 R1 sm wk
    refine core d _ T1 H1 J x1 R1 ⟨_, sm _ _ upd_same⟩ wk fun T2 H2 q x2 R2 sm2 nq rct => ?_
    have hd2 : H2 d = some (.frz od u) := sm2 _ _ (sm _ _ upd_same)
    refine ⟨hd2, ?_⟩
    obtain ⟨d2, tg2, e2, lv2, ht2, _, rsd2, uq2⟩ := place_dct (Gd.lock d) R2 okc nt hsf
    have rs1 : RSrc (B.lock d) T2 H2 σ (.ref d) src := by
      have a1 : RSrc (B.lock d) T (upd H d (.frz od u)) σ (.ref d) src := by
        cases src with
        | fld i f =>
          obtain ⟨a, b, CC, dx, ws, y, w1, w2, w3, w4, w5⟩ := rsd
          refine ⟨a, b, CC, dx, ws, y, w1, w2, ?_, w4, w5⟩
          rw [upd_ne (fun z => by rw [z, hd] at w3; exact uI _ _ _ (Option.some.inj w3))]
          exact w3
        | _ => exact rsd
      have sim2 : Same (upd H d (.frz od u)) H2 := sm.trans sm2
      cases src with
      | no => exact True.intro
      | giv => exact True.intro
      | obj i =>
        obtain ⟨a, w1, w2⟩ := a1
        exact ⟨a, w1, (x1.trans x2).id _ _ w2⟩
      | loc j => exact a1
      | fld i f =>
        obtain ⟨a, b, CC, dx, ws, y, w1, w2, w3, w4, w5⟩ := a1
        exact ⟨a, b, CC, dx, ws, y, w1, (x1.trans x2).id _ _ w2, sim2 _ _ w3, w4, w5⟩
    have ed := uq2 _ rs1
    cases ed
    have nlk : ∀ i kvs o u, g i = some (.lkd kvs o u) → T2.at_ d ≠ some (.id i) := fun i kvs' o u' hgi hid => by
      rw [ht2] at hid
      cases hid
      cases src with
      | obj j =>
        have okc : g j = some (.ct (.dct kvs)) := okc
        cases e2
        rw [hgi] at okc
        cases okc
      | no => cases e2
      | giv => cases e2
      | loc j => cases e2
      | fld i f => cases e2
    have RU := R2.unlockU nl hd2 ht2 lv2 nlk
    have nd : q ≠ d := fun z => by rw [z, ht2] at nq; cases nq
    refine hqq T2 _ q (x1.trans x2) RU ?_ nq ?_
    · intro b o hb
      by_cases eb : b = d
      · subst eb
        rw [hd] at hb
        cases hb
        exact upd_same
      · rw [upd_ne eb]
        exact sm2 _ _ (sm _ _ (by rw [upd_ne eb]; exact hb))
    · have hA : ∀ a u', a ≠ d → At (B.lock d) H2 a u' → At B (upd H2 d u) a u' := fun a u' ne h => by
        rcases h with ⟨_, h⟩ | ⟨l, _, _⟩
        · exact .inl ⟨(by rw [nl]; intro z; cases z), (by rw [upd_ne ne]; exact h)⟩
        · exact absurd (Option.some.inj l).symm ne
      cases ct with
      | lst xs =>
        obtain ⟨vs, h1, h2⟩ := rct
        exact ⟨vs, by rw [upd_ne nd]; exact h1, RDs.other (B := B.lock d) (B' := B) rfl _ _ h2⟩
      | dct ys =>
        have rct : RDc (B.lock d) T2 H2 q ys := rct
        show RDc B T2 (upd H2 d u) q ys
        rcases rct with ⟨ks, h1, h2⟩ | ⟨xs, h0, h1, h2⟩
        · exact .inl ⟨ks, hA _ _ nd h1, Paired.mapP h2 fun _ _ z => ⟨z.1, RD.other (B := B.lock d) (B' := B) rfl _ _ z.2⟩⟩
        · exact .inr ⟨xs, h0, hA _ _ nd h1, Paired.mapP h2 fun _ _ z => ⟨z.1, z.2.1, RD.other (B := B.lock d) (B' := B) rfl _ _ z.2.2.1, RD.other (B := B.lock d) (B' := B) rfl _ _ z.2.2.2⟩⟩
  have place : ∀ (Qp : VK), (∀ T1 H1, Ext T T1 → RR (B.lock d) T1 g r H1 σ → Same (upd H d (.frz od u)) H1 → Qp (.ref d) H1) → tP (B.lock d) C W p σ (upd H d (.frz od u)) Qp := by
    intro Qp hQ
    refine ⟨T, g, r, fun q g1 => q = (src, .dct kvs) ∧ g1 = g, fun _ _ => False, RL, evP_ok p hev ⟨rfl, rfl⟩, fun q g1 T1 H1 v x1 R1 rel sm hk1 => ?_, fun c g' T' H' _ _ z => z.elim⟩
    obtain ⟨rfl, eg⟩ := hk1
    rw [eg] at R1
    have rs1 : RSrc (B.lock d) T1 H1 σ v src := rel.2.1
    have a1 : RSrc (B.lock d) T1 H1 σ (.ref d) src := by
      cases src with
      | no => exact True.intro
      | giv => exact True.intro
      | obj i =>
        obtain ⟨a, w1, w2⟩ := rsd
        exact ⟨a, w1, x1.id _ _ w2⟩
      | loc j => exact rsd
      | fld i f =>
        obtain ⟨a, b, CC, dx, ws, y, w1, w2, w3, w4, w5⟩ := rsd
        refine ⟨a, b, CC, dx, ws, y, w1, x1.id _ _ w2, sm sp _ _ ?_, w4, w5⟩
        rw [upd_ne (fun z => by rw [z, hd] at w3; exact uI _ _ _ (Option.some.inj w3))]
        exact w3
    obtain ⟨d2, tg2, e2, lv2, ht2, _, rsd2, uq2⟩ := place_dct (Gd.lock d) R1 okc nt hsf
    have q1 := uq2 _ rs1
    have q2 := uq2 _ a1
    rw [q1, ← q2]
    exact hQ T1 H1 x1 R1 (sm sp)
  cases k with
  | keys =>
    refine place _ fun T1 H1 x1 R1 sm => ⟨d, od, u, qs, rfl, sm _ _ upd_same, ru, ?_⟩
    exact cor T1 H1 _ x1 R1 sm (wk_rk (wk_un (sm _ _ upd_same)) (pkL T1 x1))
  | vals =>
    refine place _ fun T1 H1 x1 R1 sm => ⟨d, od, u, qs, rfl, sm _ _ upd_same, ru, ?_⟩
    exact cor T1 H1 _ x1 R1 sm (wk_rv (wk_un (sm _ _ upd_same)) (pkL T1 x1))
  | items =>
    refine place _ fun T1 H1 x1 R1 sm => ⟨d, od, u, qs, rfl, sm _ _ upd_same, ru, ?_⟩
    exact cor T1 H1 _ x1 R1 sm (wk_ri (wk_un (sm _ _ upd_same)) (pkL T1 x1))
/-! list comprehensions over dicts -/
theorem compd_conv {own : List Nat} {t : Tg} {k : Dk} {p : Pl} {c : Oe} {e : E} (Gd : Good B n) (nl : B.lk = none) (hK : X.K = B.K) (sp : simP p = true) (s1 : simO c = true) (s2 : simE e = true) (ho : ∀ i ∈ t.ix, i ∈ own) (hf : ∀ o f, p = .fld o f → ∃ x, B.an[f]? = some x)
    {σ : L2.St} {H : Hp} {Q : VK} (h : tC B C W (.compd own t k p c e) σ H Q) : ∃ d, tLockE (tLc (iDr B.prog B.w k (tP (B.lock d) C W p)) (gTg X.K t) (tT (B.lock d) C c) (tE (B.lock d) C W0 e) own) σ H Q := by
  obtain ⟨T, g, r, Ke, Xe, R, hw, hqq, hx⟩ := h
  obtain ⟨src, kvs, ys, ⟨ok, hl, hcb⟩, hev, hv, hk⟩ := hw
  rw [hK]
  refine lock_conv (ct := .lst ys) (Body := fun d J H1 Q => ∀ D, H1 D = none → ∃ W : Nat → Nat → Hp → Prop, (∃ m, W 0 m (upd H1 D (.lst []))) ∧ ∀ i m H, W i m H →
      (J.stop i H ∧ Q (.ref D) H) ∨ (J.go i H ∧ ∃ Nx : Hp → Prop, (∀ H', Nx H' → ∃ m', m' < m ∧ W (i + 1) m' H') ∧ ∀ x H', J.yld i H x H' → gTg B.K t x (L2.wipe σ own) H' fun σ2 H2 => L2.wipe σ2 own = L2.wipe σ own ∧ tT (B.lock d) C c σ2 H2 fun b H3 =>
        if b = true then tE (B.lock d) C W0 e σ2 H3 fun y H4 => ∃ acc, H4 D = some (.lst acc) ∧ acc.length < sizeLine ∧ Nx (upd H4 D (.lst (acc ++ [y]))) else Nx H3)) Gd nl sp hf R hev hcb (fun d Q' T1 H1 J x1 R1 hd wk hq => ?_) (fun T2 H2 q x2 R2 sm nq rct => ?_)
  · have hxs : (itemsD k kvs).length ≤ lineN := by cases k <;> simpa [itemsD] using hl
    exact compd_core (B := B.lock d) R1 wk hxs ok s1 s2 ho hv fun T2 H2 q vs x2 R2 sm2 nq hq2 rs => hq T2 H2 q x2 R2 sm2 nq ⟨vs, hq2, rs⟩
  · exact hqq (.lst ys) g T2 H2 _ x2 R2 ⟨q, rfl, nq, rct⟩ (fun _ => sm) hk
theorem dcd_conv {own : List Nat} {t : Tg} {k : Dk} {p : Pl} {c : Oe} {ke ve : E} (Gd : Good B n) (nl : B.lk = none) (hK : X.K = B.K) (sp : simP p = true) (s1 : simO c = true) (s2 : simE ke = true) (s3 : simE ve = true) (ho : ∀ i ∈ t.ix, i ∈ own) (hf : ∀ o f, p = .fld o f → ∃ x, B.an[f]? = some x)
    {σ : L2.St} {H : Hp} {Q : VK} (h : tC B C W (.dcd own t k p c ke ve) σ H Q) : ∃ d, tLockE (tDcX (OkDc (B.lock d)) (iDr B.prog B.w k (tP (B.lock d) C W p)) (gTg X.K t) (tT (B.lock d) C c) (tE (B.lock d) C W0 ke) (tE (B.lock d) C W0 ve) own) σ H Q := by
  obtain ⟨T, g, r, Ke, Xe, R, hw, hqq, hx⟩ := h
  obtain ⟨src, kvs, ys, ⟨ok, hl, hcb⟩, hev, hv, hk⟩ := hw
  rw [hK]
  refine lock_conv (ct := .dct ys) (Body := fun d J H1 Q => bDc (OkDc (B.lock d)) (gTg B.K t) (tT (B.lock d) C c) (tE (B.lock d) C W0 ke) (tE (B.lock d) C W0 ve) own σ J H1 Q) Gd nl sp hf R hev hcb (fun d Q' T1 H1 J x1 R1 hd wk hq => ?_) (fun T2 H2 q x2 R2 sm nq rct => ?_)
  · have hxs : (itemsD k kvs).length ≤ lineN := by cases k <;> simpa [itemsD] using hl
    exact dc_plain (B := B.lock d) R1 wk hxs ok s1 s2 s3 ho (fun d' e => by cases e; exact hd) hv fun T2 H2 q x2 R2 sm2 nq rs => hq T2 H2 q x2 R2 sm2 nq rs
  · exact hqq (.dct ys) g T2 H2 _ x2 R2 ⟨q, rfl, nq, rct⟩ (fun _ => sm) hk
theorem dcl_conv {own : List Nat} {t : Tg} {it : It} {c : Oe} {ke ve : E} (nl : B.lk = none) (hK : X.K = B.K) (si : simI it = true) (s1 : simO c = true) (s2 : simE ke = true) (s3 : simE ve = true) (ho : ∀ i ∈ t.ix, i ∈ own)
    {σ : L2.St} {H : Hp} {Q : VK} (h : tC B C W (.dcl own t it c ke ve) σ H Q) : tDcX (OkDc B) (tI B C W it) (gTg X.K t) (tT B C c) (tE B C W0 ke) (tE B C W0 ve) own σ H Q := by
  obtain ⟨T, g, r, Ke, Xe, R, hw, hqq, hx⟩ := h
  rw [hK]
  refine ⟨T, g, r, _, _, R, hw, fun src xs g1 T1 H1 J x1 R1 wk sm hk => ?_, hx⟩
  obtain ⟨⟨ok, hl⟩, ys, hv, hk⟩ := hk
  exact dc_plain R1 wk.un hl ok s1 s2 s3 ho (fun d' e => by rw [nl] at e; cases e) hv fun T2 H2 q x2 R2 sm2 nq rs => hqq (.dct ys) g1 T2 H2 _ (x1.trans x2) R2 ⟨q, rfl, nq, rs⟩ (fun _ => (sm si).trans sm2) hk
theorem c_compd {lc : Expr} {own : List Nat} {t : Tg} {k : Dk} {p : Pl} {c : Oe} {e : E} (Gd : Good B n) (nl : B.lk = none) (hK : X.K = B.K) (sp : simP p = true) (s1 : simO c = true) (s2 : simE e = true) (ho : ∀ i ∈ t.ix, i ∈ own) (hf : ∀ o f, p = .fld o f → ∃ x, B.an[f]? = some x)
    (hq : ∀ d, PE X lc (tLc (iDr B.prog B.w k (tP (B.lock d) C W p)) (gTg X.K t) (tT (B.lock d) C c) (tE (B.lock d) C W0 e) own)) : PE X lc (tC B C W (.compd own t k p c e)) :=
  ⟨fun pins s σ H Q I h => by
    obtain ⟨d, h⟩ := compd_conv Gd nl hK sp s1 s2 ho hf h
    exact (pe_lock (hq d)).run pins s σ H Q I h⟩
theorem s_compd {st : Stmt} {i : Nat} {own : List Nat} {t : Tg} {k : Dk} {p : Pl} {c : Oe} {e : E} (Gd : Good B n) (nl : B.lk = none) (hK : X.K = B.K) (sp : simP p = true) (s1 : simO c = true) (s2 : simE e = true) (ho : ∀ i ∈ t.ix, i ∈ own) (hf : ∀ o f, p = .fld o f → ∃ x, B.an[f]? = some x)
    (hq : ∀ d, PS X st (tAsg (tLc (iDr B.prog B.w k (tP (B.lock d) C W p)) (gTg X.K t) (tT (B.lock d) C c) (tE (B.lock d) C W0 e) own) (gName i))) : PS X st (tAsg (tC B C W (.compd own t k p c e)) (gName i)) :=
  ⟨fun pins s σ H D I h => by
    obtain ⟨d, d', u, h1, h2, h3⟩ := compd_conv Gd nl hK sp s1 s2 ho hf h
    exact (ps_lock (hq d)).run pins s σ H D I ⟨d', u, h1, h2, h3⟩⟩
theorem c_dcd {lc : Expr} {own : List Nat} {t : Tg} {k : Dk} {p : Pl} {c : Oe} {ke ve : E} (Gd : Good B n) (nl : B.lk = none) (hK : X.K = B.K) (sp : simP p = true) (s1 : simO c = true) (s2 : simE ke = true) (s3 : simE ve = true) (ho : ∀ i ∈ t.ix, i ∈ own) (hf : ∀ o f, p = .fld o f → ∃ x, B.an[f]? = some x)
    (hq : ∀ d, PE X lc (tDcX (OkDc (B.lock d)) (iDr B.prog B.w k (tP (B.lock d) C W p)) (gTg X.K t) (tT (B.lock d) C c) (tE (B.lock d) C W0 ke) (tE (B.lock d) C W0 ve) own)) : PE X lc (tC B C W (.dcd own t k p c ke ve)) :=
  ⟨fun pins s σ H Q I h => by
    obtain ⟨d, h⟩ := dcd_conv Gd nl hK sp s1 s2 s3 ho hf h
    exact (pe_lock (hq d)).run pins s σ H Q I h⟩
theorem s_dcd {st : Stmt} {i : Nat} {own : List Nat} {t : Tg} {k : Dk} {p : Pl} {c : Oe} {ke ve : E} (Gd : Good B n) (nl : B.lk = none) (hK : X.K = B.K) (sp : simP p = true) (s1 : simO c = true) (s2 : simE ke = true) (s3 : simE ve = true) (ho : ∀ i ∈ t.ix, i ∈ own) (hf : ∀ o f, p = .fld o f → ∃ x, B.an[f]? = some x)
    (hq : ∀ d, PS X st (tAsg (tDcX (OkDc (B.lock d)) (iDr B.prog B.w k (tP (B.lock d) C W p)) (gTg X.K t) (tT (B.lock d) C c) (tE (B.lock d) C W0 ke) (tE (B.lock d) C W0 ve) own) (gName i))) : PS X st (tAsg (tC B C W (.dcd own t k p c ke ve)) (gName i)) :=
  ⟨fun pins s σ H D I h => by
    obtain ⟨d, d', u, h1, h2, h3⟩ := dcd_conv Gd nl hK sp s1 s2 s3 ho hf h
    exact (ps_lock (hq d)).run pins s σ H D I ⟨d', u, h1, h2, h3⟩⟩
/-! for .. in a dict -/
def Rdk (k : Dk) (d : Addr) (o : Obj) (u : HO) (kvs : List (V × V)) : L2.It := match k with
  | .keys => Rk d o u kvs
  | .items => Ri d o u kvs
  | .vals => Rv d o u kvs
theorem wk_dk {d : Addr} {od : Obj} {u : HO} {kvs : List (D × D)} {qs : List (V × V)} {T1 : Tm} {H1 : Hp} {src : Ws} (k : Dk) (hdd : ∀ (T' : Tm) (g' : G) (r' : Rho) (H' : Hp) (σ' : L2.St), Ext T1 T' → RR B T' g' r' H' σ' → (Same H1 H' ∨ (src.ok g' ∧ src.st = true)) → H' d = some (.frz od u)) (p : Paired (fun (p : D × D) (q : V × V) => RD B T1 p.1 q.1 ∧ RD B T1 p.2 q.2) kvs qs) : Wk B T1 H1 src (itemsD k kvs) (Rdk k d od u qs) := by
  cases k with
  | keys => exact wk_rk hdd p
  | vals => exact wk_rv hdd p
  | items => exact wk_ri hdd p
theorem iDr_of {k : Dk} {td : TE} {σ : L2.St} {H : Hp} {R : L2.It → Hp → Prop} (h : td σ H fun x H1 => ∃ d o u kvs, x = .ref d ∧ H1 d = some (.frz o u) ∧ RawU B.prog B.w d u kvs ∧ R (Rdk k d o u kvs) H1) : iDr B.prog B.w k td σ H R := by
  cases k <;> exact h
theorem s_ford {tg iter : Expr} {b : List Stmt} {t : Tg} {k : Dk} {p : Pl} {sb : Ss} {pos : Pos} (nl : B.lk = none) (hK : X.K = B.K) (hp : PassesOwn (model X.prog X.w) X.A X.env X.xe) (hc : X.calm = true) (sp : simP p = true) (hi : PI X tg iter (iDr B.prog B.w k (tP B C W p))) (hg : PG X tg (gTg X.K t)) (hb : PSs X b (tSs B C W sb))
    (hs : ∀ x, foldedSetIterable iter X.env x = pure x) : PS X (.For tg iter b [] pos) (tS B C W (.ford t k p sb)) := by
  refine PS.imp (ps_lock (ps_for hp hc hi hg hb hs)) fun De σ H ⟨T, g, r, K, R, hw, hq⟩ => ?_
  obtain ⟨j, kvs, hev, hgj, hall⟩ := hw
  obtain ⟨d, ht, rct⟩ := R.obj j _ hgj
  have rc : RDc B T H d kvs := rct
  obtain ⟨u, qs, hd, mu, uL, uI, uF, rdu, ru, pk⟩ := raw_of nl rc
  refine ⟨d, u, hd, mu, fun od => ?_⟩
  obtain ⟨hev', hw⟩ := hall od u
  have R' : RR B T (up g j (.lkd kvs od u)) r (upd H d (.frz od u)) σ := R.put (ob := .lkd kvs od u) ht ⟨upd_same, rdu⟩
  -- the lock taken away
  have free : ∀ {T2 : Tm} {g2 : G} {r2 : Rho} {H2 : Hp} {σ2 : L2.St}, Ext T T2 → RR B T2 g2 r2 H2 σ2 → g2 j = some (.lkd kvs od u) → H2 d = some (.frz od u) ∧ RR B T2 (up g2 j (.ct (.dct kvs))) r2 (upd H2 d u) σ2 := by
    intro T2 g2 r2 H2 σ2 x2 R2 h2
    have ht2 := x2.id _ _ ht
    obtain ⟨h1, h3⟩ := R2.objAt h2 ht2
    refine ⟨h1, R2.put (ob := .ct (.dct kvs)) ht2 ?_⟩
    show RDc B T2 (upd H2 d u) d kvs
    have nd : B.lk ≠ some d := by rw [nl]; intro z; cases z
    rcases h3 with ⟨ks, e, q⟩ | ⟨xs, ne, e, q⟩
    · exact .inl ⟨ks, .inl ⟨nd, e ▸ upd_same⟩, q⟩
    · exact .inr ⟨xs, ne, .inl ⟨nd, e ▸ upd_same⟩, q⟩
  have atD : ∀ {T2 : Tm} {g2 : G} {r2 : Rho} {H2 : Hp} {σ2 : L2.St}, Ext T T2 → RR B T2 g2 r2 H2 σ2 → g2 j = some (.lkd kvs od u) → H2 d = some (.frz od u) := fun x2 R2 h2 => (R2.objAt h2 (x2.id _ _ ht)).1
  refine iDr_of ⟨T, up g j (.lkd kvs od u), r, fun q g1 => q = (.obj j, .dct kvs) ∧ g1 = up g j (.lkd kvs od u), fun _ _ => False, R', evP_ok p hev' ⟨rfl, rfl⟩, fun q g1 T1 H1 v x1 R1 rel sm hk1 => ?_, fun c g' T' H' _ _ z => z.elim⟩
  obtain ⟨rfl, eg⟩ := hk1
  rw [eg] at R1
  have hgl : (up g j (.lkd kvs od u)) j = some (.lkd kvs od u) := up_same _ _ _
  have rs1 : RSrc B T1 H1 σ v (.obj j) := rel.2.1
  obtain ⟨a, ev, ha⟩ := rs1
  have ead : a = d := R1.inj a d j ha (x1.id _ _ ht)
  subst ead
  have h1d := atD x1 R1 hgl
  refine ⟨a, od, u, qs, ev, h1d, ru, ?_⟩
  have pk1 : Paired (fun (p : D × D) (q : V × V) => RD B T1 p.1 q.1 ∧ RD B T1 p.2 q.2) kvs qs := Paired.mapP pk fun _ _ z => ⟨RD.ext x1 _ _ z.1, RD.ext x1 _ _ z.2⟩
  have wk : Wk B T1 H1 (.lk j kvs od u) (itemsD k kvs) (Rdk k a od u qs) := wk_dk k (fun T' g' r' H' σ' x' R'' hs' => by
    rcases hs' with hs' | ⟨ok, _⟩
    · exact hs' _ _ h1d
    · exact atD (x1.trans x') R'' ok) pk1
  obtain ⟨xs, hxs⟩ : ∃ xs, xs = itemsD k kvs := ⟨_, rfl⟩
  rw [← hxs] at wk hw
  obtain ⟨K', hK'⟩ : ∃ K' : Ks, K' = fun o' r2 g2 => match o' with
        | .exc _ => False
        | o' => g2 j = some (.lkd kvs od u) ∧ K o' r2 (up g2 j (.ct (.dct kvs))) := ⟨_, rfl⟩
  have hw : wFor (.lk j kvs od u) t (fun r g K => wSs B.P C sb r g K) xs r (up g j (.lkd kvs od u)) K' := by rw [hK']; exact hw
  let Iv : Nat → L2.St → Hp → Prop := fun i σ H => ∃ T2 g2 r2, Ext T1 T2 ∧ RR B T2 g2 r2 H σ ∧ wFor (.lk j kvs od u) t (fun r g K => wSs B.P C sb r g K) (xs.drop i) r2 g2 K'
  refine ⟨fun i m σ H => m = xs.length - i ∧ i ≤ xs.length ∧ Iv i σ H, ⟨_, rfl, Nat.zero_le _, T1, _, r, Ext.refl T1, R1, hw⟩, ?_⟩
  rintro i m σ2 H2 ⟨rfl, hi', T2, g2, r2, x2, R2, hw2⟩
  have ok2 : g2 j = some (.lkd kvs od u) := by
    cases hd : xs.drop i with
    | nil => rw [hd] at hw2; exact hw2.1
    | cons y ys => rw [hd] at hw2; exact hw2.1
  have step := wk T2 g2 r2 H2 σ2 x2 R2 (.inr ⟨ok2, rfl⟩) i
  by_cases lt : i < xs.length
  · refine .inr ?_
    have hd : xs[i]? = some xs[i] := by simp [lt]
    obtain ⟨go, yl⟩ := step.2 _ hd
    refine ⟨go, Iv (i + 1), fun σ' H' h => ⟨xs.length - (i + 1), by omega, rfl, lt, h⟩, fun x H3 y => ?_⟩
    obtain ⟨T3, x3, R3, s3, rx⟩ := yl x H3 y
    rw [List.drop_eq_getElem_cons lt] at hw2
    obtain ⟨_, hw2⟩ := hw2
    split at hw2
    · exact hw2.elim
    rename_i r1 hb
    rw [hK]
    refine gTg_ok R3 rx hb fun σ4 R4 _ => ?_
    refine ⟨T3, g2, r1, _, R4, hw2, fun o r5 g5 T5 H5 σ5 x5 R5 hk => ?_⟩
    have X5 := (x2.trans x3).trans x5
    cases o with
    | nx => exact ⟨T5, g5, r5, X5, R5, hk⟩
    | cnt => exact ⟨T5, g5, r5, X5, R5, hk⟩
    | brk =>
      have hk : K' .nx r5 g5 := hk
      rw [hK'] at hk
      obtain ⟨f1, f2⟩ := free (x1.trans X5) R5 hk.1
      exact ⟨f1, hq .nx r5 _ T5 _ σ5 (x1.trans X5) f2 hk.2⟩
    | ret v =>
      have hk : K' (.ret v) r5 g5 := hk
      rw [hK'] at hk
      obtain ⟨f1, f2⟩ := free (x1.trans X5) R5 hk.1
      exact fun w rw' => ⟨f1, hq (.ret v) r5 _ T5 _ σ5 (x1.trans X5) f2 hk.2 w rw'⟩
    | exc c =>
      have hk : K' (.exc c) r5 g5 := hk
      rw [hK'] at hk
      exact hk.elim
  · refine .inl ⟨step.1 (Nat.le_of_not_lt lt), ?_⟩
    rw [List.drop_eq_nil_of_le (Nat.le_of_not_lt lt)] at hw2
    have hk : K' .nx r2 g2 := hw2.2
    rw [hK'] at hk
    obtain ⟨f1, f2⟩ := free (x1.trans x2) R2 hk.1
    exact ⟨f1, hq .nx r2 _ T2 _ σ2 (x1.trans x2) f2 hk.2⟩
end Vb

set_option maxHeartbeats 2000000
/-! The plain layer, part 12: the text is that of the small language. -/
namespace Vb
open PySem L2
structure Ck where
  N : List Str
  sc : Scope
  osc : Option Scope
  calm : Bool
  /-- no dict is walked -/
  nl : Bool
def relab (scope sc : Scope) : Scope := { scope with names := scope.names.map fun (n, k) => if (k == .free && sc.kind == .function && sc.names.lookup n == some .cell) then (n, .cell) else (n, k) }
def dbg (x : Str) : Bool := !(x == ("__debug__" : Str)) && !(x == ("__classdict__" : Str))
def glOk (cx : Ck) (x : Str) : Bool := decide (cx.sc.names.lookup x = some .globalImplicit) && dbg x
def visB (sc : Scope) (x : Str) : Bool := match sc.names.lookup x with
  | some .local => true
  | some .cell => true
  | some .free => true
  | _ => false
def nmOk (cx : Ck) (i : Nat) (x : Str) : Bool := decide (cx.N[i]? = some x) && (visB cx.sc x && dbg x)
def fnB (cx : Ck) (x : Str) : Bool := match cx.osc with
  | none => true
  | some s => s.names.lookup x == some .cell
/-- a name that may be stored -/
def tgOk (cx : Ck) (i : Nat) (x : Str) : Bool := decide (cx.N[i]? = some x) && (decide (cx.sc.names.lookup x = some .local) || (decide (cx.sc.names.lookup x = some .cell) && fnB cx x))
def ckCon : D → Expr → Bool
  | .non, a => (match a with | .Constant .none _ _ => true | _ => false)
  | .bl b, a => (match a with | .Constant (.bool c) _ _ => b == c | _ => false)
  | .int b, a => (match a with | .Constant (.int c) _ _ => decide (b = c) | _ => false)
  | .str b, a => (match a with | .Constant (.str c) _ _ => decide (b = c) | _ => false)
  | _, _ => false
def ckKs : List (Sum Int Str) → List (Option Expr) → Bool
  | [], [] => true
  | k :: ks, some a :: as => ckCon (kD k) a && ckKs ks as
  | _, _ => false
def opOf : Op → Operator
  | .add => .Add | .sub => .Sub | .mul => .Mult | .fdiv => .FloorDiv | .fdw => .FloorDiv | .mlw => .Mult | .mod => .Mod | .pow => .Pow
/-- asked for its truth as any value is -/
def plainT : Expr → Bool
  | .UnaryOp .Not _ _ => false
  | .BoolOp _ _ _ => false
  | .IfExp _ _ _ _ => false
  | .Compare _ _ _ _ => false
  | _ => true
theorem plainT_ok {a : Expr} {env : Env} (h : plainT a = true) (whole : Sem Value) : isTrue a env whole = (do let v ← whole; standAt a.pos; holding [v] (truthy v)) := by
  cases a with
  | UnaryOp op b p => cases op <;> first | rfl | cases h
  | BoolOp => cases h
  | IfExp => cases h
  | Compare => cases h
  | _ => rfl
theorem plainK_ok {k : Expr} (h : plainK k = true) : PlainIx k := fun o i => by
  cases k <;> first | rfl | cases h
def notSet : Expr → Bool
  | .Set _ _ _ => false
  | _ => true
def dkM (kk : Dk) (tg iter : Expr) (f : Expr → Bool) : Bool := match kk, tg, iter with
  | .keys, _, it => f it
  | .vals, _, .Call (.Attribute b y apos) [] [] cpos => (decide (y = "values") && (notSup b && (apos.endLine == cpos.line))) && f b
  | .items, .Tuple _ _ _, .Call (.Attribute b y apos) [] [] cpos => (decide (y = "items") && (notSup b && (apos.endLine == cpos.line))) && f b
  | _, _, _ => false
def swB (cx : Ck) (x : Str) (p : Pos) (l : Nat) : Expr → Bool
  | .ListComp _ _ scope pos => decide (cx.sc.names.lookup x = some .local) && ((p.line == pos.line) && !(scope.names.any fun (n, k) => n == x && (k == .local || k == .cell)))
  | .DictComp _ _ _ scope pos => decide (cx.sc.names.lookup x = some .local) && ((p.line == pos.line) && !(scope.names.any fun (n, k) => n == x && (k == .local || k == .cell)))
  | _ => false
def ckT (cx : Ck) (t : Tg) (a : Expr) : Bool := match t, a with
  | .slot i, .Name x _ => tgOk cx i x
  | .tup is, .Tuple es _ _ => cx.calm && (decide (es.length = is.length) && (es.zip is).all fun q => match q.1 with | .Name x _ => tgOk cx q.2 x | _ => false)
  | _, _ => false
section
variable (P : Pg) (an : List Str) (n : Nms)
def hasK (f : Nat) (ds : List D) : Bool := n.k.any fun e => decide (e.1 = f ∧ e.2.2.1 = [] ∧ e.2.2.2 = ds)
def newK (c : Nat) (ks : List Str) (ds : List D) : Bool := match P.mth c P.init with
  | some f => n.k.any fun e => decide (e = (f, 1, ks, ds))
  | none => false
def newP (c : Nat) : Bool := match P.mth c P.init with
  | some f => n.plain f
  | none => false
def mthP (m : Nat) : Bool := P.cls.all fun k => (match (k.methods.find? fun q => q.1 == m).map (·.2) with
  | some f => n.plain f
  | none => true)
mutual
def ckE : E → Ck → Expr → Bool
  | .nev, _, _ => true
  | .con d, _, a => ckCon d a
  | .var i, cx, a => (match a with | .Name x _ => nmOk cx i x | _ => false)
  | .glb g, cx, a => (match a with | .Name x _ => decide (n.g[g]? = some x) && glOk cx x | _ => false)
  | .attr o f, cx, a => (match a with | .Attribute b x _ => decide (an[f]? = some x) && (notSup b && ckE o cx b) | _ => false)
  | .tup es, cx, a => (match a with | .Tuple as _ _ => as.all notStar && ckEs es cx as | _ => false)
  | .fz c, cx, a => ckC c cx a
  | .al c, cx, a => ckC c cx a
  | .bin o x y, cx, a => (match a with | .BinOp b op c _ => decide (op = opOf o) && (ckE x cx b && ckE y cx c) | _ => false)
  | .neg x, cx, a => (match a with | .UnaryOp .USub b _ => ckE x cx b | _ => false)
  | .not x, cx, a => (match a with | .UnaryOp .Not b _ => ckE x cx b | _ => false)
  | .bo k es, cx, a => (match a with | .BoolOp op as _ => decide (op = (if k = true then .And else .Or)) && (!as.isEmpty && ckEs es cx as) | _ => false)
  | .ife c x y, cx, a => (match a with | .IfExp t b d _ => ckB c cx t && (ckE x cx b && ckE y cx d) | _ => false)
  | .cmp o x y, cx, a => (match a with | .Compare b [op] [c] _ => decide (op = cmOp o) && (!behindInMarks (cmOp o) c && (ckE x cx b && ckE y cx c)) | _ => false)
  | .chain o o' x y z, cx, a => (match a with | .Compare b [op, op'] [c, d] _ => (decide (op = cmOp o) && decide (op' = cmOp o')) && (!lastMarks [cmOp o, cmOp o'] [c, d] && (ckE x cx b && (ckE y cx c && ckE z cx d))) | _ => false)
  | .isin k x p, cx, a => (match a with | .Compare b [op] [c] _ => decide (op = inOp k) && (!behindInMarks (inOp k) c && (ckE x cx b && ckP p cx c)) | _ => false)
  | .eqp k p q, cx, a => (match a with | .Compare b [op] [c] _ => (decide (op = eqCm k) && simP q) && (!behindInMarks (eqCm k) c && (ckP p cx b && ckP q cx c)) | _ => false)
  | .truth _, _, _ => false
  | .call f es, cx, a => (match a with | .Call (.Name x _) as [] _ => ((decide (n.f[f]? = some (some x)) && n.plain f) && (glOk cx x && (cx.calm && cx.nl))) && (as.all notStar && ckEs es cx as) | _ => false)
  | .callk f ds es, cx, a => (match a with | .Call (.Name x _) as [] _ => ((decide (n.f[f]? = some (some x)) && hasK n f ds) && (glOk cx x && (cx.calm && cx.nl))) && (as.all notStar && ckEs es cx as) | _ => false)
  | .newk c ks ds es, cx, a => (match a with | .Call (.Name x _) [] kws _ => ((decide (n.c[c]? = some x) && decide (kws.map (·.arg) = ks.map some)) && (glOk cx x && ((cx.calm && cx.nl) && newK P n c ks ds))) && ckEs es cx (kws.map (·.value)) | _ => false)
  | .new c es, cx, a => (match a with | .Call (.Name x _) as [] _ => (decide (n.c[c]? = some x) && (glOk cx x && ((cx.calm && cx.nl) && newP P n c))) && (as.all notStar && ckEs es cx as) | _ => false)
  | .meth m o es, cx, a => (match a with | .Call (.Attribute b x apos) as [] pos => ((decide (an[m]? = some x) && mthP P n m) && (notSup b && ((cx.calm && cx.nl) && (decide (as.length < 30) && (apos.endLine == pos.line))))) && (as.all notStar && (ckE o cx b && ckEs es cx as)) | _ => false)
  | .bi b es, cx, a => (match a with
    | .Call (.Name x _) as [] _ => glOk cx x && (as.all notStar && (ckEs es cx as && (match b, as with
      | .abs, [_] => decide (x = "abs")
      | .int1, [_] => decide (x = "int")
      | .str1, [_] => decide (x = "str")
      | .min2, [_, _] => decide (x = "min") && cx.calm
      | .max2, [_, _] => decide (x = "max") && cx.calm
      | _, _ => false)))
    | _ => false)
  | .isi e t, cx, a => (match a with | .Call (.Name x _) [b, .Name y _] [] _ => (decide (x = "isinstance") && (decide (y = tyNm t) && (glOk cx x && glOk cx y))) && (notStar b && ckE e cx b) | _ => false)
  | .excis i c, cx, a => (match a with | .Call (.Name x _) [.Name y _, .Name z _] [] _ => (decide (x = "isinstance") && (decide (n.c[c]? = some z) && (glOk cx x && glOk cx z))) && (nmOk cx i y && P.isExc c) | _ => false)
  | .excword _, _, _ => false
  | .len p, cx, a => (match a with | .Call (.Name x _) [b] [] _ => (decide (x = "len") && glOk cx x) && (notStar b && ckP p cx b) | _ => false)
  | .idx p k, cx, a => (match a with | .Subscript b s _ => (simE k && plainK s) && (ckP p cx b && ckE k cx s) | _ => false)
  | .idxf p k, cx, a => (match a with | .Subscript b s _ => plainK s && (ckP p cx b && ckE k cx s) | _ => false)
  | .slcf p lo hi, cx, a => (match a with | .Subscript b (.Slice l h none _) _ => ckP p cx b && (ckO lo cx l && ckO hi cx h) | _ => false)
  | .slc p lo hi, cx, a => (match a with | .Subscript b (.Slice l h none _) _ => (simO lo && simO hi) && (ckP p cx b && (ckO lo cx l && ckO hi cx h)) | _ => false)
  | .totup p, cx, a => (match a with | .Call (.Name x _) [b] [] _ => (decide (x = "tuple") && glOk cx x) && (notStar b && ckP p cx b) | _ => false)
  | .sum p, cx, a => (match a with | .Call (.Name x _) [b] [] _ => (decide (x = "sum") && (glOk cx x && cx.calm)) && (notStar b && ckP p cx b) | _ => false)
  | .allof p, cx, a => (match a with | .Call (.Name x _) [b] [] _ => (decide (x = "all") && (glOk cx x && cx.calm)) && (notStar b && ckP p cx b) | _ => false)
  | .anyof p, cx, a => (match a with | .Call (.Name x _) [b] [] _ => (decide (x = "any") && (glOk cx x && cx.calm)) && (notStar b && ckP p cx b) | _ => false)
  | .popat p k, cx, a => (match a with | .Call (.Attribute b x apos) [c] [] pos => (decide (x = "pop") && (notSup b && (apos.endLine == pos.line))) && (notStar c && (ckP p cx b && ckE k cx c)) | _ => false)
  | .pop0 p, cx, a => (match a with | .Call (.Attribute b x apos) [] [] pos => (decide (x = "pop") && (notSup b && (apos.endLine == pos.line))) && ckP p cx b | _ => false)
  | .dget p k, cx, a => (match a with | .Subscript b s _ => (simE k && plainD s) && (ckP p cx b && ckE k cx s) | _ => false)
  | .din k x p, cx, a => (match a with | .Compare b [op] [c] _ => decide (op = inOp k) && (!behindInMarks (inOp k) c && (ckE x cx b && ckP p cx c)) | _ => false)
  | .dgt1 p k, cx, a => (match a with | .Call (.Attribute b x apos) [c] [] pos => (decide (x = "get") && (notSup b && (apos.endLine == pos.line))) && ((notStar c && simE k) && (ckP p cx b && ckE k cx c)) | _ => false)
  | .dgt2 p k z, cx, a => (match a with | .Call (.Attribute b x apos) [c, d] [] pos => (decide (x = "get") && (notSup b && (apos.endLine == pos.line))) && (((notStar c && notStar d) && (simE k && simE z)) && (ckP p cx b && (ckE k cx c && ckE z cx d))) | _ => false)
  | .dlen p, cx, a => (match a with | .Call (.Name x _) [b] [] _ => (decide (x = "len") && glOk cx x) && (notStar b && ckP p cx b) | _ => false)
  | .xb b p es, cx, a => (match a with | .Call (.Attribute q x apos) [k] [] pos => ((match b with | .index => decide (x = "index")) && (notSup q && (apos.endLine == pos.line))) && (notStar k && (simEs es && (ckP p cx q && ckEs es cx [k]))) | _ => false)
def ckO : Oe → Ck → Option Expr → Bool
  | .no, _, a => a.isNone
  | .so e, cx, a => (match a with | some b => ckE e cx b | none => false)
def ckEs : Es → Ck → List Expr → Bool
  | .nil, _, as => as.isEmpty
  | .cons e es, cx, as => (match as with | b :: bs => ckE e cx b && ckEs es cx bs | [] => false)
def ckBs : Es → Ck → List Expr → Bool
  | .nil, _, as => as.isEmpty
  | .cons e es, cx, as => (match as with | b :: bs => ckB e cx b && ckBs es cx bs | [] => false)
/-- as a test -/
def ckB : E → Ck → Expr → Bool
  | .nev, _, _ => true
  | .cmp o x y, cx, a => (match a with | .Compare b [op] [c] _ => decide (op = cmOp o) && (!behindInMarks (cmOp o) c && (ckE x cx b && ckE y cx c)) | _ => false)
  | .chain o o' x y z, cx, a => (match a with | .Compare b [op, op'] [c, d] _ => (decide (op = cmOp o) && decide (op' = cmOp o')) && (!lastMarks [cmOp o, cmOp o'] [c, d] && (ckE x cx b && (ckE y cx c && ckE z cx d))) | _ => false)
  | .isin k x p, cx, a => (match a with | .Compare b [op] [c] _ => decide (op = inOp k) && (!behindInMarks (inOp k) c && (ckE x cx b && ckP p cx c)) | _ => false)
  | .eqp k p q, cx, a => (match a with | .Compare b [op] [c] _ => (decide (op = eqCm k) && simP q) && (!behindInMarks (eqCm k) c && (ckP p cx b && ckP q cx c)) | _ => false)
  | .not x, cx, a => (match a with | .UnaryOp .Not b _ => ckB x cx b | _ => false)
  | .bo k es, cx, a => (match a with | .BoolOp op as _ => decide (op = (if k = true then .And else .Or)) && (!as.isEmpty && ckBs es cx as) | _ => false)
  | .truth p, cx, a => plainT a && ckP p cx a
  | .con d, _, a => plainT a && ckCon d a
  | .var i, cx, a => (match a with | .Name x _ => nmOk cx i x | _ => false)
  | .attr o f, cx, a => (match a with | .Attribute b x _ => decide (an[f]? = some x) && (notSup b && ckE o cx b) | _ => false)
  | .callk f ds es, cx, a => (match a with | .Call (.Name x _) as [] _ => ((decide (n.f[f]? = some (some x)) && hasK n f ds) && (glOk cx x && (cx.calm && cx.nl))) && (as.all notStar && ckEs es cx as) | _ => false)
  | .call f es, cx, a => (match a with | .Call (.Name x _) as [] _ => ((decide (n.f[f]? = some (some x)) && n.plain f) && (glOk cx x && (cx.calm && cx.nl))) && (as.all notStar && ckEs es cx as) | _ => false)
  | .meth m o es, cx, a => (match a with | .Call (.Attribute b x apos) as [] pos => ((decide (an[m]? = some x) && mthP P n m) && (notSup b && ((cx.calm && cx.nl) && (decide (as.length < 30) && (apos.endLine == pos.line))))) && (as.all notStar && (ckE o cx b && ckEs es cx as)) | _ => false)
  | .isi e t, cx, a => (match a with | .Call (.Name x _) [b, .Name y _] [] _ => (decide (x = "isinstance") && (decide (y = tyNm t) && (glOk cx x && glOk cx y))) && (notStar b && ckE e cx b) | _ => false)
  | .allof p, cx, a => (match a with | .Call (.Name x _) [b] [] _ => (decide (x = "all") && (glOk cx x && cx.calm)) && (notStar b && ckP p cx b) | _ => false)
  | .anyof p, cx, a => (match a with | .Call (.Name x _) [b] [] _ => (decide (x = "any") && (glOk cx x && cx.calm)) && (notStar b && ckP p cx b) | _ => false)
  | .idx p k, cx, a => (match a with | .Subscript b s _ => (simE k && plainK s) && (ckP p cx b && ckE k cx s) | _ => false)
  | .dget p k, cx, a => (match a with | .Subscript b s _ => (simE k && plainD s) && (ckP p cx b && ckE k cx s) | _ => false)
  | .din k x p, cx, a => (match a with | .Compare b [op] [c] _ => decide (op = inOp k) && (!behindInMarks (inOp k) c && (ckE x cx b && ckP p cx c)) | _ => false)
  | _, _, _ => false
def ckP : Pl → Ck → Expr → Bool
  | .v e, cx, a => ckE e cx a
  | .loc j, cx, a => (match a with | .Name x _ => nmOk cx j x | _ => false)
  | .fld o f, cx, a => (match a with | .Attribute b x _ => decide (an[f]? = some x) && (notSup b && ckE o cx b) | _ => false)
def ckC : Cr → Ck → Expr → Bool
  | .lst es, cx, a => (match a with | .List as _ => as.all notStar && ckEs es cx as | _ => false)
  | .slice p lo hi, cx, a => (match a with | .Subscript b (.Slice l h none _) _ => (simO lo && simO hi) && (ckP p cx b && (ckO lo cx l && ckO hi cx h)) | _ => false)
  | .tolist p, cx, a => (match a with | .Call (.Name x _) [b] [] _ => (decide (x = "list") && glOk cx x) && (notStar b && ckP p cx b) | _ => false)
  | .catc p q, cx, a => (match a with | .BinOp b .Add c _ => ckP p cx b && ckP q cx c | _ => false)
  | .cat p q, cx, a => (match a with | .BinOp b .Add c _ => simP q && (ckP p cx b && ckP q cx c) | _ => false)
  | .comp own t it c e, cx, a => (match a with
    | .ListComp elt [⟨tg, iter, ifs, 0⟩] scope _ => (cx.calm && (notSet iter && (t.ix.all (own.contains ·) && blkC cx.N cx.sc scope (own.filterMap fun i => (cx.N[i]?).map (·, i)) && own.all fun i => (cx.N[i]?).isSome))) &&
        (ckI it cx tg iter && (ckT ⟨cx.N, relab scope cx.sc, some scope, cx.calm, cx.nl⟩ t tg && (ckE e ⟨cx.N, relab scope cx.sc, some scope, cx.calm, cx.nl⟩ elt && ckTs c ⟨cx.N, relab scope cx.sc, some scope, cx.calm, cx.nl⟩ ifs)))
    | _ => false)
  | .dnew, cx, a => (match a with | .Dict [] [] _ => cx.nl | _ => false)
  | .dlit ks es, cx, a => (match a with | .Dict keys vals _ => (cx.nl && (decide ks.Nodup && (decide (ks.length = vals.length) && (!ks.isEmpty && decide (ks.length ≤ 15))))) && (ckKs ks keys && ckEs es cx vals) | _ => false)
  | .dsrt p, cx, a => (match a with | .Call (.Name x _) [q] [] _ => ((decide (x = "sorted") && cx.calm) && glOk cx x) && (notStar q && ckP p cx q) | _ => false)
  | .dcopy p, cx, a => (match a with | .Call (.Name x _) [b] [] _ => ((decide (x = "dict") && cx.nl) && glOk cx x) && (notStar b && ckP p cx b) | _ => false)
  | .dvals p, cx, a => (match a with | .Call (.Name x _) [.Call (.Attribute b y apos) [] [] cpos] [] _ => (decide (x = "list") && (decide (y = "values") && (glOk cx x && cx.calm))) && ((notSup b && (apos.endLine == cpos.line)) && ckP p cx b) | _ => false)
  | .xc b p, cx, a => (match a with | .Call (.Name x _) [q] [] _ => ((match b with | .dprs => decide (x = "dict") && (cx.calm && cx.nl) | _ => decide (x = "sorted")) && glOk cx x) && (notStar q && ckP p cx q) | _ => false)
  | .compd own t k p c e, cx, a => (match a with
    | .ListComp elt [⟨tg, iter, ifs, 0⟩] scope _ => (((cx.calm && cx.nl) && (notSet iter && (t.ix.all (own.contains ·) && blkC cx.N cx.sc scope (own.filterMap fun i => (cx.N[i]?).map (·, i)) && own.all fun i => (cx.N[i]?).isSome))) && (simP p && (simO c && (simE e && (match p with | .fld _ f => (an[f]?).isSome | _ => true))))) &&
        (dkM k tg iter (ckP p ⟨cx.N, cx.sc, cx.osc, cx.calm, false⟩) && (ckT ⟨cx.N, relab scope cx.sc, some scope, cx.calm, false⟩ t tg && (ckE e ⟨cx.N, relab scope cx.sc, some scope, cx.calm, false⟩ elt && ckTs c ⟨cx.N, relab scope cx.sc, some scope, cx.calm, false⟩ ifs)))
    | _ => false)
  | .dcl own t it c k v, cx, a => (match a with
    | .DictComp kx vx [⟨tg, iter, ifs, 0⟩] scope _ => (((cx.calm && cx.nl) && (notSet iter && (t.ix.all (own.contains ·) && blkC cx.N cx.sc scope (own.filterMap fun i => (cx.N[i]?).map (·, i)) && own.all fun i => (cx.N[i]?).isSome))) && (simI it && (simO c && (simE k && simE v)))) &&
        (ckI it cx tg iter && (ckT ⟨cx.N, relab scope cx.sc, some scope, cx.calm, cx.nl⟩ t tg && ((ckE k ⟨cx.N, relab scope cx.sc, some scope, cx.calm, cx.nl⟩ kx && ckE v ⟨cx.N, relab scope cx.sc, some scope, cx.calm, cx.nl⟩ vx) && ckTs c ⟨cx.N, relab scope cx.sc, some scope, cx.calm, cx.nl⟩ ifs)))
    | _ => false)
  | .dcd own t w p c k v, cx, a => (match a with
    | .DictComp kx vx [⟨tg, iter, ifs, 0⟩] scope _ => (((cx.calm && cx.nl) && (notSet iter && (t.ix.all (own.contains ·) && blkC cx.N cx.sc scope (own.filterMap fun i => (cx.N[i]?).map (·, i)) && own.all fun i => (cx.N[i]?).isSome))) && (simP p && (simO c && ((simE k && simE v) && (match p with | .fld _ f => (an[f]?).isSome | _ => true))))) &&
        (dkM w tg iter (ckP p ⟨cx.N, cx.sc, cx.osc, cx.calm, false⟩) && (ckT ⟨cx.N, relab scope cx.sc, some scope, cx.calm, false⟩ t tg && ((ckE k ⟨cx.N, relab scope cx.sc, some scope, cx.calm, false⟩ kx && ckE v ⟨cx.N, relab scope cx.sc, some scope, cx.calm, false⟩ vx) && ckTs c ⟨cx.N, relab scope cx.sc, some scope, cx.calm, false⟩ ifs)))
    | _ => false)
def ckTs : Oe → Ck → List Expr → Bool
  | .no, _, ifs => ifs.isEmpty
  | .so e, cx, ifs => (match ifs with | [b] => ckB e cx b | _ => false)
def ckI : It → Ck → Expr → Expr → Bool
  | .pl p, cx, _, a => ckP p cx a
  | .rng1 e, cx, _, a => (match a with | .Call (.Name x _) [b] [] _ => (decide (x = "range") && glOk cx x) && (notStar b && ckE e cx b) | _ => false)
  | .rng2 e f, cx, _, a => (match a with | .Call (.Name x _) [b, c] [] _ => (decide (x = "range") && glOk cx x) && ((notStar b && notStar c) && (ckE e cx b && ckE f cx c)) | _ => false)
  | .enum p, cx, tg, a => (match tg, a with | .Tuple _ _ _, .Call (.Name x _) [b] [] _ => (decide (x = "enumerate") && glOk cx x) && (notStar b && ckP p cx b) | _, _ => false)
end
end
end Vb

set_option maxHeartbeats 4000000
/-! The plain layer, part 13: what is checked of expressions holds. -/
namespace Vb
open PySem L2
structure OkX (B : Bd) (C : Call) (k : Nat) (cx : Ck) (W : WX) (X : Cx) : Prop where
  on : OnB B X
  N : X.N = cx.N
  nd : X.N.Nodup
  sc : X.env.scope = cx.sc
  kd : cx.sc.kind = .function
  un : X.A.units + 200 < cLine
  calm : X.calm = cx.calm
  hx0 : cx.calm = true → B.hx = none
  hot : (cx.calm && cx.nl) = true → B.hx = none ∧ Room (k + 1) X.A ∧ Fns B C k
  held : ∀ a c, B.hx = some (a, c) → ∃ (X0 : Cx) (oe : Obj) (pn : List (Addr × Obj)), X = X0.suite a ((a, oe) :: pn) ∧ Zc (.ref (B.cad c)) none oe ∧ (∃ vs, oe.data = .fields vs) ∧ B.P.isExc c = true
  fn : ∀ x, fnB cx x = true → X.fn x = true
  tk : L2N.Takes X W
  nl : cx.nl = true → B.lk = none
section
variable {B : Bd} {C : Call} {W : WX} {X : Cx} {n : Nms} {k : Nat} {cx : Ck}
theorem dbg_ok {x : Str} (h : dbg x = true) : (x == ("__debug__" : Str)) = false ∧ (x == ("__classdict__" : Str)) = false := by
  obtain ⟨h1, h2⟩ := ands h
  exact ⟨by simpa using h1, by simpa using h2⟩
theorem gl_ok (O : OkX B C k cx W X) {x : Str} (h : glOk cx x = true) : Gl X x ∧ (x == ("__debug__" : Str)) = false := by
  obtain ⟨h1, h2⟩ := ands h
  refine ⟨?_, (dbg_ok h2).1⟩
  show X.env.scope.names.lookup x = _
  rw [O.sc]
  exact of_decide_eq_true h1
theorem nm_ok (O : OkX B C k cx W X) {i : Nat} {x : Str} (h : nmOk cx i x = true) : X.N[i]? = some x ∧ Vis X.env.scope x ∧ (x == ("__debug__" : Str)) = false ∧ (x == ("__classdict__" : Str)) = false := by
  obtain ⟨h1, h2⟩ := ands h
  obtain ⟨h2, h3⟩ := ands h2
  refine ⟨by rw [O.N]; exact of_decide_eq_true h1, ?_, dbg_ok h3⟩
  rw [O.sc]
  unfold visB at h2
  unfold Vis
  split at h2
  · rename_i e; exact .inl e
  · rename_i e; exact .inr (.inl e)
  · rename_i e; exact .inr (.inr e)
  · cases h2
theorem hasK_ok {f : Nat} {ds : List D} (h : hasK n f ds = true) : ∃ m, (f, m, [], ds) ∈ n.k := by
  obtain ⟨⟨f', m, ks, ds'⟩, h1, h2⟩ := List.any_eq_true.mp h
  obtain ⟨rfl, rfl, rfl⟩ := of_decide_eq_true h2
  exact ⟨m, h1⟩
theorem newK_ok {P : Pg} {c : Nat} {ks : List Str} {ds : List D} (h : newK P n c ks ds = true) : ∃ f, P.mth c P.init = some f ∧ (f, 1, ks, ds) ∈ n.k := by
  unfold newK at h
  split at h
  · rename_i f e
    obtain ⟨z, h1, h2⟩ := List.any_eq_true.mp h
    exact ⟨f, e, (of_decide_eq_true h2) ▸ h1⟩
  · cases h
theorem newP_ok {P : Pg} {c : Nat} (h : newP P n c = true) : ∃ f, P.mth c P.init = some f ∧ n.plain f = true := by
  unfold newP at h
  split at h
  · rename_i f e
    exact ⟨f, e, h⟩
  · cases h
theorem mthP_ok {P : Pg} {m : Nat} (h : mthP P n m = true) : ∀ c f, P.mth c m = some f → n.plain f = true := fun c f e => by
  unfold Pg.mth at e
  split at e
  · rename_i k ek
    have := List.all_eq_true.mp h k (List.mem_of_getElem? ek)
    rw [e] at this
    exact this
  · cases e
theorem tg_ok (O : OkX B C k cx W X) {i : Nat} {x : Str} (h : tgOk cx i x = true) : X.N[i]? = some x ∧ Loc X.env.scope x ∧ (X.fn x = true ∨ X.env.scope.names.lookup x = some .local) := by
  obtain ⟨h1, h2⟩ := ands h
  refine ⟨by rw [O.N]; exact of_decide_eq_true h1, ?_⟩
  rw [O.sc]
  rcases Bool.or_eq_true_iff.mp h2 with h | h
  · exact ⟨.inl (of_decide_eq_true h), .inr (of_decide_eq_true h)⟩
  · obtain ⟨h3, h4⟩ := ands h
    exact ⟨.inr (of_decide_eq_true h3), .inl (O.fn x h4)⟩
theorem blt_ok (Gd : Good B n) (O : OkX B C k cx W X) {x : Str} (h : x ∈ (["abs", "all", "any", "dict", "enumerate", "int", "isinstance", "len", "list", "max", "min", "range", "reversed", "sorted", "str", "sum", "tuple", "zip", "bool"] : List Str)) : X.mg x = none := by
  rw [O.on.mg]
  exact Gd.blt x h
/-- into a comprehension's block -/
theorem OkX.blk (O : OkX B C k cx W X) (hc : cx.calm = true) {scope : Scope} (hk : scope.kind = .function) (s : Shared) (H : Hp) (Ca : Addr) (cl : List (Str × Addr)) (fp : List Addr) :
    OkX B C k ⟨cx.N, relab scope cx.sc, some scope, cx.calm, cx.nl⟩ W0 (X.blk s H scope (compEnvC scope cl Ca X.env) fp) := by
  refine ⟨⟨O.on.prog, O.on.w, O.on.K, O.on.mg, O.on.base⟩, O.N, O.nd, ?_, hk, O.un, O.calm, O.hx0, O.hot, fun a c h => ?_, fun x h => h, fun u s' x => ?_, O.nl⟩
  · show relabel scope X.env = relab scope cx.sc
    rw [← O.sc]
    rfl
  · rw [O.hx0 hc] at h
    cases h
  · obtain ⟨_, _, _, _, _, _, _, _, _, _, _, _, _, _, _, _, z⟩ := x
    exact z.elim
theorem OkX.lock (O : OkX B C k cx W X) (d : Addr) : OkX (B.lock d) C k ⟨cx.N, cx.sc, cx.osc, cx.calm, false⟩ W X :=
  ⟨⟨O.on.prog, O.on.w, O.on.K, O.on.mg, O.on.base⟩, O.N, O.nd, O.sc, O.kd, O.un, O.calm, O.hx0, fun h => by simp at h, O.held, O.fn, O.tk, fun h => by cases h⟩
theorem plainD_ok {k : Expr} (h : plainD k = true) : PlainIx k := fun o i => by
  cases k <;> first | rfl | cases h
theorem tgt_ok (O : OkX B C k cx W X) {t : Tg} {a : Expr} (h : ckT cx t a = true) : PG X a (gTg X.K t) := by
  unfold ckT at h
  split at h
  · rename_i i x p
    obtain ⟨h1, h2, h3⟩ := tg_ok O h
    exact pg_name O.nd h1 h2 h3
  · rename_i is es kk p
    obtain ⟨h0, h⟩ := ands h
    obtain ⟨h1, h2⟩ := ands h
    have el : es.length = is.length := of_decide_eq_true h1
    have go : ∀ (es : List Expr) (is : List Nat), es.length = is.length → ((es.zip is).all fun q => match q.1 with | .Name x _ => tgOk cx q.2 x | _ => false) = true → PGs X es (gNs is) ∧ es.all notStar = true := by
      intro es
      induction es with
      | nil =>
        intro is hl _
        cases is with
        | nil => exact ⟨pgs_nil, rfl⟩
        | cons _ _ => cases hl
      | cons e es ih =>
        intro is hl h
        cases is with
        | nil => cases hl
        | cons i is =>
          simp only [List.zip_cons_cons, List.all_cons, Bool.and_eq_true] at h
          obtain ⟨h1, h2⟩ := h
          obtain ⟨i1, i2⟩ := ih is (by simpa using hl) h2
          split at h1
          · rename_i x p
            obtain ⟨q1, q2, q3⟩ := tg_ok O h1
            exact ⟨pgs_cons (pg_name O.nd q1 q2 q3) i1 rfl, by simpa [notStar] using i2⟩
          · cases h1
    obtain ⟨g1, g2⟩ := go es is el h2
    obtain ⟨a1, a2, a3⟩ := @asg_names X.env es g2
    exact pg_tup (by rw [O.calm]; exact h0) g1 (by rw [a1]; exact el) a2
  · cases h
theorem tgu_ok (O : OkX B C k cx W X) {is : List Nat} {es : List Expr} {kk : Nat} {p : Pos} (h : ckT cx (.tup is) (.Tuple es kk p) = true) : PG X (.Tuple es kk p) (gUnl X.K is.length (gNs is)) := by
  have h : (cx.calm && (decide (es.length = is.length) && (es.zip is).all fun q => match q.1 with | .Name x _ => tgOk cx q.2 x | _ => false)) = true := h
  obtain ⟨h0, h⟩ := ands h
  obtain ⟨h1, h2⟩ := ands h
  have el : es.length = is.length := of_decide_eq_true h1
  have go : ∀ (es : List Expr) (is : List Nat), es.length = is.length → ((es.zip is).all fun q => match q.1 with | .Name x _ => tgOk cx q.2 x | _ => false) = true → PGs X es (gNs is) ∧ es.all notStar = true := by
    intro es
    induction es with
    | nil =>
      intro is hl _
      cases is with
      | nil => exact ⟨pgs_nil, rfl⟩
      | cons _ _ => cases hl
    | cons e es ih =>
      intro is hl h
      cases is with
      | nil => cases hl
      | cons i is =>
        simp only [List.zip_cons_cons, List.all_cons, Bool.and_eq_true] at h
        obtain ⟨h1, h2⟩ := h
        obtain ⟨i1, i2⟩ := ih is (by simpa using hl) h2
        split at h1
        · rename_i x p
          obtain ⟨q1, q2, q3⟩ := tg_ok O h1
          exact ⟨pgs_cons (pg_name O.nd q1 q2 q3) i1 rfl, by simpa [notStar] using i2⟩
        · cases h1
  obtain ⟨g1, g2⟩ := go es is el h2
  obtain ⟨a1, a2, a3⟩ := @asg_names X.env es g2
  exact pg_unl (by rw [O.calm]; exact h0) g1 (by rw [a1]; exact el) a2
theorem own_ok {N : List Str} : ∀ {own : List Nat}, (own.all fun i => (N[i]?).isSome) = true → (own.filterMap fun i => (N[i]?).map (·, i)).map (·.2) = own
  | [], _ => rfl
  | i :: own, h => by
    simp only [List.all_cons, Bool.and_eq_true] at h
    obtain ⟨x, e⟩ := Option.isSome_iff_exists.mp h.1
    rw [List.filterMap_cons, e]
    simp [own_ok h.2]
theorem con_ok {d : D} {a : Expr} (h : ckCon d a = true) : PE X a (tE B C W (.con d)) := by
  cases d with
  | non =>
    have h : (match (generalizing := false) a with | .Constant .none _ _ => true | _ => false) = true := h
    split at h
    · exact a_con pe_non fun _ => rfl
    · cases h
  | bl b =>
    have h : (match (generalizing := false) a with | .Constant (.bool c) _ _ => b == c | _ => false) = true := h
    split at h
    · obtain rfl := eq_of_beq h
      exact a_con pe_bl fun _ => rfl
    · cases h
  | int b =>
    have h : (match (generalizing := false) a with | .Constant (.int c) _ _ => decide (b = c) | _ => false) = true := h
    split at h
    · obtain rfl := of_decide_eq_true h
      exact a_con pe_int fun _ => rfl
    · cases h
  | str b =>
    have h : (match (generalizing := false) a with | .Constant (.str c) _ _ => decide (b = c) | _ => false) = true := h
    split at h
    · obtain rfl := of_decide_eq_true h
      exact a_con pe_str fun _ => rfl
    · cases h
  | _ => cases h
theorem keyE_ok : ∀ {ks : List Key} {as : List (Option Expr)}, ckKs ks as = true → KeyE B C W X ks as
  | [], [], _ => True.intro
  | [], _ :: _, h => by cases h
  | _ :: _, [], h => by cases h
  | _ :: _, none :: _, h => by cases h
  | k :: ks, some a :: as, h => ⟨con_ok (ands h).1, keyE_ok (ands h).2⟩
theorem nn {b : Bool} (h : (!b) = true) : b = false := by simpa using h
theorem op_ok (O : OkX B C k cx W X) {o : Op} {a b : Expr} {x y : E} {pos : Pos} (ha : PE X a (tE B C W x)) (hb : PE X b (tE B C W y)) : PE X (.BinOp a (opOf o) b pos) (tE B C W (.bin o x y)) := by
  cases o with
  | add => exact a_add ha hb O.on.K
  | sub => exact a_sub ha hb
  | mul => exact a_mul ha hb
  | fdiv => exact a_fdiv ha hb
  | fdw => exact a_fdw ha hb
  | mlw => exact a_mlw ha hb
  | mod => exact a_mod ha hb
  | pow => exact a_pow ha hb
end
section
variable {n : Nms}
theorem dk_ok {tg iter : Expr} {kk : Dk} {f : Expr → Bool} {td : TE} (ob : OnB B X) (h : dkM kk tg iter f = true) (hp : ∀ b, f b = true → PE X b td) : PI X tg iter (iDr B.prog B.w kk td) := by
  rw [← ob.prog, ← ob.w]
  unfold dkM at h
  split at h
  · exact pi_rk (hp _ h)
  · obtain ⟨q1, q2⟩ := ands h
    obtain ⟨q1, q3⟩ := ands q1
    obtain ⟨q3, q4⟩ := ands q3
    obtain rfl := of_decide_eq_true q1
    exact pi_rv (hp _ q2) (sup_base q3) q4
  · obtain ⟨q1, q2⟩ := ands h
    obtain ⟨q1, q3⟩ := ands q1
    obtain ⟨q3, q4⟩ := ands q3
    obtain rfl := of_decide_eq_true q1
    exact pi_ri (hp _ q2) (sup_base q3) q4
  · cases h
mutual
theorem okE : ∀ (e : E) {B : Bd} {C : Call} {k : Nat} {cx : Ck} {W : WX} {X : Cx} {a : Expr}, Good B n → OkX B C k cx W X → ckE B.P B.an n e cx a = true → PE X a (tE B C W e)
  | .nev, B, C, k, cx, W, X, a, Gd, O, h => ⟨fun pins s σ H Q I ⟨_, _, _, _, _, _, hw, _⟩ => hw.elim⟩
  | .con d, B, C, k, cx, W, X, a, Gd, O, h => con_ok h
  | .var i, B, C, k, cx, W, X, a, Gd, O, h => by
    have h : (match (generalizing := false) a with | .Name x _ => nmOk cx i x | _ => false) = true := h
    split at h
    · obtain ⟨h1, h2, h3, h4⟩ := nm_ok O h
      exact a_var h1 h2 h3 h4
    · cases h
  | .glb g, B, C, k, cx, W, X, a, Gd, O, h => by
    have h : (match (generalizing := false) a with | .Name x _ => decide (n.g[g]? = some x) && glOk cx x | _ => false) = true := h
    split at h
    · obtain ⟨h1, h2⟩ := ands h
      obtain ⟨h3, h4⟩ := gl_ok O h2
      exact a_glb Gd O.on.mg (of_decide_eq_true h1) h3 h4
    · cases h
  | .attr o f, B, C, k, cx, W, X, a, Gd, O, h => by
    have h : (match (generalizing := false) a with | .Attribute b x _ => decide (B.an[f]? = some x) && (notSup b && ckE B.P B.an n o cx b) | _ => false) = true := h
    split at h
    · obtain ⟨h1, h2⟩ := ands h
      obtain ⟨h2, h3⟩ := ands h2
      exact a_attr Gd O.on.K (of_decide_eq_true h1) (okE o Gd O h3) (sup_base h2)
    · cases h
  | .tup es, B, C, k, cx, W, X, a, Gd, O, h => by
    have h : (match (generalizing := false) a with | .Tuple as _ _ => as.all notStar && ckEs B.P B.an n es cx as | _ => false) = true := h
    split at h
    · obtain ⟨h1, h2⟩ := ands h
      exact a_tup (as_all (okEs es Gd O h2) h1)
    · cases h
  | .fz c, B, C, k, cx, W, X, a, Gd, O, h => a_fz (okC c Gd O h)
  | .al c, B, C, k, cx, W, X, a, Gd, O, h => a_al (okC c Gd O h)
  | .bin o x y, B, C, k, cx, W, X, a, Gd, O, h => by
    have h : (match (generalizing := false) a with | .BinOp b op c _ => decide (op = opOf o) && (ckE B.P B.an n x cx b && ckE B.P B.an n y cx c) | _ => false) = true := h
    split at h
    · obtain ⟨h1, h2⟩ := ands h
      obtain ⟨h2, h3⟩ := ands h2
      obtain rfl := of_decide_eq_true h1
      exact op_ok O (okE x Gd O h2) (okE y Gd O h3)
    · cases h
  | .neg x, B, C, k, cx, W, X, a, Gd, O, h => by
    have h : (match (generalizing := false) a with | .UnaryOp .USub b _ => ckE B.P B.an n x cx b | _ => false) = true := h
    split at h
    · exact a_neg (okE x Gd O h)
    · cases h
  | .not x, B, C, k, cx, W, X, a, Gd, O, h => by
    have h : (match (generalizing := false) a with | .UnaryOp .Not b _ => ckE B.P B.an n x cx b | _ => false) = true := h
    split at h
    · exact a_not (okE x Gd O h)
    · cases h
  | .bo k' es, B, C, k, cx, W, X, a, Gd, O, h => by
    have h : (match (generalizing := false) a with | .BoolOp op as _ => decide (op = (if k' = true then .And else .Or)) && (!as.isEmpty && ckEs B.P B.an n es cx as) | _ => false) = true := h
    split at h
    · obtain ⟨h1, h2⟩ := ands h
      obtain ⟨h2, h3⟩ := ands h2
      obtain rfl := of_decide_eq_true h1
      have ne : ∀ {as : List Expr}, (!as.isEmpty) = true → as ≠ [] := fun h z => by rw [z] at h; cases h
      cases k' with
      | true => exact a_and _ es (okEs es Gd O h3) (ne h2)
      | false => exact a_or _ es (okEs es Gd O h3) (ne h2)
    · cases h
  | .ife c x y, B, C, k, cx, W, X, a, Gd, O, h => by
    have h : (match (generalizing := false) a with | .IfExp t b d _ => ckB B.P B.an n c cx t && (ckE B.P B.an n x cx b && ckE B.P B.an n y cx d) | _ => false) = true := h
    split at h
    · obtain ⟨h1, h2⟩ := ands h
      obtain ⟨h2, h3⟩ := ands h2
      exact a_ife (okB c Gd O h1) (okE x Gd O h2) (okE y Gd O h3)
    · cases h
  | .cmp o x y, B, C, k, cx, W, X, a, Gd, O, h => by
    have h : (match (generalizing := false) a with | .Compare b [op] [c] _ => decide (op = cmOp o) && (!behindInMarks (cmOp o) c && (ckE B.P B.an n x cx b && ckE B.P B.an n y cx c)) | _ => false) = true := h
    split at h
    · obtain ⟨h1, h2⟩ := ands h
      obtain ⟨h2, h3⟩ := ands h2
      obtain ⟨h3, h4⟩ := ands h3
      obtain rfl := of_decide_eq_true h1
      exact a_cmp O.un O.on.K (okE x Gd O h3) (okE y Gd O h4) (nn h2)
    · cases h
  | .chain o o' x y z, B, C, k, cx, W, X, a, Gd, O, h => by
    have h : (match (generalizing := false) a with | .Compare b [op, op'] [c, d] _ => (decide (op = cmOp o) && decide (op' = cmOp o')) && (!lastMarks [cmOp o, cmOp o'] [c, d] && (ckE B.P B.an n x cx b && (ckE B.P B.an n y cx c && ckE B.P B.an n z cx d))) | _ => false) = true := h
    split at h
    · obtain ⟨h1, h2⟩ := ands h
      obtain ⟨h1, h1'⟩ := ands h1
      obtain ⟨h2, h3⟩ := ands h2
      obtain ⟨h3, h4⟩ := ands h3
      obtain ⟨h4, h5⟩ := ands h4
      obtain rfl := of_decide_eq_true h1
      obtain rfl := of_decide_eq_true h1'
      exact a_chain O.un O.on.K (okE x Gd O h3) (okE y Gd O h4) (okE z Gd O h5) (nn h2)
    · cases h
  | .isin k' x p, B, C, k, cx, W, X, a, Gd, O, h => by
    have h : (match (generalizing := false) a with | .Compare b [op] [c] _ => decide (op = inOp k') && (!behindInMarks (inOp k') c && (ckE B.P B.an n x cx b && ckP B.P B.an n p cx c)) | _ => false) = true := h
    split at h
    · obtain ⟨h1, h2⟩ := ands h
      obtain ⟨h2, h3⟩ := ands h2
      obtain ⟨h3, h4⟩ := ands h3
      obtain rfl := of_decide_eq_true h1
      exact a_isin O.un O.on.K (okE x Gd O h3) (okP p Gd O h4) (nn h2)
    · cases h
  | .eqp k' p q, B, C, k, cx, W, X, a, Gd, O, h => by
    have h : (match (generalizing := false) a with | .Compare b [op] [c] _ => (decide (op = eqCm k') && simP q) && (!behindInMarks (eqCm k') c && (ckP B.P B.an n p cx b && ckP B.P B.an n q cx c)) | _ => false) = true := h
    split at h
    · obtain ⟨q1, q2⟩ := ands h
      obtain ⟨h1, h5⟩ := ands q1
      obtain ⟨h2, q3⟩ := ands q2
      obtain ⟨h3, h4⟩ := ands q3
      obtain rfl := of_decide_eq_true h1
      exact a_eqp O.un O.on.K (okP p Gd O h3) (okP q Gd O h4) h5 (nn h2)
    · cases h
  | .truth _, B, C, k, cx, W, X, a, Gd, O, h => by cases h
  | .call f es, B, C, k, cx, W, X, a, Gd, O, h => by
    have h : (match (generalizing := false) a with | .Call (.Name x _) as [] _ => ((decide (n.f[f]? = some (some x)) && n.plain f) && (glOk cx x && (cx.calm && cx.nl))) && (as.all notStar && ckEs B.P B.an n es cx as) | _ => false) = true := h
    split at h
    · obtain ⟨h1, h2⟩ := ands h
      obtain ⟨h1, h3⟩ := ands h1
      obtain ⟨h1, hp⟩ := ands h1
      obtain ⟨h3, h4⟩ := ands h3
      obtain ⟨h5, h6⟩ := ands h2
      obtain ⟨g1, g2⟩ := gl_ok O h3
      obtain ⟨_, r1, F⟩ := O.hot h4
      exact a_call Gd F O.on O.tk (r1.mono (Nat.le_succ k)) (of_decide_eq_true h1) hp g1 g2 (okEs es Gd O h6) h5
    · cases h
  | .callk f ds es, B, C, k, cx, W, X, a, Gd, O, h => by
    have h : (match (generalizing := false) a with | .Call (.Name x _) as [] _ => ((decide (n.f[f]? = some (some x)) && hasK n f ds) && (glOk cx x && (cx.calm && cx.nl))) && (as.all notStar && ckEs B.P B.an n es cx as) | _ => false) = true := h
    split at h
    · obtain ⟨h1, h2⟩ := ands h
      obtain ⟨h1, h3⟩ := ands h1
      obtain ⟨h1, hp⟩ := ands h1
      obtain ⟨h3, h4⟩ := ands h3
      obtain ⟨h5, h6⟩ := ands h2
      obtain ⟨g1, g2⟩ := gl_ok O h3
      obtain ⟨_, r1, F⟩ := O.hot h4
      obtain ⟨m, hm⟩ := hasK_ok hp
      exact a_callk Gd F O.on O.tk (r1.mono (Nat.le_succ k)) (of_decide_eq_true h1) hm g1 g2 (okEs es Gd O h6) h5
    · cases h
  | .newk c ks ds es, B, C, k, cx, W, X, a, Gd, O, h => by
    have h : (match (generalizing := false) a with | .Call (.Name x _) [] kws _ => ((decide (n.c[c]? = some x) && decide (kws.map (·.arg) = ks.map some)) && (glOk cx x && ((cx.calm && cx.nl) && newK B.P n c ks ds))) && ckEs B.P B.an n es cx (kws.map (·.value)) | _ => false) = true := h
    split at h
    · obtain ⟨h1, h6⟩ := ands h
      obtain ⟨h1, h3⟩ := ands h1
      obtain ⟨h1, h2⟩ := ands h1
      obtain ⟨h3, h4⟩ := ands h3
      obtain ⟨h4, h7⟩ := ands h4
      obtain ⟨g1, g2⟩ := gl_ok O h3
      obtain ⟨_, r1, F⟩ := O.hot h4
      obtain ⟨f, ef, hm⟩ := newK_ok h7
      exact a_newk Gd F O.on O.tk r1 ef hm (of_decide_eq_true h1) (of_decide_eq_true h2) g1 g2 (okEs es Gd O h6)
    · cases h
  | .new c es, B, C, k, cx, W, X, a, Gd, O, h => by
    have h : (match (generalizing := false) a with | .Call (.Name x _) as [] _ => (decide (n.c[c]? = some x) && (glOk cx x && ((cx.calm && cx.nl) && newP B.P n c))) && (as.all notStar && ckEs B.P B.an n es cx as) | _ => false) = true := h
    split at h
    · obtain ⟨h1, h2⟩ := ands h
      obtain ⟨h1, h3⟩ := ands h1
      obtain ⟨h3, h4⟩ := ands h3
      obtain ⟨h4, h7⟩ := ands h4
      obtain ⟨h5, h6⟩ := ands h2
      obtain ⟨g1, g2⟩ := gl_ok O h3
      obtain ⟨_, r1, F⟩ := O.hot h4
      obtain ⟨f, ef, hp⟩ := newP_ok h7
      exact a_new Gd F O.on O.tk r1 ef hp (of_decide_eq_true h1) g1 g2 (okEs es Gd O h6) h5
    · cases h
  | .meth m o es, B, C, k, cx, W, X, a, Gd, O, h => by
    have h : (match (generalizing := false) a with | .Call (.Attribute b x apos) as [] pos => ((decide (B.an[m]? = some x) && mthP B.P n m) && (notSup b && ((cx.calm && cx.nl) && (decide (as.length < 30) && (apos.endLine == pos.line))))) && (as.all notStar && (ckE B.P B.an n o cx b && ckEs B.P B.an n es cx as)) | _ => false) = true := h
    split at h
    · obtain ⟨h1, h2⟩ := ands h
      obtain ⟨h1, h3⟩ := ands h1
      obtain ⟨h3, h4⟩ := ands h3
      obtain ⟨h4, h5⟩ := ands h4
      obtain ⟨h5, h6⟩ := ands h5
      obtain ⟨h7, h8⟩ := ands h2
      obtain ⟨h8, h9⟩ := ands h8
      obtain ⟨_, r1, F⟩ := O.hot h4
      obtain ⟨h1, hp⟩ := ands h1
      exact a_meth Gd F O.on O.tk (r1.mono (Nat.le_succ k)) (of_decide_eq_true h1) (mthP_ok hp) (okE o Gd O h8) h3 (okEs es Gd O h9) h7 (of_decide_eq_true h5) h6
    · cases h
  | .bi b es, B, C, k, cx, W, X, a, Gd, O, h => by
    have h : (match (generalizing := false) a with
      | .Call (.Name x _) as [] _ => glOk cx x && (as.all notStar && (ckEs B.P B.an n es cx as && (match (generalizing := false) b, as with
        | .abs, [_] => decide (x = "abs")
        | .int1, [_] => decide (x = "int")
        | .str1, [_] => decide (x = "str")
        | .min2, [_, _] => decide (x = "min") && cx.calm
        | .max2, [_, _] => decide (x = "max") && cx.calm
        | _, _ => false)))
      | _ => false) = true := h
    split at h
    · obtain ⟨h1, h2⟩ := ands h
      obtain ⟨q2, h3⟩ := ands h2
      clear h2 h
      obtain ⟨h5, h4⟩ := ands h3
      clear h3
      obtain ⟨g1, g2⟩ := gl_ok O h1
      have A := okEs es Gd O h5
      split at h4
      · obtain rfl := of_decide_eq_true h4
        cases es with
        | nil => exact A.elim
        | cons e es =>
          cases es with
          | cons _ _ => exact A.2.elim
          | nil => exact a_abs g1 (blt_ok Gd O (by decide)) A.1 (by simpa using q2)
      · obtain rfl := of_decide_eq_true h4
        cases es with
        | nil => exact A.elim
        | cons e es =>
          cases es with
          | cons _ _ => exact A.2.elim
          | nil => exact a_int1 g1 (blt_ok Gd O (by decide)) A.1 (by simpa using q2)
      · obtain rfl := of_decide_eq_true h4
        cases es with
        | nil => exact A.elim
        | cons e es =>
          cases es with
          | cons _ _ => exact A.2.elim
          | nil => exact a_str1 g1 (blt_ok Gd O (by decide)) A.1 (by simpa using q2)
      · obtain ⟨h4, h9⟩ := ands h4
        obtain rfl := of_decide_eq_true h4
        have P2 := as_all A q2
        simp only [List.all_cons, List.all_nil, Bool.and_true, Bool.and_eq_true] at q2
        cases es with
        | nil => exact A.elim
        | cons e es =>
          cases es with
          | nil => exact A.2.elim
          | cons e2 es =>
            cases es with
            | cons _ _ => exact A.2.2.elim
            | nil => exact a_min (by rw [O.calm]; exact h9) g1 (blt_ok Gd O (by decide)) P2 q2.1 q2.2
      · obtain ⟨h4, h9⟩ := ands h4
        obtain rfl := of_decide_eq_true h4
        have P2 := as_all A q2
        simp only [List.all_cons, List.all_nil, Bool.and_true, Bool.and_eq_true] at q2
        cases es with
        | nil => exact A.elim
        | cons e es =>
          cases es with
          | nil => exact A.2.elim
          | cons e2 es =>
            cases es with
            | cons _ _ => exact A.2.2.elim
            | nil => exact a_max (by rw [O.calm]; exact h9) g1 (blt_ok Gd O (by decide)) P2 q2.1 q2.2
      · cases h4
    · cases h
  | .isi e t, B, C, k, cx, W, X, a, Gd, O, h => by
    have h : (match (generalizing := false) a with | .Call (.Name x _) [b, .Name y _] [] _ => (decide (x = "isinstance") && (decide (y = tyNm t) && (glOk cx x && glOk cx y))) && (notStar b && ckE B.P B.an n e cx b) | _ => false) = true := h
    split at h
    · obtain ⟨q1, q2⟩ := ands h
      obtain ⟨h1, q3⟩ := ands q1
      obtain ⟨h3, q4⟩ := ands q3
      obtain ⟨h4, h5⟩ := ands q4
      obtain ⟨h6, h7⟩ := ands q2
      obtain rfl := of_decide_eq_true h1
      obtain rfl := of_decide_eq_true h3
      exact a_isi O.on.K (gl_ok O h4).1 (blt_ok Gd O (by decide)) (gl_ok O h5).1 (blt_ok Gd O (by cases t <;> decide)) (okE e Gd O h7) h6
    · cases h
  | .excis i c, B, C, k, cx, W, X, a, Gd, O, h => by
    have h : (match (generalizing := false) a with | .Call (.Name x _) [.Name y _, .Name z _] [] _ => (decide (x = "isinstance") && (decide (n.c[c]? = some z) && (glOk cx x && glOk cx z))) && (nmOk cx i y && B.P.isExc c) | _ => false) = true := h
    split at h
    · obtain ⟨q1, q2⟩ := ands h
      obtain ⟨h1, q3⟩ := ands q1
      obtain ⟨h3, q4⟩ := ands q3
      obtain ⟨h4, h5⟩ := ands q4
      obtain ⟨h6, h7⟩ := ands q2
      obtain rfl := of_decide_eq_true h1
      obtain ⟨m1, m2, m3, m4⟩ := nm_ok O h6
      exact a_excis Gd O.on O.held m1 m2 m3 m4 (of_decide_eq_true h3) h7 (gl_ok O h5).1 (gl_ok O h5).2 (gl_ok O h4).1 (blt_ok Gd O (by decide))
    · cases h
  | .excword _, B, C, k, cx, W, X, a, Gd, O, h => by cases h
  | .len p, B, C, k, cx, W, X, a, Gd, O, h => by
    have h : (match (generalizing := false) a with | .Call (.Name x _) [b] [] _ => (decide (x = "len") && glOk cx x) && (notStar b && ckP B.P B.an n p cx b) | _ => false) = true := h
    split at h
    · obtain ⟨h1, h2⟩ := ands h
      obtain ⟨h1, h3⟩ := ands h1
      obtain ⟨h4, h5⟩ := ands h2
      obtain rfl := of_decide_eq_true h1
      exact a_len O.on.K (gl_ok O h3).1 (blt_ok Gd O (by decide)) (okP p Gd O h5) h4
    · cases h
  | .idx p k', B, C, k, cx, W, X, a, Gd, O, h => by
    have h : (match (generalizing := false) a with | .Subscript b s _ => (simE k' && plainK s) && (ckP B.P B.an n p cx b && ckE B.P B.an n k' cx s) | _ => false) = true := h
    split at h
    · obtain ⟨h1, h2⟩ := ands h
      obtain ⟨h1, h3⟩ := ands h1
      obtain ⟨h4, h5⟩ := ands h2
      exact a_idx O.on.K (okP p Gd O h4) (okE k' Gd O h5) h1 (plainK_ok h3)
    · cases h
  | .idxf p k', B, C, k, cx, W, X, a, Gd, O, h => by
    have h : (match (generalizing := false) a with | .Subscript b s _ => plainK s && (ckP B.P B.an n p cx b && ckE B.P B.an n k' cx s) | _ => false) = true := h
    split at h
    · obtain ⟨h1, h2⟩ := ands h
      obtain ⟨h4, h5⟩ := ands h2
      exact a_idxf O.on.K (okP p Gd O h4) (okE k' Gd O h5) (plainK_ok h1)
    · cases h
  | .slcf p lo hi, B, C, k, cx, W, X, a, Gd, O, h => by
    have h : (match (generalizing := false) a with | .Subscript b (.Slice l h none _) _ => ckP B.P B.an n p cx b && (ckO B.P B.an n lo cx l && ckO B.P B.an n hi cx h) | _ => false) = true := h
    split at h
    · obtain ⟨h4, h5⟩ := ands h
      obtain ⟨h5, h6⟩ := ands h5
      exact a_slcf O.on.K (okP p Gd O h4) (okO lo Gd O h5) (okO hi Gd O h6)
    · cases h
  | .slc p lo hi, B, C, k, cx, W, X, a, Gd, O, h => by
    have h : (match (generalizing := false) a with | .Subscript b (.Slice l h none _) _ => (simO lo && simO hi) && (ckP B.P B.an n p cx b && (ckO B.P B.an n lo cx l && ckO B.P B.an n hi cx h)) | _ => false) = true := h
    split at h
    · obtain ⟨h1, h2⟩ := ands h
      obtain ⟨h1, h3⟩ := ands h1
      obtain ⟨h4, h5⟩ := ands h2
      obtain ⟨h5, h6⟩ := ands h5
      exact a_slc O.on.K (okP p Gd O h4) (okO lo Gd O h5) (okO hi Gd O h6) h1 h3
    · cases h
  | .totup p, B, C, k, cx, W, X, a, Gd, O, h => by
    have h : (match (generalizing := false) a with | .Call (.Name x _) [b] [] _ => (decide (x = "tuple") && glOk cx x) && (notStar b && ckP B.P B.an n p cx b) | _ => false) = true := h
    split at h
    · obtain ⟨h1, h2⟩ := ands h
      obtain ⟨h1, h3⟩ := ands h1
      obtain ⟨h4, h5⟩ := ands h2
      obtain rfl := of_decide_eq_true h1
      exact a_totup O.on.K (gl_ok O h3).1 (blt_ok Gd O (by decide)) (okP p Gd O h5) h4
    · cases h
  | .sum p, B, C, k, cx, W, X, a, Gd, O, h => by
    have h : (match (generalizing := false) a with | .Call (.Name x _) [b] [] _ => (decide (x = "sum") && (glOk cx x && cx.calm)) && (notStar b && ckP B.P B.an n p cx b) | _ => false) = true := h
    split at h
    · obtain ⟨h1, h2⟩ := ands h
      obtain ⟨h1, h3⟩ := ands h1
      obtain ⟨h3, h6⟩ := ands h3
      obtain ⟨h4, h5⟩ := ands h2
      obtain rfl := of_decide_eq_true h1
      exact a_sum O.on.K (by rw [O.calm]; exact h6) (gl_ok O h3).1 (blt_ok Gd O (by decide)) (okP p Gd O h5) h4
    · cases h
  | .allof p, B, C, k, cx, W, X, a, Gd, O, h => by
    have h : (match (generalizing := false) a with | .Call (.Name x _) [b] [] _ => (decide (x = "all") && (glOk cx x && cx.calm)) && (notStar b && ckP B.P B.an n p cx b) | _ => false) = true := h
    split at h
    · obtain ⟨h1, h2⟩ := ands h
      obtain ⟨h1, h3⟩ := ands h1
      obtain ⟨h3, h6⟩ := ands h3
      obtain ⟨h4, h5⟩ := ands h2
      obtain rfl := of_decide_eq_true h1
      exact a_all O.on.K (by rw [O.calm]; exact h6) (gl_ok O h3).1 (blt_ok Gd O (by decide)) (okP p Gd O h5) h4
    · cases h
  | .anyof p, B, C, k, cx, W, X, a, Gd, O, h => by
    have h : (match (generalizing := false) a with | .Call (.Name x _) [b] [] _ => (decide (x = "any") && (glOk cx x && cx.calm)) && (notStar b && ckP B.P B.an n p cx b) | _ => false) = true := h
    split at h
    · obtain ⟨h1, h2⟩ := ands h
      obtain ⟨h1, h3⟩ := ands h1
      obtain ⟨h3, h6⟩ := ands h3
      obtain ⟨h4, h5⟩ := ands h2
      obtain rfl := of_decide_eq_true h1
      exact a_any O.on.K (by rw [O.calm]; exact h6) (gl_ok O h3).1 (blt_ok Gd O (by decide)) (okP p Gd O h5) h4
    · cases h
  | .popat p k', B, C, k, cx, W, X, a, Gd, O, h => by
    have h : (match (generalizing := false) a with | .Call (.Attribute b x apos) [c] [] pos => (decide (x = "pop") && (notSup b && (apos.endLine == pos.line))) && (notStar c && (ckP B.P B.an n p cx b && ckE B.P B.an n k' cx c)) | _ => false) = true := h
    split at h
    · obtain ⟨h1, h2⟩ := ands h
      obtain ⟨h1, h3⟩ := ands h1
      obtain ⟨h3, h4⟩ := ands h3
      obtain ⟨h5, h6⟩ := ands h2
      obtain ⟨h6, h7⟩ := ands h6
      obtain rfl := of_decide_eq_true h1
      exact a_popat O.on.K (okP p Gd O h6) (okE k' Gd O h7) h5 h3 h4
    · cases h
  | .pop0 p, B, C, k, cx, W, X, a, Gd, O, h => by
    have h : (match (generalizing := false) a with | .Call (.Attribute b x apos) [] [] pos => (decide (x = "pop") && (notSup b && (apos.endLine == pos.line))) && ckP B.P B.an n p cx b | _ => false) = true := h
    split at h
    · obtain ⟨h1, h2⟩ := ands h
      obtain ⟨h1, h3⟩ := ands h1
      obtain ⟨h3, h4⟩ := ands h3
      obtain rfl := of_decide_eq_true h1
      exact a_pop0 O.on.K (okP p Gd O h2) h3 h4
    · cases h
  | .dget p k', B, C, k, cx, W, X, a, Gd, O, h => by
    have h : (match (generalizing := false) a with | .Subscript b s _ => (simE k' && plainD s) && (ckP B.P B.an n p cx b && ckE B.P B.an n k' cx s) | _ => false) = true := h
    split at h
    · obtain ⟨h1, h2⟩ := ands h
      obtain ⟨h1, h3⟩ := ands h1
      obtain ⟨h4, h5⟩ := ands h2
      exact a_dget O.on O.un (okP p Gd O h4) (okE k' Gd O h5) h1 (plainD_ok h3)
    · cases h
  | .din k' x p, B, C, k, cx, W, X, a, Gd, O, h => by
    have h : (match (generalizing := false) a with | .Compare b [op] [c] _ => decide (op = inOp k') && (!behindInMarks (inOp k') c && (ckE B.P B.an n x cx b && ckP B.P B.an n p cx c)) | _ => false) = true := h
    split at h
    · obtain ⟨h1, h2⟩ := ands h
      obtain ⟨h2, h3⟩ := ands h2
      obtain ⟨h3, h4⟩ := ands h3
      obtain rfl := of_decide_eq_true h1
      exact a_din O.on O.un (okE x Gd O h3) (okP p Gd O h4) (nn h2)
    · cases h
  | .dgt1 p k', B, C, k, cx, W, X, a, Gd, O, h => by
    have h : (match (generalizing := false) a with | .Call (.Attribute b x apos) [c] [] pos => (decide (x = "get") && (notSup b && (apos.endLine == pos.line))) && ((notStar c && simE k') && (ckP B.P B.an n p cx b && ckE B.P B.an n k' cx c)) | _ => false) = true := h
    split at h
    · obtain ⟨h1, h2⟩ := ands h
      obtain ⟨h1, h3⟩ := ands h1
      obtain ⟨h3, h4⟩ := ands h3
      obtain ⟨h5, h6⟩ := ands h2
      obtain ⟨h5, h7⟩ := ands h5
      obtain ⟨h8, h9⟩ := ands h6
      obtain rfl := of_decide_eq_true h1
      exact a_dgt1 O.on O.un (okP p Gd O h8) (okE k' Gd O h9) h7 h5 h3 h4
    · cases h
  | .dgt2 p k' z, B, C, k, cx, W, X, a, Gd, O, h => by
    have h : (match (generalizing := false) a with | .Call (.Attribute b x apos) [c, d] [] pos => (decide (x = "get") && (notSup b && (apos.endLine == pos.line))) && (((notStar c && notStar d) && (simE k' && simE z)) && (ckP B.P B.an n p cx b && (ckE B.P B.an n k' cx c && ckE B.P B.an n z cx d))) | _ => false) = true := h
    split at h
    · obtain ⟨h1, h2⟩ := ands h
      obtain ⟨h1, h3⟩ := ands h1
      obtain ⟨h3, h4⟩ := ands h3
      obtain ⟨h5, h6⟩ := ands h2
      obtain ⟨h5, h7⟩ := ands h5
      obtain ⟨h5, h10⟩ := ands h5
      obtain ⟨h8, h9⟩ := ands h6
      obtain ⟨h9, h11⟩ := ands h9
      obtain rfl := of_decide_eq_true h1
      exact a_dgt2 O.on O.un (okP p Gd O h8) (okE k' Gd O h9) (okE z Gd O h11) h7 h5 h10 h3 h4
    · cases h
  | .dlen p, B, C, k, cx, W, X, a, Gd, O, h => by
    have h : (match (generalizing := false) a with | .Call (.Name x _) [b] [] _ => (decide (x = "len") && glOk cx x) && (notStar b && ckP B.P B.an n p cx b) | _ => false) = true := h
    split at h
    · obtain ⟨h1, h2⟩ := ands h
      obtain ⟨h1, h3⟩ := ands h1
      obtain ⟨h4, h5⟩ := ands h2
      obtain rfl := of_decide_eq_true h1
      exact a_dlen O.on (gl_ok O h3).1 (blt_ok Gd O (by decide)) (okP p Gd O h5) h4
    · cases h
  | .xb b p es, B, C, k, cx, W, X, a, Gd, O, h => by
    have h : (match (generalizing := false) a with | .Call (.Attribute q x apos) [k'] [] pos => ((match (generalizing := false) b with | .index => decide (x = "index")) && (notSup q && (apos.endLine == pos.line))) && (notStar k' && (simEs es && (ckP B.P B.an n p cx q && ckEs B.P B.an n es cx [k']))) | _ => false) = true := h
    split at h
    · obtain ⟨h1, h2⟩ := ands h
      obtain ⟨h1, h3⟩ := ands h1
      obtain ⟨h3, h4⟩ := ands h3
      obtain ⟨h5, h6⟩ := ands h2
      obtain ⟨h6, h7⟩ := ands h6
      obtain ⟨h7, h8⟩ := ands h7
      cases b with
      | index =>
        obtain rfl := of_decide_eq_true h1
        exact a_index O.on.K (okP p Gd O h7) (as_all (okEs es Gd O h8) (by simp [h5])) h6 h5 h3 h4
    · cases h
theorem okO : ∀ (e : Oe) {B : Bd} {C : Call} {k : Nat} {cx : Ck} {W : WX} {X : Cx} {a : Option Expr}, Good B n → OkX B C k cx W X → ckO B.P B.an n e cx a = true → PO X a (tOs B C W e)
  | .no, B, C, k, cx, W, X, a, Gd, O, h => by
    cases a with
    | none => exact o_no
    | some _ => cases h
  | .so e, B, C, k, cx, W, X, a, Gd, O, h => by
    cases a with
    | none => cases h
    | some b => exact o_so (okE e Gd O h)
theorem okEs : ∀ (es : Es) {B : Bd} {C : Call} {k : Nat} {cx : Ck} {W : WX} {X : Cx} {as : List Expr}, Good B n → OkX B C k cx W X → ckEs B.P B.an n es cx as = true → AllE B C W X as es
  | .nil, B, C, k, cx, W, X, as, Gd, O, h => by
    cases as with
    | nil => exact True.intro
    | cons _ _ => cases h
  | .cons e es, B, C, k, cx, W, X, as, Gd, O, h => by
    cases as with
    | nil => cases h
    | cons a as =>
      obtain ⟨h1, h2⟩ := ands h
      exact ⟨okE e Gd O h1, okEs es Gd O h2⟩
theorem okBs : ∀ (es : Es) {B : Bd} {C : Call} {k : Nat} {cx : Ck} {W : WX} {X : Cx} {as : List Expr}, Good B n → OkX B C k cx W X → ckBs B.P B.an n es cx as = true → AllB B C W X as es
  | .nil, B, C, k, cx, W, X, as, Gd, O, h => by
    cases as with
    | nil => exact True.intro
    | cons _ _ => cases h
  | .cons e es, B, C, k, cx, W, X, as, Gd, O, h => by
    cases as with
    | nil => cases h
    | cons a as =>
      obtain ⟨h1, h2⟩ := ands h
      exact ⟨okB e Gd O h1, okBs es Gd O h2⟩
theorem okB : ∀ (e : E) {B : Bd} {C : Call} {k : Nat} {cx : Ck} {W : WX} {X : Cx} {a : Expr}, Good B n → OkX B C k cx W X → ckB B.P B.an n e cx a = true → PT X a (tB' B C W e)
  | .cmp o x y, B, C, k, cx, W, X, a, Gd, O, h => by
    have h : (match (generalizing := false) a with | .Compare b [op] [c] _ => decide (op = cmOp o) && (!behindInMarks (cmOp o) c && (ckE B.P B.an n x cx b && ckE B.P B.an n y cx c)) | _ => false) = true := h
    split at h
    · obtain ⟨h1, h2⟩ := ands h
      obtain ⟨h2, h3⟩ := ands h2
      obtain ⟨h3, h4⟩ := ands h3
      obtain rfl := of_decide_eq_true h1
      exact b_cmp O.un O.on.K (okE x Gd O h3) (okE y Gd O h4) (nn h2)
    · cases h
  | .chain o o' x y z, B, C, k, cx, W, X, a, Gd, O, h => by
    have h : (match (generalizing := false) a with | .Compare b [op, op'] [c, d] _ => (decide (op = cmOp o) && decide (op' = cmOp o')) && (!lastMarks [cmOp o, cmOp o'] [c, d] && (ckE B.P B.an n x cx b && (ckE B.P B.an n y cx c && ckE B.P B.an n z cx d))) | _ => false) = true := h
    split at h
    · obtain ⟨h1, h2⟩ := ands h
      obtain ⟨h1, h1'⟩ := ands h1
      obtain ⟨h2, h3⟩ := ands h2
      obtain ⟨h3, h4⟩ := ands h3
      obtain ⟨h4, h5⟩ := ands h4
      obtain rfl := of_decide_eq_true h1
      obtain rfl := of_decide_eq_true h1'
      exact b_chain O.un O.on.K (okE x Gd O h3) (okE y Gd O h4) (okE z Gd O h5) (nn h2)
    · cases h
  | .isin k' x p, B, C, k, cx, W, X, a, Gd, O, h => by
    have h : (match (generalizing := false) a with | .Compare b [op] [c] _ => decide (op = inOp k') && (!behindInMarks (inOp k') c && (ckE B.P B.an n x cx b && ckP B.P B.an n p cx c)) | _ => false) = true := h
    split at h
    · obtain ⟨h1, h2⟩ := ands h
      obtain ⟨h2, h3⟩ := ands h2
      obtain ⟨h3, h4⟩ := ands h3
      obtain rfl := of_decide_eq_true h1
      exact b_isin O.un O.on.K (okE x Gd O h3) (okP p Gd O h4) (nn h2)
    · cases h
  | .eqp k' p q, B, C, k, cx, W, X, a, Gd, O, h => by
    have h : (match (generalizing := false) a with | .Compare b [op] [c] _ => (decide (op = eqCm k') && simP q) && (!behindInMarks (eqCm k') c && (ckP B.P B.an n p cx b && ckP B.P B.an n q cx c)) | _ => false) = true := h
    split at h
    · obtain ⟨q1, q2⟩ := ands h
      obtain ⟨h1, h5⟩ := ands q1
      obtain ⟨h2, q3⟩ := ands q2
      obtain ⟨h3, h4⟩ := ands q3
      obtain rfl := of_decide_eq_true h1
      exact b_eqp O.un O.on.K (okP p Gd O h3) (okP q Gd O h4) h5 (nn h2)
    · cases h
  | .not x, B, C, k, cx, W, X, a, Gd, O, h => by
    have h : (match (generalizing := false) a with | .UnaryOp .Not b _ => ckB B.P B.an n x cx b | _ => false) = true := h
    split at h
    · exact b_not (okB x Gd O h)
    · cases h
  | .bo k' es, B, C, k, cx, W, X, a, Gd, O, h => by
    have h : (match (generalizing := false) a with | .BoolOp op as _ => decide (op = (if k' = true then .And else .Or)) && (!as.isEmpty && ckBs B.P B.an n es cx as) | _ => false) = true := h
    split at h
    · obtain ⟨h1, h2⟩ := ands h
      obtain ⟨h2, h3⟩ := ands h2
      obtain rfl := of_decide_eq_true h1
      have ne : ∀ {as : List Expr}, (!as.isEmpty) = true → as ≠ [] := fun h z => by rw [z] at h; cases h
      cases k' with
      | true => exact (w_and _ es (okBs es Gd O h3) (ne h2)).pt
      | false => exact (w_or _ es (okBs es Gd O h3) (ne h2)).pt
    · cases h
  | .truth p, B, C, k, cx, W, X, a, Gd, O, h => by
    obtain ⟨h1, h2⟩ := ands h
    exact b_truth O.on.K (okP p Gd O h2) fun w => plainT_ok h1 w
  | .nev, B, C, k, cx, W, X, a, Gd, O, h => ⟨fun pins s σ H Q I ⟨_, _, _, _, _, _, hw, _⟩ => hw.elim⟩
  | .con d, B, C, k, cx, W, X, a, Gd, O, h => by
    obtain ⟨h1, h2⟩ := ands h
    exact b_val (con_ok h2) fun w => plainT_ok h1 w
  | .var i, B, C, k, cx, W, X, a, Gd, O, h => by
    have h0 : ckE B.P B.an n (.var i) cx a = true := h
    have h : (match (generalizing := false) a with | .Name x _ => nmOk cx i x | _ => false) = true := h
    split at h
    · obtain ⟨h1, h2, h3, h4⟩ := nm_ok O h
      exact b_val (a_var h1 h2 h3 h4) fun w => rfl
    · cases h
  | .attr o f, B, C, k, cx, W, X, a, Gd, O, h => by
    have h : (match (generalizing := false) a with | .Attribute b x _ => decide (B.an[f]? = some x) && (notSup b && ckE B.P B.an n o cx b) | _ => false) = true := h
    split at h
    · obtain ⟨h1, h2⟩ := ands h
      obtain ⟨h2, h3⟩ := ands h2
      exact b_val (a_attr Gd O.on.K (of_decide_eq_true h1) (okE o Gd O h3) (sup_base h2)) fun w => rfl
    · cases h
  | .call f es, B, C, k, cx, W, X, a, Gd, O, h => by
    have h : (match (generalizing := false) a with | .Call (.Name x _) as [] _ => ((decide (n.f[f]? = some (some x)) && n.plain f) && (glOk cx x && (cx.calm && cx.nl))) && (as.all notStar && ckEs B.P B.an n es cx as) | _ => false) = true := h
    split at h
    · obtain ⟨h1, h2⟩ := ands h
      obtain ⟨h1, h3⟩ := ands h1
      obtain ⟨h1, hp⟩ := ands h1
      obtain ⟨h3, h4⟩ := ands h3
      obtain ⟨h5, h6⟩ := ands h2
      obtain ⟨g1, g2⟩ := gl_ok O h3
      obtain ⟨_, r1, F⟩ := O.hot h4
      exact b_val (a_call Gd F O.on O.tk (r1.mono (Nat.le_succ k)) (of_decide_eq_true h1) hp g1 g2 (okEs es Gd O h6) h5) fun w => rfl
    · cases h
  | .meth m o es, B, C, k, cx, W, X, a, Gd, O, h => by
    have h : (match (generalizing := false) a with | .Call (.Attribute b x apos) as [] pos => ((decide (B.an[m]? = some x) && mthP B.P n m) && (notSup b && ((cx.calm && cx.nl) && (decide (as.length < 30) && (apos.endLine == pos.line))))) && (as.all notStar && (ckE B.P B.an n o cx b && ckEs B.P B.an n es cx as)) | _ => false) = true := h
    split at h
    · obtain ⟨h1, h2⟩ := ands h
      obtain ⟨h1, h3⟩ := ands h1
      obtain ⟨h3, h4⟩ := ands h3
      obtain ⟨h4, h5⟩ := ands h4
      obtain ⟨h5, h6⟩ := ands h5
      obtain ⟨h7, h8⟩ := ands h2
      obtain ⟨h8, h9⟩ := ands h8
      obtain ⟨_, r1, F⟩ := O.hot h4
      obtain ⟨h1, hp⟩ := ands h1
      exact b_val (a_meth Gd F O.on O.tk (r1.mono (Nat.le_succ k)) (of_decide_eq_true h1) (mthP_ok hp) (okE o Gd O h8) h3 (okEs es Gd O h9) h7 (of_decide_eq_true h5) h6) fun w => rfl
    · cases h
  | .isi e t, B, C, k, cx, W, X, a, Gd, O, h => by
    have h : (match (generalizing := false) a with | .Call (.Name x _) [b, .Name y _] [] _ => (decide (x = "isinstance") && (decide (y = tyNm t) && (glOk cx x && glOk cx y))) && (notStar b && ckE B.P B.an n e cx b) | _ => false) = true := h
    split at h
    · obtain ⟨q1, q2⟩ := ands h
      obtain ⟨h1, q3⟩ := ands q1
      obtain ⟨h3, q4⟩ := ands q3
      obtain ⟨h4, h5⟩ := ands q4
      obtain ⟨h6, h7⟩ := ands q2
      obtain rfl := of_decide_eq_true h1
      obtain rfl := of_decide_eq_true h3
      exact b_val (a_isi O.on.K (gl_ok O h4).1 (blt_ok Gd O (by decide)) (gl_ok O h5).1 (blt_ok Gd O (by cases t <;> decide)) (okE e Gd O h7) h6) fun w => rfl
    · cases h
  | .allof p, B, C, k, cx, W, X, a, Gd, O, h => by
    have h : (match (generalizing := false) a with | .Call (.Name x _) [b] [] _ => (decide (x = "all") && (glOk cx x && cx.calm)) && (notStar b && ckP B.P B.an n p cx b) | _ => false) = true := h
    split at h
    · obtain ⟨h1, h2⟩ := ands h
      obtain ⟨h1, h3⟩ := ands h1
      obtain ⟨h3, h6⟩ := ands h3
      obtain ⟨h4, h5⟩ := ands h2
      obtain rfl := of_decide_eq_true h1
      exact b_val (a_all O.on.K (by rw [O.calm]; exact h6) (gl_ok O h3).1 (blt_ok Gd O (by decide)) (okP p Gd O h5) h4) fun w => rfl
    · cases h
  | .anyof p, B, C, k, cx, W, X, a, Gd, O, h => by
    have h : (match (generalizing := false) a with | .Call (.Name x _) [b] [] _ => (decide (x = "any") && (glOk cx x && cx.calm)) && (notStar b && ckP B.P B.an n p cx b) | _ => false) = true := h
    split at h
    · obtain ⟨h1, h2⟩ := ands h
      obtain ⟨h1, h3⟩ := ands h1
      obtain ⟨h3, h6⟩ := ands h3
      obtain ⟨h4, h5⟩ := ands h2
      obtain rfl := of_decide_eq_true h1
      exact b_val (a_any O.on.K (by rw [O.calm]; exact h6) (gl_ok O h3).1 (blt_ok Gd O (by decide)) (okP p Gd O h5) h4) fun w => rfl
    · cases h
  | .idx p k', B, C, k, cx, W, X, a, Gd, O, h => by
    have h : (match (generalizing := false) a with | .Subscript b s _ => (simE k' && plainK s) && (ckP B.P B.an n p cx b && ckE B.P B.an n k' cx s) | _ => false) = true := h
    split at h
    · obtain ⟨h1, h2⟩ := ands h
      obtain ⟨h1, h3⟩ := ands h1
      obtain ⟨h4, h5⟩ := ands h2
      exact b_val (a_idx O.on.K (okP p Gd O h4) (okE k' Gd O h5) h1 (plainK_ok h3)) fun w => rfl
    · cases h
  | .glb _, B, C, k, cx, W, X, a, Gd, O, h => by cases h
  | .tup _, B, C, k, cx, W, X, a, Gd, O, h => by cases h
  | .fz _, B, C, k, cx, W, X, a, Gd, O, h => by cases h
  | .al _, B, C, k, cx, W, X, a, Gd, O, h => by cases h
  | .bin _ _ _, B, C, k, cx, W, X, a, Gd, O, h => by cases h
  | .neg _, B, C, k, cx, W, X, a, Gd, O, h => by cases h
  | .ife _ _ _, B, C, k, cx, W, X, a, Gd, O, h => by cases h
  | .new _ _, B, C, k, cx, W, X, a, Gd, O, h => by cases h
  | .callk f ds es, B, C, k, cx, W, X, a, Gd, O, h => by
    have h : (match (generalizing := false) a with | .Call (.Name x _) as [] _ => ((decide (n.f[f]? = some (some x)) && hasK n f ds) && (glOk cx x && (cx.calm && cx.nl))) && (as.all notStar && ckEs B.P B.an n es cx as) | _ => false) = true := h
    split at h
    · obtain ⟨h1, h2⟩ := ands h
      obtain ⟨h1, h3⟩ := ands h1
      obtain ⟨h1, hp⟩ := ands h1
      obtain ⟨h3, h4⟩ := ands h3
      obtain ⟨h5, h6⟩ := ands h2
      obtain ⟨g1, g2⟩ := gl_ok O h3
      obtain ⟨_, r1, F⟩ := O.hot h4
      obtain ⟨m, hm⟩ := hasK_ok hp
      exact b_val (a_callk Gd F O.on O.tk (r1.mono (Nat.le_succ k)) (of_decide_eq_true h1) hm g1 g2 (okEs es Gd O h6) h5) fun w => rfl
    · cases h
  | .newk _ _ _ _, B, C, k, cx, W, X, a, Gd, O, h => by cases h
  | .bi _ _, B, C, k, cx, W, X, a, Gd, O, h => by cases h
  | .excis _ _, B, C, k, cx, W, X, a, Gd, O, h => by cases h
  | .excword _, B, C, k, cx, W, X, a, Gd, O, h => by cases h
  | .len _, B, C, k, cx, W, X, a, Gd, O, h => by cases h
  | .slc _ _ _, B, C, k, cx, W, X, a, Gd, O, h => by cases h
  | .slcf _ _ _, B, C, k, cx, W, X, a, Gd, O, h => by cases h
  | .idxf _ _, B, C, k, cx, W, X, a, Gd, O, h => by cases h
  | .totup _, B, C, k, cx, W, X, a, Gd, O, h => by cases h
  | .sum _, B, C, k, cx, W, X, a, Gd, O, h => by cases h
  | .popat _ _, B, C, k, cx, W, X, a, Gd, O, h => by cases h
  | .pop0 _, B, C, k, cx, W, X, a, Gd, O, h => by cases h
  | .dget p k', B, C, k, cx, W, X, a, Gd, O, h => by
    have h : (match (generalizing := false) a with | .Subscript b s _ => (simE k' && plainD s) && (ckP B.P B.an n p cx b && ckE B.P B.an n k' cx s) | _ => false) = true := h
    split at h
    · obtain ⟨h1, h2⟩ := ands h
      obtain ⟨h1, h3⟩ := ands h1
      obtain ⟨h4, h5⟩ := ands h2
      exact b_val (a_dget O.on O.un (okP p Gd O h4) (okE k' Gd O h5) h1 (plainD_ok h3)) fun w => rfl
    · cases h
  | .din k' x p, B, C, k, cx, W, X, a, Gd, O, h => by
    have h : (match (generalizing := false) a with | .Compare b [op] [c] _ => decide (op = inOp k') && (!behindInMarks (inOp k') c && (ckE B.P B.an n x cx b && ckP B.P B.an n p cx c)) | _ => false) = true := h
    split at h
    · obtain ⟨h1, h2⟩ := ands h
      obtain ⟨h2, h3⟩ := ands h2
      obtain ⟨h3, h4⟩ := ands h3
      obtain rfl := of_decide_eq_true h1
      exact b_din O.on O.un (okE x Gd O h3) (okP p Gd O h4) (nn h2)
    · cases h
  | .dgt1 _ _, B, C, k, cx, W, X, a, Gd, O, h => by cases h
  | .dgt2 _ _ _, B, C, k, cx, W, X, a, Gd, O, h => by cases h
  | .dlen _, B, C, k, cx, W, X, a, Gd, O, h => by cases h
  | .xb _ _ _, B, C, k, cx, W, X, a, Gd, O, h => by cases h
theorem okP : ∀ (p : Pl) {B : Bd} {C : Call} {k : Nat} {cx : Ck} {W : WX} {X : Cx} {a : Expr}, Good B n → OkX B C k cx W X → ckP B.P B.an n p cx a = true → PE X a (tP B C W p)
  | .v e, B, C, k, cx, W, X, a, Gd, O, h => p_v (okE e Gd O h)
  | .loc j, B, C, k, cx, W, X, a, Gd, O, h => by
    have h : (match (generalizing := false) a with | .Name x _ => nmOk cx j x | _ => false) = true := h
    split at h
    · obtain ⟨h1, h2, h3, h4⟩ := nm_ok O h
      exact p_loc h1 h2 h3 h4
    · cases h
  | .fld o f, B, C, k, cx, W, X, a, Gd, O, h => by
    have h : (match (generalizing := false) a with | .Attribute b x _ => decide (B.an[f]? = some x) && (notSup b && ckE B.P B.an n o cx b) | _ => false) = true := h
    split at h
    · obtain ⟨h1, h2⟩ := ands h
      obtain ⟨h2, h3⟩ := ands h2
      exact p_fld Gd O.on.K (of_decide_eq_true h1) (okE o Gd O h3) (sup_base h2)
    · cases h
theorem okC : ∀ (c : Cr) {B : Bd} {C : Call} {k : Nat} {cx : Ck} {W : WX} {X : Cx} {a : Expr}, Good B n → OkX B C k cx W X → ckC B.P B.an n c cx a = true → PE X a (tC B C W c)
  | .lst es, B, C, k, cx, W, X, a, Gd, O, h => by
    have h : (match (generalizing := false) a with | .List as _ => as.all notStar && ckEs B.P B.an n es cx as | _ => false) = true := h
    split at h
    · obtain ⟨h1, h2⟩ := ands h
      exact c_lst (as_all (okEs es Gd O h2) h1)
    · cases h
  | .slice p lo hi, B, C, k, cx, W, X, a, Gd, O, h => by
    have h : (match (generalizing := false) a with | .Subscript b (.Slice l h none _) _ => (simO lo && simO hi) && (ckP B.P B.an n p cx b && (ckO B.P B.an n lo cx l && ckO B.P B.an n hi cx h)) | _ => false) = true := h
    split at h
    · obtain ⟨h1, h2⟩ := ands h
      obtain ⟨h1, h3⟩ := ands h1
      obtain ⟨h4, h5⟩ := ands h2
      obtain ⟨h5, h6⟩ := ands h5
      exact c_slice O.on.K (okP p Gd O h4) (okO lo Gd O h5) (okO hi Gd O h6) h1 h3
    · cases h
  | .tolist p, B, C, k, cx, W, X, a, Gd, O, h => by
    have h : (match (generalizing := false) a with | .Call (.Name x _) [b] [] _ => (decide (x = "list") && glOk cx x) && (notStar b && ckP B.P B.an n p cx b) | _ => false) = true := h
    split at h
    · obtain ⟨h1, h2⟩ := ands h
      obtain ⟨h1, h3⟩ := ands h1
      obtain ⟨h4, h5⟩ := ands h2
      obtain rfl := of_decide_eq_true h1
      exact c_tolist O.on.K (gl_ok O h3).1 (blt_ok Gd O (by decide)) (okP p Gd O h5) h4
    · cases h
  | .catc p q, B, C, k, cx, W, X, a, Gd, O, h => by
    have h : (match (generalizing := false) a with | .BinOp b .Add c _ => ckP B.P B.an n p cx b && ckP B.P B.an n q cx c | _ => false) = true := h
    split at h
    · obtain ⟨h2, h3⟩ := ands h
      exact c_catc (okP p Gd O h2) (okP q Gd O h3)
    · cases h
  | .cat p q, B, C, k, cx, W, X, a, Gd, O, h => by
    have h : (match (generalizing := false) a with | .BinOp b .Add c _ => simP q && (ckP B.P B.an n p cx b && ckP B.P B.an n q cx c) | _ => false) = true := h
    split at h
    · obtain ⟨h1, h2⟩ := ands h
      obtain ⟨h2, h3⟩ := ands h2
      exact c_cat (okP p Gd O h2) (okP q Gd O h3) h1
    · cases h
  | .comp own t it c e, B, C, k, cx, W, X, a, Gd, O, h => by
    have h : (match (generalizing := false) a with
      | .ListComp elt [⟨tg, iter, ifs, 0⟩] scope _ => (cx.calm && (notSet iter && (t.ix.all (own.contains ·) && blkC cx.N cx.sc scope (own.filterMap fun i => (cx.N[i]?).map (·, i)) && own.all fun i => (cx.N[i]?).isSome))) &&
          (ckI B.P B.an n it cx tg iter && (ckT ⟨cx.N, relab scope cx.sc, some scope, cx.calm, cx.nl⟩ t tg && (ckE B.P B.an n e ⟨cx.N, relab scope cx.sc, some scope, cx.calm, cx.nl⟩ elt && ckTs B.P B.an n c ⟨cx.N, relab scope cx.sc, some scope, cx.calm, cx.nl⟩ ifs)))
      | _ => false) = true := h
    split at h
    · rename_i elt tg iter ifs scope p _
      obtain ⟨h1, h2⟩ := ands h
      obtain ⟨h1, h3⟩ := ands h1
      obtain ⟨h3, h4⟩ := ands h3
      obtain ⟨h4, h5⟩ := ands h4
      obtain ⟨h4, h6⟩ := ands h4
      obtain ⟨h7, h8⟩ := ands h2
      obtain ⟨h8, h9⟩ := ands h8
      obtain ⟨h9, h10⟩ := ands h9
      have bk := blkOk_by h6
      rw [← O.N, ← O.sc] at bk
      have hs : ∀ x, foldedSetIterable iter X.env x = pure x := by
        intro x
        cases iter <;> first | rfl | cases h3
      have q := pe_lc (pos := p) (g := gTg X.K t) (tt := tT B C c) (te := tE B C W0 e) (by rw [O.calm]; exact h1) O.nd (okI it Gd O h7) bk (fun s H Ca cl fp => tgt_ok (O.blk h1 bk.kind s H Ca cl fp) h8) (fun s H Ca cl fp => okTs c Gd (O.blk h1 bk.kind s H Ca cl fp) h10)
        (fun s H Ca cl fp => okE e Gd (O.blk h1 bk.kind s H Ca cl fp) h9) hs
      rw [O.N, own_ok h5] at q
      refine PE.imp q fun σ H Q z => comp_conv O.on.K (fun i hi => ?_) z
      have := List.all_eq_true.mp h4 i hi
      simpa using this
    · cases h
  | .dlit ks es, B, C, k, cx, W, X, a, Gd, O, h => by
    have h : (match (generalizing := false) a with | .Dict keys vals _ => (cx.nl && (decide ks.Nodup && (decide (ks.length = vals.length) && (!ks.isEmpty && decide (ks.length ≤ 15))))) && (ckKs ks keys && ckEs B.P B.an n es cx vals) | _ => false) = true := h
    split at h
    · obtain ⟨h1, h2⟩ := ands h
      obtain ⟨h1, h3⟩ := ands h1
      obtain ⟨h3, h4⟩ := ands h3
      obtain ⟨h4, h5⟩ := ands h4
      obtain ⟨h5, h6⟩ := ands h5
      obtain ⟨h7, h8⟩ := ands h2
      exact c_dlit (O.nl h1) (keyE_ok h7) (okEs es Gd O h8) (of_decide_eq_true h3) (of_decide_eq_true h4) (fun z => by rw [z] at h5; cases h5) (of_decide_eq_true h6)
    · cases h
  | .dsrt p, B, C, k, cx, W, X, a, Gd, O, h => by
    have h : (match (generalizing := false) a with | .Call (.Name x _) [q] [] _ => ((decide (x = "sorted") && cx.calm) && glOk cx x) && (notStar q && ckP B.P B.an n p cx q) | _ => false) = true := h
    split at h
    · obtain ⟨h1, h2⟩ := ands h
      obtain ⟨h1, h3⟩ := ands h1
      obtain ⟨h1, h6⟩ := ands h1
      obtain ⟨h4, h5⟩ := ands h2
      obtain rfl := of_decide_eq_true h1
      exact c_dsrt (by rw [O.calm]; exact h6) (gl_ok O h3).1 (blt_ok Gd O (by decide)) (okP p Gd O h5) h4
    · cases h
  | .dnew, B, C, k, cx, W, X, a, Gd, O, h => by
    have h : (match (generalizing := false) a with | .Dict [] [] _ => cx.nl | _ => false) = true := h
    split at h
    · exact c_dnew (O.nl h)
    · cases h
  | .dcopy p, B, C, k, cx, W, X, a, Gd, O, h => by
    have h : (match (generalizing := false) a with | .Call (.Name x _) [b] [] _ => ((decide (x = "dict") && cx.nl) && glOk cx x) && (notStar b && ckP B.P B.an n p cx b) | _ => false) = true := h
    split at h
    · obtain ⟨h1, h2⟩ := ands h
      obtain ⟨h1, h3⟩ := ands h1
      obtain ⟨h4, h5⟩ := ands h2
      obtain ⟨h1, hn⟩ := ands h1
      obtain rfl := of_decide_eq_true h1
      exact c_dcopy O.on (O.nl hn) (gl_ok O h3).1 (blt_ok Gd O (by decide)) (okP p Gd O h5) h4
    · cases h
  | .dvals p, B, C, k, cx, W, X, a, Gd, O, h => by
    have h : (match (generalizing := false) a with | .Call (.Name x _) [.Call (.Attribute b y apos) [] [] cpos] [] _ => (decide (x = "list") && (decide (y = "values") && (glOk cx x && cx.calm))) && ((notSup b && (apos.endLine == cpos.line)) && ckP B.P B.an n p cx b) | _ => false) = true := h
    split at h
    · obtain ⟨h1, h2⟩ := ands h
      obtain ⟨h3, h4⟩ := ands h1
      obtain ⟨h5, h6⟩ := ands h4
      obtain ⟨h7, h8⟩ := ands h6
      obtain ⟨h9, h10⟩ := ands h2
      obtain ⟨h11, h12⟩ := ands h9
      have e1 := of_decide_eq_true h3
      have e2 := of_decide_eq_true h5
      clear h h1 h2 h3 h4 h5 h6 h9
      subst e1 e2
      exact c_dvals O.on (by rw [O.calm]; exact h8) (gl_ok O h7).1 (blt_ok Gd O (by decide)) (okP p Gd O h10) h11 h12
    · cases h
  | .xc b p, B, C, k, cx, W, X, a, Gd, O, h => by
    have h : (match (generalizing := false) a with | .Call (.Name x _) [q] [] _ => ((match (generalizing := false) b with | .dprs => decide (x = "dict") && (cx.calm && cx.nl) | _ => decide (x = "sorted")) && glOk cx x) && (notStar q && ckP B.P B.an n p cx q) | _ => false) = true := h
    split at h
    · obtain ⟨h1, h2⟩ := ands h
      obtain ⟨h1, h3⟩ := ands h1
      obtain ⟨h4, h5⟩ := ands h2
      cases b with
      | srti =>
        obtain rfl := of_decide_eq_true h1
        exact c_srti O.on.K (gl_ok O h3).1 (blt_ok Gd O (by decide)) (okP p Gd O h5) h4
      | srtp =>
        obtain rfl := of_decide_eq_true h1
        exact c_srtp O.on.K (gl_ok O h3).1 (blt_ok Gd O (by decide)) (okP p Gd O h5) h4
      | srts =>
        obtain rfl := of_decide_eq_true h1
        exact c_srts O.on.K (gl_ok O h3).1 (blt_ok Gd O (by decide)) (okP p Gd O h5) h4
      | dprs =>
        obtain ⟨h1, h6⟩ := ands h1
        obtain rfl := of_decide_eq_true h1
        obtain ⟨h6, h7⟩ := ands h6
        exact c_dprs (O.nl h7) (by rw [O.calm]; exact h6) O.on.K (gl_ok O h3).1 (blt_ok Gd O (by decide)) (okP p Gd O h5) h4
    · cases h
  | .compd own t kk p c e, B, C, k, cx, W, X, a, Gd, O, h => by
    have h : (match (generalizing := false) a with
    | .ListComp elt [⟨tg, iter, ifs, 0⟩] scope _ => (((cx.calm && cx.nl) && (notSet iter && (t.ix.all (own.contains ·) && blkC cx.N cx.sc scope (own.filterMap fun i => (cx.N[i]?).map (·, i)) && own.all fun i => (cx.N[i]?).isSome))) && (simP p && (simO c && (simE e && (match (generalizing := false) p with | .fld _ f => (B.an[f]?).isSome | _ => true))))) &&
        (dkM kk tg iter (ckP B.P B.an n p ⟨cx.N, cx.sc, cx.osc, cx.calm, false⟩) && (ckT ⟨cx.N, relab scope cx.sc, some scope, cx.calm, false⟩ t tg && (ckE B.P B.an n e ⟨cx.N, relab scope cx.sc, some scope, cx.calm, false⟩ elt && ckTs B.P B.an n c ⟨cx.N, relab scope cx.sc, some scope, cx.calm, false⟩ ifs)))
    | _ => false) = true := h
    split at h
    · rename_i elt tg iter ifs scope p0 _
      obtain ⟨h1, h2⟩ := ands h
      obtain ⟨h1, hs⟩ := ands h1
      obtain ⟨hcn, h3⟩ := ands h1
      obtain ⟨hcalm, hnl⟩ := ands hcn
      obtain ⟨h3, h4⟩ := ands h3
      obtain ⟨h4, h5⟩ := ands h4
      obtain ⟨h4, h6⟩ := ands h4
      obtain ⟨sp, hs⟩ := ands hs
      obtain ⟨sc, hs⟩ := ands hs
      obtain ⟨se, hf⟩ := ands hs
      obtain ⟨h7, h8⟩ := ands h2
      obtain ⟨h8, h9⟩ := ands h8
      obtain ⟨h9, h10⟩ := ands h9
      have bk := blkOk_by h6
      rw [← O.N, ← O.sc] at bk
      have hst : ∀ x, foldedSetIterable iter X.env x = pure x := by
        intro x
        cases iter <;> first | rfl | cases h3
      refine c_compd Gd (O.nl hnl) O.on.K sp sc se (fun i hi => ?_) (fun o f e => ?_) fun d => ?_
      · have := List.all_eq_true.mp h4 i hi
        simpa using this
      · subst e
        exact Option.isSome_iff_exists.mp hf
      · have Ol := O.lock d
        have hw : PI X tg iter (iDr B.prog B.w kk (tP (B.lock d) C W p)) := dk_ok O.on h7 fun b hb => okP p (Gd.lock d) Ol hb
        have q := pe_lc (pos := p0) (g := gTg X.K t) (tt := tT (B.lock d) C c) (te := tE (B.lock d) C W0 e) (by rw [O.calm]; exact hcalm) O.nd hw bk (fun s H Ca cl fp => tgt_ok (Ol.blk hcalm bk.kind s H Ca cl fp) h8) (fun s H Ca cl fp => okTs c (Gd.lock d) (Ol.blk hcalm bk.kind s H Ca cl fp) h10)
          (fun s H Ca cl fp => okE e (Gd.lock d) (Ol.blk hcalm bk.kind s H Ca cl fp) h9) hst
        rw [O.N, own_ok h5] at q
        exact q
    · cases h
  | .dcl own t it c ke ve, B, C, k, cx, W, X, a, Gd, O, h => by
    have h : (match (generalizing := false) a with
    | .DictComp kx vx [⟨tg, iter, ifs, 0⟩] scope _ => (((cx.calm && cx.nl) && (notSet iter && (t.ix.all (own.contains ·) && blkC cx.N cx.sc scope (own.filterMap fun i => (cx.N[i]?).map (·, i)) && own.all fun i => (cx.N[i]?).isSome))) && (simI it && (simO c && (simE ke && simE ve)))) &&
        (ckI B.P B.an n it cx tg iter && (ckT ⟨cx.N, relab scope cx.sc, some scope, cx.calm, cx.nl⟩ t tg && ((ckE B.P B.an n ke ⟨cx.N, relab scope cx.sc, some scope, cx.calm, cx.nl⟩ kx && ckE B.P B.an n ve ⟨cx.N, relab scope cx.sc, some scope, cx.calm, cx.nl⟩ vx) && ckTs B.P B.an n c ⟨cx.N, relab scope cx.sc, some scope, cx.calm, cx.nl⟩ ifs)))
    | _ => false) = true := h
    split at h
    · rename_i kx vx tg iter ifs scope p0 _
      obtain ⟨h1, h2⟩ := ands h
      obtain ⟨h1, hs⟩ := ands h1
      obtain ⟨hcn, h3⟩ := ands h1
      obtain ⟨hcalm, hnl⟩ := ands hcn
      obtain ⟨h3, h4⟩ := ands h3
      obtain ⟨h4, h5⟩ := ands h4
      obtain ⟨h4, h6⟩ := ands h4
      obtain ⟨si, hs⟩ := ands hs
      obtain ⟨sc, hs⟩ := ands hs
      obtain ⟨sk, sv⟩ := ands hs
      obtain ⟨h7, h8⟩ := ands h2
      obtain ⟨h8, h9⟩ := ands h8
      obtain ⟨h9, h10⟩ := ands h9
      obtain ⟨h9, h11⟩ := ands h9
      have bk := blkOk_by h6
      rw [← O.N, ← O.sc] at bk
      have hst : ∀ x, foldedSetIterable iter X.env x = pure x := by
        intro x
        cases iter <;> first | rfl | cases h3
      have q := pe_dcX (Ok := OkDc B) (pos := p0) (g := gTg X.K t) (tt := tT B C c) (tk := tE B C W0 ke) (tv := tE B C W0 ve) (by rw [O.calm]; exact hcalm) O.nd (okI it Gd O h7) bk (fun s H Ca cl fp => ⟨(O.blk hcalm bk.kind s H Ca cl fp).on, (O.blk hcalm bk.kind s H Ca cl fp).un⟩) (fun s H Ca cl fp => tgt_ok (O.blk hcalm bk.kind s H Ca cl fp) h8) (fun s H Ca cl fp => okTs c Gd (O.blk hcalm bk.kind s H Ca cl fp) h10)
        (fun s H Ca cl fp => okE ke Gd (O.blk hcalm bk.kind s H Ca cl fp) h9) (fun s H Ca cl fp => okE ve Gd (O.blk hcalm bk.kind s H Ca cl fp) h11) hst
      rw [O.N, own_ok h5] at q
      refine PE.imp q fun σ H Q z => dcl_conv (O.nl hnl) O.on.K si sc sk sv (fun i hi => ?_) z
      have := List.all_eq_true.mp h4 i hi
      simpa using this
    · cases h
  | .dcd own t kk p c ke ve, B, C, k, cx, W, X, a, Gd, O, h => by
    have h : (match (generalizing := false) a with
    | .DictComp kx vx [⟨tg, iter, ifs, 0⟩] scope _ => (((cx.calm && cx.nl) && (notSet iter && (t.ix.all (own.contains ·) && blkC cx.N cx.sc scope (own.filterMap fun i => (cx.N[i]?).map (·, i)) && own.all fun i => (cx.N[i]?).isSome))) && (simP p && (simO c && ((simE ke && simE ve) && (match (generalizing := false) p with | .fld _ f => (B.an[f]?).isSome | _ => true))))) &&
        (dkM kk tg iter (ckP B.P B.an n p ⟨cx.N, cx.sc, cx.osc, cx.calm, false⟩) && (ckT ⟨cx.N, relab scope cx.sc, some scope, cx.calm, false⟩ t tg && ((ckE B.P B.an n ke ⟨cx.N, relab scope cx.sc, some scope, cx.calm, false⟩ kx && ckE B.P B.an n ve ⟨cx.N, relab scope cx.sc, some scope, cx.calm, false⟩ vx) && ckTs B.P B.an n c ⟨cx.N, relab scope cx.sc, some scope, cx.calm, false⟩ ifs)))
    | _ => false) = true := h
    split at h
    · rename_i kx vx tg iter ifs scope p0 _
      obtain ⟨h1, h2⟩ := ands h
      obtain ⟨h1, hs⟩ := ands h1
      obtain ⟨hcn, h3⟩ := ands h1
      obtain ⟨hcalm, hnl⟩ := ands hcn
      obtain ⟨h3, h4⟩ := ands h3
      obtain ⟨h4, h5⟩ := ands h4
      obtain ⟨h4, h6⟩ := ands h4
      obtain ⟨sp, hs⟩ := ands hs
      obtain ⟨sc, hs⟩ := ands hs
      obtain ⟨se, hf⟩ := ands hs
      obtain ⟨sk, sv⟩ := ands se
      obtain ⟨h7, h8⟩ := ands h2
      obtain ⟨h8, h9⟩ := ands h8
      obtain ⟨h9, h10⟩ := ands h9
      obtain ⟨h9, h11⟩ := ands h9
      have bk := blkOk_by h6
      rw [← O.N, ← O.sc] at bk
      have hst : ∀ x, foldedSetIterable iter X.env x = pure x := by
        intro x
        cases iter <;> first | rfl | cases h3
      refine c_dcd Gd (O.nl hnl) O.on.K sp sc sk sv (fun i hi => ?_) (fun o f e => ?_) fun d => ?_
      · have := List.all_eq_true.mp h4 i hi
        simpa using this
      · subst e
        exact Option.isSome_iff_exists.mp hf
      · have Ol := O.lock d
        have hw : PI X tg iter (iDr B.prog B.w kk (tP (B.lock d) C W p)) := dk_ok O.on h7 fun b hb => okP p (Gd.lock d) Ol hb
        have q := pe_dcX (Ok := OkDc (B.lock d)) (pos := p0) (g := gTg X.K t) (tt := tT (B.lock d) C c) (tk := tE (B.lock d) C W0 ke) (tv := tE (B.lock d) C W0 ve) (by rw [O.calm]; exact hcalm) O.nd hw bk (fun s H Ca cl fp => ⟨(Ol.blk hcalm bk.kind s H Ca cl fp).on, (Ol.blk hcalm bk.kind s H Ca cl fp).un⟩) (fun s H Ca cl fp => tgt_ok (Ol.blk hcalm bk.kind s H Ca cl fp) h8) (fun s H Ca cl fp => okTs c (Gd.lock d) (Ol.blk hcalm bk.kind s H Ca cl fp) h10)
          (fun s H Ca cl fp => okE ke (Gd.lock d) (Ol.blk hcalm bk.kind s H Ca cl fp) h9) (fun s H Ca cl fp => okE ve (Gd.lock d) (Ol.blk hcalm bk.kind s H Ca cl fp) h11) hst
        rw [O.N, own_ok h5] at q
        exact q
    · cases h
theorem okTs : ∀ (c : Oe) {B : Bd} {C : Call} {k : Nat} {cx : Ck} {X : Cx} {ifs : List Expr}, Good B n → OkX B C k cx W0 X → ckTs B.P B.an n c cx ifs = true → PTs X ifs (tT B C c)
  | .no, B, C, k, cx, X, ifs, Gd, O, h => by
    cases ifs with
    | nil => exact t_no
    | cons _ _ => cases h
  | .so e, B, C, k, cx, X, ifs, Gd, O, h => by
    have h : (match (generalizing := false) ifs with | [b] => ckB B.P B.an n e cx b | _ => false) = true := h
    split at h
    · exact t_so (okB e Gd O h)
    · cases h
theorem okI : ∀ (it : It) {B : Bd} {C : Call} {k : Nat} {cx : Ck} {W : WX} {X : Cx} {tg a : Expr}, Good B n → OkX B C k cx W X → ckI B.P B.an n it cx tg a = true → PI X tg a (tI B C W it)
  | .pl p, B, C, k, cx, W, X, tg, a, Gd, O, h => i_pl O.on.K (okP p Gd O h)
  | .rng1 e, B, C, k, cx, W, X, tg, a, Gd, O, h => by
    have h : (match (generalizing := false) a with | .Call (.Name x _) [b] [] _ => (decide (x = "range") && glOk cx x) && (notStar b && ckE B.P B.an n e cx b) | _ => false) = true := h
    split at h
    · obtain ⟨h1, h2⟩ := ands h
      obtain ⟨h1, h3⟩ := ands h1
      obtain ⟨h4, h5⟩ := ands h2
      obtain rfl := of_decide_eq_true h1
      exact i_rng1 (gl_ok O h3).1 (blt_ok Gd O (by decide)) (okE e Gd O h5) h4
    · cases h
  | .rng2 e f, B, C, k, cx, W, X, tg, a, Gd, O, h => by
    have h : (match (generalizing := false) a with | .Call (.Name x _) [b, c] [] _ => (decide (x = "range") && glOk cx x) && ((notStar b && notStar c) && (ckE B.P B.an n e cx b && ckE B.P B.an n f cx c)) | _ => false) = true := h
    split at h
    · obtain ⟨h1, h2⟩ := ands h
      obtain ⟨h1, h3⟩ := ands h1
      obtain ⟨h4, h5⟩ := ands h2
      obtain ⟨h4, h6⟩ := ands h4
      obtain ⟨h7, h8⟩ := ands h5
      obtain rfl := of_decide_eq_true h1
      exact i_rng2 (gl_ok O h3).1 (blt_ok Gd O (by decide)) (okE e Gd O h7) (okE f Gd O h8) h4 h6
    · cases h
  | .enum p, B, C, k, cx, W, X, tg, a, Gd, O, h => by
    have h : (match (generalizing := false) tg, a with | .Tuple _ _ _, .Call (.Name x _) [b] [] _ => (decide (x = "enumerate") && glOk cx x) && (notStar b && ckP B.P B.an n p cx b) | _, _ => false) = true := h
    split at h
    · obtain ⟨h1, h2⟩ := ands h
      obtain ⟨h1, h3⟩ := ands h1
      obtain ⟨h4, h5⟩ := ands h2
      obtain rfl := of_decide_eq_true h1
      exact i_enum O.on.K (gl_ok O h3).1 (blt_ok Gd O (by decide)) (okP p Gd O h5) h4
    · cases h
end
end
end Vb

set_option maxHeartbeats 4000000
/-! The plain layer, part 14: what is checked of statements holds. -/
namespace Vb
open PySem L2
def notDS : Expr → Bool
  | .SetComp _ _ _ _ => false
  | _ => true
section
variable (P : Pg) (an : List Str) (n : Nms)
mutual
def ckS : S → Ck → Stmt → Bool
  | .nev, _, _ => true
  | .expr e, cx, a => (match a with | .Expr b _ => !isComp b && ckE P an n e cx b | _ => false)
  | .set i e, cx, a => (match a with | .Assign [.Name x p] b pos => (tgOk cx i x && notDS b) && (if swB cx x p pos.line b = true then (match e with | .fz c => ckC P an n c cx b | .al c => ckC P an n c cx b | _ => false) else ckE P an n e cx b) | _ => false)
  | .setown i c, cx, a => (match a with | .Assign [.Name x p] b pos => (tgOk cx i x && notDS b) && ckC P an n c cx b | _ => false)
  | .settup is e, cx, a => (match a with | .Assign [.Tuple es k p] b _ => ckT cx (.tup is) (.Tuple es k p) && (notTup b && ckE P an n e cx b) | _ => false)
  | .setlst is p, cx, a => (match a with | .Assign [.Tuple es k q] b _ => ckT cx (.tup is) (.Tuple es k q) && (notTup b && ckP P an n p cx b) | _ => false)
  | .setf o f e, cx, a => (match a with | .Assign [.Attribute b x _] c _ => decide (an[f]? = some x) && (ckE P an n o cx b && ckE P an n e cx c) | _ => false)
  | .setfown o f d, cx, a => (match a with | .Assign [.Attribute b x _] c _ => decide (an[f]? = some x) && (ckE P an n o cx b && ckC P an n d cx c) | _ => false)
  | .seti p k e, cx, a => (match a with | .Assign [.Subscript b s _] c _ => ((simE k && plainK s) && !isComp c) && (ckP P an n p cx b && (ckE P an n k cx s && ckE P an n e cx c)) | _ => false)
  | .app p e, cx, a => (match a with | .Expr (.Call (.Attribute b x apos) [c] [] cpos) _ => (decide (x = "append") && (notStar c && (notSup b && (apos.endLine == cpos.line)))) && (ckP P an n p cx b && ckE P an n e cx c) | _ => false)
  | .setpop _ _ _, _, _ => false
  | .ifs c x y, cx, a => (match a with | .If t b d _ => ckB P an n c cx t && (ckSs x cx b && ckSs y cx d) | _ => false)
  | .whil c x, cx, a => (match a with | .While t b [] _ => ckB P an n c cx t && ckSs x cx b | _ => false)
  | .for_ t it x, cx, a => (match a with | .For tg iter b [] _ => (cx.calm && notSet iter) && (ckI P an n it cx tg iter && (ckT cx t tg && ckSs x cx b)) | _ => false)
  | .ford t w p x, cx, a => (match a with | .For tg iter b [] _ => ((cx.calm && notSet iter) && simP p) && (dkM w tg iter (ckP P an n p cx) && (ckT cx t tg && ckSs x cx b)) | _ => false)
  | .forh t p x, cx, a => (match a with | .For tg iter b [] _ => notSet iter && (ckP P an n p cx iter && (ckT cx t tg && ckSs x cx b)) | _ => false)
  | .ret e, cx, a => (match a with | .Return (some b) _ => ckE P an n e cx b | _ => false)
  | .retn, _, a => (match a with | .Return none _ => true | _ => false)
  | .raise c, cx, a => (match a with | .Raise (some (.Call (.Name x _) [.Constant (.str _) _ _] [] _)) none _ => (cx.calm && glOk cx x) && (decide (n.c[c]? = some x) && P.isExc c) | _ => false)
  | .try_ b c x h, cx, a => (match a with
    | .Try body [.ExceptHandler (some (.Name y _)) nm (b0 :: suite) _] [] [] _ => (cx.calm && (glOk cx y && (decide (n.c[c]? = some y) && P.isExc c))) && ((match x, nm with
        | some i, some z => decide (cx.N[i]? = some z) && decide (cx.sc.names.lookup z = some .local)
        | none, none => true
        | _, _ => false) && (ckSs b cx body && ckSs h ⟨cx.N, cx.sc, cx.osc, false, cx.nl⟩ (b0 :: suite)))
    | _ => false)
  | .pass, _, a => (match a with | .Pass _ => true | .Expr (.Constant (.str _) _ _) _ => true | _ => false)
  | .cont, _, a => (match a with | .Continue _ => true | _ => false)
  | .brk, _, a => (match a with | .Break _ => true | _ => false)
  | .frz _, _, _ => false
  | .dput p k e, cx, a => (match a with | .Assign [.Subscript b s _] c _ => ((simE k && plainD s) && !isComp c) && (ckP P an n p cx b && (ckE P an n k cx s && ckE P an n e cx c)) | _ => false)
  | .ddel p k, cx, a => (match a with | .Delete [.Subscript b s _] _ => simE k && (ckP P an n p cx b && ckE P an n k cx s) | _ => false)
def ckSs : Ss → Ck → List Stmt → Bool
  | .nil, _, as => as.isEmpty
  | .cons s ss, cx, as => (match s with
    | .frz _ => ckSs ss cx as
    | .nev => true
    | s => (match as with | a :: as => ckS s cx a && ckSs ss cx as | [] => false))
end
end
structure OkS (B : Bd) (C : Call) (k : Nat) (cx : Ck) (W : WX) (X : Cx) : Prop extends OkX B C k cx W X where
  pass : PassesOwn (model X.prog X.w) X.A X.env X.xe
  fr : cx.calm = true → X.stack = X.env :: X.outer ∧ X.env.frame = some X.env.locals
  fa : ∀ x, X.fn x = true
  nlk : B.lk = none
  nls : cx.nl = true
section
variable {B : Bd} {C : Call} {W : WX} {X : Cx} {n : Nms} {k : Nat} {cx : Ck}
theorem OkS.tr (O : OkS B C k cx W X) (hc : cx.calm = true) {W' : WX} {pn : List (Addr × Obj)} {xe : Value → Shared → Prop} (tk : L2N.Takes (X.tr pn xe) W') (ps : PassesOwn (model X.prog X.w) X.A X.env xe) : OkS B C k cx W' (X.tr pn xe) := by
  refine ⟨⟨⟨O.on.prog, O.on.w, O.on.K, O.on.mg, O.on.base⟩, O.N, O.nd, O.sc, O.kd, O.un, O.calm, O.hx0, O.hot, fun a c h => ?_, O.fn, tk, O.nl⟩, ps, O.fr, O.fa, O.nlk, O.nls⟩
  rw [O.hx0 hc] at h
  cases h
theorem OkS.suite (O : OkS B C k cx W X) {a : Addr} {oe : Obj} {pn : List (Addr × Obj)} {c : Nat} (hz : L2N.Zn (.ref (B.cad c)) none oe) (hf : ∃ vs, oe.data = .fields vs) (he : B.P.isExc c = true) :
    OkS (B.at (some (a, c))) C k ⟨cx.N, cx.sc, cx.osc, false, cx.nl⟩ W0 (X.suite a ((a, oe) :: pn)) := by
  refine ⟨⟨⟨O.on.prog, O.on.w, O.on.K, O.on.mg, O.on.base⟩, O.N, O.nd, O.sc, O.kd, O.un, rfl, (fun h => by cases h), fun h => ?_, fun a' c' h => ?_, O.fn, fun u s' x => ?_, O.nl⟩, PassesOwn.never, fun h => ?_, O.fa, O.nlk, O.nls⟩
  · simp at h
  · cases h
    exact ⟨X, oe, pn, rfl, hz.zc, hf, he⟩
  · obtain ⟨_, _, _, _, _, _, _, _, _, _, _, _, _, _, _, _, z⟩ := x
    exact z.elim
  · cases h
theorem sw_name (O : OkX B C k cx W X) {x : Str} {p : Pos} {l : Nat} {a : Expr} (h : swB cx x p l a = false) (hd : notDS a = true) : swapsWith a (some (.Name x p)) l X.env = pure false := by
  cases a with
  | ListComp elt gs scope pos =>
    have hk : X.env.scope.kind = .function := by rw [O.sc]; exact O.kd
    have hb : X.env.blockKind = .function := by unfold Env.blockKind; rw [hk]; rfl
    have hy : X.env.kindOf x = cx.sc.names.lookup x := by
      show X.env.scope.names.lookup x = _
      rw [O.sc]
    have h : (decide (cx.sc.names.lookup x = some .local) && ((p.line == pos.line) && !(scope.names.any fun (n, k) => n == x && (k == .local || k == .cell)))) = false := h
    unfold swapsWith
    simp only [hb, hy, Expr.pos]
    show (pure _ : Sem Bool) = pure false
    congr 1
    cases q1 : cx.sc.names.lookup x with
    | none => simp
    | some kd =>
      rw [q1] at h
      cases kd <;> simp at h ⊢
      exact h
  | SetComp => cases hd
  | DictComp kx vx gs scope pos =>
    have hk : X.env.scope.kind = .function := by rw [O.sc]; exact O.kd
    have hb : X.env.blockKind = .function := by unfold Env.blockKind; rw [hk]; rfl
    have hy : X.env.kindOf x = cx.sc.names.lookup x := by
      show X.env.scope.names.lookup x = _
      rw [O.sc]
    have h : (decide (cx.sc.names.lookup x = some .local) && ((p.line == pos.line) && !(scope.names.any fun (n, k) => n == x && (k == .local || k == .cell)))) = false := h
    unfold swapsWith
    simp only [hb, hy, Expr.pos]
    show (pure _ : Sem Bool) = pure false
    congr 1
    cases q1 : cx.sc.names.lookup x with
    | none => simp
    | some kd =>
      rw [q1] at h
      cases kd <;> simp at h ⊢
      exact h
  | _ => rfl
/-- a list comprehension stored into a name -/
theorem s_lc {c : Cr} {i : Nat} {x : Str} {p : Pos} {pos : Pos} {a : Expr} (Gd : Good B n) (O : OkX B C k cx W X) (ht : tgOk cx i x = true) (hs : swB cx x p pos.line a = true) (h : ckC B.P B.an n c cx a = true) : PS X (.Assign [.Name x p] a pos) (tAsg (tC B C W c) (gName i)) := by
  cases a with
  | ListComp elt gs scope lpos =>
    obtain ⟨s1, s2⟩ := ands hs
    obtain ⟨s2, s3⟩ := ands s2
    have s1 : cx.sc.names.lookup x = some .local := of_decide_eq_true s1
    obtain ⟨t1, t2, t3⟩ := tg_ok O ht
    have hk : X.env.scope.kind = .function := by rw [O.sc]; exact O.kd
    cases c with
    | comp own t it c e =>
      have h : (match (generalizing := false) (Expr.ListComp elt gs scope lpos) with
        | .ListComp elt [⟨tg, iter, ifs, 0⟩] scope _ => (cx.calm && (notSet iter && (t.ix.all (own.contains ·) && blkC cx.N cx.sc scope (own.filterMap fun i => (cx.N[i]?).map (·, i)) && own.all fun i => (cx.N[i]?).isSome))) &&
            (ckI B.P B.an n it cx tg iter && (ckT ⟨cx.N, relab scope cx.sc, some scope, cx.calm, cx.nl⟩ t tg && (ckE B.P B.an n e ⟨cx.N, relab scope cx.sc, some scope, cx.calm, cx.nl⟩ elt && ckTs B.P B.an n c ⟨cx.N, relab scope cx.sc, some scope, cx.calm, cx.nl⟩ ifs)))
        | _ => false) = true := h
      split at h
      · rename_i elt' tg iter ifs scope' p' e0
        cases e0
        obtain ⟨h1, h2⟩ := ands h
        obtain ⟨h1, h3⟩ := ands h1
        obtain ⟨h3, h4⟩ := ands h3
        obtain ⟨h4, h5⟩ := ands h4
        obtain ⟨h4, h6⟩ := ands h4
        obtain ⟨h7, h8⟩ := ands h2
        obtain ⟨h8, h9⟩ := ands h8
        obtain ⟨h9, h10⟩ := ands h9
        have bk := blkOk_by h6
        rw [← O.N, ← O.sc] at bk
        have hs' : ∀ x, foldedSetIterable iter X.env x = pure x := by
          intro x
          cases iter <;> first | rfl | cases h3
        have hl : X.env.scope.names.lookup x = some .local := by rw [O.sc]; exact s1
        have q := ps_setLc (py := p) (pos := lpos) (spos := pos) (g := gTg X.K t) (tt := tT B C c) (te := tE B C W0 e) (by rw [O.calm]; exact h1) O.nd t1 hl (sw_true hk hl s2 (nn s3)) (okI it Gd O h7) bk (fun s H Ca cl fp => tgt_ok (O.blk h1 bk.kind s H Ca cl fp) h8) (fun s H Ca cl fp => okTs c Gd (O.blk h1 bk.kind s H Ca cl fp) h10)
          (fun s H Ca cl fp => okE e Gd (O.blk h1 bk.kind s H Ca cl fp) h9) hs'
        rw [O.N, own_ok h5] at q
        refine PS.imp q fun D σ H z => comp_conv O.on.K (fun i hi => ?_) z
        have := List.all_eq_true.mp h4 i hi
        simpa using this
      · cases h
    | compd own t kk pl c e =>
      have hl : X.env.scope.names.lookup x = some .local := by rw [O.sc]; exact s1
      have h : (match (generalizing := false) (Expr.ListComp elt gs scope lpos) with
      | .ListComp elt [⟨tg, iter, ifs, 0⟩] scope _ => (((cx.calm && cx.nl) && (notSet iter && (t.ix.all (own.contains ·) && blkC cx.N cx.sc scope (own.filterMap fun i => (cx.N[i]?).map (·, i)) && own.all fun i => (cx.N[i]?).isSome))) && (simP pl && (simO c && (simE e && (match (generalizing := false) pl with | .fld _ f => (B.an[f]?).isSome | _ => true))))) &&
          (dkM kk tg iter (ckP B.P B.an n pl ⟨cx.N, cx.sc, cx.osc, cx.calm, false⟩) && (ckT ⟨cx.N, relab scope cx.sc, some scope, cx.calm, false⟩ t tg && (ckE B.P B.an n e ⟨cx.N, relab scope cx.sc, some scope, cx.calm, false⟩ elt && ckTs B.P B.an n c ⟨cx.N, relab scope cx.sc, some scope, cx.calm, false⟩ ifs)))
      | _ => false) = true := h
      split at h
      · rename_i elt' tg iter ifs scope' p' e0
        cases e0
        obtain ⟨h1, h2⟩ := ands h
        obtain ⟨h1, hs⟩ := ands h1
        obtain ⟨hcn, h3⟩ := ands h1
        obtain ⟨hcalm, hnl⟩ := ands hcn
        obtain ⟨h3, h4⟩ := ands h3
        obtain ⟨h4, h5⟩ := ands h4
        obtain ⟨h4, h6⟩ := ands h4
        obtain ⟨sp, hs⟩ := ands hs
        obtain ⟨sc, hs⟩ := ands hs
        obtain ⟨se, hf⟩ := ands hs
        obtain ⟨h7, h8⟩ := ands h2
        obtain ⟨h8, h9⟩ := ands h8
        obtain ⟨h9, h10⟩ := ands h9
        have bk := blkOk_by h6
        rw [← O.N, ← O.sc] at bk
        have hst : ∀ x, foldedSetIterable iter X.env x = pure x := by
          intro x
          cases iter <;> first | rfl | cases h3
        refine s_compd Gd (O.nl hnl) O.on.K sp sc se (fun i hi => ?_) (fun o f e => ?_) fun d => ?_
        · have := List.all_eq_true.mp h4 i hi
          simpa using this
        · subst e
          exact Option.isSome_iff_exists.mp hf
        · have Ol := O.lock d
          have hw : PI X tg iter (iDr B.prog B.w kk (tP (B.lock d) C W pl)) := dk_ok O.on h7 fun b hb => okP pl (Gd.lock d) Ol hb
          have q := ps_setLc (py := p) (pos := lpos) (spos := pos) (g := gTg X.K t) (tt := tT (B.lock d) C c) (te := tE (B.lock d) C W0 e) (by rw [O.calm]; exact hcalm) O.nd t1 hl (sw_true hk hl s2 (nn s3)) hw bk (fun s H Ca cl fp => tgt_ok (Ol.blk hcalm bk.kind s H Ca cl fp) h8) (fun s H Ca cl fp => okTs c (Gd.lock d) (Ol.blk hcalm bk.kind s H Ca cl fp) h10)
            (fun s H Ca cl fp => okE e (Gd.lock d) (Ol.blk hcalm bk.kind s H Ca cl fp) h9) hst
          rw [O.N, own_ok h5] at q
          exact q
      · cases h
    | _ => cases h
  | DictComp kx vx gs scope lpos =>
    obtain ⟨s1, s2⟩ := ands hs
    obtain ⟨s2, s3⟩ := ands s2
    have s1 : cx.sc.names.lookup x = some .local := of_decide_eq_true s1
    obtain ⟨t1, t2, t3⟩ := tg_ok O ht
    have hk : X.env.scope.kind = .function := by rw [O.sc]; exact O.kd
    have hl : X.env.scope.names.lookup x = some .local := by rw [O.sc]; exact s1
    cases c with
    | dcl own t it c ke ve =>
      have h : (match (generalizing := false) (Expr.DictComp kx vx gs scope lpos) with
      | .DictComp kx vx [⟨tg, iter, ifs, 0⟩] scope _ => (((cx.calm && cx.nl) && (notSet iter && (t.ix.all (own.contains ·) && blkC cx.N cx.sc scope (own.filterMap fun i => (cx.N[i]?).map (·, i)) && own.all fun i => (cx.N[i]?).isSome))) && (simI it && (simO c && (simE ke && simE ve)))) &&
          (ckI B.P B.an n it cx tg iter && (ckT ⟨cx.N, relab scope cx.sc, some scope, cx.calm, cx.nl⟩ t tg && ((ckE B.P B.an n ke ⟨cx.N, relab scope cx.sc, some scope, cx.calm, cx.nl⟩ kx && ckE B.P B.an n ve ⟨cx.N, relab scope cx.sc, some scope, cx.calm, cx.nl⟩ vx) && ckTs B.P B.an n c ⟨cx.N, relab scope cx.sc, some scope, cx.calm, cx.nl⟩ ifs)))
      | _ => false) = true := h
      split at h
      · rename_i kx' vx' tg iter ifs scope' p0 e0
        cases e0
        obtain ⟨h1, h2⟩ := ands h
        obtain ⟨h1, hs⟩ := ands h1
        obtain ⟨hcn, h3⟩ := ands h1
        obtain ⟨hcalm, hnl⟩ := ands hcn
        obtain ⟨h3, h4⟩ := ands h3
        obtain ⟨h4, h5⟩ := ands h4
        obtain ⟨h4, h6⟩ := ands h4
        obtain ⟨si, hs⟩ := ands hs
        obtain ⟨sc, hs⟩ := ands hs
        obtain ⟨sk, sv⟩ := ands hs
        obtain ⟨h7, h8⟩ := ands h2
        obtain ⟨h8, h9⟩ := ands h8
        obtain ⟨h9, h10⟩ := ands h9
        obtain ⟨h9, h11⟩ := ands h9
        have bk := blkOk_by h6
        rw [← O.N, ← O.sc] at bk
        have hst : ∀ x, foldedSetIterable iter X.env x = pure x := by
          intro x
          cases iter <;> first | rfl | cases h3
        have q := ps_setDcX (Ok := OkDc B) (py := p) (pos := lpos) (spos := pos) (g := gTg X.K t) (tt := tT B C c) (tk := tE B C W0 ke) (tv := tE B C W0 ve) (by rw [O.calm]; exact hcalm) O.nd t1 hl (sw_trueD hk hl s2 (nn s3)) (okI it Gd O h7) bk (fun s H Ca cl fp => ⟨(O.blk hcalm bk.kind s H Ca cl fp).on, (O.blk hcalm bk.kind s H Ca cl fp).un⟩) (fun s H Ca cl fp => tgt_ok (O.blk hcalm bk.kind s H Ca cl fp) h8) (fun s H Ca cl fp => okTs c Gd (O.blk hcalm bk.kind s H Ca cl fp) h10)
          (fun s H Ca cl fp => okE ke Gd (O.blk hcalm bk.kind s H Ca cl fp) h9) (fun s H Ca cl fp => okE ve Gd (O.blk hcalm bk.kind s H Ca cl fp) h11) hst
        rw [O.N, own_ok h5] at q
        refine PS.imp q fun D σ H z => dcl_conv (O.nl hnl) O.on.K si sc sk sv (fun i hi => ?_) z
        have := List.all_eq_true.mp h4 i hi
        simpa using this
      · cases h
    | dcd own t kk pl c ke ve =>
      have h : (match (generalizing := false) (Expr.DictComp kx vx gs scope lpos) with
      | .DictComp kx vx [⟨tg, iter, ifs, 0⟩] scope _ => (((cx.calm && cx.nl) && (notSet iter && (t.ix.all (own.contains ·) && blkC cx.N cx.sc scope (own.filterMap fun i => (cx.N[i]?).map (·, i)) && own.all fun i => (cx.N[i]?).isSome))) && (simP pl && (simO c && ((simE ke && simE ve) && (match (generalizing := false) pl with | .fld _ f => (B.an[f]?).isSome | _ => true))))) &&
          (dkM kk tg iter (ckP B.P B.an n pl ⟨cx.N, cx.sc, cx.osc, cx.calm, false⟩) && (ckT ⟨cx.N, relab scope cx.sc, some scope, cx.calm, false⟩ t tg && ((ckE B.P B.an n ke ⟨cx.N, relab scope cx.sc, some scope, cx.calm, false⟩ kx && ckE B.P B.an n ve ⟨cx.N, relab scope cx.sc, some scope, cx.calm, false⟩ vx) && ckTs B.P B.an n c ⟨cx.N, relab scope cx.sc, some scope, cx.calm, false⟩ ifs)))
      | _ => false) = true := h
      split at h
      · rename_i kx' vx' tg iter ifs scope' p0 e0
        cases e0
        obtain ⟨h1, h2⟩ := ands h
        obtain ⟨h1, hs⟩ := ands h1
        obtain ⟨hcn, h3⟩ := ands h1
        obtain ⟨hcalm, hnl⟩ := ands hcn
        obtain ⟨h3, h4⟩ := ands h3
        obtain ⟨h4, h5⟩ := ands h4
        obtain ⟨h4, h6⟩ := ands h4
        obtain ⟨sp, hs⟩ := ands hs
        obtain ⟨sc, hs⟩ := ands hs
        obtain ⟨se, hf⟩ := ands hs
        obtain ⟨sk, sv⟩ := ands se
        obtain ⟨h7, h8⟩ := ands h2
        obtain ⟨h8, h9⟩ := ands h8
        obtain ⟨h9, h10⟩ := ands h9
        obtain ⟨h9, h11⟩ := ands h9
        have bk := blkOk_by h6
        rw [← O.N, ← O.sc] at bk
        have hst : ∀ x, foldedSetIterable iter X.env x = pure x := by
          intro x
          cases iter <;> first | rfl | cases h3
        refine s_dcd Gd (O.nl hnl) O.on.K sp sc sk sv (fun i hi => ?_) (fun o f e => ?_) fun d => ?_
        · have := List.all_eq_true.mp h4 i hi
          simpa using this
        · subst e
          exact Option.isSome_iff_exists.mp hf
        · have Ol := O.lock d
          have hw : PI X tg iter (iDr B.prog B.w kk (tP (B.lock d) C W pl)) := dk_ok O.on h7 fun b hb => okP pl (Gd.lock d) Ol hb
          have q := ps_setDcX (Ok := OkDc (B.lock d)) (py := p) (pos := lpos) (spos := pos) (g := gTg X.K t) (tt := tT (B.lock d) C c) (tk := tE (B.lock d) C W0 ke) (tv := tE (B.lock d) C W0 ve) (by rw [O.calm]; exact hcalm) O.nd t1 hl (sw_trueD hk hl s2 (nn s3)) hw bk (fun s H Ca cl fp => ⟨(Ol.blk hcalm bk.kind s H Ca cl fp).on, (Ol.blk hcalm bk.kind s H Ca cl fp).un⟩) (fun s H Ca cl fp => tgt_ok (Ol.blk hcalm bk.kind s H Ca cl fp) h8) (fun s H Ca cl fp => okTs c (Gd.lock d) (Ol.blk hcalm bk.kind s H Ca cl fp) h10)
            (fun s H Ca cl fp => okE ke (Gd.lock d) (Ol.blk hcalm bk.kind s H Ca cl fp) h9) (fun s H Ca cl fp => okE ve (Gd.lock d) (Ol.blk hcalm bk.kind s H Ca cl fp) h11) hst
          rw [O.N, own_ok h5] at q
          exact q
      · cases h
    | _ => cases h
  | _ => cases hs
end
section
variable {n : Nms}
theorem set_conv {B : Bd} {C : Call} {W : WX} {i : Nat} {e : E} {D : Ends} {σ : L2.St} {H : Hp} (h : tS B C W (.set i e) D σ H) : tAsg (tE B C W e) (gName i) D σ H := by
  obtain ⟨T, g, r, K, R, hw, hq⟩ := h
  exact ⟨T, g, r, _, _, R, hw, fun d g1 T1 H1 v x1 R1 rv _ hk => hq .nx _ g1 T1 H1 _ x1 (R1.setv rv) hk, fun c g1 T1 H1 x1 R1 hk => hq (.exc c) r g1 T1 H1 σ x1 R1 hk⟩
mutual
theorem okS : ∀ (s : S) {B : Bd} {C : Call} {k : Nat} {cx : Ck} {W : WX} {X : Cx} {a : Stmt}, Good B n → OkS B C k cx W X → ckS B.P B.an n s cx a = true → PS X a (tS B C W s)
  | .nev, B, C, k, cx, W, X, a, Gd, O, h => ⟨fun pins s σ H D I ⟨_, _, _, _, _, hw, _⟩ => hw.elim⟩
  | .expr e, B, C, k, cx, W, X, a, Gd, O, h => by
    have h : (match (generalizing := false) a with | .Expr b _ => !isComp b && ckE B.P B.an n e cx b | _ => false) = true := h
    split at h
    · obtain ⟨h1, h2⟩ := ands h
      exact s_expr (okE e Gd O.toOkX h2) (nn h1)
    · cases h
  | .set i e, B, C, k, cx, W, X, a, Gd, O, h => by
    have h : (match (generalizing := false) a with | .Assign [.Name x p] b pos => (tgOk cx i x && notDS b) && (if swB cx x p pos.line b = true then (match (generalizing := false) e with | .fz c => ckC B.P B.an n c cx b | .al c => ckC B.P B.an n c cx b | _ => false) else ckE B.P B.an n e cx b) | _ => false) = true := h
    split at h
    · rename_i x p b pos _
      obtain ⟨h1, h2⟩ := ands h
      obtain ⟨h1, h3⟩ := ands h1
      obtain ⟨t1, t2, t3⟩ := tg_ok O.toOkX h1
      by_cases q : swB cx x p pos.line b = true
      · rw [if_pos q] at h2
        split at h2
        · exact PS.imp (s_lc Gd O.toOkX h1 q h2) fun D σ H z => fz_conv (set_conv z)
        · exact PS.imp (s_lc Gd O.toOkX h1 q h2) fun D σ H z => al_conv (set_conv z)
        · cases h2
      · rw [if_neg q] at h2
        exact s_set O.nd t1 t2 t3 (okE e Gd O.toOkX h2) (sw_name O.toOkX (by simpa using q) h3)
    · cases h
  | .setown i c, B, C, k, cx, W, X, a, Gd, O, h => by
    have h : (match (generalizing := false) a with | .Assign [.Name x p] b pos => (tgOk cx i x && notDS b) && ckC B.P B.an n c cx b | _ => false) = true := h
    split at h
    · rename_i x p b pos _
      obtain ⟨h1, h2⟩ := ands h
      obtain ⟨h1, h3⟩ := ands h1
      obtain ⟨t1, t2, t3⟩ := tg_ok O.toOkX h1
      by_cases q : swB cx x p pos.line b = true
      · exact PS.imp (s_lc Gd O.toOkX h1 q h2) fun D σ H z => own_conv z
      · exact s_setown O.nd t1 t2 t3 (okC c Gd O.toOkX h2) (sw_name O.toOkX (by simpa using q) h3)
    · cases h
  | .settup is e, B, C, k, cx, W, X, a, Gd, O, h => by
    have h : (match (generalizing := false) a with | .Assign [.Tuple es k p] b _ => ckT cx (.tup is) (.Tuple es k p) && (notTup b && ckE B.P B.an n e cx b) | _ => false) = true := h
    split at h
    · obtain ⟨h1, h2⟩ := ands h
      obtain ⟨h2, h3⟩ := ands h2
      exact s_settup O.on.K (tgt_ok O.toOkX h1) (okE e Gd O.toOkX h3) h2
    · cases h
  | .setlst is p, B, C, k, cx, W, X, a, Gd, O, h => by
    have h : (match (generalizing := false) a with | .Assign [.Tuple es k q] b _ => ckT cx (.tup is) (.Tuple es k q) && (notTup b && ckP B.P B.an n p cx b) | _ => false) = true := h
    split at h
    · obtain ⟨h1, h2⟩ := ands h
      obtain ⟨h2, h3⟩ := ands h2
      exact s_setlst O.on.K (tgu_ok O.toOkX h1) (okP p Gd O.toOkX h3) h2
    · cases h
  | .setf o f e, B, C, k, cx, W, X, a, Gd, O, h => by
    have h : (match (generalizing := false) a with | .Assign [.Attribute b x _] c _ => decide (B.an[f]? = some x) && (ckE B.P B.an n o cx b && ckE B.P B.an n e cx c) | _ => false) = true := h
    split at h
    · obtain ⟨h1, h2⟩ := ands h
      obtain ⟨h2, h3⟩ := ands h2
      exact s_setf Gd O.on.K (of_decide_eq_true h1) (okE o Gd O.toOkX h2) (okE e Gd O.toOkX h3)
    · cases h
  | .setfown o f d, B, C, k, cx, W, X, a, Gd, O, h => by
    have h : (match (generalizing := false) a with | .Assign [.Attribute b x _] c _ => decide (B.an[f]? = some x) && (ckE B.P B.an n o cx b && ckC B.P B.an n d cx c) | _ => false) = true := h
    split at h
    · obtain ⟨h1, h2⟩ := ands h
      obtain ⟨h2, h3⟩ := ands h2
      exact s_setfown Gd O.on.K (of_decide_eq_true h1) (okE o Gd O.toOkX h2) (okC d Gd O.toOkX h3)
    · cases h
  | .seti p k' e, B, C, k, cx, W, X, a, Gd, O, h => by
    have h : (match (generalizing := false) a with | .Assign [.Subscript b s _] c _ => ((simE k' && plainK s) && !isComp c) && (ckP B.P B.an n p cx b && (ckE B.P B.an n k' cx s && ckE B.P B.an n e cx c)) | _ => false) = true := h
    split at h
    · obtain ⟨h1, h2⟩ := ands h
      obtain ⟨h1, h3⟩ := ands h1
      obtain ⟨h1, h4⟩ := ands h1
      obtain ⟨h5, h6⟩ := ands h2
      obtain ⟨h6, h7⟩ := ands h6
      exact s_seti Gd O.on.K (okP p Gd O.toOkX h5) (okE k' Gd O.toOkX h6) (okE e Gd O.toOkX h7) h1 h4 (nn h3)
    · cases h
  | .app p e, B, C, k, cx, W, X, a, Gd, O, h => by
    have h : (match (generalizing := false) a with | .Expr (.Call (.Attribute b x apos) [c] [] cpos) _ => (decide (x = "append") && (notStar c && (notSup b && (apos.endLine == cpos.line)))) && (ckP B.P B.an n p cx b && ckE B.P B.an n e cx c) | _ => false) = true := h
    split at h
    · obtain ⟨q1, q2⟩ := ands h
      obtain ⟨h1, q3⟩ := ands q1
      obtain ⟨h2, q5⟩ := ands q3
      obtain ⟨h4, h5⟩ := ands q5
      obtain ⟨h6, h7⟩ := ands q2
      obtain rfl := of_decide_eq_true h1
      exact s_app Gd O.on.K (okP p Gd O.toOkX h6) (okE e Gd O.toOkX h7) h2 h4 h5
    · cases h
  | .setpop _ _ _, B, C, k, cx, W, X, a, Gd, O, h => by cases h
  | .ifs c x y, B, C, k, cx, W, X, a, Gd, O, h => by
    have h : (match (generalizing := false) a with | .If t b d _ => ckB B.P B.an n c cx t && (ckSs B.P B.an n x cx b && ckSs B.P B.an n y cx d) | _ => false) = true := h
    split at h
    · obtain ⟨h1, h2⟩ := ands h
      obtain ⟨h2, h3⟩ := ands h2
      exact s_ifs (okB c Gd O.toOkX h1) (okSs x Gd O h2) (okSs y Gd O h3)
    · cases h
  | .whil c x, B, C, k, cx, W, X, a, Gd, O, h => by
    have h : (match (generalizing := false) a with | .While t b [] _ => ckB B.P B.an n c cx t && ckSs B.P B.an n x cx b | _ => false) = true := h
    split at h
    · obtain ⟨h1, h2⟩ := ands h
      exact s_whil O.pass (okB c Gd O.toOkX h1) (okSs x Gd O h2)
    · cases h
  | .for_ t it x, B, C, k, cx, W, X, a, Gd, O, h => by
    have h : (match (generalizing := false) a with | .For tg iter b [] _ => (cx.calm && notSet iter) && (ckI B.P B.an n it cx tg iter && (ckT cx t tg && ckSs B.P B.an n x cx b)) | _ => false) = true := h
    split at h
    · rename_i tg iter b _ _
      obtain ⟨h1, h2⟩ := ands h
      obtain ⟨h1, h3⟩ := ands h1
      obtain ⟨h4, h5⟩ := ands h2
      obtain ⟨h5, h6⟩ := ands h5
      exact s_for O.on.K O.pass (by rw [O.calm]; exact h1) (okI it Gd O.toOkX h4) (tgt_ok O.toOkX h5) (okSs x Gd O h6) (fun x => by cases iter <;> first | rfl | cases h3)
    · cases h
  | .ford t w p x, B, C, k, cx, W, X, a, Gd, O, h => by
    have h : (match (generalizing := false) a with | .For tg iter b [] _ => ((cx.calm && notSet iter) && simP p) && (dkM w tg iter (ckP B.P B.an n p cx) && (ckT cx t tg && ckSs B.P B.an n x cx b)) | _ => false) = true := h
    split at h
    · rename_i tg iter b _ _
      obtain ⟨h1, h2⟩ := ands h
      obtain ⟨h1, sp⟩ := ands h1
      obtain ⟨h1, h3⟩ := ands h1
      obtain ⟨h4, h5⟩ := ands h2
      obtain ⟨h5, h6⟩ := ands h5
      exact s_ford O.nlk O.on.K O.pass (by rw [O.calm]; exact h1) sp (dk_ok O.on h4 fun b hb => okP p Gd O.toOkX hb) (tgt_ok O.toOkX h5) (okSs x Gd O h6) (fun x => by cases iter <;> first | rfl | cases h3)
    · cases h
  | .forh t p x, B, C, k, cx, W, X, a, Gd, O, h => by
    have h : (match (generalizing := false) a with | .For tg iter b [] _ => notSet iter && (ckP B.P B.an n p cx iter && (ckT cx t tg && ckSs B.P B.an n x cx b)) | _ => false) = true := h
    split at h
    · rename_i tg iter b _ _
      obtain ⟨h3, h2⟩ := ands h
      obtain ⟨h4, h5⟩ := ands h2
      obtain ⟨h5, h6⟩ := ands h5
      exact s_forN O.on.K O.pass (okP p Gd O.toOkX h4) (tgt_ok O.toOkX h5) (okSs x Gd O h6) (fun x => by cases iter <;> first | rfl | cases h3)
    · cases h
  | .ret e, B, C, k, cx, W, X, a, Gd, O, h => by
    have h : (match (generalizing := false) a with | .Return (some b) _ => ckE B.P B.an n e cx b | _ => false) = true := h
    split at h
    · exact s_ret (okE e Gd O.toOkX h)
    · cases h
  | .retn, B, C, k, cx, W, X, a, Gd, O, h => by
    have h : (match (generalizing := false) a with | .Return none _ => true | _ => false) = true := h
    split at h
    · exact s_retn
    · cases h
  | .raise c, B, C, k, cx, W, X, a, Gd, O, h => by
    have h : (match (generalizing := false) a with | .Raise (some (.Call (.Name x _) [.Constant (.str _) _ _] [] _)) none _ => (cx.calm && glOk cx x) && (decide (n.c[c]? = some x) && B.P.isExc c) | _ => false) = true := h
    split at h
    · obtain ⟨h1, h2⟩ := ands h
      obtain ⟨h1, h3⟩ := ands h1
      obtain ⟨h4, h5⟩ := ands h2
      obtain ⟨g1, g2⟩ := gl_ok O.toOkX h3
      exact s_raise Gd O.on (by rw [O.calm]; exact h1) O.tk (of_decide_eq_true h4) h5 g1 g2
    · cases h
  | .try_ b c x h', B, C, k, cx, W, X, a, Gd, O, h => by
    have h : (match (generalizing := false) a with
      | .Try body [.ExceptHandler (some (.Name y _)) nm (b0 :: suite) _] [] [] _ => (cx.calm && (glOk cx y && (decide (n.c[c]? = some y) && B.P.isExc c))) && ((match (generalizing := false) x, nm with
          | some i, some z => decide (cx.N[i]? = some z) && decide (cx.sc.names.lookup z = some .local)
          | none, none => true
          | _, _ => false) && (ckSs B.P B.an n b cx body && ckSs B.P B.an n h' ⟨cx.N, cx.sc, cx.osc, false, cx.nl⟩ (b0 :: suite)))
      | _ => false) = true := h
    split at h
    · rename_i body y np nm b0 suite p1 p2 _
      obtain ⟨q1, q2⟩ := ands h
      obtain ⟨h1, q3⟩ := ands q1
      obtain ⟨h2, q4⟩ := ands q3
      obtain ⟨h3, h4⟩ := ands q4
      obtain ⟨h5, q5⟩ := ands q2
      obtain ⟨h6, h7⟩ := ands q5
      obtain ⟨g1, g2⟩ := gl_ok O.toOkX h2
      obtain ⟨f1, f2⟩ := O.fr h1
      have hb := O.hx0 h1
      have nmc : Names X y (.ref (B.cad c)) := ⟨g1, g2, .inl (by rw [O.on.mg]; exact Gd.cnm c y (of_decide_eq_true h3))⟩
      have body_ok : ∀ (W' : WX) (pn : List (Addr × Obj)) (xe : Value → Shared → Prop), L2N.Takes (X.tr pn xe) W' → PassesOwn (model X.prog X.w) X.A X.env xe → PSs (X.tr pn xe) body (tSs B C W' b) :=
        fun W' pn xe tk ps => okSs b Gd (O.tr h1 tk ps) h6
      have suite_ok : ∀ (a : Addr) (oe : Obj) (cls : Value) (d : Option Addr) (pn : List (Addr × Obj)), L2N.Zn cls d oe → (∃ vs, oe.data = .fields vs) → PSs (X.suite a ((a, oe) :: pn)) (b0 :: suite) (tsH B C h' a cls d) := by
        intro a oe cls d pn hz hf
        refine ⟨fun pins s σ H D I ⟨e, e1, e2, e3, q⟩ => ?_⟩
        subst e1 e2
        exact (okSs h' (Gd.at (some (a, e))) (O.suite hz hf e3) h7).run pins s σ H D I q
      cases x with
      | some i =>
        cases nm with
        | some z =>
          obtain ⟨z1, z2⟩ := ands h5
          have z1 : X.N[i]? = some z := by rw [O.N]; exact of_decide_eq_true z1
          have z2 : X.env.kindOf z = some .local := by
            show X.env.scope.names.lookup z = _
            rw [O.sc]
            exact of_decide_eq_true z2
          exact PS.imp (L2N.ps_try_as (tb := fun W' => tSs B C W' b) (ts := tsH B C h') f1 f2 O.nd z1 z2 nmc O.tk body_ok suite_ok) fun D σ H q => try_conv Gd O.on.K hb h4 q
        | none => cases h5
      | none =>
        cases nm with
        | some z => cases h5
        | none =>
          exact PS.imp (L2N.ps_try_many (tb := fun W' => tSs B C W' b) (l := [(.ref (B.cad c), tsH B C h')]) f1 f2 O.tk body_ok (.cons nmc suite_ok .nil)) fun D σ H q => try_conv0 Gd O.on.K hb h4 q
    · cases h
  | .pass, B, C, k, cx, W, X, a, Gd, O, h => by
    have h : (match (generalizing := false) a with | .Pass _ => true | .Expr (.Constant (.str _) _ _) _ => true | _ => false) = true := h
    split at h
    · exact s_pass
    · exact s_doc
    · cases h
  | .cont, B, C, k, cx, W, X, a, Gd, O, h => by
    have h : (match (generalizing := false) a with | .Continue _ => true | _ => false) = true := h
    split at h
    · exact s_cont
    · cases h
  | .brk, B, C, k, cx, W, X, a, Gd, O, h => by
    have h : (match (generalizing := false) a with | .Break _ => true | _ => false) = true := h
    split at h
    · exact s_brk
    · cases h
  | .frz _, B, C, k, cx, W, X, a, Gd, O, h => by cases h
  | .dput p k' e, B, C, k, cx, W, X, a, Gd, O, h => by
    have h : (match (generalizing := false) a with | .Assign [.Subscript b s _] c _ => ((simE k' && plainD s) && !isComp c) && (ckP B.P B.an n p cx b && (ckE B.P B.an n k' cx s && ckE B.P B.an n e cx c)) | _ => false) = true := h
    split at h
    · obtain ⟨h1, h2⟩ := ands h
      obtain ⟨h1, h3⟩ := ands h1
      obtain ⟨h1, h4⟩ := ands h1
      obtain ⟨h5, h6⟩ := ands h2
      obtain ⟨h6, h7⟩ := ands h6
      exact s_dput Gd O.on O.nlk O.un (okP p Gd O.toOkX h5) (okE k' Gd O.toOkX h6) (okE e Gd O.toOkX h7) h1 h4 (nn h3)
    · cases h
  | .ddel p k', B, C, k, cx, W, X, a, Gd, O, h => by
    have h : (match (generalizing := false) a with | .Delete [.Subscript b s _] _ => simE k' && (ckP B.P B.an n p cx b && ckE B.P B.an n k' cx s) | _ => false) = true := h
    split at h
    · obtain ⟨h1, h2⟩ := ands h
      obtain ⟨h5, h6⟩ := ands h2
      exact s_ddel Gd O.on O.nlk O.un (okP p Gd O.toOkX h5) (okE k' Gd O.toOkX h6) h1
    · cases h
theorem okSs : ∀ (s : Ss) {B : Bd} {C : Call} {k : Nat} {cx : Ck} {W : WX} {X : Cx} {a : List Stmt}, Good B n → OkS B C k cx W X → ckSs B.P B.an n s cx a = true → PSs X a (tSs B C W s)
  | .nil, B, C, k, cx, W, X, a, Gd, O, h => by
    cases a with
    | nil => exact ss_nil
    | cons _ _ => cases h
  | .cons s ss, B, C, k, cx, W, X, a, Gd, O, h => by
    by_cases q : ∃ i, s = .frz i
    · obtain ⟨i, rfl⟩ := q
      exact ss_frz (okSs ss Gd O h)
    · by_cases q' : s = .nev
      · subst q'
        exact ⟨fun pins s σ H D I ⟨_, _, _, _, _, hw, _⟩ => hw.elim⟩
      · have h : (match (generalizing := false) a with | a :: as => ckS B.P B.an n s cx a && ckSs B.P B.an n ss cx as | [] => false) = true := by
          cases s with
          | frz i => exact absurd ⟨i, rfl⟩ q
          | nev => exact absurd rfl q'
          | _ => exact h
        cases a with
        | nil => cases h
        | cons a as =>
          obtain ⟨h1, h2⟩ := ands h
          exact ss_cons (okS s Gd O h1) (okSs ss Gd O h2)
end
end
end Vb

set_option maxHeartbeats 4000000
/-! The plain layer, part 15: defs, the tables, the law. -/
namespace Vb
open PySem L2
section
variable {B : Bd} {C : Call} {W : WX} {X : Cx} {n : Nms} {k : Nat}
variable {T T' : Tm} {g g' : G} {r r' : Rho} {H H' : Hp} {σ σ' : L2.St}
theorem RR.bare (R : RR B T g r H σ) : RR B T g [] H [] := ⟨R.hx, rfl, R.fz, R.fr, R.tg, R.inj, R.dom, R.obj, fun j s h => by simp at h⟩
theorem RR.start (R : RR B T g [] H []) {ds : List D} {vs : List V} (rs : RDs B T ds vs) {N : List Str} {m : Nat} (hm : N.length = m) :
    RR B T g (ds.map (fun d => some (.val d)) ++ List.replicate (m - ds.length) none) H (L2.start N vs) := by
  have hl := rs.length
  refine ⟨R.hx, ?_, R.fz, R.fr, R.tg, R.inj, R.dom, R.obj, fun j s h => ?_⟩
  · unfold L2.start
    simp [hl, hm]
  · have hj : j < ds.length := by
      rcases Nat.lt_or_ge j ds.length with l | l
      · exact l
      · rw [List.getElem?_append_right (by simpa using l)] at h
        rw [List.getElem?_replicate] at h
        split at h <;> cases h
    rw [List.getElem?_append_left (by simpa using hj), List.getElem?_map] at h
    have e : ds[j]? = some ds[j] := by simp [hj]
    rw [e] at h
    cases h
    obtain ⟨v, h1, h2⟩ := rs.get e
    refine ⟨v, ?_, h2⟩
    unfold L2.start
    rw [List.getElem?_append_left (by simpa [hl] using hj), List.getElem?_map, h1]
    rfl
def C1 (P : Pg) (C : Call) : Call := fun f ds g K X => match P.fns[f]? with
    | some fn => ds.length = fn.params ∧ wSs P C fn.body (ds.map (fun d => some (.val d)) ++ List.replicate (fn.slots - ds.length) none) g fun o _ g1 => match o with
      | .nx => K .non g1
      | .ret d => K d g1
      | .exc c => X c g1
      | _ => False
    | none => False
theorem wCall_succ (P : Pg) (m : Nat) : wCall P (m + 1) = C1 P (wCall P m) := rfl
/-- a def keeps its promise -/
theorem def_ok (Gd : Good B n) (F : Fns B C k) (hb : B.hx = none) (hlk : B.lk = none) {f : Nat} {fn : Fn} (hf : B.P.fns[f]? = some fn) {x qual : Str} {params : Arguments} {body : List Stmt} {scope : Scope} {N : List Str} {dvs : List V} {kws : List (Str × V)} (FD : FunD B.K x qual params body scope dvs kws (B.fad f) (B.fd f))
    (S : FnScope N (B.ps f) scope) (hN : N.length = fn.slots) (hp : (B.ps f).length = fn.params) (ck : ckSs B.P B.an n fn.body ⟨N, scope, none, true, true⟩ body = true) :
    FnOk B.prog B.w B.K B.mg B.base (L2N.CX B.prog B.w) (k + 2) (B.fad f) (B.fd f) (B.ps f) (spC B (C1 B.P C) f) := by
  have len : ∀ vs H Q E, spC B (C1 B.P C) f vs H Q E → vs.length = (B.ps f).length := by
    rintro vs H Q E ⟨T, g, ds, Kk, Xk, R, rs, hc, _⟩
    have hc : (match B.P.fns[f]? with | some fn => ds.length = fn.params ∧ _ | none => False) := hc
    rw [hf] at hc
    rw [rs.length, hp]
    exact hc.1
  refine FD.ok S len fun cdv A outer s H vs Q E hr hsp => ?_
  obtain ⟨T, g, ds, Kk, Xk, R, rs, hc, hq, hx⟩ := hsp
  have hc : (match B.P.fns[f]? with
    | some fn => ds.length = fn.params ∧ wSs B.P C fn.body (ds.map (fun d => some (.val d)) ++ List.replicate (fn.slots - ds.length) none) g fun o _ g1 => (match o with
      | .nx => Kk .non g1
      | .ret d => Kk d g1
      | .exc c => Xk c g1
      | _ => False)
    | none => False) := hc
  rw [hf] at hc
  obtain ⟨hl, hw⟩ := hc
  refine ⟨tSs B C (fun cls d _ H => E cls d H) fn.body, ?_, ?_⟩
  · refine okSs fn.body Gd ⟨⟨⟨rfl, rfl, rfl, rfl, rfl⟩, rfl, S.nd, rfl, S.kind, ?_, rfl, (fun _ => hb), fun _ => ⟨hb, hr, F⟩, fun a c h => ?_, fun _ _ => rfl, ?_, fun _ => hlk⟩, PassesOwn.leaving, fun _ => ⟨rfl, rfl⟩, (fun _ => rfl), hlk, rfl⟩ ck
    · have := hr.un
      show (A.deeper _).units + 200 < cLine
      omega
    · rw [hb] at h
      cases h
    · exact L2N.takes_of rfl rfl rfl rfl
  · refine ⟨T, g, _, _, R.start rs hN, hw, fun o r' g' T' H' σ' x R' hk => ?_⟩
    cases o with
    | nx => exact hq .non g' T' H' _ x R'.bare rfl hk
    | ret d => exact fun v rv => hq d g' T' H' v x R'.bare rv hk
    | exc c => exact hx c g' T' H' x R'.bare hk
    | brk => exact hk.elim
    | cnt => exact hk.elim
theorem fns_zero : Fns B (wCall B.P 0) k where
  len := fun _ _ _ _ _ h => h.elim
  ok := fun f => ⟨fun vs H Q E ⟨_, _, _, _, _, _, _, h, _⟩ => h.elim, fun A outer s H args us vs Q E _ _ _ _ ⟨_, _, _, _, _, _, _, h, _⟩ => h.elim⟩
/-- what is wanted of every def -/
structure DefsOk (B : Bd) (n : Nms) : Prop where
  ok : ∀ (f : Nat) (fn : Fn), B.P.fns[f]? = some fn → ∃ (x qual : Str) (params : Arguments) (body : List Stmt) (scope : Scope) (N : List Str) (dvs : List V) (kws : List (Str × V)), FunD B.K x qual params body scope dvs kws (B.fad f) (B.fd f) ∧
    FnScope N (B.ps f) scope ∧ N.length = fn.slots ∧ (B.ps f).length = fn.params ∧ ckSs B.P B.an n fn.body ⟨N, scope, none, true, true⟩ body = true
theorem fns_all (Gd : Good B n) (hb : B.hx = none) (hlk : B.lk = none) (D : DefsOk B n) : ∀ m : Nat, Fns B (wCall B.P m) (2 * m)
  | 0 => fns_zero
  | m + 1 => by
    have F := fns_all Gd hb hlk D m
    rw [wCall_succ]
    refine ⟨fun f ds g Kk Xk h => ?_, fun f => ?_⟩
    · cases e : B.P.fns[f]? with
      | none =>
        have h : (match B.P.fns[f]? with | some fn => _ | none => False) := h
        rw [e] at h
        exact h.elim
      | some fn =>
        have h : (match B.P.fns[f]? with | some fn => ds.length = fn.params ∧ _ | none => False) := h
        rw [e] at h
        obtain ⟨_, _, _, _, _, _, _, _, _, _, _, hp, _⟩ := D.ok f fn e
        rw [hp]
        exact h.1
    · cases e : B.P.fns[f]? with
      | none =>
        have no : ∀ vs H Q E, ¬ spC B (C1 B.P (wCall B.P m)) f vs H Q E := by
          rintro vs H Q E ⟨T, g, ds, Kk, Xk, R, rs, hc, _⟩
          have hc : (match B.P.fns[f]? with | some fn => _ | none => False) := hc
          rw [e] at hc
          exact hc.elim
        exact ⟨fun vs H Q E h => absurd h (no _ _ _ _), fun A outer s H args us vs Q E _ _ _ _ h => absurd h (no _ _ _ _)⟩
      | some fn =>
        obtain ⟨_, _, _, _, _, _, _, _, FD, S, hN, hp, ck⟩ := D.ok f fn e
        exact def_ok Gd F hb hlk e FD S hN hp ck
end
end Vb

set_option maxHeartbeats 4000000
/-! The plain layer, part 16: the tables. -/
namespace Vb
open PySem L2
structure Tab where
  P : Pg
  an : List Str
  n : Nms
  defs : List He.DefD
  N : List (List Str)
  ps : List (List Str)
def scopeB (N ps : List Str) (sc : Scope) : Bool := (match sc.kind with | .function => true | _ => false) && ((!sc.isCoroutine && !sc.isGenerator) && (decide N.Nodup && (decide (N.take ps.length = ps) && ((ps.all fun x => decide (sc.names.lookup x = some .local) || decide (sc.names.lookup x = some .cell)) && sc.names.all fun y => !(y.2 == .free)))))
theorem scopeB_ok {N ps : List Str} {sc : Scope} (h : scopeB N ps sc = true) : FnScope N ps sc := by
  obtain ⟨h1, h2⟩ := ands h
  obtain ⟨h2, h3⟩ := ands h2
  obtain ⟨h2, h4⟩ := ands h2
  obtain ⟨h3, h5⟩ := ands h3
  obtain ⟨h5, h6⟩ := ands h5
  obtain ⟨h6, h7⟩ := ands h6
  refine ⟨?_, nn h2, nn h4, of_decide_eq_true h3, of_decide_eq_true h5, fun x hx => ?_, fun y hy e => ?_⟩
  · split at h1
    · assumption
    · cases h1
  · rcases Bool.or_eq_true_iff.mp (List.all_eq_true.mp h6 x hx) with q | q
    · exact .inl (of_decide_eq_true q)
    · exact .inr (of_decide_eq_true q)
  · have := List.all_eq_true.mp h7 y hy
    rw [e] at this
    cases this
/-- what is given is bound in order -/
def BindOk (t : Tab) : Prop := ∀ f d, t.n.plain f = true → t.defs[f]? = some d → ∀ (kV doc pm : Value) (an : Option Addr) (cdv ct : Value) (us : List Value), us.length = (t.ps.getD f []).length →
  bindArgs (PySem.W.fnOf d.name d.qual d.params d.body d.scope .none kV doc pm an cdv ct) ⟨us, []⟩ = pure ((t.ps.getD f []).zip us)
def defB (t : Tab) (f : Nat) : Bool := match t.P.fns[f]?, t.defs[f]?, t.N[f]?, t.ps[f]? with
  | some fn, some d, some N, some ps => (decide (fn.params = ps.length) && decide (fn.slots = N.length)) && (scopeB N ps d.scope && ((!t.n.plain f || (d.dfl.isEmpty && d.kwd.isEmpty)) && ckSs t.P t.an t.n fn.body ⟨N, d.scope, none, true, true⟩ d.body))
  | _, _, _, _ => false
def tabB (t : Tab) : Bool := decide t.an.Nodup && (decide (t.n.c.length = t.P.cls.length) && ((List.range t.P.fns.length).all (defB t) && decide (t.defs.length = t.P.fns.length)))
/-! ### what is asked of the frozen part -/
def excB (K : PySem.W.Frag) (D : Addr) : Bool := He.eqO (PySem.W.findIn K (.ref D) "__getattribute__") (some (some (.builtin "BaseException.__getattribute__"))) && (He.eqO (PySem.W.findIn K (.ref D) "__getattr__") (some none) &&
  (decide (PySem.W.subIn K (.ref D) (.type "BaseException") = some true) && (PySem.W.hasDictIn K D && (He.eqO (PySem.W.findIn K (.ref D) "__class__") (some (some (.builtin "object.__class__"))) &&
  (He.eqO (PySem.W.specialIn K (.builtin "object.__class__") "__get__") (some (some (.builtin "getset_descriptor.__get__"))) && (decide (PySem.W.takesIn K (.builtin "object.__class__") = some true) && decide (PySem.W.mroIn K D (.type "object") = some true)))))))
theorem excB_ok {K : PySem.W.Frag} {D : Addr} (h : excB K D = true) : ExcC K D := by
  obtain ⟨h1, h⟩ := ands h
  obtain ⟨h2, h⟩ := ands h
  obtain ⟨h3, h⟩ := ands h
  obtain ⟨h4, h⟩ := ands h
  obtain ⟨h5, h⟩ := ands h
  obtain ⟨h6, h⟩ := ands h
  obtain ⟨h7, h8⟩ := ands h
  exact ⟨He.eqO_ok h1, He.eqO_ok h2, of_decide_eq_true h3, h4, He.eqO_ok h5, He.eqO_ok h6, of_decide_eq_true h7, of_decide_eq_true h8⟩
def dvOf : D → He.Dv
  | .bl b => .bl b
  | .int i => .int i
  | .str x => .str x
  | _ => .non
def glbB (K : PySem.W.Frag) (x : Str) : D → Bool
  | .int i => (He.Fa.int x i).ok K
  | .str z => (He.Fa.str x z).ok K
  | .seq true ds => (He.Fa.glo x).ok K && (ds.all D.flat && He.tupB K x (ds.map dvOf))
  | _ => false
def clsB (t : Tab) (K : PySem.W.Frag) (c : Nat) : Bool := match t.n.c[c]?, t.P.cls[c]? with
  | some x, some k => (He.Fa.glo x).ok K && ((k.fields.isEmpty && k.methods.isEmpty || (He.Fa.cls x).ok K) && (k.fields.all (fun f => match t.an[f]? with | some y => (He.Fa.noat x y).ok K | none => false) &&
      (k.methods.all (fun q => match t.an[q.1]?, t.defs[q.2]? with
        | some y, some d => decide (d.at_ = (x, some y)) && ((He.Fa.meth x y).ok K && (!(q.1 == t.P.init) || ((He.Fa.mkr x).ok K && decide (y = "__init__"))))
        | _, _ => false) &&
      (k.supers.isEmpty || ((He.Fa.exc x).ok K && (excB K (He.ga K x) && (List.range t.P.cls.length).all fun e => match t.n.c[e]?, t.P.cls[e]? with
        | some y, some k2 => k2.supers.isEmpty || ((He.Fa.exm x y (t.P.catches c e)).ok K && decide (PySem.W.kitOne K (.ref (He.ga K x)) (.ref (He.ga K y)) = some (t.P.catches c e)))
        | _, _ => true))))))
  | _, _ => false
def fnmB (t : Tab) (K : PySem.W.Frag) (f : Nat) : Bool := match t.n.f[f]? with
  | some (some x) => (match t.defs[f]? with | some d => decide (d.at_ = (x, none)) && (He.Fa.glo x).ok K | none => false)
  | _ => true
def bltN : List Str := ["abs", "all", "any", "dict", "enumerate", "int", "isinstance", "len", "list", "max", "min", "range", "reversed", "sorted", "str", "sum", "tuple", "zip", "bool"]
def goodB (t : Tab) (K : PySem.W.Frag) : Bool := (List.range t.P.cls.length).all (clsB t K) && ((List.range t.n.f.length).all (fnmB t K) && ((List.range t.n.g.length).all (fun k => match t.n.g[k]?, t.P.glb[k]? with
    | some x, some d => glbB K x d
    | _, _ => true) && bltN.all fun x => (He.Fa.free x).ok K))
/-! ### the binding -/
def Tab.bd (t : Tab) (prog : Program) (w : World) (K : PySem.W.Frag) (mg : Str → Option Value) (base : Heap) (fd : Nat → FuncData) : Bd :=
  ⟨t.P, prog, w, K, mg, base, fun c => He.ga K (t.n.c.getD c Str.empty), t.an, fun f => match t.defs[f]? with | some d => He.fAd K d.at_ | none => 0, fd, fun f => t.ps.getD f [], none, none⟩
def DefsAt (t : Tab) (K : PySem.W.Frag) (fd : Nat → FuncData) : Prop := ∀ f d, t.defs[f]? = some d → FunD K d.name d.qual d.params d.body d.scope (d.dvs K) (d.kws K) (He.fAd K d.at_) (fd f)
section
variable {t : Tab} {prog : Program} {w : World} {K : PySem.W.Frag} {mg : Str → Option Value} {base : Heap} {fd : Nat → FuncData}
theorem flat_RDs {B : Bd} {T : Tm} : ∀ {ds : List D}, ds.all D.flat = true → RDs B T ds ((ds.map dvOf).map (He.Dv.v K))
  | [], _ => rfl
  | d :: ds, z => by
    simp only [List.all_cons, Bool.and_eq_true] at z
    refine ⟨_, _, rfl, ?_, flat_RDs z.2⟩
    cases d with
    | non => rfl
    | bl _ => rfl
    | int _ => rfl
    | str _ => rfl
    | _ => exact absurd z.1 (by simp [D.flat])
theorem def_at (tb : tabB t = true) {f : Nat} (h : f < t.P.fns.length) : ∃ fn d N ps, t.P.fns[f]? = some fn ∧ t.defs[f]? = some d ∧ t.N[f]? = some N ∧ t.ps[f]? = some ps ∧ fn.params = ps.length ∧ fn.slots = N.length ∧ FnScope N ps d.scope ∧ (t.n.plain f = true → d.dfl = [] ∧ d.kwd = []) ∧ ckSs t.P t.an t.n fn.body ⟨N, d.scope, none, true, true⟩ d.body = true := by
  obtain ⟨_, h2⟩ := ands tb
  obtain ⟨_, h3⟩ := ands h2
  obtain ⟨h3, _⟩ := ands h3
  have q := List.all_eq_true.mp h3 f (List.mem_range.mpr h)
  unfold defB at q
  split at q
  · rename_i fn d N ps e1 e2 e3 e4
    obtain ⟨q1, q2⟩ := ands q
    obtain ⟨q1, q3⟩ := ands q1
    obtain ⟨q4, q6⟩ := ands q2
    obtain ⟨q6, q7⟩ := ands q6
    refine ⟨fn, d, N, ps, e1, e2, e3, e4, of_decide_eq_true q1, of_decide_eq_true q3, scopeB_ok q4, fun pl => ?_, q7⟩
    rw [pl] at q6
    obtain ⟨q6, q8⟩ := ands (show (d.dfl.isEmpty && d.kwd.isEmpty) = true from q6)
    exact ⟨List.isEmpty_iff.mp q6, List.isEmpty_iff.mp q8⟩
  · cases q
theorem binds_at (tb : tabB t = true) (bk : BindOk t) (da : DefsAt t K fd) {f : Nat} (h : f < t.P.fns.length) (pl : t.n.plain f = true) : Binds K (fd f) (t.ps.getD f []) [] := by
  obtain ⟨fn, d, N, ps, e1, e2, e3, e4, _, _, _, dd, _⟩ := def_at tb h
  obtain ⟨d1, d2⟩ := dd pl
  have F := da f d e2
  have e : d.dvs K = [] := by unfold He.DefD.dvs; rw [d1]; rfl
  rw [e] at F
  exact F.bindsN (bk f d pl e2)
/-- what is asked of the calls with defaults -/
def KeyOk (t : Tab) : Prop := ∀ e ∈ t.n.k, ∃ d, t.defs[e.1]? = some d ∧ e.2.2.2.all D.flat = true ∧ e.2.1 + (e.2.2.1.length + e.2.2.2.length) = (t.ps.getD e.1 []).length ∧
  ((d.dfl ≠ [] ∧ e.2.2.1 = [] ∧ ∃ j, e.2.2.2.map dvOf = d.dfl.drop j ∧ ∀ (T : Addr) (kV doc pm : Value) (an : Option Addr) (cdv ct : Value) (us its : List Value), us.length = e.2.1 → its.length = d.dfl.length →
      ∃ k, bindArgs (PySem.W.fnOf d.name d.qual d.params d.body d.scope (.ref T) kV doc pm an cdv ct) ⟨us, []⟩ = seqItems? (.ref T) >>= k ∧ k (some its.toArray) = pure ((t.ps.getD e.1 []).zip (us ++ its.drop j))) ∨
   (d.dfl = [] ∧ d.kwd ≠ [] ∧ ∃ ms : List (Str × He.Dv), (∀ q ∈ ms, q ∈ d.kwd) ∧ e.2.2.2.map dvOf = ms.map (·.2) ∧ ∀ (D : Addr) (doc pm : Value) (an : Option Addr) (cdv ct : Value) (us mv ws : List Value), us.length = e.2.1 → mv.length = ms.length → ws.length = e.2.2.1.length →
      KwChain D ((ms.map (·.1)).zip mv) (bindArgs (PySem.W.fnOf d.name d.qual d.params d.body d.scope .none (.ref D) doc pm an cdv ct) ⟨us, e.2.2.1.zip ws⟩) ((t.ps.getD e.1 []).zip (us ++ (ws ++ mv)))))
theorem dv_fl {K : PySem.W.Frag} : ∀ {ds : List D}, ds.all D.flat = true → (ds.map dvOf).map (He.Dv.v K) = ds.map flV
  | [], _ => rfl
  | d :: ds, z => by
    simp only [List.all_cons, Bool.and_eq_true] at z
    rw [List.map_cons, List.map_cons, List.map_cons, dv_fl z.2]
    cases d with
    | non => rfl
    | bl _ => rfl
    | int _ => rfl
    | str _ => rfl
    | _ => exact absurd z.1 (by simp [D.flat])
theorem vals_len {vs : List V} {us : List Value} (h : Vals vs us) : us.length = vs.length := h.length.symm
theorem key_at (kk : KeyOk t) (da : DefsAt t K fd) {f m : Nat} {ks : List Str} {ds : List D} (he : (f, m, ks, ds) ∈ t.n.k) : KbOk K (fd f) (t.ps.getD f []) m ks ds := by
  obtain ⟨d, hd, fl, hl, h⟩ := kk _ he
  dsimp only at hd fl hl h
  have F := da f d hd
  refine ⟨fl, ?_⟩
  rcases h with ⟨h1, rfl, j, hj, hb⟩ | ⟨h1, h2, ms, hms, hj, hb⟩
  · have e1 : (d.dvs K).drop j = ds.map flV := by
      rw [← dv_fl fl, hj]
      unfold He.DefD.dvs
      rw [List.map_drop]
    have ld : (d.dvs K).length = d.dfl.length := by unfold He.DefD.dvs; rw [List.length_map]
    obtain ⟨dv, r, b⟩ := F.binds1 (ps := t.ps.getD f []) m j (fun z => h1 (List.map_eq_nil_iff.mp z)) (by
      have := congrArg List.length e1
      rw [List.length_drop, List.length_map] at this
      simp only [List.length_nil] at hl
      omega) (fun T kV doc pm an cdv ct us its l1 l2 => hb T kV doc pm an cdv ct us its l1 (l2.trans ld))
    rw [e1] at r
    have l := vals_len r
    rw [List.length_map] at l
    refine ⟨dv, r, by rw [l]; exact hl, fun s us ws hi lu lw => ?_⟩
    obtain rfl : ws = [] := List.length_eq_zero_iff.mp lw
    refine b s us hi ?_
    rw [List.length_append, l, lu]
    simp only [List.length_nil] at hl
    omega
  · have ea : d.dvs K = [] := by unfold He.DefD.dvs; rw [h1]; rfl
    rw [ea] at F
    have e1 : (ms.map fun q => (q.1, q.2.v K)).map (·.2) = ds.map flV := by
      rw [← dv_fl fl, hj, List.map_map, List.map_map]
      rfl
    have e2 : (ms.map fun q => (q.1, q.2.v K)).map (·.1) = ms.map (·.1) := by
      rw [List.map_map]
      rfl
    obtain ⟨mv, kb⟩ := F.kbinds0 (ps := t.ps.getD f []) m ks (ms.map fun q => (q.1, q.2.v K)) (fun us mv ws => us ++ (ws ++ mv)) (fun z => h2 (List.map_eq_nil_iff.mp z)) (fun q hq => by
      obtain ⟨q', hq', rfl⟩ := List.mem_map.mp hq
      exact List.mem_map.mpr ⟨q', hms q' hq', rfl⟩) (fun r1 r2 r3 => r1.append (r3.append r2)) (fun D doc pm an cdv ct us mv ws l1 l2 l3 => by
      rw [e2]
      exact hb D doc pm an cdv ct us mv ws l1 (by rw [List.length_map] at l2; exact l2) l3)
    have r : Vals (ds.map flV) mv := by
      have := kb.rel (vs := []) (us := []) (zs := []) (ws := []) .nil .nil
      rw [e1] at this
      exact this
    have l := vals_len r
    rw [List.length_map] at l
    exact ⟨mv, r, by rw [l]; exact hl, fun s us ws hi lu lw => kb.to s us ws hi lu lw⟩
theorem defs_ok (tb : tabB t = true) (da : DefsAt t K fd) : DefsOk (t.bd prog w K mg base fd) t.n := by
  refine ⟨fun f fn hf => ?_⟩
  have hlt : f < t.P.fns.length := by
    rcases Nat.lt_or_ge f t.P.fns.length with l | l
    · exact l
    · have hf : t.P.fns[f]? = some fn := hf
      rw [List.getElem?_eq_none l] at hf
      cases hf
  obtain ⟨fn', d, N, ps, e1, e2, e3, e4, p1, p2, S, _, ck⟩ := def_at tb hlt
  have hf : t.P.fns[f]? = some fn := hf
  rw [e1] at hf
  cases hf
  have ep : t.ps.getD f [] = ps := by rw [List.getD_eq_getElem?_getD, e4]; rfl
  have F := da f d e2
  refine ⟨d.name, d.qual, d.params, d.body, d.scope, N, d.dvs K, d.kws K, ?_, ?_, p2.symm, ?_, ck⟩
  · show FunD K d.name d.qual d.params d.body d.scope (d.dvs K) (d.kws K) (match t.defs[f]? with | some d => He.fAd K d.at_ | none => 0) (fd f)
    rw [e2]
    exact F
  · show FnScope N (t.ps.getD f []) d.scope
    rw [ep]
    exact S
  · show (t.ps.getD f []).length = _
    rw [ep]
    exact p1.symm
theorem good_ok (tb : tabB t = true) {h : Heap} (KX : K.In h) (G : h.Ns mainGlobals mg) (gb : goodB t K = true) (bk : BindOk t) (kk : KeyOk t) (da : DefsAt t K fd) : Good (t.bd prog w K mg base fd) t.n := by
  obtain ⟨g1, g2⟩ := ands gb
  obtain ⟨g2, g3⟩ := ands g2
  obtain ⟨g3, g4⟩ := ands g3
  obtain ⟨t1, t2⟩ := ands tb
  obtain ⟨t2, t3⟩ := ands t2
  obtain ⟨_, t4⟩ := ands t3
  have t4 : t.defs.length = t.P.fns.length := of_decide_eq_true t4
  have cl : ∀ c k, t.P.cls[c]? = some k → ∃ x, t.n.c[c]? = some x ∧ t.n.c.getD c Str.empty = x ∧ clsB t K c = true := fun c k e => by
    have l : c < t.P.cls.length := by
      rcases Nat.lt_or_ge c t.P.cls.length with l | l
      · exact l
      · rw [List.getElem?_eq_none l] at e
        cases e
    have l2 : c < t.n.c.length := by rw [of_decide_eq_true t2]; exact l
    exact ⟨t.n.c[c], List.getElem?_eq_getElem l2, (by rw [List.getD_eq_getElem?_getD, List.getElem?_eq_getElem l2]; rfl), List.all_eq_true.mp g1 c (List.mem_range.mpr l)⟩
  have clx : ∀ c x, t.n.c[c]? = some x → ∃ k, t.P.cls[c]? = some k := fun c x e => by
    have l : c < t.n.c.length := by
      rcases Nat.lt_or_ge c t.n.c.length with l | l
      · exact l
      · rw [List.getElem?_eq_none l] at e
        cases e
    rw [of_decide_eq_true t2] at l
    exact ⟨t.P.cls[c], List.getElem?_eq_getElem l⟩
  have lt_of : ∀ f d, t.defs[f]? = some d → f < t.P.fns.length := fun f d e => by
    rw [← t4]
    rcases Nat.lt_or_ge f t.defs.length with l | l
    · exact l
    · rw [List.getElem?_eq_none l] at e
      cases e
  have body : ∀ c k x, t.P.cls[c]? = some k → t.n.c[c]? = some x → clsB t K c = true → (He.Fa.glo x).ok K = true ∧ (k.fields.isEmpty && k.methods.isEmpty || (He.Fa.cls x).ok K) = true ∧ (k.fields.all (fun f => match t.an[f]? with | some y => (He.Fa.noat x y).ok K | none => false)) = true ∧
      (k.methods.all (fun q => match t.an[q.1]?, t.defs[q.2]? with
        | some y, some d => decide (d.at_ = (x, some y)) && ((He.Fa.meth x y).ok K && (!(q.1 == t.P.init) || ((He.Fa.mkr x).ok K && decide (y = "__init__"))))
        | _, _ => false)) = true ∧
      (k.supers.isEmpty || ((He.Fa.exc x).ok K && (excB K (He.ga K x) && (List.range t.P.cls.length).all fun e => match t.n.c[e]?, t.P.cls[e]? with
        | some y, some k2 => k2.supers.isEmpty || ((He.Fa.exm x y (t.P.catches c e)).ok K && decide (PySem.W.kitOne K (.ref (He.ga K x)) (.ref (He.ga K y)) = some (t.P.catches c e)))
        | _, _ => true))) = true := fun c k x e1 e2 q => by
    unfold clsB at q
    rw [e1, e2] at q
    obtain ⟨q1, q2⟩ := ands q
    obtain ⟨q2, q3⟩ := ands q2
    obtain ⟨q3, q4⟩ := ands q3
    obtain ⟨q4, q5⟩ := ands q4
    exact ⟨q1, q2, q3, q4, q5⟩
  have mth_mem : ∀ c m f, t.P.mth c m = some f → ∃ k, t.P.cls[c]? = some k ∧ (m, f) ∈ k.methods := fun c m f e => by
    unfold Pg.mth at e
    split at e
    · rename_i k ek
      obtain ⟨q, h1, h2⟩ := Option.map_eq_some_iff.mp e
      have h3 := List.find?_some h1
      have h4 := List.mem_of_find?_eq_some h1
      obtain ⟨a, b⟩ := q
      have : a = m := by simpa using h3
      subst this
      have h2 : b = f := h2
      subst h2
      exact ⟨k, ek, h4⟩
    · cases e
  have meth_of : ∀ c m f x, t.P.mth c m = some f → t.an[m]? = some x → ∃ k y d, t.P.cls[c]? = some k ∧ t.n.c[c]? = some y ∧ t.n.c.getD c Str.empty = y ∧ t.defs[f]? = some d ∧ d.at_ = (y, some x) ∧ (He.Fa.cls y).ok K = true ∧ (He.Fa.meth y x).ok K = true ∧ (m = t.P.init → (He.Fa.mkr y).ok K = true ∧ x = "__init__") := fun c m f x e hx => by
    obtain ⟨k, ek, hm⟩ := mth_mem c m f e
    obtain ⟨y, y1, y2, q⟩ := cl c k ek
    obtain ⟨b1, b2, b3, b4, b5⟩ := body c k y ek y1 q
    have z := List.all_eq_true.mp b4 _ hm
    dsimp only at z
    rw [hx] at z
    split at z
    · rename_i y' d e1 e2
      cases e1
      obtain ⟨z1, z2⟩ := ands z
      obtain ⟨z2, z3⟩ := ands z2
      refine ⟨k, y, d, ek, y1, y2, e2, of_decide_eq_true z1, ?_, z2, fun em => ?_⟩
      · rcases Bool.or_eq_true_iff.mp b2 with q | q
        · obtain ⟨_, q2⟩ := ands q
          rw [List.isEmpty_iff.mp q2] at hm
          cases hm
        · exact q
      · subst em
        rcases Bool.or_eq_true_iff.mp z3 with q | q
        · simp at q
        · obtain ⟨q1, q2⟩ := ands q
          exact ⟨q1, of_decide_eq_true q2⟩
    · cases z
  have exc_of : ∀ c, t.P.isExc c = true → ∃ k y, t.P.cls[c]? = some k ∧ t.n.c[c]? = some y ∧ t.n.c.getD c Str.empty = y ∧ k.supers.isEmpty = false ∧ (He.Fa.exc y).ok K = true ∧ excB K (He.ga K y) = true ∧ ((List.range t.P.cls.length).all fun e => match t.n.c[e]?, t.P.cls[e]? with
        | some z, some k2 => k2.supers.isEmpty || ((He.Fa.exm y z (t.P.catches c e)).ok K && decide (PySem.W.kitOne K (.ref (He.ga K y)) (.ref (He.ga K z)) = some (t.P.catches c e)))
        | _, _ => true) = true := fun c hc => by
    unfold Pg.isExc at hc
    split at hc
    · rename_i k ek
      obtain ⟨y, y1, y2, q⟩ := cl c k ek
      obtain ⟨b1, b2, b3, b4, b5⟩ := body c k y ek y1 q
      have hs := nn hc
      rw [hs, Bool.false_or] at b5
      obtain ⟨c1, c2⟩ := ands b5
      obtain ⟨c2, c3⟩ := ands c2
      exact ⟨k, y, ek, y1, y2, hs, c1, c2, c3⟩
    · cases hc
  have fad : ∀ f d, t.defs[f]? = some d → (t.bd prog w K mg base fd).fad f = He.fAd K d.at_ := fun f d e => by
    show (match t.defs[f]? with | some d => He.fAd K d.at_ | none => 0) = _
    rw [e]
  refine ⟨of_decide_eq_true t1, fun c f x h hx => ?_, fun c m f x e hx => ?_, fun c f e => ?_, fun c x e => ?_, fun c hc => ?_, fun c hc => ?_, fun e c he hc => ?_, fun f x e => ?_, fun f m ks ds he => key_at kk da he, fun k x d e1 e2 => ?_, fun x hx => ?_⟩
  · have h : t.P.fldOk c f = true := h
    unfold Pg.fldOk at h
    split at h
    · rename_i k ek
      obtain ⟨y, y1, y2, q⟩ := cl c k ek
      obtain ⟨b1, b2, b3, b4, b5⟩ := body c k y ek y1 q
      have hm : f ∈ k.fields := by simpa using h
      have z := List.all_eq_true.mp b3 f hm
      have hx : t.an[f]? = some x := hx
      rw [hx] at z
      show Cls K (He.ga K (t.n.c.getD c Str.empty)) ∧ NoAttr K (He.ga K (t.n.c.getD c Str.empty)) x
      rw [y2]
      refine ⟨?_, He.noat_ok z⟩
      rcases Bool.or_eq_true_iff.mp b2 with q | q
      · obtain ⟨q1, _⟩ := ands q
        rw [List.isEmpty_iff.mp q1] at hm
        cases hm
      · exact He.cls_ok q
    · cases h
  · obtain ⟨k, y, d, ek, y1, y2, e2, ea, c1, c2, _⟩ := meth_of c m f x e hx
    rw [fad f d e2, ea]
    show Cls K (He.ga K (t.n.c.getD c Str.empty)) ∧ Meth K (He.ga K (t.n.c.getD c Str.empty)) x (He.ma K (He.ga K y) x) ∧ (t.n.plain f = true → Binds K (fd f) (t.ps.getD f []) [])
    rw [y2]
    exact ⟨He.cls_ok c1, He.meth_ok c2, binds_at tb bk da (lt_of f d e2)⟩
  · obtain ⟨k, ek, hm⟩ := mth_mem c t.P.init f e
    obtain ⟨y, y1, y2, q⟩ := cl c k ek
    obtain ⟨b1, b2, b3, b4, b5⟩ := body c k y ek y1 q
    have z := List.all_eq_true.mp b4 _ hm
    dsimp only at z
    split at z
    · rename_i x d e1 e2
      obtain ⟨k', y', d', ek', y1', y2', e2', ea, c1, c2, c3⟩ := meth_of c t.P.init f x e e1
      obtain ⟨c4, rfl⟩ := c3 rfl
      rw [fad f d' e2', ea]
      show Mk K (He.ga K (t.n.c.getD c Str.empty)) (He.ma K (He.ga K y') "__init__") ∧ (t.n.plain f = true → Binds K (fd f) (t.ps.getD f []) [])
      rw [y2']
      exact ⟨He.mkr_ok c4, binds_at tb bk da (lt_of f d' e2')⟩
    · cases z
  · obtain ⟨k, ek⟩ := clx c x e
    obtain ⟨y, y1, y2, q⟩ := cl c k ek
    rw [e] at y1
    cases y1
    obtain ⟨b1, _⟩ := body c k x ek e q
    show mg x = some (.ref (He.ga K (t.n.c.getD c Str.empty)))
    rw [y2]
    exact He.glo_ok KX G b1
  · obtain ⟨k, y, ek, y1, y2, _, c1, c2, c3⟩ := exc_of c hc
    show PySem.W.excIn K (He.ga K (t.n.c.getD c Str.empty)) He.veBase "ValueError.__new__" = true ∧ PySem.W.keepIn K (.ref (He.ga K (t.n.c.getD c Str.empty))) = true ∧ PySem.W.subIn K (.ref (He.ga K (t.n.c.getD c Str.empty))) (.type "BaseException") = some true ∧ PySem.W.typeIn K (.ref (He.ga K (t.n.c.getD c Str.empty))) = some (.type "type")
    rw [y2]
    exact He.exc_ok c1
  · obtain ⟨k, y, ek, y1, y2, _, c1, c2, c3⟩ := exc_of c hc
    show ExcC K (He.ga K (t.n.c.getD c Str.empty))
    rw [y2]
    exact excB_ok c2
  · obtain ⟨k, y, ek, y1, y2, _, c1, c2, c3⟩ := exc_of e he
    obtain ⟨k', y', ek', y1', y2', hs', _, _, _⟩ := exc_of c hc
    have l : c < t.P.cls.length := by
      rcases Nat.lt_or_ge c t.P.cls.length with l | l
      · exact l
      · rw [List.getElem?_eq_none l] at ek'
        cases ek'
    have z := List.all_eq_true.mp c3 c (List.mem_range.mpr l)
    rw [y1', ek'] at z
    dsimp only at z
    rw [hs', Bool.false_or] at z
    obtain ⟨z1, z2⟩ := ands z
    show PySem.W.exmOne K (.ref (He.ga K (t.n.c.getD e Str.empty))) (.ref (He.ga K (t.n.c.getD c Str.empty))) = some (t.P.catches e c) ∧ PySem.W.kitOne K (.ref (He.ga K (t.n.c.getD e Str.empty))) (.ref (He.ga K (t.n.c.getD c Str.empty))) = some (t.P.catches e c)
    rw [y2, y2']
    exact ⟨He.exm_ok z1, of_decide_eq_true z2⟩
  · have l : f < t.n.f.length := by
      rcases Nat.lt_or_ge f t.n.f.length with l | l
      · exact l
      · rw [List.getElem?_eq_none l] at e
        cases e
    have z := List.all_eq_true.mp g2 f (List.mem_range.mpr l)
    unfold fnmB at z
    rw [e] at z
    dsimp only at z
    split at z
    · rename_i d ed
      obtain ⟨z1, z2⟩ := ands z
      have ea : d.at_ = (x, none) := of_decide_eq_true z1
      rw [fad f d ed, ea]
      have F := da f d ed
      rw [ea] at F
      exact ⟨He.glo_ok KX G z2, F.kp, binds_at tb bk da (lt_of f d ed)⟩
    · cases z
  · have l : k < t.n.g.length := by
      rcases Nat.lt_or_ge k t.n.g.length with l | l
      · exact l
      · rw [List.getElem?_eq_none l] at e1
        cases e1
    have z := List.all_eq_true.mp g3 k (List.mem_range.mpr l)
    have e2 : t.P.glb[k]? = some d := e2
    rw [e1, e2] at z
    dsimp only at z
    unfold glbB at z
    split at z
    · obtain ⟨tk, e⟩ := He.int_ok KX G z
      exact ⟨_, .int _, e, ⟨tk, rfl⟩, fun _ => rfl⟩
    · obtain ⟨tk, e⟩ := He.str_ok KX G z
      exact ⟨_, .str _, e, ⟨tk, rfl⟩, fun _ => rfl⟩
    · rename_i ds _
      obtain ⟨z1, z2⟩ := ands z
      obtain ⟨z2, z3⟩ := ands z2
      have sq : Wr K true (He.ga K x) ((ds.map dvOf).map (He.Dv.v K)) := by
        unfold Wr
        rw [if_pos rfl]
        exact He.tupB_ok z3 _
      refine ⟨_, .ref (He.ga K x), He.glo_ok KX G z1, rfl, fun T => ⟨He.ga K x, (ds.map dvOf).map (He.Dv.v K), rfl, .inr sq, ?_⟩⟩
      exact flat_RDs z2
    · cases z
  · exact He.free_ok KX G (List.all_eq_true.mp g4 x hx)
end
end Vb

set_option maxHeartbeats 4000000
/-! The plain layer, part 17: the head, the law. -/
namespace Vb
open PySem L2
def obsV (chk : PySem.W.Frag → Bool) (fn : List He.DefD) (K : PySem.W.Frag) : He.AlD := (chk K && fn.all fun d => d.ok K, fn.map fun d => He.fnW K d.at_)
def SaysV (chk : PySem.W.Frag → Bool) (fn : List He.DefD) (K : PySem.W.Frag) : Prop := obsV chk fn K = He.valD fn
def obsVG (n : Nat) (chk : PySem.W.Frag → Bool) (fn : List He.DefD) (g : Addr → Option Obj) : He.AlD := obsV chk fn (He.frG g (He.asD g n))
def hookV (n : Nat) (chk : PySem.W.Frag → Bool) (fn : List He.DefD) : PySem.W.Hook where
  α := He.AlD
  obs := fun s => obsVG n chk fn s.heap.get?
  val := fun _ => He.valD fn
  says := fun _ h => ∃ K : PySem.W.Frag, K.In h ∧ SaysV chk fn K
  of := fun _ _ e => ⟨_, He.frG_in, e⟩
  keeps := fun _ _ _ ⟨K, hK, c⟩ k => ⟨K, PySem.W.Frag.In.keeps hK k, c⟩
theorem obsVG_eq {n : Nat} {chk : PySem.W.Frag → Bool} {fn : List He.DefD} {g : Addr → Option Obj} {s : Shared} (h : ∀ a, g a = s.heap.get? a) : obsVG n chk fn g = (hookV n chk fn).obs s := by
  have e : g = s.heap.get? := funext h
  rw [e] <;> rfl
theorem SaysV.chk {chk : PySem.W.Frag → Bool} {fn : List He.DefD} {K : PySem.W.Frag} (c : SaysV chk fn K) : chk K = true :=
  (ands (show (chk K && fn.all fun d => d.ok K) = true from congrArg (fun z : He.AlD => z.1) c)).1
theorem SaysV.def_ {chk : PySem.W.Frag → Bool} {fn : List He.DefD} {K : PySem.W.Frag} (c : SaysV chk fn K) {i : Nat} {d : He.DefD} (h : fn[i]? = some d) : ∃ fd, FunD K d.name d.qual d.params d.body d.scope (d.dvs K) (d.kws K) (He.fAd K d.at_) fd := by
  have c2 := (ands (show (chk K && fn.all fun d => d.ok K) = true from congrArg (fun z : He.AlD => z.1) c)).2
  have e : fn.map (fun d => He.fnW K d.at_) = fn.map He.DefD.val := congrArg (fun z : He.AlD => z.2) c
  have e2 : (fn.map fun d => He.fnW K d.at_)[i]? = (fn.map He.DefD.val)[i]? := by rw [e]
  rw [List.getElem?_map, List.getElem?_map, h] at e2
  exact He.DefD.funD (Option.some.inj e2) (List.all_eq_true.mp c2 d (List.mem_of_getElem? h))
/-- the law's plain form -/
def PlainLaw (P : Pg) (m f : Nat) : Prop := ∀ ns : List Int, ns.length ≤ 63 → wCall P m f [.giv ns] (fun _ => none) (fun d _ => d = .bl true) (fun _ _ => False)
theorem law_F {t : Tab} {prog : Program} (tb : tabB t = true) (bk : BindOk t) (kk : KeyOk t) {f m nn : Nat} {d : He.DefD} {nm x : Str} (hd : t.defs[f]? = some d) (hat : d.at_ = (nm, none)) (hnf : t.n.f[f]? = some (some nm)) (hps : t.ps.getD f [] = [x]) (pf : t.n.plain f = true) (pl : PlainLaw t.P m f) :
    ∀ (w : World) (mg : Str → Option Value) (fa : Addr) (h : Heap), (hookV nn (goodB t) t.defs).says w h → h.Ns mainGlobals mg → mg nm = some (.ref fa) →
      ∃ (K : PySem.W.Frag) (fd : FuncData) (sp : Sp), K.In h ∧ (∀ (s : Shared) (u : Value), BindsTo s fd ⟨[u], []⟩ [(x, u)]) ∧
        (∀ (H : Hp) (a : Addr) (ns : List Int), ns.length ≤ 63 → Only H → SqL K H a (ns.map V.int) → sp [.ref a] H (fun v _ => v = .bl true) fun _ _ _ => False) ∧
        ∀ base : Heap, K.In base → base.Ns mainGlobals mg → FnOk prog w K mg base (L2N.CX prog w) (2 * m) fa fd [x] sp := by
  intro w mg fa h Y G hmg
  obtain ⟨K, KX, c⟩ := Y
  have hF : ∀ i : Nat, ∃ fd : FuncData, ∀ d : He.DefD, t.defs[i]? = some d → FunD K d.name d.qual d.params d.body d.scope (d.dvs K) (d.kws K) (He.fAd K d.at_) fd := fun i => by
    cases e : t.defs[i]? with
    | none =>
      obtain ⟨fd, _⟩ := c.def_ hd
      exact ⟨fd, fun d e' => by cases e'⟩
    | some d' =>
      obtain ⟨fd, F⟩ := c.def_ e
      exact ⟨fd, fun d e' => by cases e'; exact F⟩
  let fds : Nat → FuncData := fun i => (hF i).choose
  have da : DefsAt t K fds := fun i d e => (hF i).choose_spec d e
  have gb := c.chk
  have Gd0 := good_ok (prog := prog) (w := w) (base := h) tb KX G gb bk kk da
  obtain ⟨q1, q2, _⟩ := Gd0.fn f nm hnf
  have efa : fa = He.fAd K d.at_ := by
    have e : (t.bd prog w K mg h fds).fad f = He.fAd K d.at_ := by
      show (match t.defs[f]? with | some d => He.fAd K d.at_ | none => 0) = _
      rw [hd]
    rw [← e]
    have := hmg.symm.trans q1
    cases this
    rfl
  refine ⟨K, fds f, fun vs H Q E => ∀ base, spC (t.bd prog w K mg base fds) (wCall t.P m) f vs H Q E, KX, fun s u => ?_, fun H a ns hl hO hS base => ?_, fun base KB GB => ?_⟩
  · have F := da f d hd
    have hlt : f < t.P.fns.length := by
      obtain ⟨_, t2⟩ := ands tb
      obtain ⟨_, t3⟩ := ands t2
      obtain ⟨_, t4⟩ := ands t3
      rw [← of_decide_eq_true t4]
      rcases Nat.lt_or_ge f t.defs.length with l | l
      · exact l
      · rw [List.getElem?_eq_none l] at hd
        cases hd
    obtain ⟨fn, d', N, ps, e1, e2, e3, e4, _, _, _, dd, _⟩ := def_at tb hlt
    rw [hd] at e2
    cases e2
    obtain ⟨d1, d2⟩ := dd pf
    have e : d.dvs K = [] := by unfold He.DefD.dvs; rw [d1]; rfl
    rw [e] at F
    have b := F.bindsA (ps := t.ps.getD f []) (bk f d pf hd) s [u] (by rw [hps]; rfl)
    rw [hps] at b
    exact b
  · refine ⟨⟨fun b => (H b).map .fz, none⟩, fun _ => none, [.giv ns], _, _, ⟨rfl, rfl, fun b u e => ?_, fun b u e => ?_, fun b tg e => ?_, fun b b' i e _ => ?_, fun b i e => ?_, fun i o e => ?_, fun j s e => ?_⟩, ⟨_, _, rfl, ⟨a, rfl, ?_⟩, rfl⟩, pl ns hl, fun d g' T' H' v _ _ rd hk => ?_, fun c g' T' H' _ _ hk => ?_⟩
    · obtain ⟨u', h1, h2⟩ := Option.map_eq_some_iff.mp e
      cases h2
      exact h1
    · obtain ⟨u', h1, h2⟩ := Option.map_eq_some_iff.mp e
      cases h2
    · obtain ⟨u', h1, h2⟩ := Option.map_eq_some_iff.mp e
      exact ⟨u', h1⟩
    · obtain ⟨u', h1, h2⟩ := Option.map_eq_some_iff.mp e
      cases h2
    · obtain ⟨u', h1, h2⟩ := Option.map_eq_some_iff.mp e
      cases h2
    · cases e
    · simp at e
    · rcases hS with (h1 | ⟨o, h1⟩) | h1
      · exact .inl ⟨_, by show (H a).map Tag.fz = _; rw [h1]; rfl, .inl rfl⟩
      · exact .inl ⟨_, by show (H a).map Tag.fz = _; rw [h1]; rfl, .inr ⟨o, rfl⟩⟩
      · exact .inr (.inr h1)
    · rw [hk] at rd
      exact rd
    · exact hk.elim
  · have Gd := good_ok (prog := prog) (w := w) (base := base) tb KB GB gb bk kk da
    have F := (fns_all Gd rfl rfl (defs_ok (mg := mg) tb da) m).ok f
    have e : (t.bd prog w K mg base fds).fad f = fa := by
      rw [efa]
      show (match t.defs[f]? with | some d => He.fAd K d.at_ | none => 0) = _
      rw [hd]
    rw [e] at F
    have e2 : (t.bd prog w K mg base fds).ps f = [x] := hps
    rw [e2] at F
    exact F.imp fun vs H Q E q => q base
/-- what is wished never comes by an exception -/
theorem no_exc {prog : Program} {w : World} (H : Hp) (s : Shared) (e : Value) (s' : Shared) (h : L2N.CX prog w [] H s (fun _ _ _ => False) e s') : False := by
  obtain ⟨_, _, _, _, _, _, _, _, _, _, _, _, z⟩ := h
  exact z
/-- the walk, where what is let out may speak of the world -/
theorem walk_V {l : PySem.W.OpenLaw} {most k : Nat} {q : Program} {loose : List Str} {XP : (Str → Option Value) → Heap → Prop} {YP : World → Heap → Prop} {d : DefRec} {x : Str} (h1 : l.most = some most) (h2 : most ≤ sizeLine) (h3 : d.params.defaults = []) (h4 : Room k callerA)
    (F : ∀ (w : World) (mg : Str → Option Value) (fa : Addr) (h : Heap), YP w h → h.Ns mainGlobals mg → mg d.name = some (.ref fa) → ∃ (K : PySem.W.Frag) (fd : FuncData) (sp : Sp), K.In h ∧ (∀ (s : Shared) (u : Value), BindsTo s fd ⟨[u], []⟩ [(x, u)]) ∧
      (∀ (H : Hp) (a : Addr) (ns : List Int), ns.length ≤ most → Only H → SqL K H a (ns.map V.int) → sp [.ref a] H (fun v _ => v = .bl true) fun _ _ _ => False) ∧
      ∀ base : Heap, K.In base → base.Ns mainGlobals mg → FnOk l.prog w K mg base (L2N.CX l.prog w) k fa fd [x] sp) :
    PySem.W.WalkO q loose XP YP l.row.toRowW d [] (fun f vs => PySem.call f vs) := by
  refine Att.attach_call h1 h3 fun w sa sb mg mb fa o pm cd doc a vs ns Gr Yr ho hd hcd hm hob hin hle hgn => ?_
  obtain ⟨K, fd, sp, KX, bn, ps, fo⟩ := F w mg fa _ Yr Gr.T.g hm
  exact law_call KX Gr.T.g Gr.T.b Gr.T.builtins Gr.T.nolimit hgn hob hin (Nat.le_trans hle h2) h4 fo bn (fun H q1 q2 => ps H a ns hle q1 q2) fun H e s' z => no_exc H sb e s' z
end Vb

set_option maxHeartbeats 4000000
/-! The plain layer, part 18: reckoning with the small language's programs. -/
namespace Vb
open PySem
section
variable {P : Pg} {C : Call}
/-! ### statements, one by one -/
theorem st_nil {r : Rho} {g : G} {K : Ks} (h : K .nx r g) : wSs P C .nil r g K := h
theorem st_set {i : Nat} {e : E} {ss : Ss} {r : Rho} {g : G} {K : Ks} (d : D) (h : evE P e r g = some d) (k : wSs P C ss (r.set i (some (.val d))) g K) : wSs P C (.cons (.set i e) ss) r g K := evE_ok e h k
/-- a new list, named j, into a slot -/
theorem st_al {i : Nat} {c : Cr} {ss : Ss} {r : Rho} {g : G} {K : Ks} (xs : List D) (j : Id) (h : evC P c r g = some xs) (nj : g j = none) (k : wSs P C ss (r.set i (some (.val (.ref j)))) (up g j (.ct (.lst xs))) K) : wSs P C (.cons (.set i (.al c)) ss) r g K := evC_ok c h ⟨j, nj, k⟩
theorem st_call {i f : Nat} {es : Es} {ss : Ss} {r : Rho} {g : G} {K : Ks} (ds : List D) (h : evEs P es r g = some ds) (k : C f ds g (fun d g1 => wSs P C ss (r.set i (some (.val d))) g1 K) fun c g1 => K (.exc c) r g1) : wSs P C (.cons (.set i (.call f es)) ss) r g K := evEs_ok es h k
theorem st_ret {e : E} {ss : Ss} {r : Rho} {g : G} {K : Ks} (d : D) (h : evE P e r g = some d) (k : K (.ret d) r g) : wSs P C (.cons (.ret e) ss) r g K := evE_ok e h k
theorem st_if {c : E} {a b ss : Ss} {r : Rho} {g : G} {K : Ks} (z : Bool) (h : evE P c r g = some (.bl z)) (k1 : z = true → wSs P C a r g fun o r1 g1 => match o with | .nx => wSs P C ss r1 g1 K | o => K o r1 g1)
    (k2 : z = false → wSs P C b r g fun o r1 g1 => match o with | .nx => wSs P C ss r1 g1 K | o => K o r1 g1) : wSs P C (.cons (.ifs c a b) ss) r g K := by
  refine evE_ok c h ?_
  show (if z = true then _ else _)
  cases z with
  | true => exact k1 rfl
  | false => exact k2 rfl
/-- l[k] = e, l an object -/
theorem st_seti {p : Pl} {k e : E} {ss : Ss} {r : Rho} {g : G} {K : Ks} (d : D) (j : Id) (xs : List D) (i : Int) (m : Nat) (h1 : evE P e r g = some d) (h2 : evP P p r g = some (.obj j, .seq false xs)) (hg : g j = some (.ct (.lst xs))) (h3 : evE P k r g = some (.int i)) (h4 : idxN i xs.length = some m)
    (q : wSs P C ss r (up g j (.ct (.lst (xs.set m d)))) K) : wSs P C (.cons (.seti p k e) ss) r g K := by
  refine evE_ok e h1 (evP_ok p h2 (evE_ok k h3 ?_))
  show (match idxN i xs.length with | some n => Src.ok xs r g (.obj j) ∧ putP (.obj j) (xs.set n d) r g _ | none => False)
  rw [h4]
  exact ⟨hg, q⟩
/-- l.append(e), l an object -/
theorem st_app {p : Pl} {e : E} {ss : Ss} {r : Rho} {g : G} {K : Ks} (d : D) (j : Id) (xs : List D) (h2 : evP P p r g = some (.obj j, .seq false xs)) (hg : g j = some (.ct (.lst xs))) (h1 : evE P e r g = some d) (hl : xs.length < lineN)
    (q : wSs P C ss r (up g j (.ct (.lst (xs ++ [d])))) K) : wSs P C (.cons (.app p e) ss) r g K := by
  refine evP_ok p h2 (evE_ok e h1 ?_)
  exact ⟨by simp [Src.notFld], hl, hg, q⟩
/-- o.f = e -/
theorem st_setf {o : E} {f : Nat} {e : E} {ss : Ss} {r : Rho} {g : G} {K : Ks} (d : D) (i : Id) (c : Nat) (fs : List (Nat × Sl)) (h1 : evE P e r g = some d) (h2 : evE P o r g = some (.ref i)) (hg : g i = some (.ins c fs)) (hf : P.fldOk c f = true) (hl : fs.length < 1000)
    (q : wSs P C ss r (up g i (.ins c (putS f (.val d) fs))) K) : wSs P C (.cons (.setf o f e) ss) r g K := by
  refine evE_ok e h1 (evE_ok o h2 ?_)
  show (match g i with | some (.ins c fs) => P.fldOk c f = true ∧ fs.length < 1000 ∧ _ | _ => False)
  rw [hg]
  exact ⟨hf, hl, q⟩
/-- o.f = a new list, named j -/
theorem st_setfal {o : E} {f : Nat} {c : Cr} {ss : Ss} {r : Rho} {g : G} {K : Ks} (xs : List D) (j i : Id) (cl : Nat) (fs : List (Nat × Sl)) (h1 : evC P c r g = some xs) (nj : g j = none) (h2 : evE P o r (up g j (.ct (.lst xs))) = some (.ref i)) (hg : up g j (.ct (.lst xs)) i = some (.ins cl fs)) (hf : P.fldOk cl f = true) (hl : fs.length < 1000)
    (q : wSs P C ss r (up (up g j (.ct (.lst xs))) i (.ins cl (putS f (.val (.ref j)) fs))) K) : wSs P C (.cons (.setf o f (.al c)) ss) r g K := by
  refine evC_ok c h1 ⟨j, nj, evE_ok o h2 ?_⟩
  show (match up g j (.ct (.lst xs)) i with | some (.ins c fs) => P.fldOk c f = true ∧ fs.length < 1000 ∧ _ | _ => False)
  rw [hg]
  exact ⟨hf, hl, q⟩
/-- o.m(..) -/
theorem ev_meth {m f : Nat} {o : E} {es : Es} {r : Rho} {g : G} {K : Kd} {X : Kx} (i : Id) (c : Nat) (fs : List (Nat × Sl)) (ds : List D) (h1 : evE P o r g = some (.ref i)) (hg : g i = some (.ins c fs)) (hm : P.mth c m = some f) (hf : getS m fs = none) (h2 : evEs P es r g = some ds) (q : C f (.ref i :: ds) g K X) : wE P C (.meth m o es) r g K X := by
  refine evE_ok o h1 ?_
  show (match g i with
        | some (.ins c fs) => (match P.mth c m with
          | some f => getS m fs = none ∧ wEs P C es r g (fun ds g2 => C f (.ref i :: ds) g2 K X) X
          | none => False)
        | _ => False)
  rw [hg]
  show (match P.mth c m with
          | some f => getS m fs = none ∧ wEs P C es r g (fun ds g2 => C f (.ref i :: ds) g2 K X) X
          | none => False)
  rw [hm]
  exact ⟨hf, evEs_ok es h2 q⟩
theorem ev_call {f : Nat} {es : Es} {r : Rho} {g : G} {K : Kd} {X : Kx} (ds : List D) (h : evEs P es r g = some ds) (q : C f ds g K X) : wE P C (.call f es) r g K X := evEs_ok es h q
/-! ### loops -/
/-- a for loop by an invariant -/
theorem for_inv {src : Ws} {t : Tg} {body : Rho → G → Ks → Prop} {K : Ks} (I : Nat → Rho → G → Prop) : ∀ (xs all : List D) (n : Nat) (r : Rho) (g : G), all.drop n = xs → n ≤ all.length → I n r g → (∀ n r g, I n r g → src.ok g) →
    (∀ (n : Nat) (x : D) (r : Rho) (g : G) (Kc : Ks), all[n]? = some x → I n r g → (∀ r2 g2, I (n + 1) r2 g2 → Kc .nx r2 g2 ∧ Kc .cnt r2 g2) → (∀ r2 g2, K .nx r2 g2 → Kc .brk r2 g2) → (∀ d r2 g2, K (.ret d) r2 g2 → Kc (.ret d) r2 g2) → (∀ c r2 g2, K (.exc c) r2 g2 → Kc (.exc c) r2 g2) →
      ∃ r1, bindT t x r = some r1 ∧ body r1 g Kc) → (∀ r g, I all.length r g → K .nx r g) → wFor src t body xs r g K
  | [], all, n, r, g, hd, hn, hi, ok, _, he => by
    have hl : all.length ≤ n := by
      rcases Nat.lt_or_ge n all.length with l | l
      · have := congrArg List.length hd
        simp at this
        omega
      · exact l
    have q : n = all.length := by omega
    subst q
    exact ⟨ok _ _ _ hi, he _ _ hi⟩
  | x :: xs, all, n, r, g, hd, hn, hi, ok, st, he => by
    have hx : all[n]? = some x := by
      have := congrArg (fun l => l[0]?) hd
      simpa using this
    refine ⟨ok _ _ _ hi, ?_⟩
    have hd' : all.drop (n + 1) = xs := by
      rw [← List.drop_drop, hd]
      rfl
    have hn' : n + 1 ≤ all.length := by
      rcases Nat.lt_or_ge n all.length with l | l
      · exact l
      · rw [List.getElem?_eq_none l] at hx
        cases hx
    obtain ⟨r1, h1, h2⟩ := st n x r g (fun o r2 g2 => match o with
      | .nx => wFor src t body xs r2 g2 K
      | .cnt => wFor src t body xs r2 g2 K
      | .brk => K .nx r2 g2
      | .ret d => K (.ret d) r2 g2
      | .exc c => K (.exc c) r2 g2) hx hi (fun r2 g2 h => ⟨for_inv I xs all (n + 1) r2 g2 hd' hn' h ok st he, for_inv I xs all (n + 1) r2 g2 hd' hn' h ok st he⟩) (fun r2 g2 h => h) (fun d r2 g2 h => h) (fun c r2 g2 h => h)
    rw [h1]
    exact h2
end
end Vb

set_option maxHeartbeats 4000000
/-! The plain layer, part 19: the draws that all laws share. -/
namespace Vb
open PySem
def potB : Ss :=
 (.cons (.set 1 (.con (.int 1)))
 (.cons (.for_ (.slot 2) (.pl (.v (.var 0)))
  (.cons (.set 1 (.bin .mod (.bi .int1 (.cons (.bin .add (.bin .mul (.var 1) (.con (.int 31))) (.var 2)) .nil)) (.con (.int 2147483647))))
  .nil))
 (.cons (.ret (.al (.lst (.cons (.fz (.tolist (.v (.var 0)))) (.cons (.con (.int 0)) (.cons (.con (.int 0)) (.cons (.var 1) .nil)))))))
 .nil)))
def nextB : Ss :=
 (.cons (.ifs (.bo true (.cons (.cmp .eq (.idx (.v (.var 0)) (.con (.int 2))) (.con (.int 0))) (.cons (.cmp .lt (.idx (.v (.var 0)) (.con (.int 1))) (.len (.v (.idx (.v (.var 0)) (.con (.int 0)))))) .nil)))
  (.cons (.set 3 (.bi .abs (.cons (.bi .int1 (.cons (.idx (.v (.idx (.v (.var 0)) (.con (.int 0)))) (.idx (.v (.var 0)) (.con (.int 1)))) .nil)) .nil)))
  (.cons (.seti (.v (.var 0)) (.con (.int 1)) (.bin .add (.idx (.v (.var 0)) (.con (.int 1))) (.con (.int 1))))
  (.cons (.ifs (.cmp .lt (.var 3) (.bin .pow (.con (.int 10)) (.con (.int 18))))
   (.cons (.ret (.bin .mod (.bi .int1 (.cons (.var 3) .nil)) (.var 1)))
   .nil)
   .nil)
  (.cons (.seti (.v (.var 0)) (.con (.int 2)) (.var 3))
  .nil))))
  .nil)
 (.cons (.ifs (.cmp .gt (.idx (.v (.var 0)) (.con (.int 2))) (.con (.int 0)))
  (.cons (.set 4 (.bin .mod (.bi .int1 (.cons (.idx (.v (.var 0)) (.con (.int 2))) .nil)) (.var 1)))
  (.cons (.seti (.v (.var 0)) (.con (.int 2)) (.bin .fdiv (.idx (.v (.var 0)) (.con (.int 2))) (.var 1)))
  (.cons (.ret (.var 4))
  .nil)))
  .nil)
 (.cons (.seti (.v (.var 0)) (.con (.int 3)) (.bin .mod (.bi .int1 (.cons (.bin .add (.bin .mul (.idx (.v (.var 0)) (.con (.int 3))) (.con (.int 48271))) (.con (.int 12345))) .nil)) (.con (.int 2147483647))))
 (.cons (.set 2 (.bin .mod (.bi .int1 (.cons (.bin .add (.bin .mul (.idx (.v (.var 0)) (.con (.int 3))) (.con (.int 69621))) (.bin .fdiv (.idx (.v (.var 0)) (.con (.int 3))) (.con (.int 127)))) .nil)) (.con (.int 2147483629))))
 (.cons (.ret (.bin .mod (.bi .int1 (.cons (.var 2) .nil)) (.var 1)))
 .nil)))))
def nextT : Ss := match nextB with
  | .cons _ t => t
  | _ => .nil
/-- the pot as it lies -/
def potC (ns : List Int) (p : Nat) (b s : Int) : Ob := .ct (.lst [.seq false (ns.map .int), .int (p : Int), .int b, .int s])
theorem up_up (g : G) (i : Id) (a b : Ob) : up (up g i a) i b = up g i b := by
  funext j
  simp only [up]
  split <;> rfl
theorem fm0 (a : Int) {l : Int} (h : 0 < l) : 0 ≤ a.fmod l := Int.fmod_nonneg_of_pos a h
theorem fm1 (a : Int) {l : Int} (h : 0 < l) : a.fmod l < l := Int.fmod_lt_of_pos a h
section
variable {P : Pg} {C : Call}
theorem next_tail (i : Id) (ns : List Int) (p : Nat) (b s l : Int) (hl : 0 < l) (hl2 : l < 1073741824) (g : G) (hg : g i = some (potC ns p b s)) (hb : 0 ≤ b) (hs : 0 ≤ s) (hs2 : s < 2147483647) (x : Option Sl) (K : Ks)
    (hK : ∀ (v b' s' : Int) (r : Rho), 0 ≤ v → v < l → 0 ≤ b' → 0 ≤ s' → s' < 2147483647 → K (.ret (.int v)) r (up g i (potC ns p b' s'))) : wSs P C nextT [some (.val (.ref i)), some (.val (.int l)), none, x, none] g K := by
  unfold potC at hg
  show wSs P C (.cons (.ifs _ _ _) _) _ _ _
  by_cases h0 : 0 < b
  · refine st_if true ?_ (fun _ => ?_) (fun z => by cases z)
    · simp [evE, evP, cvOf, hg, srcOf, Ct.cv, idxV, L2.atI, L2.ixN, cmV, h0]
    refine st_set (.int (b.fmod l)) ?_ ?_
    · simp [evE, evEs, evP, cvOf, hg, srcOf, Ct.cv, idxV, L2.atI, L2.ixN, biV, opV]
      omega
    refine st_seti (.int (b.fdiv l)) i _ 2 2 ?_ ?_ hg rfl rfl ?_
    · simp [evE, evEs, evP, cvOf, hg, srcOf, Ct.cv, idxV, L2.atI, L2.ixN, opV]
      omega
    · simp [evE, evP, cvOf, hg, srcOf, Ct.cv]
    refine st_ret (.int (b.fmod l)) (by simp [evE]) ?_
    exact hK (b.fmod l) (b.fdiv l) s _ (fm0 b hl) (fm1 b hl) (Int.fdiv_nonneg hb (by omega)) hs hs2
  · refine st_if false ?_ (fun z => by cases z) (fun _ => ?_)
    · simp [evE, evP, cvOf, hg, srcOf, Ct.cv, idxV, L2.atI, L2.ixN, cmV]
      omega
    refine st_nil ?_
    dsimp only
    refine st_seti (.int ((s * 48271 + 12345).fmod 2147483647)) i _ 3 3 ?_ ?_ hg rfl rfl ?_
    · simp [evE, evEs, evP, cvOf, hg, srcOf, Ct.cv, idxV, L2.atI, L2.ixN, biV, opV]
    · simp [evE, evP, cvOf, hg, srcOf, Ct.cv]
    generalize hs' : (s * 48271 + 12345).fmod 2147483647 = s'
    have b1 : 0 ≤ s' := by rw [← hs']; exact fm0 _ (by decide)
    have b2 : s' < 2147483647 := by rw [← hs']; exact fm1 _ (by decide)
    refine st_set (.int ((s' * 69621 + s'.fdiv 127).fmod 2147483629)) ?_ ?_
    · simp [evE, evEs, evP, cvOf, srcOf, Ct.cv, idxV, L2.atI, L2.ixN, biV, opV]
    refine st_ret (.int (((s' * 69621 + s'.fdiv 127).fmod 2147483629).fmod l)) ?_ ?_
    · simp [evE, evEs, evP, cvOf, srcOf, Ct.cv, idxV, L2.atI, L2.ixN, biV, opV]
      omega
    exact hK _ b s' _ (fm0 _ hl) (fm1 _ hl) hb b1 b2
theorem next_body (i : Id) (ns : List Int) (p : Nat) (b s l : Int) (hl : 0 < l) (hl2 : l < 1073741824) (g : G) (hg : g i = some (potC ns p b s)) (hb : 0 ≤ b) (hs : 0 ≤ s) (hs2 : s < 2147483647) (K : Ks)
    (hK : ∀ (v : Int) (p' : Nat) (b' s' : Int) (r : Rho), 0 ≤ v → v < l → 0 ≤ b' → 0 ≤ s' → s' < 2147483647 → K (.ret (.int v)) r (up g i (potC ns p' b' s'))) : wSs P C nextB [some (.val (.ref i)), some (.val (.int l)), none, none, none] g K := by
  have tail : ∀ (p' : Nat) (b' : Int) (x : Option Sl) (g' : G), 0 ≤ b' → g' i = some (potC ns p' b' s) → (∀ o, up g' i o = up g i o) → wSs P C nextT [some (.val (.ref i)), some (.val (.int l)), none, x, none] g' K := fun p' b' x g' h1 h2 h3 =>
    next_tail i ns p' b' s l hl hl2 g' h2 h1 hs hs2 x K fun v b2 s2 r q1 q2 q3 q4 q5 => by
      rw [h3]
      exact hK v p' b2 s2 r q1 q2 q3 q4 q5
  have hg' := hg
  unfold potC at hg
  show wSs P C (.cons (.ifs _ _ _) nextT) _ _ _
  by_cases h0 : b = 0 ∧ (p : Int) < ns.length
  · obtain ⟨h0, h1⟩ := h0
    subst h0
    refine st_if true ?_ (fun _ => ?_) (fun z => by cases z)
    · simp [evE, evEs, evBo, evP, cvOf, hg, srcOf, Ct.cv, idxV, L2.atI, L2.ixN, cmV, D.eqOk, D.eqv]
      omega
    have hp : p < ns.length := by omega
    refine st_set (.int (if ns[p] < 0 then -ns[p] else ns[p])) ?_ ?_
    · simp [evE, evEs, evP, cvOf, hg, srcOf, Ct.cv, idxV, L2.atI, L2.ixN, biV, hp]
    generalize hc : (if ns[p] < 0 then -ns[p] else ns[p]) = c
    have c0 : 0 ≤ c := by rw [← hc]; split <;> omega
    refine st_seti (.int ((p + 1 : Nat) : Int)) i _ 1 1 ?_ ?_ hg rfl rfl ?_
    · simp [evE, evP, cvOf, hg, srcOf, Ct.cv, idxV, L2.atI, L2.ixN, opV]
    · simp [evE, evP, cvOf, hg, srcOf, Ct.cv]
    by_cases hc2 : c < 10 ^ 18
    · refine st_if true ?_ (fun _ => ?_) (fun z => by cases z)
      · simp [evE, opV, cmV]
        exact hc2
      refine st_ret (.int (c.fmod l)) ?_ ?_
      · simp [evE, evEs, biV, opV]
        omega
      exact hK _ (p + 1) 0 s _ (fm0 _ hl) (fm1 _ hl) (by omega) hs hs2
    · refine st_if false ?_ (fun z => by cases z) (fun _ => ?_)
      · simp [evE, opV, cmV]
        omega
      refine st_nil ?_
      dsimp only
      refine st_seti (.int c) i _ 2 2 ?_ ?_ (up_same _ _ _) rfl rfl ?_
      · simp [evE]
      · simp [evE, evP, cvOf, srcOf, Ct.cv]
      refine st_nil ?_
      dsimp only
      exact tail (p + 1) c _ _ c0 (up_same _ _ _) fun o => by rw [up_up, up_up]
  · refine st_if false ?_ (fun z => by cases z) (fun _ => ?_)
    · by_cases q : b = 0
      · simp [evE, evEs, evBo, evP, cvOf, hg, srcOf, Ct.cv, idxV, L2.atI, L2.ixN, cmV, D.eqOk, D.eqv, q]
        omega
      · simp [evE, evEs, evBo, evP, cvOf, hg, srcOf, Ct.cv, idxV, L2.atI, L2.ixN, cmV, D.eqOk, D.eqv, q]
    refine st_nil ?_
    dsimp only
    exact tail p b _ g hb hg' fun o => rfl
theorem pot_body (ns : List Int) (g : G) (K : Ks) (hK : ∀ (s : Int) (r : Rho), 0 ≤ s → s < 2147483647 → wE P C (.al (.lst (.cons (.fz (.tolist (.v (.var 0)))) (.cons (.con (.int 0)) (.cons (.con (.int 0)) (.cons (.var 1) .nil)))))) [some (.val (.giv ns)), some (.val (.int s)), r.headD none] g (fun d g1 => K (.ret d) [some (.val (.giv ns)), some (.val (.int s)), r.headD none] g1) fun c g1 => K (.exc c) [some (.val (.giv ns)), some (.val (.int s)), r.headD none] g1) :
    wSs P C potB [some (.val (.giv ns)), none, none] g K := by
  refine st_set (.int 1) rfl ?_
  refine ⟨rfl, ?_⟩
  refine for_inv (fun _ r g' => g' = g ∧ ∃ (s : Int) (x : Option Sl), 0 ≤ s ∧ s < 2147483647 ∧ r = [some (.val (.giv ns)), some (.val (.int s)), x]) _ (ns.map .int) 0 _ _ rfl (Nat.zero_le _) ⟨rfl, 1, none, by decide, by decide, rfl⟩ (fun _ _ _ _ => True.intro) ?_ ?_
  · rintro n x r g' Kc hx ⟨rfl, s, y, h1, h2, rfl⟩ hn _ _ _
    rw [List.getElem?_map] at hx
    obtain ⟨c, _, rfl⟩ := Option.map_eq_some_iff.mp hx
    refine ⟨_, rfl, ?_⟩
    refine st_set (.int ((s * 31 + c).fmod 2147483647)) ?_ ?_
    · simp [evE, evEs, biV, opV]
    refine st_nil (hn _ _ ⟨rfl, _, _, fm0 _ (by decide), fm1 _ (by decide), rfl⟩).1
  · rintro r g' ⟨rfl, s, y, h1, h2, rfl⟩
    exact hK s [y] h1 h2
/-- a comprehension that leaves the state as it is -/
theorem comp_map {ok : G → Prop} {t : Tg} {r0 : Rho} {test : Rho → G → (Bool → G → Prop) → Prop} {elt : Rho → G → Kd → Prop} {g : G} {K : List D → G → Prop} (hok : ok g) (ht : ∀ r (K : Bool → G → Prop), K true g → test r g K) (f : D → D) :
    ∀ (xs acc : List D), (∀ x ∈ xs, ∃ r1, bindT t x r0 = some r1 ∧ ∀ Kd : Kd, Kd (f x) g → elt r1 g Kd) → acc.length + xs.length ≤ lineN → K (acc ++ xs.map f) g → wComp ok t r0 test elt xs acc g K
  | [], acc, _, _, h => ⟨hok, by simpa using h⟩
  | x :: xs, acc, hx, hl, h => by
    obtain ⟨r1, h1, h2⟩ := hx x List.mem_cons_self
    refine ⟨hok, ?_⟩
    rw [h1]
    refine ht r1 _ ?_
    show (if true = true then _ else _)
    rw [if_pos rfl]
    refine h2 _ ⟨?_, comp_map hok ht f xs (acc ++ [f x]) (fun y hy => hx y (List.mem_cons_of_mem _ hy)) ?_ ?_⟩
    · simp at hl
      omega
    · simp at hl ⊢
      omega
    · simpa using h
/-- a comprehension with a test that leaves the state as it is -/
theorem comp_flt {ok : G → Prop} {t : Tg} {r0 : Rho} {test : Rho → G → (Bool → G → Prop) → Prop} {elt : Rho → G → Kd → Prop} {g : G} {K : List D → G → Prop} (hok : ok g) {α : Type} (c : α → D) (p : α → Bool) (f : α → D) :
    ∀ (xs : List α) (acc : List D), (∀ x ∈ xs, ∃ r1, bindT t (c x) r0 = some r1 ∧ (∀ Kb : Bool → G → Prop, Kb (p x) g → test r1 g Kb) ∧ ∀ Kd : Kd, Kd (f x) g → elt r1 g Kd) → acc.length + xs.length ≤ lineN → K (acc ++ (xs.filter p).map f) g → wComp ok t r0 test elt (xs.map c) acc g K
  | [], acc, _, _, h => ⟨hok, by simpa using h⟩
  | x :: xs, acc, hx, hl, h => by
    obtain ⟨r1, h1, h2, h3⟩ := hx x List.mem_cons_self
    refine ⟨hok, ?_⟩
    rw [h1]
    refine h2 _ ?_
    simp at hl
    by_cases q : p x = true
    · rw [if_pos q]
      refine h3 _ ⟨by omega, comp_flt hok c p f xs (acc ++ [f x]) (fun y hy => hx y (List.mem_cons_of_mem _ hy)) (by simp; omega) ?_⟩
      rw [List.filter_cons_of_pos q] at h
      simpa using h
    · rw [if_neg q]
      refine comp_flt hok c p f xs acc (fun y hy => hx y (List.mem_cons_of_mem _ hy)) (by omega) ?_
      rw [List.filter_cons_of_neg q] at h
      exact h
/-- a comprehension by an invariant -/
theorem comp_inv {ok : G → Prop} {t : Tg} {r0 : Rho} {test : Rho → G → (Bool → G → Prop) → Prop} {elt : Rho → G → Kd → Prop} {K : List D → G → Prop} (I : Nat → List D → G → Prop) (ht : ∀ r g (K : Bool → G → Prop), K true g → test r g K) : ∀ (xs all : List D) (n : Nat) (acc : List D) (g : G), all.drop n = xs → n ≤ all.length → I n acc g → (∀ n acc g, I n acc g → ok g ∧ (n < all.length → acc.length < lineN)) →
    (∀ (n : Nat) (x : D) (acc : List D) (g : G) (Kc : Kd), all[n]? = some x → I n acc g → (∀ d g2, I (n + 1) (acc ++ [d]) g2 → Kc d g2) → ∃ r1, bindT t x r0 = some r1 ∧ elt r1 g Kc) → (∀ acc g, I all.length acc g → K acc g) → wComp ok t r0 test elt xs acc g K
  | [], all, n, acc, g, hd, hn, hi, ok, _, he => by
    have hl : all.length ≤ n := by
      rcases Nat.lt_or_ge n all.length with l | l
      · have := congrArg List.length hd
        simp at this
        omega
      · exact l
    have q : n = all.length := by omega
    subst q
    exact ⟨(ok _ _ _ hi).1, he _ _ hi⟩
  | x :: xs, all, n, acc, g, hd, hn, hi, ok, st, he => by
    have hx : all[n]? = some x := by
      have := congrArg (fun l => l[0]?) hd
      simpa using this
    refine ⟨(ok _ _ _ hi).1, ?_⟩
    have hd' : all.drop (n + 1) = xs := by
      rw [← List.drop_drop, hd]
      rfl
    have lt : n < all.length := by
      rcases Nat.lt_or_ge n all.length with l | l
      · exact l
      · rw [List.getElem?_eq_none l] at hx
        cases hx
    obtain ⟨r1, h1, h2⟩ := st n x acc g (fun d g2 => acc.length < lineN ∧ wComp ‹G → Prop› t r0 test elt xs (acc ++ [d]) g2 K) hx hi fun d g2 h => ⟨(ok _ _ _ hi).2 lt, comp_inv I ht xs all (n + 1) (acc ++ [d]) g2 hd' lt h ok st he⟩
    rw [h1]
    refine ht r1 g _ ?_
    rw [if_pos rfl]
    exact h2
theorem sum_fz {c : Cr} {r : Rho} {g : G} {K : Kd} {X : Kx} (h : wC P C c r g (fun ct g1 => match ct with | .lst xs => (match ints? xs with | some ns => K (.int ns.sum) g1 | none => False) | _ => False) X) : wE P C (.sum (.v (.fz c))) r g K X := h
theorem ints_ok {α : Type} (f : α → Int) : ∀ xs : List α, ints? (xs.map fun x => D.int (f x)) = some (xs.map f)
  | [] => rfl
  | x :: xs => by
    show (ints? (xs.map fun x => D.int (f x))).map (f x :: ·) = _
    rw [ints_ok f xs]
    rfl
theorem bools_true {α : Type} : ∀ xs : List α, bools? (xs.map fun _ => D.bl true) = some (xs.map fun _ => true)
  | [] => rfl
  | x :: xs => by
    show (bools? (xs.map fun _ => D.bl true)).map (true :: ·) = _
    rw [bools_true xs]
    rfl
theorem all_true {α : Type} : ∀ xs : List α, (xs.map fun _ => true).all id = true
  | [] => rfl
  | x :: xs => by simp
theorem st_retE {e : E} {ss : Ss} {r : Rho} {g : G} {K : Ks} (k : wE P C e r g (fun d g1 => K (.ret d) r g1) (fun c g1 => K (.exc c) r g1)) : wSs P C (.cons (.ret e) ss) r g K := k
theorem bo2 {kk : Bool} {e e2 : E} {es : Es} {r : Rho} {g : G} {K : Kd} {X : Kx} (b : Bool) (h : evE P e r g = some (.bl b)) (k1 : b = kk → wBo P C kk (.cons e2 es) r g K X) (k2 : b ≠ kk → K (.bl b) g) : wBo P C kk (.cons e (.cons e2 es)) r g K X := by
  refine evE_ok e h ?_
  show (if b = kk then _ else _)
  by_cases q : b = kk
  · rw [if_pos q]
    exact k1 q
  · rw [if_neg q]
    exact k2 q
theorem bo1 {kk : Bool} {e : E} {r : Rho} {g : G} {K : Kd} {X : Kx} (h : wE P C e r g K X) : wBo P C kk (.cons e .nil) r g K X := h
theorem e_bo {kk : Bool} {es : Es} {r : Rho} {g : G} {K : Kd} {X : Kx} (h : wBo P C kk es r g K X) : wE P C (.bo kk es) r g K X := h
theorem allof_fz {c : Cr} {r : Rho} {g : G} {K : Kd} {X : Kx} (h : wC P C c r g (fun ct g1 => match ct with | .lst xs => (match bools? xs with | some bs => K (.bl (bs.all id)) g1 | none => False) | _ => False) X) : wE P C (.allof (.v (.fz c))) r g K X := by
  have e : (fun (ct : Ct) g1 => match ct with | .lst xs => (match bools? xs with | some bs => K (.bl (bs.all id)) g1 | none => False) | _ => False) =
      (fun (ct : Ct) (g1 : G) => match ct with | .lst xs => (match cvOf g1 (.seq false xs) with | some c => (match c with | .seq false xs => (match bools? xs with | some bs => K (.bl (bs.all id)) g1 | none => False) | _ => False) | none => False) | _ => False : Ct → G → Prop) := rfl
  exact h
theorem rng1_ev {e : E} {r : Rho} {g : G} {K : Ws → List D → G → Prop} {X : Kx} (j : Int) (h : evE P e r g = some (.int j)) (hb : -(2 ^ 62) ≤ j ∧ j < 2 ^ 62) (k : K .no ((List.range j.toNat).map fun (n : Nat) => D.int (n : Int)) g) : wI P C (.rng1 e) r g K X := evE_ok e h ⟨hb, k⟩
theorem st_for {t : Tg} {it : It} {b ss : Ss} {r : Rho} {g : G} {K : Ks} (k : wI P C it r g (fun src xs g1 => src.st = true ∧ wFor src t (fun r g K => wSs P C b r g K) xs r g1 fun o r1 g1 => match o with | .nx => wSs P C ss r1 g1 K | o => K o r1 g1) fun c g1 => K (.exc c) r g1) : wSs P C (.cons (.for_ t it b) ss) r g K := k
theorem st_setE {i : Nat} {e : E} {ss : Ss} {r : Rho} {g : G} {K : Ks} (k : wE P C e r g (fun d g1 => wSs P C ss (r.set i (some (.val d))) g1 K) fun c g1 => K (.exc c) r g1) : wSs P C (.cons (.set i e) ss) r g K := k
theorem st_exprE {e : E} {ss : Ss} {r : Rho} {g : G} {K : Ks} (k : wE P C e r g (fun d g1 => wSs P C ss r g1 K) fun c g1 => K (.exc c) r g1) : wSs P C (.cons (.expr e) ss) r g K := k
theorem st_ifE {c : E} {a b ss : Ss} {r : Rho} {g : G} {K : Ks} (k : wB P C c r g (fun z g1 => if z = true then wSs P C a r g1 (fun o r1 g1 => match o with | .nx => wSs P C ss r1 g1 K | o => K o r1 g1) else wSs P C b r g1 fun o r1 g1 => match o with | .nx => wSs P C ss r1 g1 K | o => K o r1 g1) fun c g1 => K (.exc c) r g1) :
    wSs P C (.cons (.ifs c a b) ss) r g K := k
theorem st_appE {p : Pl} {e : E} {ss : Ss} {r : Rho} {g : G} {K : Ks} (j : Id) (xs : List D) (h2 : evP P p r g = some (.obj j, .seq false xs))
    (q : wE P C e r g (fun d g2 => (simE e || true) = true ∧ xs.length < lineN ∧ g2 j = some (.ct (.lst xs)) ∧ wSs P C ss r (up g2 j (.ct (.lst (xs ++ [d])))) K) fun c g1 => K (.exc c) r g1) : wSs P C (.cons (.app p e) ss) r g K :=
  evP_ok p h2 q
theorem e_binE {o : Op} {a b : E} {r : Rho} {g : G} {K : Kd} {X : Kx} (k : wE P C a r g (fun x g1 => wE P C b r g1 (fun y g2 => wOp o x y fun z => K z g2) X) X) : wE P C (.bin o a b) r g K X := k
theorem b_cmpE {o : Cm} {a b : E} {r : Rho} {g : G} {K : Bool → G → Prop} {X : Kx} (k : wE P C a r g (fun x g1 => wE P C b r g1 (fun y g2 => wCm o x y fun z => K z g2) X) X) : wB P C (.cmp o a b) r g K X := k
theorem b_notE {a : E} {r : Rho} {g : G} {K : Bool → G → Prop} {X : Kx} (k : wE P C a r g (fun x g1 => match x with | .bl b => K (!b) g1 | _ => False) X) : wB P C (.not a) r g K X := k
theorem eqvs_ints : ∀ xs : List Int, D.eqvs (xs.map .int) (xs.map .int) = true
  | [] => rfl
  | x :: xs => by simp [D.eqvs, D.eqv, eqvs_ints xs]
theorem pures_ints : ∀ xs : List Int, D.pures (xs.map .int) = true
  | [] => rfl
  | x :: xs => by simp [D.pures, D.pure, pures_ints xs]
theorem deps_ints : ∀ xs : List Int, D.deps (xs.map .int) = 0
  | [] => rfl
  | x :: xs => by simp [D.deps, D.dep, deps_ints xs]
theorem ev_popat {p : Pl} {k : E} {r : Rho} {g : G} {K : Kd} {X : Kx} (j : Id) (xs : List D) (i : Int) (m : Nat) (z : D) (h2 : evP P p r g = some (.obj j, .seq false xs)) (hg : g j = some (.ct (.lst xs))) (h3 : evE P k r g = some (.int i)) (h4 : idxN i xs.length = some m) (h5 : xs[m]? = some z) (hl : xs.length ≤ lineN)
    (q : K z (up g j (.ct (.lst (xs.eraseIdx m))))) : wE P C (.popat p k) r g K X := by
  refine evP_ok p h2 (evE_ok k h3 ?_)
  show (match idxN i xs.length with
          | some n => (match xs[n]? with | some z => (xs.length ≤ lineN ∧ g j = some (.ct (.lst xs))) ∧ K z (up g j (.ct (.lst (xs.eraseIdx n)))) | none => False)
          | none => False)
  rw [h4]
  show (match xs[m]? with | some z => (xs.length ≤ lineN ∧ g j = some (.ct (.lst xs))) ∧ K z (up g j (.ct (.lst (xs.eraseIdx m)))) | none => False)
  rw [h5]
  exact ⟨⟨hl, hg⟩, q⟩
theorem e_idxf {p : Pl} {k : E} {r : Rho} {g : G} {K : Kd} {X : Kx} (t : Bool) (xs : List D) (h : evP P p r g = some (.no, .seq t xs)) (q : wE P C k r g (fun d g2 => Src.no.kept (.seq t xs) g2 ∧ wIdx (.seq t xs) d fun z => K z g2) X) : wE P C (.idxf p k) r g K X := evP_ok p h q
theorem evC_comp {own : List Nat} {t : Tg} {it : It} {cc : Oe} {e : E} {r : Rho} {g : G} {ws : Ws} {α : Type} (c : α → D) (p : α → Bool) (f : α → D) (xs : List α) (ho : ownOk r own = true) (hs : (simO cc && simE e) = true) (hI : evI P it r g = some (ws, xs.map c)) (hl : xs.length ≤ lineN)
    (hx : ∀ x ∈ xs, ∃ r1, bindT t (c x) (wipeR r own) = some r1 ∧ evT P cc r1 g = some (p x) ∧ (p x = true → evE P e r1 g = some (f x))) : evC P (.comp own t it cc e) r g = some ((xs.filter p).map f) := by
  show (if ownOk r own = true ∧ (simO cc && simE e) = true then (evI P it r g).bind fun q => if q.2.length ≤ lineN then compV t (wipeR r own) (fun r1 => evT P cc r1 g) (fun r1 => evE P e r1 g) q.2 else none else none) = _
  rw [if_pos ⟨ho, hs⟩, hI, Option.bind_some]
  dsimp only
  rw [if_pos (by simpa using hl)]
  exact compV_map c p f xs hx
theorem ev_sum {c : Cr} {r : Rho} {g : G} {ys : List D} {ns : List Int} (h : evC P c r g = some ys) (hn : ints? ys = some ns) : evE P (.sum (.v (.fz c))) r g = some (.int ns.sum) := by
  show ((((evC P c r g).map (D.seq false)).bind fun d => (cvOf g d).map fun cv => (srcOf d, cv)).bind fun q => (match q.2 with | .seq false xs => (ints? xs).map fun ns => D.int ns.sum | _ => none)) = _
  rw [h]
  show (ints? ys).map (fun ns => D.int ns.sum) = _
  rw [hn]
  rfl
theorem i_plv {p : Pl} {r : Rho} {g : G} {K : Ws → List D → G → Prop} {X : Kx} {s : Src} {t : Bool} {xs : List D} (h : evP P p r g = some (s, .seq t xs)) (k : K (wsOf s xs) xs g) : wI P C (.pl p) r g K X := evP_ok p h k
theorem rng1_E {e : E} {r : Rho} {g : G} {K : Ws → List D → G → Prop} {X : Kx} (k : wE P C e r g (fun d g1 => match d with
      | .int j => (-(2 ^ 62) ≤ j ∧ j < 2 ^ 62) ∧ K .no ((List.range j.toNat).map fun (n : Nat) => D.int (n : Int)) g1
      | _ => False) X) : wI P C (.rng1 e) r g K X := k
theorem e_fzE {c : Cr} {r : Rho} {g : G} {K : Kd} {X : Kx} (k : wC P C c r g (fun ct g1 => match ct with | .lst xs => K (.seq false xs) g1 | _ => False) X) : wE P C (.fz c) r g K X := k
theorem e_callE {f : Nat} {es : Es} {r : Rho} {g : G} {K : Kd} {X : Kx} (k : wEs P C es r g (fun ds g1 => C f ds g1 K X) X) : wE P C (.call f es) r g K X := k
theorem es_consE {e : E} {es : Es} {r : Rho} {g : G} {K : List D → G → Prop} {X : Kx} (k : wE P C e r g (fun d g1 => wEs P C es r g1 (fun ds g2 => K (d :: ds) g2) X) X) : wEs P C (.cons e es) r g K X := k
theorem es_nilE {r : Rho} {g : G} {K : List D → G → Prop} {X : Kx} (k : K [] g) : wEs P C .nil r g K X := k
theorem c_compE {own : List Nat} {t : Tg} {it : It} {c : Oe} {e : E} {r : Rho} {g : G} {K : Ct → G → Prop} {X : Kx} (ho : ownOk r own = true) (k : wI P C it r g (fun src xs g1 => ((simO c && simE e) || src.st) = true ∧
      wComp (fun g => if (simO c && simE e) = true then True else src.ok g) t (wipeR r own) (fun r1 g2 K2 => wT P C c r1 g2 K2) (fun r1 g2 K2 => wE P C e r1 g2 K2 fun _ _ => False) xs [] g1 fun acc g2 => K (.lst acc) g2) X) : wC P C (.comp own t it c e) r g K X := ⟨ho, k⟩
theorem e_varE {i : Nat} {r : Rho} {g : G} {K : Kd} {X : Kx} (d : D) (h : r[i]? = some (some (.val d))) (k : K d g) : wE P C (.var i) r g K X := by
  show (match r[i]? with | some (some (.val d)) => K d g | _ => False)
  rw [h]
  exact k
theorem e_conE {d : D} {r : Rho} {g : G} {K : Kd} {X : Kx} (k : K d g) : wE P C (.con d) r g K X := k
theorem b_ofE {e : E} {r : Rho} {g : G} {K : Bool → G → Prop} {X : Kx} (k : wE P C e r g (fun d g1 => match d with | .bl b => K b g1 | _ => False) X) : wB P C e r g K X := k
theorem e_notE {a : E} {r : Rho} {g : G} {K : Kd} {X : Kx} (k : wE P C a r g (fun x g1 => match x with | .bl b => K (.bl (!b)) g1 | _ => False) X) : wE P C (.not a) r g K X := k
theorem bo_consE {kk : Bool} {e e2 : E} {es : Es} {r : Rho} {g : G} {K : Kd} {X : Kx} (k : wE P C e r g (fun d g1 => match d with | .bl b => if b = kk then wBo P C kk (.cons e2 es) r g1 K X else K (.bl b) g1 | _ => False) X) : wBo P C kk (.cons e (.cons e2 es)) r g K X := k
theorem v_cmp {o : Cm} {a b : E} {r : Rho} {g : G} {x y : D} {z : Bool} (ha : evE P a r g = some x) (hb : evE P b r g = some y) (hc : cmV o x y = some z) : evE P (.cmp o a b) r g = some (.bl z) := by simp [evE, ha, hb, hc]
theorem v_bin {o : Op} {a b : E} {r : Rho} {g : G} {x y z : D} (ha : evE P a r g = some x) (hb : evE P b r g = some y) (hc : opV o x y = some z) : evE P (.bin o a b) r g = some z := by simp [evE, ha, hb, hc]
theorem v_bo2 {kk : Bool} {e e2 : E} {es : Es} {r : Rho} {g : G} {b : Bool} {z : D} (h1 : evE P e r g = some (.bl b)) (h2 : b = kk → evBo P kk (.cons e2 es) r g = some z) (h3 : b ≠ kk → z = .bl b) : evBo P kk (.cons e (.cons e2 es)) r g = some z := by
  show ((evE P e r g).bind fun d => (match d with | .bl b => if b = kk then evBo P kk (.cons e2 es) r g else some (.bl b) | _ => none)) = _
  rw [h1]
  show (if b = kk then evBo P kk (.cons e2 es) r g else some (.bl b)) = _
  by_cases q : b = kk
  · rw [if_pos q]
    exact h2 q
  · rw [if_neg q, h3 q]
theorem v_bo1 {kk : Bool} {e : E} {r : Rho} {g : G} {z : D} (h : evE P e r g = some z) : evBo P kk (.cons e .nil) r g = some z := h
theorem v_bo {kk : Bool} {es : Es} {r : Rho} {g : G} {z : D} (h : evBo P kk es r g = some z) : evE P (.bo kk es) r g = some z := h
theorem v_tup {es : Es} {r : Rho} {g : G} {ds : List D} (h : evEs P es r g = some ds) (hl : ds.length ≤ lineN) : evE P (.tup es) r g = some (.seq true ds) := by
  show ((evEs P es r g).bind fun ds => if ds.length ≤ lineN then some (D.seq true ds) else none) = _
  rw [h]
  exact if_pos hl
theorem v_cons {e : E} {es : Es} {r : Rho} {g : G} {d : D} {ds : List D} (h1 : evE P e r g = some d) (h2 : evEs P es r g = some ds) : evEs P (.cons e es) r g = some (d :: ds) := by simp [evEs, h1, h2]
theorem e_eqpE {n : Bool} {p q : Pl} {r : Rho} {g : G} {K : Kd} {X : Kx} (k : wP P C p r g (fun _ c g1 => wP P C q r g1 (fun _ c' g2 => match c, c' with
      | .seq t xs, .seq u ys => (D.pures xs = true ∧ D.pures ys = true ∧ min (D.deps xs) (D.deps ys) ≤ 59) ∧ K (.bl (n != D.eqv (.seq t xs) (.seq u ys))) g2
      | _, _ => False) X) X) : wE P C (.eqp n p q) r g K X := k
theorem p_vE {e : E} {r : Rho} {g : G} {K : Src → Cv → G → Prop} {X : Kx} (k : wE P C e r g (fun d g1 => match cvOf g1 d with | some c => K (srcOf d) c g1 | none => False) X) : wP P C (.v e) r g K X := k
theorem c1_of {f : Nat} {fn : Fn} {ds : List D} {g : G} {K : Kd} {X : Kx} (hf : P.fns[f]? = some fn) (hl : ds.length = fn.params)
    (h : wSs P C fn.body (ds.map (fun d => some (.val d)) ++ List.replicate (fn.slots - ds.length) none) g fun o _ g1 => match o with
      | .nx => K .non g1
      | .ret d => K d g1
      | .exc c => X c g1
      | _ => False) : C1 P C f ds g K X := by
  unfold C1
  rw [hf]
  exact ⟨hl, h⟩
theorem next_call {f : Nat} (hf : P.fns[f]? = some ⟨2, 5, nextB⟩) (i : Id) (ns : List Int) (p : Nat) (b s l : Int) (hl : 0 < l) (hl2 : l < 1073741824) (g : G) (hg : g i = some (potC ns p b s)) (hb : 0 ≤ b) (hs : 0 ≤ s) (hs2 : s < 2147483647) (K : Kd) (X : Kx)
    (hK : ∀ (v : Int) (p' : Nat) (b' s' : Int), 0 ≤ v → v < l → 0 ≤ b' → 0 ≤ s' → s' < 2147483647 → K (.int v) (up g i (potC ns p' b' s'))) : C1 P C f [.ref i, .int l] g K X :=
  c1_of hf rfl (next_body i ns p b s l hl hl2 g hg hb hs hs2 _ fun v p' b' s' r q1 q2 q3 q4 q5 => hK v p' b' s' q1 q2 q3 q4 q5)
theorem pot_call {f : Nat} (hf : P.fns[f]? = some ⟨1, 3, potB⟩) (ns : List Int) (j : Id) (g : G) (nj : g j = none) (K : Kd) (X : Kx) (hK : ∀ s : Int, 0 ≤ s → s < 2147483647 → K (.ref j) (up g j (potC ns 0 0 s))) : C1 P C f [.giv ns] g K X := by
  refine c1_of hf rfl (pot_body ns g _ fun s r h1 h2 => ?_)
  exact evC_ok (xs := [.seq false (ns.map .int), .int 0, .int 0, .int s]) _ (by simp [evC, evEs, evE, evP, cvOf, srcOf]; decide) ⟨j, nj, hK s h1 h2⟩
end
end Vb

set_option maxHeartbeats 4000000
/-! The plain layer, part 20: the guards that laws k00 to k03 draw. -/
namespace Vb
open PySem
def setB (nx : Nat) : Ss :=
 (.cons (.set 2 (.al (.comp [4] (.slot 4) (.rng1 (.con (.int 7))) .no (.bin .add (.con (.str "g")) (.bi .str1 (.cons (.var 4) .nil))))))
 (.cons (.set 3 (.al (.lst .nil)))
 (.cons (.for_ (.slot 4) (.rng1 (.bin .add (.con (.int 1)) (.call nx (.cons (.var 0) (.cons (.var 1) .nil)))))
  (.cons (.app (.v (.var 3)) (.tup (.cons (.popat (.v (.var 2)) (.call nx (.cons (.var 0) (.cons (.len (.v (.var 2))) .nil)))) (.cons (.bin .add (.con (.int 1)) (.call nx (.cons (.var 0) (.cons (.idxf (.v (.fz (.lst (.cons (.con (.int 1)) (.cons (.con (.int 4)) (.cons (.con (.int 50)) .nil)))))) (.call nx (.cons (.var 0) (.cons (.con (.int 3)) .nil)))) .nil)))) .nil))))
  .nil))
 (.cons (.ret (.totup (.v (.var 3))))
 .nil))))
def gNm (k : Nat) : D := .str (Str.ofString "g" ++ (toString (k : Int) : Str))
section
variable {P : Pg} {C : Call}
/-- the pot at i, whatever is drawn -/
def Pot (ns : List Int) (i : Id) (g : G) : Prop := ∃ p b s, g i = some (potC ns p b s) ∧ 0 ≤ b ∧ 0 ≤ s ∧ s < 2147483647
theorem drawn {nx : Nat} (hn : P.fns[nx]? = some ⟨2, 5, nextB⟩) {ns : List Int} {i : Id} {g : G} (I : Pot ns i g) {l : Int} (h1 : 0 < l) (h2 : l < 1073741824) {K : Kd} {X : Kx} (hK : ∀ (v : Int) (g' : G), Pot ns i g' → (∀ j, j ≠ i → g' j = g j) → 0 ≤ v → v < l → K (.int v) g') : C1 P C nx [.ref i, .int l] g K X := by
  obtain ⟨p, b, s, q1, q2, q3, q4⟩ := I
  exact next_call hn i ns p b s l h1 h2 g q1 q2 q3 q4 K X fun v p' b' s' v0 v1 z1 z2 z3 => hK v _ ⟨p', b', s', up_same _ _ _, z1, z2, z3⟩ (fun j h => up_ne _ _ h) v0 v1
theorem names_ev {g : G} {r : Rho} (hr : ownOk r [4] = true) (hl : r.length = 5) : evC P (.comp [4] (.slot 4) (.rng1 (.con (.int 7))) .no (.bin .add (.con (.str "g")) (.bi .str1 (.cons (.var 4) .nil)))) r g = some ((List.range 7).map gNm) := by
  have := evC_comp (P := P) (own := [4]) (t := .slot 4) (it := .rng1 (.con (.int 7))) (cc := .no) (e := .bin .add (.con (.str "g")) (.bi .str1 (.cons (.var 4) .nil))) (r := r) (g := g) (ws := .no) (fun n : Nat => D.int (n : Int)) (fun _ => true) gNm (List.range 7) hr rfl (by simp [evI, evE]) (by decide) (fun x hx => ⟨_, rfl, rfl, fun _ => ?_⟩)
  · have e : (List.range 7).filter (fun _ => true) = List.range 7 := rfl
    rw [e] at this
    exact this
  · have hx : x < 7 := List.mem_range.mp hx
    have h4 : ((wipeR r [4]).set 4 (some (.val (.int (x : Int)))))[4]? = some (some (.val (.int x))) := by
      rw [List.getElem?_set_self (by rw [wipeR_length]; omega)]
    have hv : evE P (.var 4) ((wipeR r [4]).set 4 (some (.val (.int (x : Int))))) g = some (.int x) := by
      simp only [evE, h4]
    refine v_bin (x := .str "g") rfl (y := .str (toString (x : Int))) ?_ ?_
    · have hc : evEs P (.cons (.var 4) .nil) ((wipeR r [4]).set 4 (some (.val (.int (x : Int))))) g = some [.int x] := v_cons hv rfl
      show ((evEs P (.cons (.var 4) .nil) ((wipeR r [4]).set 4 (some (.val (.int (x : Int))))) g).bind fun ds => biV .str1 ds) = _
      rw [hc]
      have hx7 : x = 0 ∨ x = 1 ∨ x = 2 ∨ x = 3 ∨ x = 4 ∨ x = 5 ∨ x = 6 := by omega
      rcases hx7 with rfl | rfl | rfl | rfl | rfl | rfl | rfl <;> rfl
    · have hx7 : x = 0 ∨ x = 1 ∨ x = 2 ∨ x = 3 ∨ x = 4 ∨ x = 5 ∨ x = 6 := by omega
      rcases hx7 with rfl | rfl | rfl | rfl | rfl | rfl | rfl <;> rfl
theorem e_tupE {es : Es} {r : Rho} {g : G} {K : Kd} {X : Kx} (k : wEs P C es r g (fun ds g1 => ds.length ≤ lineN ∧ K (.seq true ds) g1) X) : wE P C (.tup es) r g K X := k
theorem e_popatE {p : Pl} {k : E} {r : Rho} {g : G} {K : Kd} {X : Kx} (j : Id) (xs : List D) (h2 : evP P p r g = some (.obj j, .seq false xs)) (q : wE P C k r g (fun d g2 => match d with
        | .int i => (match idxN i xs.length with
          | some n => (match xs[n]? with | some z => (xs.length ≤ lineN ∧ g2 j = some (.ct (.lst xs))) ∧ K z (up g2 j (.ct (.lst (xs.eraseIdx n)))) | none => False)
          | none => False)
        | _ => False) X) : wE P C (.popat p k) r g K X := evP_ok p h2 q
/-- a guard and its weight -/
def grD (q : Nat × Int) : D := .seq true [gNm q.1, .int q.2]
theorem weight_ok {nx : Nat} (hn : P.fns[nx]? = some ⟨2, 5, nextB⟩) {ns : List Int} {i : Id} {g : G} (I : Pot ns i g) {r : Rho} (h1 : r[0]? = some (some (.val (.ref i)))) {K : Kd} {X : Kx} (hK : ∀ (v : Int) (g' : G), Pot ns i g' → (∀ j, j ≠ i → g' j = g j) → 1 ≤ v → v ≤ 50 → K (.int v) g') :
    wE P (C1 P C) (.bin .add (.con (.int 1)) (.call nx (.cons (.var 0) (.cons (.idxf (.v (.fz (.lst (.cons (.con (.int 1)) (.cons (.con (.int 4)) (.cons (.con (.int 50)) .nil)))))) (.call nx (.cons (.var 0) (.cons (.con (.int 3)) .nil)))) .nil)))) r g K X := by
  refine e_binE (e_conE (e_callE (es_consE (e_varE _ h1 (es_consE (e_idxf false [.int 1, .int 4, .int 50] rfl (e_callE (es_consE (e_varE _ h1 (es_consE (e_conE (es_nilE ?_))))))))))))
  refine drawn hn I (by decide) (by decide) fun v g1 I1 e1 v0 v1 => ⟨True.intro, ?_⟩
  have go : ∀ l : Int, 0 < l → l ≤ 50 → C1 P C nx [.ref i, .int l] g1 (fun y g2 => wOp .add (.int 1) y fun z => K z g2) X := fun l q1 q2 =>
    drawn hn I1 q1 (by omega) fun w g2 I2 e2 w0 w1 => hK (1 + w) g2 I2 (fun j h => (e2 j h).trans (e1 j h)) (by omega) (by omega)
  have hv : v = 0 ∨ v = 1 ∨ v = 2 := by omega
  rcases hv with rfl | rfl | rfl
  · exact go 1 (by decide) (by decide)
  · exact go 4 (by decide) (by decide)
  · exact go 50 (by decide) (by decide)
theorem er_mapG {α β : Type} (f : α → β) : ∀ (n : Nat) (l : List α), (l.map f).eraseIdx n = (l.eraseIdx n).map f
  | _, [] => rfl
  | 0, _ :: _ => rfl
  | n + 1, _ :: l => by simp [er_mapG f n l]
theorem er_perm : ∀ (l : List Nat) (n : Nat) (h : n < l.length), (l[n] :: l.eraseIdx n).Perm l
  | [], n, h => by cases h
  | x :: l, 0, h => List.Perm.refl _
  | x :: l, n + 1, h => by
    have h' : n < l.length := by simpa using h
    exact (List.Perm.swap x l[n] (l.eraseIdx n)).trans ((er_perm l n h').cons x)
theorem set_call {nx f : Nat} (hn : P.fns[nx]? = some ⟨2, 5, nextB⟩) (hf : P.fns[f]? = some ⟨2, 5, setB nx⟩) {ns : List Int} {i a b : Id} {g : G} (I : Pot ns i g) {most : Int} (hm : 1 ≤ most ∧ most ≤ 7) (na : g a = none) (nb : g b = none) (ab : b ≠ a) {K : Kd} {X : Kx}
    (hK : ∀ (gs : List (Nat × Int)) (g' : G), Pot ns i g' → (∀ j, j ≠ i → j ≠ a → j ≠ b → g' j = g j) → 1 ≤ gs.length → (gs.length : Int) ≤ most → (gs.map (·.1)).Nodup → (∀ q ∈ gs, q.1 < 7 ∧ 1 ≤ q.2 ∧ q.2 ≤ 50) → K (.seq true (gs.map grD)) g') : C1 P (C1 P C) f [.ref i, .int most] g K X := by
  refine c1_of hf rfl ?_
  have ia : i ≠ a := fun z => by
    obtain ⟨_, _, _, q, _⟩ := I
    rw [z, na] at q
    cases q
  have ib : i ≠ b := fun z => by
    obtain ⟨_, _, _, q, _⟩ := I
    rw [z, nb] at q
    cases q
  show wSs P (C1 P C) (.cons (.set 2 (.al _)) (.cons (.set 3 (.al (.lst .nil))) (.cons (.for_ (.slot 4) (.rng1 (.bin .add (.con (.int 1)) (.call nx _))) _) (.cons (.ret (.totup (.v (.var 3)))) .nil)))) [some (.val (.ref i)), some (.val (.int most)), none, none, none] g _
  refine st_al ((List.range 7).map gNm) a (names_ev rfl rfl) na ?_
  refine st_al [] b rfl ((up_ne _ _ ab).trans nb) ?_
  have I0 : Pot ns i (up (up g a (.ct (.lst ((List.range 7).map gNm)))) b (.ct (.lst []))) := by
    obtain ⟨p, b', s, q, q2⟩ := I
    exact ⟨p, b', s, (up_ne _ _ ib).trans ((up_ne _ _ ia).trans q), q2⟩
  refine st_for (rng1_E (e_binE (e_conE (ev_call (P := P) [.ref i, .int most] rfl (drawn hn I0 (by omega) (by omega) fun v g1 I1 e1 v0 v1 => ?_)))))
  refine ⟨by omega, rfl, ?_⟩
  generalize hN : (1 + v).toNat = N
  have hN7 : 1 ≤ N ∧ N ≤ 7 ∧ (N : Int) ≤ most := by omega
  refine for_inv (fun n r g' => ∃ (rem : List Nat) (gs : List (Nat × Int)) (x4 : Option Sl), r = [some (.val (.ref i)), some (.val (.int most)), some (.val (.ref a)), some (.val (.ref b)), x4] ∧ Pot ns i g' ∧ g' a = some (.ct (.lst (rem.map gNm))) ∧ g' b = some (.ct (.lst (gs.map grD))) ∧ gs.length = n ∧ rem.length + n = 7 ∧
      (rem ++ gs.map (·.1)).Nodup ∧ (∀ k ∈ rem, k < 7) ∧ (∀ q ∈ gs, q.1 < 7 ∧ 1 ≤ q.2 ∧ q.2 ≤ 50) ∧ ∀ j, j ≠ i → j ≠ a → j ≠ b → g' j = g j) _ _ 0 _ _ rfl (Nat.zero_le _) ?_ (fun _ _ _ _ => True.intro) ?_ ?_
  · refine ⟨List.range 7, [], none, rfl, I1, ?_, ?_, rfl, rfl, by simpa using List.nodup_range, fun k h => List.mem_range.mp h, fun q h => (by cases h), fun j h1 h2 h3 => ?_⟩
    · rw [e1 _ (Ne.symm ia), up_ne _ _ (Ne.symm ab), up_same]
    · rw [e1 _ (Ne.symm ib), up_same]
      rfl
    · rw [e1 _ h1, up_ne _ _ h3, up_ne _ _ h2]
  · rintro n x r g' Kc hx ⟨rem, gs, x4, rfl, J, ha, hb, hg, hr, nd, h7, hq, fr⟩ hk _ _ _
    have lt : n < N := by
      rw [List.getElem?_map] at hx
      obtain ⟨n', h1, _⟩ := Option.map_eq_some_iff.mp hx
      rcases Nat.lt_or_ge n N with h | h
      · exact h
      · rw [List.getElem?_eq_none (by simpa using h)] at h1
        cases h1
    refine ⟨_, rfl, ?_⟩
    refine st_appE b (gs.map grD) (by simp [evP, evE, cvOf, hb, Ct.cv, srcOf]) ?_
    refine e_tupE (es_consE (e_popatE a (rem.map gNm) (by simp [evP, evE, cvOf, ha, Ct.cv, srcOf]) (e_callE (es_consE (e_varE _ rfl (es_consE (evE_ok (P := P) (d := .int rem.length) (.len (.v (.var 2))) ?_ (es_nilE ?_))))))))
    · simp [evE, evP, cvOf, ha, Ct.cv, srcOf]
    refine drawn hn J (by omega) (by omega) fun m g2 I2 e2 m0 m1 => ?_
    have hml : m.toNat < rem.length := by omega
    have ei : L2.ixN (rem.map gNm).length m = some m.toNat := by
      unfold L2.ixN
      rw [if_pos m0, if_pos (by simpa using m1)]
    have hz : (rem.map gNm)[m.toNat]? = some (gNm rem[m.toNat]) := by simp [hml]
    have I3 : Pot ns i (up g2 a (.ct (.lst ((rem.map gNm).eraseIdx m.toNat)))) := by
      obtain ⟨p, b', s, q, q2⟩ := I2
      exact ⟨p, b', s, (up_ne _ _ ia).trans q, q2⟩
    dsimp only
    rw [show idxN m (rem.map gNm).length = some m.toNat from ei]
    dsimp only
    rw [hz]
    refine ⟨⟨by show _ ≤ 1000000; simp; omega, (e2 a (Ne.symm ia)).trans ha⟩, ?_⟩
    refine es_consE (weight_ok hn I3 rfl fun w g3 I4 e3 w0 w1 => es_nilE ⟨by show 2 ≤ 1000000; decide, by simp, by show _ < 1000000; simp; omega, ?_, st_nil ?_⟩)
    · rw [e3 _ (Ne.symm ib), up_ne _ _ ab, e2 _ (Ne.symm ib)]
      exact hb
    refine (hk _ _ ⟨rem.eraseIdx m.toNat, gs ++ [(rem[m.toNat], w)], some (.val x), rfl, ?_, ?_, ?_, by simp [hg], ?_, ?_, fun k h => h7 k (List.mem_of_mem_eraseIdx h), fun q h => ?_, fun j h1 h2 h3 => ?_⟩).1
    · obtain ⟨p, b', s, q, q2⟩ := I4
      exact ⟨p, b', s, (up_ne _ _ ib).trans q, q2⟩
    · rw [up_ne _ _ (Ne.symm ab), e3 _ (Ne.symm ia), up_same, er_mapG]
    · rw [up_same]
      simp [grD]
    · have := List.length_eraseIdx_of_lt hml
      omega
    · have pm : (rem.eraseIdx m.toNat ++ (gs ++ [(rem[m.toNat], w)]).map (·.1)).Perm (rem ++ gs.map (·.1)) := by
        rw [List.map_append]
        show (rem.eraseIdx m.toNat ++ (gs.map (·.1) ++ [rem[m.toNat]])).Perm _
        rw [← List.append_assoc]
        refine (List.perm_append_singleton _ _).trans ?_
        rw [← List.cons_append]
        exact (er_perm rem _ hml).append_right _
      exact pm.nodup_iff.mpr nd
    · rcases List.mem_append.mp h with z | z
      · exact hq q z
      · have : q = (rem[m.toNat], w) := List.mem_singleton.mp z
        subst this
        exact ⟨h7 _ (List.getElem_mem hml), w0, w1⟩
    · rw [up_ne _ _ h3, e3 _ h1, up_ne _ _ h2, e2 _ h1]
      exact fr j h1 h2 h3
  · rintro r g' ⟨rem, gs, x4, rfl, J, ha, hb, hg, hr, nd, h7, hq, fr⟩
    refine st_ret (.seq true (gs.map grD)) (by simp [evE, evP, cvOf, hb, Ct.cv, srcOf]) ?_
    refine hK gs g' J fr ?_ ?_ (List.nodup_append.mp nd).2.1 hq
    · simp at hg
      omega
    · simp at hg
      omega
end
end Vb

set_option maxHeartbeats 4000000
/-! The plain layer, part 21: stepping by simp. -/
namespace Vb
open PySem
/-- what stands behind a statement, sealed -/
def Kq (P : Pg) (C : Call) (ss : Ss) (K : Ks) : Ks := fun o r g => match o with
  | .nx => wSs P C ss r g K
  | o => K o r g
/-- what stands behind a def, sealed -/
def Kr (K : Kd) (X : Kx) : Ks := fun o _ g1 => match o with
  | .nx => K .non g1
  | .ret d => K d g1
  | .exc c => X c g1
  | _ => False
/-- what stands behind a try's body, sealed -/
def Kh (P : Pg) (C : Call) (c : Nat) (x : Option Nat) (h : Ss) (K : Ks) : Ks := fun o r1 g1 => match o with
  | .exc e => P.isExc e = true ∧ if P.catches e c = true then wSs P C h (inX x e r1) g1 fun o r2 g2 => (match o with
    | .exc _ => False
    | o => noX (outX x r2) = true ∧ K o (outX x r2) g2) else K (.exc e) r1 g1
  | o => K o r1 g1
section
variable {P : Pg} {C : Call} {r : Rho} {g : G} {X : Kx}
theorem kq {ss : Ss} {K : Ks} (h : wSs P C ss r g K) : Kq P C ss K .nx r g := h
theorem Kq_nx {ss : Ss} {K : Ks} : Kq P C ss K .nx r g = wSs P C ss r g K := rfl
@[simp ↓] theorem Kq_ret {ss : Ss} {K : Ks} {d : D} : Kq P C ss K (.ret d) r g = K (.ret d) r g := rfl
@[simp ↓] theorem Kq_exc {ss : Ss} {K : Ks} {c : Nat} : Kq P C ss K (.exc c) r g = K (.exc c) r g := rfl
@[simp ↓] theorem Kq_brk {ss : Ss} {K : Ks} : Kq P C ss K .brk r g = K .brk r g := rfl
@[simp ↓] theorem Kq_cnt {ss : Ss} {K : Ks} : Kq P C ss K .cnt r g = K .cnt r g := rfl
@[simp ↓] theorem Kr_nx {K : Kd} : Kr K X .nx r g = K .non g := rfl
@[simp ↓] theorem Kr_ret {K : Kd} {d : D} : Kr K X (.ret d) r g = K d g := rfl
@[simp ↓] theorem Kr_exc {K : Kd} {c : Nat} : Kr K X (.exc c) r g = X c g := rfl
@[simp ↓] theorem Kh_nx {c : Nat} {x : Option Nat} {h : Ss} {K : Ks} : Kh P C c x h K .nx r g = K .nx r g := rfl
@[simp ↓] theorem Kh_ret {c : Nat} {x : Option Nat} {h : Ss} {K : Ks} {d : D} : Kh P C c x h K (.ret d) r g = K (.ret d) r g := rfl
@[simp ↓] theorem Kh_brk {c : Nat} {x : Option Nat} {h : Ss} {K : Ks} : Kh P C c x h K .brk r g = K .brk r g := rfl
@[simp ↓] theorem Kh_cnt {c : Nat} {x : Option Nat} {h : Ss} {K : Ks} : Kh P C c x h K .cnt r g = K .cnt r g := rfl
theorem c1 {f : Nat} {fn : Fn} {ds : List D} {K : Kd} (hf : P.fns[f]? = some fn) (hl : ds.length = fn.params) (h : wSs P C fn.body (ds.map (fun d => some (.val d)) ++ List.replicate (fn.slots - ds.length) none) g (Kr K X)) : C1 P C f ds g K X := by
  unfold C1
  rw [hf]
  exact ⟨hl, h⟩
/-! statements -/
@[simp ↓] theorem x_nil {K : Ks} : wSs P C .nil r g K = K .nx r g := rfl
@[simp ↓] theorem x_cons {s : S} {ss : Ss} {K : Ks} : wSs P C (.cons s ss) r g K = wS P C s r g (Kq P C ss K) := rfl
@[simp ↓] theorem x_expr {e : E} {K : Ks} : wS P C (.expr e) r g K = wE P C e r g (fun _ g1 => K .nx r g1) fun c g1 => K (.exc c) r g1 := rfl
@[simp ↓] theorem x_set {i : Nat} {e : E} {K : Ks} : wS P C (.set i e) r g K = wE P C e r g (fun d g1 => K .nx (r.set i (some (.val d))) g1) fun c g1 => K (.exc c) r g1 := rfl
@[simp ↓] theorem x_setown {i : Nat} {c : Cr} {K : Ks} : wS P C (.setown i c) r g K = wC P C c r g (fun ct g1 => K .nx (r.set i (some (.own ct))) g1) fun c g1 => K (.exc c) r g1 := rfl
@[simp ↓] theorem x_settup {is : List Nat} {e : E} {K : Ks} : wS P C (.settup is e) r g K = wE P C e r g (fun d g1 => match bindT (.tup is) d r with | some r1 => K .nx r1 g1 | none => False) fun c g1 => K (.exc c) r g1 := rfl
@[simp ↓] theorem x_setf {o : E} {f : Nat} {e : E} {K : Ks} : wS P C (.setf o f e) r g K = wE P C e r g (fun d g1 => wE P C o r g1 (fun x g2 => match x with
      | .ref i => (match g2 i with
        | some (.ins c fs) => P.fldOk c f = true ∧ fs.length < 1000 ∧ K .nx r (up g2 i (.ins c (putS f (.val d) fs)))
        | _ => False)
      | _ => False) fun c g1 => K (.exc c) r g1) fun c g1 => K (.exc c) r g1 := rfl
@[simp ↓] theorem x_setfown {o : E} {f : Nat} {c : Cr} {K : Ks} : wS P C (.setfown o f c) r g K = wC P C c r g (fun ct g1 => wE P C o r g1 (fun x g2 => match x with
      | .ref i => (match g2 i with
        | some (.ins c fs) => P.fldOk c f = true ∧ fs.length < 1000 ∧ K .nx r (up g2 i (.ins c (putS f (.own ct) fs)))
        | _ => False)
      | _ => False) fun c g1 => K (.exc c) r g1) fun c g1 => K (.exc c) r g1 := rfl
@[simp ↓] theorem x_seti {p : Pl} {k e : E} {K : Ks} : wS P C (.seti p k e) r g K = wE P C e r g (fun d g1 => wP P C p r g1 (fun s c g2 => wE P C k r g2 (fun kd g3 => match c, kd with
      | .seq false xs, .int i => (match idxN i xs.length with
        | some n => s.ok xs r g3 ∧ putP s (xs.set n d) r g3 fun r1 g4 => K .nx r1 g4
        | none => False)
      | _, _ => False) fun c g1 => K (.exc c) r g1) fun c g1 => K (.exc c) r g1) fun c g1 => K (.exc c) r g1 := rfl
@[simp ↓] theorem x_app {p : Pl} {e : E} {K : Ks} : wS P C (.app p e) r g K = wP P C p r g (fun s c g1 => match c with
      | .seq false xs => wE P C e r g1 (fun d g2 => (simE e || s.notFld) = true ∧ xs.length < lineN ∧ s.ok xs r g2 ∧ putP s (xs ++ [d]) r g2 fun r1 g3 => K .nx r1 g3) fun c g1 => K (.exc c) r g1
      | _ => False) fun c g1 => K (.exc c) r g1 := rfl
@[simp ↓] theorem x_ifs {c : E} {a b : Ss} {K : Ks} : wS P C (.ifs c a b) r g K = wB P C c r g (fun z g1 => if z = true then wSs P C a r g1 K else wSs P C b r g1 K) fun c g1 => K (.exc c) r g1 := rfl
@[simp] theorem x_nevS {K : Ks} : wS P C .nev r g K = False := rfl
@[simp] theorem x_nev {K : Kd} : wE P C .nev r g K X = False := rfl
theorem x_ford {t : Tg} {w : Dk} {p : Pl} {b : Ss} {K : Ks} : wS P C (.ford t w p b) r g K = ∃ j kvs, evP P p r g = some (.obj j, .dct kvs) ∧ g j = some (.ct (.dct kvs)) ∧ ∀ o u, evP P p r (up g j (.lkd kvs o u)) = some (.obj j, .dct kvs) ∧
      wFor (.lk j kvs o u) t (fun r g K => wSs P C b r g K) (itemsD w kvs) r (up g j (.lkd kvs o u)) fun o' r2 g2 => match o' with
        | .exc _ => False
        | o' => g2 j = some (.lkd kvs o u) ∧ K o' r2 (up g2 j (.ct (.dct kvs))) := rfl
@[simp ↓] theorem x_forh {t : Tg} {p : Pl} {b : Ss} {K : Ks} : wS P C (.forh t p b) r g K = wP P C p r g (fun s c g1 => match c with
      | .seq false xs => s = .no ∧ wForN t (fun r g K => wSs P C b r g K) xs r g1 K
      | _ => False) fun c g1 => K (.exc c) r g1 := rfl
@[simp ↓] theorem x_for {t : Tg} {it : It} {b : Ss} {K : Ks} : wS P C (.for_ t it b) r g K = wI P C it r g (fun src xs g1 => src.st = true ∧ wFor src t (fun r g K => wSs P C b r g K) xs r g1 K) fun c g1 => K (.exc c) r g1 := rfl
@[simp ↓] theorem x_ret {e : E} {K : Ks} : wS P C (.ret e) r g K = wE P C e r g (fun d g1 => K (.ret d) r g1) fun c g1 => K (.exc c) r g1 := rfl
@[simp ↓] theorem x_retn {K : Ks} : wS P C .retn r g K = K (.ret .non) r g := rfl
@[simp ↓] theorem x_raise {c : Nat} {K : Ks} : wS P C (.raise c) r g K = K (.exc c) r g := rfl
@[simp ↓] theorem x_try {b h : Ss} {c : Nat} {x : Option Nat} {K : Ks} : wS P C (.try_ b c x h) r g K = wSs P C b r g (Kh P C c x h K) := rfl
@[simp ↓] theorem x_pass {K : Ks} : wS P C .pass r g K = K .nx r g := rfl
@[simp ↓] theorem x_cont {K : Ks} : wS P C .cont r g K = K .cnt r g := rfl
@[simp ↓] theorem x_brk {K : Ks} : wS P C .brk r g K = K .brk r g := rfl
@[simp ↓] theorem x_frz {i : Nat} {K : Ks} : wS P C (.frz i) r g K = (match r[i]? with | some (some (.own (.lst xs))) => K .nx (r.set i (some (.val (.seq false xs)))) g | _ => False) := rfl
theorem x_whil {c : E} {b : Ss} {K : Ks} : wS P C (.whil c b) r g K = ∃ n, wWhile (fun r g K X => wB P C c r g K X) (fun r g K => wSs P C b r g K) n r g K := rfl
/-! expressions -/
@[simp ↓] theorem x_b {e : E} {K : Bool → G → Prop} : wB P C e r g K X = wE P C e r g (fun d g1 => match d with | .bl b => K b g1 | _ => False) X := rfl
@[simp ↓] theorem x_con {d : D} {K : Kd} : wE P C (.con d) r g K X = K d g := rfl
@[simp ↓] theorem x_var {i : Nat} {K : Kd} : wE P C (.var i) r g K X = (match r[i]? with | some (some (.val d)) => K d g | _ => False) := rfl
@[simp ↓] theorem x_glb {n : Nat} {K : Kd} : wE P C (.glb n) r g K X = (match P.glb[n]? with | some d => K d g | none => False) := rfl
@[simp ↓] theorem x_attr {o : E} {f : Nat} {K : Kd} : wE P C (.attr o f) r g K X = wE P C o r g (fun d g1 => match fldOf g1 d f with | some (.val x) => K x g1 | _ => False) X := rfl
@[simp ↓] theorem x_tup {es : Es} {K : Kd} : wE P C (.tup es) r g K X = wEs P C es r g (fun ds g1 => ds.length ≤ lineN ∧ K (.seq true ds) g1) X := rfl
@[simp ↓] theorem x_fz {c : Cr} {K : Kd} : wE P C (.fz c) r g K X = wC P C c r g (fun ct g1 => match ct with | .lst xs => K (.seq false xs) g1 | _ => False) X := rfl
@[simp ↓] theorem x_al {c : Cr} {K : Kd} : wE P C (.al c) r g K X = wC P C c r g (fun ct g1 => ∃ i, g1 i = none ∧ K (.ref i) (up g1 i (.ct ct))) X := rfl
@[simp ↓] theorem x_bin {o : Op} {a b : E} {K : Kd} : wE P C (.bin o a b) r g K X = wE P C a r g (fun x g1 => wE P C b r g1 (fun y g2 => wOp o x y fun z => K z g2) X) X := rfl
@[simp ↓] theorem x_neg {a : E} {K : Kd} : wE P C (.neg a) r g K X = wE P C a r g (fun x g1 => match x with | .int i => K (.int (-i)) g1 | _ => False) X := rfl
@[simp ↓] theorem x_not {a : E} {K : Kd} : wE P C (.not a) r g K X = wE P C a r g (fun x g1 => match x with | .bl b => K (.bl (!b)) g1 | _ => False) X := rfl
@[simp ↓] theorem x_bo {k : Bool} {es : Es} {K : Kd} : wE P C (.bo k es) r g K X = wBo P C k es r g K X := rfl
@[simp ↓] theorem x_bo1 {k : Bool} {e : E} {K : Kd} : wBo P C k (.cons e .nil) r g K X = wE P C e r g K X := rfl
@[simp ↓] theorem x_bo2 {k : Bool} {e e2 : E} {es : Es} {K : Kd} : wBo P C k (.cons e (.cons e2 es)) r g K X = wE P C e r g (fun d g1 => match d with
      | .bl b => if b = k then wBo P C k (.cons e2 es) r g1 K X else K (.bl b) g1
      | _ => False) X := rfl
@[simp ↓] theorem x_ife {c a b : E} {K : Kd} : wE P C (.ife c a b) r g K X = wE P C c r g (fun x g1 => match x with | .bl true => wE P C a r g1 K X | .bl false => wE P C b r g1 K X | _ => False) X := rfl
@[simp ↓] theorem x_cmp {o : Cm} {a b : E} {K : Kd} : wE P C (.cmp o a b) r g K X = wE P C a r g (fun x g1 => wE P C b r g1 (fun y g2 => wCm o x y fun z => K (.bl z) g2) X) X := rfl
@[simp ↓] theorem x_chain {o o' : Cm} {a b c : E} {K : Kd} : wE P C (.chain o o' a b c) r g K X = wE P C a r g (fun x g1 => wE P C b r g1 (fun y g2 => wCm o x y fun z => if z = true then wE P C c r g2 (fun u g3 => wCm o' y u fun z' => K (.bl z') g3) X else K (.bl false) g2) X) X := rfl
@[simp ↓] theorem x_isin {n : Bool} {a : E} {p : Pl} {K : Kd} : wE P C (.isin n a p) r g K X = wE P C a r g (fun x g1 => wP P C p r g1 (fun _ c g2 => match c with
      | .seq t xs => ((x.flat = true ∧ xs.all D.flat = true) ∨ (x.pure = true ∧ D.pures xs = true ∧ x.dep ≤ 60)) ∧ K (.bl (n != xs.any fun y => D.eqv y x)) g2
      | _ => False) X) X := rfl
@[simp ↓] theorem x_eqp {n : Bool} {p q : Pl} {K : Kd} : wE P C (.eqp n p q) r g K X = wP P C p r g (fun _ c g1 => wP P C q r g1 (fun _ c' g2 => match c, c' with
      | .seq t xs, .seq u ys => (D.pures xs = true ∧ D.pures ys = true ∧ min (D.deps xs) (D.deps ys) ≤ 59) ∧ K (.bl (n != D.eqv (.seq t xs) (.seq u ys))) g2
      | _, _ => False) X) X := rfl
@[simp ↓] theorem x_truth {p : Pl} {K : Kd} : wE P C (.truth p) r g K X = wP P C p r g (fun _ c g1 => match c with
      | .seq _ xs => K (.bl (!xs.isEmpty)) g1
      | _ => False) X := rfl
@[simp ↓] theorem x_call {f : Nat} {es : Es} {K : Kd} : wE P C (.call f es) r g K X = wEs P C es r g (fun ds g1 => C f ds g1 K X) X := rfl
@[simp ↓] theorem x_new {c : Nat} {es : Es} {K : Kd} : wE P C (.new c es) r g K X = wEs P C es r g (fun ds g1 => ∃ i, g1 i = none ∧ (match P.mth c P.init with
      | some f => C f (.ref i :: ds) (up g1 i (.ins c [])) (fun d g2 => d = .non ∧ K (.ref i) g2) X
      | none => False)) X := rfl
@[simp ↓] theorem x_callk {f : Nat} {xs : List D} {es : Es} {K : Kd} : wE P C (.callk f xs es) r g K X = wEs P C es r g (fun ds g1 => C f (ds ++ xs) g1 K X) X := rfl
@[simp ↓] theorem x_newk {c : Nat} {ks : List Str} {xs : List D} {es : Es} {K : Kd} : wE P C (.newk c ks xs es) r g K X = wEs P C es r g (fun ds g1 => ∃ i, g1 i = none ∧ (match P.mth c P.init with
      | some f => C f (.ref i :: (ds ++ xs)) (up g1 i (.ins c [])) (fun d g2 => d = .non ∧ K (.ref i) g2) X
      | none => False)) X := rfl
@[simp ↓] theorem x_meth {m : Nat} {o : E} {es : Es} {K : Kd} : wE P C (.meth m o es) r g K X = wE P C o r g (fun d g1 => match d with
      | .ref i => (match g1 i with
        | some (.ins c fs) => (match P.mth c m with
          | some f => getS m fs = none ∧ wEs P C es r g1 (fun ds g2 => C f (d :: ds) g2 K X) X
          | none => False)
        | _ => False)
      | _ => False) X := rfl
@[simp ↓] theorem x_bi {b : Bi} {es : Es} {K : Kd} : wE P C (.bi b es) r g K X = wEs P C es r g (fun ds g1 => wBi b ds fun z => K z g1) X := rfl
@[simp ↓] theorem x_isi {a : E} {t : Ty} {K : Kd} : wE P C (.isi a t) r g K X = wE P C a r g (fun x g1 => match tyOf g1 x t with | some b => K (.bl b) g1 | none => False) X := rfl
@[simp ↓] theorem x_excis {i c : Nat} {K : Kd} : wE P C (.excis i c) r g K X = (match r[i]? with | some (some (.exc e)) => K (.bl (P.catches e c)) g | _ => False) := rfl
@[simp ↓] theorem x_len {p : Pl} {K : Kd} : wE P C (.len p) r g K X = wP P C p r g (fun _ c g1 => lenOk c ∧ K (.int (lenCv c)) g1) X := rfl
@[simp ↓] theorem x_idx {p : Pl} {k : E} {K : Kd} : wE P C (.idx p k) r g K X = wP P C p r g (fun _ c g1 => wE P C k r g1 (fun d g2 => wIdx c d fun z => K z g2) X) X := rfl
@[simp ↓] theorem x_idxf {p : Pl} {k : E} {K : Kd} : wE P C (.idxf p k) r g K X = wP P C p r g (fun s c g1 => wE P C k r g1 (fun d g2 => s.kept c g2 ∧ wIdx c d fun z => K z g2) X) X := rfl
@[simp] theorem kp_no {c : Cv} : Src.no.kept c g = True := rfl
@[simp] theorem kp_obj {j : Id} {xs : List D} : (Src.obj j).kept (.seq false xs) g = (g j = some (.ct (.lst xs))) := rfl
@[simp ↓] theorem x_slcf {p : Pl} {lo hi : Oe} {K : Kd} : wE P C (.slcf p lo hi) r g K X = wP P C p r g (fun s c g1 => wO P C lo r g1 (fun a g2 => wO P C hi r g2 (fun b g3 => s = .no ∧ (match c with
      | .seq false xs => K (.seq false (sliceL xs a b)) g3
      | _ => False)) X) X) X := rfl
@[simp ↓] theorem x_slc {p : Pl} {lo hi : Oe} {K : Kd} : wE P C (.slc p lo hi) r g K X = wP P C p r g (fun _ c g1 => wO P C lo r g1 (fun a g2 => wO P C hi r g2 (fun b g3 => match c with
      | .seq t xs => K (.seq t (sliceL xs a b)) g3
      | _ => False) X) X) X := rfl
@[simp ↓] theorem x_totup {p : Pl} {K : Kd} : wE P C (.totup p) r g K X = wP P C p r g (fun _ c g1 => match c with
      | .seq _ xs => K (.seq true xs) g1
      | _ => False) X := rfl
@[simp ↓] theorem x_sum {p : Pl} {K : Kd} : wE P C (.sum p) r g K X = wP P C p r g (fun _ c g1 => match c with
      | .seq false xs => (match ints? xs with | some ns => K (.int ns.sum) g1 | none => False)
      | _ => False) X := rfl
@[simp ↓] theorem x_all {p : Pl} {K : Kd} : wE P C (.allof p) r g K X = wP P C p r g (fun _ c g1 => match c with
      | .seq false xs => (match bools? xs with | some bs => K (.bl (bs.all id)) g1 | none => False)
      | _ => False) X := rfl
@[simp ↓] theorem x_any {p : Pl} {K : Kd} : wE P C (.anyof p) r g K X = wP P C p r g (fun _ c g1 => match c with
      | .seq false xs => (match bools? xs with | some bs => K (.bl (bs.any id)) g1 | none => False)
      | _ => False) X := rfl
@[simp ↓] theorem x_dget {p : Pl} {k : E} {K : Kd} : wE P C (.dget p k) r g K X = wP P C p r g (fun _ c g1 => wE P C k r g1 (fun d g2 => match c with
      | .dct kvs => keysOk kvs d = true ∧ (match dGet kvs d with | some z => K z g2 | none => False)
      | _ => False) X) X := rfl
@[simp ↓] theorem x_din {n : Bool} {a : E} {p : Pl} {K : Kd} : wE P C (.din n a p) r g K X = wE P C a r g (fun x g1 => wP P C p r g1 (fun _ c g2 => match c with
      | .dct kvs => keysOk kvs x = true ∧ K (.bl (n != (dGet kvs x).isSome)) g2
      | _ => False) X) X := rfl
@[simp ↓] theorem x_dgt1 {p : Pl} {k : E} {K : Kd} : wE P C (.dgt1 p k) r g K X = wP P C p r g (fun _ c g1 => match c with
      | .dct kvs => wE P C k r g1 (fun d g2 => keysOk kvs d = true ∧ K ((dGet kvs d).getD .non) g2) X
      | _ => False) X := rfl
@[simp ↓] theorem x_dgt2 {p : Pl} {k x : E} {K : Kd} : wE P C (.dgt2 p k x) r g K X = wP P C p r g (fun _ c g1 => match c with
      | .dct kvs => wE P C k r g1 (fun d g2 => wE P C x r g2 (fun z g3 => keysOk kvs d = true ∧ K ((dGet kvs d).getD z) g3) X) X
      | _ => False) X := rfl
@[simp ↓] theorem x_dlen {p : Pl} {K : Kd} : wE P C (.dlen p) r g K X = wP P C p r g (fun _ c g1 => match c with
      | .dct kvs => K (.int kvs.length) g1
      | _ => False) X := rfl
@[simp ↓] theorem x_xb {b : Xb} {p : Pl} {es : Es} {K : Kd} : wE P C (.xb b p es) r g K X = wP P C p r g (fun _ c g1 => xbOk b c = true ∧ wEs P C es r g1 (fun ds g2 => wXb b c ds fun z => K z g2) X) X := rfl
@[simp ↓] theorem x_xc {b : Xc} {p : Pl} {K : Ct → G → Prop} : wC P C (.xc b p) r g K X = wP P C p r g (fun _ c g1 => wXc b c fun ct => K ct g1) X := rfl
@[simp ↓] theorem x_setlst {is : List Nat} {p : Pl} {K : Ks} : wS P C (.setlst is p) r g K = wP P C p r g (fun _ c g1 => match c with | .seq false xs => (match bindT (.tup is) (.seq true xs) r with | some r1 => K .nx r1 g1 | none => False) | _ => False) fun c g1 => K (.exc c) r g1 := rfl
@[simp ↓] theorem x_dlit {ks : List (Sum Int Str)} {es : Es} {K : Ct → G → Prop} : wC P C (.dlit ks es) r g K X = wEs P C es r g (fun ds g1 => ds.length = ks.length ∧ K (.dct ((ks.map kD).zip ds)) g1) X := rfl
@[simp ↓] theorem x_dsrt {p : Pl} {K : Ct → G → Prop} : wC P C (.dsrt p) r g K X = wP P C p r g (fun _ c g1 => match c with
      | .dct kvs => ∃ ss : List Str, kvs.map (·.1) = ss.map D.str ∧ ss.length < 64 ∧ ∀ ts : List Str, ts.Perm ss → PyProof.Rows.sortedS ts = true → K (.lst (ts.map .str)) g1
      | _ => False) X := rfl
@[simp ↓] theorem x_dnew {K : Ct → G → Prop} : wC P C .dnew r g K X = K (.dct []) g := rfl
@[simp ↓] theorem x_dcopy {p : Pl} {K : Ct → G → Prop} : wC P C (.dcopy p) r g K X = wP P C p r g (fun _ c g1 => match c with
      | .dct kvs => (kvs.all fun p => p.1.keyF) = true ∧ K (.dct kvs) g1
      | _ => False) X := rfl
@[simp ↓] theorem x_dvals {p : Pl} {K : Ct → G → Prop} : wC P C (.dvals p) r g K X = wP P C p r g (fun _ c g1 => match c with
      | .dct kvs => (kvs.all fun p => p.1.keyF) = true ∧ K (.lst (kvs.map (·.2))) g1
      | _ => False) X := rfl
@[simp ↓] theorem x_dput {p : Pl} {k e : E} {K : Ks} : wS P C (.dput p k e) r g K = wE P C e r g (fun d g1 => wP P C p r g1 (fun s c g2 => wE P C k r g2 (fun kd g3 => match c with
      | .dct kvs => keysOk kvs kd = true ∧ kvs.length < lineN ∧ s.okC (.dct kvs) r g3 ∧ putC s (.dct (dPut kvs kd d)) r g3 fun r1 g4 => K .nx r1 g4
      | _ => False) fun c g1 => K (.exc c) r g1) fun c g1 => K (.exc c) r g1) fun c g1 => K (.exc c) r g1 := rfl
@[simp ↓] theorem x_ddel {p : Pl} {k : E} {K : Ks} : wS P C (.ddel p k) r g K = wP P C p r g (fun s c g1 => wE P C k r g1 (fun kd g2 => match c with
      | .dct kvs => keysOk kvs kd = true ∧ (dGet kvs kd).isSome = true ∧ s.okC (.dct kvs) r g2 ∧ putC s (.dct (dDel kvs kd)) r g2 fun r1 g3 => K .nx r1 g3
      | _ => False) fun c g1 => K (.exc c) r g1) fun c g1 => K (.exc c) r g1 := rfl
@[simp ↓] theorem x_ono {K : Option Int → G → Prop} : wO P C .no r g K X = K none g := rfl
@[simp ↓] theorem x_oso {e : E} {K : Option Int → G → Prop} : wO P C (.so e) r g K X = wE P C e r g (fun d g1 => match d with | .int i => K (some i) g1 | _ => False) X := rfl
@[simp ↓] theorem x_esn {K : List D → G → Prop} : wEs P C .nil r g K X = K [] g := rfl
@[simp ↓] theorem x_esc {e : E} {es : Es} {K : List D → G → Prop} : wEs P C (.cons e es) r g K X = wE P C e r g (fun d g1 => wEs P C es r g1 (fun ds g2 => K (d :: ds) g2) X) X := rfl
/-! containers -/
@[simp ↓] theorem x_v {e : E} {K : Src → Cv → G → Prop} : wP P C (.v e) r g K X = wE P C e r g (fun d g1 => match cvOf g1 d with
      | some c => K (srcOf d) c g1
      | none => False) X := rfl
@[simp ↓] theorem x_loc {j : Nat} {K : Src → Cv → G → Prop} : wP P C (.loc j) r g K X = (match r[j]? with | some (some (.own c)) => K (.loc j) c.cv g | _ => False) := rfl
@[simp ↓] theorem x_fld {o : E} {f : Nat} {K : Src → Cv → G → Prop} : wP P C (.fld o f) r g K X = wE P C o r g (fun d g1 => match d with
      | .ref i => (match fldOf g1 d f with
        | some (.own c) => K (.fld i f) c.cv g1
        | _ => False)
      | _ => False) X := rfl
@[simp ↓] theorem x_lst {es : Es} {K : Ct → G → Prop} : wC P C (.lst es) r g K X = wEs P C es r g (fun ds g1 => ds.length ≤ lineN ∧ K (.lst ds) g1) X := rfl
@[simp ↓] theorem x_slice {p : Pl} {lo hi : Oe} {K : Ct → G → Prop} : wC P C (.slice p lo hi) r g K X = wP P C p r g (fun _ c g1 => wO P C lo r g1 (fun a g2 => wO P C hi r g2 (fun b g3 => match c with
      | .seq false xs => K (.lst (sliceL xs a b)) g3
      | _ => False) X) X) X := rfl
@[simp ↓] theorem x_tolist {p : Pl} {K : Ct → G → Prop} : wC P C (.tolist p) r g K X = wP P C p r g (fun _ c g1 => match c with
      | .seq _ xs => K (.lst xs) g1
      | _ => False) X := rfl
@[simp ↓] theorem x_catc {p q : Pl} {K : Ct → G → Prop} : wC P C (.catc p q) r g K X = wP P C p r g (fun s c g1 => wP P C q r g1 (fun s' c' g2 => match s, c, c' with
      | .obj j, .seq false xs, .seq false ys => (g2 j = some (.ct (.lst xs)) ∧ s'.notGiv = true) ∧ xs.length + ys.length ≤ lineN ∧ K (.lst (xs ++ ys)) g2
      | _, _, _ => False) X) X := rfl
@[simp ↓] theorem x_cat {p q : Pl} {K : Ct → G → Prop} : wC P C (.cat p q) r g K X = wP P C p r g (fun s c g1 => wP P C q r g1 (fun s' c' g2 => match c, c' with
      | .seq false xs, .seq false ys => (s.notGiv = true ∧ s'.notGiv = true) ∧ xs.length + ys.length ≤ lineN ∧ K (.lst (xs ++ ys)) g2
      | _, _ => False) X) X := rfl
theorem x_comp {own : List Nat} {t : Tg} {it : It} {c : Oe} {e : E} {K : Ct → G → Prop} : wC P C (.comp own t it c e) r g K X = (ownOk r own = true ∧ wI P C it r g (fun src xs g1 => ((simO c && simE e) || src.st) = true ∧
      wComp (fun g => if (simO c && simE e) = true then True else src.ok g) t (wipeR r own) (fun r1 g2 K2 => wT P C c r1 g2 K2) (fun r1 g2 K2 => wE P C e r1 g2 K2 fun _ _ => False) xs [] g1 fun acc g2 => K (.lst acc) g2) X) := rfl
theorem x_compd {own : List Nat} {t : Tg} {k : Dk} {p : Pl} {c : Oe} {e : E} {K : Ct → G → Prop} : wC P C (.compd own t k p c e) r g K X = ∃ src kvs ys, (ownOk r own = true ∧ kvs.length ≤ lineN ∧ src.ctB g = true) ∧ evP P p r g = some (src, .dct kvs) ∧ compV t (wipeR r own) (fun r1 => evT P c r1 g) (fun r1 => evE P e r1 g) (itemsD k kvs) = some ys ∧ K (.lst ys) g := rfl
theorem x_dcl {own : List Nat} {t : Tg} {it : It} {c : Oe} {k v : E} {K : Ct → G → Prop} : wC P C (.dcl own t it c k v) r g K X = wI P C it r g (fun _ xs g1 => (ownOk r own = true ∧ xs.length ≤ lineN) ∧ ∃ ys, dcV t (wipeR r own) (fun r1 => evT P c r1 g1) (fun r1 => evE P k r1 g1) (fun r1 => evE P v r1 g1) xs [] = some ys ∧ K (.dct ys) g1) X := rfl
theorem x_dcd {own : List Nat} {t : Tg} {w : Dk} {p : Pl} {c : Oe} {k v : E} {K : Ct → G → Prop} : wC P C (.dcd own t w p c k v) r g K X = ∃ src kvs ys, (ownOk r own = true ∧ kvs.length ≤ lineN ∧ src.ctB g = true) ∧ evP P p r g = some (src, .dct kvs) ∧ dcV t (wipeR r own) (fun r1 => evT P c r1 g) (fun r1 => evE P k r1 g) (fun r1 => evE P v r1 g) (itemsD w kvs) [] = some ys ∧ K (.dct ys) g := rfl
@[simp ↓] theorem x_tno {K : Bool → G → Prop} : wT P C .no r g K = K true g := rfl
@[simp ↓] theorem x_tso {e : E} {K : Bool → G → Prop} : wT P C (.so e) r g K = wE P C e r g (fun d g1 => match d with | .bl b => K b g1 | _ => False) fun _ _ => False := rfl
@[simp ↓] theorem x_ipl {p : Pl} {K : Ws → List D → G → Prop} : wI P C (.pl p) r g K X = wP P C p r g (fun s c g1 => match c with
      | .seq _ xs => K (wsOf s xs) xs g1
      | _ => False) X := rfl
@[simp ↓] theorem x_rng1 {e : E} {K : Ws → List D → G → Prop} : wI P C (.rng1 e) r g K X = wE P C e r g (fun d g1 => match d with
      | .int j => (-(2 ^ 62) ≤ j ∧ j < 2 ^ 62) ∧ K .no ((List.range j.toNat).map fun (n : Nat) => D.int (n : Int)) g1
      | _ => False) X := rfl
@[simp ↓] theorem x_rng2 {a b : E} {K : Ws → List D → G → Prop} : wI P C (.rng2 a b) r g K X = wE P C a r g (fun x g1 => wE P C b r g1 (fun y g2 => match x, y with
      | .int i, .int j => (-(2 ^ 62) ≤ i ∧ i < 2 ^ 62 ∧ -(2 ^ 62) ≤ j ∧ j < 2 ^ 62) ∧ K .no ((List.range (j - i).toNat).map fun (n : Nat) => D.int (i + (n : Int))) g2
      | _, _ => False) X) X := rfl
@[simp ↓] theorem x_enum {p : Pl} {K : Ws → List D → G → Prop} : wI P C (.enum p) r g K X = wP P C p r g (fun s c g1 => match c with
      | .seq false xs => K (wsOf s xs) (xs.zipIdx.map fun q => .seq true [.int q.2, q.1]) g1
      | _ => False) X := rfl
/-! operators -/
variable {i j : Int} {K : D → Prop} {Kb : Bool → Prop}
@[simp ↓] theorem o_add : wOp .add (.int i) (.int j) K = K (.int (i + j)) := rfl
@[simp ↓] theorem o_sub : wOp .sub (.int i) (.int j) K = K (.int (i - j)) := rfl
@[simp ↓] theorem o_mul : wOp .mul (.int i) (.int j) K = (mulOk i j ∧ K (.int (i * j))) := rfl
@[simp ↓] theorem o_muls {a : Str} : wOp .mul (.str a) (.int i) K = ((-1000 ≤ i ∧ i ≤ 1000 ∧ a.length ≤ 1000) ∧ K (.str (strRep a i))) := rfl
@[simp ↓] theorem o_fdiv : wOp .fdiv (.int i) (.int j) K = ((j ≠ 0 ∧ j.natAbs < 1073741824) ∧ K (.int (i.fdiv j))) := rfl
@[simp ↓] theorem o_fdw : wOp .fdw (.int i) (.int j) K = ((0 < j ∧ j.natAbs.log2 < 9000) ∧ K (.int (i / j))) := rfl
@[simp ↓] theorem o_mlw : wOp .mlw (.int i) (.int j) K = ((i.natAbs.log2 + j.natAbs.log2 < 1000000) ∧ K (.int (i * j))) := rfl
@[simp ↓] theorem o_mod : wOp .mod (.int i) (.int j) K = (j ≠ 0 ∧ K (.int (i.fmod j))) := rfl
@[simp ↓] theorem o_pow : wOp .pow (.int i) (.int j) K = ((0 ≤ j ∧ j ≤ 1000000 ∧ i.natAbs < 2 ^ 64) ∧ K (.int (i ^ j.toNat))) := rfl
@[simp ↓] theorem o_adds {a b : Str} : wOp .add (.str a) (.str b) K = (a.length + b.length ≤ lineN ∧ K (.str (a ++ b))) := rfl
@[simp ↓] theorem o_addt {a b : List D} : wOp .add (.seq true a) (.seq true b) K = (a.length + b.length ≤ lineN ∧ K (.seq true (a ++ b))) := rfl
variable {x y : D}
@[simp ↓] theorem m_eq : wCm .eq x y Kb = (D.eqOk x y = true ∧ Kb (D.eqv x y)) := rfl
@[simp ↓] theorem m_ne : wCm .ne x y Kb = (D.eqOk x y = true ∧ Kb (!D.eqv x y)) := rfl
@[simp ↓] theorem m_lt : wCm .lt (.int i) (.int j) Kb = Kb (decide (i < j)) := rfl
@[simp ↓] theorem m_le : wCm .le (.int i) (.int j) Kb = Kb (decide (i ≤ j)) := rfl
@[simp ↓] theorem m_gt : wCm .gt (.int i) (.int j) Kb = Kb (decide (j < i)) := rfl
@[simp ↓] theorem m_ge : wCm .ge (.int i) (.int j) Kb = Kb (decide (j ≤ i)) := rfl
@[simp ↓] theorem m_isn : wCm .is_ x .non Kb = Kb (decide (x = .non)) := rfl
@[simp ↓] theorem m_isb {a b : Bool} : wCm .is_ (.bl a) (.bl b) Kb = Kb (decide (a = b)) := rfl
@[simp ↓] theorem m_ntn : wCm .isnot x .non Kb = Kb (!decide (x = .non)) := rfl
@[simp ↓] theorem m_ntb {a b : Bool} : wCm .isnot (.bl a) (.bl b) Kb = Kb (!decide (a = b)) := rfl
@[simp ↓] theorem b_abs : wBi .abs [.int i] K = K (.int (if i < 0 then -i else i)) := rfl
@[simp ↓] theorem b_min : wBi .min2 [.int i, .int j] K = K (.int (if j < i then j else i)) := rfl
@[simp ↓] theorem b_max : wBi .max2 [.int i, .int j] K = K (.int (if j > i then j else i)) := rfl
@[simp ↓] theorem b_int : wBi .int1 [.int i] K = K (.int i) := rfl
@[simp ↓] theorem b_intb {b : Bool} : wBi .int1 [.bl b] K = K (.int (if b then 1 else 0)) := rfl
@[simp ↓] theorem b_str : wBi .str1 [.int i] K = (i.natAbs.log2 < 1920 ∧ K (.str (toString i))) := rfl
@[simp ↓] theorem i_seq {t : Bool} {xs : List D} : wIdx (.seq t xs) (.int i) K = (match L2.atI xs i with | some d => K d | none => False) := rfl
/-! readings -/
@[simp] theorem cv_seq {t : Bool} {xs : List D} : cvOf g (.seq t xs) = some (.seq t xs) := rfl
@[simp] theorem cv_str {s : Str} : cvOf g (.str s) = some (.str s) := rfl
@[simp] theorem cv_giv {ns : List Int} : cvOf g (.giv ns) = some (.seq false (ns.map D.int)) := rfl
@[simp] theorem cv_ref {i : Id} : cvOf g (.ref i) = (match g i with | some (.ct c) => some c.cv | some (.lkd k _ _) => some (.dct k) | _ => none) := rfl
@[simp] theorem fl_ref {i : Id} {f : Nat} : fldOf g (.ref i) f = (match g i with | some (.ins _ fs) => getS f fs | _ => none) := rfl
@[simp] theorem cv_lst {xs : List D} : (Ct.lst xs).cv = .seq false xs := rfl
@[simp] theorem sr_ref {i : Id} : srcOf (.ref i) = .obj i := rfl
@[simp] theorem sr_seq {t : Bool} {xs : List D} : srcOf (.seq t xs) = .no := rfl
@[simp] theorem sr_str {s : Str} : srcOf (.str s) = .no := rfl
@[simp] theorem sr_giv {ns : List Int} : srcOf (.giv ns) = .giv := rfl
@[simp] theorem ln_seq {t : Bool} {xs : List D} : lenCv (.seq t xs) = xs.length := rfl
@[simp] theorem ln_str {s : Str} : lenCv (.str s) = s.length := rfl
@[simp] theorem lo_seq {t : Bool} {xs : List D} : lenOk (.seq t xs) = True := rfl
@[simp] theorem lo_str {s : Str} : lenOk (.str s) = (s.length ≤ lineN) := rfl
@[simp] theorem ok_obj {i : Id} {xs : List D} : Src.ok xs r g (.obj i) = (g i = some (.ct (.lst xs))) := rfl
@[simp] theorem ok_loc {j : Nat} {xs : List D} : Src.ok xs r g (.loc j) = (r[j]? = some (some (.own (.lst xs)))) := rfl
@[simp] theorem ok_fld {i : Id} {f : Nat} {xs : List D} : Src.ok xs r g (.fld i f) = (match g i with | some (.ins _ fs) => getS f fs = some (.own (.lst xs)) | _ => False) := by
  refine propext ⟨fun ⟨cl, fs, h1, h2⟩ => by rw [h1]; exact h2, fun h => ?_⟩
  split at h
  · rename_i cl fs e
    exact ⟨cl, fs, e, h⟩
  · exact h.elim
@[simp] theorem pt_obj {i : Id} {xs : List D} {K : Rho → G → Prop} : putP (.obj i) xs r g K = K r (up g i (.ct (.lst xs))) := rfl
@[simp] theorem pt_loc {j : Nat} {xs : List D} {K : Rho → G → Prop} : putP (.loc j) xs r g K = K (r.set j (some (.own (.lst xs)))) g := rfl
@[simp] theorem pt_fld {i : Id} {f : Nat} {xs : List D} {K : Rho → G → Prop} : putP (.fld i f) xs r g K = (match g i with | some (.ins c fs) => K r (up g i (.ins c (putS f (.own (.lst xs)) fs))) | _ => False) := rfl
@[simp] theorem cv_dct {kvs : List (D × D)} : (Ct.dct kvs).cv = .dct kvs := rfl
@[simp] theorem okc_obj {i : Id} {c : Ct} : Src.okC c r g (.obj i) = (g i = some (.ct c)) := rfl
@[simp] theorem okc_loc {j : Nat} {c : Ct} : Src.okC c r g (.loc j) = (r[j]? = some (some (.own c))) := rfl
@[simp] theorem okc_fld {i : Id} {f : Nat} {c : Ct} : Src.okC c r g (.fld i f) = (match g i with | some (.ins _ fs) => getS f fs = some (.own c) | _ => False) := by
  refine propext ⟨fun ⟨cl, fs, h1, h2⟩ => by rw [h1]; exact h2, fun h => ?_⟩
  split at h
  · rename_i cl fs e
    exact ⟨cl, fs, e, h⟩
  · exact h.elim
@[simp] theorem gS_nil {f : Nat} : getS f [] = none := rfl
@[simp] theorem gS_cons {f k : Nat} {x : Sl} {l : List (Nat × Sl)} : getS f ((k, x) :: l) = if k = f then some x else getS f l := rfl
@[simp] theorem pS_nil {f : Nat} {x : Sl} : putS f x [] = [(f, x)] := rfl
@[simp] theorem pS_cons {f k : Nat} {x y : Sl} {l : List (Nat × Sl)} : putS f y ((k, x) :: l) = if k = f then (k, y) :: l else (k, x) :: putS f y l := rfl
@[simp] theorem le_line' {n : Nat} : (n ≤ lineN) = (n ≤ 1000000) := rfl
@[simp] theorem lt_line' {n : Nat} : (n < lineN) = (n < 1000000) := rfl
@[simp] theorem ptc_obj {i : Id} {c : Ct} {K : Rho → G → Prop} : putC (.obj i) c r g K = K r (up g i (.ct c)) := rfl
@[simp] theorem ptc_loc {j : Nat} {c : Ct} {K : Rho → G → Prop} : putC (.loc j) c r g K = K (r.set j (some (.own c))) g := rfl
@[simp] theorem ptc_fld {i : Id} {f : Nat} {c : Ct} {K : Rho → G → Prop} : putC (.fld i f) c r g K = (match g i with | some (.ins cl fs) => K r (up g i (.ins cl (putS f (.own c) fs))) | _ => False) := rfl
@[simp] theorem ws_no {xs : List D} : wsOf .no xs = .no := rfl
@[simp] theorem ws_giv {xs : List D} : wsOf .giv xs = .no := rfl
@[simp] theorem ws_obj {i : Id} {xs : List D} : wsOf (.obj i) xs = .ob i xs := rfl
@[simp] theorem ws_sn : Ws.no.st = true := rfl
@[simp] theorem ws_so {i : Id} {xs : List D} : (Ws.ob i xs).st = true := rfl
@[simp] theorem wo_n : Ws.no.ok g = True := rfl
@[simp] theorem wo_o {i : Id} {xs : List D} : (Ws.ob i xs).ok g = (g i = some (.ct (.lst xs))) := rfl
@[simp] theorem nf_o {i : Id} : (Src.obj i).notFld = true := rfl
@[simp] theorem nf_l {i : Nat} : (Src.loc i).notFld = true := rfl
@[simp] theorem ng_o {i : Id} : (Src.obj i).notGiv = true := rfl
@[simp] theorem ng_l {i : Nat} : (Src.loc i).notGiv = true := rfl
@[simp] theorem ng_f {i : Id} {f : Nat} : (Src.fld i f).notGiv = true := rfl
@[simp] theorem ng_n : Src.no.notGiv = true := rfl
@[simp] theorem q_ii : D.eqOk (.int i) (.int j) = true := rfl
@[simp] theorem q_ss {a b : Str} : D.eqOk (.str a) (.str b) = true := rfl
@[simp] theorem q_bb {a b : Bool} : D.eqOk (.bl a) (.bl b) = true := rfl
@[simp] theorem v_ii : D.eqv (.int i) (.int j) = decide (i = j) := by by_cases h : i = j <;> simp [D.eqv, h]
@[simp] theorem v_ss {a b : Str} : D.eqv (.str a) (.str b) = decide (a = b) := by by_cases h : a = b <;> simp [D.eqv, h]
@[simp] theorem v_bb {a b : Bool} : D.eqv (.bl a) (.bl b) = decide (a = b) := by by_cases h : a = b <;> simp [D.eqv, h]
@[simp] theorem v_nn : D.eqv .non .non = true := rfl
@[simp] theorem t_seq {t : Bool} {xs : List D} {k : Ty} : tyOf g (.seq t xs) k = some (if t = true then k == .tuple else k == .list) := by cases t <;> rfl
@[simp] theorem t_int {k : Ty} : tyOf g (.int i) k = some (k == .int) := rfl
@[simp] theorem t_str {s : Str} {k : Ty} : tyOf g (.str s) k = some (k == .str) := rfl
@[simp] theorem t_bl {b : Bool} {k : Ty} : tyOf g (.bl b) k = some (k == .bool || k == .int) := rfl
@[simp] theorem t_non {k : Ty} : tyOf g .non k = some false := rfl
@[simp] theorem up_at {i j : Id} {o : Ob} : up g i o j = if j = i then some o else g j := rfl
@[simp] theorem upup {i : Id} {a b : Ob} : up (up g i a) i b = up g i b := up_up g i a b
end
/-! binding, def by def -/
def BdOk (d : He.DefD) (ps : List Str) : Prop := ∀ (kV doc pm : Value) (an : Option Addr) (cdv ct : Value) (us : List Value), us.length = ps.length →
  bindArgs (PySem.W.fnOf d.name d.qual d.params d.body d.scope .none kV doc pm an cdv ct) ⟨us, []⟩ = pure (ps.zip us)
def BdAll (n : Nat → Bool) : Nat → List He.DefD → List (List Str) → Prop
  | _, [], _ => True
  | _, _ :: _, [] => False
  | k, d :: ds, p :: ps => (n k = true → BdOk d p) ∧ BdAll n (k + 1) ds ps
theorem bd_at {n : Nat → Bool} : ∀ (ds : List He.DefD) (k : Nat) (ps : List (List Str)), BdAll n k ds ps → ∀ f d, n (k + f) = true → ds[f]? = some d → BdOk d (ps.getD f [])
  | [], _, _, _, f, d, _, h => by cases h
  | _ :: _, _, [], h, _, _, _, _ => h.elim
  | d :: ds, k, p :: ps, h, 0, d', hn, e => by
    cases e
    exact h.1 hn
  | d :: ds, k, p :: ps, h, f + 1, d', hn, e => by
    have e : ds[f]? = some d' := e
    exact bd_at ds (k + 1) ps h.2 f d' (by rw [show k + 1 + f = k + (f + 1) by omega]; exact hn) e
theorem bindAll {t : Tab} (h : BdAll t.n.plain 0 t.defs t.ps) : BindOk t := fun f d hp hd => bd_at t.defs 0 t.ps h f d (by rw [Nat.zero_add]; exact hp) hd
end Vb

set_option maxHeartbeats 4000000
/-! The plain layer, part 22: tables that number their values; short ways. -/
namespace Vb
open PySem
@[simp ↓] theorem x_popat {P : Pg} {C : Call} {r : Rho} {g : G} {X : Kx} {p : Pl} {k : E} {K : Kd} : wE P C (.popat p k) r g K X = wP P C p r g (fun s c g1 => match c, s with
      | .seq false xs, .obj j => wE P C k r g1 (fun d g2 => match d with
        | .int i => (match idxN i xs.length with
          | some n => (match xs[n]? with | some z => (xs.length ≤ lineN ∧ g2 j = some (.ct (.lst xs))) ∧ K z (up g2 j (.ct (.lst (xs.eraseIdx n)))) | none => False)
          | none => False)
        | _ => False) X
      | _, _ => False) X := rfl
@[simp ↓] theorem x_pop0 {P : Pg} {C : Call} {r : Rho} {g : G} {X : Kx} {p : Pl} {K : Kd} : wE P C (.pop0 p) r g K X = wP P C p r g (fun s c g1 => match c, s with
      | .seq false xs, .obj j => g1 j = some (.ct (.lst xs)) ∧ (match xs[xs.length - 1]? with | some z => K z (up g1 j (.ct (.lst xs.dropLast))) | none => False)
      | _, _ => False) X := rfl
@[simp] theorem tb_int_int : (Ty.int == Ty.int) = true := rfl
@[simp] theorem tb_int_bool : (Ty.int == Ty.bool) = false := rfl
@[simp] theorem tb_int_str : (Ty.int == Ty.str) = false := rfl
@[simp] theorem tb_int_tuple : (Ty.int == Ty.tuple) = false := rfl
@[simp] theorem tb_int_list : (Ty.int == Ty.list) = false := rfl
@[simp] theorem tb_int_dict : (Ty.int == Ty.dict) = false := rfl
@[simp] theorem tb_bool_int : (Ty.bool == Ty.int) = false := rfl
@[simp] theorem tb_bool_bool : (Ty.bool == Ty.bool) = true := rfl
@[simp] theorem tb_bool_str : (Ty.bool == Ty.str) = false := rfl
@[simp] theorem tb_bool_tuple : (Ty.bool == Ty.tuple) = false := rfl
@[simp] theorem tb_bool_list : (Ty.bool == Ty.list) = false := rfl
@[simp] theorem tb_bool_dict : (Ty.bool == Ty.dict) = false := rfl
@[simp] theorem tb_str_int : (Ty.str == Ty.int) = false := rfl
@[simp] theorem tb_str_bool : (Ty.str == Ty.bool) = false := rfl
@[simp] theorem tb_str_str : (Ty.str == Ty.str) = true := rfl
@[simp] theorem tb_str_tuple : (Ty.str == Ty.tuple) = false := rfl
@[simp] theorem tb_str_list : (Ty.str == Ty.list) = false := rfl
@[simp] theorem tb_str_dict : (Ty.str == Ty.dict) = false := rfl
@[simp] theorem tb_tuple_int : (Ty.tuple == Ty.int) = false := rfl
@[simp] theorem tb_tuple_bool : (Ty.tuple == Ty.bool) = false := rfl
@[simp] theorem tb_tuple_str : (Ty.tuple == Ty.str) = false := rfl
@[simp] theorem tb_tuple_tuple : (Ty.tuple == Ty.tuple) = true := rfl
@[simp] theorem tb_tuple_list : (Ty.tuple == Ty.list) = false := rfl
@[simp] theorem tb_tuple_dict : (Ty.tuple == Ty.dict) = false := rfl
@[simp] theorem tb_list_int : (Ty.list == Ty.int) = false := rfl
@[simp] theorem tb_list_bool : (Ty.list == Ty.bool) = false := rfl
@[simp] theorem tb_list_str : (Ty.list == Ty.str) = false := rfl
@[simp] theorem tb_list_tuple : (Ty.list == Ty.tuple) = false := rfl
@[simp] theorem tb_list_list : (Ty.list == Ty.list) = true := rfl
@[simp] theorem tb_list_dict : (Ty.list == Ty.dict) = false := rfl
@[simp] theorem tb_dict_int : (Ty.dict == Ty.int) = false := rfl
@[simp] theorem tb_dict_bool : (Ty.dict == Ty.bool) = false := rfl
@[simp] theorem tb_dict_str : (Ty.dict == Ty.str) = false := rfl
@[simp] theorem tb_dict_tuple : (Ty.dict == Ty.tuple) = false := rfl
@[simp] theorem tb_dict_list : (Ty.dict == Ty.list) = false := rfl
@[simp] theorem tb_dict_dict : (Ty.dict == Ty.dict) = true := rfl
/-- a table's dict: each value's number -/
def numD (vs : List D) : List (D × D) := vs.zipIdx.map fun q => (q.1, .int (q.2 : Nat))
/-- a value put into the table, if it is not there -/
def addD (vs : List D) (v : D) : List D := if v ∈ vs then vs else vs ++ [v]
theorem dGet_zip (v : D) : ∀ (vs : List D) (n : Nat), dGet ((vs.zipIdx n).map fun q => (q.1, D.int (q.2 : Nat))) v = if v ∈ vs then some (.int ((n + vs.idxOf v : Nat))) else none
  | [], n => by simp [dGet]
  | x :: vs, n => by
    rw [List.zipIdx_cons, List.map_cons, dGet_cons, dGet_zip v vs (n + 1)]
    by_cases e : x = v
    · subst e
      simp
    · have e' : ¬ v = x := fun z => e z.symm
      have ix : (x :: vs).idxOf v = vs.idxOf v + 1 := by
        rw [List.idxOf_cons]
        have : (x == v) = false := by simpa using e
        rw [this]
        rfl
      rw [if_neg e, ix]
      by_cases m : v ∈ vs
      · simp [m]
        omega
      · simp [m, e']
theorem dGet_num {vs : List D} {v : D} : dGet (numD vs) v = if v ∈ vs then some (.int (vs.idxOf v : Nat)) else none := by
  unfold numD
  rw [dGet_zip v vs 0]
  simp
theorem num_snoc {vs : List D} {v : D} (h : v ∉ vs) : dPut (numD vs) v (.int (vs.length : Nat)) = numD (vs ++ [v]) := by
  unfold dPut
  rw [dGet_any, dGet_num, if_neg h]
  simp [numD, List.zipIdx_append]
theorem num_keys {vs : List D} {p : D → Bool} : ((numD vs).all fun q => p q.1) = vs.all p := by
  have : ∀ (vs : List D) (n : Nat), (((vs.zipIdx n).map fun q => (q.1, D.int (q.2 : Nat))).all fun q => p q.1) = vs.all p := by
    intro vs
    induction vs with
    | nil => intro n; rfl
    | cons x vs ih =>
      intro n
      simp only [List.zipIdx_cons, List.map_cons, List.all_cons, ih (n + 1)]
  exact this vs 0
@[simp] theorem num_len {vs : List D} : (numD vs).length = vs.length := by simp [numD]
theorem num_ok {vs : List D} {v : D} (h : v.keyT = true) (ha : vs.all D.keyT = true) : keysOk (numD vs) v = true := by
  unfold keysOk
  rw [num_keys (p := D.keyF), num_keys (p := D.keyT), h, ha]
  simp
theorem addD_mem {vs : List D} {v : D} : v ∈ addD vs v := by
  unfold addD
  split
  · assumption
  · simp
theorem addD_nodup {vs : List D} {v : D} (h : vs.Nodup) : (addD vs v).Nodup := by
  unfold addD
  split
  · exact h
  · rename_i m
    rw [List.nodup_append]
    exact ⟨h, by simp, fun a ha b hb z => by
      simp at hb
      exact m (by rw [← hb, ← z]; exact ha)⟩
theorem addD_pre {vs : List D} {v : D} : vs <+: addD vs v := by
  unfold addD
  split
  · exact List.prefix_refl _
  · exact List.prefix_append _ _
theorem addD_all {vs : List D} {v : D} {p : D → Bool} (h : vs.all p = true) (hv : p v = true) : (addD vs v).all p = true := by
  unfold addD
  split
  · exact h
  · simp only [List.all_append, h, List.all_cons, hv, List.all_nil, Bool.and_self]
theorem addD_len {vs : List D} {v : D} : (addD vs v).length ≤ vs.length + 1 := by
  unfold addD
  split <;> simp
theorem addD_at {vs : List D} {v : D} : (addD vs v)[(addD vs v).idxOf v]? = some v := by
  have h := List.idxOf_lt_length_of_mem (addD_mem (vs := vs) (v := v))
  rw [List.getElem?_eq_getElem h, List.getElem_idxOf h]
theorem nd_at {vs : List D} (h : vs.Nodup) {a b : Nat} {v : D} (ha : vs[a]? = some v) (hb : vs[b]? = some v) : a = b := by
  have la := (List.getElem?_eq_some_iff.mp ha).1
  exact (List.getElem?_inj la h).mp (ha.trans hb.symm)
theorem pre_at {vs ws : List D} (h : vs <+: ws) {a : Nat} {v : D} (ha : vs[a]? = some v) : ws[a]? = some v := by
  obtain ⟨t, rfl⟩ := h
  rw [List.getElem?_append_left (List.getElem?_eq_some_iff.mp ha).1]
  exact ha
theorem slice_to {α : Type} {xs : List α} {k : Nat} (h : k ≤ xs.length) : sliceL xs none (some (k : Int)) = xs.take k := by
  unfold sliceL
  rw [HT.sIx_none, HT.sIx_nat, Nat.min_eq_left h]
  simp
theorem slice_from {α : Type} {xs : List α} {k : Nat} (h : k ≤ xs.length) : sliceL xs (some (k : Int)) none = xs.drop k := by
  unfold sliceL
  rw [HT.sIx_none, HT.sIx_nat, Nat.min_eq_left h]
  exact List.take_of_length_le (by simp)
/-- a power of two below -/
theorem pow_below : ∀ n : Nat, 2 ≤ n → ∃ k, 2 ^ k < n ∧ n ≤ 2 * 2 ^ k := by
  intro n hn
  refine ⟨Nat.log2 (n - 1), ?_, ?_⟩
  · have := Nat.log2_self_le (n := n - 1) (by omega)
    omega
  · have := Nat.lt_log2_self (n := n - 1)
    rw [Nat.pow_succ] at this
    omega
theorem pow_uniq {n j k : Nat} (a : 2 ^ j < n) (b : n ≤ 2 * 2 ^ j) (c : 2 ^ k < n) (d : n ≤ 2 * 2 ^ k) : j = k := by
  rcases Nat.lt_trichotomy j k with h | h | h
  · have := Nat.pow_le_pow_right (n := 2) (by decide) (show j + 1 ≤ k from h)
    rw [Nat.pow_succ] at this
    omega
  · exact h
  · have := Nat.pow_le_pow_right (n := 2) (by decide) (show k + 1 ≤ j from h)
    rw [Nat.pow_succ] at this
    omega
theorem eqvs_int2 : ∀ xs ys : List Int, D.eqvs (xs.map .int) (ys.map .int) = decide (xs = ys)
  | [], [] => rfl
  | [], _ :: _ => rfl
  | _ :: _, [] => rfl
  | x :: xs, y :: ys => by
    simp only [List.map_cons, D.eqvs, eqvs_int2 xs ys, v_ii]
    by_cases h : x = y <;> simp [h]
theorem eqv_int2 {t : Bool} {xs ys : List Int} : D.eqv (.seq t (xs.map .int)) (.seq t (ys.map .int)) = decide (xs = ys) := by
  simp [D.eqv, eqvs_int2]
/-- a comprehension with a test, by an invariant -/
theorem comp_inv2 {ok : G → Prop} {t : Tg} {r0 : Rho} {test : Rho → G → (Bool → G → Prop) → Prop} {elt : Rho → G → Kd → Prop} {K : List D → G → Prop} (I : Nat → List D → G → Prop) : ∀ (xs all : List D) (n : Nat) (acc : List D) (g : G), all.drop n = xs → n ≤ all.length → I n acc g → (∀ n acc g, I n acc g → ok g ∧ (n < all.length → acc.length < lineN)) →
    (∀ (n : Nat) (x : D) (acc : List D) (g : G) (Kt : Kd) (Kn : G → Prop), all[n]? = some x → I n acc g → (∀ d g2, I (n + 1) (acc ++ [d]) g2 → Kt d g2) → (∀ g2, I (n + 1) acc g2 → Kn g2) → ∃ r1, bindT t x r0 = some r1 ∧ test r1 g fun b g1 => if b = true then elt r1 g1 Kt else Kn g1) → (∀ acc g, I all.length acc g → K acc g) → wComp ok t r0 test elt xs acc g K
  | [], all, n, acc, g, hd, hn, hi, ok, _, he => by
    have hl : all.length ≤ n := by
      rcases Nat.lt_or_ge n all.length with l | l
      · have := congrArg List.length hd
        simp at this
        omega
      · exact l
    have q : n = all.length := by omega
    subst q
    exact ⟨(ok _ _ _ hi).1, he _ _ hi⟩
  | x :: xs, all, n, acc, g, hd, hn, hi, ok, st, he => by
    have hx : all[n]? = some x := by
      have := congrArg (fun l => l[0]?) hd
      simpa using this
    refine ⟨(ok _ _ _ hi).1, ?_⟩
    have hd' : all.drop (n + 1) = xs := by
      rw [← List.drop_drop, hd]
      rfl
    have lt : n < all.length := by
      rcases Nat.lt_or_ge n all.length with l | l
      · exact l
      · rw [List.getElem?_eq_none l] at hx
        cases hx
    obtain ⟨r1, h1, h2⟩ := st n x acc g (fun d g2 => acc.length < lineN ∧ wComp ‹G → Prop› t r0 test elt xs (acc ++ [d]) g2 K) (fun g2 => wComp ‹G → Prop› t r0 test elt xs acc g2 K) hx hi (fun d g2 h => ⟨(ok _ _ _ hi).2 lt, comp_inv2 I xs all (n + 1) (acc ++ [d]) g2 hd' lt h ok st he⟩) (fun g2 h => comp_inv2 I xs all (n + 1) acc g2 hd' lt h ok st he)
    rw [h1]
    exact h2
end Vb

set_option maxHeartbeats 4000000
/-! The plain layer, part 23: loops over ranges and other short ways. -/
namespace Vb
open PySem
theorem rng_at {n k : Nat} {x : D} (h : ((List.range n).map fun (k : Nat) => D.int (k : Int))[k]? = some x) : k < n ∧ x = .int (k : Int) := by
  rw [List.getElem?_map] at h
  obtain ⟨z, hz, rfl⟩ := Option.map_eq_some_iff.mp h
  have l := (List.getElem?_eq_some_iff.mp hz).1
  rw [List.length_range] at l
  rw [List.getElem?_range l] at hz
  cases hz
  exact ⟨l, rfl⟩
/-- a loop over a range by an invariant -/
theorem for_rng {i N : Nat} {body : Rho → G → Ks → Prop} {K : Ks} (I : Nat → Rho → G → Prop) {r : Rho} {g : G} (h0 : I 0 r g)
    (st : ∀ (n : Nat) (r : Rho) (g : G) (Kc : Ks), n < N → I n r g → (∀ r2 g2, I (n + 1) r2 g2 → Kc .nx r2 g2 ∧ Kc .cnt r2 g2) → (∀ r2 g2, K .nx r2 g2 → Kc .brk r2 g2) → (∀ d r2 g2, K (.ret d) r2 g2 → Kc (.ret d) r2 g2) → (∀ c r2 g2, K (.exc c) r2 g2 → Kc (.exc c) r2 g2) → body (r.set i (some (.val (.int (n : Int))))) g Kc)
    (he : ∀ r g, I N r g → K .nx r g) : wFor .no (.slot i) body ((List.range N).map fun (k : Nat) => D.int (k : Int)) r g K := by
  have hl : ((List.range N).map fun (k : Nat) => D.int (k : Int)).length = N := by simp
  refine for_inv I _ _ 0 _ _ rfl (Nat.zero_le _) h0 (fun _ _ _ _ => True.intro) (fun n x r g Kc hx hi a b c d => ?_) (fun r g h => he r g (by rw [hl] at h; exact h))
  obtain ⟨l, rfl⟩ := rng_at hx
  exact ⟨_, rfl, st n r g Kc l hi a b c d⟩
/-- a loop over frozen items by an invariant -/
theorem for_lst {i : Nat} {α : Type} {c : α → D} {xs : List α} {body : Rho → G → Ks → Prop} {K : Ks} (I : Nat → Rho → G → Prop) {r : Rho} {g : G} (h0 : I 0 r g)
    (st : ∀ (n : Nat) (x : α) (r : Rho) (g : G) (Kc : Ks), xs[n]? = some x → I n r g → (∀ r2 g2, I (n + 1) r2 g2 → Kc .nx r2 g2 ∧ Kc .cnt r2 g2) → (∀ r2 g2, K .nx r2 g2 → Kc .brk r2 g2) → (∀ d r2 g2, K (.ret d) r2 g2 → Kc (.ret d) r2 g2) → (∀ c r2 g2, K (.exc c) r2 g2 → Kc (.exc c) r2 g2) → body (r.set i (some (.val (c x)))) g Kc)
    (he : ∀ r g, I xs.length r g → K .nx r g) : wFor .no (.slot i) body (xs.map c) r g K := by
  have hl : (xs.map c).length = xs.length := by simp
  refine for_inv I _ _ 0 _ _ rfl (Nat.zero_le _) h0 (fun _ _ _ _ => True.intro) (fun n x r g Kc hx hi a b c' d => ?_) (fun r g h => he r g (by rw [hl] at h; exact h))
  rw [List.getElem?_map] at hx
  obtain ⟨z, hz, rfl⟩ := Option.map_eq_some_iff.mp hx
  exact ⟨_, rfl, st n z r g Kc hz hi a b c' d⟩
/-- a comprehension over a range by an invariant, no test -/
theorem comp_rng {i N : Nat} {ok : G → Prop} {r0 : Rho} {test : Rho → G → (Bool → G → Prop) → Prop} {elt : Rho → G → Kd → Prop} {K : List D → G → Prop} (I : Nat → List D → G → Prop) {g : G} (hok : ∀ g, ok g) (ht : ∀ r g (K : Bool → G → Prop), K true g → test r g K) (hN : N ≤ 1000000) (h0 : I 0 [] g) (hl : ∀ n acc g, I n acc g → acc.length = n)
    (st : ∀ (n : Nat) (acc : List D) (g : G) (Kc : Kd), n < N → I n acc g → (∀ d g2, I (n + 1) (acc ++ [d]) g2 → Kc d g2) → elt (r0.set i (some (.val (.int (n : Int))))) g Kc)
    (he : ∀ acc g, I N acc g → K acc g) : wComp ok (.slot i) r0 test elt ((List.range N).map fun (k : Nat) => D.int (k : Int)) [] g K := by
  have hl2 : ((List.range N).map fun (k : Nat) => D.int (k : Int)).length = N := by simp
  refine comp_inv I ht _ _ 0 _ _ rfl (Nat.zero_le _) h0 (fun n acc g h => ⟨hok g, fun lt => ?_⟩) (fun n x acc g Kc hx hi a => ?_) (fun acc g h => he acc g (by rw [hl2] at h; exact h))
  · rw [hl n acc g h]
    rw [hl2] at lt
    exact Nat.lt_of_lt_of_le lt hN
  · obtain ⟨l, rfl⟩ := rng_at hx
    exact ⟨_, rfl, st n acc g Kc l hi a⟩
theorem pot_fr {ns : List Int} {i : Vb.Id} {g g' : G} (I : Pot ns i g) (h : g' i = g i) : Pot ns i g' := by
  obtain ⟨p, b, s, q, q2⟩ := I
  exact ⟨p, b, s, h.trans q, q2⟩
theorem pot_ne {ns : List Int} {i j : Vb.Id} {g : G} (I : Pot ns i g) {o : Option Ob} (h : g j = o) (hn : ∀ p b s, o ≠ some (potC ns p b s)) : j ≠ i := fun z => by
  obtain ⟨p, b, s, q, _⟩ := I
  rw [z, q] at h
  exact hn p b s h.symm
theorem pot_up {ns : List Int} {i j : Vb.Id} {g : G} {o : Ob} (I : Pot ns i g) (h : i ≠ j) : Pot ns i (up g j o) := pot_fr I (up_ne _ _ h)
/-! dicts -/
theorem dGet_put {kvs : List (D × D)} {k v k' : D} : dGet (dPut kvs k v) k' = if k = k' then some v else dGet kvs k' := by
  unfold dPut
  by_cases h : (kvs.any fun p => decide (p.1 = k)) = true
  · rw [if_pos h]
    induction kvs with
    | nil => simp at h
    | cons p kvs ih =>
      rw [List.map_cons, dGet_cons, dGet_cons]
      by_cases e : p.1 = k
      · by_cases e2 : k = k'
        · rw [if_pos e, if_pos e2]
          simp [e, e2]
        · have e3 : ¬ p.1 = k' := by rw [e]; exact e2
          rw [if_pos e, if_neg e2]
          simp only [e3, if_false]
          by_cases q : (kvs.any fun p => decide (p.1 = k)) = true
          · have := ih q
            rw [if_neg e2] at this
            exact this
          · have nk : ∀ p ∈ kvs, ¬ p.1 = k := fun p hp z => q (List.any_eq_true.mpr ⟨p, hp, decide_eq_true z⟩)
            have : (kvs.map fun p => if p.1 = k then (p.1, v) else p) = kvs := by
              refine (List.map_congr_left fun p hp => ?_).trans (List.map_id kvs)
              rw [if_neg (nk p hp)]
              rfl
            rw [this]
      · have h' : (kvs.any fun p => decide (p.1 = k)) = true := by simpa [e] using h
        rw [if_neg e, ih h']
        by_cases e2 : k = k'
        · subst e2
          simp [e]
        · simp [e2]
  · rw [if_neg h]
    have hn : dGet kvs k = none := by
      have := dGet_any (kvs := kvs) (k := k)
      cases q : dGet kvs k with
      | none => rfl
      | some z => rw [q] at this; exact absurd this h
    clear h
    induction kvs with
    | nil =>
      rw [List.nil_append, dGet_cons]
    | cons p kvs ih =>
      rw [dGet_cons] at hn
      by_cases e : p.1 = k
      · rw [if_pos e] at hn
        cases hn
      · rw [if_neg e] at hn
        rw [List.cons_append, dGet_cons, dGet_cons, ih hn]
        by_cases e2 : k = k'
        · subst e2
          simp [e]
        · simp [e2]
theorem put_all {kvs : List (D × D)} {k v : D} {p : D → Bool} (h : (kvs.all fun q => p q.1) = true) (hk : p k = true) : ((dPut kvs k v).all fun q => p q.1) = true := by
  unfold dPut
  split
  · rw [List.all_map]
    rw [List.all_eq_true] at h ⊢
    intro q hq
    have := h q hq
    show p (if q.1 = k then (q.1, v) else q).1 = true
    split <;> exact this
  · rw [List.all_append, h]
    simp [hk]
theorem okF {kvs : List (D × D)} {k : D} (h : (kvs.all fun q => q.1.keyF) = true) (hk : k.keyF = true) : keysOk kvs k = true := by
  unfold keysOk
  rw [h, hk]
  rfl
theorem okT {kvs : List (D × D)} {k : D} (h : (kvs.all fun q => q.1.keyT) = true) (hk : k.keyT = true) : keysOk kvs k = true := by
  unfold keysOk
  rw [h, hk]
  simp
mutual
/-- of data without truth values == is sameness -/
theorem eqv_same : ∀ {x y : D}, x.keyN = true → y.keyN = true → D.eqv x y = decide (x = y)
  | .non, y, _, h => by cases y <;> simp_all [D.eqv, D.keyN]
  | .bl _, y, h, _ => by simp [D.keyN] at h
  | .int i, y, _, h => by
    cases y <;> simp_all [D.eqv, D.keyN]
    rename_i j
    by_cases e : i = j <;> simp [e]
  | .str i, y, _, h => by
    cases y <;> simp_all [D.eqv, D.keyN]
    rename_i j
    by_cases e : i = j <;> simp [e]
  | .seq true xs, y, h1, h2 => by
    cases y with
    | seq u ys =>
      cases u with
      | true =>
        have := eqvs_same (show D.keyNs xs = true from h1) (show D.keyNs ys = true from h2)
        simp [D.eqv, this]
      | false => simp [D.keyN] at h2
    | bl _ => simp [D.keyN] at h2
    | _ => simp [D.eqv]
  | .seq false xs, y, h, _ => by simp [D.keyN] at h
  | .ref _, y, h, _ => by simp [D.keyN] at h
  | .giv _, y, h, _ => by simp [D.keyN] at h
theorem eqvs_same : ∀ {xs ys : List D}, D.keyNs xs = true → D.keyNs ys = true → D.eqvs xs ys = decide (xs = ys)
  | [], ys, _, _ => by cases ys <;> simp [D.eqvs]
  | x :: xs, [], _, _ => by simp [D.eqvs]
  | x :: xs, y :: ys, h1, h2 => by
    have h1 : (D.keyN x && D.keyNs xs) = true := h1
    have h2 : (D.keyN y && D.keyNs ys) = true := h2
    rw [Bool.and_eq_true] at h1 h2
    simp only [D.eqvs, eqv_same h1.1 h2.1, eqvs_same h1.2 h2.2]
    by_cases e : x = y
    · by_cases e2 : xs = ys <;> simp [e, e2]
    · simp [e]
end
theorem any_same {x : D} {ys : List D} (hx : x.keyN = true) (hy : ∀ y ∈ ys, y.keyN = true) : (ys.any fun y => D.eqv y x) = decide (x ∈ ys) := by
  induction ys with
  | nil => rfl
  | cons y ys ih =>
    rw [List.any_cons, ih fun z hz => hy z (List.mem_cons_of_mem _ hz), eqv_same (hy y List.mem_cons_self) hx]
    by_cases e : y = x
    · subst e
      simp
    · have e2 : ¬ x = y := fun z => e z.symm
      simp [e, e2]
theorem idx_any {t : Bool} {l : List D} {v : Int} (h0 : 0 ≤ v) (h1 : v < l.length) {K : D → Prop} (h : ∀ x ∈ l, K x) : wIdx (.seq t l) (.int v) K := by
  obtain ⟨k, rfl⟩ : ∃ k : Nat, v = k := ⟨v.toNat, by omega⟩
  have hk : k < l.length := by omega
  have : L2.atI l (k : Int) = some l[k] := by
    have z : (k : Int) < l.length := by omega
    simp [L2.atI, L2.ixN, z, hk]
  rw [i_seq, this]
  exact h _ (List.getElem_mem hk)
theorem at_any {l : List D} {v : Int} (h0 : 0 ≤ v) (h1 : v < l.length) {K : D → Prop} (h : ∀ x ∈ l, K x) : (match L2.atI l v with | some d => K d | none => False) := by
  have := idx_any (t := false) h0 h1 h
  rwa [i_seq] at this
theorem at_nat {l : List D} {k : Nat} {d : D} (h : l[k]? = some d) : L2.atI l (k : Int) = some d := by
  obtain ⟨hl, he⟩ := List.getElem?_eq_some_iff.mp h
  simp [L2.atI, L2.ixN, hl, he]
end Vb

namespace L_k10_sheet
open PySem L2 Vb
def top (i : Nat) : Stmt := PySem.Challenge.pw_vaultbridge_k10_sheet.main.body.getD i (.Pass ⟨0, 0, 0, 0⟩)
def inCls (s : Stmt) (j : Nat) : Stmt := match s with
  | .ClassDef _ _ _ b _ _ _ _ _ _ _ => b.getD j (.Pass ⟨0, 0, 0, 0⟩)
  | _ => .Pass ⟨0, 0, 0, 0⟩
/-- 0: Sheet.__init__(self, config, side) -/
def b0 : Ss :=
 (.cons (.setf (.var 0) 1 (.var 1))
 (.cons (.setf (.var 0) 2 (.var 2))
 (.cons (.setfown (.var 0) 3 .dnew)
 (.cons (.setfown (.var 0) 4 .dnew)
 (.cons (.setfown (.var 0) 5 .dnew)
 (.cons (.for_ (.tup [3, 4, 5]) (.pl (.v (.meth 6 (.var 1) (.cons (.var 2) .nil))))
  (.cons (.expr (.meth 7 (.var 0) (.cons (.var 3) (.cons (.var 4) (.cons (.var 5) .nil)))))
  .nil))
 .nil))))))
/-- 1: Sheet.copy(self) -/
def b1 : Ss :=
 (.cons (.set 1 (.new 4 (.cons (.attr (.var 0) 1) (.cons (.attr (.var 0) 2) .nil))))
 (.cons (.setfown (.var 1) 3 (.dcd [2, 3] (.tup [2, 3]) .items (.fld (.var 0) 3) .no (.var 2) (.var 3)))
 (.cons (.setfown (.var 1) 4 (.dcopy (.fld (.var 0) 4)))
 (.cons (.setfown (.var 1) 5 (.dcd [2, 3] (.tup [2, 3]) .items (.fld (.var 0) 5) .no (.var 2) (.var 3)))
 (.cons (.ret (.var 1))
 .nil)))))
/-- 2: Sheet.balance(self, account, token) -/
def b2 : Ss :=
 (.cons (.ret (.dgt2 (.fld (.var 0) 3) (.tup (.cons (.var 1) (.cons (.var 2) .nil))) (.con (.int 0))))
 .nil)
/-- 3: Sheet.vault(self, token) -/
def b3 : Ss :=
 (.cons (.ret (.dgt2 (.fld (.var 0) 4) (.var 1) (.con (.int 0))))
 .nil)
/-- 4: Sheet.give(self, account, token, amount) -/
def b4 : Ss :=
 (.cons (.dput (.fld (.var 0) 3) (.tup (.cons (.var 1) (.cons (.var 2) .nil))) (.bin .add (.meth 8 (.var 0) (.cons (.var 1) (.cons (.var 2) .nil))) (.var 3)))
 .nil)
/-- 5: Sheet.charge(self, account, token, amount) -/
def b5 : Ss :=
 (.cons (.ifs (.cmp .lt (.meth 8 (.var 0) (.cons (.var 1) (.cons (.var 2) .nil))) (.var 3))
  (.cons (.raise 3)
  .nil)
  .nil)
 (.cons (.expr (.meth 7 (.var 0) (.cons (.var 1) (.cons (.var 2) (.cons (.neg (.var 3)) .nil)))))
 .nil))
/-- 6: Sheet.move(self, sender, receiver, token, amount) -/
def b6 : Ss :=
 (.cons (.expr (.meth 9 (.var 0) (.cons (.var 1) (.cons (.var 3) (.cons (.var 4) .nil)))))
 (.cons (.expr (.meth 7 (.var 0) (.cons (.var 2) (.cons (.var 3) (.cons (.var 4) .nil)))))
 .nil))
/-- 7: Sheet.lock(self, account, token, units) -/
def b7 : Ss :=
 (.cons (.set 4 (.bin .mul (.var 3) (.meth 10 (.attr (.var 0) 1) (.cons (.var 2) .nil))))
 (.cons (.expr (.meth 9 (.var 0) (.cons (.var 1) (.cons (.var 2) (.cons (.var 4) .nil)))))
 (.cons (.dput (.fld (.var 0) 4) (.var 2) (.bin .add (.meth 11 (.var 0) (.cons (.var 2) .nil)) (.var 4)))
 .nil)))
/-- 8: Sheet.release(self, account, token, units) -/
def b8 : Ss :=
 (.cons (.set 4 (.bin .mul (.var 3) (.meth 10 (.attr (.var 0) 1) (.cons (.var 2) .nil))))
 (.cons (.ifs (.cmp .lt (.meth 11 (.var 0) (.cons (.var 2) .nil)) (.var 4))
  (.cons (.raise 3)
  .nil)
  .nil)
 (.cons (.dput (.fld (.var 0) 4) (.var 2) (.bin .sub (.meth 11 (.var 0) (.cons (.var 2) .nil)) (.var 4)))
 (.cons (.expr (.meth 7 (.var 0) (.cons (.var 1) (.cons (.var 2) (.cons (.var 4) .nil)))))
 .nil))))
/-- 9: Sheet.mint(self, account, token, units) -/
def b9 : Ss :=
 (.cons (.expr (.meth 7 (.var 0) (.cons (.var 1) (.cons (.var 2) (.cons (.var 3) .nil)))))
 .nil)
/-- 10: Sheet.burn(self, account, token, units) -/
def b10 : Ss :=
 (.cons (.expr (.meth 9 (.var 0) (.cons (.var 1) (.cons (.var 2) (.cons (.var 3) .nil)))))
 .nil)
/-- 11: Sheet.bonded(self, guard, token) -/
def b11 : Ss :=
 (.cons (.ret (.dgt2 (.fld (.var 0) 5) (.tup (.cons (.var 1) (.cons (.var 2) .nil))) (.con (.int 0))))
 .nil)
/-- 12: Sheet.bond(self, guard, token, amount) -/
def b12 : Ss :=
 (.cons (.expr (.meth 9 (.var 0) (.cons (.var 1) (.cons (.var 2) (.cons (.var 3) .nil)))))
 (.cons (.dput (.fld (.var 0) 5) (.tup (.cons (.var 1) (.cons (.var 2) .nil))) (.bin .add (.meth 12 (.var 0) (.cons (.var 1) (.cons (.var 2) .nil))) (.var 3)))
 .nil))
/-- 13: Sheet.unbond(self, guard, token, amount) -/
def b13 : Ss :=
 (.cons (.ifs (.cmp .lt (.meth 12 (.var 0) (.cons (.var 1) (.cons (.var 2) .nil))) (.var 3))
  (.cons (.raise 3)
  .nil)
  .nil)
 (.cons (.dput (.fld (.var 0) 5) (.tup (.cons (.var 1) (.cons (.var 2) .nil))) (.bin .sub (.meth 12 (.var 0) (.cons (.var 1) (.cons (.var 2) .nil))) (.var 3)))
 (.cons (.expr (.meth 7 (.var 0) (.cons (.var 1) (.cons (.var 2) (.cons (.var 3) .nil)))))
 .nil)))
/-- 14: Sheet.circulating(self, token) -/
def b14 : Ss :=
 (.cons (.set 2 (.fz (.compd [3, 4] (.tup [3, 4]) .items (.fld (.var 0) 3) (.so (.cmp .eq (.idx (.v (.var 3)) (.con (.int 1))) (.var 1))) (.var 4))))
 (.cons (.ret (.bin .add (.sum (.v (.var 2))) (.sum (.v (.fz (.compd [3, 4] (.tup [3, 4]) .items (.fld (.var 0) 5) (.so (.cmp .eq (.idx (.v (.var 3)) (.con (.int 1))) (.var 1))) (.var 4)))))))
 .nil))
/-- 15: is_account(value) -/
def b15 : Ss :=
 (.cons (.ret (.bo true (.cons (.isi (.var 0) .str) (.cons (.chain .le .le (.con (.int 1)) (.len (.v (.var 0))) (.glb 0)) .nil))))
 .nil)
/-- 16: is_count(value, least) -/
def b16 : Ss :=
 (.cons (.ret (.bo true (.cons (.isi (.var 0) .int) (.cons (.not (.isi (.var 0) .bool)) (.cons (.cmp .ge (.var 0) (.var 1)) .nil)))))
 .nil)
/-- 17: is_set(value) -/
def b17 : Ss :=
 (.cons (.set 1 (.al (.lst .nil)))
 (.cons (.for_ (.slot 2) (.pl (.v (.var 0)))
  (.cons (.ifs (.bo false (.cons (.not (.isi (.var 2) .tuple)) (.cons (.cmp .ne (.len (.v (.var 2))) (.con (.int 2))) (.cons (.not (.call 15 (.cons (.idx (.v (.var 2)) (.con (.int 0))) .nil))) (.cons (.not (.call 16 (.cons (.idx (.v (.var 2)) (.con (.int 1))) (.cons (.con (.int 1)) .nil)))) .nil)))))
   (.cons (.ret (.con (.bl false)))
   .nil)
   .nil)
  (.cons (.ifs (.isin false (.idx (.v (.var 2)) (.con (.int 0))) (.v (.var 1)))
   (.cons (.ret (.con (.bl false)))
   .nil)
   .nil)
  (.cons (.app (.v (.var 1)) (.idx (.v (.var 2)) (.con (.int 0))))
  .nil))))
 (.cons (.ret (.cmp .gt (.len (.v (.var 1))) (.con (.int 0))))
 .nil)))
/-- 18: Config.__init__(self, tokens, balances, guards, depth, window, delay, bundle) -/
def b18 : Ss :=
 (.cons (.setfown (.var 0) 13 .dnew)
 (.cons (.for_ (.tup [8, 9, 10, 11, 12]) (.pl (.v (.var 1)))
  (.cons (.ifs (.bo false (.cons (.not (.chain .le .le (.con (.int 1)) (.len (.v (.var 8))) (.glb 2))) (.cons (.din false (.var 8) (.fld (.var 0) 13)) (.cons (.isin true (.var 9) (.v (.glb 1))) .nil))))
   (.cons (.raise 1)
   .nil)
   .nil)
  (.cons (.ifs (.bo false (.cons (.cmp .lt (.var 10) (.con (.int 1))) (.cons (.cmp .lt (.var 11) (.con (.int 0))) (.cons (.cmp .lt (.var 12) (.con (.int 1))) .nil))))
   (.cons (.raise 1)
   .nil)
   .nil)
  (.cons (.dput (.fld (.var 0) 13) (.var 8) (.tup (.cons (.var 9) (.cons (.var 10) (.cons (.var 11) (.cons (.var 12) .nil))))))
  .nil))))
 (.cons (.for_ (.tup [13, 14, 15]) (.pl (.v (.var 2)))
  (.cons (.ifs (.bo false (.cons (.not (.call 15 (.cons (.var 13) .nil))) (.cons (.din true (.var 14) (.fld (.var 0) 13)) (.cons (.cmp .lt (.var 15) (.con (.int 0))) .nil))))
   (.cons (.raise 1)
   .nil)
   .nil)
  .nil))
 (.cons (.ifs (.bo false (.cons (.not (.call 17 (.cons (.var 3) .nil))) (.cons (.cmp .lt (.var 4) (.con (.int 1))) (.cons (.cmp .lt (.var 5) (.con (.int 1))) (.cons (.cmp .lt (.var 6) (.con (.int 0))) (.cons (.not (.chain .le .le (.con (.int 1)) (.var 7) (.glb 3))) .nil))))))
  (.cons (.raise 1)
  .nil)
  .nil)
 (.cons (.setf (.var 0) 3 (.al (.tolist (.v (.var 2)))))
 (.cons (.setf (.var 0) 14 (.var 3))
 (.cons (.setf (.var 0) 15 (.var 4))
 (.cons (.setf (.var 0) 16 (.var 5))
 (.cons (.setf (.var 0) 17 (.var 6))
 (.cons (.setf (.var 0) 18 (.var 7))
 .nil))))))))))
/-- 19: Config.token(self, name) -/
def b19 : Ss :=
 (.cons (.ifs (.din true (.var 1) (.fld (.var 0) 13))
  (.cons (.raise 2)
  .nil)
  .nil)
 (.cons (.ret (.dget (.fld (.var 0) 13) (.var 1)))
 .nil))
/-- 20: Config.home(self, token) -/
def b20 : Ss :=
 (.cons (.ret (.idx (.v (.meth 19 (.var 0) (.cons (.var 1) .nil))) (.con (.int 0))))
 .nil)
/-- 21: Config.scale(self, token) -/
def b21 : Ss :=
 (.cons (.ret (.idx (.v (.meth 19 (.var 0) (.cons (.var 1) .nil))) (.con (.int 1))))
 .nil)
/-- 22: Config.limit(self, token) -/
def b22 : Ss :=
 (.cons (.ret (.idx (.v (.meth 19 (.var 0) (.cons (.var 1) .nil))) (.con (.int 2))))
 .nil)
/-- 23: Config.large(self, token) -/
def b23 : Ss :=
 (.cons (.ret (.idx (.v (.meth 19 (.var 0) (.cons (.var 1) .nil))) (.con (.int 3))))
 .nil)
/-- 24: Config.opening(self, side) -/
def b24 : Ss :=
 (.cons (.ret (.al (.comp [2] (.slot 2) (.pl (.v (.attr (.var 0) 3))) (.so (.cmp .eq (.meth 20 (.var 0) (.cons (.idx (.v (.var 2)) (.con (.int 1))) .nil)) (.var 1))) (.var 2))))
 .nil)
/-- 25: Config.guards(self) -/
def b25 : Ss :=
 (.cons (.ret (.attr (.var 0) 14))
 .nil)
/-- 26: Config.depth(self) -/
def b26 : Ss :=
 (.cons (.ret (.attr (.var 0) 15))
 .nil)
/-- 27: Config.window(self) -/
def b27 : Ss :=
 (.cons (.ret (.attr (.var 0) 16))
 .nil)
/-- 28: Config.delay(self) -/
def b28 : Ss :=
 (.cons (.ret (.attr (.var 0) 17))
 .nil)
/-- 29: Config.bundle(self) -/
def b29 : Ss :=
 (.cons (.ret (.attr (.var 0) 18))
 .nil)
/-- 30: _law_pot(_law_script) -/
def b30 : Ss :=
 (.cons (.set 1 (.con (.int 1)))
 (.cons (.for_ (.slot 2) (.pl (.v (.var 0)))
  (.cons (.set 1 (.bin .mod (.bi .int1 (.cons (.bin .add (.bin .mul (.var 1) (.con (.int 31))) (.var 2)) .nil)) (.con (.int 2147483647))))
  .nil))
 (.cons (.ret (.al (.lst (.cons (.fz (.tolist (.v (.var 0)))) (.cons (.con (.int 0)) (.cons (.con (.int 0)) (.cons (.var 1) .nil)))))))
 .nil)))
/-- 31: _law_next(_law_pot_here, _law_limit) -/
def b31 : Ss :=
 (.cons (.ifs (.bo true (.cons (.cmp .eq (.idx (.v (.var 0)) (.con (.int 2))) (.con (.int 0))) (.cons (.cmp .lt (.idx (.v (.var 0)) (.con (.int 1))) (.len (.v (.idx (.v (.var 0)) (.con (.int 0)))))) .nil)))
  (.cons (.set 3 (.bi .abs (.cons (.bi .int1 (.cons (.idx (.v (.idx (.v (.var 0)) (.con (.int 0)))) (.idx (.v (.var 0)) (.con (.int 1)))) .nil)) .nil)))
  (.cons (.seti (.v (.var 0)) (.con (.int 1)) (.bin .add (.idx (.v (.var 0)) (.con (.int 1))) (.con (.int 1))))
  (.cons (.ifs (.cmp .lt (.var 3) (.bin .pow (.con (.int 10)) (.con (.int 18))))
   (.cons (.ret (.bin .mod (.bi .int1 (.cons (.var 3) .nil)) (.var 1)))
   .nil)
   .nil)
  (.cons (.seti (.v (.var 0)) (.con (.int 2)) (.var 3))
  .nil))))
  .nil)
 (.cons (.ifs (.cmp .gt (.idx (.v (.var 0)) (.con (.int 2))) (.con (.int 0)))
  (.cons (.set 4 (.bin .mod (.bi .int1 (.cons (.idx (.v (.var 0)) (.con (.int 2))) .nil)) (.var 1)))
  (.cons (.seti (.v (.var 0)) (.con (.int 2)) (.bin .fdiv (.idx (.v (.var 0)) (.con (.int 2))) (.var 1)))
  (.cons (.ret (.var 4))
  .nil)))
  .nil)
 (.cons (.seti (.v (.var 0)) (.con (.int 3)) (.bin .mod (.bi .int1 (.cons (.bin .add (.bin .mul (.idx (.v (.var 0)) (.con (.int 3))) (.con (.int 48271))) (.con (.int 12345))) .nil)) (.con (.int 2147483647))))
 (.cons (.set 2 (.bin .mod (.bi .int1 (.cons (.bin .add (.bin .mul (.idx (.v (.var 0)) (.con (.int 3))) (.con (.int 69621))) (.bin .fdiv (.idx (.v (.var 0)) (.con (.int 3))) (.con (.int 127)))) .nil)) (.con (.int 2147483629))))
 (.cons (.ret (.bin .mod (.bi .int1 (.cons (.var 2) .nil)) (.var 1)))
 .nil)))))
/-- 32: _law_is_int(_law_value) -/
def b32 : Ss :=
 (.cons (.ret (.bo true (.cons (.isi (.var 0) .int) (.cons (.not (.isi (.var 0) .bool)) .nil))))
 .nil)
/-- 33: _law_same(_law_found, _law_value) -/
def b33 : Ss :=
 (.cons (.ifs (.cmp .is_ (.var 1) (.con .non))
  (.cons (.ret (.cmp .is_ (.var 0) (.con .non)))
  .nil)
  .nil)
 (.cons (.ifs (.isi (.var 1) .bool)
  (.cons (.ret (.bo true (.cons (.isi (.var 0) .bool) (.cons (.cmp .eq (.var 0) (.var 1)) .nil))))
  .nil)
  .nil)
 (.cons (.ifs (.isi (.var 1) .int)
  (.cons (.ret (.bo true (.cons (.call 32 (.cons (.var 0) .nil)) (.cons (.cmp .eq (.var 0) (.var 1)) .nil))))
  .nil)
  .nil)
 (.cons (.ifs (.isi (.var 1) .str)
  (.cons (.ret (.bo true (.cons (.isi (.var 0) .str) (.cons (.cmp .eq (.var 0) (.var 1)) .nil))))
  .nil)
  .nil)
 (.cons (.ifs (.bo false (.cons (.cmp .ne (.isi (.var 1) .list) (.isi (.var 0) .list)) (.cons (.cmp .ne (.isi (.var 1) .tuple) (.isi (.var 0) .tuple)) .nil)))
  (.cons (.ret (.con (.bl false)))
  .nil)
  .nil)
 (.cons (.ret (.bo true (.cons (.cmp .eq (.len (.v (.var 0))) (.len (.v (.var 1)))) (.cons (.allof (.v (.fz (.comp [2] (.slot 2) (.rng1 (.len (.v (.var 1)))) .no (.call 33 (.cons (.idx (.v (.var 0)) (.var 2)) (.cons (.idx (.v (.var 1)) (.var 2)) .nil))))))) .nil))))
 .nil))))))
/-- 34: _law_set(_law_pot_here, _law_most) -/
def b34 : Ss :=
 (.cons (.set 2 (.al (.comp [4] (.slot 4) (.rng1 (.con (.int 7))) .no (.bin .add (.con (.str "g")) (.bi .str1 (.cons (.var 4) .nil))))))
 (.cons (.set 3 (.al (.lst .nil)))
 (.cons (.for_ (.slot 4) (.rng1 (.bin .add (.con (.int 1)) (.call 31 (.cons (.var 0) (.cons (.var 1) .nil)))))
  (.cons (.app (.v (.var 3)) (.tup (.cons (.popat (.v (.var 2)) (.call 31 (.cons (.var 0) (.cons (.len (.v (.var 2))) .nil)))) (.cons (.bin .add (.con (.int 1)) (.call 31 (.cons (.var 0) (.cons (.idxf (.v (.fz (.lst (.cons (.con (.int 1)) (.cons (.con (.int 4)) (.cons (.con (.int 50)) .nil)))))) (.call 31 (.cons (.var 0) (.cons (.con (.int 3)) .nil)))) .nil)))) .nil))))
  .nil))
 (.cons (.ret (.totup (.v (.var 3))))
 .nil))))
/-- 35: _law_config(_law_pot_here) -/
def b35 : Ss :=
 (.cons (.set 1 (.al (.lst .nil)))
 (.cons (.for_ (.slot 2) (.pl (.v (.slcf (.v (.fz (.lst (.cons (.con (.str "coin")) (.cons (.con (.str "gold")) (.cons (.con (.str "iron")) .nil)))))) .no (.so (.bin .add (.con (.int 1)) (.call 31 (.cons (.var 0) (.cons (.con (.int 3)) .nil))))))))
  (.cons (.app (.v (.var 1)) (.tup (.cons (.var 2) (.cons (.idxf (.v (.fz (.lst (.cons (.con (.str "west")) (.cons (.con (.str "east")) .nil))))) (.call 31 (.cons (.var 0) (.cons (.con (.int 2)) .nil)))) (.cons (.idxf (.v (.fz (.lst (.cons (.con (.int 1)) (.cons (.con (.int 1)) (.cons (.con (.int 7)) (.cons (.con (.int 1000)) .nil))))))) (.call 31 (.cons (.var 0) (.cons (.con (.int 4)) .nil)))) (.cons (.idxf (.v (.fz (.lst (.cons (.bin .pow (.con (.int 10)) (.con (.int 9))) (.cons (.bin .pow (.con (.int 10)) (.con (.int 9))) (.cons (.con (.int 5)) (.cons (.con (.int 0)) .nil))))))) (.call 31 (.cons (.var 0) (.cons (.con (.int 4)) .nil)))) (.cons (.idxf (.v (.fz (.lst (.cons (.bin .pow (.con (.int 10)) (.con (.int 9))) (.cons (.con (.int 30)) (.cons (.con (.int 3)) (.cons (.con (.int 1)) .nil))))))) (.call 31 (.cons (.var 0) (.cons (.con (.int 4)) .nil)))) .nil)))))))
  .nil))
 (.cons (.set 3 (.al (.lst .nil)))
 (.cons (.for_ (.slot 4) (.pl (.v (.fz (.lst (.cons (.con (.str "ann")) (.cons (.con (.str "bob")) (.cons (.con (.str "cyd")) .nil)))))))
  (.cons (.for_ (.slot 6) (.pl (.v (.var 1)))
   (.cons (.app (.v (.var 3)) (.tup (.cons (.var 4) (.cons (.idx (.v (.var 6)) (.con (.int 0))) (.cons (.idxf (.v (.fz (.lst (.cons (.con (.int 0)) (.cons (.con (.int 5)) (.cons (.con (.int 40)) (.cons (.con (.int 5000)) (.cons (.bin .pow (.con (.int 10)) (.con (.int 6))) .nil)))))))) (.call 31 (.cons (.var 0) (.cons (.con (.int 5)) .nil)))) .nil)))))
   .nil))
  .nil))
 (.cons (.set 5 (.call 34 (.cons (.var 0) (.cons (.con (.int 5)) .nil))))
 (.cons (.app (.v (.var 3)) (.tup (.cons (.idx (.v (.idx (.v (.var 5)) (.con (.int 0)))) (.con (.int 0))) (.cons (.idx (.v (.idx (.v (.var 1)) (.con (.int 0)))) (.con (.int 0))) (.cons (.con (.int 60)) .nil)))))
 (.cons (.ret (.al (.dlit [.inr "tokens", .inr "balances", .inr "guards", .inr "depth", .inr "window", .inr "delay", .inr "bundle"] (.cons (.var 1) (.cons (.var 3) (.cons (.var 5) (.cons (.bin .add (.con (.int 1)) (.call 31 (.cons (.var 0) (.cons (.con (.int 3)) .nil)))) (.cons (.bin .add (.con (.int 1)) (.call 31 (.cons (.var 0) (.cons (.con (.int 4)) .nil)))) (.cons (.call 31 (.cons (.var 0) (.cons (.con (.int 4)) .nil))) (.cons (.bin .add (.con (.int 1)) (.call 31 (.cons (.var 0) (.cons (.con (.int 3)) .nil)))) .nil))))))))))
 .nil)))))))
/-- 36: _law_made(_law_parts) -/
def b36 : Ss :=
 (.cons (.ret (.newk 5 ["tokens", "balances", "guards", "depth", "window", "delay", "bundle"] [] (.cons (.dget (.v (.var 0)) (.con (.str "tokens"))) (.cons (.dget (.v (.var 0)) (.con (.str "balances"))) (.cons (.dget (.v (.var 0)) (.con (.str "guards"))) (.cons (.dget (.v (.var 0)) (.con (.str "depth"))) (.cons (.dget (.v (.var 0)) (.con (.str "window"))) (.cons (.dget (.v (.var 0)) (.con (.str "delay"))) (.cons (.dget (.v (.var 0)) (.con (.str "bundle"))) .nil)))))))))
 .nil)
/-- 37: _law_do(_law_sheet, _law_kind, _law_one, _law_other, _law_token, _law_amount) -/
def b37 : Ss :=
 (.cons (.try_
  (.cons (.ifs (.cmp .eq (.var 1) (.con (.int 0)))
   (.cons (.ret (.meth 21 (.var 0) (.cons (.var 2) (.cons (.var 3) (.cons (.var 4) (.cons (.var 5) .nil))))))
   .nil)
   .nil)
  (.cons (.ifs (.cmp .eq (.var 1) (.con (.int 1)))
   (.cons (.ret (.meth 22 (.var 0) (.cons (.var 2) (.cons (.var 4) (.cons (.var 5) .nil)))))
   .nil)
   .nil)
  (.cons (.ifs (.cmp .eq (.var 1) (.con (.int 2)))
   (.cons (.ret (.meth 23 (.var 0) (.cons (.var 2) (.cons (.var 4) (.cons (.var 5) .nil)))))
   .nil)
   .nil)
  (.cons (.ifs (.cmp .eq (.var 1) (.con (.int 3)))
   (.cons (.ret (.meth 24 (.var 0) (.cons (.var 2) (.cons (.var 4) (.cons (.var 5) .nil)))))
   .nil)
   .nil)
  (.cons (.ifs (.cmp .eq (.var 1) (.con (.int 5)))
   (.cons (.ret (.meth 25 (.var 0) (.cons (.var 2) (.cons (.var 4) (.cons (.var 5) .nil)))))
   .nil)
   .nil)
  (.cons (.ifs (.cmp .eq (.var 1) (.con (.int 6)))
   (.cons (.ret (.meth 26 (.var 0) (.cons (.var 2) (.cons (.var 4) (.cons (.var 5) .nil)))))
   .nil)
   .nil)
  (.cons (.ret (.meth 27 (.var 0) (.cons (.var 2) (.cons (.var 4) (.cons (.var 5) .nil)))))
  .nil))))))) 0 (some 6)
  (.cons (.ret (.excis 6 3))
  .nil))
 .nil)
/-- 38: _law_due(_law_table, _law_kind, _law_one, _law_other, _law_token, _law_amount) -/
def b38 : Ss :=
 (.cons (.set 6 (.bin .mul (.var 5) (.idx (.v (.var 4)) (.con (.int 2)))))
 (.cons (.ifs (.bo true (.cons (.cmp .eq (.var 1) (.con (.int 0))) (.cons (.cmp .ge (.dgt2 (.v (.var 0)) (.tup (.cons (.var 2) (.cons (.idx (.v (.var 4)) (.con (.int 0))) .nil))) (.con (.int 0))) (.var 5)) .nil)))
  (.cons (.dput (.v (.var 0)) (.tup (.cons (.var 2) (.cons (.idx (.v (.var 4)) (.con (.int 0))) .nil))) (.bin .sub (.dgt2 (.v (.var 0)) (.tup (.cons (.var 2) (.cons (.idx (.v (.var 4)) (.con (.int 0))) .nil))) (.con (.int 0))) (.var 5)))
  (.cons (.dput (.v (.var 0)) (.tup (.cons (.var 3) (.cons (.idx (.v (.var 4)) (.con (.int 0))) .nil))) (.bin .add (.dgt2 (.v (.var 0)) (.tup (.cons (.var 3) (.cons (.idx (.v (.var 4)) (.con (.int 0))) .nil))) (.con (.int 0))) (.var 5)))
  .nil))
  (.cons (.ifs (.bo true (.cons (.cmp .eq (.var 1) (.con (.int 1))) (.cons (.cmp .ge (.dgt2 (.v (.var 0)) (.tup (.cons (.var 2) (.cons (.idx (.v (.var 4)) (.con (.int 0))) .nil))) (.con (.int 0))) (.var 6)) .nil)))
   (.cons (.dput (.v (.var 0)) (.tup (.cons (.var 2) (.cons (.idx (.v (.var 4)) (.con (.int 0))) .nil))) (.bin .sub (.dgt2 (.v (.var 0)) (.tup (.cons (.var 2) (.cons (.idx (.v (.var 4)) (.con (.int 0))) .nil))) (.con (.int 0))) (.var 6)))
   (.cons (.dput (.v (.var 0)) (.tup (.cons (.con (.str "")) (.cons (.idx (.v (.var 4)) (.con (.int 0))) .nil))) (.bin .add (.dgt2 (.v (.var 0)) (.tup (.cons (.con (.str "")) (.cons (.idx (.v (.var 4)) (.con (.int 0))) .nil))) (.con (.int 0))) (.var 6)))
   .nil))
   (.cons (.ifs (.bo true (.cons (.cmp .eq (.var 1) (.con (.int 2))) (.cons (.cmp .ge (.dgt2 (.v (.var 0)) (.tup (.cons (.con (.str "")) (.cons (.idx (.v (.var 4)) (.con (.int 0))) .nil))) (.con (.int 0))) (.var 6)) .nil)))
    (.cons (.dput (.v (.var 0)) (.tup (.cons (.con (.str "")) (.cons (.idx (.v (.var 4)) (.con (.int 0))) .nil))) (.bin .sub (.dgt2 (.v (.var 0)) (.tup (.cons (.con (.str "")) (.cons (.idx (.v (.var 4)) (.con (.int 0))) .nil))) (.con (.int 0))) (.var 6)))
    (.cons (.dput (.v (.var 0)) (.tup (.cons (.var 2) (.cons (.idx (.v (.var 4)) (.con (.int 0))) .nil))) (.bin .add (.dgt2 (.v (.var 0)) (.tup (.cons (.var 2) (.cons (.idx (.v (.var 4)) (.con (.int 0))) .nil))) (.con (.int 0))) (.var 6)))
    .nil))
    (.cons (.ifs (.cmp .eq (.var 1) (.con (.int 3)))
     (.cons (.dput (.v (.var 0)) (.tup (.cons (.var 2) (.cons (.idx (.v (.var 4)) (.con (.int 0))) .nil))) (.bin .add (.dgt2 (.v (.var 0)) (.tup (.cons (.var 2) (.cons (.idx (.v (.var 4)) (.con (.int 0))) .nil))) (.con (.int 0))) (.var 5)))
     .nil)
     (.cons (.ifs (.bo true (.cons (.cmp .eq (.var 1) (.con (.int 4))) (.cons (.cmp .ge (.dgt2 (.v (.var 0)) (.tup (.cons (.var 2) (.cons (.idx (.v (.var 4)) (.con (.int 0))) .nil))) (.con (.int 0))) (.var 5)) .nil)))
      (.cons (.dput (.v (.var 0)) (.tup (.cons (.var 2) (.cons (.idx (.v (.var 4)) (.con (.int 0))) .nil))) (.bin .sub (.dgt2 (.v (.var 0)) (.tup (.cons (.var 2) (.cons (.idx (.v (.var 4)) (.con (.int 0))) .nil))) (.con (.int 0))) (.var 5)))
      .nil)
      (.cons (.ifs (.bo true (.cons (.cmp .eq (.var 1) (.con (.int 5))) (.cons (.cmp .ge (.dgt2 (.v (.var 0)) (.tup (.cons (.var 2) (.cons (.idx (.v (.var 4)) (.con (.int 0))) .nil))) (.con (.int 0))) (.var 5)) .nil)))
       (.cons (.dput (.v (.var 0)) (.tup (.cons (.var 2) (.cons (.idx (.v (.var 4)) (.con (.int 0))) .nil))) (.bin .sub (.dgt2 (.v (.var 0)) (.tup (.cons (.var 2) (.cons (.idx (.v (.var 4)) (.con (.int 0))) .nil))) (.con (.int 0))) (.var 5)))
       (.cons (.dput (.v (.var 0)) (.tup (.cons (.var 2) (.cons (.idx (.v (.var 4)) (.con (.int 0))) (.cons (.con (.int 1)) .nil)))) (.bin .add (.dgt2 (.v (.var 0)) (.tup (.cons (.var 2) (.cons (.idx (.v (.var 4)) (.con (.int 0))) (.cons (.con (.int 1)) .nil)))) (.con (.int 0))) (.var 5)))
       .nil))
       (.cons (.ifs (.bo true (.cons (.cmp .eq (.var 1) (.con (.int 6))) (.cons (.cmp .ge (.dgt2 (.v (.var 0)) (.tup (.cons (.var 2) (.cons (.idx (.v (.var 4)) (.con (.int 0))) (.cons (.con (.int 1)) .nil)))) (.con (.int 0))) (.var 5)) .nil)))
        (.cons (.dput (.v (.var 0)) (.tup (.cons (.var 2) (.cons (.idx (.v (.var 4)) (.con (.int 0))) .nil))) (.bin .add (.dgt2 (.v (.var 0)) (.tup (.cons (.var 2) (.cons (.idx (.v (.var 4)) (.con (.int 0))) .nil))) (.con (.int 0))) (.var 5)))
        (.cons (.dput (.v (.var 0)) (.tup (.cons (.var 2) (.cons (.idx (.v (.var 4)) (.con (.int 0))) (.cons (.con (.int 1)) .nil)))) (.bin .sub (.dgt2 (.v (.var 0)) (.tup (.cons (.var 2) (.cons (.idx (.v (.var 4)) (.con (.int 0))) (.cons (.con (.int 1)) .nil)))) (.con (.int 0))) (.var 5)))
        .nil))
        (.cons (.ret (.con (.bl true)))
        .nil))
       .nil))
      .nil))
     .nil))
    .nil))
   .nil))
  .nil))
 (.cons (.ret (.con .non))
 .nil)))
/-- 39: _law_right(_law_parts, _law_sheet, _law_table) -/
def b39 : Ss :=
 (.cons (.for_ (.slot 3) (.pl (.v (.dget (.v (.var 0)) (.con (.str "tokens")))))
  (.cons (.set 4 (.fz (.lst (.cons (.con (.str "ann")) (.cons (.con (.str "bob")) (.cons (.con (.str "cyd")) (.cons (.idx (.v (.idx (.v (.dget (.v (.var 0)) (.con (.str "guards")))) (.con (.int 0)))) (.con (.int 0))) .nil)))))))
  (.cons (.set 5 (.fz (.comp [7] (.slot 7) (.pl (.v (.var 4))) .no (.dgt2 (.v (.var 2)) (.tup (.cons (.var 7) (.cons (.idx (.v (.var 3)) (.con (.int 0))) (.cons (.con (.int 1)) .nil)))) (.con (.int 0))))))
  (.cons (.ifs (.cmp .ne (.fz (.comp [7] (.slot 7) (.pl (.v (.var 4))) .no (.meth 12 (.var 1) (.cons (.var 7) (.cons (.idx (.v (.var 3)) (.con (.int 0))) .nil))))) (.var 5))
   (.cons (.ret (.con (.bl false)))
   .nil)
   .nil)
  (.cons (.set 6 (.fz (.comp [7] (.slot 7) (.pl (.v (.var 4))) .no (.dgt2 (.v (.var 2)) (.tup (.cons (.var 7) (.cons (.idx (.v (.var 3)) (.con (.int 0))) .nil))) (.con (.int 0))))))
  (.cons (.ifs (.cmp .ne (.fz (.comp [7] (.slot 7) (.pl (.v (.var 4))) .no (.meth 8 (.var 1) (.cons (.var 7) (.cons (.idx (.v (.var 3)) (.con (.int 0))) .nil))))) (.var 6))
   (.cons (.ret (.con (.bl false)))
   .nil)
   .nil)
  (.cons (.ifs (.not (.call 33 (.cons (.meth 28 (.var 1) (.cons (.idx (.v (.var 3)) (.con (.int 0))) .nil)) (.cons (.bin .add (.sum (.v (.var 6))) (.sum (.v (.var 5)))) .nil))))
   (.cons (.ret (.con (.bl false)))
   .nil)
   .nil)
  (.cons (.ifs (.not (.call 33 (.cons (.meth 11 (.var 1) (.cons (.idx (.v (.var 3)) (.con (.int 0))) .nil)) (.cons (.dgt2 (.v (.var 2)) (.tup (.cons (.con (.str "")) (.cons (.idx (.v (.var 3)) (.con (.int 0))) .nil))) (.con (.int 0))) .nil))))
   (.cons (.ret (.con (.bl false)))
   .nil)
   .nil)
  .nil))))))))
 (.cons (.ret (.cmp .eq (.meth 8 (.var 1) (.cons (.con (.str "nobody")) (.cons (.idx (.v (.idx (.v (.dget (.v (.var 0)) (.con (.str "tokens")))) (.con (.int 0)))) (.con (.int 0))) .nil))) (.con (.int 0))))
 .nil))
/-- 40: law(_law_script) -/
def b40 : Ss :=
 (.cons (.set 1 (.call 30 (.cons (.var 0) .nil)))
 (.cons (.set 2 (.call 35 (.cons (.var 1) .nil)))
 (.cons (.set 3 (.idxf (.v (.fz (.lst (.cons (.con (.str "west")) (.cons (.con (.str "east")) .nil))))) (.call 31 (.cons (.var 1) (.cons (.con (.int 2)) .nil)))))
 (.cons (.set 4 (.new 4 (.cons (.call 36 (.cons (.var 2) .nil)) (.cons (.var 3) .nil))))
 (.cons (.set 5 (.al .dnew))
 (.cons (.for_ (.slot 6) (.pl (.v (.dget (.v (.var 2)) (.con (.str "balances")))))
  (.cons (.ifs (.cmp .eq (.fz (.comp [10] (.slot 10) (.pl (.v (.dget (.v (.var 2)) (.con (.str "tokens"))))) (.so (.cmp .eq (.idx (.v (.var 10)) (.con (.int 0))) (.idx (.v (.var 6)) (.con (.int 1))))) (.idx (.v (.var 10)) (.con (.int 1))))) (.fz (.lst (.cons (.var 3) .nil))))
   (.cons (.dput (.v (.var 5)) (.tup (.cons (.idx (.v (.var 6)) (.con (.int 0))) (.cons (.idx (.v (.var 6)) (.con (.int 1))) .nil))) (.bin .add (.dgt2 (.v (.var 5)) (.tup (.cons (.idx (.v (.var 6)) (.con (.int 0))) (.cons (.idx (.v (.var 6)) (.con (.int 1))) .nil))) (.con (.int 0))) (.idx (.v (.var 6)) (.con (.int 2)))))
   .nil)
   .nil)
  .nil))
 (.cons (.set 7 (.al (.lst (.cons (.var 4) (.cons (.al .dnew) .nil)))))
 (.cons (.ford (.slot 8) .keys (.v (.var 5))
  (.cons (.dput (.v (.idx (.v (.var 7)) (.con (.int 1)))) (.var 8) (.dget (.v (.var 5)) (.var 8)))
  .nil))
 (.cons (.seti (.v (.var 7)) (.con (.int 0)) (.meth 29 (.var 4) .nil))
 (.cons (.for_ (.slot 9) (.rng1 (.bin .add (.con (.int 3)) (.bi .min2 (.cons (.bin .fdiv (.len (.v (.var 0))) (.con (.int 2))) (.cons (.con (.int 27)) .nil)))))
  (.cons (.set 10 (.idxf (.v (.dget (.v (.var 2)) (.con (.str "tokens")))) (.call 31 (.cons (.var 1) (.cons (.len (.v (.dget (.v (.var 2)) (.con (.str "tokens"))))) .nil)))))
  (.cons (.set 11 (.idxf (.v (.fz (.lst (.cons (.con (.int 0)) (.cons (.con (.int 1)) (.cons (.con (.int 2)) (.cons (.con (.int 5)) (.cons (.con (.int 6)) .nil)))))))) (.call 31 (.cons (.var 1) (.cons (.con (.int 5)) .nil)))))
  (.cons (.ifs (.cmp .ne (.idx (.v (.var 10)) (.con (.int 1))) (.var 3))
   (.cons (.set 11 (.idxf (.v (.fz (.lst (.cons (.con (.int 0)) (.cons (.con (.int 3)) (.cons (.con (.int 4)) (.cons (.con (.int 5)) (.cons (.con (.int 6)) .nil)))))))) (.call 31 (.cons (.var 1) (.cons (.con (.int 5)) .nil)))))
   .nil)
   .nil)
  (.cons (.set 12 (.idxf (.v (.fz (.lst (.cons (.con (.str "ann")) (.cons (.con (.str "bob")) (.cons (.con (.str "cyd")) .nil)))))) (.call 31 (.cons (.var 1) (.cons (.con (.int 3)) .nil)))))
  (.cons (.set 13 (.idxf (.v (.fz (.lst (.cons (.con (.str "ann")) (.cons (.con (.str "bob")) (.cons (.con (.str "cyd")) .nil)))))) (.call 31 (.cons (.var 1) (.cons (.con (.int 3)) .nil)))))
  (.cons (.set 14 (.dgt2 (.v (.var 5)) (.tup (.cons (.var 12) (.cons (.idx (.v (.var 10)) (.con (.int 0))) .nil))) (.con (.int 0))))
  (.cons (.set 15 (.idxf (.v (.fz (.lst (.cons (.con (.int 0)) (.cons (.con (.int 1)) (.cons (.var 14) (.cons (.bin .add (.var 14) (.con (.int 1))) (.cons (.bin .fdiv (.var 14) (.idx (.v (.var 10)) (.con (.int 2)))) (.cons (.bin .add (.bin .fdiv (.var 14) (.idx (.v (.var 10)) (.con (.int 2)))) (.con (.int 1))) (.cons (.con (.int 3)) .nil)))))))))) (.call 31 (.cons (.var 1) (.cons (.con (.int 7)) .nil)))))
  (.cons (.set 16 (.call 38 (.cons (.var 5) (.cons (.var 11) (.cons (.var 12) (.cons (.var 13) (.cons (.var 10) (.cons (.var 15) .nil))))))))
  (.cons (.set 17 (.call 37 (.cons (.var 4) (.cons (.var 11) (.cons (.var 12) (.cons (.var 13) (.cons (.idx (.v (.var 10)) (.con (.int 0))) (.cons (.var 15) .nil))))))))
  (.cons (.ifs (.bo false (.cons (.not (.call 33 (.cons (.var 17) (.cons (.var 16) .nil)))) (.cons (.not (.call 39 (.cons (.var 2) (.cons (.var 4) (.cons (.var 5) .nil))))) .nil)))
   (.cons (.ret (.con (.bl false)))
   .nil)
   .nil)
  (.cons (.ifs (.cmp .eq (.call 31 (.cons (.var 1) (.cons (.con (.int 6)) .nil))) (.con (.int 5)))
   (.cons (.set 4 (.meth 29 (.var 4) .nil))
   .nil)
   .nil)
  .nil))))))))))))
 (.cons (.ret (.call 39 (.cons (.var 2) (.cons (.idx (.v (.var 7)) (.con (.int 0))) (.cons (.idx (.v (.var 7)) (.con (.int 1))) .nil)))))
 .nil)))))))))))
def prg : Pg where
  fns := (⟨3, 6, b0⟩ :: ⟨1, 4, b1⟩ :: ⟨3, 3, b2⟩ :: ⟨2, 2, b3⟩ :: ⟨4, 4, b4⟩ :: ⟨4, 4, b5⟩ :: ⟨5, 5, b6⟩ :: ⟨4, 5, b7⟩ :: ⟨4, 5, b8⟩ :: ⟨4, 4, b9⟩ :: ⟨4, 4, b10⟩ :: ⟨3, 3, b11⟩ :: ⟨4, 4, b12⟩ :: ⟨4, 4, b13⟩ :: ⟨2, 5, b14⟩ :: ⟨1, 1, b15⟩ :: ⟨2, 2, b16⟩ :: ⟨1, 3, b17⟩ :: ⟨8, 16, b18⟩ :: ⟨2, 2, b19⟩ :: ⟨2, 2, b20⟩ :: ⟨2, 2, b21⟩ :: ⟨2, 2, b22⟩ :: ⟨2, 2, b23⟩ :: ⟨2, 3, b24⟩ :: ⟨1, 1, b25⟩ :: ⟨1, 1, b26⟩ :: ⟨1, 1, b27⟩ :: ⟨1, 1, b28⟩ :: ⟨1, 1, b29⟩ :: ⟨1, 3, b30⟩ :: ⟨2, 5, b31⟩ :: ⟨1, 1, b32⟩ :: ⟨2, 3, b33⟩ :: ⟨2, 5, b34⟩ :: ⟨1, 7, b35⟩ :: ⟨1, 1, b36⟩ :: ⟨6, 7, b37⟩ :: ⟨6, 7, b38⟩ :: ⟨3, 8, b39⟩ :: ⟨1, 18, b40⟩ :: [])
  cls := [⟨[], [], [0], none⟩, ⟨[], [], [1, 0], none⟩, ⟨[], [], [2, 0], none⟩, ⟨[], [], [3, 0], none⟩, ⟨[(0, 0), (29, 1), (8, 2), (11, 3), (7, 4), (9, 5), (21, 6), (22, 7), (23, 8), (24, 9), (27, 10), (12, 11), (25, 12), (26, 13), (28, 14)], [1, 2, 3, 4, 5], [], none⟩, ⟨[(0, 18), (19, 19), (20, 20), (10, 21), (30, 22), (31, 23), (6, 24), (32, 25), (33, 26), (34, 27), (35, 28), (36, 29)], [13, 3, 14, 15, 16, 17, 18], [], none⟩]
  glb := [(.int 20), (.seq true [(.str "west"), (.str "east")]), (.int 12), (.int 8)]
  init := 0
def df0 : He.DefD := ⟨("Sheet", some "__init__"), "__init__", "Sheet.__init__", defArgs (inCls (top 7) 0), defBody (inCls (top 7) 0), defScope (inCls (top 7) 0), [], []⟩
def df1 : He.DefD := ⟨("Sheet", some "copy"), "copy", "Sheet.copy", defArgs (inCls (top 7) 1), defBody (inCls (top 7) 1), defScope (inCls (top 7) 1), [], []⟩
def df2 : He.DefD := ⟨("Sheet", some "balance"), "balance", "Sheet.balance", defArgs (inCls (top 7) 2), defBody (inCls (top 7) 2), defScope (inCls (top 7) 2), [], []⟩
def df3 : He.DefD := ⟨("Sheet", some "vault"), "vault", "Sheet.vault", defArgs (inCls (top 7) 3), defBody (inCls (top 7) 3), defScope (inCls (top 7) 3), [], []⟩
def df4 : He.DefD := ⟨("Sheet", some "give"), "give", "Sheet.give", defArgs (inCls (top 7) 4), defBody (inCls (top 7) 4), defScope (inCls (top 7) 4), [], []⟩
def df5 : He.DefD := ⟨("Sheet", some "charge"), "charge", "Sheet.charge", defArgs (inCls (top 7) 5), defBody (inCls (top 7) 5), defScope (inCls (top 7) 5), [], []⟩
def df6 : He.DefD := ⟨("Sheet", some "move"), "move", "Sheet.move", defArgs (inCls (top 7) 6), defBody (inCls (top 7) 6), defScope (inCls (top 7) 6), [], []⟩
def df7 : He.DefD := ⟨("Sheet", some "lock"), "lock", "Sheet.lock", defArgs (inCls (top 7) 7), defBody (inCls (top 7) 7), defScope (inCls (top 7) 7), [], []⟩
def df8 : He.DefD := ⟨("Sheet", some "release"), "release", "Sheet.release", defArgs (inCls (top 7) 8), defBody (inCls (top 7) 8), defScope (inCls (top 7) 8), [], []⟩
def df9 : He.DefD := ⟨("Sheet", some "mint"), "mint", "Sheet.mint", defArgs (inCls (top 7) 9), defBody (inCls (top 7) 9), defScope (inCls (top 7) 9), [], []⟩
def df10 : He.DefD := ⟨("Sheet", some "burn"), "burn", "Sheet.burn", defArgs (inCls (top 7) 10), defBody (inCls (top 7) 10), defScope (inCls (top 7) 10), [], []⟩
def df11 : He.DefD := ⟨("Sheet", some "bonded"), "bonded", "Sheet.bonded", defArgs (inCls (top 7) 11), defBody (inCls (top 7) 11), defScope (inCls (top 7) 11), [], []⟩
def df12 : He.DefD := ⟨("Sheet", some "bond"), "bond", "Sheet.bond", defArgs (inCls (top 7) 12), defBody (inCls (top 7) 12), defScope (inCls (top 7) 12), [], []⟩
def df13 : He.DefD := ⟨("Sheet", some "unbond"), "unbond", "Sheet.unbond", defArgs (inCls (top 7) 13), defBody (inCls (top 7) 13), defScope (inCls (top 7) 13), [], []⟩
def df14 : He.DefD := ⟨("Sheet", some "circulating"), "circulating", "Sheet.circulating", defArgs (inCls (top 7) 14), defBody (inCls (top 7) 14), defScope (inCls (top 7) 14), [], []⟩
def df15 : He.DefD := ⟨("is_account", none), "is_account", "is_account", defArgs (top 10), defBody (top 10), defScope (top 10), [], []⟩
def df16 : He.DefD := ⟨("is_count", none), "is_count", "is_count", defArgs (top 11), defBody (top 11), defScope (top 11), [], []⟩
def df17 : He.DefD := ⟨("is_set", none), "is_set", "is_set", defArgs (top 12), defBody (top 12), defScope (top 12), [], []⟩
def df18 : He.DefD := ⟨("Config", some "__init__"), "__init__", "Config.__init__", defArgs (inCls (top 17) 0), defBody (inCls (top 17) 0), defScope (inCls (top 17) 0), [], [("depth", (.int 2)), ("window", (.int 4)), ("delay", (.int 2)), ("bundle", (.int 4))]⟩
def df19 : He.DefD := ⟨("Config", some "token"), "token", "Config.token", defArgs (inCls (top 17) 1), defBody (inCls (top 17) 1), defScope (inCls (top 17) 1), [], []⟩
def df20 : He.DefD := ⟨("Config", some "home"), "home", "Config.home", defArgs (inCls (top 17) 3), defBody (inCls (top 17) 3), defScope (inCls (top 17) 3), [], []⟩
def df21 : He.DefD := ⟨("Config", some "scale"), "scale", "Config.scale", defArgs (inCls (top 17) 4), defBody (inCls (top 17) 4), defScope (inCls (top 17) 4), [], []⟩
def df22 : He.DefD := ⟨("Config", some "limit"), "limit", "Config.limit", defArgs (inCls (top 17) 5), defBody (inCls (top 17) 5), defScope (inCls (top 17) 5), [], []⟩
def df23 : He.DefD := ⟨("Config", some "large"), "large", "Config.large", defArgs (inCls (top 17) 6), defBody (inCls (top 17) 6), defScope (inCls (top 17) 6), [], []⟩
def df24 : He.DefD := ⟨("Config", some "opening"), "opening", "Config.opening", defArgs (inCls (top 17) 7), defBody (inCls (top 17) 7), defScope (inCls (top 17) 7), [], []⟩
def df25 : He.DefD := ⟨("Config", some "guards"), "guards", "Config.guards", defArgs (inCls (top 17) 8), defBody (inCls (top 17) 8), defScope (inCls (top 17) 8), [], []⟩
def df26 : He.DefD := ⟨("Config", some "depth"), "depth", "Config.depth", defArgs (inCls (top 17) 9), defBody (inCls (top 17) 9), defScope (inCls (top 17) 9), [], []⟩
def df27 : He.DefD := ⟨("Config", some "window"), "window", "Config.window", defArgs (inCls (top 17) 10), defBody (inCls (top 17) 10), defScope (inCls (top 17) 10), [], []⟩
def df28 : He.DefD := ⟨("Config", some "delay"), "delay", "Config.delay", defArgs (inCls (top 17) 11), defBody (inCls (top 17) 11), defScope (inCls (top 17) 11), [], []⟩
def df29 : He.DefD := ⟨("Config", some "bundle"), "bundle", "Config.bundle", defArgs (inCls (top 17) 12), defBody (inCls (top 17) 12), defScope (inCls (top 17) 12), [], []⟩
def df30 : He.DefD := ⟨("_law_pot", none), "_law_pot", "_law_pot", defArgs (top 19), defBody (top 19), defScope (top 19), [], []⟩
def df31 : He.DefD := ⟨("_law_next", none), "_law_next", "_law_next", defArgs (top 20), defBody (top 20), defScope (top 20), [], []⟩
def df32 : He.DefD := ⟨("_law_is_int", none), "_law_is_int", "_law_is_int", defArgs (top 21), defBody (top 21), defScope (top 21), [], []⟩
def df33 : He.DefD := ⟨("_law_same", none), "_law_same", "_law_same", defArgs (top 22), defBody (top 22), defScope (top 22), [], []⟩
def df34 : He.DefD := ⟨("_law_set", none), "_law_set", "_law_set", defArgs (top 23), defBody (top 23), defScope (top 23), [], []⟩
def df35 : He.DefD := ⟨("_law_config", none), "_law_config", "_law_config", defArgs (top 24), defBody (top 24), defScope (top 24), [], []⟩
def df36 : He.DefD := ⟨("_law_made", none), "_law_made", "_law_made", defArgs (top 25), defBody (top 25), defScope (top 25), [], []⟩
def df37 : He.DefD := ⟨("_law_do", none), "_law_do", "_law_do", defArgs (top 26), defBody (top 26), defScope (top 26), [], []⟩
def df38 : He.DefD := ⟨("_law_due", none), "_law_due", "_law_due", defArgs (top 27), defBody (top 27), defScope (top 27), [], []⟩
def df39 : He.DefD := ⟨("_law_right", none), "_law_right", "_law_right", defArgs (top 28), defBody (top 28), defScope (top 28), [], []⟩
def df40 : He.DefD := ⟨("law", none), "law", "law", defArgs (top 29), defBody (top 29), defScope (top 29), [], []⟩
def defs : List He.DefD := (df0 :: df1 :: df2 :: df3 :: df4 :: df5 :: df6 :: df7 :: df8 :: df9 :: df10 :: df11 :: df12 :: df13 :: df14 :: df15 :: df16 :: df17 :: df18 :: df19 :: df20 :: df21 :: df22 :: df23 :: df24 :: df25 :: df26 :: df27 :: df28 :: df29 :: df30 :: df31 :: df32 :: df33 :: df34 :: df35 :: df36 :: df37 :: df38 :: df39 :: df40 :: [])
def tab : Tab where
  P := prg
  an := ("__init__" :: "config" :: "side" :: "balances" :: "vaults" :: "bonds" :: "opening" :: "give" :: "balance" :: "charge" :: "scale" :: "vault" :: "bonded" :: "table" :: "first_set" :: "deep" :: "wide" :: "slow" :: "grouped" :: "token" :: "home" :: "move" :: "lock" :: "release" :: "mint" :: "bond" :: "unbond" :: "burn" :: "circulating" :: "copy" :: "limit" :: "large" :: "guards" :: "depth" :: "window" :: "delay" :: "bundle" :: [])
  n := ⟨(none :: none :: none :: none :: none :: none :: none :: none :: none :: none :: none :: none :: none :: none :: none :: some "is_account" :: some "is_count" :: some "is_set" :: none :: none :: none :: none :: none :: none :: none :: none :: none :: none :: none :: none :: some "_law_pot" :: some "_law_next" :: some "_law_is_int" :: some "_law_same" :: some "_law_set" :: some "_law_config" :: some "_law_made" :: some "_law_do" :: some "_law_due" :: some "_law_right" :: some "law" :: []), ["BridgeError", "InvalidArgument", "UnknownToken", "NotEnoughBalance", "Sheet", "Config"], ["MOST_SIGNS", "SIDES", "MOST_TOKEN_SIGNS", "MOST_BUNDLED"], [(18, 1, ["tokens", "balances", "guards", "depth", "window", "delay", "bundle"], [])]⟩
  defs := defs
  N := (["self", "config", "side", "account", "token", "amount"] :: ["self", "twin", "place", "amount"] :: ["self", "account", "token"] :: ["self", "token"] :: ["self", "account", "token", "amount"] :: ["self", "account", "token", "amount"] :: ["self", "sender", "receiver", "token", "amount"] :: ["self", "account", "token", "units", "amount"] :: ["self", "account", "token", "units", "amount"] :: ["self", "account", "token", "units"] :: ["self", "account", "token", "units"] :: ["self", "guard", "token"] :: ["self", "guard", "token", "amount"] :: ["self", "guard", "token", "amount"] :: ["self", "token", "held", "place", "amount"] :: ["value"] :: ["value", "least"] :: ["value", "names", "pair"] :: ["self", "tokens", "balances", "guards", "depth", "window", "delay", "bundle", "name", "home", "scale", "limit", "large", "account", "token", "amount"] :: ["self", "name"] :: ["self", "token"] :: ["self", "token"] :: ["self", "token"] :: ["self", "token"] :: ["self", "side", "row"] :: ["self"] :: ["self"] :: ["self"] :: ["self"] :: ["self"] :: ["_law_script", "_law_seed", "_law_cell"] :: ["_law_pot_here", "_law_limit", "_law_mixed", "_law_cell", "_law_found"] :: ["_law_value"] :: ["_law_found", "_law_value", "_law_k"] :: ["_law_pot_here", "_law_most", "_law_names", "_law_found", "_law_k"] :: ["_law_pot_here", "_law_tokens", "_law_name", "_law_balances", "_law_account", "_law_guards", "_law_token"] :: ["_law_parts"] :: ["_law_sheet", "_law_kind", "_law_one", "_law_other", "_law_token", "_law_amount", "e"] :: ["_law_table", "_law_kind", "_law_one", "_law_other", "_law_token", "_law_amount", "_law_big"] :: ["_law_parts", "_law_sheet", "_law_table", "_law_token", "_law_names", "_law_bonds", "_law_amounts", "_law_account"] :: ["_law_script", "_law_pot_here", "_law_parts", "_law_side", "_law_sheet", "_law_table", "_law_row", "_law_kept", "_law_place", "_law_k", "_law_token", "_law_kind", "_law_one", "_law_other", "_law_held", "_law_amount", "_law_due_here", "_law_found"] :: [])
  ps := (["self", "config", "side"] :: ["self"] :: ["self", "account", "token"] :: ["self", "token"] :: ["self", "account", "token", "amount"] :: ["self", "account", "token", "amount"] :: ["self", "sender", "receiver", "token", "amount"] :: ["self", "account", "token", "units"] :: ["self", "account", "token", "units"] :: ["self", "account", "token", "units"] :: ["self", "account", "token", "units"] :: ["self", "guard", "token"] :: ["self", "guard", "token", "amount"] :: ["self", "guard", "token", "amount"] :: ["self", "token"] :: ["value"] :: ["value", "least"] :: ["value"] :: ["self", "tokens", "balances", "guards", "depth", "window", "delay", "bundle"] :: ["self", "name"] :: ["self", "token"] :: ["self", "token"] :: ["self", "token"] :: ["self", "token"] :: ["self", "side"] :: ["self"] :: ["self"] :: ["self"] :: ["self"] :: ["self"] :: ["_law_script"] :: ["_law_pot_here", "_law_limit"] :: ["_law_value"] :: ["_law_found", "_law_value"] :: ["_law_pot_here", "_law_most"] :: ["_law_pot_here"] :: ["_law_parts"] :: ["_law_sheet", "_law_kind", "_law_one", "_law_other", "_law_token", "_law_amount"] :: ["_law_table", "_law_kind", "_law_one", "_law_other", "_law_token", "_law_amount"] :: ["_law_parts", "_law_sheet", "_law_table"] :: ["_law_script"] :: [])
theorem tab_ok : tabB tab = true := by decide +kernel
theorem bd0 : BdOk df0 ["self", "config", "side"] := fun _ _ _ _ _ _ us hl => match us, hl with | [_, _, _], _ => rfl
theorem bd1 : BdOk df1 ["self"] := fun _ _ _ _ _ _ us hl => match us, hl with | [_], _ => rfl
theorem bd2 : BdOk df2 ["self", "account", "token"] := fun _ _ _ _ _ _ us hl => match us, hl with | [_, _, _], _ => rfl
theorem bd3 : BdOk df3 ["self", "token"] := fun _ _ _ _ _ _ us hl => match us, hl with | [_, _], _ => rfl
theorem bd4 : BdOk df4 ["self", "account", "token", "amount"] := fun _ _ _ _ _ _ us hl => match us, hl with | [_, _, _, _], _ => rfl
theorem bd5 : BdOk df5 ["self", "account", "token", "amount"] := fun _ _ _ _ _ _ us hl => match us, hl with | [_, _, _, _], _ => rfl
theorem bd6 : BdOk df6 ["self", "sender", "receiver", "token", "amount"] := fun _ _ _ _ _ _ us hl => match us, hl with | [_, _, _, _, _], _ => rfl
theorem bd7 : BdOk df7 ["self", "account", "token", "units"] := fun _ _ _ _ _ _ us hl => match us, hl with | [_, _, _, _], _ => rfl
theorem bd8 : BdOk df8 ["self", "account", "token", "units"] := fun _ _ _ _ _ _ us hl => match us, hl with | [_, _, _, _], _ => rfl
theorem bd9 : BdOk df9 ["self", "account", "token", "units"] := fun _ _ _ _ _ _ us hl => match us, hl with | [_, _, _, _], _ => rfl
theorem bd10 : BdOk df10 ["self", "account", "token", "units"] := fun _ _ _ _ _ _ us hl => match us, hl with | [_, _, _, _], _ => rfl
theorem bd11 : BdOk df11 ["self", "guard", "token"] := fun _ _ _ _ _ _ us hl => match us, hl with | [_, _, _], _ => rfl
theorem bd12 : BdOk df12 ["self", "guard", "token", "amount"] := fun _ _ _ _ _ _ us hl => match us, hl with | [_, _, _, _], _ => rfl
theorem bd13 : BdOk df13 ["self", "guard", "token", "amount"] := fun _ _ _ _ _ _ us hl => match us, hl with | [_, _, _, _], _ => rfl
theorem bd14 : BdOk df14 ["self", "token"] := fun _ _ _ _ _ _ us hl => match us, hl with | [_, _], _ => rfl
theorem bd15 : BdOk df15 ["value"] := fun _ _ _ _ _ _ us hl => match us, hl with | [_], _ => rfl
theorem bd16 : BdOk df16 ["value", "least"] := fun _ _ _ _ _ _ us hl => match us, hl with | [_, _], _ => rfl
theorem bd17 : BdOk df17 ["value"] := fun _ _ _ _ _ _ us hl => match us, hl with | [_], _ => rfl
theorem bd19 : BdOk df19 ["self", "name"] := fun _ _ _ _ _ _ us hl => match us, hl with | [_, _], _ => rfl
theorem bd20 : BdOk df20 ["self", "token"] := fun _ _ _ _ _ _ us hl => match us, hl with | [_, _], _ => rfl
theorem bd21 : BdOk df21 ["self", "token"] := fun _ _ _ _ _ _ us hl => match us, hl with | [_, _], _ => rfl
theorem bd22 : BdOk df22 ["self", "token"] := fun _ _ _ _ _ _ us hl => match us, hl with | [_, _], _ => rfl
theorem bd23 : BdOk df23 ["self", "token"] := fun _ _ _ _ _ _ us hl => match us, hl with | [_, _], _ => rfl
theorem bd24 : BdOk df24 ["self", "side"] := fun _ _ _ _ _ _ us hl => match us, hl with | [_, _], _ => rfl
theorem bd25 : BdOk df25 ["self"] := fun _ _ _ _ _ _ us hl => match us, hl with | [_], _ => rfl
theorem bd26 : BdOk df26 ["self"] := fun _ _ _ _ _ _ us hl => match us, hl with | [_], _ => rfl
theorem bd27 : BdOk df27 ["self"] := fun _ _ _ _ _ _ us hl => match us, hl with | [_], _ => rfl
theorem bd28 : BdOk df28 ["self"] := fun _ _ _ _ _ _ us hl => match us, hl with | [_], _ => rfl
theorem bd29 : BdOk df29 ["self"] := fun _ _ _ _ _ _ us hl => match us, hl with | [_], _ => rfl
theorem bd30 : BdOk df30 ["_law_script"] := fun _ _ _ _ _ _ us hl => match us, hl with | [_], _ => rfl
theorem bd31 : BdOk df31 ["_law_pot_here", "_law_limit"] := fun _ _ _ _ _ _ us hl => match us, hl with | [_, _], _ => rfl
theorem bd32 : BdOk df32 ["_law_value"] := fun _ _ _ _ _ _ us hl => match us, hl with | [_], _ => rfl
theorem bd33 : BdOk df33 ["_law_found", "_law_value"] := fun _ _ _ _ _ _ us hl => match us, hl with | [_, _], _ => rfl
theorem bd34 : BdOk df34 ["_law_pot_here", "_law_most"] := fun _ _ _ _ _ _ us hl => match us, hl with | [_, _], _ => rfl
theorem bd35 : BdOk df35 ["_law_pot_here"] := fun _ _ _ _ _ _ us hl => match us, hl with | [_], _ => rfl
theorem bd36 : BdOk df36 ["_law_parts"] := fun _ _ _ _ _ _ us hl => match us, hl with | [_], _ => rfl
theorem bd37 : BdOk df37 ["_law_sheet", "_law_kind", "_law_one", "_law_other", "_law_token", "_law_amount"] := fun _ _ _ _ _ _ us hl => match us, hl with | [_, _, _, _, _, _], _ => rfl
theorem bd38 : BdOk df38 ["_law_table", "_law_kind", "_law_one", "_law_other", "_law_token", "_law_amount"] := fun _ _ _ _ _ _ us hl => match us, hl with | [_, _, _, _, _, _], _ => rfl
theorem bd39 : BdOk df39 ["_law_parts", "_law_sheet", "_law_table"] := fun _ _ _ _ _ _ us hl => match us, hl with | [_, _, _], _ => rfl
theorem bd40 : BdOk df40 ["_law_script"] := fun _ _ _ _ _ _ us hl => match us, hl with | [_], _ => rfl
theorem bind_ok : BindOk tab := bindAll ⟨fun _ => bd0, fun _ => bd1, fun _ => bd2, fun _ => bd3, fun _ => bd4, fun _ => bd5, fun _ => bd6, fun _ => bd7, fun _ => bd8, fun _ => bd9, fun _ => bd10, fun _ => bd11, fun _ => bd12, fun _ => bd13, fun _ => bd14, fun _ => bd15, fun _ => bd16, fun _ => bd17, fun h => absurd h (by decide), fun _ => bd19, fun _ => bd20, fun _ => bd21, fun _ => bd22, fun _ => bd23, fun _ => bd24, fun _ => bd25, fun _ => bd26, fun _ => bd27, fun _ => bd28, fun _ => bd29, fun _ => bd30, fun _ => bd31, fun _ => bd32, fun _ => bd33, fun _ => bd34, fun _ => bd35, fun _ => bd36, fun _ => bd37, fun _ => bd38, fun _ => bd39, fun _ => bd40, trivial⟩
set_option maxHeartbeats 4000000 in
theorem key_ok : KeyOk tab := by
  intro e he
  have he : e ∈ ([(18, 1, ["tokens", "balances", "guards", "depth", "window", "delay", "bundle"], [])] : List (Nat × Nat × List Str × List D)) := he
  rcases List.mem_cons.mp he with rfl | he
  · exact ⟨_, rfl, rfl, rfl, .inr ⟨rfl, List.cons_ne_nil _ _, List.drop 4 [("depth", (.int 2)), ("window", (.int 4)), ("delay", (.int 2)), ("bundle", (.int 4))], fun q hq => List.mem_of_mem_drop hq, rfl, fun D doc pm an cdv ct us mv ws l1 l2 l3 => by
      match us, mv, ws, l1, l2, l3 with
      | [_], [], [_, _, _, _, _, _, _], _, _, _ => exact rfl⟩⟩
  cases he
abbrev hk : PySem.W.Hook := hookV 4 (goodB tab) defs
def ob (s : PySem.W.SharedT) : He.AlD := obsVG 4 (goodB tab) defs (HandSHeadRun.getT s)
theorem ob_eq (s : PySem.W.SharedT) : ob s = hk.obs s.abs := obsVG_eq (HandSHeadRun.getT_eq s)
abbrev R : PySem.W.OpenRow := PySem.W.OpenLaw.row PySem.Challenge.rw_vaultbridge_k10_sheet
theorem run (w : World) : HandSHeadRun.RunEq R (PySem.W.view R.prog [29]) hk ob 4000 ["_wall", "__name__", "BridgeError", "InvalidArgument", "UnknownToken", "NotEnoughBalance", "Sheet", "MOST_SIGNS", "is_account", "is_count", "is_set", "SIDES", "MOST_TOKEN_SIGNS", "MOST_BUNDLED", "Config", "_law_pot", "_law_next", "_law_is_int", "_law_same", "_law_set", "_law_config", "_law_made", "_law_do", "_law_due", "_law_right"] w := by
  intro os
  kernel_rfl
end L_k10_sheet

set_option maxHeartbeats 4000000
namespace L_k10_sheet
open PySem L2 Vb
mutual
/-- no object within, texts short -/
def tame : D → Bool
  | .str s => decide (s.length ≤ 1000) && D.pure (.str s)
  | .seq true xs => tames xs
  | .seq false _ => false
  | .ref _ => false
  | .giv _ => false
  | _ => true
def tames : List D → Bool
  | [] => true
  | x :: xs => tame x && tames xs
end
theorem tames_all : ∀ xs : List D, tames xs = xs.all tame
  | [] => rfl
  | x :: xs => by simp [tames, tames_all xs]
mutual
theorem tame_pure : ∀ {x : D}, tame x = true → x.pure = true
  | .str s, h => (ands (show (decide (s.length ≤ 1000) && D.pure (.str s)) = true from h)).2
  | .seq true xs, h => tames_pure (xs := xs) h
  | .seq false _, h => by cases h
  | .ref _, h => by cases h
  | .giv _, h => by cases h
  | .non, _ => rfl
  | .bl _, _ => rfl
  | .int _, _ => rfl
theorem tames_pure : ∀ {xs : List D}, tames xs = true → D.pures xs = true
  | [], _ => rfl
  | x :: xs, h => by
    obtain ⟨h1, h2⟩ := ands (show (tame x && tames xs) = true from h)
    simp only [D.pures, tame_pure h1, tames_pure h2, Bool.and_self]
end
def isAcc : D → Bool
  | .str s => decide (1 ≤ s.length ∧ s.length ≤ 20)
  | _ => false
def isCnt (l : Int) : D → Bool
  | .int i => decide (l ≤ i)
  | _ => false
def okPr : D → Bool
  | .seq true [a, b] => isAcc a && isCnt 1 b
  | _ => false
def nmOf : D → D
  | .seq true (a :: _) => a
  | _ => .non
def isSetB (xs : List D) : Bool := (xs.all okPr && decide ((xs.map nmOf).Nodup)) && !xs.isEmpty
section
variable {C : Call}
theorem acc_ok {d : D} (hd : tame d = true) {g : G} {K : Kd} {X : Kx} (h : K (.bl (isAcc d)) g) : C1 prg C 15 [d] g K X := by
  refine c1 rfl rfl ?_
  show wSs prg C b15 [some (.val d)] g (Kr K X)
  unfold b15
  have g0 : prg.glb[0]? = some (.int 20) := rfl
  cases d with
  | str s =>
    have hl : s.length ≤ 1000 := of_decide_eq_true (ands (show (decide (s.length ≤ 1000) && D.pure (.str s)) = true from hd)).1
    simp [g0]
    have hl2 : s.length ≤ 1000000 := by omega
    refine ⟨hl2, ?_⟩
    unfold isAcc at h
    by_cases q1 : 1 ≤ s.length
    · have q1' : (1 : Int) ≤ s.length := by omega
      simp [q1']
      by_cases q2 : s.length ≤ 20
      · have q2' : (s.length : Int) ≤ 20 := by omega
        simpa [q1, q2, q2'] using h
      · have q2' : ¬ (s.length : Int) ≤ 20 := by omega
        simpa [q1, q2, q2'] using h
    · have q1' : ¬ (1 : Int) ≤ s.length := by omega
      simpa [q1, q1'] using h
  | non => simpa [isAcc] using h
  | bl b => simpa [isAcc] using h
  | int i => simpa [isAcc] using h
  | seq t xs => cases t with
    | true => simpa [isAcc] using h
    | false => simp [tame] at hd
  | ref _ => simp [tame] at hd
  | giv _ => simp [tame] at hd
theorem cnt_ok {d : D} {l : Int} (hd : tame d = true) {g : G} {K : Kd} {X : Kx} (h : K (.bl (isCnt l d)) g) : C1 prg C 16 [d, .int l] g K X := by
  refine c1 rfl rfl ?_
  show wSs prg C b16 [some (.val d), some (.val (.int l))] g (Kr K X)
  unfold b16
  cases d with
  | str s => simpa [isCnt] using h
  | non => simpa [isCnt] using h
  | bl b => simpa [isCnt] using h
  | int i => simpa [isCnt] using h
  | seq t xs => cases t with
    | true => simpa [isCnt] using h
    | false => simp [tame] at hd
  | ref _ => simp [tame] at hd
  | giv _ => simp [tame] at hd
theorem any_str (s : Str) : ∀ ss : List Str, ((ss.map D.str).any fun y => D.eqv y (.str s)) = decide (s ∈ ss)
  | [] => rfl
  | x :: ss => by
    rw [List.map_cons, List.any_cons, any_str s ss, v_ss]
    by_cases h : x = s
    · subst h; simp
    · have : ¬ s = x := fun z => h z.symm
      simp [h, this]
theorem flat_strs : ∀ ss : List Str, (ss.map D.str).all D.flat = true
  | [] => rfl
  | x :: ss => by simp [D.flat]
/-- a part and the list of names before it -/
theorem set_false {xs : List D} {n : Nat} {x : D} (hx : xs[n]? = some x) (h : okPr x = false ∨ ∃ m < n, ∃ y, xs[m]? = some y ∧ nmOf y = nmOf x) : isSetB xs = false := by
  unfold isSetB
  rcases h with h | ⟨m, lt, y, hy, e⟩
  · have : xs.all okPr = false := by
      rw [List.all_eq_false]
      exact ⟨x, List.mem_of_getElem? hx, by rw [h]; decide⟩
    rw [this]
    rfl
  · have : ¬ (xs.map nmOf).Nodup := fun nd => by
      have h1 : (xs.map nmOf)[m]? = some (nmOf x) := by rw [List.getElem?_map, hy, ← e]; rfl
      have h2 : (xs.map nmOf)[n]? = some (nmOf x) := by rw [List.getElem?_map, hx]; rfl
      have l1 := (List.getElem?_eq_some_iff.mp h1).1
      have := (List.getElem?_inj l1 nd).mp (h1.trans h2.symm)
      omega
    simp [this]
theorem is_set_ok {xs : List D} (hx : tames xs = true) (hl : xs.length ≤ 1000) {g : G} {j : Vb.Id} (nj : g j = none) {K : Kd} {X : Kx} (h : ∀ g', (∀ k, k ≠ j → g' k = g k) → K (.bl (isSetB xs)) g') : C1 prg (C1 prg C) 17 [.seq true xs] g K X := by
  refine c1 rfl rfl ?_
  show wSs prg (C1 prg C) b17 [some (.val (.seq true xs)), none, none] g (Kr K X)
  unfold b17
  simp
  refine ⟨j, nj, kq ?_⟩
  rw [x_cons, x_for]
  simp only [x_ipl, x_v, x_var, List.set_cons_succ, List.set_cons_zero, List.getElem?_cons_succ, List.getElem?_cons_zero, cv_seq, sr_seq, ws_no, ws_sn]
  refine ⟨trivial, ?_⟩
  refine for_inv (fun n r g' => ∃ (ss : List Str) (x2 : Option Sl), r = [some (.val (.seq true xs)), some (.val (.ref j)), x2] ∧ g' j = some (.ct (.lst (ss.map .str))) ∧ (∀ k, k ≠ j → g' k = g k) ∧ ss.length = n ∧ ss.Nodup ∧ (xs.take n).map nmOf = ss.map .str ∧ (xs.take n).all okPr = true) _ _ 0 _ _ rfl (Nat.zero_le _) ⟨[], none, rfl, up_same _ _ _, fun k hk => up_ne _ _ hk, rfl, List.nodup_nil, rfl, rfl⟩ (fun _ _ _ _ => True.intro) ?_ ?_
  · rintro n x r g' Kc hxn ⟨ss, x2, rfl, hj, fr, len, nd, nm, ok⟩ hk _ hret _
    refine ⟨_, rfl, ?_⟩
    have lt : n < xs.length := (List.getElem?_eq_some_iff.mp hxn).1
    have sx : tame x = true := List.all_eq_true.mp (by rw [← tames_all]; exact hx) x (List.mem_of_getElem? hxn)
    have bad : isSetB xs = false → Kc (.ret (.bl false)) [some (.val (.seq true xs)), some (.val (.ref j)), some (.val x)] g' := fun e => hret _ _ _ (by show K _ _; rw [← e]; exact h g' fr)
    have sx' := sx
    cases x with
    | seq t ys =>
      cases t with
      | true =>
        have sy : ys.all tame = true := by rw [← tames_all]; exact sx
        by_cases l2 : ys.length = 2
        · obtain ⟨a, b, rfl⟩ : ∃ a b, ys = [a, b] := by
            match ys, l2 with
            | [a, b], _ => exact ⟨a, b, rfl⟩
          simp only [List.all_cons, List.all_nil, Bool.and_true, Bool.and_eq_true] at sy
          simp [L2.atI, L2.ixN]
          refine acc_ok sy.1 ?_
          cases ea : isAcc a with
          | false =>
            simp
            exact bad (set_false hxn (.inl (by simp [okPr, ea])))
          | true =>
            simp [L2.atI, L2.ixN]
            refine cnt_ok sy.2 ?_
            cases eb : isCnt 1 b with
            | false =>
              simp
              exact bad (set_false hxn (.inl (by simp [okPr, eb])))
            | true =>
              simp
              refine kq ?_
              obtain ⟨s, rfl⟩ : ∃ s, a = .str s := by
                cases a <;> first | exact ⟨_, rfl⟩ | cases ea
              simp [L2.atI, L2.ixN, hj, any_str, flat_strs, D.flat]
              have go : okPr (.seq true [.str s, b]) = true := by simp [okPr, ea, eb]
              by_cases m : s ∈ ss
              · simp [m]
                refine bad (set_false hxn (.inr ?_))
                have : D.str s ∈ (xs.take n).map nmOf := by rw [nm]; exact List.mem_map.mpr ⟨s, m, rfl⟩
                obtain ⟨y, hy, e⟩ := List.mem_map.mp this
                obtain ⟨k, hk2⟩ := List.mem_iff_getElem?.mp hy
                have hkn : k < n := by
                  have := (List.getElem?_eq_some_iff.mp hk2).1
                  simp at this
                  omega
                rw [List.getElem?_take_of_lt hkn] at hk2
                exact ⟨k, hkn, y, hk2, e⟩
              · simp [m]
                refine kq ?_
                simp [hj, L2.atI, L2.ixN, simE]
                refine ⟨by omega, kq ?_⟩
                simp
                have tk : xs.take (n + 1) = xs.take n ++ [.seq true [.str s, b]] := by
                  rw [List.take_add_one, hxn]
                  rfl
                refine (hk _ _ ⟨ss ++ [s], _, rfl, by rw [up_same]; simp, fun k hk => (up_ne _ _ hk).trans (fr k hk), by simp [len], ?_, ?_, ?_⟩).1
                · rw [List.nodup_append]
                  exact ⟨nd, by simp, fun u hu v hv z => m (by
                    have : v = s := by simpa using hv
                    rw [← this, ← z]
                    exact hu)⟩
                · rw [tk, List.map_append, nm]
                  simp [nmOf]
                · rw [tk, List.all_append, ok]
                  simp [go]
        · have nl : ¬ ((ys.length : Int) = 2) := by omega
          have nb : okPr (.seq true ys) = false := by
            unfold okPr
            split
            · rename_i e
              cases e
              exact absurd rfl l2
            · rfl
          simp [nl]
          exact bad (set_false hxn (.inl nb))
      | false => simp [tame] at sx
    | ref _ => simp [tame] at sx
    | giv _ => simp [tame] at sx
    | non => simp; exact bad (set_false hxn (.inl rfl))
    | bl b => simp; exact bad (set_false hxn (.inl rfl))
    | int b => simp; exact bad (set_false hxn (.inl rfl))
    | str b => simp; exact bad (set_false hxn (.inl rfl))
  · rintro r g' ⟨ss, x2, rfl, hj, fr, len, nd, nm, ok⟩
    refine kq ?_
    simp [hj, len]
    rw [List.take_length] at nm ok
    have e : isSetB xs = decide (0 < xs.length) := by
      unfold isSetB
      have : (xs.map nmOf).Nodup := by
        rw [nm]
        exact List.Pairwise.map _ (fun a b h z => h (by cases z; rfl)) nd
      simp [ok, this]
      cases xs <;> simp
    rw [← e]
    exact h g' fr
end

end L_k10_sheet

set_option maxHeartbeats 4000000
namespace L_k10_sheet
open PySem L2 Vb
/-- a token, an opening balance -/
structure Tk where
  nm : Str
  hm : Str
  sc : Int
  lm : Int
  lg : Int
structure Rw where
  ac : Str
  tk : Str
  am : Int
def tkD (t : Tk) : D := .seq true [.str t.nm, .str t.hm, .int t.sc, .int t.lm, .int t.lg]
def tkV (t : Tk) : D := .seq true [.str t.hm, .int t.sc, .int t.lm, .int t.lg]
def rwD (w : Rw) : D := .seq true [.str w.ac, .str w.tk, .int w.am]
def tbl (ts : List Tk) : List (D × D) := ts.map fun t => (.str t.nm, tkV t)
theorem tbl_F (ts : List Tk) : ((tbl ts).all fun q => q.1.keyF) = true := by
  unfold tbl
  rw [List.all_map, List.all_eq_true]
  exact fun _ _ => rfl
theorem tbl_O (ts : List Tk) (a : Str) : keysOk (tbl ts) (.str a) = true := okF (tbl_F ts) rfl
def seenB (ss : List Str) (a : Str) : Bool := decide (a ∈ ss)
theorem tbl_some (a : Str) : ∀ ts : List Tk, (dGet (tbl ts) (.str a)).isSome = seenB (ts.map (·.nm)) a
  | [] => rfl
  | t :: ts => by
    show (dGet ((.str t.nm, tkV t) :: tbl ts) (.str a)).isSome = _
    rw [dGet_cons]
    by_cases e : t.nm = a
    · simp [e, seenB]
    · have e1 : ¬ (D.str t.nm = D.str a) := fun z => e (by simpa using z)
      have e2 : ¬ a = t.nm := fun z => e z.symm
      rw [if_neg e1, tbl_some a ts]
      simp [e2, seenB]
theorem tbl_put {ts : List Tk} {t : Tk} (h : t.nm ∉ ts.map (·.nm)) : dPut (tbl ts) (.str t.nm) (tkV t) = tbl (ts ++ [t]) := by
  unfold dPut
  rw [if_neg]
  · unfold tbl; simp
  · intro z
    obtain ⟨p, hp, e⟩ := List.any_eq_true.mp z
    obtain ⟨u, hu, rfl⟩ := List.mem_map.mp hp
    have e : D.str u.nm = D.str t.nm := of_decide_eq_true e
    have : u.nm = t.nm := by simpa using e
    exact h (this ▸ List.mem_map_of_mem hu)
def tokB (seen : List Str) (t : Tk) : Bool := (decide (1 ≤ t.nm.length ∧ t.nm.length ≤ 12) && (!seenB seen t.nm && decide (t.hm = "west" ∨ t.hm = "east"))) && (decide (1 ≤ t.sc) && (decide (0 ≤ t.lm) && decide (1 ≤ t.lg)))
def toksB : List Str → List Tk → Bool
  | _, [] => true
  | seen, t :: ts => tokB seen t && toksB (seen ++ [t.nm]) ts
def rowB (ns : List Str) (w : Rw) : Bool := isAcc (.str w.ac) && (decide (w.tk ∈ ns) && decide (0 ≤ w.am))
/-- the configuration as it stands -/
abbrev cfO (ts : List Tk) (nb : Vb.Id) (gd : D) (dp wd dl bn : Int) : Ob := .ins 5 [(13, .own (.dct (tbl ts))), (3, .val (.ref nb)), (14, .val gd), (15, .val (.int dp)), (16, .val (.int wd)), (17, .val (.int dl)), (18, .val (.int bn))]
theorem fo : prg.fldOk 5 13 = true ∧ prg.fldOk 5 3 = true ∧ prg.fldOk 5 14 = true ∧ prg.fldOk 5 15 = true ∧ prg.fldOk 5 16 = true ∧ prg.fldOk 5 17 = true ∧ prg.fldOk 5 18 = true := by decide
theorem gl1 : prg.glb[1]? = some (.seq true [.str "west", .str "east"]) := rfl
theorem gl2 : prg.glb[2]? = some (.int 12) := rfl
theorem gl3 : prg.glb[3]? = some (.int 8) := rfl
section
variable {C : Call} {c ti bi : Vb.Id} {g : G} {K : Ks}
def bT : Ss := match b18 with
  | .cons _ (.cons (.for_ _ _ b) _) => b
  | _ => .nil
def bR : Ss := match b18 with
  | .cons _ (.cons _ (.cons (.for_ _ _ b) _)) => b
  | _ => .nil
/-- one token -/
theorem tok_ok {ts : List Tk} {t : Tk} {fs : List (Nat × Sl)} (hc : g c = some (.ins 5 [(13, .own (.dct (tbl ts)))])) (hl : t.nm.length ≤ 1000) (hl2 : ts.length ≤ 1000) {x1 x2 x3 x4 x5 x6 x7 x13 x14 x15 : Option Sl}
    (h1 : tokB (ts.map (·.nm)) t = true → ∀ g', g' c = some (.ins 5 [(13, .own (.dct (tbl (ts ++ [t]))))]) → (∀ k, k ≠ c → g' k = g k) → K .nx [some (.val (.ref c)), x1, x2, x3, x4, x5, x6, x7, some (.val (.str t.nm)), some (.val (.str t.hm)), some (.val (.int t.sc)), some (.val (.int t.lm)), some (.val (.int t.lg)), x13, x14, x15] g')
    (h2 : tokB (ts.map (·.nm)) t = false → K (.exc 1) [some (.val (.ref c)), x1, x2, x3, x4, x5, x6, x7, some (.val (.str t.nm)), some (.val (.str t.hm)), some (.val (.int t.sc)), some (.val (.int t.lm)), some (.val (.int t.lg)), x13, x14, x15] g) :
    wSs prg C bT [some (.val (.ref c)), x1, x2, x3, x4, x5, x6, x7, some (.val (.str t.nm)), some (.val (.str t.hm)), some (.val (.int t.sc)), some (.val (.int t.lm)), some (.val (.int t.lg)), x13, x14, x15] g K := by
  unfold bT b18
  dsimp only
  obtain ⟨nm, ho, sc, lm, lg⟩ := t
  dsimp only at *
  have hm : nm.length ≤ 1000000 := by omega
  unfold tokB at h1 h2
  dsimp only at h1 h2
  by_cases q1 : 1 ≤ nm.length
  rotate_left
  · have e1 : ¬ (1 : Int) ≤ nm.length := by omega
    simp [e1, hm]
    exact h2 (by simp [q1])
  have e1 : (1 : Int) ≤ nm.length := by omega
  by_cases q2 : nm.length ≤ 12
  rotate_left
  · have e2 : ¬ (nm.length : Int) ≤ 12 := by omega
    simp [e1, e2, hm, gl2]
    exact h2 (by simp [q2])
  have e2 : (nm.length : Int) ≤ 12 := by omega
  cases q3 : seenB (ts.map (·.nm)) nm with
  | true =>
    simp [e1, e2, hm, gl2, hc, tbl_O, tbl_some, q3]
    exact h2 (by simp [q3])
  | false =>
  have nm' : nm ∉ ts.map (·.nm) := of_decide_eq_false q3
  by_cases q4 : ho = "west" ∨ ho = "east"
  rotate_left
  · have q5 : ¬ ho = "west" := fun z => q4 (.inl z)
    have q6 : ¬ ho = "east" := fun z => q4 (.inr z)
    have q5' : ¬ Str.ofString "west" = ho := fun z => q5 z.symm
    have q6' : ¬ Str.ofString "east" = ho := fun z => q6 z.symm
    simp [e1, e2, hm, gl1, gl2, hc, tbl_O, tbl_some, q3, q5', q6', D.flat]
    exact h2 (by simp [q5, q6])
  have rest : wSs prg C (match bT with | .cons _ t => t | _ => .nil) [some (.val (.ref c)), x1, x2, x3, x4, x5, x6, x7, some (.val (.str nm)), some (.val (.str ho)), some (.val (.int sc)), some (.val (.int lm)), some (.val (.int lg)), x13, x14, x15] g K := by
    unfold bT b18
    dsimp only
    by_cases a1 : sc < 1
    · have : ¬ 1 ≤ sc := by omega
      simp [a1]
      exact h2 (by simp [this])
    have a1' : 1 ≤ sc := by omega
    by_cases a2 : lm < 0
    · have : ¬ 0 ≤ lm := by omega
      simp [a1, a2]
      exact h2 (by simp [this])
    have a2' : 0 ≤ lm := by omega
    by_cases a3 : lg < 1
    · have : ¬ 1 ≤ lg := by omega
      simp [a1, a2, a3]
      exact h2 (by simp [this])
    have a3' : 1 ≤ lg := by omega
    simp [a1, a2, a3]
    refine kq ?_
    simp [hc, tbl_O]
    refine ⟨by simp [tbl]; omega, kq ?_⟩
    rw [x_nil]
    refine h1 (by simp [q1, q2, q3, q4, a1', a2', a3']) _ ?_ fun k n => by simp [n]
    have := tbl_put (t := ⟨nm, ho, sc, lm, lg⟩) nm'
    rw [← this]
    simp [tkV]
  rcases q4 with rfl | rfl
  · simp [e1, e2, hm, gl1, gl2, hc, tbl_O, tbl_some, q3, D.flat]
    exact kq rest
  · have we : ¬ Str.ofString "west" = Str.ofString "east" := by decide
    simp [e1, e2, hm, gl1, gl2, hc, tbl_O, tbl_some, q3, D.flat, we]
    exact kq rest
end

end L_k10_sheet

set_option maxHeartbeats 4000000
namespace L_k10_sheet
open PySem L2 Vb
section
variable {C : Call} {c ti bi : Vb.Id} {g : G}
/-- one balance -/
theorem row_ok {K : Ks} {ts : List Tk} {w : Rw} {fs : List (Nat × Sl)} (hc : g c = some (.ins 5 [(13, .own (.dct (tbl ts)))])) (tw : tame (.str w.ac) = true) {x1 x2 x3 x4 x5 x6 x7 x8 x9 x10 x11 x12 : Option Sl}
    (h1 : rowB (ts.map (·.nm)) w = true → K .nx [some (.val (.ref c)), x1, x2, x3, x4, x5, x6, x7, x8, x9, x10, x11, x12, some (.val (.str w.ac)), some (.val (.str w.tk)), some (.val (.int w.am))] g)
    (h2 : rowB (ts.map (·.nm)) w = false → K (.exc 1) [some (.val (.ref c)), x1, x2, x3, x4, x5, x6, x7, x8, x9, x10, x11, x12, some (.val (.str w.ac)), some (.val (.str w.tk)), some (.val (.int w.am))] g) :
    wSs prg (C1 prg C) bR [some (.val (.ref c)), x1, x2, x3, x4, x5, x6, x7, x8, x9, x10, x11, x12, some (.val (.str w.ac)), some (.val (.str w.tk)), some (.val (.int w.am))] g K := by
  obtain ⟨ac, tk, am⟩ := w
  dsimp only at *
  unfold bR b18
  dsimp only
  unfold rowB at h1 h2
  dsimp only at h1 h2
  simp
  refine acc_ok tw ?_
  cases q1 : isAcc (.str ac) with
  | false =>
    simp
    exact h2 (by simp [q1])
  | true =>
  cases q2 : seenB (ts.map (·.nm)) tk with
  | false =>
    have : tk ∉ ts.map (·.nm) := of_decide_eq_false q2
    have dn : dGet (tbl ts) (.str tk) = none := by
      have z := tbl_some tk ts
      rw [q2] at z
      cases h : dGet (tbl ts) (.str tk) with
      | none => rfl
      | some _ => rw [h] at z; cases z
    simp [hc, tbl_O, dn]
    exact h2 (by simp only [this, decide_false, Bool.and_false, Bool.false_and])
  | true =>
    have m : tk ∈ ts.map (·.nm) := of_decide_eq_true q2
    have dn : ¬ dGet (tbl ts) (.str tk) = none := fun z => by
      have y := tbl_some tk ts
      rw [q2, z] at y
      cases y
    have ds : (dGet (tbl ts) (.str tk)).isSome = true := by rw [tbl_some, q2]
    by_cases q3 : am < 0
    · have : ¬ 0 ≤ am := by omega
      simp [hc, tbl_O, ds, q3, this]
      exact h2 (by simp only [this, decide_false, Bool.and_false])
    · have q3' : 0 ≤ am := by omega
      simp [hc, tbl_O, ds, dn, q3, q3']
      refine kq ?_
      rw [x_nil]
      exact h1 (by simp only [q1, m, q3', decide_true, Bool.and_self])
theorem toks_at : ∀ (ts : List Tk) (seen : List Str), (∀ n t, ts[n]? = some t → tokB (seen ++ (ts.take n).map (·.nm)) t = true) → toksB seen ts = true
  | [], _, _ => rfl
  | t :: ts, seen, h => by
    have h0 := h 0 t rfl
    rw [List.take_zero, List.map_nil, List.append_nil] at h0
    show (tokB seen t && toksB (seen ++ [t.nm]) ts) = true
    rw [h0, toks_at ts (seen ++ [t.nm]) fun n u hu => by
      have := h (n + 1) u hu
      simpa using this]
    rfl
theorem toks_bad : ∀ (ts : List Tk) (seen : List Str) {n : Nat} {t : Tk}, ts[n]? = some t → tokB (seen ++ (ts.take n).map (·.nm)) t = false → toksB seen ts = false
  | [], _, n, t, h, _ => by simp at h
  | u :: ts, seen, 0, t, h, hb => by
    cases h
    rw [List.take_zero, List.map_nil, List.append_nil] at hb
    show (tokB seen u && _) = false
    rw [hb]
    rfl
  | u :: ts, seen, n + 1, t, h, hb => by
    show (tokB seen u && toksB (seen ++ [u.nm]) ts) = false
    rw [toks_bad ts (seen ++ [u.nm]) (n := n) (t := t) h (by simpa using hb), Bool.and_false]
def cfgB (ts : List Tk) (rows : List Rw) (gd : List D) (dp wd dl bn : Int) : Bool := toksB [] ts && ((rows.all (rowB (ts.map (·.nm)))) && (isSetB gd && (decide (1 ≤ dp) && (decide (1 ≤ wd) && (decide (0 ≤ dl) && decide (1 ≤ bn ∧ bn ≤ 8))))))
abbrev D3 (C : Call) := C1 prg (C1 prg (C1 prg C))
theorem cinit_ok {ts : List Tk} {rows : List Rw} {gd : List D} {dp wd dl bn : Int} {j nb : Vb.Id} (hc : g c = some (.ins 5 [])) (ht : g ti = some (.ct (.lst (ts.map tkD)))) (hb : g bi = some (.ct (.lst (rows.map rwD)))) (nj : g j = none) (nn : g nb = none) (jn : nb ≠ j)
    (l1 : ts.length ≤ 100) (l2 : rows.length ≤ 1000) (l3 : ∀ t ∈ ts, t.nm.length ≤ 1000) (tr : ∀ w ∈ rows, tame (.str w.ac) = true) (tg : tames gd = true) (lg : gd.length ≤ 1000) {K : Kd} {X : Kx}
    (hK : cfgB ts rows gd dp wd dl bn = true → ∀ g' : G, g' c = some (cfO ts nb (.seq true gd) dp wd dl bn) → g' nb = some (.ct (.lst (rows.map rwD))) → (∀ k, k ≠ c → k ≠ nb → k ≠ j → g' k = g k) → K .non g')
    (hX : cfgB ts rows gd dp wd dl bn = false → ∀ g' : G, (∀ k, k ≠ c → k ≠ j → g' k = g k) → X 1 g') :
    D3 C 18 [.ref c, .ref ti, .ref bi, .seq true gd, .int dp, .int wd, .int dl, .int bn] g K X := by
  have ct : ti ≠ c := fun z => by rw [z, hc] at ht; cases ht
  have cb : bi ≠ c := fun z => by rw [z, hc] at hb; cases hb
  have cj : j ≠ c := fun z => by rw [z, hc] at nj; cases nj
  have cn : nb ≠ c := fun z => by rw [z, hc] at nn; cases nn
  have tj : ti ≠ j := fun z => by rw [z, nj] at ht; cases ht
  have bj : bi ≠ j := fun z => by rw [z, nj] at hb; cases hb
  refine c1 rfl rfl ?_
  show wSs prg (C1 prg (C1 prg C)) b18 [some (.val (.ref c)), some (.val (.ref ti)), some (.val (.ref bi)), some (.val (.seq true gd)), some (.val (.int dp)), some (.val (.int wd)), some (.val (.int dl)), some (.val (.int bn)), none, none, none, none, none, none, none, none] g (Kr K X)
  have e4 : b18 = .cons (.setfown (.var 0) 13 .dnew) (.cons (.for_ (.tup [8, 9, 10, 11, 12]) (.pl (.v (.var 1))) bT) (.cons (.for_ (.tup [13, 14, 15]) (.pl (.v (.var 2))) bR) (match b18 with | .cons _ (.cons _ (.cons _ t)) => t | _ => .nil))) := rfl
  rw [e4]
  unfold b18
  dsimp only
  simp [hc, fo]
  refine kq ?_
  rw [x_cons, x_for]
  simp only [x_ipl, x_v, x_var, List.getElem?_cons_succ, List.getElem?_cons_zero, cv_ref, up_at, ct, if_false, ht, cv_lst, sr_ref, ws_obj, ws_so, true_and]
  refine for_inv (fun n r g' => ∃ y8 y9 y10 y11 y12, r = [some (.val (.ref c)), some (.val (.ref ti)), some (.val (.ref bi)), some (.val (.seq true gd)), some (.val (.int dp)), some (.val (.int wd)), some (.val (.int dl)), some (.val (.int bn)), y8, y9, y10, y11, y12, none, none, none] ∧ g' c = some (.ins 5 [(13, .own (.dct (tbl (ts.take n))))]) ∧ (∀ k, k ≠ c → g' k = g k) ∧ ∀ m t, m < n → ts[m]? = some t → tokB ((ts.take m).map (·.nm)) t = true) _ _ 0 _ _ rfl (Nat.zero_le _) ⟨none, none, none, none, none, rfl, by simp [tbl], fun k n => by simp [n], fun m t h => absurd h (by omega)⟩ (fun n r g' ⟨_, _, _, _, _, _, _, f, _⟩ => by rw [wo_o, f _ ct]; exact ht) ?_ ?_
  · rintro n x r g' Kc hx ⟨y8, y9, y10, y11, y12, rfl, hc', f, ok⟩ hn _ _ he
    rw [List.getElem?_map] at hx
    obtain ⟨t, et, rfl⟩ := Option.map_eq_some_iff.mp hx
    refine ⟨_, rfl, ?_⟩
    have lt : n < ts.length := (List.getElem?_eq_some_iff.mp et).1
    refine tok_ok (ts := ts.take n) (t := t) (fs := []) hc' (l3 t (List.mem_of_getElem? et)) (by rw [List.length_take]; omega) (fun b g2 h2 f2 => ?_) fun b => ?_
    · refine (hn _ _ ⟨_, _, _, _, _, rfl, ?_, fun k hk => (f2 k hk).trans (f k hk), fun m u hm hu => ?_⟩).1
      · rw [h2, List.take_succ, et]
        rfl
      · by_cases z : m = n
        · subst z
          rw [et] at hu
          cases hu
          exact b
        · exact ok m u (by omega) hu
    · refine he _ _ _ (hX ?_ _ fun k h1 _ => f k h1)
      unfold cfgB
      rw [toks_bad ts [] et (by simpa using b)]
      rfl
  · rintro r g' ⟨y8, y9, y10, y11, y12, rfl, hc', f, ok⟩
    rw [List.length_map, List.take_length] at hc'
    have tk := toks_at ts [] fun n t h => by
      simpa using ok n t (by rw [List.length_map]; exact (List.getElem?_eq_some_iff.mp h).1) h
    refine kq ?_
    rw [x_cons, x_for]
    simp only [x_ipl, x_v, x_var, List.getElem?_cons_succ, List.getElem?_cons_zero, cv_ref, f _ cb, hb, cv_lst, sr_ref, ws_obj, ws_so, true_and]
    refine for_inv (fun n r g2 => ∃ y13 y14 y15, r = [some (.val (.ref c)), some (.val (.ref ti)), some (.val (.ref bi)), some (.val (.seq true gd)), some (.val (.int dp)), some (.val (.int wd)), some (.val (.int dl)), some (.val (.int bn)), y8, y9, y10, y11, y12, y13, y14, y15] ∧ g2 = g' ∧ ∀ m w, m < n → rows[m]? = some w → rowB (ts.map (·.nm)) w = true) _ _ 0 _ _ rfl (Nat.zero_le _) ⟨none, none, none, rfl, rfl, fun m t h => absurd h (by omega)⟩ (fun n r g2 ⟨_, _, _, _, e, _⟩ => by rw [wo_o, e, f _ cb]; exact hb) ?_ ?_
    · rintro n x r g2 Kc hx ⟨y13, y14, y15, rfl, rfl, ok2⟩ hn _ _ he
      rw [List.getElem?_map] at hx
      obtain ⟨w, ew, rfl⟩ := Option.map_eq_some_iff.mp hx
      refine ⟨_, rfl, ?_⟩
      refine row_ok (ts := ts) (w := w) (fs := []) hc' (tr w (List.mem_of_getElem? ew)) (fun b => ?_) fun b => ?_
      · refine (hn _ _ ⟨_, _, _, rfl, rfl, fun m u hm hu => ?_⟩).1
        by_cases z : m = n
        · subst z
          rw [ew] at hu
          cases hu
          exact b
        · exact ok2 m u (by omega) hu
      · refine he _ _ _ (hX ?_ _ fun k h1 _ => f k h1)
        unfold cfgB
        have : rows.all (rowB (ts.map (·.nm))) = false := List.all_eq_false.mpr ⟨w, List.mem_of_getElem? ew, by rw [b]; decide⟩
        rw [this, Bool.false_and, Bool.and_false]
    · rintro r g2 ⟨y13, y14, y15, rfl, rfl, ok2⟩
      have rk : rows.all (rowB (ts.map (·.nm))) = true := by
        rw [List.all_eq_true]
        intro w hw
        obtain ⟨m, hm⟩ := List.mem_iff_getElem?.mp hw
        exact ok2 m w (by rw [List.length_map]; exact (List.getElem?_eq_some_iff.mp hm).1) hm
      refine kq ?_
      simp
      refine is_set_ok tg lg (j := j) (by rw [f _ cj]; exact nj) fun g3 f3 => ?_
      have fX : ∀ k, k ≠ c → k ≠ j → g3 k = g k := fun k h1 h2 => (f3 k h2).trans (f k h1)
      have bad : (isSetB gd && (decide (1 ≤ dp) && (decide (1 ≤ wd) && (decide (0 ≤ dl) && decide (1 ≤ bn ∧ bn ≤ 8))))) = false → X 1 g3 := fun z => hX (by unfold cfgB; rw [z, Bool.and_false, Bool.and_false]) _ fX
      cases q1 : isSetB gd with
      | false =>
        simp
        exact bad (by rw [q1]; rfl)
      | true =>
      by_cases q2 : 1 ≤ dp
      rotate_left
      · have q2' : dp < 1 := by omega
        simp [q2, q2']
        exact bad (by simp [q2])
      have q2' : ¬ dp < 1 := by omega
      by_cases q3 : 1 ≤ wd
      rotate_left
      · have q3' : wd < 1 := by omega
        simp [q2, q2', q3, q3']
        exact bad (by simp [q3])
      have q3' : ¬ wd < 1 := by omega
      by_cases q4 : 0 ≤ dl
      rotate_left
      · have q4' : dl < 0 := by omega
        simp [q2, q2', q3, q3', q4, q4']
        exact bad (by simp [q4])
      have q4' : ¬ dl < 0 := by omega
      by_cases q5 : 1 ≤ bn
      rotate_left
      · simp [q2, q2', q3, q3', q4, q4', q5]
        exact bad (by simp [q5])
      by_cases q6 : bn ≤ 8
      rotate_left
      · simp [q2, q2', q3, q3', q4, q4', q5, q6, gl3]
        exact bad (by simp [q6])
      simp [q2, q2', q3, q3', q4, q4', q5, q6, gl3]
      refine kq ?_
      have good : cfgB ts rows gd dp wd dl bn = true := by
        unfold cfgB
        rw [tk, rk, q1]
        simp [q2, q3, q4, q5, q6]
      have hc3 : g3 c = some (.ins 5 [(13, .own (.dct (tbl ts)))]) := by rw [f3 _ cj.symm]; exact hc'
      have hb3 : g3 bi = some (.ct (.lst (rows.map rwD))) := by rw [fX _ cb bj]; exact hb
      have nn3 : g3 nb = none := by rw [fX _ cn jn]; exact nn
      simp [hb3]
      refine ⟨nb, nn3, ?_⟩
      have ecn : ¬ c = nb := fun z => cn z.symm
      simp [hc3, ecn, fo]
      refine kq ?_
      simp [fo]
      refine kq ?_
      simp [fo]
      refine kq ?_
      simp [fo]
      refine kq ?_
      simp [fo]
      refine kq ?_
      simp [fo]
      refine kq ?_
      rw [x_nil]
      exact hK good _ (by simp) (by simp [cn]) fun k h1 h2 h3 => by simp [h1, h2, fX k h1 h3]
end

end L_k10_sheet

set_option maxHeartbeats 4000000
namespace L_k10_sheet
open PySem L2 Vb
theorem toks_nd : ∀ (ts : List Tk) (seen : List Str), toksB seen ts = true → (ts.map (·.nm)).Nodup ∧ ∀ t ∈ ts, t.nm ∉ seen
  | [], _, _ => ⟨List.nodup_nil, fun _ h => by cases h⟩
  | t :: ts, seen, h => by
    obtain ⟨h1, h2⟩ := ands (show (tokB seen t && toksB (seen ++ [t.nm]) ts) = true from h)
    obtain ⟨n1, n2⟩ := toks_nd ts _ h2
    have ns : t.nm ∉ seen := by
      unfold tokB at h1
      obtain ⟨h1, _⟩ := ands h1
      obtain ⟨_, h1⟩ := ands h1
      obtain ⟨h1, _⟩ := ands h1
      exact of_decide_eq_false (nn h1)
    refine ⟨List.nodup_cons.mpr ⟨fun z => ?_, n1⟩, fun u hu => ?_⟩
    · obtain ⟨u, hu, e⟩ := List.mem_map.mp z
      exact n2 u hu (by rw [e]; simp)
    · rcases List.mem_cons.mp hu with rfl | hu
      · exact ns
      · exact fun z => n2 u hu (by simp [z])
theorem tbl_get {t : Tk} : ∀ {ts : List Tk}, (ts.map (·.nm)).Nodup → t ∈ ts → dGet (tbl ts) (.str t.nm) = some (tkV t)
  | [], _, h => by cases h
  | u :: ts, nd, h => by
    rw [List.map_cons, List.nodup_cons] at nd
    show dGet ((.str u.nm, tkV u) :: tbl ts) (.str t.nm) = _
    rw [dGet_cons]
    rcases List.mem_cons.mp h with rfl | h
    · simp
    · have : ¬ (D.str u.nm = D.str t.nm) := fun z => nd.1 (by
        have e : u.nm = t.nm := by simpa using z
        rw [e]
        exact List.mem_map_of_mem h)
      rw [if_neg this]
      exact tbl_get nd.2 h
theorem tbl_none {a : Str} {ts : List Tk} (h : a ∉ ts.map (·.nm)) : dGet (tbl ts) (.str a) = none := by
  have z := tbl_some a ts
  cases e : dGet (tbl ts) (.str a) with
  | none => rfl
  | some _ =>
    rw [e] at z
    have : seenB (ts.map (·.nm)) a = false := decide_eq_false h
    rw [this] at z
    cases z
theorem mm8 : prg.mth 5 19 = some 19 := by decide
theorem mm9 : prg.mth 5 20 = some 20 := by decide
section
variable {C : Call} {c nb : Vb.Id} {g : G} {ts : List Tk} {gd : D} {dp wd dl bn : Int}
theorem token_ok (hc : g c = some (cfO ts nb gd dp wd dl bn)) (nd : (ts.map (·.nm)).Nodup) {t : Tk} (ht : t ∈ ts) {K : Kd} {X : Kx} (h : K (tkV t) g) : C1 prg C 19 [.ref c, .str t.nm] g K X := by
  refine c1 rfl rfl ?_
  show wSs prg C b19 [some (.val (.ref c)), some (.val (.str t.nm))] g (Kr K X)
  unfold b19
  simp [hc, tbl_O, tbl_get nd ht]
  refine kq ?_
  simp [hc, tbl_O, tbl_get nd ht]
  exact h
theorem token_bad (hc : g c = some (cfO ts nb gd dp wd dl bn)) {a : Str} (ha : a ∉ ts.map (·.nm)) {K : Kd} {X : Kx} (h : X 2 g) : C1 prg C 19 [.ref c, .str a] g K X := by
  refine c1 rfl rfl ?_
  show wSs prg C b19 [some (.val (.ref c)), some (.val (.str a))] g (Kr K X)
  unfold b19
  simp [hc, tbl_O, tbl_none ha]
  exact h
theorem home_ok (hc : g c = some (cfO ts nb gd dp wd dl bn)) (nd : (ts.map (·.nm)).Nodup) {t : Tk} (ht : t ∈ ts) {K : Kd} {X : Kx} (h : K (.str t.hm) g) : C1 prg (C1 prg C) 20 [.ref c, .str t.nm] g K X := by
  refine c1 rfl rfl ?_
  show wSs prg (C1 prg C) b20 [some (.val (.ref c)), some (.val (.str t.nm))] g (Kr K X)
  unfold b20
  simp [hc, mm8]
  refine token_ok hc nd ht ?_
  simp [tkV, L2.atI, L2.ixN]
  exact h
theorem scale_ok (hc : g c = some (cfO ts nb gd dp wd dl bn)) (nd : (ts.map (·.nm)).Nodup) {t : Tk} (ht : t ∈ ts) {K : Kd} {X : Kx} (h : K (.int t.sc) g) : C1 prg (C1 prg C) 21 [.ref c, .str t.nm] g K X := by
  refine c1 rfl rfl ?_
  show wSs prg (C1 prg C) b21 [some (.val (.ref c)), some (.val (.str t.nm))] g (Kr K X)
  unfold b21
  simp [hc, mm8]
  refine token_ok hc nd ht ?_
  simp [tkV, L2.atI, L2.ixN]
  exact h
theorem scale_bad (hc : g c = some (cfO ts nb gd dp wd dl bn)) {a : Str} (ha : a ∉ ts.map (·.nm)) {K : Kd} {X : Kx} (h : X 2 g) : C1 prg (C1 prg C) 21 [.ref c, .str a] g K X := by
  refine c1 rfl rfl ?_
  show wSs prg (C1 prg C) b21 [some (.val (.ref c)), some (.val (.str a))] g (Kr K X)
  unfold b21
  simp [hc, mm8]
  exact token_bad hc ha h
theorem limit_ok (hc : g c = some (cfO ts nb gd dp wd dl bn)) (nd : (ts.map (·.nm)).Nodup) {t : Tk} (ht : t ∈ ts) {K : Kd} {X : Kx} (h : K (.int t.lm) g) : C1 prg (C1 prg C) 22 [.ref c, .str t.nm] g K X := by
  refine c1 rfl rfl ?_
  show wSs prg (C1 prg C) b22 [some (.val (.ref c)), some (.val (.str t.nm))] g (Kr K X)
  unfold b22
  simp [hc, mm8]
  refine token_ok hc nd ht ?_
  simp [tkV, L2.atI, L2.ixN]
  exact h
theorem large_ok (hc : g c = some (cfO ts nb gd dp wd dl bn)) (nd : (ts.map (·.nm)).Nodup) {t : Tk} (ht : t ∈ ts) {K : Kd} {X : Kx} (h : K (.int t.lg) g) : C1 prg (C1 prg C) 23 [.ref c, .str t.nm] g K X := by
  refine c1 rfl rfl ?_
  show wSs prg (C1 prg C) b23 [some (.val (.ref c)), some (.val (.str t.nm))] g (Kr K X)
  unfold b23
  simp [hc, mm8]
  refine token_ok hc nd ht ?_
  simp [tkV, L2.atI, L2.ixN]
  exact h
theorem const_ok (hc : g c = some (cfO ts nb gd dp wd dl bn)) {K : Kd} {X : Kx} :
    (K gd g → C1 prg C 25 [.ref c] g K X) ∧ (K (.int dp) g → C1 prg C 26 [.ref c] g K X) ∧ (K (.int wd) g → C1 prg C 27 [.ref c] g K X) ∧ (K (.int dl) g → C1 prg C 28 [.ref c] g K X) ∧ (K (.int bn) g → C1 prg C 29 [.ref c] g K X) := by
  refine ⟨fun h => ?_, fun h => ?_, fun h => ?_, fun h => ?_, fun h => ?_⟩
  · refine c1 rfl rfl ?_
    show wSs prg C b25 [some (.val (.ref c))] g (Kr K X)
    unfold b25
    simp [hc]
    exact h
  · refine c1 rfl rfl ?_
    show wSs prg C b26 [some (.val (.ref c))] g (Kr K X)
    unfold b26
    simp [hc]
    exact h
  · refine c1 rfl rfl ?_
    show wSs prg C b27 [some (.val (.ref c))] g (Kr K X)
    unfold b27
    simp [hc]
    exact h
  · refine c1 rfl rfl ?_
    show wSs prg C b28 [some (.val (.ref c))] g (Kr K X)
    unfold b28
    simp [hc]
    exact h
  · refine c1 rfl rfl ?_
    show wSs prg C b29 [some (.val (.ref c))] g (Kr K X)
    unfold b29
    simp [hc]
    exact h
/-- the home of a token by its name -/
def hmOf (ts : List Tk) (a : Str) : Str := match ts.find? fun t => decide (t.nm = a) with
  | some t => t.hm
  | none => Str.empty
theorem hmOf_at {t : Tk} : ∀ {ts : List Tk}, (ts.map (·.nm)).Nodup → t ∈ ts → hmOf ts t.nm = t.hm
  | [], _, h => by cases h
  | u :: ts, nd, h => by
    rw [List.map_cons, List.nodup_cons] at nd
    unfold hmOf
    rw [List.find?_cons]
    rcases List.mem_cons.mp h with rfl | h
    · simp
    · have : ¬ u.nm = t.nm := fun z => nd.1 (z ▸ List.mem_map_of_mem h)
      simp only [this, decide_false]
      exact hmOf_at nd.2 h
theorem opening_ok (hc : g c = some (cfO ts nb gd dp wd dl bn)) (nd : (ts.map (·.nm)).Nodup) {rows : List Rw} (hb : g nb = some (.ct (.lst (rows.map rwD)))) (hr : ∀ w ∈ rows, w.tk ∈ ts.map (·.nm)) (l : rows.length ≤ 1000) {sd : Str} {i : Vb.Id} (ni : g i = none) {K : Kd} {X : Kx}
    (h : K (.ref i) (up g i (.ct (.lst ((rows.filter fun w => decide (hmOf ts w.tk = sd)).map rwD))))) : C1 prg (C1 prg (C1 prg C)) 24 [.ref c, .str sd] g K X := by
  refine c1 rfl rfl ?_
  show wSs prg (C1 prg (C1 prg C)) b24 [some (.val (.ref c)), some (.val (.str sd)), none] g (Kr K X)
  unfold b24
  rw [x_cons, x_ret, x_al, x_comp]
  refine ⟨rfl, ?_⟩
  simp [hc, hb]
  refine comp_flt (c := rwD) (p := fun w => decide (hmOf ts w.tk = sd)) (f := rwD) (fun _ => hb) rows [] (fun w hw => ⟨_, rfl, fun Kb hk => ?_, fun Kd hk => ?_⟩) (by simp; omega) ?_
  · obtain ⟨t, ht, et⟩ := List.mem_map.mp (hr w hw)
    simp [wipeR, hc, mm9, rwD, L2.atI, L2.ixN]
    rw [← et]
    refine home_ok hc nd ht ?_
    rw [← et, hmOf_at nd ht] at hk
    simpa using hk
  · simp [wipeR]
    exact hk
  · rw [List.nil_append]
    exact ⟨i, ni, h⟩
end

end L_k10_sheet

set_option maxHeartbeats 4000000
namespace L_k10_sheet
open PySem L2 Vb
theorem mi : prg.mth 5 prg.init = some 18 := by decide
theorem mm10 : prg.mth 5 10 = some 21 := by decide
theorem k10 : prg.catches 1 0 = true := by decide
theorem k11 : prg.catches 1 1 = true := by decide
theorem k20 : prg.catches 2 0 = true := by decide
theorem k22 : prg.catches 2 2 = true := by decide
theorem z1 : prg.isExc 1 = true := by decide
theorem z2 : prg.isExc 2 = true := by decide
abbrev D4 (C : Call) := C1 prg (D3 C)
section
variable {C : Call} {c ti bi : Vb.Id} {g : G}
theorem is_int_ok {v : Int} {K : Kd} {X : Kx} (h : K (.bl true) g) : C1 prg C 32 [.int v] g K X := by
  refine c1 rfl rfl ?_
  show wSs prg C b32 [some (.val (.int v))] g (Kr K X)
  unfold b32
  simp
  exact h
theorem same_i {v : Int} {K : Kd} {X : Kx} (h : K (.bl true) g) : C1 prg (C1 prg C) 33 [.int v, .int v] g K X := by
  refine c1 rfl rfl ?_
  show wSs prg (C1 prg C) b33 [some (.val (.int v)), some (.val (.int v)), none] g (Kr K X)
  unfold b33
  simp
  refine kq ?_
  simp
  refine kq ?_
  simp
  refine is_int_ok ?_
  simp
  exact h
theorem same_s {v : Str} {K : Kd} {X : Kx} (h : K (.bl true) g) : C1 prg (C1 prg C) 33 [.str v, .str v] g K X := by
  refine c1 rfl rfl ?_
  show wSs prg (C1 prg C) b33 [some (.val (.str v)), some (.val (.str v)), none] g (Kr K X)
  unfold b33
  simp
  refine kq ?_
  simp
  refine kq ?_
  simp
  refine kq ?_
  simp
  exact h
theorem same4_ok {a : Str} {x y z : Int} {K : Kd} {X : Kx} (h : K (.bl true) g) : C1 prg (C1 prg (C1 prg C)) 33 [.seq true [.str a, .int x, .int y, .int z], .seq true [.str a, .int x, .int y, .int z]] g K X := by
  refine c1 rfl rfl ?_
  show wSs prg (C1 prg (C1 prg C)) b33 [some (.val (.seq true [.str a, .int x, .int y, .int z])), some (.val (.seq true [.str a, .int x, .int y, .int z])), none] g (Kr K X)
  unfold b33
  simp
  refine kq ?_
  simp
  refine kq ?_
  simp
  refine kq ?_
  simp
  refine kq ?_
  simp
  refine kq ?_
  simp only [x_cons, x_ret, x_bo, x_bo2, x_bo1, x_cmp, x_len, x_v, x_var, List.getElem?_cons_succ, List.getElem?_cons_zero, cv_seq, lo_seq, ln_seq, true_and, m_eq, q_ii, v_ii, decide_true, if_true, x_all, x_fz]
  rw [x_comp]
  refine ⟨rfl, ?_⟩
  simp only [x_rng1, x_len, x_v, x_var, List.getElem?_cons_succ, List.getElem?_cons_zero, cv_seq, lo_seq, ln_seq, true_and]
  refine ⟨by simp, rfl, ?_⟩
  refine comp_flt (c := fun n : Nat => D.int (n : Nat)) (p := fun _ => true) (f := fun _ => .bl true) (xs := List.range 4) (by split <;> exact True.intro) [] (fun n hn => ⟨_, rfl, fun Kb hk => hk, fun Kd hk => ?_⟩) (by decide) ?_
  · have hn : n < 4 := List.mem_range.mp hn
    have : n = 0 ∨ n = 1 ∨ n = 2 ∨ n = 3 := by omega
    rcases this with rfl | rfl | rfl | rfl
    · simp [wipeR, L2.atI, L2.ixN]
      exact same_s hk
    · simp [wipeR, L2.atI, L2.ixN]
      exact same_i hk
    · simp [wipeR, L2.atI, L2.ixN]
      exact same_i hk
    · simp [wipeR, L2.atI, L2.ixN]
      exact same_i hk
  · have : ([] ++ ((List.range 4).filter fun _ => true).map fun _ => D.bl true) = [.bl true, .bl true, .bl true, .bl true] := rfl
    rw [this]
    exact h
end

end L_k10_sheet

set_option maxHeartbeats 4000000
namespace L_k10_sheet
open PySem L2 Vb
def gS (k : Nat) : Str := Str.ofString "g" ++ (toString (k : Int) : Str)
theorem q7 {P : Nat → Prop} (h0 : P 0) (h1 : P 1) (h2 : P 2) (h3 : P 3) (h4 : P 4) (h5 : P 5) (h6 : P 6) : ∀ q, q < 7 → P q := fun q hq => by
  have hx7 : q = 0 ∨ q = 1 ∨ q = 2 ∨ q = 3 ∨ q = 4 ∨ q = 5 ∨ q = 6 := by omega
  rcases hx7 with rfl | rfl | rfl | rfl | rfl | rfl | rfl <;> assumption
theorem gS_len : ∀ q, q < 7 → (gS q).length = 2 := q7 rfl rfl rfl rfl rfl rfl rfl
theorem gS_pure : ∀ q, q < 7 → D.pure (.str (gS q)) = true := q7 (by decide +kernel) (by decide +kernel) (by decide +kernel) (by decide +kernel) (by decide +kernel) (by decide +kernel) (by decide +kernel)
theorem gS_inj : ∀ q, q < 7 → ∀ p, p < 7 → gS q = gS p → q = p := by
  refine q7 ?_ ?_ ?_ ?_ ?_ ?_ ?_ <;> refine q7 ?_ ?_ ?_ ?_ ?_ ?_ ?_ <;> first | exact fun _ => rfl | exact fun h => absurd h (by decide)
theorem gr_one {q : Nat × Int} (h : q.1 < 7 ∧ 1 ≤ q.2 ∧ q.2 ≤ 50) : okPr (grD q) = true ∧ tame (grD q) = true := by
  have l := gS_len q.1 h.1
  have p := gS_pure q.1 h.1
  have h2 := h.2.1
  show okPr (.seq true [.str (gS q.1), .int q.2]) = true ∧ tame (.seq true [.str (gS q.1), .int q.2]) = true
  refine ⟨?_, ?_⟩
  · simp [okPr, isAcc, isCnt, l, h2]
  · simp [tame, tames, l, p]
theorem gr_set {gs : List (Nat × Int)} (h1 : 1 ≤ gs.length) (nd : (gs.map (·.1)).Nodup) (lo : ∀ q ∈ gs, q.1 < 7 ∧ 1 ≤ q.2 ∧ q.2 ≤ 50) : isSetB (gs.map grD) = true ∧ tames (gs.map grD) = true := by
  have a1 : (gs.map grD).all okPr = true := by
    rw [List.all_map, List.all_eq_true]
    exact fun q hq => (gr_one (lo q hq)).1
  have a2 : ((gs.map grD).map nmOf) = (gs.map (·.1)).map fun k => D.str (gS k) := by
    rw [List.map_map, List.map_map]
    rfl
  have a3 : ((gs.map grD).map nmOf).Nodup := by
    rw [a2]
    refine List.Pairwise.map _ (R := fun a b => a < 7 ∧ b < 7 ∧ a ≠ b) (fun a b ⟨p, q, z⟩ e => z (gS_inj _ p _ q (by simpa using e))) ?_
    refine List.Pairwise.imp_of_mem (R := (· ≠ ·)) (fun {a b} ha hb z => ?_) nd
    obtain ⟨p, hp, rfl⟩ := List.mem_map.mp ha
    obtain ⟨q, hq, rfl⟩ := List.mem_map.mp hb
    exact ⟨(lo p hp).1, (lo q hq).1, z⟩
  have a4 : (gs.map grD).isEmpty = false := by
    cases gs with
    | nil => simp at h1
    | cons _ _ => rfl
  refine ⟨by simp only [isSetB, a1, decide_eq_true a3, a4]; rfl, ?_⟩
  rw [tames_all, List.all_map, List.all_eq_true]
  exact fun q hq => (gr_one (lo q hq)).2
theorem gr_kn (gs : List (Nat × Int)) : D.keyNs (gs.map grD) = true ∧ D.deps (gs.map grD) ≤ 3 := by
  induction gs with
  | nil => exact ⟨rfl, by decide⟩
  | cons q gs ih =>
    refine ⟨?_, ?_⟩
    · show (D.keyN (grD q) && D.keyNs (gs.map grD)) = true
      rw [ih.1]
      rfl
    · show max (D.dep (grD q)) (D.deps (gs.map grD)) ≤ 3
      exact Nat.max_le.mpr ⟨(by decide : (1:Nat) ≤ 3), ih.2⟩

end L_k10_sheet

set_option maxHeartbeats 4000000
namespace L_k10_sheet
open PySem L2 Vb
def nms3 : List Str := [Str.ofString "coin", Str.ofString "gold", Str.ofString "iron"]
def acs3 : List Str := [Str.ofString "ann", Str.ofString "bob", Str.ofString "cyd"]
def tkF (t : Tk) : Prop := (t.hm = "west" ∨ t.hm = "east") ∧ 1 ≤ t.sc ∧ 0 ≤ t.lm ∧ 1 ≤ t.lg ∧ t.sc ≤ 1000 ∧ t.lm ≤ 1000000000 ∧ t.lg ≤ 1000000000
def rwF (ns : List Str) (w : Rw) : Prop := isAcc (.str w.ac) = true ∧ tame (.str w.ac) = true ∧ w.tk ∈ ns ∧ 0 ≤ w.am ∧ w.am ≤ 1000000
theorem nm3_ok {n : Str} (h : n ∈ nms3) : 1 ≤ n.length ∧ n.length ≤ 12 ∧ n ≠ "lead" ∧ n ≠ "new" := by
  have : n = "coin" ∨ n = "gold" ∨ n = "iron" := by simpa [nms3] using h
  rcases this with rfl | rfl | rfl <;> exact ⟨by decide, by decide, by decide, by decide⟩
theorem nms3_nd : nms3.Nodup := by decide
theorem toks_good {ts : List Tk} {k : Nat} (h : ts.map (·.nm) = nms3.take k) (hf : ∀ t ∈ ts, tkF t) : toksB [] ts = true := by
  refine toks_at ts [] fun n t ht => ?_
  have lt : n < ts.length := (List.getElem?_eq_some_iff.mp ht).1
  have nd : (ts.map (·.nm)).Nodup := h ▸ nms3_nd.sublist (List.take_sublist _ _)
  have m : t.nm ∈ ts.map (·.nm) := List.mem_map_of_mem (List.mem_of_getElem? ht)
  have m3 : t.nm ∈ nms3 := List.mem_of_mem_take (h ▸ m)
  obtain ⟨a1, a2, _, _⟩ := nm3_ok m3
  obtain ⟨y1, y2, y3, y4⟩ := hf t (List.mem_of_getElem? ht)
  have ns : seenB ([] ++ (ts.take n).map (·.nm)) t.nm = false := by
    refine decide_eq_false fun z => ?_
    rw [List.nil_append] at z
    obtain ⟨u, hu, e⟩ := List.mem_map.mp z
    obtain ⟨i, hi⟩ := List.mem_iff_getElem?.mp hu
    have hin : i < n := by
      have := (List.getElem?_eq_some_iff.mp hi).1
      rw [List.length_take] at this
      omega
    rw [List.getElem?_take_of_lt hin] at hi
    have e1 : (ts.map (·.nm))[i]? = some t.nm := by rw [List.getElem?_map, hi]; exact congrArg some e
    have e2 : (ts.map (·.nm))[n]? = some t.nm := by rw [List.getElem?_map, ht]; rfl
    have := (List.getElem?_inj (by rw [List.length_map]; omega) nd).mp (e1.trans e2.symm)
    omega
  unfold tokB
  rw [ns]
  simp [a1, a2, y1, y2, y3, y4]
theorem rows_good {ns : List Str} {rows : List Rw} (h : ∀ w ∈ rows, rwF ns w) : rows.all (rowB ns) = true := by
  rw [List.all_eq_true]
  intro w hw
  obtain ⟨h1, h2, h3, h4⟩ := h w hw
  unfold rowB
  simp [h1, h3, h4]
theorem ac3_ok {n : Str} (h : n ∈ acs3) : isAcc (.str n) = true ∧ tame (.str n) = true := by
  have : n = "ann" ∨ n = "bob" ∨ n = "cyd" := by simpa [acs3] using h
  rcases this with rfl | rfl | rfl <;> exact ⟨by decide +kernel, by decide +kernel⟩
theorem gS_ac : ∀ q, q < 7 → isAcc (.str (gS q)) = true ∧ tame (.str (gS q)) = true := q7 ⟨by decide +kernel, by decide +kernel⟩ ⟨by decide +kernel, by decide +kernel⟩ ⟨by decide +kernel, by decide +kernel⟩ ⟨by decide +kernel, by decide +kernel⟩ ⟨by decide +kernel, by decide +kernel⟩ ⟨by decide +kernel, by decide +kernel⟩ ⟨by decide +kernel, by decide +kernel⟩
def parts (ti bi : Vb.Id) (gd : D) (dp wd dl bn : Int) : List (D × D) := [(.str "tokens", .ref ti), (.str "balances", .ref bi), (.str "guards", gd), (.str "depth", .int dp), (.str "window", .int wd), (.str "delay", .int dl), (.str "bundle", .int bn)]
section
variable {C : Call} {ns : List Int} {ip ti bi a b pd : Vb.Id} {g : G}
def cT : Ss := match b35 with
  | .cons _ (.cons (.for_ _ _ x) _) => x
  | _ => .nil
def cR : Ss := match b35 with
  | .cons _ (.cons _ (.cons _ (.cons (.for_ _ _ x) _))) => x
  | _ => .nil
/-- one token drawn -/
theorem ctok_ok {K : Ks} {ts : List Tk} {nm : Str} (I : Pot ns ip g) (ne : ti ≠ ip) (ht : g ti = some (.ct (.lst (ts.map tkD)))) (l : ts.length ≤ 100) {x3 x4 x5 x6 : Option Sl}
    (hK : ∀ (t : Tk) (g' : G), t.nm = nm → tkF t → Pot ns ip g' → g' ti = some (.ct (.lst ((ts ++ [t]).map tkD))) → (∀ k, k ≠ ip → k ≠ ti → g' k = g k) → K .nx [some (.val (.ref ip)), some (.val (.ref ti)), some (.val (.str nm)), x3, x4, x5, x6] g') :
    wSs prg (C1 prg C) cT [some (.val (.ref ip)), some (.val (.ref ti)), some (.val (.str nm)), x3, x4, x5, x6] g K := by
  unfold cT b35
  dsimp only
  simp [ht]
  refine drawn (nx := 31) rfl I (by decide) (by decide) fun v1 g1 I1 f1 p1 q1 => ?_
  refine idx_any p1 (by simpa using q1) fun x hx => ?_
  obtain ⟨hm, rfl, hh⟩ : ∃ h : Str, x = .str h ∧ (h = "west" ∨ h = "east") := by
    simp at hx
    rcases hx with rfl | rfl
    · exact ⟨_, rfl, .inl rfl⟩
    · exact ⟨_, rfl, .inr rfl⟩
  refine drawn (nx := 31) rfl I1 (by decide) (by decide) fun v2 g2 I2 f2 p2 q2 => ?_
  refine idx_any p2 (by simpa using q2) fun x hx => ?_
  obtain ⟨sc, rfl, hs⟩ : ∃ i : Int, x = .int i ∧ 1 ≤ i ∧ i ≤ 1000 := by
    simp at hx
    rcases hx with rfl | rfl | rfl <;> exact ⟨_, rfl, by decide⟩
  refine drawn (nx := 31) rfl I2 (by decide) (by decide) fun v3 g3 I3 f3 p3 q3 => ?_
  refine idx_any p3 (by simpa using q3) fun x hx => ?_
  obtain ⟨lm, rfl, hl⟩ : ∃ i : Int, x = .int i ∧ 0 ≤ i ∧ i ≤ 1000000000 := by
    simp at hx
    rcases hx with rfl | rfl | rfl <;> exact ⟨_, rfl, by decide⟩
  refine drawn (nx := 31) rfl I3 (by decide) (by decide) fun v4 g4 I4 f4 p4 q4 => ?_
  refine idx_any p4 (by simpa using q4) fun x hx => ?_
  obtain ⟨lg, rfl, hg⟩ : ∃ i : Int, x = .int i ∧ 1 ≤ i ∧ i ≤ 1000000000 := by
    simp at hx
    rcases hx with rfl | rfl | rfl | rfl <;> exact ⟨_, rfl, by decide⟩
  have h4 : g4 ti = some (.ct (.lst (ts.map tkD))) := by rw [f4 _ ne, f3 _ ne, f2 _ ne, f1 _ ne]; exact ht
  simp [h4]
  refine ⟨by omega, kq ?_⟩
  rw [x_nil]
  refine hK ⟨nm, hm, sc, lm, lg⟩ _ rfl ⟨hh, hs.1, hl.1, hg.1, hs.2, hl.2, hg.2⟩ (pot_up I4 ne.symm) (by simp [tkD]) fun k h1 h2 => by simp [h2, f4 k h1, f3 k h1, f2 k h1, f1 k h1]
end

end L_k10_sheet

set_option maxHeartbeats 4000000
namespace L_k10_sheet
open PySem L2 Vb
theorem take_at {α : Type} {xs : List α} {n : Nat} {x : α} (h : xs[n]? = some x) : xs.take (n + 1) = xs.take n ++ [x] := by
  rw [List.take_succ, h]
  rfl
section
variable {C : Call} {ns : List Int} {ip ti bi a b pd : Vb.Id} {g : G}
/-- the balances of one account drawn -/
theorem crow_ok {K : Ks} {ts : List Tk} {rows : List Rw} {ac : Str} (hac : ac ∈ acs3) (I : Pot ns ip g) (ne : ti ≠ ip) (nb : bi ≠ ip) (tb : ti ≠ bi) (ht : g ti = some (.ct (.lst (ts.map tkD)))) (hb : g bi = some (.ct (.lst (rows.map rwD)))) (lt : ts.length ≤ 100) (l : rows.length ≤ 10000) (hr : ∀ w ∈ rows, rwF (ts.map (·.nm)) w ∧ w.ac ∈ acs3) {x2 x5 x6 : Option Sl}
    (hK : ∀ (rows' : List Rw) (g' : G) (x6 : Option Sl), (∀ w ∈ rows', rwF (ts.map (·.nm)) w ∧ w.ac ∈ acs3) → rows'.length ≤ rows.length + ts.length → Pot ns ip g' → g' bi = some (.ct (.lst (rows'.map rwD))) → (∀ k, k ≠ ip → k ≠ bi → g' k = g k) → K .nx [some (.val (.ref ip)), some (.val (.ref ti)), x2, some (.val (.ref bi)), some (.val (.str ac)), x5, x6] g') :
    wSs prg (C1 prg C) cR [some (.val (.ref ip)), some (.val (.ref ti)), x2, some (.val (.ref bi)), some (.val (.str ac)), x5, x6] g K := by
  obtain ⟨ac1, ac2⟩ := ac3_ok hac
  unfold cR b35
  dsimp only
  rw [x_cons, x_for]
  simp only [x_ipl, x_v, x_var, List.getElem?_cons_succ, List.getElem?_cons_zero, cv_ref, ht, cv_lst, sr_ref, ws_obj, ws_so, true_and]
  refine for_inv (fun n r g' => ∃ rows' y6, r = [some (.val (.ref ip)), some (.val (.ref ti)), x2, some (.val (.ref bi)), some (.val (.str ac)), x5, y6] ∧ (∀ w ∈ rows', rwF (ts.map (·.nm)) w ∧ w.ac ∈ acs3) ∧ rows'.length ≤ rows.length + n ∧ Pot ns ip g' ∧ g' bi = some (.ct (.lst (rows'.map rwD))) ∧ ∀ k, k ≠ ip → k ≠ bi → g' k = g k) _ _ 0 _ _ rfl (Nat.zero_le _) ⟨rows, x6, rfl, hr, Nat.le_refl _, I, hb, fun _ _ _ => rfl⟩ (fun n r g' ⟨_, _, _, _, _, _, _, f⟩ => by rw [wo_o, f _ ne tb]; exact ht) ?_ ?_
  · rintro n x r g' Kc hx ⟨rows', y6, rfl, ok, ln, I', hb', f⟩ hn _ _ _
    rw [List.getElem?_map] at hx
    obtain ⟨t, et, rfl⟩ := Option.map_eq_some_iff.mp hx
    have ltn : n < ts.length := (List.getElem?_eq_some_iff.mp et).1
    refine ⟨_, rfl, ?_⟩
    simp [hb', tkD, L2.atI, L2.ixN]
    refine drawn (nx := 31) rfl I' (by decide) (by decide) fun v g2 I2 f2 p2 q2 => ?_
    refine idx_any p2 (by simpa using q2) fun x hx => ?_
    obtain ⟨am, rfl, hm⟩ : ∃ i : Int, x = .int i ∧ 0 ≤ i ∧ i ≤ 1000000 := by
      simp at hx
      rcases hx with rfl | rfl | rfl | rfl | rfl <;> exact ⟨_, rfl, by decide⟩
    have hb2 : g2 bi = some (.ct (.lst (rows'.map rwD))) := by rw [f2 _ nb]; exact hb'
    simp [hb2]
    refine ⟨by omega, kq ?_⟩
    rw [x_nil]
    refine (hn _ _ ⟨rows' ++ [⟨ac, t.nm, am⟩], _, rfl, fun w hw => ?_, by simp; omega, pot_up I2 nb.symm, by simp [rwD], fun k h1 h2 => by simp [h2, f2 k h1, f k h1 h2]⟩).1
    rcases List.mem_append.mp hw with hw | hw
    · exact ok w hw
    · rw [List.mem_singleton.mp hw]
      exact ⟨⟨ac1, ac2, List.mem_map_of_mem (List.mem_of_getElem? et), hm⟩, hac⟩
  · rintro r g' ⟨rows', y6, rfl, ok, ln, I', hb', f⟩
    rw [List.length_map] at ln
    refine kq ?_
    rw [x_nil]
    exact hK rows' g' y6 ok ln I' hb' f
/-- a drawn configuration -/
structure Cfg (ts : List Tk) (rows : List Rw) (gd : List D) (dp wd dl bn : Int) : Prop where
  nm : ∃ k, 1 ≤ k ∧ k ≤ 3 ∧ ts.map (·.nm) = nms3.take k
  tf : ∀ t ∈ ts, tkF t
  rf : ∀ w ∈ rows, rwF (ts.map (·.nm)) w
  lr : rows.length ≤ 900
  gs : isSetB gd = true ∧ tames gd = true ∧ gd.length ≤ 7
  gk : D.keyNs gd = true ∧ D.deps gd ≤ 3
  hd : 1 ≤ dp
  hw : 1 ≤ wd
  hl : 0 ≤ dl
  hb : 1 ≤ bn ∧ bn ≤ 8
  gx : ∃ (q : Nat × Int) (gs : List (Nat × Int)), gd = (q :: gs).map grD ∧ ((q :: gs).map (·.1)).Nodup ∧ (∀ p ∈ q :: gs, p.1 < 7 ∧ 1 ≤ p.2 ∧ p.2 ≤ 50) ∧ gs.length ≤ 6 ∧ ∀ w ∈ rows, w.ac ∈ acs3 ∨ w.ac = gS q.1
  dm : dp ≤ 3 ∧ wd ≤ 4 ∧ dl ≤ 3 ∧ bn ≤ 3
theorem config_ok (I : Pot ns ip g) (nt : g ti = none) (nb : g bi = none) (na : g a = none) (nb2 : g b = none) (np : g pd = none) (d1 : ti ≠ bi) (d2 : b ≠ a) (d3 : ti ≠ a) (d4 : ti ≠ b) (d5 : bi ≠ a) (d6 : bi ≠ b) (d7 : pd ≠ ti) (d8 : pd ≠ bi) (d9 : pd ≠ a) (d10 : pd ≠ b) {K : Kd} {X : Kx}
    (hK : ∀ (ts : List Tk) (rows : List Rw) (gd : List D) (dp wd dl bn : Int) (g' : G), Cfg ts rows gd dp wd dl bn → Pot ns ip g' → g' ti = some (.ct (.lst (ts.map tkD))) → g' bi = some (.ct (.lst (rows.map rwD))) → g' pd = some (.ct (.dct (parts ti bi (.seq true gd) dp wd dl bn))) → (∀ k, k ≠ ip → k ≠ ti → k ≠ bi → k ≠ a → k ≠ b → k ≠ pd → g' k = g k) → K (.ref pd) g') :
    C1 prg (C1 prg (C1 prg C)) 35 [.ref ip] g K X := by
  have ne : ∀ {j : Vb.Id}, g j = none → j ≠ ip := fun {j} h z => by
    obtain ⟨_, _, _, q, _⟩ := I
    rw [← z, h] at q
    cases q
  refine c1 rfl rfl ?_
  show wSs prg (C1 prg (C1 prg C)) b35 [some (.val (.ref ip)), none, none, none, none, none, none] g (Kr K X)
  have e22 : b35 = .cons (.set 1 (.al (.lst .nil))) (.cons (.for_ (.slot 2) (match b35 with | .cons _ (.cons (.for_ _ it _) _) => it | _ => .rng1 (.con .non)) cT) (.cons (.set 3 (.al (.lst .nil))) (.cons (.for_ (.slot 4) (match b35 with | .cons _ (.cons _ (.cons _ (.cons (.for_ _ it _) _))) => it | _ => .rng1 (.con .non)) cR) (match b35 with | .cons _ (.cons _ (.cons _ (.cons _ t))) => t | _ => .nil)))) := rfl
  rw [e22]
  unfold b35
  dsimp only
  simp
  refine ⟨ti, nt, kq ?_⟩
  rw [x_cons, x_for]
  simp
  have I0 : Pot ns ip (up g ti (.ct (.lst []))) := pot_up I (ne nt).symm
  refine drawn (nx := 31) rfl I0 (by decide) (by decide) fun v g1 I1 f1 v0 v1 => ?_
  obtain ⟨k, rfl⟩ : ∃ k : Nat, v = k := ⟨v.toNat, by omega⟩
  have k3 : k + 1 ≤ 3 := by omega
  have ek : (1 : Int) + (k : Int) = ((k + 1 : Nat) : Int) := by omega
  have sl : sliceL [D.str (Str.ofString "coin"), D.str (Str.ofString "gold"), D.str (Str.ofString "iron")] none (some (1 + (k : Int))) = (nms3.take (k + 1)).map D.str := by
    rw [ek, slice_to (by simpa using k3), List.map_take]
    rfl
  rw [o_add]
  dsimp only
  rw [sl]
  have n0 : ∀ {j}, j ≠ ip → j ≠ ti → g1 j = g j := fun {j} h1 h2 => by rw [f1 _ h1, up_ne _ _ h2]
  refine for_lst (c := D.str) (xs := nms3.take (k + 1)) (fun n r g' => ∃ ts y2, r = [some (.val (.ref ip)), some (.val (.ref ti)), y2, none, none, none, none] ∧ ts.map (·.nm) = (nms3.take (k + 1)).take n ∧ (∀ t ∈ ts, tkF t) ∧ Pot ns ip g' ∧ g' ti = some (.ct (.lst (ts.map tkD))) ∧ ∀ j, j ≠ ip → j ≠ ti → g' j = g j) ⟨[], none, rfl, rfl, fun t h => (by cases h), I1, by rw [f1 _ (ne nt)]; exact up_same _ _ _, fun j h1 h2 => n0 h1 h2⟩ ?_ ?_
  · rintro n nm r g' Kc hx ⟨ts, y2, rfl, hn, hf, I', ht, f⟩ hn2 _ _ _
    have ln : ts.length ≤ 100 := by
      have := congrArg List.length hn
      rw [List.length_map, List.length_take, List.length_take] at this
      have : nms3.length = 3 := rfl
      omega
    refine ctok_ok I' (ne nt) ht ln fun t g2 e1 tf I2 h2 f2 => ?_
    refine (hn2 _ _ ⟨ts ++ [t], _, rfl, ?_, fun u hu => ?_, I2, h2, fun j q1 q2 => (f2 j q1 q2).trans (f j q1 q2)⟩).1
    · rw [List.map_append, hn, take_at hx, ← e1]
      rfl
    · rcases List.mem_append.mp hu with hu | hu
      · exact hf u hu
      · rw [List.mem_singleton.mp hu]
        exact tf
  · rintro r g2 ⟨ts, y2, rfl, hn, hf, I2, ht, f2⟩
    rw [List.take_length] at hn
    have lts : ts.length = k + 1 := by
      have := congrArg List.length hn
      rw [List.length_map, List.length_take] at this
      have : nms3.length = 3 := rfl
      omega
    refine kq ?_
    simp
    have nb2' : g2 bi = none := by rw [f2 _ (ne nb) d1.symm]; exact nb
    refine ⟨bi, nb2', kq ?_⟩
    rw [x_cons, x_for]
    simp only [x_ipl, x_v, x_fz, x_lst, x_esc, x_esn, x_con, cv_seq, sr_seq, ws_no]
    refine ⟨by simp, rfl, ?_⟩
    refine for_lst (c := D.str) (xs := acs3) (fun n r g' => ∃ rows y4 y6, r = [some (.val (.ref ip)), some (.val (.ref ti)), y2, some (.val (.ref bi)), y4, none, y6] ∧ (∀ w ∈ rows, rwF (ts.map (·.nm)) w ∧ w.ac ∈ acs3) ∧ rows.length ≤ 100 * n ∧ Pot ns ip g' ∧ g' bi = some (.ct (.lst (rows.map rwD))) ∧ g' ti = some (.ct (.lst (ts.map tkD))) ∧ ∀ j, j ≠ ip → j ≠ ti → j ≠ bi → g' j = g j) ⟨[], none, none, rfl, fun w h => (by cases h), by simp, pot_up I2 (ne nb).symm, up_same _ _ _, by rw [up_ne _ _ d1]; exact ht, fun j q1 q2 q3 => by rw [up_ne _ _ q3]; exact f2 j q1 q2⟩ ?_ ?_
    · rintro n ac r g' Kc hx ⟨rows, y4, y6, rfl, ok, ln, I', hb', ht', f⟩ hn2 _ _ _
      have l3 : n < 3 := (List.getElem?_eq_some_iff.mp hx).1
      refine crow_ok (ts := ts) (rows := rows) (List.mem_of_getElem? hx) I' (ne nt) (ne nb) d1 ht' hb' (by omega) (by omega) ok fun rows' g3 y6' ok' ln' I3 hb3 f3 => ?_
      refine (hn2 _ _ ⟨rows', _, y6', rfl, ok', by omega, I3, hb3, by rw [f3 _ (ne nt) d1]; exact ht', fun j q1 q2 q3 => (f3 j q1 q3).trans (f j q1 q2 q3)⟩).1
    · rintro r g3 ⟨rows, y4, y6, rfl, ok, ln, I3, hb3, ht3, f3⟩
      have la : acs3.length = 3 := rfl
      rw [la] at ln
      refine kq ?_
      simp
      refine set_call (nx := 31) rfl rfl I3 (a := a) (b := b) (by decide) (by rw [f3 _ (ne na) d3.symm d5.symm]; exact na) (by rw [f3 _ (ne nb2) d4.symm d6.symm]; exact nb2) d2 fun gs g4 I4 f4 l1 l2 nd lo => kq ?_
      obtain ⟨s1, s2⟩ := gr_set l1 nd lo
      have hb4 : g4 bi = some (.ct (.lst (rows.map rwD))) := by rw [f4 _ (ne nb) d5 d6]; exact hb3
      have ht4 : g4 ti = some (.ct (.lst (ts.map tkD))) := by rw [f4 _ (ne nt) d3 d4]; exact ht3
      obtain ⟨q0, gs', rfl⟩ : ∃ q0 gs', gs = q0 :: gs' := by
        cases gs with
        | nil => simp at l1
        | cons q gs' => exact ⟨q, gs', rfl⟩
      obtain ⟨t0, ts', rfl⟩ : ∃ t0 ts', ts = t0 :: ts' := by
        cases ts with
        | nil => simp at lts
        | cons t ts' => exact ⟨t, ts', rfl⟩
      have a0 : L2.atI ((q0 :: gs').map grD) 0 = some (.seq true [.str (gS q0.1), .int q0.2]) := by
        simp [L2.atI, L2.ixN]
        rfl
      have a1 : L2.atI ((t0 :: ts').map tkD) 0 = some (.seq true [.str t0.nm, .str t0.hm, .int t0.sc, .int t0.lm, .int t0.lg]) := by
        simp [L2.atI, L2.ixN]
        rfl
      have a2 : L2.atI [D.str (gS q0.1), .int q0.2] 0 = some (.str (gS q0.1)) := by simp [L2.atI, L2.ixN]
      have a3 : L2.atI [D.str t0.nm, .str t0.hm, .int t0.sc, .int t0.lm, .int t0.lg] 0 = some (.str t0.nm) := by simp [L2.atI, L2.ixN]
      simp only [x_cons, x_app, x_v, x_tup, x_esc, x_esn, x_idx, x_var, x_con, List.set_cons_succ, List.set_cons_zero, List.getElem?_cons_succ, List.getElem?_cons_zero, cv_ref, hb4, ht4, cv_lst, cv_seq, i_seq, a0, a1, a2, a3, sr_ref, ok_obj, pt_obj, nf_o]
      refine ⟨by simp, by simp, by simp; omega, trivial, kq ?_⟩
      generalize hg5 : up g4 bi (.ct (.lst (rows.map rwD ++ [.seq true [.str (gS q0.1), .str t0.nm, .int 60]]))) = g5
      have I5 : Pot ns ip g5 := by rw [← hg5]; exact pot_up I4 (ne nb).symm
      have hb5 : g5 bi = some (.ct (.lst ((rows ++ [(⟨gS q0.1, t0.nm, 60⟩ : Rw)]).map rwD))) := by rw [← hg5, up_same, List.map_append]; rfl
      have ht5 : g5 ti = some (.ct (.lst ((t0 :: ts').map tkD))) := by rw [← hg5, up_ne _ _ d1]; exact ht4
      have f5 : ∀ j, j ≠ ip → j ≠ ti → j ≠ bi → j ≠ a → j ≠ b → g5 j = g j := fun j q1 q2 q3 q4 q5 => by rw [← hg5, up_ne _ _ q3, f4 _ q1 q4 q5]; exact f3 j q1 q2 q3
      clear hg5
      rw [x_cons, x_ret, x_al, x_dlit]
      simp
      refine drawn (nx := 31) rfl I5 (by decide) (by decide) fun w1 g6 I6 f6 p1 p2 => ?_
      simp
      refine drawn (nx := 31) rfl I6 (by decide) (by decide) fun w2 g7 I7 f7 p3 p4 => ?_
      simp
      refine drawn (nx := 31) rfl I7 (by decide) (by decide) fun w3 g8 I8 f8 p5 p6 => ?_
      refine drawn (nx := 31) rfl I8 (by decide) (by decide) fun w4 g9 I9 f9 p7 p8 => ?_
      simp
      have fr : ∀ j, j ≠ ip → g9 j = g5 j := fun j h => by rw [f9 _ h, f8 _ h, f7 _ h, f6 _ h]
      have n9 : g9 pd = none := by rw [fr _ (ne np), f5 _ (ne np) d7 d8 d9 d10]; exact np
      refine ⟨pd, n9, ?_⟩
      refine hK (t0 :: ts') (rows ++ [(⟨gS q0.1, t0.nm, 60⟩ : Rw)]) _ (1 + w1) (1 + w2) w3 (1 + w4) _ ⟨⟨k + 1, by omega, k3, hn⟩, hf, fun w hw => ?_, by simp; omega, ⟨s1, s2, by rw [List.length_map]; omega⟩, gr_kn _, by omega, by omega, by omega, by omega, ⟨q0, gs', rfl, nd, lo, by simp at l2; omega, fun w hw => ?_⟩, by omega⟩ (pot_up I9 (ne np).symm) (by rw [up_ne _ _ d7.symm, fr _ (ne nt)]; exact ht5) (by rw [up_ne _ _ d8.symm, fr _ (ne nb)]; exact hb5) ?_ fun j q1 q2 q3 q4 q5 q6 => by rw [up_ne _ _ q6, fr _ q1]; exact f5 j q1 q2 q3 q4 q5
      · rcases List.mem_append.mp hw with hw | hw
        · exact (ok w hw).1
        · rw [List.mem_singleton.mp hw]
          obtain ⟨z1, z2⟩ := gS_ac q0.1 (lo q0 List.mem_cons_self).1
          exact ⟨z1, z2, by simp, by show (0 : Int) ≤ 60; decide, by show (60 : Int) ≤ 1000000; decide⟩
      · rcases List.mem_append.mp hw with hw | hw
        · exact .inl (ok w hw).2
        · rw [List.mem_singleton.mp hw]
          exact .inr rfl
      · simp [parts, kD]
end

end L_k10_sheet

set_option maxHeartbeats 4000000
namespace L_k10_sheet
open PySem L2 Vb
section
variable {C : Call} {ti bi pd c j nb : Vb.Id} {g : G} {ts : List Tk} {rows : List Rw} {gd : List D} {dp wd dl bn : Int}
theorem pF : ((parts ti bi (.seq true gd) dp wd dl bn).all fun q => q.1.keyF) = true := rfl
theorem pO (a : Str) : keysOk (parts ti bi (.seq true gd) dp wd dl bn) (.str a) = true := okF pF rfl
theorem p1 : dGet (parts ti bi (.seq true gd) dp wd dl bn) (.str (Str.ofString "tokens")) = some (.ref ti) := rfl
theorem p2 : dGet (parts ti bi (.seq true gd) dp wd dl bn) (.str (Str.ofString "balances")) = some (.ref bi) := rfl
theorem p3 : dGet (parts ti bi (.seq true gd) dp wd dl bn) (.str (Str.ofString "guards")) = some (.seq true gd) := rfl
theorem p4 : dGet (parts ti bi (.seq true gd) dp wd dl bn) (.str (Str.ofString "depth")) = some (.int dp) := rfl
theorem p5 : dGet (parts ti bi (.seq true gd) dp wd dl bn) (.str (Str.ofString "window")) = some (.int wd) := rfl
theorem p6 : dGet (parts ti bi (.seq true gd) dp wd dl bn) (.str (Str.ofString "delay")) = some (.int dl) := rfl
theorem p7 : dGet (parts ti bi (.seq true gd) dp wd dl bn) (.str (Str.ofString "bundle")) = some (.int bn) := rfl
theorem cfg_toks (F : Cfg ts rows gd dp wd dl bn) : toksB [] ts = true := by
  obtain ⟨k, _, _, h⟩ := F.nm
  exact toks_good h F.tf
theorem cfg_ok (F : Cfg ts rows gd dp wd dl bn) : cfgB ts rows gd dp wd dl bn = true := by
  unfold cfgB
  rw [cfg_toks F, rows_good F.rf, F.gs.1]
  simp [F.hd, F.hw, F.hl, F.hb]
theorem cfg_len (F : Cfg ts rows gd dp wd dl bn) : 1 ≤ ts.length ∧ ts.length ≤ 3 := by
  obtain ⟨k, k1, k3, h⟩ := F.nm
  have := congrArg List.length h
  rw [List.length_map, List.length_take] at this
  have : nms3.length = 3 := rfl
  omega
theorem cfg_nm (F : Cfg ts rows gd dp wd dl bn) : ∀ t ∈ ts, t.nm ∈ nms3 := fun t ht => by
  obtain ⟨k, _, _, h⟩ := F.nm
  exact List.mem_of_mem_take (h ▸ List.mem_map_of_mem ht)
theorem cfg_nd (F : Cfg ts rows gd dp wd dl bn) : (ts.map (·.nm)).Nodup := (toks_nd ts [] (cfg_toks F)).1
theorem cfg_l3 (F : Cfg ts rows gd dp wd dl bn) : ∀ t ∈ ts, t.nm.length ≤ 1000 := fun t ht => by
  have := (nm3_ok (cfg_nm F t ht)).2.1
  omega
theorem made_ok (F : Cfg ts rows gd dp wd dl bn) (hp : g pd = some (.ct (.dct (parts ti bi (.seq true gd) dp wd dl bn)))) (ht : g ti = some (.ct (.lst (ts.map tkD)))) (hb : g bi = some (.ct (.lst (rows.map rwD)))) (nc : g c = none) (nj : g j = none) (nn : g nb = none) (jn : nb ≠ j) (cj : c ≠ j) (cn : c ≠ nb) {K : Kd} {X : Kx}
    (hK : ∀ g' : G, g' c = some (cfO ts nb (.seq true gd) dp wd dl bn) → g' nb = some (.ct (.lst (rows.map rwD))) → (∀ k, k ≠ c → k ≠ nb → k ≠ j → g' k = g k) → K (.ref c) g') :
    D4 C 36 [.ref pd] g K X := by
  have ct : ti ≠ c := fun z => by rw [z, nc] at ht; cases ht
  have cb : bi ≠ c := fun z => by rw [z, nc] at hb; cases hb
  refine c1 rfl rfl ?_
  show wSs prg (D3 C) b36 [some (.val (.ref pd))] g (Kr K X)
  unfold b36
  simp only [x_cons, x_ret, x_newk, x_esc, x_esn, x_dget, x_v, x_var, x_con, List.getElem?_cons_succ, List.getElem?_cons_zero, cv_ref, hp, cv_dct, pO, p1, p2, p3, p4, p5, p6, p7, true_and]
  refine ⟨c, nc, ?_⟩
  rw [mi]
  have L := cfg_len F
  refine cinit_ok (ts := ts) (rows := rows) (j := j) (nb := nb) (up_same _ _ _) (by rw [up_ne _ _ ct]; exact ht) (by rw [up_ne _ _ cb]; exact hb) (by rw [up_ne _ _ cj.symm]; exact nj) (by rw [up_ne _ _ cn.symm]; exact nn) jn (by omega) (by have := F.lr; omega) (cfg_l3 F) (fun w hw => (F.rf w hw).2.1) F.gs.2.1 (by have := F.gs.2.2; omega) (fun _ g2 h1 h2 f2 => ⟨rfl, hK g2 h1 h2 fun k q1 q2 q3 => (f2 k q1 q2 q3).trans (up_ne _ _ q1)⟩) fun z => by rw [cfg_ok F] at z; cases z
end

end L_k10_sheet

set_option maxHeartbeats 4000000
namespace L_k10_sheet
open PySem L2 Vb
/-! dicts of plain keys and numbers -/
section
variable {α : Type} [DecidableEq α]
def look : List (α × Int) → α → Int
  | [], _ => 0
  | p :: l, k => if p.1 = k then p.2 else look l k
def put (l : List (α × Int)) (k : α) (v : Int) : List (α × Int) := if (l.any fun p => decide (p.1 = k)) = true then l.map fun p => if p.1 = k then (p.1, v) else p else l ++ [(k, v)]
def dE (c : α → D) (l : List (α × Int)) : List (D × D) := l.map fun p => (c p.1, .int p.2)
@[simp] theorem dE_len {c : α → D} {l : List (α × Int)} : (dE c l).length = l.length := by simp [dE]
theorem dE_get {c : α → D} (inj : ∀ a b, c a = c b → a = b) {k : α} : ∀ {l : List (α × Int)}, (dGet (dE c l) (c k)).getD (.int 0) = .int (look l k)
  | [] => rfl
  | p :: l => by
    show (dGet ((c p.1, .int p.2) :: dE c l) (c k)).getD (.int 0) = .int (if p.1 = k then p.2 else look l k)
    rw [dGet_cons]
    by_cases e : p.1 = k
    · rw [if_pos (by rw [e]), if_pos e]
      rfl
    · rw [if_neg fun z => e (inj _ _ z), if_neg e]
      exact dE_get inj
theorem dE_any {c : α → D} (inj : ∀ a b, c a = c b → a = b) {k : α} {l : List (α × Int)} : ((dE c l).any fun p => decide (p.1 = c k)) = l.any fun p => decide (p.1 = k) := by
  unfold dE
  rw [List.any_map]
  congr 1
  funext p
  exact decide_eq_decide.mpr ⟨inj _ _, fun z => congrArg c z⟩
theorem dE_put {c : α → D} (inj : ∀ a b, c a = c b → a = b) {k : α} {v : Int} {l : List (α × Int)} : dPut (dE c l) (c k) (.int v) = dE c (put l k v) := by
  unfold dPut put
  rw [dE_any inj]
  split
  · unfold dE
    rw [List.map_map, List.map_map]
    refine List.map_congr_left fun p _ => ?_
    show (if c p.1 = c k then (c p.1, D.int v) else (c p.1, D.int p.2)) = (c (if p.1 = k then (p.1, v) else p).1, D.int (if p.1 = k then (p.1, v) else p).2)
    by_cases e : p.1 = k
    · rw [if_pos e, if_pos (congrArg c e)]
    · rw [if_neg e, if_neg fun z => e (inj _ _ z)]
  · simp [dE]
theorem dE_all {c : α → D} {q : D → Bool} (h : ∀ a, q (c a) = true) {l : List (α × Int)} : ((dE c l).all fun p => q p.1) = true := by
  unfold dE
  rw [List.all_map, List.all_eq_true]
  exact fun p _ => h p.1
theorem dE_T {c : α → D} (h : ∀ a, (c a).keyT = true) {k : α} {l : List (α × Int)} : keysOk (dE c l) (c k) = true := okT (dE_all h) (h k)
theorem dE_F {c : α → D} (h : ∀ a, (c a).keyF = true) {k : α} {l : List (α × Int)} : keysOk (dE c l) (c k) = true := okF (dE_all h) (h k)
theorem look_map {k k' : α} {v : Int} : ∀ {l : List (α × Int)}, look (l.map fun p => if p.1 = k then (p.1, v) else p) k' = if k = k' then (if (l.any fun p => decide (p.1 = k)) = true then v else look l k') else look l k'
  | [] => by simp [look]
  | p :: l => by
    have ih := look_map (k := k) (k' := k') (v := v) (l := l)
    show (if (if p.1 = k then (p.1, v) else p).1 = k' then (if p.1 = k then (p.1, v) else p).2 else look (l.map _) k') = if k = k' then (if (decide (p.1 = k) || (l.any fun p => decide (p.1 = k))) = true then v else if p.1 = k' then p.2 else look l k') else (if p.1 = k' then p.2 else look l k')
    rw [ih]
    by_cases e : p.1 = k
    · rw [if_pos e, decide_eq_true e, Bool.true_or, if_pos rfl]
      show (if p.1 = k' then v else _) = _
      by_cases e2 : k = k'
      · rw [if_pos e2, if_pos e2, if_pos (e.trans e2)]
      · have e3 : ¬ p.1 = k' := fun z => e2 (e.symm.trans z)
        rw [if_neg e2, if_neg e3, if_neg e3]
        rw [if_neg e2]
    · rw [if_neg e, decide_eq_false e, Bool.false_or]
      by_cases e2 : k = k'
      · have e3 : ¬ p.1 = k' := fun z => e (z.trans e2.symm)
        rw [if_pos e2, if_pos e2, if_neg e3, if_neg e3]
      · rw [if_neg e2, if_neg e2]
theorem look_app {k k' : α} {v : Int} : ∀ {l : List (α × Int)}, look (l ++ [(k, v)]) k' = if (l.any fun p => decide (p.1 = k')) = true then look l k' else if k = k' then v else 0
  | [] => by simp [look]
  | p :: l => by
    have ih := look_app (k := k) (k' := k') (v := v) (l := l)
    show (if p.1 = k' then p.2 else look (l ++ [(k, v)]) k') = if (decide (p.1 = k') || (l.any fun p => decide (p.1 = k'))) = true then (if p.1 = k' then p.2 else look l k') else _
    rw [ih]
    by_cases e : p.1 = k'
    · rw [if_pos e, if_pos e, decide_eq_true e, Bool.true_or, if_pos rfl]
    · rw [if_neg e, if_neg e, decide_eq_false e, Bool.false_or]
theorem look_no {k : α} : ∀ {l : List (α × Int)}, (l.any fun p => decide (p.1 = k)) = false → look l k = 0
  | [], _ => rfl
  | p :: l, h => by
    simp only [List.any_cons, Bool.or_eq_false_iff, decide_eq_false_iff_not] at h
    simp only [look]
    rw [if_neg h.1]
    exact look_no h.2
theorem look_put {k k' : α} {v : Int} {l : List (α × Int)} : look (put l k v) k' = if k = k' then v else look l k' := by
  unfold put
  split
  · rename_i h
    rw [look_map, if_pos h]
  · rename_i h
    have h : (l.any fun p => decide (p.1 = k)) = false := Bool.eq_false_iff.mpr h
    rw [look_app]
    by_cases e : k = k'
    · subst e
      simp [h]
    · rw [if_neg e, if_neg e]
      split
      · rfl
      · rename_i q
        exact (look_no (Bool.eq_false_iff.mpr q)).symm
theorem look_self {k : α} {v : Int} {l : List (α × Int)} : look (put l k v) k = v := by rw [look_put, if_pos rfl]
theorem put_len {k : α} {v : Int} {l : List (α × Int)} : (put l k v).length ≤ l.length + 1 := by
  unfold put
  split <;> simp
theorem put_keys {k : α} {v : Int} {l : List (α × Int)} : (put l k v).map (·.1) = if (l.any fun p => decide (p.1 = k)) = true then l.map (·.1) else l.map (·.1) ++ [k] := by
  unfold put
  split
  · rw [List.map_map]
    refine List.map_congr_left fun p _ => ?_
    show (if p.1 = k then (p.1, v) else p).1 = p.1
    split <;> rfl
  · simp
theorem put_nd {k : α} {v : Int} {l : List (α × Int)} (h : (l.map (·.1)).Nodup) : ((put l k v).map (·.1)).Nodup := by
  rw [put_keys]
  split
  · exact h
  · rename_i q
    rw [List.nodup_append]
    refine ⟨h, by simp, fun a ha b hb z => q ?_⟩
    obtain ⟨p, hp, rfl⟩ := List.mem_map.mp ha
    rw [List.any_eq_true]
    exact ⟨p, hp, by rw [z]; simpa using hb⟩
theorem put_all2 {k : α} {v : Int} {l : List (α × Int)} {P : α → Prop} (h : ∀ p ∈ l, P p.1) (hk : P k) : ∀ p ∈ put l k v, P p.1 := by
  have : ∀ x ∈ (put l k v).map (·.1), P x := by
    rw [put_keys]
    intro x hx
    split at hx
    · obtain ⟨p, hp, rfl⟩ := List.mem_map.mp hx
      exact h p hp
    · rcases List.mem_append.mp hx with hx | hx
      · obtain ⟨p, hp, rfl⟩ := List.mem_map.mp hx
        exact h p hp
      · rw [List.mem_singleton.mp hx]
        exact hk
  exact fun p hp => this _ (List.mem_map_of_mem hp)
/-- a dict's copy by a comprehension -/
theorem dc_copy {c : α → D} {a b : Nat} {r0 : Rho} {tv : Rho → Option Bool} {kv vv : Rho → Option D} (inj : ∀ a b, c a = c b → a = b) (hT : ∀ x, (c x).keyT = true) (h : ∀ (x : α) (v : Int), ∃ r1, bindT (.tup [a, b]) (.seq true [c x, .int v]) r0 = some r1 ∧ tv r1 = some true ∧ kv r1 = some (c x) ∧ vv r1 = some (.int v)) :
    ∀ (l acc : List (α × Int)), ((acc ++ l).map (·.1)).Nodup → dcV (.tup [a, b]) r0 tv kv vv (itemsD .items (dE c l)) (dE c acc) = some (dE c (acc ++ l))
  | [], acc, _ => by
    rw [List.append_nil]
    rfl
  | p :: l, acc, nd => by
    obtain ⟨r1, e1, e2, e3, e4⟩ := h p.1 p.2
    have na : (acc.any fun q => decide (q.1 = p.1)) = false := by
      rw [List.any_eq_false]
      intro q hq z
      have z : q.1 = p.1 := by simpa using z
      rw [List.map_append, List.nodup_append] at nd
      exact nd.2.2 q.1 (List.mem_map_of_mem hq) p.1 (by simp) z
    have ep : dPut (dE c acc) (c p.1) (.int p.2) = dE c (acc ++ [p]) := by
      rw [dE_put inj]
      unfold put
      rw [if_neg (by rw [na]; exact Bool.false_ne_true)]
    show dcV (.tup [a, b]) r0 tv kv vv (.seq true [c p.1, .int p.2] :: itemsD .items (dE c l)) (dE c acc) = _
    unfold dcV
    rw [e1]
    show ((tv r1).bind fun b_1 => if b_1 = true then (kv r1).bind fun k => (vv r1).bind fun z => if keysOk (dE c acc) k = true then dcV (.tup [a, b]) r0 tv kv vv (itemsD .items (dE c l)) (dPut (dE c acc) k z) else none else dcV (.tup [a, b]) r0 tv kv vv (itemsD .items (dE c l)) (dE c acc)) = _
    rw [e2]
    show (if true = true then (kv r1).bind fun k => (vv r1).bind fun z => if keysOk (dE c acc) k = true then dcV (.tup [a, b]) r0 tv kv vv (itemsD .items (dE c l)) (dPut (dE c acc) k z) else none else dcV (.tup [a, b]) r0 tv kv vv (itemsD .items (dE c l)) (dE c acc)) = _
    rw [if_pos rfl, e3, e4]
    show (if keysOk (dE c acc) (c p.1) = true then dcV (.tup [a, b]) r0 tv kv vv (itemsD .items (dE c l)) (dPut (dE c acc) (c p.1) (.int p.2)) else none) = _
    rw [if_pos (dE_T hT), ep, dc_copy inj hT h l (acc ++ [p]) (by simpa using nd)]
    simp
/-- the sum of a token's places, by the accounts that may have some -/
theorem sum_by {β : Type} [DecidableEq β] (t : β) : ∀ (l : List ((α × β) × Int)) (ns : List α), ns.Nodup → (l.map (·.1)).Nodup → (∀ p ∈ l, p.1.2 = t → p.1.1 ∈ ns) → ((l.filter fun p => decide (p.1.2 = t)).map (·.2)).sum = (ns.map fun a => look l (a, t)).sum
  | [], ns, _, _, _ => by
    have : ∀ ns : List α, (ns.map fun a => look ([] : List ((α × β) × Int)) (a, t)).sum = 0 := fun ns => by
      induction ns with
      | nil => rfl
      | cons a ns ih => rw [List.map_cons, List.sum_cons, ih]; rfl
    rw [this]
    rfl
  | p :: l, ns, hn, nd, h => by
    rw [List.map_cons, List.nodup_cons] at nd
    have ih := sum_by t l ns hn nd.2 fun q hq => h q (List.mem_cons_of_mem _ hq)
    by_cases e : p.1.2 = t
    · rw [List.filter_cons_of_pos (by simp [e]), List.map_cons, List.sum_cons, ih]
      have hm := h p List.mem_cons_self e
      have e1 : p.1 = (p.1.1, t) := by rw [← e]
      have z0 : look l (p.1.1, t) = 0 := by
        refine look_no ?_
        rw [List.any_eq_false]
        intro q hq z
        have z : q.1 = (p.1.1, t) := by simpa using z
        exact nd.1 (by rw [e1, ← z]; exact List.mem_map_of_mem hq)
      have : ∀ ns : List α, ns.Nodup → (ns.map fun a => look (p :: l) (a, t)).sum = (if p.1.1 ∈ ns then p.2 else 0) + (ns.map fun a => look l (a, t)).sum := fun ns hn => by
        induction ns with
        | nil => simp
        | cons a ns ih =>
          rw [List.nodup_cons] at hn
          rw [List.map_cons, List.sum_cons, ih hn.2, List.map_cons, List.sum_cons]
          show (if p.1 = (a, t) then p.2 else look l (a, t)) + _ = _
          by_cases q : p.1.1 = a
          · have q2 : p.1 = (a, t) := by rw [← q]; exact e1
            have q3 : p.1.1 ∉ ns := by rw [q]; exact hn.1
            have q4 : look l (a, t) = 0 := by rw [← q]; exact z0
            rw [if_pos q2, if_neg q3, q4, if_pos (by rw [q]; simp)]
          · have q2 : ¬ p.1 = (a, t) := fun z => q (by rw [z])
            have q3 : (p.1.1 ∈ a :: ns) ↔ p.1.1 ∈ ns := by simp [q]
            rw [if_neg q2]
            simp only [q3]
            omega
      rw [this ns hn, if_pos hm]
    · rw [List.filter_cons_of_neg (by simp [e]), ih]
      congr 1
      refine List.map_congr_left fun a _ => ?_
      have : ¬ p.1 = (a, t) := fun z => e (by rw [z])
      show _ = if p.1 = (a, t) then p.2 else look l (a, t)
      rw [if_neg this]
end

end L_k10_sheet

set_option maxHeartbeats 4000000
namespace L_k10_sheet
open PySem L2 Vb
def bk (q : Str × Str) : D := .seq true [.str q.1, .str q.2]
theorem bk_inj : ∀ a b, bk a = bk b → a = b := fun ⟨a, b⟩ ⟨c, d⟩ h => by
  have h : a = c ∧ b = d := by simpa [bk] using h
  rw [h.1, h.2]
theorem bk_T : ∀ a, (bk a).keyT = true := fun _ => rfl
def vk (t : Str) : D := .str t
theorem vk_inj : ∀ a b, vk a = vk b → a = b := fun a b h => by simpa [vk] using h
theorem vk_F : ∀ a, (vk a).keyF = true := fun _ => rfl
@[simp] theorem bkO {l : List ((Str × Str) × Int)} {a t : Str} : keysOk (dE bk l) (.seq true [.str a, .str t]) = true := dE_T bk_T (k := (a, t))
@[simp] theorem bkG {l : List ((Str × Str) × Int)} {a t : Str} : (dGet (dE bk l) (.seq true [.str a, .str t])).getD (.int 0) = .int (look l (a, t)) := dE_get bk_inj (k := (a, t))
@[simp] theorem bkP {l : List ((Str × Str) × Int)} {a t : Str} {v : Int} : dPut (dE bk l) (.seq true [.str a, .str t]) (.int v) = dE bk (put l (a, t) v) := dE_put bk_inj (k := (a, t))
@[simp] theorem vkO {l : List (Str × Int)} {t : Str} : keysOk (dE vk l) (.str t) = true := dE_F vk_F (k := t)
@[simp] theorem vkG {l : List (Str × Int)} {t : Str} : (dGet (dE vk l) (.str t)).getD (.int 0) = .int (look l t) := dE_get vk_inj (k := t)
@[simp] theorem vkP {l : List (Str × Int)} {t : Str} {v : Int} : dPut (dE vk l) (.str t) (.int v) = dE vk (put l t v) := dE_put vk_inj (k := t)
/-- a sheet: balances, vaults, bonds -/
structure Sh where
  B : List ((Str × Str) × Int)
  V : List (Str × Int)
  N : List ((Str × Str) × Int)
namespace Sh
def gv (s : Sh) (a t : Str) (n : Int) : Sh := ⟨put s.B (a, t) (look s.B (a, t) + n), s.V, s.N⟩
def vl (s : Sh) (t : Str) (n : Int) : Sh := ⟨s.B, put s.V t n, s.N⟩
def bn (s : Sh) (a t : Str) (n : Int) : Sh := ⟨s.B, s.V, put s.N (a, t) n⟩
def small (s : Sh) : Prop := s.B.length < 900000 ∧ s.V.length < 900000 ∧ s.N.length < 900000
end Sh
abbrev shO (cf : Vb.Id) (sd : Str) (s : Sh) : Ob := .ins 4 [(1, .val (.ref cf)), (2, .val (.str sd)), (3, .own (.dct (dE bk s.B))), (4, .own (.dct (dE vk s.V))), (5, .own (.dct (dE bk s.N)))]
theorem sm_bal : prg.mth 4 8 = some 2 := by decide
theorem sm_vlt : prg.mth 4 11 = some 3 := by decide
theorem sm_giv : prg.mth 4 7 = some 4 := by decide
theorem sm_chg : prg.mth 4 9 = some 5 := by decide
theorem sm_bdd : prg.mth 4 12 = some 11 := by decide
theorem sm_scl : prg.mth 5 10 = some 21 := by decide
section
variable {C : Call} {i cf : Vb.Id} {sd : Str} {s : Sh} {g : G} {a t : Str} {n : Int}
theorem bal_ok (h : g i = some (shO cf sd s)) {K : Kd} {X : Kx} (hK : K (.int (look s.B (a, t))) g) : C1 prg C 2 [.ref i, .str a, .str t] g K X := by
  refine c1 rfl rfl ?_
  show wSs prg C b2 [some (.val (.ref i)), some (.val (.str a)), some (.val (.str t))] g (Kr K X)
  unfold b2
  simp [h]
  exact hK
theorem vlt_ok (h : g i = some (shO cf sd s)) {K : Kd} {X : Kx} (hK : K (.int (look s.V t)) g) : C1 prg C 3 [.ref i, .str t] g K X := by
  refine c1 rfl rfl ?_
  show wSs prg C b3 [some (.val (.ref i)), some (.val (.str t))] g (Kr K X)
  unfold b3
  simp [h]
  exact hK
theorem bdd_ok (h : g i = some (shO cf sd s)) {K : Kd} {X : Kx} (hK : K (.int (look s.N (a, t))) g) : C1 prg C 11 [.ref i, .str a, .str t] g K X := by
  refine c1 rfl rfl ?_
  show wSs prg C b11 [some (.val (.ref i)), some (.val (.str a)), some (.val (.str t))] g (Kr K X)
  unfold b11
  simp [h]
  exact hK
/-- what a call of the sheet leaves -/
def ShK (i cf : Vb.Id) (sd : Str) (s : Sh) (g : G) (K : Kd) : Prop := ∀ g', g' i = some (shO cf sd s) → (∀ j, j ≠ i → g' j = g j) → K .non g'
theorem giv_ok (h : g i = some (shO cf sd s)) (sm : s.small) {K : Kd} {X : Kx} (hK : ShK i cf sd (s.gv a t n) g K) : C1 prg (C1 prg C) 4 [.ref i, .str a, .str t, .int n] g K X := by
  have l1 := sm.1
  refine c1 rfl rfl ?_
  show wSs prg (C1 prg C) b4 [some (.val (.ref i)), some (.val (.str a)), some (.val (.str t)), some (.val (.int n))] g (Kr K X)
  unfold b4
  simp [h, sm_bal]
  refine bal_ok h ?_
  simp [h]
  refine ⟨by omega, kq ?_⟩
  rw [x_nil]
  exact hK _ (by simp [Sh.gv]) fun j hj => by simp [hj]
theorem chg_ok (h : g i = some (shO cf sd s)) (sm : s.small) {K : Kd} {X : Kx} (hX : look s.B (a, t) < n → X 3 g) (hK : n ≤ look s.B (a, t) → ShK i cf sd (s.gv a t (-n)) g K) : C1 prg (C1 prg (C1 prg C)) 5 [.ref i, .str a, .str t, .int n] g K X := by
  refine c1 rfl rfl ?_
  show wSs prg (C1 prg (C1 prg C)) b5 [some (.val (.ref i)), some (.val (.str a)), some (.val (.str t)), some (.val (.int n))] g (Kr K X)
  unfold b5
  simp [h, sm_bal]
  refine bal_ok h ?_
  by_cases e : look s.B (a, t) < n
  · simp [e]
    exact hX e
  · simp [e]
    refine kq ?_
    simp [h, sm_giv]
    refine giv_ok h sm fun g' h1 h2 => kq ?_
    rw [x_nil]
    exact hK (by omega) g' h1 h2
theorem sm_gv (h : s.B.length < 800000 ∧ s.V.length < 900000 ∧ s.N.length < 900000) : (s.gv a t n).small := by
  have := put_len (l := s.B) (k := (a, t)) (v := look s.B (a, t) + n)
  exact ⟨by show (put s.B (a, t) (look s.B (a, t) + n)).length < _; omega, h.2.1, h.2.2⟩
/-- smaller -/
def Sh.sml (s : Sh) : Prop := s.B.length < 800000 ∧ s.V.length < 800000 ∧ s.N.length < 800000
theorem sml_s (h : s.sml) : s.small := ⟨by have := h.1; omega, by have := h.2.1; omega, by have := h.2.2; omega⟩
theorem sml_gv (h : s.sml) : (s.gv a t n).small := sm_gv ⟨h.1, by have := h.2.1; omega, by have := h.2.2; omega⟩
theorem mov_ok {b : Str} (h : g i = some (shO cf sd s)) (sm : s.sml) {K : Kd} {X : Kx} (hX : look s.B (a, t) < n → X 3 g) (hK : n ≤ look s.B (a, t) → ShK i cf sd ((s.gv a t (-n)).gv b t n) g K) : C1 prg (C1 prg (C1 prg (C1 prg C))) 6 [.ref i, .str a, .str b, .str t, .int n] g K X := by
  refine c1 rfl rfl ?_
  show wSs prg (C1 prg (C1 prg (C1 prg C))) b6 [some (.val (.ref i)), some (.val (.str a)), some (.val (.str b)), some (.val (.str t)), some (.val (.int n))] g (Kr K X)
  unfold b6
  simp [h, sm_chg]
  refine chg_ok h (sml_s sm) (fun e => ?_) fun e g' h1 h2 => kq ?_
  · exact hX e
  simp [h1, sm_giv]
  refine giv_ok h1 (sml_gv sm) fun g2 h3 h4 => kq ?_
  rw [x_nil]
  exact hK e g2 h3 fun j hj => (h4 j hj).trans (h2 j hj)
theorem mnt_ok (h : g i = some (shO cf sd s)) (sm : s.small) {K : Kd} {X : Kx} (hK : ShK i cf sd (s.gv a t n) g K) : C1 prg (C1 prg (C1 prg C)) 9 [.ref i, .str a, .str t, .int n] g K X := by
  refine c1 rfl rfl ?_
  show wSs prg (C1 prg (C1 prg C)) b9 [some (.val (.ref i)), some (.val (.str a)), some (.val (.str t)), some (.val (.int n))] g (Kr K X)
  unfold b9
  simp [h, sm_giv]
  refine giv_ok h sm fun g' h1 h2 => kq ?_
  rw [x_nil]
  exact hK g' h1 h2
theorem brn_ok (h : g i = some (shO cf sd s)) (sm : s.small) {K : Kd} {X : Kx} (hX : look s.B (a, t) < n → X 3 g) (hK : n ≤ look s.B (a, t) → ShK i cf sd (s.gv a t (-n)) g K) : C1 prg (C1 prg (C1 prg (C1 prg C))) 10 [.ref i, .str a, .str t, .int n] g K X := by
  refine c1 rfl rfl ?_
  show wSs prg (C1 prg (C1 prg (C1 prg C))) b10 [some (.val (.ref i)), some (.val (.str a)), some (.val (.str t)), some (.val (.int n))] g (Kr K X)
  unfold b10
  simp [h, sm_chg]
  refine chg_ok h sm (fun e => ?_) fun e g' h1 h2 => kq ?_
  · exact hX e
  rw [x_nil]
  exact hK e g' h1 h2
theorem bnd_ok (h : g i = some (shO cf sd s)) (sm : s.sml) {K : Kd} {X : Kx} (hX : look s.B (a, t) < n → X 3 g) (hK : n ≤ look s.B (a, t) → ShK i cf sd ((s.gv a t (-n)).bn a t (look s.N (a, t) + n)) g K) : C1 prg (C1 prg (C1 prg (C1 prg C))) 12 [.ref i, .str a, .str t, .int n] g K X := by
  refine c1 rfl rfl ?_
  show wSs prg (C1 prg (C1 prg (C1 prg C))) b12 [some (.val (.ref i)), some (.val (.str a)), some (.val (.str t)), some (.val (.int n))] g (Kr K X)
  unfold b12
  simp [h, sm_chg]
  refine chg_ok h (sml_s sm) (fun e => ?_) fun e g' h1 h2 => kq ?_
  · exact hX e
  simp [h1, sm_bdd]
  refine bdd_ok h1 ?_
  simp [h1]
  refine ⟨by have := sm.2.2; show s.N.length < _; omega, kq ?_⟩
  rw [x_nil]
  exact hK e _ (by simp [Sh.gv, Sh.bn]) fun j hj => by simp [hj, h2 j hj]
theorem unb_ok (h : g i = some (shO cf sd s)) (sm : s.sml) {K : Kd} {X : Kx} (hX : look s.N (a, t) < n → X 3 g) (hK : n ≤ look s.N (a, t) → ShK i cf sd ((s.bn a t (look s.N (a, t) - n)).gv a t n) g K) : C1 prg (C1 prg (C1 prg (C1 prg C))) 13 [.ref i, .str a, .str t, .int n] g K X := by
  refine c1 rfl rfl ?_
  show wSs prg (C1 prg (C1 prg (C1 prg C))) b13 [some (.val (.ref i)), some (.val (.str a)), some (.val (.str t)), some (.val (.int n))] g (Kr K X)
  unfold b13
  simp [h, sm_bdd]
  refine bdd_ok h ?_
  by_cases e : look s.N (a, t) < n
  · simp [e]
    exact hX e
  simp [e]
  refine kq ?_
  simp [h, sm_bdd]
  refine bdd_ok h ?_
  simp [h]
  refine ⟨by have := sm.2.2; omega, kq ?_⟩
  simp [sm_giv]
  refine giv_ok (s := s.bn a t (look s.N (a, t) - n)) (cf := cf) (sd := sd) (by simp [Sh.bn]) ⟨by have := sm.1; show s.B.length < _; omega, by have := sm.2.1; show s.V.length < _; omega, by have := sm.2.2; have := put_len (l := s.N) (k := (a, t)) (v := look s.N (a, t) - n); show (put s.N (a, t) (look s.N (a, t) - n)).length < _; omega⟩ fun g2 h3 h4 => kq ?_
  rw [x_nil]
  exact hK (by omega) g2 h3 fun j hj => by rw [h4 j hj]; simp [hj]
section
variable {ts : List Tk} {nb : Vb.Id} {gd : D} {dp wd dl bn : Int} {k : Tk}
theorem lck_ok (h : g i = some (shO cf sd s)) (sm : s.sml) (hc : g cf = some (cfO ts nb gd dp wd dl bn)) (nd : (ts.map (·.nm)).Nodup) (hk : k ∈ ts) (sc : 0 ≤ k.sc ∧ k.sc < 2 ^ 64) {K : Kd} {X : Kx} (hX : look s.B (a, k.nm) < n * k.sc → X 3 g) (hK : n * k.sc ≤ look s.B (a, k.nm) → ShK i cf sd ((s.gv a k.nm (-(n * k.sc))).vl k.nm (look s.V k.nm + n * k.sc)) g K) : C1 prg (C1 prg (C1 prg (C1 prg C))) 7 [.ref i, .str a, .str k.nm, .int n] g K X := by
  refine c1 rfl rfl ?_
  show wSs prg (C1 prg (C1 prg (C1 prg C))) b7 [some (.val (.ref i)), some (.val (.str a)), some (.val (.str k.nm)), some (.val (.int n)), none] g (Kr K X)
  unfold b7
  simp [h, hc, sm_scl]
  refine scale_ok (C := C1 prg C) hc nd hk ?_
  simp
  refine ⟨.inr ⟨by omega, sc.2⟩, kq ?_⟩
  simp [h, sm_chg]
  refine chg_ok h (sml_s sm) (fun e => ?_) fun e g' h1 h2 => kq ?_
  · exact hX e
  simp [h1, sm_vlt]
  refine vlt_ok h1 ?_
  simp [h1]
  refine ⟨by have := sm.2.1; show s.V.length < _; omega, kq ?_⟩
  rw [x_nil]
  exact hK e _ (by simp [Sh.gv, Sh.vl]) fun j hj => by simp [hj, h2 j hj]
theorem rel_ok (h : g i = some (shO cf sd s)) (sm : s.sml) (hc : g cf = some (cfO ts nb gd dp wd dl bn)) (nd : (ts.map (·.nm)).Nodup) (hk : k ∈ ts) (sc : 0 ≤ k.sc ∧ k.sc < 2 ^ 64) {K : Kd} {X : Kx} (hX : look s.V k.nm < n * k.sc → X 3 g) (hK : n * k.sc ≤ look s.V k.nm → ShK i cf sd ((s.vl k.nm (look s.V k.nm - n * k.sc)).gv a k.nm (n * k.sc)) g K) : C1 prg (C1 prg (C1 prg (C1 prg C))) 8 [.ref i, .str a, .str k.nm, .int n] g K X := by
  refine c1 rfl rfl ?_
  show wSs prg (C1 prg (C1 prg (C1 prg C))) b8 [some (.val (.ref i)), some (.val (.str a)), some (.val (.str k.nm)), some (.val (.int n)), none] g (Kr K X)
  unfold b8
  simp [h, hc, sm_scl]
  refine scale_ok (C := C1 prg C) hc nd hk ?_
  simp
  refine ⟨.inr ⟨by omega, sc.2⟩, kq ?_⟩
  simp [h, sm_vlt]
  refine vlt_ok h ?_
  by_cases e : look s.V k.nm < n * k.sc
  · simp [e]
    exact hX e
  simp [e]
  refine kq ?_
  simp [h, sm_vlt]
  refine vlt_ok h ?_
  simp [h]
  refine ⟨by have := sm.2.1; omega, kq ?_⟩
  simp [sm_giv]
  refine giv_ok (s := s.vl k.nm (look s.V k.nm - n * k.sc)) (cf := cf) (sd := sd) (by simp [Sh.vl]) ⟨by have := sm.1; show s.B.length < _; omega, by have := sm.2.1; have := put_len (l := s.V) (k := k.nm) (v := look s.V k.nm - n * k.sc); show (put s.V k.nm (look s.V k.nm - n * k.sc)).length < _; omega, by have := sm.2.2; show s.N.length < _; omega⟩ fun g2 h3 h4 => kq ?_
  rw [x_nil]
  exact hK (by omega) g2 h3 fun j hj => by rw [h4 j hj]; simp [hj]
end
end

end L_k10_sheet

set_option maxHeartbeats 4000000
namespace L_k10_sheet
open PySem L2 Vb
/-- a configuration that stands -/
structure CF (ts : List Tk) (rows : List Rw) (nb : Vb.Id) (gd : D) (dp wd dl bn : Int) (cf : Vb.Id) (g : G) : Prop where
  hc : g cf = some (cfO ts nb gd dp wd dl bn)
  hb : g nb = some (.ct (.lst (rows.map rwD)))
  nd : (ts.map (·.nm)).Nodup
  hr : ∀ w ∈ rows, w.tk ∈ ts.map (·.nm)
  l : rows.length ≤ 1000
theorem cf_fr {ts : List Tk} {rows : List Rw} {nb : Vb.Id} {gd : D} {dp wd dl bn : Int} {cf : Vb.Id} {g g' : G} (F : CF ts rows nb gd dp wd dl bn cf g) (h : ∀ k o, g k = some o → g' k = g k) : CF ts rows nb gd dp wd dl bn cf g' :=
  ⟨(h _ _ F.hc).trans F.hc, (h _ _ F.hb).trans F.hb, F.nd, F.hr, F.l⟩
def opw (ts : List Tk) (rows : List Rw) (sd : Str) : List Rw := rows.filter fun w => decide (hmOf ts w.tk = sd)
def opf (l : List Rw) : Sh := l.foldl (fun s w => s.gv w.ac w.tk w.am) ⟨[], [], []⟩
theorem opf_snoc (l : List Rw) (w : Rw) : opf (l ++ [w]) = (opf l).gv w.ac w.tk w.am := by
  unfold opf
  rw [List.foldl_append]
  rfl
theorem opf_len2 : ∀ (l : List Rw) (s : Sh), (l.foldl (fun s w => s.gv w.ac w.tk w.am) s).B.length ≤ s.B.length + l.length ∧ (l.foldl (fun s w => s.gv w.ac w.tk w.am) s).V = s.V ∧ (l.foldl (fun s w => s.gv w.ac w.tk w.am) s).N = s.N
  | [], s => ⟨Nat.le_refl _, rfl, rfl⟩
  | w :: l, s => by
    have ih := opf_len2 l (s.gv w.ac w.tk w.am)
    have := put_len (l := s.B) (k := (w.ac, w.tk)) (v := look s.B (w.ac, w.tk) + w.am)
    rw [List.foldl_cons, List.length_cons]
    exact ⟨Nat.le_trans ih.1 (by show (put s.B (w.ac, w.tk) (look s.B (w.ac, w.tk) + w.am)).length + l.length ≤ _; omega), ih.2⟩
theorem opf_len (l : List Rw) : (opf l).B.length ≤ l.length ∧ (opf l).V = [] ∧ (opf l).N = [] := by
  have := opf_len2 l ⟨[], [], []⟩
  exact ⟨by have := this.1; rw [List.length_nil, Nat.zero_add] at this; exact this, this.2⟩
theorem sf_1 : prg.fldOk 4 1 = true := by decide
theorem sf_2 : prg.fldOk 4 2 = true := by decide
theorem sf_3 : prg.fldOk 4 3 = true := by decide
theorem sf_4 : prg.fldOk 4 4 = true := by decide
theorem sf_5 : prg.fldOk 4 5 = true := by decide
theorem sm_opn : prg.mth 5 6 = some 24 := by decide
theorem sm_ini : prg.mth 4 prg.init = some 0 := by decide
section
variable {C : Call} {i cf j nb : Vb.Id} {sd : Str} {s : Sh} {g : G} {a t : Str} {n : Int} {ts : List Tk} {rows : List Rw} {gd : D} {dp wd dl bn : Int}
theorem sinit_ok (F : CF ts rows nb gd dp wd dl bn cf g) (hi : g i = some (.ins 4 [])) (nj : g j = none) {K : Kd} {X : Kx}
    (hK : ∀ g' : G, g' i = some (shO cf sd (opf (opw ts rows sd))) → (∀ k, k ≠ i → k ≠ j → g' k = g k) → K .non g') :
    C1 prg (C1 prg (C1 prg (C1 prg C))) 0 [.ref i, .ref cf, .str sd] g K X := by
  have ic : cf ≠ i := fun z => by
    have := F.hc
    rw [z, hi] at this
    cases this
  have ib : nb ≠ i := fun z => by
    have := F.hb
    rw [z, hi] at this
    cases this
  have ji : j ≠ i := fun z => by
    rw [z, hi] at nj
    cases nj
  have hc := F.hc
  refine c1 rfl rfl ?_
  show wSs prg (C1 prg (C1 prg (C1 prg C))) b0 [some (.val (.ref i)), some (.val (.ref cf)), some (.val (.str sd)), none, none, none] g (Kr K X)
  unfold b0
  simp [hi, sf_1]
  refine kq ?_
  simp [sf_2]
  refine kq ?_
  simp [sf_3]
  refine kq ?_
  simp [sf_4]
  refine kq ?_
  simp [sf_5]
  refine kq ?_
  generalize hg : up g i _ = g1
  have h1 : g1 i = some (shO cf sd ⟨[], [], []⟩) := by rw [← hg, up_same]; rfl
  have f1 : ∀ k, k ≠ i → g1 k = g k := fun k hk => by rw [← hg, up_ne _ _ hk]
  clear hg
  have F1 : CF ts rows nb gd dp wd dl bn cf g1 := ⟨(f1 _ ic).trans F.hc, (f1 _ ib).trans F.hb, F.nd, F.hr, F.l⟩
  have hc1 := F1.hc
  have nj1 : g1 j = none := (f1 _ ji).trans nj
  rw [x_cons, x_for]
  simp [hc1, sm_opn]
  refine opening_ok F1.hc F1.nd F1.hb F1.hr F1.l nj1 ?_
  simp
  show wFor (.ob j ((opw ts rows sd).map rwD)) _ _ ((opw ts rows sd).map rwD) _ _ _
  refine for_inv (fun n r g' => ∃ y3 y4 y5, r = [some (.val (.ref i)), some (.val (.ref cf)), some (.val (.str sd)), y3, y4, y5] ∧ g' j = some (.ct (.lst ((opw ts rows sd).map rwD))) ∧ g' i = some (shO cf sd (opf ((opw ts rows sd).take n))) ∧ ∀ k, k ≠ i → k ≠ j → g' k = g k) _ _ 0 _ _ rfl (Nat.zero_le _) ⟨none, none, none, rfl, by rw [up_same]; rfl, by rw [up_ne _ _ ji.symm]; exact h1, fun k q1 q2 => by rw [up_ne _ _ q2]; exact f1 k q1⟩ (fun n r g' ⟨_, _, _, _, q, _⟩ => q) ?_ ?_
  · rintro n x r g' Kc hx ⟨y3, y4, y5, rfl, hj, hi', f⟩ hn _ _ _
    rw [List.getElem?_map] at hx
    obtain ⟨w, hw, rfl⟩ := Option.map_eq_some_iff.mp hx
    refine ⟨_, rfl, ?_⟩
    simp [hi', sm_giv]
    have ln := opf_len ((opw ts rows sd).take n)
    have l2 : (opw ts rows sd).length ≤ rows.length := List.length_filter_le _ _
    have l3 := F.l
    have l4 : ((opw ts rows sd).take n).length ≤ (opw ts rows sd).length := by simp; omega
    refine giv_ok (C := C1 prg C) hi' ⟨by omega, by rw [ln.2.1]; decide, by rw [ln.2.2]; decide⟩ fun g2 h3 h4 => kq ?_
    rw [x_nil]
    exact (hn _ _ ⟨_, _, _, rfl, (h4 _ ji).trans hj, by rw [take_at hw, opf_snoc]; exact h3, fun k q1 q2 => (h4 k q1).trans (f k q1 q2)⟩).1
  · rintro r g' ⟨y3, y4, y5, rfl, hj, hi', f⟩
    rw [List.length_map, List.take_length] at hi'
    refine kq ?_
    rw [x_nil]
    exact hK g' hi' f
theorem circ_ok (h : g i = some (shO cf sd s)) (sm : s.small) {K : Kd} {X : Kx} (hK : K (.int (((s.B.filter fun p => decide (p.1.2 = t)).map (·.2)).sum + ((s.N.filter fun p => decide (p.1.2 = t)).map (·.2)).sum)) g) : C1 prg C 14 [.ref i, .str t] g K X := by
  have cv : ∀ (l : List ((Str × Str) × Int)) (x2 : Option Sl), compV (.tup [3, 4]) [some (.val (.ref i)), some (.val (.str t)), x2, none, none] (fun r1 => evT prg (.so (.cmp .eq (.idx (.v (.var 3)) (.con (.int 1))) (.var 1))) r1 g) (fun r1 => evE prg (.var 4) r1 g) (itemsD .items (dE bk l)) = some ((l.filter fun p => decide (p.1.2 = t)).map fun p => .int p.2) := fun l x2 => by
    have e : itemsD .items (dE bk l) = l.map fun p => .seq true [bk p.1, .int p.2] := by simp [itemsD, dE]
    rw [e]
    refine compV_map _ _ _ l fun p _ => ⟨[some (.val (.ref i)), some (.val (.str t)), x2, some (.val (bk p.1)), some (.val (.int p.2))], rfl, ?_, fun _ => rfl⟩
    simp [evT, evE, evP, bk, cvOf, idxV, L2.atI, L2.ixN, cmV, D.eqOk, D.eqv]
    by_cases e : p.1.2 = t <;> simp [e]
  refine c1 rfl rfl ?_
  show wSs prg C b14 [some (.val (.ref i)), some (.val (.str t)), none, none, none] g (Kr K X)
  unfold b14
  rw [x_cons, x_set, x_fz, x_compd]
  refine ⟨.fld i 3, dE bk s.B, _, ⟨rfl, by rw [dE_len]; exact Nat.le_of_lt (Nat.lt_of_lt_of_le sm.1 (by decide)), rfl⟩, ?_, cv s.B none, kq ?_⟩
  · simp [evP, evE, h, fldOf, getS, Ct.cv]
  rw [x_cons, x_ret]
  have s1 : ints? ((s.B.filter fun p => decide (p.1.2 = t)).map fun p => D.int p.2) = some ((s.B.filter fun p => decide (p.1.2 = t)).map fun p => p.2) := ints_ok _ _
  have s2 : ints? ((s.N.filter fun p => decide (p.1.2 = t)).map fun p => D.int p.2) = some ((s.N.filter fun p => decide (p.1.2 = t)).map fun p => p.2) := ints_ok _ _
  simp [s1]
  rw [x_compd]
  refine ⟨.fld i 5, dE bk s.N, _, ⟨rfl, by rw [dE_len]; exact Nat.le_of_lt (Nat.lt_of_lt_of_le sm.2.2 (by decide)), rfl⟩, ?_, cv s.N _, ?_⟩
  · simp [evP, evE, h, fldOf, getS, Ct.cv]
  simp [s2]
  exact hK
theorem vkA {l : List (Str × Int)} : ((dE vk l).all fun q => q.1.keyF) = true := dE_all vk_F
/-- keys once each -/
def Sh.nd (s : Sh) : Prop := (s.B.map (·.1)).Nodup ∧ (s.N.map (·.1)).Nodup
theorem copy_ok {i2 : Vb.Id} (F : CF ts rows nb gd dp wd dl bn cf g) (h : g i = some (shO cf sd s)) (sm : s.small) (snd : s.nd) (n2 : g i2 = none) (nj : g j = none) (ji : j ≠ i2) {K : Kd} {X : Kx}
    (hK : ∀ g' : G, g' i2 = some (shO cf sd s) → (∀ k, k ≠ i2 → k ≠ j → g' k = g k) → K (.ref i2) g') :
    C1 prg (C1 prg (C1 prg (C1 prg (C1 prg C)))) 1 [.ref i] g K X := by
  have ne : i ≠ i2 := fun z => by rw [z, n2] at h; cases h
  have nej : i ≠ j := fun z => by rw [z, nj] at h; cases h
  have nec : cf ≠ i2 := fun z => by have := F.hc; rw [z, n2] at this; cases this
  have neb : nb ≠ i2 := fun z => by have := F.hb; rw [z, n2] at this; cases this
  refine c1 rfl rfl ?_
  show wSs prg (C1 prg (C1 prg (C1 prg (C1 prg C)))) b1 [some (.val (.ref i)), none, none, none] g (Kr K X)
  unfold b1
  simp [h, sm_ini]
  refine ⟨i2, n2, ?_⟩
  refine sinit_ok (j := j) (F := ⟨(up_ne _ _ nec).trans F.hc, (up_ne _ _ neb).trans F.hb, F.nd, F.hr, F.l⟩) (up_same _ _ _) (by rw [up_ne _ _ ji]; exact nj) fun g2 h2 f2 => ⟨rfl, kq ?_⟩
  have h' : g2 i = some (shO cf sd s) := (f2 _ ne nej).trans ((up_ne _ _ ne).trans h)
  have nd1 : ((([] : List ((Str × Str) × Int)) ++ s.B).map (·.1)).Nodup := snd.1
  have nd2 : ((([] : List ((Str × Str) × Int)) ++ s.N).map (·.1)).Nodup := snd.2
  rw [x_cons, x_setfown, x_dcd]
  refine ⟨.fld i 3, dE bk s.B, dE bk s.B, ⟨rfl, by rw [dE_len]; exact Nat.le_of_lt (Nat.lt_of_lt_of_le sm.1 (by decide)), rfl⟩, ?_, dc_copy bk_inj bk_T (fun x v => ⟨_, rfl, rfl, ?_, ?_⟩) s.B [] nd1, ?_⟩
  · simp [evP, evE, h', fldOf, getS, Ct.cv]
  · simp [evE, wipeR]
  · simp [evE, wipeR]
  simp [h2, sf_3]
  refine kq ?_
  simp [h', ne, vkA, sf_4]
  refine kq ?_
  rw [x_cons, x_setfown, x_dcd]
  refine ⟨.fld i 5, dE bk s.N, dE bk s.N, ⟨rfl, by rw [dE_len]; exact Nat.le_of_lt (Nat.lt_of_lt_of_le sm.2.2 (by decide)), rfl⟩, ?_, dc_copy bk_inj bk_T (fun x v => ⟨_, rfl, rfl, ?_, ?_⟩) s.N [] nd2, ?_⟩
  · simp [evP, evE, h', ne, fldOf, getS, Ct.cv]
  · simp [evE, wipeR]
  · simp [evE, wipeR]
  simp [sf_5]
  refine kq ?_
  simp
  exact hK _ (by simp) fun k q1 q2 => by simp [q1, f2 k q1 q2]
end

end L_k10_sheet

set_option maxHeartbeats 400000
namespace L_k10_sheet
open PySem L2 Vb
abbrev TK := Str × Str × Bool
def tk (q : TK) : D := if q.2.2 = true then .seq true [.str q.1, .str q.2.1, .int 1] else .seq true [.str q.1, .str q.2.1]
theorem tk_inj : ∀ a b, tk a = tk b → a = b := fun ⟨a, b, c⟩ ⟨d, e, f⟩ h => by
  cases c <;> cases f <;> simp [tk] at h ⊢ <;> exact h
theorem tk_T : ∀ a, (tk a).keyT = true := fun ⟨a, b, c⟩ => by cases c <;> rfl
@[simp] theorem tkO {l : List (TK × Int)} {a t : Str} : keysOk (dE tk l) (.seq true [.str a, .str t]) = true := dE_T tk_T (k := (a, t, false))
@[simp] theorem tkO1 {l : List (TK × Int)} {a t : Str} : keysOk (dE tk l) (.seq true [.str a, .str t, .int 1]) = true := dE_T tk_T (k := (a, t, true))
@[simp] theorem tkG {l : List (TK × Int)} {a t : Str} : (dGet (dE tk l) (.seq true [.str a, .str t])).getD (.int 0) = .int (look l (a, t, false)) := dE_get tk_inj (k := (a, t, false))
@[simp] theorem tkG1 {l : List (TK × Int)} {a t : Str} : (dGet (dE tk l) (.seq true [.str a, .str t, .int 1])).getD (.int 0) = .int (look l (a, t, true)) := dE_get tk_inj (k := (a, t, true))
@[simp] theorem tkP {l : List (TK × Int)} {a t : Str} {v : Int} : dPut (dE tk l) (.seq true [.str a, .str t]) (.int v) = dE tk (put l (a, t, false) v) := dE_put tk_inj (k := (a, t, false))
@[simp] theorem tkP1 {l : List (TK × Int)} {a t : Str} {v : Int} : dPut (dE tk l) (.seq true [.str a, .str t, .int 1]) (.int v) = dE tk (put l (a, t, true) v) := dE_put tk_inj (k := (a, t, true))
/-- what the table allows, and leaves -/
def okT (T : List (TK × Int)) (kd : Nat) (a b : Str) (k : Tk) (n : Int) : Bool := match kd with
  | 0 => decide (n ≤ look T (a, k.nm, false))
  | 1 => decide (n * k.sc ≤ look T (a, k.nm, false))
  | 2 => decide (n * k.sc ≤ look T ("", k.nm, false))
  | 3 => true
  | 4 => decide (n ≤ look T (a, k.nm, false))
  | 5 => decide (n ≤ look T (a, k.nm, false))
  | _ => decide (n ≤ look T (a, k.nm, true))
def ad (T : List (TK × Int)) (q : TK) (n : Int) : List (TK × Int) := put T q (look T q + n)
def nxT (T : List (TK × Int)) (kd : Nat) (a b : Str) (k : Tk) (n : Int) : List (TK × Int) := match kd with
  | 0 => ad (ad T (a, k.nm, false) (-n)) (b, k.nm, false) n
  | 1 => ad (ad T (a, k.nm, false) (-(n * k.sc))) ("", k.nm, false) (n * k.sc)
  | 2 => ad (ad T ("", k.nm, false) (-(n * k.sc))) (a, k.nm, false) (n * k.sc)
  | 3 => ad T (a, k.nm, false) n
  | 4 => ad T (a, k.nm, false) (-n)
  | 5 => ad (ad T (a, k.nm, false) (-n)) (a, k.nm, true) n
  | _ => ad (ad T (a, k.nm, false) n) (a, k.nm, true) (-n)
theorem ad_len {T : List (TK × Int)} {q : TK} {n : Int} : (ad T q n).length ≤ T.length + 1 := put_len
theorem nxT_len {T : List (TK × Int)} {kd : Nat} {a b : Str} {k : Tk} {n : Int} : (nxT T kd a b k n).length ≤ T.length + 2 := by
  unfold nxT
  split <;> first | exact Nat.le_trans ad_len (Nat.succ_le_succ ad_len) | exact Nat.le_succ_of_le ad_len
section
variable {C : Call} {i cf tb nb : Vb.Id} {sd : Str} {s : Sh} {g : G} {a b : Str} {n : Int} {T : List (TK × Int)} {k : Tk} {kd : Nat} {ts : List Tk} {gd : D} {dp wd dl bn : Int}
theorem q7' {P : Nat → Prop} (h : kd < 7) (h0 : P 0) (h1 : P 1) (h2 : P 2) (h3 : P 3) (h4 : P 4) (h5 : P 5) (h6 : P 6) : P kd := q7 h0 h1 h2 h3 h4 h5 h6 kd h
theorem due_ok (h : g tb = some (.ct (.dct (dE tk T)))) (ln : T.length < 900000) (hk : kd < 7) (sc : 0 ≤ k.sc ∧ k.sc < 2 ^ 64) {K : Kd} {X : Kx} (hB : okT T kd a b k n = false → K (.bl true) g)
    (hK : okT T kd a b k n = true → ∀ g', g' tb = some (.ct (.dct (dE tk (nxT T kd a b k n)))) → (∀ j, j ≠ tb → g' j = g j) → K .non g') :
    C1 prg C 38 [.ref tb, .int kd, .str a, .str b, tkD k, .int n] g K X := by
  have a0 : L2.atI [D.str k.nm, .str k.hm, .int k.sc, .int k.lm, .int k.lg] 0 = some (.str k.nm) := by simp [L2.atI, L2.ixN]
  have a2 : L2.atI [D.str k.nm, .str k.hm, .int k.sc, .int k.lm, .int k.lg] 2 = some (.int k.sc) := by simp [L2.atI, L2.ixN]
  refine c1 rfl rfl ?_
  show wSs prg C b38 [some (.val (.ref tb)), some (.val (.int kd)), some (.val (.str a)), some (.val (.str b)), some (.val (tkD k)), some (.val (.int n)), none] g (Kr K X)
  unfold b38
  simp [tkD, a2]
  refine ⟨.inr ⟨by omega, sc.2⟩, kq ?_⟩
  revert hB hK
  refine q7' (P := fun kd => (okT T kd a b k n = false → K (.bl true) g) → (okT T kd a b k n = true → ∀ g', g' tb = some (.ct (.dct (dE tk (nxT T kd a b k n)))) → (∀ j, j ≠ tb → g' j = g j) → K .non g') → wSs prg C _ [some (.val (.ref tb)), some (.val (.int kd)), some (.val (.str a)), some (.val (.str b)), some (.val (.seq true [.str k.nm, .str k.hm, .int k.sc, .int k.lm, .int k.lg])), some (.val (.int n)), some (.val (.int (n * k.sc)))] g (Kr K X)) hk ?_ ?_ ?_ ?_ ?_ ?_ ?_
  · intro hB hK
    by_cases e : n ≤ look T (a, k.nm, false)
    · simp [h, a0, e]
      refine ⟨by omega, kq ?_⟩
      simp [a0]
      refine ⟨by have := put_len (l := T) (k := (a, k.nm, false)) (v := look T (a, k.nm, false) - n); omega, kq ?_⟩
      refine kq ?_
      simp
      exact hK (by simp [okT, e]) _ (by simp [nxT, ad, Int.sub_eq_add_neg]) fun j hj => by simp [hj]
    · simp [h, a0, e]
      exact hB (by simp [okT, e])
  · intro hB hK
    by_cases e : n * k.sc ≤ look T (a, k.nm, false)
    · simp [h, a0, e]
      refine ⟨by omega, kq ?_⟩
      simp [a0]
      refine ⟨by have := put_len (l := T) (k := (a, k.nm, false)) (v := look T (a, k.nm, false) - n * k.sc); omega, kq ?_⟩
      refine kq ?_
      simp
      exact hK (by simp [okT, e]) _ (by simp [nxT, ad, Int.sub_eq_add_neg]) fun j hj => by simp [hj]
    · simp [h, a0, e]
      exact hB (by simp [okT, e])
  · intro hB hK
    by_cases e : n * k.sc ≤ look T ("", k.nm, false)
    · simp [h, a0, e]
      refine ⟨by omega, kq ?_⟩
      simp [a0]
      refine ⟨by have := put_len (l := T) (k := ((Str.ofString "", k.nm, false) : TK)) (v := look T ("", k.nm, false) - n * k.sc); omega, kq ?_⟩
      refine kq ?_
      simp
      exact hK (by simp [okT, e]) _ (by simp [nxT, ad, Int.sub_eq_add_neg]) fun j hj => by simp [hj]
    · simp [h, a0, e]
      exact hB (by simp [okT, e])
  · intro hB hK
    simp [h, a0]
    refine ⟨by omega, kq ?_⟩
    refine kq ?_
    simp
    exact hK (by simp [okT]) _ (by simp [nxT, ad]) fun j hj => by simp [hj]
  · intro hB hK
    by_cases e : n ≤ look T (a, k.nm, false)
    · simp [h, a0, e]
      refine ⟨by omega, kq ?_⟩
      refine kq ?_
      simp
      exact hK (by simp [okT, e]) _ (by simp [nxT, ad, Int.sub_eq_add_neg]) fun j hj => by simp [hj]
    · simp [h, a0, e]
      exact hB (by simp [okT, e])
  · intro hB hK
    by_cases e : n ≤ look T (a, k.nm, false)
    · simp [h, a0, e]
      refine ⟨by omega, kq ?_⟩
      simp [a0]
      refine ⟨by have := put_len (l := T) (k := (a, k.nm, false)) (v := look T (a, k.nm, false) - n); omega, kq ?_⟩
      refine kq ?_
      simp
      exact hK (by simp [okT, e]) _ (by simp [nxT, ad, Int.sub_eq_add_neg]) fun j hj => by simp [hj]
    · simp [h, a0, e]
      exact hB (by simp [okT, e])
  · intro hB hK
    by_cases e : n ≤ look T (a, k.nm, true)
    · simp [h, a0, e]
      refine ⟨by omega, kq ?_⟩
      simp [a0]
      refine ⟨by have := put_len (l := T) (k := (a, k.nm, false)) (v := look T (a, k.nm, false) + n); omega, kq ?_⟩
      refine kq ?_
      simp
      exact hK (by simp [okT, e]) _ (by simp [nxT, ad, Int.sub_eq_add_neg]) fun j hj => by simp [hj]
    · simp [h, a0, e]
      exact hB (by simp [okT, e])
end
end L_k10_sheet

set_option maxHeartbeats 400000
namespace L_k10_sheet
open PySem L2 Vb
def okS (s : Sh) (kd : Nat) (a b : Str) (k : Tk) (n : Int) : Bool := match kd with
  | 0 => decide (n ≤ look s.B (a, k.nm))
  | 1 => decide (n * k.sc ≤ look s.B (a, k.nm))
  | 2 => decide (n * k.sc ≤ look s.V k.nm)
  | 3 => true
  | 4 => decide (n ≤ look s.B (a, k.nm))
  | 5 => decide (n ≤ look s.B (a, k.nm))
  | _ => decide (n ≤ look s.N (a, k.nm))
def nxS (s : Sh) (kd : Nat) (a b : Str) (k : Tk) (n : Int) : Sh := match kd with
  | 0 => (s.gv a k.nm (-n)).gv b k.nm n
  | 1 => (s.gv a k.nm (-(n * k.sc))).vl k.nm (look s.V k.nm + n * k.sc)
  | 2 => (s.vl k.nm (look s.V k.nm - n * k.sc)).gv a k.nm (n * k.sc)
  | 3 => s.gv a k.nm n
  | 4 => s.gv a k.nm (-n)
  | 5 => (s.gv a k.nm (-n)).bn a k.nm (look s.N (a, k.nm) + n)
  | _ => (s.bn a k.nm (look s.N (a, k.nm) - n)).gv a k.nm n
theorem mmv : prg.mth 4 21 = some 6 := by decide
theorem mlk : prg.mth 4 22 = some 7 := by decide
theorem mrl : prg.mth 4 23 = some 8 := by decide
theorem mmt : prg.mth 4 24 = some 9 := by decide
theorem mbd : prg.mth 4 25 = some 12 := by decide
theorem mub : prg.mth 4 26 = some 13 := by decide
theorem mbn : prg.mth 4 27 = some 10 := by decide
theorem c30 : prg.catches 3 0 = true := by decide
theorem c33 : prg.catches 3 3 = true := by decide
theorem z3 : prg.isExc 3 = true := by decide
section
variable {C : Call} {i cf tb nb : Vb.Id} {sd : Str} {s : Sh} {g : G} {a b : Str} {n : Int} {k : Tk} {kd : Nat} {ts : List Tk} {gd : D} {dp wd dl bn : Int}
theorem do_ok (h : g i = some (shO cf sd s)) (sm : s.sml) (hc : g cf = some (cfO ts nb gd dp wd dl bn)) (nd : (ts.map (·.nm)).Nodup) (hm : k ∈ ts) (hk : kd < 7) (sc : 0 ≤ k.sc ∧ k.sc < 2 ^ 64) {K : Kd} {X : Kx} (hB : okS s kd a b k n = false → K (.bl true) g)
    (hK : okS s kd a b k n = true → ShK i cf sd (nxS s kd a b k n) g K) :
    C1 prg (C1 prg (C1 prg (C1 prg (C1 prg C)))) 37 [.ref i, .int kd, .str a, .str b, .str k.nm, .int n] g K X := by
  refine c1 rfl rfl ?_
  show wSs prg (C1 prg (C1 prg (C1 prg (C1 prg C)))) b37 [some (.val (.ref i)), some (.val (.int kd)), some (.val (.str a)), some (.val (.str b)), some (.val (.str k.nm)), some (.val (.int n)), none] g (Kr K X)
  revert hB hK
  refine q7' (P := fun kd => (okS s kd a b k n = false → K (.bl true) g) → (okS s kd a b k n = true → ShK i cf sd (nxS s kd a b k n) g K) → wSs prg (C1 prg (C1 prg (C1 prg (C1 prg C)))) b37 [some (.val (.ref i)), some (.val (.int kd)), some (.val (.str a)), some (.val (.str b)), some (.val (.str k.nm)), some (.val (.int n)), none] g (Kr K X)) hk ?_ ?_ ?_ ?_ ?_ ?_ ?_ <;> intro hB hK <;> unfold b37
  · simp [h, mmv]
    refine mov_ok h sm (fun e => ?_) fun e g' h1 h2 => ?_
    · simp [Kh, z3, c30, c33, inX, outX, noX]
      exact hB (by simp [okS]; omega)
    · exact hK (by simp [okS, e]) g' h1 h2
  · simp
    refine kq ?_
    simp [h, mlk]
    refine lck_ok h sm hc nd hm sc (fun e => ?_) fun e g' h1 h2 => ?_
    · simp [Kh, z3, c30, c33, inX, outX, noX]
      exact hB (by simp [okS]; omega)
    · exact hK (by simp [okS, e]) g' h1 h2
  · simp
    refine kq ?_
    simp
    refine kq ?_
    simp [h, mrl]
    refine rel_ok h sm hc nd hm sc (fun e => ?_) fun e g' h1 h2 => ?_
    · simp [Kh, z3, c30, c33, inX, outX, noX]
      exact hB (by simp [okS]; omega)
    · exact hK (by simp [okS, e]) g' h1 h2
  · simp
    refine kq ?_
    simp
    refine kq ?_
    simp
    refine kq ?_
    simp [h, mmt]
    refine mnt_ok (C := C1 prg C) h (sml_s sm) fun g' h1 h2 => ?_
    exact hK (by simp [okS]) g' h1 h2
  · simp
    refine kq ?_
    simp
    refine kq ?_
    simp
    refine kq ?_
    simp
    refine kq ?_
    simp
    refine kq ?_
    simp
    refine kq ?_
    simp [h, mbn]
    refine brn_ok h (sml_s sm) (fun e => ?_) fun e g' h1 h2 => ?_
    · simp [Kh, z3, c30, c33, inX, outX, noX]
      exact hB (by simp [okS]; omega)
    · exact hK (by simp [okS, e]) g' h1 h2
  · simp
    refine kq ?_
    simp
    refine kq ?_
    simp
    refine kq ?_
    simp
    refine kq ?_
    simp [h, mbd]
    refine bnd_ok h sm (fun e => ?_) fun e g' h1 h2 => ?_
    · simp [Kh, z3, c30, c33, inX, outX, noX]
      exact hB (by simp [okS]; omega)
    · exact hK (by simp [okS, e]) g' h1 h2
  · simp
    refine kq ?_
    simp
    refine kq ?_
    simp
    refine kq ?_
    simp
    refine kq ?_
    simp
    refine kq ?_
    simp [h, mub]
    refine unb_ok h sm (fun e => ?_) fun e g' h1 h2 => ?_
    · simp [Kh, z3, c30, c33, inX, outX, noX]
      exact hB (by simp [okS]; omega)
    · exact hK (by simp [okS, e]) g' h1 h2
end
end L_k10_sheet

set_option maxHeartbeats 400000
namespace L_k10_sheet
open PySem L2 Vb
theorem ad_look {T : List (TK × Int)} {q p : TK} {n : Int} : look (ad T q n) p = look T p + if q = p then n else 0 := by
  unfold ad
  rw [look_put]
  by_cases e : q = p
  · rw [if_pos e, if_pos e, e]
  · rw [if_neg e, if_neg e, Int.add_zero]
theorem gv_B {s : Sh} {a t : Str} {n : Int} {p : Str × Str} : look (s.gv a t n).B p = look s.B p + if (a, t) = p then n else 0 := by
  show look (put s.B (a, t) (look s.B (a, t) + n)) p = _
  rw [look_put]
  by_cases e : (a, t) = p
  · rw [if_pos e, if_pos e, e]
  · rw [if_neg e, if_neg e, Int.add_zero]
theorem gv_V {s : Sh} {a t : Str} {n : Int} : (s.gv a t n).V = s.V := rfl
theorem gv_N {s : Sh} {a t : Str} {n : Int} : (s.gv a t n).N = s.N := rfl
theorem vl_B {s : Sh} {t : Str} {n : Int} : (s.vl t n).B = s.B := rfl
theorem vl_N {s : Sh} {t : Str} {n : Int} : (s.vl t n).N = s.N := rfl
theorem bn_B {s : Sh} {a t : Str} {n : Int} : (s.bn a t n).B = s.B := rfl
theorem bn_V {s : Sh} {a t : Str} {n : Int} : (s.bn a t n).V = s.V := rfl
theorem vl_V {s : Sh} {t p : Str} {n : Int} : look (s.vl t (look s.V t + n)).V p = look s.V p + if t = p then n else 0 := by
  show look (put s.V t (look s.V t + n)) p = _
  rw [look_put]
  by_cases e : t = p
  · rw [if_pos e, if_pos e, e]
  · rw [if_neg e, if_neg e, Int.add_zero]
theorem bn_N {s : Sh} {a t : Str} {n : Int} {p : Str × Str} : look (s.bn a t (look s.N (a, t) + n)).N p = look s.N p + if (a, t) = p then n else 0 := by
  show look (put s.N (a, t) (look s.N (a, t) + n)) p = _
  rw [look_put]
  by_cases e : (a, t) = p
  · rw [if_pos e, if_pos e, e]
  · rw [if_neg e, if_neg e, Int.add_zero]
/-- sheet and table agree -/
structure Rel (s : Sh) (T : List (TK × Int)) : Prop where
  b : ∀ a t, a ≠ Str.ofString "" → look s.B (a, t) = look T (a, t, false)
  v : ∀ t, look s.V t = look T (Str.ofString "", t, false)
  n : ∀ a t, look s.N (a, t) = look T (a, t, true)
section
variable {s : Sh} {T : List (TK × Int)} {a b t : Str} {n : Int} {k : Tk} {kd : Nat}
theorem rel_gv (R : Rel s T) (ha : a ≠ Str.ofString "") : Rel (s.gv a t n) (ad T (a, t, false) n) := by
  refine ⟨fun c u hc => ?_, fun u => ?_, fun c u => ?_⟩
  · rw [gv_B, ad_look, R.b c u hc]
    by_cases e : (a, t) = (c, u)
    · obtain ⟨rfl, rfl⟩ := Prod.mk.inj e
      rw [if_pos rfl, if_pos rfl]
    · rw [if_neg e, if_neg fun z => e (by obtain ⟨h1, h2⟩ := Prod.mk.inj z; rw [h1, (Prod.mk.inj h2).1])]
  · rw [gv_V, ad_look, R.v u, if_neg fun z => ha (Prod.mk.inj z).1, Int.add_zero]
  · rw [gv_N, ad_look, R.n c u, if_neg fun z => (by have := (Prod.mk.inj (Prod.mk.inj z).2).2; cases this), Int.add_zero]
theorem rel_vl (R : Rel s T) : Rel (s.vl t (look s.V t + n)) (ad T (Str.ofString "", t, false) n) := by
  refine ⟨fun c u hc => ?_, fun u => ?_, fun c u => ?_⟩
  · rw [vl_B, ad_look, R.b c u hc, if_neg fun z => hc (Prod.mk.inj z).1.symm, Int.add_zero]
  · rw [vl_V, ad_look, R.v u]
    by_cases e : t = u
    · rw [if_pos e, if_pos (by rw [e])]
    · rw [if_neg e, if_neg fun z => e (Prod.mk.inj (Prod.mk.inj z).2).1]
  · rw [vl_N, ad_look, R.n c u, if_neg fun z => (by have := (Prod.mk.inj (Prod.mk.inj z).2).2; cases this), Int.add_zero]
theorem rel_bn (R : Rel s T) : Rel (s.bn a t (look s.N (a, t) + n)) (ad T (a, t, true) n) := by
  refine ⟨fun c u hc => ?_, fun u => ?_, fun c u => ?_⟩
  · rw [bn_B, ad_look, R.b c u hc, if_neg fun z => (by have := (Prod.mk.inj (Prod.mk.inj z).2).2; cases this), Int.add_zero]
  · rw [bn_V, ad_look, R.v u, if_neg fun z => (by have := (Prod.mk.inj (Prod.mk.inj z).2).2; cases this), Int.add_zero]
  · rw [bn_N, ad_look, R.n c u]
    by_cases e : (a, t) = (c, u)
    · obtain ⟨rfl, rfl⟩ := Prod.mk.inj e
      rw [if_pos rfl, if_pos rfl]
    · rw [if_neg e, if_neg fun z => e (by obtain ⟨h1, h2⟩ := Prod.mk.inj z; rw [h1, (Prod.mk.inj h2).1])]
theorem ok_eq (R : Rel s T) (ha : a ≠ Str.ofString "") (hk : kd < 7) : okS s kd a b k n = okT T kd a b k n := by
  have r1 := R.b a k.nm ha
  have r2 := R.v k.nm
  have r3 := R.n a k.nm
  refine q7' (P := fun kd => okS s kd a b k n = okT T kd a b k n) hk ?_ ?_ ?_ ?_ ?_ ?_ ?_
  · show decide (n ≤ look s.B (a, k.nm)) = decide (n ≤ look T (a, k.nm, false))
    rw [r1]
  · show decide (n * k.sc ≤ look s.B (a, k.nm)) = decide (n * k.sc ≤ look T (a, k.nm, false))
    rw [r1]
  · show decide (n * k.sc ≤ look s.V k.nm) = decide (n * k.sc ≤ look T (Str.ofString "", k.nm, false))
    rw [r2]
  · rfl
  · show decide (n ≤ look s.B (a, k.nm)) = decide (n ≤ look T (a, k.nm, false))
    rw [r1]
  · show decide (n ≤ look s.B (a, k.nm)) = decide (n ≤ look T (a, k.nm, false))
    rw [r1]
  · show decide (n ≤ look s.N (a, k.nm)) = decide (n ≤ look T (a, k.nm, true))
    rw [r3]
theorem nx_rel (R : Rel s T) (ha : a ≠ Str.ofString "") (hb : b ≠ Str.ofString "") (hk : kd < 7) : Rel (nxS s kd a b k n) (nxT T kd a b k n) := by
  refine q7' (P := fun kd => Rel (nxS s kd a b k n) (nxT T kd a b k n)) hk ?_ ?_ ?_ ?_ ?_ ?_ ?_
  · exact rel_gv (rel_gv R ha) hb
  · exact rel_vl (rel_gv R ha)
  · exact rel_gv (rel_vl (n := -(n * k.sc)) R) ha
  · exact rel_gv R ha
  · exact rel_gv R ha
  · exact rel_bn (rel_gv R ha)
  · exact rel_bn (n := -n) (rel_gv R ha)
/-- a sheet whose places are those of some names -/
structure SI (ns : List Str) (L : Nat) (s : Sh) : Prop where
  nd : s.nd
  ab : ∀ p ∈ s.B, p.1.1 ∈ ns
  an : ∀ p ∈ s.N, p.1.1 ∈ ns
  lb : s.B.length ≤ L
  lv : s.V.length ≤ L
  ln : s.N.length ≤ L
variable {ns : List Str} {L : Nat}
theorem si_up (I : SI ns L s) {M : Nat} (h : L ≤ M) : SI ns M s := ⟨I.nd, I.ab, I.an, Nat.le_trans I.lb h, Nat.le_trans I.lv h, Nat.le_trans I.ln h⟩
theorem si_gv (I : SI ns L s) (ha : a ∈ ns) : SI ns (L + 1) (s.gv a t n) :=
  ⟨⟨put_nd I.nd.1, I.nd.2⟩, put_all2 (P := fun q : Str × Str => q.1 ∈ ns) I.ab ha, I.an, Nat.le_trans put_len (Nat.succ_le_succ I.lb), Nat.le_succ_of_le I.lv, Nat.le_succ_of_le I.ln⟩
theorem si_vl (I : SI ns L s) : SI ns (L + 1) (s.vl t n) :=
  ⟨I.nd, I.ab, I.an, Nat.le_succ_of_le I.lb, Nat.le_trans put_len (Nat.succ_le_succ I.lv), Nat.le_succ_of_le I.ln⟩
theorem si_bn (I : SI ns L s) (ha : a ∈ ns) : SI ns (L + 1) (s.bn a t n) :=
  ⟨⟨I.nd.1, put_nd I.nd.2⟩, I.ab, put_all2 (P := fun q : Str × Str => q.1 ∈ ns) I.an ha, Nat.le_succ_of_le I.lb, Nat.le_succ_of_le I.lv, Nat.le_trans put_len (Nat.succ_le_succ I.ln)⟩
theorem si_nx (I : SI ns L s) (ha : a ∈ ns) (hb : b ∈ ns) : SI ns (L + 2) (nxS s kd a b k n) := by
  unfold nxS
  split
  · exact si_gv (si_gv I ha) hb
  · exact si_vl (si_gv I ha)
  · exact si_gv (si_vl I) ha
  · exact si_up (si_gv I ha) (Nat.le_succ _)
  · exact si_up (si_gv I ha) (Nat.le_succ _)
  · exact si_bn (si_gv I ha) ha
  · exact si_gv (si_bn I ha) ha
theorem si_opf (l : List Rw) (h : ∀ w ∈ l, w.ac ∈ ns) : SI ns l.length (opf l) := by
  have : ∀ (l : List Rw) (s : Sh) (L : Nat), SI ns L s → (∀ w ∈ l, w.ac ∈ ns) → SI ns (L + l.length) (l.foldl (fun s w => s.gv w.ac w.tk w.am) s) := by
    intro l
    induction l with
    | nil => exact fun s L I _ => I
    | cons w l ih =>
      intro s L I h
      have := ih (s.gv w.ac w.tk w.am) (L + 1) (si_gv I (h w List.mem_cons_self)) fun x hx => h x (List.mem_cons_of_mem _ hx)
      rw [List.foldl_cons, List.length_cons, show L + (l.length + 1) = L + 1 + l.length by omega]
      exact this
  have := this l ⟨[], [], []⟩ 0 ⟨⟨List.nodup_nil, List.nodup_nil⟩, fun _ h => (by cases h), fun _ h => (by cases h), Nat.le_refl _, Nat.le_refl _, Nat.le_refl _⟩ h
  rwa [Nat.zero_add] at this
theorem si_circ (I : SI ns L s) (hn : ns.Nodup) : ((s.B.filter fun p => decide (p.1.2 = t)).map (·.2)).sum + ((s.N.filter fun p => decide (p.1.2 = t)).map (·.2)).sum = (ns.map fun a => look s.B (a, t)).sum + (ns.map fun a => look s.N (a, t)).sum := by
  rw [sum_by t s.B ns hn I.nd.1 fun p hp _ => I.ab p hp, sum_by t s.N ns hn I.nd.2 fun p hp _ => I.an p hp]
theorem si_none (I : SI ns L s) (ha : a ∉ ns) : look s.B (a, t) = 0 := by
  refine look_no ?_
  rw [List.any_eq_false]
  intro p hp z
  have z : p.1 = (a, t) := by simpa using z
  exact ha (by have := I.ab p hp; rw [z] at this; exact this)
end
end L_k10_sheet

set_option maxHeartbeats 400000
namespace L_k10_sheet
open PySem L2 Vb
def nm4 (k : Nat) : List Str := acs3 ++ [gS k]
theorem nm4_nd : ∀ q, q < 7 → (nm4 q).Nodup := q7 (by decide +kernel) (by decide +kernel) (by decide +kernel) (by decide +kernel) (by decide +kernel) (by decide +kernel) (by decide +kernel)
theorem nm4_no : ∀ q, q < 7 → Str.ofString "nobody" ∉ nm4 q := q7 (by decide +kernel) (by decide +kernel) (by decide +kernel) (by decide +kernel) (by decide +kernel) (by decide +kernel) (by decide +kernel)
theorem nm4_e : ∀ q, q < 7 → Str.ofString "" ∉ nm4 q := q7 (by decide +kernel) (by decide +kernel) (by decide +kernel) (by decide +kernel) (by decide +kernel) (by decide +kernel) (by decide +kernel)
theorem il4 (x y z w : Int) : D.eqOk (.seq false [.int x, .int y, .int z, .int w]) (.seq false [.int x, .int y, .int z, .int w]) = true ∧ D.eqv (.seq false [.int x, .int y, .int z, .int w]) (.seq false [.int x, .int y, .int z, .int w]) = true := by
  refine ⟨?_, ?_⟩
  · simp [D.eqOk, D.pure, D.pures, D.dep, D.deps]
  · simp [D.eqv, D.eqvs]
theorem mcr : prg.mth 4 28 = some 14 := by decide
section
variable {C : Call} {i cf tb nb pd ti bi : Vb.Id} {sd : Str} {s : Sh} {g : G} {n : Int} {k : Tk} {ts : List Tk} {rows : List Rw} {gd : List D} {dp wd dl bn : Int} {T : List (TK × Int)} {L : Nat}
def bX : Ss := match b39 with
  | .cons (.for_ _ _ b) _ => b
  | _ => .nil
theorem rstep {K : Ks} {q : Nat × Int} {gs : List (Nat × Int)} (hq : q.1 < 7) (hp : g pd = some (.ct (.dct (parts ti bi (.seq true ((q :: gs).map grD)) dp wd dl bn)))) (h : g i = some (shO cf sd s)) (sm : s.small) (hT : g tb = some (.ct (.dct (dE tk T)))) (R : Rel s T) (I : SI (nm4 q.1) L s) {y4 y5 y6 : Option Sl}
    (hK : ∀ y4 y5 y6, K .nx [some (.val (.ref pd)), some (.val (.ref i)), some (.val (.ref tb)), some (.val (tkD k)), y4, y5, y6, none] g) :
    wSs prg (C1 prg (C1 prg C)) bX [some (.val (.ref pd)), some (.val (.ref i)), some (.val (.ref tb)), some (.val (tkD k)), y4, y5, y6, none] g K := by
  have a0 : L2.atI ((q :: gs).map grD) 0 = some (.seq true [.str (gS q.1), .int q.2]) := by
    simp [L2.atI, L2.ixN]
    rfl
  have a1 : L2.atI [D.str (gS q.1), .int q.2] 0 = some (.str (gS q.1)) := by simp [L2.atI, L2.ixN]
  have t0 : L2.atI [D.str k.nm, .str k.hm, .int k.sc, .int k.lm, .int k.lg] 0 = some (.str k.nm) := by simp [L2.atI, L2.ixN]
  unfold bX b39
  dsimp only
  simp only [x_cons, x_set, x_fz, x_lst, x_esc, x_esn, x_con, x_idx, x_v, x_dget, x_var, List.getElem?_cons_succ, List.getElem?_cons_zero, cv_ref, hp, cv_dct, pO, p3, cv_seq, i_seq, a0, a1, true_and]
  refine ⟨by simp, kq ?_⟩
  have e4 : [D.str (Str.ofString "ann"), D.str (Str.ofString "bob"), D.str (Str.ofString "cyd"), D.str (gS q.1)] = (nm4 q.1).map D.str := rfl
  rw [e4]
  simp only [List.set_cons_succ, List.set_cons_zero]
  have l4 : ([] : List D).length + (nm4 q.1).length ≤ lineN := by
    show 0 + 4 ≤ 1000000
    decide
  have ef : ∀ f : Str → D, [] ++ ((nm4 q.1).filter fun _ => true).map f = (nm4 q.1).map f := fun f => by
    rw [List.nil_append, List.filter_eq_self.mpr fun _ _ => rfl]
  have ea' : ((nm4 q.1).map fun a => look s.B (a, k.nm)) = (nm4 q.1).map fun a => look T (a, k.nm, false) := List.map_congr_left fun a ha => R.b a k.nm fun z => nm4_e q.1 hq (z ▸ ha)
  have eb' : ((nm4 q.1).map fun a => look s.N (a, k.nm)) = (nm4 q.1).map fun a => look T (a, k.nm, true) := List.map_congr_left fun a ha => R.n a k.nm
  have ea : ((nm4 q.1).map fun a => D.int (look s.B (a, k.nm))) = (nm4 q.1).map fun a => D.int (look T (a, k.nm, false)) := List.map_congr_left fun a ha => by rw [R.b a k.nm fun z => nm4_e q.1 hq (z ▸ ha)]
  have eb : ((nm4 q.1).map fun a => D.int (look s.N (a, k.nm))) = (nm4 q.1).map fun a => D.int (look T (a, k.nm, true)) := List.map_congr_left fun a ha => by rw [R.n a k.nm]
  have eo : ∀ f : Str → Int, D.eqOk (.seq false ((nm4 q.1).map fun a => D.int (f a))) (.seq false ((nm4 q.1).map fun a => D.int (f a))) = true ∧ D.eqv (.seq false ((nm4 q.1).map fun a => D.int (f a))) (.seq false ((nm4 q.1).map fun a => D.int (f a))) = true := fun f => il4 _ _ _ _
  -- the table's bonds
  rw [x_cons, x_set, x_fz, x_comp]
  refine ⟨rfl, ?_⟩
  simp only [x_ipl, x_v, x_var, List.getElem?_cons_succ, List.getElem?_cons_zero, cv_seq, sr_seq, ws_no]
  refine ⟨rfl, ?_⟩
  refine comp_flt (c := D.str) (p := fun _ => true) (f := fun a => .int (look T (a, k.nm, true))) (by split <;> exact True.intro) (nm4 q.1) [] (fun a _ => ⟨_, rfl, fun Kb hk => hk, fun Kd hk => ?_⟩) l4 ?_
  · simp [wipeR, hT, tkD, t0]
    exact hk
  rw [ef]
  refine kq ?_
  simp only [List.set_cons_succ, List.set_cons_zero]
  -- the sheet's bonds
  simp only [x_cons, x_ifs, x_b, x_cmp, x_fz]
  rw [x_comp]
  refine ⟨rfl, ?_⟩
  simp only [x_ipl, x_v, x_var, List.getElem?_cons_succ, List.getElem?_cons_zero, cv_seq, sr_seq, ws_no]
  refine ⟨rfl, ?_⟩
  refine comp_flt (c := D.str) (p := fun _ => true) (f := fun a => .int (look s.N (a, k.nm))) (by split <;> exact True.intro) (nm4 q.1) [] (fun a _ => ⟨_, rfl, fun Kb hk => hk, fun Kd hk => ?_⟩) l4 ?_
  · simp [wipeR, h, tkD, t0, sm_bdd]
    exact bdd_ok (C := C1 prg C) h hk
  rw [ef, eb]
  obtain ⟨z1, z2⟩ := eo fun a => look T (a, k.nm, true)
  simp [z1, z2]
  refine kq ?_
  -- the table's amounts
  rw [x_cons, x_set, x_fz, x_comp]
  refine ⟨rfl, ?_⟩
  simp only [x_ipl, x_v, x_var, List.getElem?_cons_succ, List.getElem?_cons_zero, cv_seq, sr_seq, ws_no]
  refine ⟨rfl, ?_⟩
  refine comp_flt (c := D.str) (p := fun _ => true) (f := fun a => .int (look T (a, k.nm, false))) (by split <;> exact True.intro) (nm4 q.1) [] (fun a _ => ⟨_, rfl, fun Kb hk => hk, fun Kd hk => ?_⟩) l4 ?_
  · simp [wipeR, hT, tkD, t0]
    exact hk
  rw [ef]
  refine kq ?_
  simp only [List.set_cons_succ, List.set_cons_zero]
  simp only [x_cons, x_ifs, x_b, x_cmp, x_fz]
  rw [x_comp]
  refine ⟨rfl, ?_⟩
  simp only [x_ipl, x_v, x_var, List.getElem?_cons_succ, List.getElem?_cons_zero, cv_seq, sr_seq, ws_no]
  refine ⟨rfl, ?_⟩
  refine comp_flt (c := D.str) (p := fun _ => true) (f := fun a => .int (look s.B (a, k.nm))) (by split <;> exact True.intro) (nm4 q.1) [] (fun a _ => ⟨_, rfl, fun Kb hk => hk, fun Kd hk => ?_⟩) l4 ?_
  · simp [wipeR, h, tkD, t0, sm_bal]
    exact bal_ok (C := C1 prg C) h hk
  rw [ef, ea]
  obtain ⟨z3, z4⟩ := eo fun a => look T (a, k.nm, false)
  simp [z3, z4]
  refine kq ?_
  -- circulating, vault
  have s1 : ints? ((nm4 q.1).map fun a => D.int (look T (a, k.nm, false))) = some ((nm4 q.1).map fun a => look T (a, k.nm, false)) := ints_ok _ _
  have s2 : ints? ((nm4 q.1).map fun a => D.int (look T (a, k.nm, true))) = some ((nm4 q.1).map fun a => look T (a, k.nm, true)) := ints_ok _ _
  simp [h, tkD, t0, mcr]
  refine circ_ok (C := C1 prg C) h sm ?_
  rw [si_circ I (nm4_nd q.1 hq), eb', ea']
  simp [s1, s2]
  refine same_i (C := C) ?_
  simp
  refine kq ?_
  simp [h, tkD, t0, sm_vlt, hT]
  refine vlt_ok (C := C1 prg C) h ?_
  rw [R.v k.nm]
  simp [hT, t0]
  refine same_i (C := C) ?_
  simp
  refine kq ?_
  rw [x_nil]
  exact hK _ _ _
end
end L_k10_sheet

set_option maxHeartbeats 400000
namespace L_k10_sheet
open PySem L2 Vb
def q40_0 : S := (.set 1 (.call 30 (.cons (.var 0) .nil)))
def q40_1 : S := (.set 2 (.call 35 (.cons (.var 1) .nil)))
def q40_2 : S := (.set 3 (.idxf (.v (.fz (.lst (.cons (.con (.str "west")) (.cons (.con (.str "east")) .nil))))) (.call 31 (.cons (.var 1) (.cons (.con (.int 2)) .nil)))))
def q40_3 : S := (.set 4 (.new 4 (.cons (.call 36 (.cons (.var 2) .nil)) (.cons (.var 3) .nil))))
def q40_4 : S := (.set 5 (.al .dnew))
def q40_5 : S := (.for_ (.slot 6) (.pl (.v (.dget (.v (.var 2)) (.con (.str "balances"))))) (.cons (.ifs (.cmp .eq (.fz (.comp [10] (.slot 10) (.pl (.v (.dget (.v (.var 2)) (.con (.str "tokens"))))) (.so (.cmp .eq (.idx (.v (.var 10)) (.con (.int 0))) (.idx (.v (.var 6)) (.con (.int 1))))) (.idx (.v (.var 10)) (.con (.int 1))))) (.fz (.lst (.cons (.var 3) .nil)))) (.cons (.dput (.v (.var 5)) (.tup (.cons (.idx (.v (.var 6)) (.con (.int 0))) (.cons (.idx (.v (.var 6)) (.con (.int 1))) .nil))) (.bin .add (.dgt2 (.v (.var 5)) (.tup (.cons (.idx (.v (.var 6)) (.con (.int 0))) (.cons (.idx (.v (.var 6)) (.con (.int 1))) .nil))) (.con (.int 0))) (.idx (.v (.var 6)) (.con (.int 2))))) .nil) .nil) .nil))
def q40_6 : S := (.set 7 (.al (.lst (.cons (.var 4) (.cons (.al .dnew) .nil)))))
def q40_7 : S := (.ford (.slot 8) .keys (.v (.var 5)) (.cons (.dput (.v (.idx (.v (.var 7)) (.con (.int 1)))) (.var 8) (.dget (.v (.var 5)) (.var 8))) .nil))
def q40_8 : S := (.seti (.v (.var 7)) (.con (.int 0)) (.meth 29 (.var 4) .nil))
def q40_9 : S := (.for_ (.slot 9) (.rng1 (.bin .add (.con (.int 3)) (.bi .min2 (.cons (.bin .fdiv (.len (.v (.var 0))) (.con (.int 2))) (.cons (.con (.int 27)) .nil))))) (.cons (.set 10 (.idxf (.v (.dget (.v (.var 2)) (.con (.str "tokens")))) (.call 31 (.cons (.var 1) (.cons (.len (.v (.dget (.v (.var 2)) (.con (.str "tokens"))))) .nil))))) (.cons (.set 11 (.idxf (.v (.fz (.lst (.cons (.con (.int 0)) (.cons (.con (.int 1)) (.cons (.con (.int 2)) (.cons (.con (.int 5)) (.cons (.con (.int 6)) .nil)))))))) (.call 31 (.cons (.var 1) (.cons (.con (.int 5)) .nil))))) (.cons (.ifs (.cmp .ne (.idx (.v (.var 10)) (.con (.int 1))) (.var 3)) (.cons (.set 11 (.idxf (.v (.fz (.lst (.cons (.con (.int 0)) (.cons (.con (.int 3)) (.cons (.con (.int 4)) (.cons (.con (.int 5)) (.cons (.con (.int 6)) .nil)))))))) (.call 31 (.cons (.var 1) (.cons (.con (.int 5)) .nil))))) .nil) .nil) (.cons (.set 12 (.idxf (.v (.fz (.lst (.cons (.con (.str "ann")) (.cons (.con (.str "bob")) (.cons (.con (.str "cyd")) .nil)))))) (.call 31 (.cons (.var 1) (.cons (.con (.int 3)) .nil))))) (.cons (.set 13 (.idxf (.v (.fz (.lst (.cons (.con (.str "ann")) (.cons (.con (.str "bob")) (.cons (.con (.str "cyd")) .nil)))))) (.call 31 (.cons (.var 1) (.cons (.con (.int 3)) .nil))))) (.cons (.set 14 (.dgt2 (.v (.var 5)) (.tup (.cons (.var 12) (.cons (.idx (.v (.var 10)) (.con (.int 0))) .nil))) (.con (.int 0)))) (.cons (.set 15 (.idxf (.v (.fz (.lst (.cons (.con (.int 0)) (.cons (.con (.int 1)) (.cons (.var 14) (.cons (.bin .add (.var 14) (.con (.int 1))) (.cons (.bin .fdiv (.var 14) (.idx (.v (.var 10)) (.con (.int 2)))) (.cons (.bin .add (.bin .fdiv (.var 14) (.idx (.v (.var 10)) (.con (.int 2)))) (.con (.int 1))) (.cons (.con (.int 3)) .nil)))))))))) (.call 31 (.cons (.var 1) (.cons (.con (.int 7)) .nil))))) (.cons (.set 16 (.call 38 (.cons (.var 5) (.cons (.var 11) (.cons (.var 12) (.cons (.var 13) (.cons (.var 10) (.cons (.var 15) .nil)))))))) (.cons (.set 17 (.call 37 (.cons (.var 4) (.cons (.var 11) (.cons (.var 12) (.cons (.var 13) (.cons (.idx (.v (.var 10)) (.con (.int 0))) (.cons (.var 15) .nil)))))))) (.cons (.ifs (.bo false (.cons (.not (.call 33 (.cons (.var 17) (.cons (.var 16) .nil)))) (.cons (.not (.call 39 (.cons (.var 2) (.cons (.var 4) (.cons (.var 5) .nil))))) .nil))) (.cons (.ret (.con (.bl false))) .nil) .nil) (.cons (.ifs (.cmp .eq (.call 31 (.cons (.var 1) (.cons (.con (.int 6)) .nil))) (.con (.int 5))) (.cons (.set 4 (.meth 29 (.var 4) .nil)) .nil) .nil) .nil))))))))))))
def q40_10 : S := (.ret (.call 39 (.cons (.var 2) (.cons (.idx (.v (.var 7)) (.con (.int 0))) (.cons (.idx (.v (.var 7)) (.con (.int 1))) .nil)))))
def t40_11 : Ss := .nil
def t40_10 : Ss := .cons q40_10 t40_11
def t40_9 : Ss := .cons q40_9 t40_10
def t40_8 : Ss := .cons q40_8 t40_9
def t40_7 : Ss := .cons q40_7 t40_8
def t40_6 : Ss := .cons q40_6 t40_7
def t40_5 : Ss := .cons q40_5 t40_6
def t40_4 : Ss := .cons q40_4 t40_5
def t40_3 : Ss := .cons q40_3 t40_4
def t40_2 : Ss := .cons q40_2 t40_3
def t40_1 : Ss := .cons q40_1 t40_2
def t40_0 : Ss := .cons q40_0 t40_1
theorem bt40 : b40 = t40_0 := rfl
def q40_9_0 : S := (.set 10 (.idxf (.v (.dget (.v (.var 2)) (.con (.str "tokens")))) (.call 31 (.cons (.var 1) (.cons (.len (.v (.dget (.v (.var 2)) (.con (.str "tokens"))))) .nil)))))
def q40_9_1 : S := (.set 11 (.idxf (.v (.fz (.lst (.cons (.con (.int 0)) (.cons (.con (.int 1)) (.cons (.con (.int 2)) (.cons (.con (.int 5)) (.cons (.con (.int 6)) .nil)))))))) (.call 31 (.cons (.var 1) (.cons (.con (.int 5)) .nil)))))
def q40_9_2 : S := (.ifs (.cmp .ne (.idx (.v (.var 10)) (.con (.int 1))) (.var 3)) (.cons (.set 11 (.idxf (.v (.fz (.lst (.cons (.con (.int 0)) (.cons (.con (.int 3)) (.cons (.con (.int 4)) (.cons (.con (.int 5)) (.cons (.con (.int 6)) .nil)))))))) (.call 31 (.cons (.var 1) (.cons (.con (.int 5)) .nil))))) .nil) .nil)
def q40_9_3 : S := (.set 12 (.idxf (.v (.fz (.lst (.cons (.con (.str "ann")) (.cons (.con (.str "bob")) (.cons (.con (.str "cyd")) .nil)))))) (.call 31 (.cons (.var 1) (.cons (.con (.int 3)) .nil)))))
def q40_9_4 : S := (.set 13 (.idxf (.v (.fz (.lst (.cons (.con (.str "ann")) (.cons (.con (.str "bob")) (.cons (.con (.str "cyd")) .nil)))))) (.call 31 (.cons (.var 1) (.cons (.con (.int 3)) .nil)))))
def q40_9_5 : S := (.set 14 (.dgt2 (.v (.var 5)) (.tup (.cons (.var 12) (.cons (.idx (.v (.var 10)) (.con (.int 0))) .nil))) (.con (.int 0))))
def q40_9_6 : S := (.set 15 (.idxf (.v (.fz (.lst (.cons (.con (.int 0)) (.cons (.con (.int 1)) (.cons (.var 14) (.cons (.bin .add (.var 14) (.con (.int 1))) (.cons (.bin .fdiv (.var 14) (.idx (.v (.var 10)) (.con (.int 2)))) (.cons (.bin .add (.bin .fdiv (.var 14) (.idx (.v (.var 10)) (.con (.int 2)))) (.con (.int 1))) (.cons (.con (.int 3)) .nil)))))))))) (.call 31 (.cons (.var 1) (.cons (.con (.int 7)) .nil)))))
def q40_9_7 : S := (.set 16 (.call 38 (.cons (.var 5) (.cons (.var 11) (.cons (.var 12) (.cons (.var 13) (.cons (.var 10) (.cons (.var 15) .nil))))))))
def q40_9_8 : S := (.set 17 (.call 37 (.cons (.var 4) (.cons (.var 11) (.cons (.var 12) (.cons (.var 13) (.cons (.idx (.v (.var 10)) (.con (.int 0))) (.cons (.var 15) .nil))))))))
def q40_9_9 : S := (.ifs (.bo false (.cons (.not (.call 33 (.cons (.var 17) (.cons (.var 16) .nil)))) (.cons (.not (.call 39 (.cons (.var 2) (.cons (.var 4) (.cons (.var 5) .nil))))) .nil))) (.cons (.ret (.con (.bl false))) .nil) .nil)
def q40_9_10 : S := (.ifs (.cmp .eq (.call 31 (.cons (.var 1) (.cons (.con (.int 6)) .nil))) (.con (.int 5))) (.cons (.set 4 (.meth 29 (.var 4) .nil)) .nil) .nil)
def t40_9_11 : Ss := .nil
def t40_9_10 : Ss := .cons q40_9_10 t40_9_11
def t40_9_9 : Ss := .cons q40_9_9 t40_9_10
def t40_9_8 : Ss := .cons q40_9_8 t40_9_9
def t40_9_7 : Ss := .cons q40_9_7 t40_9_8
def t40_9_6 : Ss := .cons q40_9_6 t40_9_7
def t40_9_5 : Ss := .cons q40_9_5 t40_9_6
def t40_9_4 : Ss := .cons q40_9_4 t40_9_5
def t40_9_3 : Ss := .cons q40_9_3 t40_9_4
def t40_9_2 : Ss := .cons q40_9_2 t40_9_3
def t40_9_1 : Ss := .cons q40_9_1 t40_9_2
def t40_9_0 : Ss := .cons q40_9_0 t40_9_1
theorem bt40_9 : q40_9 = (.for_ (.slot 9) (.rng1 (.bin .add (.con (.int 3)) (.bi .min2 (.cons (.bin .fdiv (.len (.v (.var 0))) (.con (.int 2))) (.cons (.con (.int 27)) .nil))))) t40_9_0) := rfl
section
variable {C : Call} {i cf tb nb pd ti bi : Vb.Id} {sd : Str} {s : Sh} {g : G} {n : Int} {k : Tk} {ts : List Tk} {rows : List Rw} {gd : List D} {dp wd dl bn : Int} {T : List (TK × Int)} {L : Nat}
theorem right_ok (F : Cfg ts rows gd dp wd dl bn) {q : Nat × Int} {gs : List (Nat × Int)} (hgd : gd = (q :: gs).map grD) (hq : q.1 < 7) (hp : g pd = some (.ct (.dct (parts ti bi (.seq true gd) dp wd dl bn)))) (ht : g ti = some (.ct (.lst (ts.map tkD)))) (h : g i = some (shO cf sd s)) (sm : s.small) (hT : g tb = some (.ct (.dct (dE tk T)))) (R : Rel s T) (I : SI (nm4 q.1) L s) {K : Kd} {X : Kx} (hK : K (.bl true) g) :
    C1 prg (C1 prg (C1 prg C)) 39 [.ref pd, .ref i, .ref tb] g K X := by
  subst hgd
  refine c1 rfl rfl ?_
  show wSs prg (C1 prg (C1 prg C)) b39 [some (.val (.ref pd)), some (.val (.ref i)), some (.val (.ref tb)), none, none, none, none, none] g (Kr K X)
  have e39 : b39 = .cons (.for_ (.slot 3) (.pl (.v (.dget (.v (.var 0)) (.con (.str "tokens"))))) bX) (.cons (.ret (.cmp .eq (.meth 8 (.var 1) (.cons (.con (.str "nobody")) (.cons (.idx (.v (.idx (.v (.dget (.v (.var 0)) (.con (.str "tokens")))) (.con (.int 0)))) (.con (.int 0))) .nil))) (.con (.int 0)))) .nil) := rfl
  rw [e39, x_cons, x_for]
  simp only [x_ipl, x_v, x_dget, x_var, x_con, List.getElem?_cons_succ, List.getElem?_cons_zero, cv_ref, hp, cv_dct, pO, p1, true_and, ht, cv_lst, sr_ref, ws_obj, ws_so]
  refine for_inv (fun n r g' => g' = g ∧ ∃ y3 y4 y5 y6, r = [some (.val (.ref pd)), some (.val (.ref i)), some (.val (.ref tb)), y3, y4, y5, y6, none]) _ _ 0 _ _ rfl (Nat.zero_le _) ⟨rfl, none, none, none, none, rfl⟩ (fun n r g' ⟨e, _⟩ => by rw [e]; exact ht) ?_ ?_
  · rintro n x r g' Kc hx ⟨rfl, y3, y4, y5, y6, rfl⟩ hn _ _ _
    rw [List.getElem?_map] at hx
    obtain ⟨k, hk, rfl⟩ := Option.map_eq_some_iff.mp hx
    refine ⟨_, rfl, ?_⟩
    exact rstep hq hp h sm hT R I fun y4 y5 y6 => (hn _ _ ⟨rfl, _, _, _, _, rfl⟩).1
  · rintro r g' ⟨rfl, y3, y4, y5, y6, rfl⟩
    have L := cfg_len F
    obtain ⟨t0, ts', rfl⟩ : ∃ t0 ts', ts = t0 :: ts' := by
      cases ts with
      | nil => simp at L
      | cons t ts' => exact ⟨t, ts', rfl⟩
    have a1 : L2.atI ((t0 :: ts').map tkD) 0 = some (.seq true [.str t0.nm, .str t0.hm, .int t0.sc, .int t0.lm, .int t0.lg]) := by
      simp [L2.atI, L2.ixN]
      rfl
    have a3 : L2.atI [D.str t0.nm, .str t0.hm, .int t0.sc, .int t0.lm, .int t0.lg] 0 = some (.str t0.nm) := by simp [L2.atI, L2.ixN]
    refine kq ?_
    simp only [x_cons, x_ret, x_cmp]
    simp [h, sm_bal, hp, pO, p1, ht]
    have a1' := a1
    rw [List.map_cons] at a1'
    simp [a1', a3]
    refine bal_ok (C := C1 prg C) h ?_
    rw [si_none I (nm4_no q.1 hq)]
    simp
    exact hK
end
end L_k10_sheet

set_option maxHeartbeats 400000
namespace L_k10_sheet
open PySem L2 Vb
def opT (l : List Rw) : List (TK × Int) := l.foldl (fun T w => ad T (w.ac, w.tk, false) w.am) []
theorem opT_snoc (l : List Rw) (w : Rw) : opT (l ++ [w]) = ad (opT l) (w.ac, w.tk, false) w.am := by
  unfold opT
  rw [List.foldl_append]
  rfl
theorem rel_op (l : List Rw) (h : ∀ w ∈ l, w.ac ≠ Str.ofString "") : Rel (opf l) (opT l) := by
  have : ∀ (l : List Rw) (s : Sh) (T : List (TK × Int)), Rel s T → (∀ w ∈ l, w.ac ≠ Str.ofString "") → Rel (l.foldl (fun s w => s.gv w.ac w.tk w.am) s) (l.foldl (fun T w => ad T (w.ac, w.tk, false) w.am) T) := by
    intro l
    induction l with
    | nil => exact fun s T R _ => R
    | cons w l ih => exact fun s T R h => ih _ _ (rel_gv R (h w List.mem_cons_self)) fun x hx => h x (List.mem_cons_of_mem _ hx)
  exact this l _ _ ⟨fun _ _ _ => rfl, fun _ => rfl, fun _ _ => rfl⟩ h
theorem opT_ok (l : List Rw) : ((opT l).map (·.1)).Nodup ∧ (opT l).length ≤ l.length := by
  have : ∀ (l : List Rw) (T : List (TK × Int)), (T.map (·.1)).Nodup → ((l.foldl (fun T w => ad T (w.ac, w.tk, false) w.am) T).map (·.1)).Nodup ∧ (l.foldl (fun T w => ad T (w.ac, w.tk, false) w.am) T).length ≤ T.length + l.length := by
    intro l
    induction l with
    | nil => exact fun T h => ⟨h, Nat.le_refl _⟩
    | cons w l ih =>
      intro T h
      have := ih (ad T (w.ac, w.tk, false) w.am) (put_nd h)
      have l2 := ad_len (T := T) (q := (w.ac, w.tk, false)) (n := w.am)
      exact ⟨this.1, by have := this.2; rw [List.foldl_cons, List.length_cons]; omega⟩
  have := this l [] List.nodup_nil
  exact ⟨this.1, by have := this.2; rw [List.length_nil, Nat.zero_add] at this; exact this⟩
theorem flt_one {t : Tk} : ∀ {ts : List Tk}, (ts.map (·.nm)).Nodup → t ∈ ts → (ts.filter fun u => decide (u.nm = t.nm)) = [t]
  | [], _, h => by cases h
  | u :: ts, nd, h => by
    rw [List.map_cons, List.nodup_cons] at nd
    rcases List.mem_cons.mp h with rfl | h
    · rw [List.filter_cons_of_pos (by simp)]
      rw [List.filter_eq_nil_iff.mpr]
      intro u hu z
      exact nd.1 (by rw [← of_decide_eq_true z]; exact List.mem_map_of_mem hu)
    · rw [List.filter_cons_of_neg (by
        simp only [decide_eq_true_eq]
        exact fun z => nd.1 (z ▸ List.mem_map_of_mem h))]
      exact flt_one nd.2 h
theorem sd_pure {a : Str} (h : a = "west" ∨ a = "east") : D.pure (.str a) = true := by
  rcases h with rfl | rfl <;> decide +kernel
theorem sd_ok {a b : Str} (ha : a = "west" ∨ a = "east") (hb : b = "west" ∨ b = "east") : D.eqOk (.seq false [.str a]) (.seq false [.str b]) = true ∧ D.eqv (.seq false [.str a]) (.seq false [.str b]) = decide (a = b) := by
  refine ⟨?_, ?_⟩
  · show ((D.pure (.str a) && true) && ((D.pure (.str b) && true) && decide (min 1 1 ≤ 60))) = true
    rw [sd_pure ha, sd_pure hb]
    rfl
  · by_cases e : a = b <;> simp [D.eqv, D.eqvs, e]
section
variable {Z : Call} {si cf tb nb pd ti bi ip : Vb.Id} {sd : Str} {s : Sh} {g : G} {n : Int} {k : Tk} {ts : List Tk} {rows : List Rw} {gd : List D} {dp wd dl bn : Int} {T : List (TK × Int)} {L : Nat} {x0 x1 : Option Sl}
theorem st5 (F : Cfg ts rows gd dp wd dl bn) (hsd : sd = "west" ∨ sd = "east") (hp : g pd = some (.ct (.dct (parts ti bi (.seq true gd) dp wd dl bn)))) (ht : g ti = some (.ct (.lst (ts.map tkD)))) (hb : g bi = some (.ct (.lst (rows.map rwD)))) (h0 : g tb = some (.ct (.dct []))) (n1 : ti ≠ tb) (n2 : bi ≠ tb) (n3 : pd ≠ tb) {K : Ks}
    (hK : ∀ g' y6, g' tb = some (.ct (.dct (dE tk (opT (opw ts rows sd))))) → (∀ j, j ≠ tb → g' j = g j) → wSs prg Z t40_6 [x0, x1, some (.val (.ref pd)), some (.val (.str sd)), some (.val (.ref si)), some (.val (.ref tb)), y6, none, none, none, none, none, none, none, none, none, none, none] g' K) :
    wSs prg Z t40_5 [x0, x1, some (.val (.ref pd)), some (.val (.str sd)), some (.val (.ref si)), some (.val (.ref tb)), none, none, none, none, none, none, none, none, none, none, none, none] g K := by
  have nd := cfg_nd F
  have LR := F.lr
  unfold t40_5 q40_5
  rw [x_cons, x_for]
  simp only [x_ipl, x_v, x_dget, x_var, x_con, List.getElem?_cons_succ, List.getElem?_cons_zero, cv_ref, hp, cv_dct, pO, p2, true_and, hb, cv_lst, sr_ref, ws_obj, ws_so]
  refine for_inv (fun n r g' => ∃ y6, r = [x0, x1, some (.val (.ref pd)), some (.val (.str sd)), some (.val (.ref si)), some (.val (.ref tb)), y6, none, none, none, none, none, none, none, none, none, none, none] ∧ g' tb = some (.ct (.dct (dE tk (opT (opw ts (rows.take n) sd))))) ∧ ∀ j, j ≠ tb → g' j = g j) _ _ 0 _ _ rfl (Nat.zero_le _) ⟨none, rfl, h0, fun _ _ => rfl⟩ (fun n r g' ⟨_, _, _, f⟩ => by rw [wo_o, f _ n2]; exact hb) ?_ ?_
  · rintro n x r g' Kc hx ⟨y6, rfl, hT, f⟩ hn _ _ _
    rw [List.getElem?_map] at hx
    obtain ⟨w, hw, rfl⟩ := Option.map_eq_some_iff.mp hx
    refine ⟨_, rfl, ?_⟩
    have wm := List.mem_of_getElem? hw
    obtain ⟨t, tm, et⟩ := List.mem_map.mp (F.rf w wm).2.2.1
    have hp' := (f _ n3).trans hp
    have ht' := (f _ n1).trans ht
    have w0 : L2.atI [D.str w.ac, .str w.tk, .int w.am] 0 = some (.str w.ac) := by simp [L2.atI, L2.ixN]
    have w1 : L2.atI [D.str w.ac, .str w.tk, .int w.am] 1 = some (.str w.tk) := by simp [L2.atI, L2.ixN]
    have w2 : L2.atI [D.str w.ac, .str w.tk, .int w.am] 2 = some (.int w.am) := by simp [L2.atI, L2.ixN]
    simp only [x_cons, x_ifs, x_b, x_cmp, x_fz]
    rw [x_comp]
    refine ⟨rfl, ?_⟩
    simp [hp', pO, p1, ht']
    refine comp_flt (c := tkD) (p := fun u => decide (u.nm = w.tk)) (f := fun u => .str u.hm) (fun _ => ht') ts [] (fun u hu => ⟨_, rfl, fun Kb hk => ?_, fun Kd hk => ?_⟩) (by have := (cfg_len F).2; show 0 + ts.length ≤ 1000000; omega) ?_
    · have u0 : L2.atI [D.str u.nm, .str u.hm, .int u.sc, .int u.lm, .int u.lg] 0 = some (.str u.nm) := by simp [L2.atI, L2.ixN]
      simp [wipeR, tkD, rwD, u0, w1]
      simpa using hk
    · have u1 : L2.atI [D.str u.nm, .str u.hm, .int u.sc, .int u.lm, .int u.lg] 1 = some (.str u.hm) := by simp [L2.atI, L2.ixN]
      simp [wipeR, tkD, u1]
      exact hk
    · rw [← et, flt_one nd tm, List.nil_append]
      obtain ⟨z1, z2⟩ := sd_ok (F.tf t tm).1 hsd
      have tk1 : opw ts (rows.take (n + 1)) sd = opw ts (rows.take n) sd ++ if t.hm = sd then [w] else [] := by
        unfold opw
        rw [take_at hw, List.filter_append]
        congr 1
        rw [List.filter_cons, ← et, hmOf_at nd tm]
        by_cases e : t.hm = sd <;> simp [e]
      simp [z1, z2]
      by_cases e : t.hm = sd
      · rw [if_pos e] at tk1 ⊢
        have lT := (opT_ok (opw ts (rows.take n) sd)).2
        have l2 : (opw ts (rows.take n) sd).length ≤ (rows.take n).length := List.length_filter_le _ _
        have l3 : (rows.take n).length ≤ rows.length := by simp; omega
        simp [rwD, w0, w1, w2, hT]
        refine ⟨by omega, kq ?_⟩
        refine kq ?_
        rw [x_nil]
        refine (hn _ _ ⟨_, rfl, ?_, fun j hj => by simp [hj, f j hj]⟩).1
        rw [tk1, opT_snoc]
        simp [ad]
      · rw [if_neg e] at tk1 ⊢
        refine kq ?_
        rw [x_nil]
        rw [List.append_nil] at tk1
        exact (hn _ _ ⟨_, rfl, by rw [tk1]; exact hT, f⟩).1
  · rintro r g' ⟨y6, rfl, hT, f⟩
    rw [List.length_map, List.take_length] at hT
    refine kq ?_
    exact hK g' y6 hT f
end
end L_k10_sheet

set_option maxHeartbeats 400000
namespace L_k10_sheet
open PySem L2 Vb
theorem dE_at {α : Type} [DecidableEq α] {c : α → D} (inj : ∀ a b, c a = c b → a = b) {p : α × Int} : ∀ {l : List (α × Int)}, (l.map (·.1)).Nodup → p ∈ l → dGet (dE c l) (c p.1) = some (.int p.2)
  | [], _, h => by cases h
  | q :: l, nd, h => by
    rw [List.map_cons, List.nodup_cons] at nd
    show dGet ((c q.1, .int q.2) :: dE c l) (c p.1) = _
    rw [dGet_cons]
    rcases List.mem_cons.mp h with rfl | h
    · rw [if_pos rfl]
    · rw [if_neg fun z => nd.1 (by rw [inj _ _ z]; exact List.mem_map_of_mem h)]
      exact dE_at inj nd.2 h
theorem put_new {α : Type} [DecidableEq α] {l : List (α × Int)} {k : α} {v : Int} (h : k ∉ l.map (·.1)) : put l k v = l ++ [(k, v)] := by
  unfold put
  rw [if_neg]
  intro z
  obtain ⟨p, hp, e⟩ := List.any_eq_true.mp z
  exact h (by rw [← of_decide_eq_true e]; exact List.mem_map_of_mem hp)
theorem nd_take {α : Type} {l : List α} {n : Nat} {x : α} (nd : l.Nodup) (h : l[n]? = some x) : x ∉ l.take n := fun z => by
  obtain ⟨i, hi⟩ := List.mem_iff_getElem?.mp z
  have l1 : i < n := by
    have := (List.getElem?_eq_some_iff.mp hi).1
    rw [List.length_take] at this
    omega
  rw [List.getElem?_take_of_lt l1] at hi
  have := (List.getElem?_inj (List.getElem?_eq_some_iff.mp hi).1 nd).mp (hi.trans h.symm)
  omega
section
variable {Z : Call} {si cf tb nb pd ti bi ip kl kd : Vb.Id} {sd : Str} {s : Sh} {g : G} {n : Int} {k : Tk} {ts : List Tk} {rows : List Rw} {gd : List D} {dp wd dl bn : Int} {T : List (TK × Int)} {L : Nat} {x0 x1 x2 x3 x6 : Option Sl}
theorem st7 (hT : g tb = some (.ct (.dct (dE tk T)))) (nd : (T.map (·.1)).Nodup) (lT : T.length < 900000) (hl : g kl = some (.ct (.lst [.ref si, .ref kd]))) (hd : g kd = some (.ct (.dct []))) {K : Ks}
    (hK : ∀ g' y8, g' kd = some (.ct (.dct (dE tk T))) → (∀ j, j ≠ kd → g' j = g j) → wSs prg Z t40_8 [x0, x1, x2, x3, some (.val (.ref si)), some (.val (.ref tb)), x6, some (.val (.ref kl)), y8, none, none, none, none, none, none, none, none, none] g' K) (ne : tb ≠ kd) :
    wSs prg Z t40_7 [x0, x1, x2, x3, some (.val (.ref si)), some (.val (.ref tb)), x6, some (.val (.ref kl)), none, none, none, none, none, none, none, none, none, none] g K := by
  have n1 : tb ≠ kl := fun z => by rw [z, hl] at hT; cases hT
  have n3 : kl ≠ kd := fun z => by rw [z, hd] at hl; cases hl
  unfold t40_7 q40_7
  rw [x_cons, x_ford]
  refine ⟨tb, dE tk T, by simp [evP, evE, cvOf, hT, Ct.cv, srcOf], hT, fun o u => ⟨by simp [evP, evE, cvOf, srcOf], ?_⟩⟩
  have e : itemsD .keys (dE tk T) = T.map fun p => tk p.1 := by simp [itemsD, dE]
  rw [e]
  refine for_inv (fun n r g' => ∃ y8, r = [x0, x1, x2, x3, some (.val (.ref si)), some (.val (.ref tb)), x6, some (.val (.ref kl)), y8, none, none, none, none, none, none, none, none, none] ∧ g' tb = some (.lkd (dE tk T) o u) ∧ g' kd = some (.ct (.dct (dE tk (T.take n)))) ∧ ∀ j, j ≠ tb → j ≠ kd → g' j = g j) _ _ 0 _ _ rfl (Nat.zero_le _) ⟨none, rfl, up_same _ _ _, by rw [up_ne _ _ ne.symm]; exact hd, fun j h1 h2 => up_ne _ _ h1⟩ (fun n r g' ⟨_, _, q, _⟩ => q) ?_ ?_
  · rintro n x r g' Kc hx ⟨y8, rfl, h1, h2, f⟩ hn _ _ _
    rw [List.getElem?_map] at hx
    obtain ⟨p, hp, rfl⟩ := Option.map_eq_some_iff.mp hx
    refine ⟨_, rfl, ?_⟩
    have hl' : g' kl = some (.ct (.lst [.ref si, .ref kd])) := (f _ n1.symm n3).trans hl
    have a1 : L2.atI [D.ref si, .ref kd] 1 = some (.ref kd) := by simp [L2.atI, L2.ixN]
    have gE : dGet (dE tk T) (tk p.1) = some (.int p.2) := dE_at tk_inj nd (List.mem_of_getElem? hp)
    have kE : ∀ l, keysOk (dE tk l) (tk p.1) = true := fun l => dE_T tk_T
    have ln : n < T.length := (List.getElem?_eq_some_iff.mp hp).1
    have hk : (T.map (·.1))[n]? = some p.1 := by rw [List.getElem?_map, hp]; rfl
    have pn : put (T.take n) p.1 p.2 = T.take (n + 1) := by
      rw [put_new (by have := nd_take nd hk; rwa [← List.map_take] at this), take_at hp]
    have pE : dPut (dE tk (T.take n)) (tk p.1) (.int p.2) = dE tk (T.take (n + 1)) := by rw [dE_put tk_inj, pn]
    simp [h1, hl', a1, h2, gE, kE, pE]
    refine ⟨by omega, kq ?_⟩
    rw [x_nil]
    exact (hn _ _ ⟨_, rfl, by simp [ne, h1], by simp, fun j q1 q2 => by simp [q2, f j q1 q2]⟩).1
  · rintro r g' ⟨y8, rfl, h1, h2, f⟩
    rw [List.length_map, List.take_length] at h2
    refine ⟨h1, kq ?_⟩
    refine hK _ y8 (by rw [up_ne _ _ ne.symm]; exact h2) fun j hj => ?_
    by_cases e : j = tb
    · rw [e, up_same, hT]
    · rw [up_ne _ _ e]
      exact f j e hj
end
end L_k10_sheet

set_option maxHeartbeats 400000
namespace L_k10_sheet
open PySem L2 Vb
/-- the heap at a turn of the loop -/
structure St (ns : List Int) (ts : List Tk) (rows : List Rw) (gd : List D) (dp wd dl bn : Int) (sd : Str) (s0 : Sh) (T0 : List (TK × Int)) (a : Nat) (s : Sh) (T : List (TK × Int)) (m : Nat) (g : G) : Prop where
  pot : Pot ns [0] g
  tks : g [1] = some (.ct (.lst (ts.map tkD)))
  pd : g [5] = some (.ct (.dct (parts [1] [2] (.seq true gd) dp wd dl bn)))
  cf : CF ts rows [8] (.seq true gd) dp wd dl bn [6] g
  tb : g [10] = some (.ct (.dct (dE tk T)))
  kl : g [11] = some (.ct (.lst [.ref [14], .ref [12]]))
  kd : g [12] = some (.ct (.dct (dE tk T0)))
  sh0 : g [14] = some (shO [6] sd s0)
  sh : g [a] = some (shO [6] sd s)
  fr : ∀ n x, m ≤ n → g (n :: x) = none
  ha : a = 9 ∨ 20 ≤ a
/-- sheet and table at a turn -/
structure Pl (q : Nat) (s : Sh) (T : List (TK × Int)) (L : Nat) : Prop where
  rel : Rel s T
  si : SI (nm4 q) L s
  ln : T.length ≤ L
section
variable {Z : Call} {ns : List Int} {ts : List Tk} {rows : List Rw} {gd : List D} {dp wd dl bn : Int} {sd : Str} {s0 s : Sh} {T0 T : List (TK × Int)} {a m : Nat} {g g' : G}
theorem St.pt (S : St ns ts rows gd dp wd dl bn sd s0 T0 a s T m g) (P : Pot ns [0] g') (e : ∀ j, j ≠ [0] → g' j = g j) (hm : 1 ≤ m) : St ns ts rows gd dp wd dl bn sd s0 T0 a s T m g' := by
  have ha := S.ha
  exact ⟨P, (e _ (by decide)).trans S.tks, (e _ (by decide)).trans S.pd, ⟨(e _ (by decide)).trans S.cf.hc, (e _ (by decide)).trans S.cf.hb, S.cf.nd, S.cf.hr, S.cf.l⟩, (e _ (by decide)).trans S.tb, (e _ (by decide)).trans S.kl, (e _ (by decide)).trans S.kd, (e _ (by decide)).trans S.sh0, (e _ (fun z => by injection z; omega)).trans S.sh, fun n x h => (e _ (fun z => by injection z; omega)).trans (S.fr n x h), S.ha⟩
theorem St.tbt (S : St ns ts rows gd dp wd dl bn sd s0 T0 a s T m g) {T' : List (TK × Int)} (h : g' [10] = some (.ct (.dct (dE tk T')))) (e : ∀ j, j ≠ [10] → g' j = g j) (hm : 20 ≤ m) : St ns ts rows gd dp wd dl bn sd s0 T0 a s T' m g' := by
  have ha := S.ha
  exact ⟨pot_fr S.pot (e _ (by decide)), (e _ (by decide)).trans S.tks, (e _ (by decide)).trans S.pd, ⟨(e _ (by decide)).trans S.cf.hc, (e _ (by decide)).trans S.cf.hb, S.cf.nd, S.cf.hr, S.cf.l⟩, h, (e _ (by decide)).trans S.kl, (e _ (by decide)).trans S.kd, (e _ (by decide)).trans S.sh0, (e _ (fun z => by injection z; omega)).trans S.sh, fun n x h => (e _ (fun z => by injection z; omega)).trans (S.fr n x h), S.ha⟩
theorem St.sht (S : St ns ts rows gd dp wd dl bn sd s0 T0 a s T m g) {s' : Sh} (h : g' [a] = some (shO [6] sd s')) (e : ∀ j, j ≠ [a] → g' j = g j) (hm : 20 ≤ m) (am : a < m) : St ns ts rows gd dp wd dl bn sd s0 T0 a s' T m g' := by
  have ha := S.ha
  have e' : ∀ k, k < 20 → k ≠ 9 → g' [k] = g [k] := fun k h1 h2 => e _ (fun z => by injection z; omega)
  exact ⟨pot_fr S.pot (e' 0 (by decide) (by decide)), (e' 1 (by decide) (by decide)).trans S.tks, (e' 5 (by decide) (by decide)).trans S.pd, ⟨(e' 6 (by decide) (by decide)).trans S.cf.hc, (e' 8 (by decide) (by decide)).trans S.cf.hb, S.cf.nd, S.cf.hr, S.cf.l⟩, (e' 10 (by decide) (by decide)).trans S.tb, (e' 11 (by decide) (by decide)).trans S.kl, (e' 12 (by decide) (by decide)).trans S.kd, (e' 14 (by decide) (by decide)).trans S.sh0, h, fun n x h => (e _ (fun z => by injection z; omega)).trans (S.fr n x h), S.ha⟩
/-- a new sheet takes the old one's place -/
theorem St.cp (S : St ns ts rows gd dp wd dl bn sd s0 T0 a s T m g) (h : g' [m] = some (shO [6] sd s)) (e : ∀ j, j ≠ [m] → j ≠ [m + 1] → g' j = g j) (hm : 20 ≤ m) : St ns ts rows gd dp wd dl bn sd s0 T0 m s T (m + 2) g' := by
  have e' : ∀ k, k < 20 → g' [k] = g [k] := fun k h1 => e _ (fun z => by injection z; omega) (fun z => by injection z; omega)
  exact ⟨pot_fr S.pot (e' 0 (by decide)), (e' 1 (by decide)).trans S.tks, (e' 5 (by decide)).trans S.pd, ⟨(e' 6 (by decide)).trans S.cf.hc, (e' 8 (by decide)).trans S.cf.hb, S.cf.nd, S.cf.hr, S.cf.l⟩, (e' 10 (by decide)).trans S.tb, (e' 11 (by decide)).trans S.kl, (e' 12 (by decide)).trans S.kd, (e' 14 (by decide)).trans S.sh0, h, fun n x h => (e _ (fun z => by injection z; omega) (fun z => by injection z; omega)).trans (S.fr n x (by omega)), .inr hm⟩
theorem St.up (S : St ns ts rows gd dp wd dl bn sd s0 T0 a s T m g) {m' : Nat} (h : m ≤ m') : St ns ts rows gd dp wd dl bn sd s0 T0 a s T m' g :=
  ⟨S.pot, S.tks, S.pd, S.cf, S.tb, S.kl, S.kd, S.sh0, S.sh, fun n x q => S.fr n x (Nat.le_trans h q), S.ha⟩
abbrev D5 (C : Call) := C1 prg (D4 C)
abbrev Row (x0 : Option Sl) (sd : Str) (a : Nat) (y6 y8 y9 y10 y11 y12 y13 y14 y15 y16 y17 : Option Sl) : Rho := [x0, some (.val (.ref [0])), some (.val (.ref [5])), some (.val (.str sd)), some (.val (.ref [a])), some (.val (.ref [10])), y6, some (.val (.ref [11])), y8, y9, y10, y11, y12, y13, y14, y15, y16, y17]
theorem same_n {C : Call} {K : Kd} {X : Kx} (h : K (.bl true) g) : C1 prg C 33 [.non, .non] g K X := by
  refine c1 rfl rfl ?_
  show wSs prg C b33 [some (.val .non), some (.val .non), none] g (Kr K X)
  unfold b33
  simp
  exact h
theorem same_b {C : Call} {K : Kd} {X : Kx} (h : K (.bl true) g) : C1 prg C 33 [.bl true, .bl true] g K X := by
  refine c1 rfl rfl ?_
  show wSs prg C b33 [some (.val (.bl true)), some (.val (.bl true)), none] g (Kr K X)
  unfold b33
  simp
  refine kq ?_
  simp
  exact h
/-- the last statement: perhaps a copy -/
theorem turn_c (S : St ns ts rows gd dp wd dl bn sd s0 T0 a s T m g) {q L : Nat} (P : Pl q s T L) (hn : L < 700000) (hm : 20 ≤ m) (am : a < m) {x0 y6 y8 y9 y10 y11 y12 y13 y14 y15 y16 y17 : Option Sl} {K : Ks}
    (hK : ∀ a' g', St ns ts rows gd dp wd dl bn sd s0 T0 a' s T (m + 2) g' → a' < m + 2 → K .nx (Row x0 sd a' y6 y8 y9 y10 y11 y12 y13 y14 y15 y16 y17) g') :
    wSs prg (D5 Z) t40_9_10 (Row x0 sd a y6 y8 y9 y10 y11 y12 y13 y14 y15 y16 y17) g K := by
  unfold t40_9_10 t40_9_11 q40_9_10
  simp only [x_cons, x_ifs, x_b, x_cmp, x_call, x_esc, x_esn, x_var, x_con, List.getElem?_cons_succ, List.getElem?_cons_zero]
  refine drawn (nx := 31) rfl S.pot (by decide) (by decide) fun v g1 I1 e1 v0 v1 => ?_
  have S1 := S.pt I1 e1 (by omega)
  rw [m_eq]
  refine ⟨rfl, ?_⟩
  by_cases e : v = 5
  · subst e
    have hs := S1.sh
    have mc : prg.mth 4 29 = some 1 := by decide
    simp [hs, mc]
    have lb := P.si.lb
    have lv := P.si.lv
    have ln := P.si.ln
    refine copy_ok (C := Z) (i2 := [m]) (j := [m + 1]) S1.cf hs ⟨by omega, by omega, by omega⟩ P.si.nd (S1.fr _ _ (Nat.le_refl _)) (S1.fr _ _ (by omega)) (fun z => by injection z; omega) fun g2 h2 f2 => kq ?_
    refine kq ?_
    rw [x_nil]
    exact hK m g2 (S1.cp h2 f2 (by omega)) (by omega)
  · have : D.eqv (.int v) (.int 5) = false := by simp [e]
    rw [this]
    simp
    refine kq ?_
    rw [x_nil]
    exact hK a g1 (S1.up (by omega)) (by omega)
end
end L_k10_sheet

set_option maxHeartbeats 400000
namespace L_k10_sheet
open PySem L2 Vb
section
variable {Z : Call} {ns : List Int} {ts : List Tk} {rows : List Rw} {gd : List D} {dp wd dl bn : Int} {sd : Str} {s0 s : Sh} {T0 T : List (TK × Int)} {a m : Nat} {g g' : G}
theorem chk (S : St ns ts rows gd dp wd dl bn sd s0 T0 a s T m g) (F : Cfg ts rows gd dp wd dl bn) {q : Nat × Int} {gs : List (Nat × Int)} (hgd : gd = (q :: gs).map grD) (hq : q.1 < 7) {L : Nat} (P : Pl q.1 s T L) (hL : L < 700000) {d : D} (hd : d = .bl true ∨ d = .non) {x0 y6 y8 y9 y10 y11 y12 y13 y14 y15 : Option Sl} {K : Ks}
    (hK : wSs prg (D5 Z) t40_9_10 (Row x0 sd a y6 y8 y9 y10 y11 y12 y13 y14 y15 (some (.val d)) (some (.val d))) g K) :
    wSs prg (D5 Z) t40_9_9 (Row x0 sd a y6 y8 y9 y10 y11 y12 y13 y14 y15 (some (.val d)) (some (.val d))) g K := by
  have lb := P.si.lb
  have lv := P.si.lv
  have ln := P.si.ln
  unfold t40_9_9 q40_9_9
  have hg := S.sh
  rcases hd with rfl | rfl
  · simp
    refine same_b ?_
    simp
    refine right_ok (C := C1 prg (C1 prg Z)) F hgd hq S.pd S.tks hg ⟨by omega, by omega, by omega⟩ S.tb P.rel P.si ?_
    simp
    exact kq hK
  · simp
    refine same_n ?_
    simp
    refine right_ok (C := C1 prg (C1 prg Z)) F hgd hq S.pd S.tks hg ⟨by omega, by omega, by omega⟩ S.tb P.rel P.si ?_
    simp
    exact kq hK
theorem turn_b (S : St ns ts rows gd dp wd dl bn sd s0 T0 a s T m g) (F : Cfg ts rows gd dp wd dl bn) {q : Nat × Int} {gs : List (Nat × Int)} (hgd : gd = (q :: gs).map grD) (hq : q.1 < 7) {n : Nat} (P : Pl q.1 s T (1000 + 2 * n)) (hn : n < 40) (hm : m = 20 + 2 * n) (am : a < m)
    {k : Tk} (hk : k ∈ ts) {kd : Nat} (hkd : kd < 7) {x y : Str} (hx : x ∈ acs3) (hy : y ∈ acs3) {v : Int} {x0 y6 y8 y9 y14 y16 y17 : Option Sl} {K : Ks}
    (hK : ∀ s' T' d g', St ns ts rows gd dp wd dl bn sd s0 T0 a s' T' m g' → Pl q.1 s' T' (1000 + 2 * (n + 1)) → wSs prg (D5 Z) t40_9_10 (Row x0 sd a y6 y8 y9 (some (.val (tkD k))) (some (.val (.int kd))) (some (.val (.str x))) (some (.val (.str y))) y14 (some (.val (.int v))) (some (.val d)) (some (.val d))) g' K) :
    wSs prg (D5 Z) t40_9_7 (Row x0 sd a y6 y8 y9 (some (.val (tkD k))) (some (.val (.int kd))) (some (.val (.str x))) (some (.val (.str y))) y14 (some (.val (.int v))) y16 y17) g K := by
  have lb := P.si.lb
  have lv := P.si.lv
  have lnn := P.si.ln
  have lT := P.ln
  obtain ⟨_, t1, _, _, t2, _⟩ := F.tf k hk
  have sc : 0 ≤ k.sc ∧ k.sc < 2 ^ 64 := by omega
  have xn : ∀ x ∈ acs3, x ∈ nm4 q.1 := fun x h => List.mem_append_left _ h
  have xe : ∀ x ∈ acs3, x ≠ Str.ofString "" := fun x h z => nm4_e q.1 hq (z ▸ xn x h)
  have oe : okS s kd x y k v = okT T kd x y k v := ok_eq P.rel (xe x hx) hkd
  have t0 : L2.atI [D.str k.nm, .str k.hm, .int k.sc, .int k.lm, .int k.lg] 0 = some (.str k.nm) := by simp [L2.atI, L2.ixN]
  unfold t40_9_7 q40_9_7
  simp only [x_cons, x_set, x_call, x_esc, x_esn, x_var, List.getElem?_cons_succ, List.getElem?_cons_zero]
  refine due_ok (C := D4 Z) S.tb (by omega) hkd sc (fun e => ?_) fun e g1 h1 f1 => ?_
  · refine kq ?_
    unfold t40_9_8 q40_9_8
    simp [tkD, t0]
    refine do_ok (C := Z) S.sh ⟨by omega, by omega, by omega⟩ S.cf.hc S.cf.nd hk hkd sc (fun _ => ?_) (fun z => by rw [oe, e] at z; cases z)
    refine kq ?_
    exact chk S F hgd hq ⟨P.rel, si_up P.si (by omega), by omega⟩ (L := 1000 + 2 * (n + 1)) (by omega) (.inl rfl) (hK s T _ g S ⟨P.rel, si_up P.si (by omega), by omega⟩)
  · refine kq ?_
    have S1 := S.tbt h1 f1 (by omega)
    unfold t40_9_8 q40_9_8
    simp [tkD, t0]
    refine do_ok (C := Z) S1.sh ⟨by omega, by omega, by omega⟩ S1.cf.hc S1.cf.nd hk hkd sc (fun z => by rw [oe, e] at z; cases z) fun _ g2 h2 f2 => ?_
    refine kq ?_
    have S2 := S1.sht h2 f2 (by omega) am
    have P2 : Pl q.1 (nxS s kd x y k v) (nxT T kd x y k v) (1000 + 2 * (n + 1)) := ⟨nx_rel P.rel (xe x hx) (xe y hy) hkd, si_nx P.si (xn x hx) (xn y hy), Nat.le_trans nxT_len (by omega)⟩
    exact chk S2 F hgd hq P2 (by omega) (.inr rfl) (hK _ _ _ g2 S2 P2)
end
end L_k10_sheet

set_option maxHeartbeats 400000
namespace L_k10_sheet
open PySem L2 Vb
section
variable {Z : Call} {ns : List Int} {ts : List Tk} {rows : List Rw} {gd : List D} {dp wd dl bn : Int} {sd : Str} {s0 s : Sh} {T0 T : List (TK × Int)} {a m : Nat} {g g' : G}
theorem turn (S : St ns ts rows gd dp wd dl bn sd s0 T0 a s T m g) (F : Cfg ts rows gd dp wd dl bn) {q : Nat × Int} {gs : List (Nat × Int)} (hgd : gd = (q :: gs).map grD) (hq : q.1 < 7) {n : Nat} (P : Pl q.1 s T (1000 + 2 * n)) (hn : n < 40) (hm : m = 20 + 2 * n) (am : a < m)
    {x0 y6 y8 y9 y10 y11 y12 y13 y14 y15 y16 y17 : Option Sl} {K : Ks}
    (hK : ∀ a' s' T' y10 y11 y12 y13 y14 y15 y16 y17 g', St ns ts rows gd dp wd dl bn sd s0 T0 a' s' T' (m + 2) g' → a' < m + 2 → Pl q.1 s' T' (1000 + 2 * (n + 1)) → K .nx (Row x0 sd a' y6 y8 y9 y10 y11 y12 y13 y14 y15 y16 y17) g') :
    wSs prg (D5 Z) t40_9_0 (Row x0 sd a y6 y8 y9 y10 y11 y12 y13 y14 y15 y16 y17) g K := by
  have L := cfg_len F
  unfold t40_9_0 q40_9_0
  have s1 := S.pd
  have s2 := S.tks
  simp [s1, pO, p1, s2]
  refine drawn (nx := 31) rfl S.pot (by omega) (by omega) fun v g1 I1 e1 v0 v1 => ?_
  have S1 := S.pt I1 e1 (by omega)
  refine ⟨S1.tks, ?_⟩
  refine at_any v0 (by simpa using v1) fun d hd => ?_
  obtain ⟨k, hk, rfl⟩ := List.mem_map.mp hd
  refine kq ?_
  clear s1 s2
  have tf := F.tf k hk
  have t0 : L2.atI [D.str k.nm, .str k.hm, .int k.sc, .int k.lm, .int k.lg] 0 = some (.str k.nm) := by simp [L2.atI, L2.ixN]
  have t1 : L2.atI [D.str k.nm, .str k.hm, .int k.sc, .int k.lm, .int k.lg] 1 = some (.str k.hm) := by simp [L2.atI, L2.ixN]
  have t2 : L2.atI [D.str k.nm, .str k.hm, .int k.sc, .int k.lm, .int k.lg] 2 = some (.int k.sc) := by simp [L2.atI, L2.ixN]
  have rest : ∀ (kd : Nat) (g1 : G), kd < 7 → St ns ts rows gd dp wd dl bn sd s0 T0 a s T m g1 → wSs prg (D5 Z) t40_9_3 (Row x0 sd a y6 y8 y9 (some (.val (tkD k))) (some (.val (.int kd))) y12 y13 y14 y15 y16 y17) g1 K := by
    intro kd g1 hkd S1
    unfold t40_9_3 q40_9_3
    simp
    refine drawn (nx := 31) rfl S1.pot (by decide) (by decide) fun v g2 I2 e2 v0 v1 => ?_
    have S2 := S1.pt I2 e2 (by omega)
    refine at_any v0 (by simpa using v1) fun d hd => ?_
    obtain ⟨x, hx, rfl⟩ : ∃ x ∈ acs3, d = .str x := by
      simp at hd
      rcases hd with rfl | rfl | rfl <;> exact ⟨_, by simp [acs3], rfl⟩
    refine kq ?_
    unfold t40_9_4 q40_9_4
    simp
    refine drawn (nx := 31) rfl S2.pot (by decide) (by decide) fun v g3 I3 e3 v0 v1 => ?_
    have S3 := S2.pt I3 e3 (by omega)
    refine at_any v0 (by simpa using v1) fun d hd => ?_
    obtain ⟨y, hy, rfl⟩ : ∃ x ∈ acs3, d = .str x := by
      simp at hd
      rcases hd with rfl | rfl | rfl <;> exact ⟨_, by simp [acs3], rfl⟩
    refine kq ?_
    unfold t40_9_5 q40_9_5
    have s3 := S3.tb
    simp [s3, tkD, t0]
    refine kq ?_
    unfold t40_9_6 q40_9_6
    have sc0 : ¬ k.sc = 0 := by have := tf.2.1; omega
    have sc1 : k.sc.natAbs < 1073741824 := by have := tf.2.1; have := tf.2.2.2.2.1; omega
    simp [t2]
    refine ⟨⟨sc0, sc1⟩, ?_⟩
    refine drawn (nx := 31) rfl S3.pot (by decide) (by decide) fun v g4 I4 e4 v0 v1 => ?_
    have S4 := S3.pt I4 e4 (by omega)
    refine idx_any v0 (by simpa using v1) fun d hd => ?_
    obtain ⟨v, rfl⟩ : ∃ v : Int, d = .int v := by
      simp at hd
      rcases hd with rfl | rfl | rfl | rfl | rfl | rfl | rfl <;> exact ⟨_, rfl⟩
    refine kq ?_
    refine turn_b S4 F hgd hq P hn hm am hk hkd hx hy fun s' T' d g5 S5 P5 => ?_
    refine turn_c S5 P5 (by omega) (by omega) am fun a' g6 S6 a6 => ?_
    exact hK a' s' T' _ _ _ _ _ _ _ _ g6 S6 a6 P5
  unfold t40_9_1 q40_9_1
  simp
  refine drawn (nx := 31) rfl S1.pot (by decide) (by decide) fun v g2 I2 e2 v0 v1 => ?_
  have S2 := S1.pt I2 e2 (by omega)
  refine at_any v0 (by simpa using v1) fun d hd => ?_
  obtain ⟨kd, h7, rfl⟩ : ∃ kd : Nat, kd < 7 ∧ d = .int kd := by
    simp at hd
    rcases hd with rfl | rfl | rfl | rfl | rfl
    · exact ⟨0, by decide, rfl⟩
    · exact ⟨1, by decide, rfl⟩
    · exact ⟨2, by decide, rfl⟩
    · exact ⟨5, by decide, rfl⟩
    · exact ⟨6, by decide, rfl⟩
  refine kq ?_
  unfold t40_9_2 q40_9_2
  simp [tkD, t1]
  by_cases e : k.hm = sd
  · rw [if_pos e]
    exact kq (rest kd g2 h7 S2)
  · rw [if_neg e]
    refine drawn (nx := 31) rfl S2.pot (by decide) (by decide) fun v g3 I3 e3 v0 v1 => ?_
    have S3 := S2.pt I3 e3 (by omega)
    refine at_any v0 (by simpa using v1) fun d hd => ?_
    obtain ⟨kd, h7, rfl⟩ : ∃ kd : Nat, kd < 7 ∧ d = .int kd := by
      simp at hd
      rcases hd with rfl | rfl | rfl | rfl | rfl
      · exact ⟨0, by decide, rfl⟩
      · exact ⟨3, by decide, rfl⟩
      · exact ⟨4, by decide, rfl⟩
      · exact ⟨5, by decide, rfl⟩
      · exact ⟨6, by decide, rfl⟩
    refine kq ?_
    rw [x_nil]
    exact kq (rest kd g3 h7 S3)
end
end L_k10_sheet

set_option maxHeartbeats 400000
namespace L_k10_sheet
open PySem L2 Vb
theorem gS_e : ∀ q, q < 7 → gS q ≠ Str.ofString "" := q7 (by decide) (by decide) (by decide) (by decide) (by decide) (by decide) (by decide)
theorem law_ok (ns : List Int) : wCall prg 20 40 [.giv ns] (fun _ => none) (fun d _ => d = .bl true) (fun _ _ => False) := by
  show C1 prg (D5 (wCall prg 14)) 40 [.giv ns] (fun _ => none) _ _
  generalize wCall prg 14 = Z
  refine c1 rfl rfl ?_
  show wSs prg (D5 Z) b40 [some (.val (.giv ns)), none, none, none, none, none, none, none, none, none, none, none, none, none, none, none, none, none] _ _
  rw [bt40]
  unfold t40_0 q40_0
  simp only [x_cons, x_set, x_call, x_esc, x_esn, x_var, List.getElem?_cons_succ, List.getElem?_cons_zero]
  refine pot_call rfl ns [0] _ rfl _ _ fun s s0 s1 => kq ?_
  generalize hg : up (fun _ => none) [0] (potC ns 0 0 s) = g
  have I : Pot ns [0] g := ⟨0, 0, s, by rw [← hg, up_same], by decide, s0, s1⟩
  have hn : ∀ j : Vb.Id, j ≠ [0] → g j = none := fun j a => by rw [← hg, up_ne _ _ a]
  clear hg
  unfold t40_1 q40_1
  simp only [x_cons, x_set, x_call, x_esc, x_esn, x_var, List.set_cons_succ, List.set_cons_zero, List.getElem?_cons_succ, List.getElem?_cons_zero]
  refine config_ok (ti := [1]) (bi := [2]) (a := [3]) (b := [4]) (pd := [5]) I (hn _ (by decide)) (hn _ (by decide)) (hn _ (by decide)) (hn _ (by decide)) (hn _ (by decide)) (by decide) (by decide) (by decide) (by decide) (by decide) (by decide) (by decide) (by decide) (by decide) (by decide) fun ts rows gd dp wd dl bn g2 F I2 ht hb hp f2 => kq ?_
  have n2 : ∀ (n : Nat) (x : List Nat), 6 ≤ n → g2 (n :: x) = none := fun n x h => by
    have ne : ∀ m, m < 6 → n :: x ≠ [m] := fun m hm z => by injection z; omega
    rw [f2 _ (ne 0 (by decide)) (ne 1 (by decide)) (ne 2 (by decide)) (ne 3 (by decide)) (ne 4 (by decide)) (ne 5 (by decide))]
    exact hn _ (ne 0 (by decide))
  obtain ⟨q, gs, hgd, hnd, hlo, _, hac⟩ := F.gx
  have hq := (hlo q List.mem_cons_self).1
  unfold t40_2 q40_2
  simp
  refine drawn (nx := 31) rfl I2 (by decide) (by decide) fun v g3 I3 f3 v0 v1 => ?_
  refine at_any v0 (by simpa using v1) fun d hd => ?_
  obtain ⟨sd, hsd, rfl⟩ : ∃ sd : Str, (sd = "west" ∨ sd = "east") ∧ d = .str sd := by
    simp at hd
    rcases hd with rfl | rfl
    · exact ⟨_, .inl rfl, rfl⟩
    · exact ⟨_, .inr rfl, rfl⟩
  refine kq ?_
  unfold t40_3 q40_3
  simp only [x_cons, x_set, x_new, x_call, x_esc, x_esn, x_var, List.set_cons_succ, List.set_cons_zero, List.getElem?_cons_succ, List.getElem?_cons_zero]
  have n3 : ∀ (n : Nat) (x : List Nat), 6 ≤ n → g3 (n :: x) = none := fun n x h => (f3 _ (fun z => by injection z; omega)).trans (n2 n x h)
  refine made_ok (C := C1 prg Z) (c := [6]) (j := [7]) (nb := [8]) F ((f3 _ (by decide)).trans hp) ((f3 _ (by decide)).trans ht) ((f3 _ (by decide)).trans hb) (n3 6 [] (by decide)) (n3 7 [] (by decide)) (n3 8 [] (by decide)) (by decide) (by decide) (by decide) fun g4 h6 h8 f4 => ?_
  have n4 : ∀ (n : Nat) (x : List Nat), 9 ≤ n → g4 (n :: x) = none := fun n x h => (f4 _ (fun z => by injection z; omega) (fun z => by injection z; omega) (fun z => by injection z; omega)).trans (n3 n x (by omega))
  have e4 : ∀ k, k < 6 → k ≠ 0 → g4 [k] = g2 [k] := fun k h1 h2 => (f4 _ (fun z => by injection z; omega) (fun z => by injection z; omega) (fun z => by injection z; omega)).trans (f3 _ (fun z => by injection z; omega))
  have CF4 : CF ts rows [8] (.seq true gd) dp wd dl bn [6] g4 := ⟨h6, h8, cfg_nd F, fun w hw => (F.rf w hw).2.2.1, by have := F.lr; omega⟩
  refine ⟨[9], n4 9 [] (by decide), ?_⟩
  rw [sm_ini]
  refine sinit_ok (C := C1 prg Z) (j := [13]) (F := ⟨(up_ne _ _ (by decide)).trans CF4.hc, (up_ne _ _ (by decide)).trans CF4.hb, CF4.nd, CF4.hr, CF4.l⟩) (up_same _ _ _) ((up_ne _ _ (by decide)).trans (n4 13 [] (by decide))) fun g5 h9 f5 => ⟨rfl, kq ?_⟩
  have e5 : ∀ k, k ≠ 9 → k ≠ 13 → g5 [k] = g4 [k] := fun k h1 h2 => (f5 _ (fun z => by injection z; omega) (fun z => by injection z; omega)).trans (up_ne _ _ (fun z => by injection z; omega))
  have n5 : ∀ (n : Nat) (x : List Nat), 10 ≤ n → n ≠ 13 → g5 (n :: x) = none := fun n x h h2 => (f5 _ (fun z => by injection z; omega) (fun z => by injection z; omega)).trans ((up_ne _ _ (fun z => by injection z; omega)).trans (n4 n x (by omega)))
  unfold t40_4 q40_4
  simp
  refine ⟨[10], n5 10 [] (by decide) (by decide), kq ?_⟩
  refine st5 (Z := D5 Z) (si := [9]) (tb := [10]) (pd := [5]) (ti := [1]) (bi := [2]) F hsd (by rw [up_ne _ _ (by decide), e5 5 (by decide) (by decide), e4 5 (by decide) (by decide)]; exact hp) (by rw [up_ne _ _ (by decide), e5 1 (by decide) (by decide), e4 1 (by decide) (by decide)]; exact ht) (by rw [up_ne _ _ (by decide), e5 2 (by decide) (by decide), e4 2 (by decide) (by decide)]; exact hb) (up_same _ _ _) (by decide) (by decide) (by decide) fun g6 y6 h10 f6 => ?_
  have e6 : ∀ j, j ≠ [10] → g6 j = g5 j := fun j h => (f6 j h).trans (up_ne _ _ h)
  -- what sheet and table have
  have hw : ∀ w ∈ opw ts rows sd, w.ac ∈ nm4 q.1 := fun w h => by
    have h := (List.mem_filter.mp h).1
    rcases hac w h with z | z
    · exact List.mem_append_left _ z
    · rw [z]
      exact List.mem_append_right _ (List.mem_singleton.mpr rfl)
  have lw : (opw ts rows sd).length ≤ 1000 := Nat.le_trans (List.length_filter_le _ _) (by have := F.lr; omega)
  have R0 := rel_op (opw ts rows sd) fun w h z => nm4_e q.1 hq (z ▸ hw w h)
  have I0 := si_up (si_opf (opw ts rows sd) hw) lw
  obtain ⟨nd0, l0⟩ := opT_ok (opw ts rows sd)
  generalize opf (opw ts rows sd) = s0 at h9 R0 I0
  generalize opT (opw ts rows sd) = T0 at h10 R0 nd0 l0
  have P0 : Pl q.1 s0 T0 (1000 + 2 * 0) := ⟨R0, I0, by omega⟩
  have lb := I0.lb
  have lv := I0.lv
  have ln := I0.ln
  have n6 : ∀ (n : Nat) (x : List Nat), 11 ≤ n → n ≠ 13 → g6 (n :: x) = none := fun n x h h2 => (e6 _ (fun z => by injection z; omega)).trans (n5 n x (by omega) h2)
  unfold t40_6 q40_6
  simp
  refine ⟨[12], n6 12 [] (by decide) (by decide), [11], by simp [n6 11 [] (by decide) (by decide)], kq ?_⟩
  generalize hg7 : up (up g6 [12] _) [11] _ = g7
  have h12 : g7 [12] = some (.ct (.dct [])) := by rw [← hg7, up_ne _ _ (by decide), up_same]
  have h11 : g7 [11] = some (.ct (.lst [.ref [9], .ref [12]])) := by rw [← hg7, up_same]
  have e7 : ∀ j, j ≠ [11] → j ≠ [12] → g7 j = g6 j := fun j a b => by rw [← hg7, up_ne _ _ a, up_ne _ _ b]
  clear hg7
  refine st7 (Z := D5 Z) (si := [9]) (tb := [10]) (kl := [11]) (kd := [12]) (T := T0) ((e7 _ (by decide) (by decide)).trans h10) nd0 (by omega) h11 h12 (fun g8 y8 h12' f8 => ?_) (by decide)
  have h9' : g8 [9] = some (shO [6] sd s0) := by rw [f8 _ (by decide), e7 _ (by decide) (by decide), e6 _ (by decide)]; exact h9
  have n8 : ∀ (n : Nat) (x : List Nat), 14 ≤ n → g8 (n :: x) = none := fun n x h => by
    rw [f8 _ (fun z => by injection z; omega), e7 _ (fun z => by injection z; omega) (fun z => by injection z; omega)]
    exact n6 n x (by omega) (by omega)
  have e8 : ∀ k, k ≠ 12 → k ≠ 11 → k ≠ 10 → g8 [k] = g5 [k] := fun k a b c => by
    rw [f8 _ (fun z => a (by injection z)), e7 _ (fun z => b (by injection z)) (fun z => a (by injection z)), e6 _ (fun z => c (by injection z))]
  have CF8 : CF ts rows [8] (.seq true gd) dp wd dl bn [6] g8 := ⟨by rw [e8 6 (by decide) (by decide) (by decide), e5 6 (by decide) (by decide)]; exact CF4.hc, by rw [e8 8 (by decide) (by decide) (by decide), e5 8 (by decide) (by decide)]; exact CF4.hb, CF4.nd, CF4.hr, CF4.l⟩
  have mc : prg.mth 4 29 = some 1 := by decide
  unfold t40_8 q40_8
  simp [h9', mc]
  refine copy_ok (C := Z) (i2 := [14]) (j := [15]) CF8 h9' ⟨by omega, by omega, by omega⟩ I0.nd (n8 14 [] (by decide)) (n8 15 [] (by decide)) (by decide) fun g9 h14 f9 => ?_
  have h11' : g9 [11] = some (.ct (.lst [.ref [9], .ref [12]])) := by rw [f9 _ (by decide) (by decide), f8 _ (by decide)]; exact h11
  have ix : idxN 0 2 = some 0 := by decide
  simp [h11', ix]
  refine kq ?_
  generalize hg10 : up g9 [11] _ = g10
  have h11'' : g10 [11] = some (.ct (.lst [.ref [14], .ref [12]])) := by rw [← hg10, up_same]
  have e10 : ∀ j, j ≠ [11] → j ≠ [14] → j ≠ [15] → g10 j = g8 j := fun j a b c => by rw [← hg10, up_ne _ _ a, f9 _ b c]
  have hh14 : g10 [14] = some (shO [6] sd s0) := by rw [← hg10, up_ne _ _ (by decide)]; exact h14
  clear hg10
  have S : St ns ts rows gd dp wd dl bn sd s0 T0 9 s0 T0 20 g10 := by
    have k1 : ∀ k, k ≠ 11 → k ≠ 14 → k ≠ 15 → g10 [k] = g8 [k] := fun k a b c => e10 _ (fun z => a (by injection z)) (fun z => b (by injection z)) (fun z => c (by injection z))
    refine ⟨?_, ?_, ?_, ⟨?_, ?_, CF8.nd, CF8.hr, CF8.l⟩, ?_, h11'', ?_, hh14, ?_, fun n x h => ?_, .inl rfl⟩
    · exact pot_fr I3 (by rw [k1 0 (by decide) (by decide) (by decide), e8 0 (by decide) (by decide) (by decide), e5 0 (by decide) (by decide), f4 _ (by decide) (by decide) (by decide)])
    · rw [k1 1 (by decide) (by decide) (by decide), e8 1 (by decide) (by decide) (by decide), e5 1 (by decide) (by decide), e4 1 (by decide) (by decide)]
      exact ht
    · rw [k1 5 (by decide) (by decide) (by decide), e8 5 (by decide) (by decide) (by decide), e5 5 (by decide) (by decide), e4 5 (by decide) (by decide)]
      exact hp
    · rw [k1 6 (by decide) (by decide) (by decide)]
      exact CF8.hc
    · rw [k1 8 (by decide) (by decide) (by decide)]
      exact CF8.hb
    · rw [k1 10 (by decide) (by decide) (by decide), f8 _ (by decide), e7 _ (by decide) (by decide)]
      exact h10
    · rw [k1 12 (by decide) (by decide) (by decide)]
      exact h12'
    · rw [k1 9 (by decide) (by decide) (by decide)]
      exact h9'
    · rw [e10 _ (fun z => by injection z; omega) (fun z => by injection z; omega) (fun z => by injection z; omega)]
      exact n8 n x (by omega)
  unfold t40_9
  rw [bt40_9, x_cons, x_for]
  simp
  have fd : 0 ≤ ((ns.length : Int)).fdiv 2 := Int.fdiv_nonneg (by omega) (by decide)
  refine ⟨by split <;> omega, ?_⟩
  generalize hN : (3 + if (27 : Int) < ((ns.length : Int)).fdiv 2 then 27 else ((ns.length : Int)).fdiv 2).toNat = N
  have hN2 : N ≤ 30 := by rw [← hN]; split <;> omega
  refine for_rng (fun n r g' => ∃ a s T y9 y10 y11 y12 y13 y14 y15 y16 y17, r = Row (some (.val (.giv ns))) sd a y6 y8 y9 y10 y11 y12 y13 y14 y15 y16 y17 ∧ St ns ts rows gd dp wd dl bn sd s0 T0 a s T (20 + 2 * n) g' ∧ a < 20 + 2 * n ∧ Pl q.1 s T (1000 + 2 * n)) ⟨9, s0, T0, none, none, none, none, none, none, none, none, none, rfl, S, by decide, P0⟩ ?_ ?_
  · rintro n r g' Kc hn ⟨a, s, T, y9, y10, y11, y12, y13, y14, y15, y16, y17, rfl, S', am, P'⟩ hn2 _ _ _
    refine turn S' F hgd hq P' (by omega) rfl am fun a' s' T' z10 z11 z12 z13 z14 z15 z16 z17 g'' S'' am' P'' => ?_
    exact (hn2 _ _ ⟨a', s', T', _, _, _, _, _, _, _, _, _, rfl, S'', by omega, P''⟩).1
  · rintro r g' ⟨a, s, T, y9, y10, y11, y12, y13, y14, y15, y16, y17, rfl, S', am, P'⟩
    refine kq ?_
    unfold t40_10 q40_10
    have k1 := S'.kl
    have a0 : L2.atI [D.ref [14], .ref [12]] 0 = some (.ref [14]) := by simp [L2.atI, L2.ixN]
    have a1 : L2.atI [D.ref [14], .ref [12]] 1 = some (.ref [12]) := by simp [L2.atI, L2.ixN]
    simp [k1, a0, a1]
    refine right_ok (C := C1 prg (C1 prg Z)) F hgd hq S'.pd S'.tks S'.sh0 ⟨by omega, by omega, by omega⟩ S'.kd R0 I0 ?_
    simp
theorem plain : PlainLaw prg 20 40 := fun ns _ => law_ok ns
end L_k10_sheet

open PySem PySem.W PySem.Calls PyProof.Rows
theorem PySem.Challenge.cw_vaultbridge_k10_sheet_holds : PySem.Challenge.rw_vaultbridge_k10_sheet.Holds := by
  w_on; o_law
  refine HandSHeadRun.head_any (r := OpenLaw.row PySem.Challenge.rw_vaultbridge_k10_sheet) (q := view (OpenLaw.row PySem.Challenge.rw_vaultbridge_k10_sheet).prog [29]) (H := L_k10_sheet.hk) (ob := L_k10_sheet.ob) (M := 4000) (loose := ["_wall", "__name__", "BridgeError", "InvalidArgument", "UnknownToken", "NotEnoughBalance", "Sheet", "MOST_SIGNS", "is_account", "is_count", "is_set", "SIDES", "MOST_TOKEN_SIGNS", "MOST_BUNDLED", "Config", "_law_pot", "_law_next", "_law_is_int", "_law_same", "_law_set", "_law_config", "_law_made", "_law_do", "_law_due", "_law_right"]) (d := HandSHeadRun.topDef (OpenLaw.row PySem.Challenge.rw_vaultbridge_k10_sheet).prog 29) (kwd := []) L_k10_sheet.ob_eq
    (by kernel_rfl) (fun s => by kernel_rfl) L_k10_sheet.run (by kernel_rfl) (by kernel_rfl) (by kernel_rfl) (by rfl) (by first | assumption | decide +kernel) (by decide +kernel) ⟨rfl, rfl, rfl, rfl, rfl, by decide +kernel⟩ ?hw ?hc
  case hw => w_witness2
  case hc =>
    refine Vb.walk_V (l := PySem.Challenge.rw_vaultbridge_k10_sheet) (most := 63) (k := 2 * 20) (x := "_law_script") rfl (by decide) (by kernel_rfl) ⟨rfl, by decide, by decide⟩ ?F
    intro w mg fa h Y G hmg0
    have hmg : mg ("law" : PySem.Str) = some (.ref fa) := by
      have e : (HandSHeadRun.topDef (OpenLaw.row PySem.Challenge.rw_vaultbridge_k10_sheet).prog 29).name = ("law" : PySem.Str) := by kernel_rfl
      rw [← e]
      exact hmg0
    exact Vb.law_F L_k10_sheet.tab_ok L_k10_sheet.bind_ok L_k10_sheet.key_ok (f := 40) (nm := "law") rfl rfl rfl rfl rfl L_k10_sheet.plain w mg fa h Y G hmg
