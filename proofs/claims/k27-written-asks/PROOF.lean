import PyProof.Rows.All
import Wide.All
import OpenK.AllK
import Wide.FinOn
import HandS.ForMost
import HandS.More
import HandS.Exc
import HandS.ExcOwn
import HandS.TryOnly
import HandS.TupAny
import HandS.TupMul
import HandS.Flow
import HandS.IsInst
import HandS.Deep
import HandS.Zip
import HandS.Wide
import HandS.Style
import HandS.Walk
import HandS.RaiseMore
import KE.GoesNew
import HandS.Small
import HandS.DictComp
import HandS.SetFor
import HandS.Conv
import KE.KDictZip
import KE.GoesZip
import HandS.Head0
import HandS.Head1
import HandS.Head2
import HandS.HeadEnd
import HandS.HeadHook1
import HandS.HeadHook2
import HandS.HeadHook3
import HandS.HeadHook4
import PyProof.StrLawsIn
import PyProof.StrLawsRepr
import PySem.Challenge.RW_arenaplaces_k27_written_asks
set_option Elab.async false
set_option linter.all false
set_option maxRecDepth 100000
/-! Ev1: values without a heap, stores, a small language and what it computes. -/
namespace Ev
open PySem PySem.Spec PyProof.Rows L2

/-! ### values -/
inductive D where
  | non | bl (b : Bool) | int (i : Int) | str (x : Str)
  | tup (xs : List D) | lst (xs : List D) | dct (kvs : List (Key × D)) | ref (n : Nat)
inductive Ob where
  | lst (xs : List D) | dct (kvs : List (Key × D)) | ins (C : Nat) (fs : List (Nat × D))
structure Sto where
  nx : Nat
  ob : List (Nat × Ob)
def lookN {α : Type} (n : Nat) : List (Nat × α) → Option α
  | [] => none
  | (m, o) :: r => if m = n then some o else lookN n r
def upN {α : Type} (n : Nat) (o : α) : List (Nat × α) → List (Nat × α)
  | [] => []
  | (m, p) :: r => if m = n then (m, o) :: r else (m, p) :: upN n o r
def Sto.get (s : Sto) (n : Nat) : Option Ob := lookN n s.ob
def Sto.put (s : Sto) (n : Nat) (o : Ob) : Sto := ⟨s.nx, upN n o s.ob⟩
def Sto.new (s : Sto) (o : Ob) : Sto := ⟨s.nx + 1, (s.nx, o) :: s.ob⟩
theorem look_up_same {α : Type} {n : Nat} {o p : α} : ∀ {l : List (Nat × α)}, lookN n l = some p → lookN n (upN n o l) = some o
  | (m, q) :: r, h => by
    unfold lookN at h; unfold upN
    by_cases e : m = n
    · rw [if_pos e]; unfold lookN; rw [if_pos e]
    · rw [if_neg e] at h ⊢; unfold lookN; rw [if_neg e]; exact look_up_same h
theorem look_up_ne {α : Type} {n k : Nat} {o : α} (hk : k ≠ n) : ∀ {l : List (Nat × α)}, lookN k (upN n o l) = lookN k l
  | [] => rfl
  | (m, q) :: r => by
    unfold upN
    by_cases e : m = n
    · rw [if_pos e]; unfold lookN; rw [if_neg (fun z : m = k => hk (z.symm.trans e)), if_neg (fun z : m = k => hk (z.symm.trans e))]
    · rw [if_neg e]; unfold lookN; rw [look_up_ne hk]
theorem Sto.get_put {s : Sto} {n : Nat} {o p : Ob} (h : s.get n = some p) : (s.put n o).get n = some o := look_up_same h
theorem Sto.get_put_ne {s : Sto} {n k : Nat} {o : Ob} (h : k ≠ n) : (s.put n o).get k = s.get k := look_up_ne h
theorem Sto.get_new {s : Sto} {o : Ob} : (s.new o).get s.nx = some o := by unfold Sto.get Sto.new lookN; exact if_pos rfl
theorem Sto.get_new_ne {s : Sto} {o : Ob} {k : Nat} (h : k ≠ s.nx) : (s.new o).get k = s.get k := by
  show lookN k ((s.nx, o) :: s.ob) = _
  conv => lhs; unfold lookN
  rw [if_neg (fun e => h e.symm)]; rfl

structure Exn where
  cls : Nat
  fs : List (Nat × D)
inductive R (α : Type) where
  | ok (a : α) (s : Sto) | ex (e : Exn) (s : Sto) | no
abbrev M (α : Type) := Sto → R α
def ret {α : Type} (a : α) : M α := fun s => .ok a s
def no {α : Type} : M α := fun _ => .no
def bnd {α β : Type} (m : M α) (f : α → M β) : M β := fun s => match m s with
  | .ok a s' => f a s'
  | .ex e s' => .ex e s'
  | .no => .no
/-- a pure answer, if there is one -/
def opt {α : Type} : Option α → M α
  | some a => ret a
  | none => no

/-- a local's slot: nothing, a value, a list of its own, a dict of its own -/
inductive Sl where
  | no | val (d : D) | own (xs : List D) | owd (kvs : List (Key × D))
abbrev En := List Sl
def En.at : En → Nat → Sl
  | [], _ => .no
  | x :: _, 0 => x
  | _ :: r, n + 1 => En.at r n
def En.set : En → Nat → Sl → En
  | [], _, _ => []
  | _ :: r, 0, y => y :: r
  | x :: r, n + 1, y => x :: En.set r n y

/-! ### attributes: numbers that stand for names -/
def digN : Nat → Nat → List Nat
  | 0, _ => []
  | k + 1, n => if n = 0 then [] else (n % 128) :: digN k (n / 128)
def valN : List Nat → Nat
  | [] => 0
  | d :: r => d + 128 * valN r
theorem val_dig : ∀ (k n : Nat), n ≤ k → valN (digN k n) = n
  | 0, n, h => by have : n = 0 := by omega
                  subst this; rfl
  | k + 1, n, h => by
    unfold digN
    by_cases z : n = 0
    · rw [if_pos z]; exact z.symm
    · rw [if_neg z]
      show n % 128 + 128 * valN (digN k (n / 128)) = n
      rw [val_dig k (n / 128) (by omega)]; omega
/-- the name for which a number stands: its signs, the first one the lowest digit by 128 -/
def fnm (n : Nat) : Str := ⟨(digN n n).toArray⟩
theorem fnm_inj {m n : Nat} (h : fnm m = fnm n) : m = n := by
  have h1 : (digN m m).toArray = (digN n n).toArray := congrArg Str.cps h
  have h2 : digN m m = digN n n := by simpa using h1
  rw [← val_dig m m (Nat.le_refl _), ← val_dig n n (Nat.le_refl _), h2]
def getF {α : Type} (f : Nat) : List (Nat × α) → Option α
  | [] => none
  | (g, d) :: r => if g = f then some d else getF f r
def setF {α : Type} (f : Nat) (d : α) : List (Nat × α) → List (Nat × α)
  | [] => [(f, d)]
  | (g, x) :: r => if g = f then (g, d) :: r else (g, x) :: setF f d r

/-! ### plain helpers -/
def obL : Option Ob → Option (List D)
  | some (.lst xs) => some xs
  | _ => none
def obD : Option Ob → Option (List (Key × D))
  | some (.dct xs) => some xs
  | _ => none
def lv : D → Sto → Option (List D)
  | .lst xs, _ => some xs
  | .ref n, s => obL (s.get n)
  | _, _ => none
def sq : D → Sto → Option (List D)
  | .tup xs, _ => some xs
  | d, s => lv d s
def dv : D → Sto → Option (List (Key × D))
  | .dct kvs, _ => some kvs
  | .ref n, s => obD (s.get n)
  | _, _ => none
def keyD : D → Option Key
  | .int i => some (.inl i)
  | .str x => some (.inr x)
  | _ => none
def keyV : Key → D
  | .inl i => .int i
  | .inr x => .str x
mutual
def py : D → Option PyData
  | .non => some .none
  | .bl b => some (.bool b)
  | .int i => some (.int i)
  | .str x => some (.str x)
  | .tup xs => (pys xs).map .tuple
  | .lst xs => (pys xs).map .list
  | .dct _ => none
  | .ref _ => none
def pys : List D → Option (List PyData)
  | [] => some []
  | x :: r => match py x, pys r with
    | some a, some b => some (a :: b)
    | _, _ => none
end
def pyv (d : D) (s : Sto) : Option PyData := match d with
  | .ref n => (obL (s.get n)).bind fun xs => (pys xs).map .list
  | d => py d
def getK {α : Type} (kvs : List (Key × α)) (k : Key) : Option α := (kvs.find? fun kv => decide (kv.1 = k)).map (·.2)
def setK {α : Type} (kvs : List (Key × α)) (k : Key) (v : α) : List (Key × α) :=
  if (kvs.any fun kv => decide (kv.1 = k)) = true then kvs.map (fun kv => if kv.1 = k then (kv.1, v) else kv) else kvs ++ [(k, v)]
/-- a dict of texts is not asked for ints -/
def kfit {α : Type} (kvs : List (Key × α)) : Key → Bool
  | .inr _ => true
  | .inl _ => kvs.isEmpty || kvs.any fun p => p.1.isLeft
/-- a dict of these, in order -/
def mkD {α : Type} (ps : List (Key × α)) : List (Key × α) := ps.foldl (fun a p => setK a p.1 p.2) []
/-- a list as a new value, if it is not too long -/
def mkL (xs : List D) : M D := if xs.length ≤ sizeLine then ret (.lst xs) else no
def mkT (xs : List D) : M D := if xs.length ≤ sizeLine then ret (.tup xs) else no
def truth : D → M Bool
  | .non => ret false
  | .bl b => ret b
  | .int i => ret (i != 0)
  | .str x => if x.length ≤ sizeLine then ret ((x.length : Int) != 0) else no
  | .tup xs => ret (!xs.isEmpty)
  | .lst xs => ret (!xs.isEmpty)
  | .dct _ => no
  | .ref n => fun s => match s.get n with
    | some (.lst xs) => .ok (!xs.isEmpty) s
    | _ => .no

inductive BO where
  | add | sub | mul | fdiv | mod | pow | addn
inductive CO where
  | eq | ne | lt | le | gt | ge | is | isn | isin | nin
  deriving DecidableEq

def mulOk (i j : Int) : Bool := (decide (-(2 ^ 64) < i) && decide (i < 2 ^ 64)) || (decide (-(2 ^ 64) < j) && decide (j < 2 ^ 64))
/-- a text n times -/
def repS (x : Str) (n : Nat) : Str := ⟨(List.replicate n x.cps.toList).flatten.toArray⟩
def addL (a b : D) : M D := fun s => match lv a s, lv b s with
  | some xs, some ys => mkL (xs ++ ys) s
  | _, _ => .no
/-- .. as a list of the store -/
def addN (a b : D) : M D := fun s => match lv a s, lv b s with
  | some xs, some ys => if xs.length + ys.length ≤ sizeLine then .ok (.ref s.nx) (s.new (.lst (xs ++ ys))) else .no
  | _, _ => .no
def opB : BO → D → D → M D
  | .add, .int i, .int j => ret (.int (i + j))
  | .add, .str x, .str y => if x.length + y.length ≤ sizeLine then ret (.str (x ++ y)) else no
  | .add, .tup xs, .tup ys => mkT (xs ++ ys)
  | .add, a, b => addL a b
  | .addn, a, b => addN a b
  | .sub, .int i, .int j => ret (.int (i - j))
  | .mul, .int i, .int j => if mulOk i j = true then ret (.int (i * j)) else no
  | .mul, .str x, .int n => if 0 ≤ n ∧ n ≤ 1000000 ∧ x.length * n.toNat ≤ 1000000 then ret (.str (repS x n.toNat)) else no
  | .mul, .tup xs, .int n => if xs.length ≠ 0 ∧ xs.length ≤ 1000 ∧ 2 ≤ n ∧ n ≤ 1000 then ret (.tup (List.replicate n.toNat xs).flatten) else no
  | .mul, .lst xs, .int n => if xs.length ≤ 1000 ∧ 0 ≤ n ∧ n ≤ 1000 then ret (.lst (List.replicate n.toNat xs).flatten) else no
  | .fdiv, .int i, .int j => if 0 < j ∧ (j < 1073741824 ∨ j.natAbs.log2 < 9000) then ret (.int (i / j)) else no
  | .mod, .int i, .int j => if 0 < j then ret (.int (i % j)) else no
  | .pow, .int i, .int j => if 0 ≤ j ∧ j ≤ 1000000 ∧ i.natAbs < 18446744073709551616 then ret (.int (i ^ j.toNat)) else no
  | _, _, _ => no
def eqD (a b : D) : M Bool := fun s => match pyv a s, pyv b s with
  | some p, some q => if min p.depth q.depth ≤ 100 then .ok (PyData.eqv p q) s else .no
  | _, _ => .no
/-- what a reference stands for in the store -/
def viaL {α : Type} (n : Nat) (f : List D → M α) (g : List (Key × D) → M α) : M α := fun s => match s.get n with
  | some (.lst xs) => f xs s
  | some (.dct kvs) => g kvs s
  | _ => .no
def inSq (a : D) (ys : List D) : M Bool := match py a, pys ys with
  | some p, some qs => if min (PyData.depthAll qs) p.depth ≤ 100 then ret (qs.any fun y => PyData.eqv y p) else no
  | _, _ => no
def inDk (a : D) (kvs : List (Key × D)) : M Bool := match keyD a with
  | some k => if kfit kvs k = true then ret (getK kvs k).isSome else no
  | none => no
def isinD : D → D → M Bool
  | .str x, .str y => ret (!(Builtin.Str.occurrences y x 0 y.length 1).isEmpty)
  | a, .tup ys => inSq a ys
  | a, .lst ys => inSq a ys
  | a, .dct kvs => inDk a kvs
  | a, .ref n => viaL n (inSq a) (inDk a)
  | _, _ => no
def isD : D → D → Option Bool
  | .non, .non => some true
  | .bl _, .non => some false
  | .bl a, .bl b => some (a == b)
  | .int _, .non => some false
  | .str _, .non => some false
  | .tup _, .non => some false
  | .lst _, .non => some false
  | .dct _, .non => some false
  | .ref _, .non => some false
  | _, _ => none
def opC : CO → D → D → M D
  | .eq, a, b => bnd (eqD a b) fun t => ret (.bl t)
  | .ne, a, b => bnd (eqD a b) fun t => ret (.bl (!t))
  | .lt, .int i, .int j => ret (.bl (decide (i < j)))
  | .le, .int i, .int j => ret (.bl (decide (i ≤ j)))
  | .le, .str x, .str y => ret (.bl (!decide (y.cps.toList < x.cps.toList)))
  | .gt, .int i, .int j => ret (.bl (decide (j < i)))
  | .ge, .int i, .int j => ret (.bl (decide (j ≤ i)))
  | .is, a, b => bnd (opt (isD a b)) fun t => ret (.bl t)
  | .isn, a, b => bnd (opt (isD a b)) fun t => ret (.bl (!t))
  | .isin, a, b => bnd (isinD a b) fun t => ret (.bl t)
  | .nin, a, b => bnd (isinD a b) fun t => ret (.bl (!t))
  | _, _, _ => no
def ixL (b : D) (xs : List D) : M D := match b with
  | .int i => opt (atI xs i)
  | _ => no
def ixK (b : D) (kvs : List (Key × D)) : M D := match keyD b with
  | some k => if kfit kvs k = true then opt (getK kvs k) else no
  | none => no
def ixD : D → D → M D
  | .str x, .int i => if x.length ≤ sizeLine then opt ((atI x.cps.toList i).map fun c => .str ⟨#[c]⟩) else no
  | .tup xs, b => ixL b xs
  | .lst xs, b => ixL b xs
  | .dct kvs, b => ixK b kvs
  | .ref n, b => viaL n (ixL b) (ixK b)
  | _, _ => no
def cutL {α : Type} (xs : List α) (lo hi : Option Int) : List α := (xs.drop (HT.sIx xs.length 0 lo)).take (HT.sIx xs.length xs.length hi - HT.sIx xs.length 0 lo)
def slD (a : D) (lo hi : Option Int) : M D := match a with
  | .str x => if x.length ≤ sizeLine then ret (.str (cutS x lo hi)) else no
  | .tup xs => ret (.tup (cutL xs lo hi))
  | .lst xs => ret (.lst (cutL xs lo hi))
  | .ref n => viaL n (fun xs => ret (.lst (cutL xs lo hi))) (fun _ => no)
  | _ => no
def revD (a : D) : M D := match a with
  | .tup xs => ret (.tup xs.reverse)
  | .lst xs => ret (.lst xs.reverse)
  | .ref n => viaL n (fun xs => ret (.lst xs.reverse)) (fun _ => no)
  | _ => no
def asI : D → M (Option Int)
  | .int i => ret (some i)
  | _ => no

/-! ### built-ins -/
inductive BF where
  | len | abs | int | str | repr | list | tuple | sum | all | any | max | min | sorted | listn | dict
inductive MF where
  | join | upper | get | append | pop | items
inductive TyN where
  | str | int | bool | tuple | list
  deriving DecidableEq
def isTy (t : TyN) : D → M Bool
  | .non => ret false
  | .bl _ => ret (t == .bool || t == .int)
  | .int _ => ret (t == .int)
  | .str _ => ret (t == .str)
  | .tup _ => ret (t == .tuple)
  | .lst _ => ret (t == .list)
  | .dct _ => no
  | .ref n => viaL n (fun _ => ret (t == .list)) (fun _ => no)
def intsD : List D → Option (List Int)
  | [] => some []
  | .int i :: r => (intsD r).map (i :: ·)
  | _ => none
def strsD : List D → Option (List Str)
  | [] => some []
  | .str x :: r => (strsD r).map (x :: ·)
  | _ => none
def blsD : List D → Option (List Bool)
  | [] => some []
  | .bl x :: r => (blsD r).map (x :: ·)
  | _ => none
def showOk (p : PyData) : Bool := p.showable && decide (p.shown.length ≤ sizeLine) && decide (p.depth ≤ 100)
/-- a list's or tuple's items, put to f -/
def seqM (f : List D → M D) : D → M D
  | .tup xs => f xs
  | .lst xs => f xs
  | .ref n => viaL n f (fun _ => no)
  | _ => no
def lstM (f : List D → M D) : D → M D
  | .lst xs => f xs
  | .ref n => viaL n f (fun _ => no)
  | _ => no
def sumL (xs : List D) : M D := match intsD xs with
  | some ns => ret (.int ns.sum)
  | none => no
def allL (xs : List D) : M D := match blsD xs with
  | some bs => ret (.bl (bs.all id))
  | none => no
def anyL (xs : List D) : M D := match blsD xs with
  | some bs => ret (.bl (bs.any id))
  | none => no
def joinL (a : Str) (xs : List D) : M D := match strsD xs with
  | some ys => if (ys.map (·.length)).sum + ys.length * a.length ≤ 16777216 then ret (.str (Str.join a ys)) else no
  | none => no
def reprD (d : D) : M D := fun s => match pyv d s with
  | some p => if showOk p = true then .ok (.str p.shown) s else .no
  | none => .no
def keysI : List (Key × D) → Option (List Int)
  | [] => some []
  | (.inl i, _) :: r => (keysI r).map (i :: ·)
  | _ => none
/-- a dict's keys, or a list's or tuple's items, put to f -/
def keysOr (f : List D → M D) : D → M D
  | .tup xs => f xs
  | .lst xs => f xs
  | .ref n => viaL n f (fun kvs => match keysI kvs with
    | some ks => f (ks.map .int)
    | none => no)
  | _ => no
def insS (x : Int) : List Int → List Int
  | [] => [x]
  | y :: r => if x ≤ y then x :: y :: r else y :: insS x r
def sortK (kvs : List (Key × D)) : M D := match keysI kvs with
  | some ks => if ks.length < 64 then ret (.lst ((ks.foldr insS []).map .int)) else no
  | none => no
def blt : BF → List D → M D
  | .len, [.str x] => if x.length ≤ sizeLine then ret (.int x.length) else no
  | .len, [d] => seqM (fun xs => ret (.int xs.length)) d
  | .abs, [.int i] => ret (.int (if i < 0 then -i else i))
  | .int, [.int i] => ret (.int i)
  | .int, [.bl b] => ret (.int (if b then 1 else 0))
  | .str, [.int i] => if i.natAbs.log2 < 1920 then ret (.str (toString i)) else no
  | .str, [.str x] => ret (.str x)
  | .str, [.tup xs] => reprD (.tup xs)
  | .repr, [d] => reprD d
  | .list, [.str x] => if x.length ≤ sizeLine then ret (.lst (x.cps.toList.map fun c => .str ⟨#[c]⟩)) else no
  | .list, [d] => keysOr (fun xs => ret (.lst xs)) d
  | .listn, [d] => seqM (fun xs s => .ok (.ref s.nx) (s.new (.lst xs))) d
  | .dict, [.ref n] => viaL n (fun _ => no) fun kvs s => .ok (.ref s.nx) (s.new (.dct kvs))
  | .sorted, [.ref n] => viaL n (fun _ => no) sortK
  | .tuple, [d] => seqM (fun xs => ret (.tup xs)) d
  | .sum, [d] => lstM sumL d
  | .all, [d] => lstM allL d
  | .any, [d] => lstM anyL d
  | .max, [.int i, .int j] => ret (.int (if j > i then j else i))
  | .min, [.int i, .int j] => ret (.int (if j < i then j else i))
  | _, _ => no
def getM (k e : D) (kvs : List (Key × D)) : M D := match keyD k with
  | some k => if kfit kvs k = true then ret ((getK kvs k).getD e) else no
  | none => no
def dctM (f : List (Key × D) → M D) : D → M D
  | .dct kvs => f kvs
  | .ref n => viaL n (fun _ => no) f
  | _ => no
def appS (n : Nat) (d : D) : M D := fun s => match s.get n with
  | some (.lst xs) => if xs.length < sizeLine then .ok .non (s.put n (.lst (xs ++ [d]))) else .no
  | _ => .no
def popS (n : Nat) : M D := fun s => match s.get n with
  | some (.lst xs) => match xs[xs.length - 1]? with
    | some d => .ok d (s.put n (.lst xs.dropLast))
    | none => .no
  | _ => .no
def mth : MF → D → List D → M D
  | .join, .str a, [d] => seqM (joinL a) d
  | .upper, .str a, [] => if a.length ≤ 5592405 ∧ PyData.strOk (Txt.upper a) = true then ret (.str (Txt.upper a)) else no
  | .get, d, [k, e] => dctM (getM k e) d
  | .get, d, [k] => dctM (getM k .non) d
  | .append, .ref n, [d] => appS n d
  | .pop, .ref n, [] => popS n
  | _, _, _ => no

/-- is it a thing that has the method? -/
def rcv : MF → D → M Unit
  | .join, .str _ => ret ()
  | .upper, .str _ => ret ()
  | .get, .dct _ => ret ()
  | .get, .ref n => viaL n (fun _ => no) (fun _ => ret ())
  | .append, .ref n => viaL n (fun _ => ret ()) (fun _ => no)
  | .pop, .ref n => viaL n (fun _ => ret ()) (fun _ => no)
  | _, _ => no
/-! ### the small language -/
mutual
inductive Tn where
  | nm (i : Nat) | tp (ts : Tns)
inductive Tns where
  | nil | cons (t : Tn) (r : Tns)
end
mutual
inductive Ex where
  | var (i : Nat) | cst (d : D) | glb (i : Nat)
  | tup (es : Exs) | lst (es : Exs) | nls (es : Exs)
  | bin (o : BO) (a b : Ex) | neg (a : Ex) | not (a : Ex) | and (a b : Ex) | or (a b : Ex)
  | cmp (o : CO) (a b : Ex) | chn (o p : CO) (a b c : Ex) | ite (c : Te) (a b : Ex)
  | idx (a b : Ex) | rev (a : Ex) | slcL (a lo : Ex) | slcH (a hi : Ex) | slc (a lo hi : Ex)
  | call (f : Nat) (es : Exs) | blt (b : BF) (es : Exs) | isi (t : TyN) (a : Ex) | mth (m : MF) (o : Ex) (es : Exs)
  | lc (own : List Nat) (t : Tn) (it : Wi) (c : Te) (e : Ex)
  | dsp (ks : List Key) (es : Exs) | ndc
  | fld (a : Ex) (f : Nat) (cs : List Nat) | met (a : Ex) (m : Nat) (tab : List (Nat × Nat)) (es : Exs) | mk (C f : Nat) (es : Exs)
  | dc (own : List Nat) (t : Tn) (it : Wi) (c : Te) (k v : Ex) | lc2 (own own1 : List Nat) (t : Tn) (it : Wi) (c : Te) (t1 : Tn) (it1 : Wi) (c1 : Te) (e : Ex)
  | sset (a : Ex) | lset (a : Ex) | dzip (a b : Ex) | bad
  | rg1 (t : Bool) (a : Ex) | rg2 (t : Bool) (a b : Ex)
inductive Exs where
  | nil | cons (a : Ex) (r : Exs)
inductive Te where
  | yes | vl (x : Ex) | not (a : Te) | and (a b : Te) | or (a b : Te) | ite (c a b : Te)
inductive Wi where
  | seq (e : Ex) | rng (a : Ex) | rng2 (a b : Ex) | enu (a : Ex) | zip (a b : Ex)
end
def pkv (e : En) (i : Nat) : M D := match e.at i with
  | .val d => ret d
  | .own xs => ret (.lst xs)
  | .owd kvs => ret (.dct kvs)
  | .no => no
/-- a value to be read at once: of a name also a list of its own -/
def pk (x : Ex) (e : En) (m : M D) : M D := match x with
  | .var i => pkv e i
  | _ => m
def rdv (e : En) (i : Nat) : M D := match e.at i with
  | .val d => ret d
  | _ => no
mutual
def Tn.set : Tn → D → En → Option En
  | .nm i, d, e => some (e.set i (.val d))
  | .tp ts, .tup xs, e => ts.set xs e
  | .tp ts, .lst xs, e => ts.set xs e
  | .tp _, _, _ => none
def Tns.set : Tns → List D → En → Option En
  | .nil, [], e => some e
  | .cons t r, x :: xs, e => match t.set x e with
    | some e' => r.set xs e'
    | none => none
  | _, _, _ => none
end
def wipeE (e : En) : List Nat → En
  | [] => e
  | v :: vs => (wipeE e vs).set v .no
def items (d : D) : M (List D) := fun s => match d with
  | .tup xs => .ok xs s
  | .lst xs => .ok xs s
  | .str x => .ok (x.cps.toList.map fun c => .str ⟨#[c]⟩) s
  | _ => .no
def rngD (lo hi : Int) : M (List D) := if -(2 ^ 62) ≤ lo ∧ lo < 2 ^ 62 ∧ -(2 ^ 62) ≤ hi ∧ hi < 2 ^ 62 then
    ret ((List.range (hi - lo).toNat).map fun (i : Nat) => .int (lo + i)) else no
/-- list(range), tuple(range) -/
def rgaD (t : Bool) (lo hi : Int) : M D := if -(2 ^ 62) ≤ lo ∧ lo < 2 ^ 62 ∧ -(2 ^ 62) ≤ hi ∧ hi < 2 ^ 62 ∧ (hi - lo).toNat ≤ 2 ^ 24 then
    ret (if t = true then .tup ((List.range (hi - lo).toNat).map fun (i : Nat) => .int (lo + i)) else .lst ((List.range (hi - lo).toNat).map fun (i : Nat) => .int (lo + i))) else no
def rga1 (t : Bool) (x : D) : M D := match x with
  | .int j => rgaD t 0 j
  | _ => no
def rga2 (t : Bool) (x y : D) : M D := match x, y with
  | .int i, .int j => rgaD t i j
  | _, _ => no
def enuD (d : D) : M (List D) := match d with
  | .lst xs => ret (xs.zipIdx.map fun p => .tup [.int (p.2 : Nat), p.1])
  | .tup xs => ret (xs.zipIdx.map fun p => .tup [.int (p.2 : Nat), p.1])
  | _ => no
def zipD (a b : D) : M (List D) := match a, b with
  | .lst xs, .lst ys => ret ((xs.zip ys).map fun p => .tup [p.1, p.2])
  | _, _ => no
/-- no exception within -/
def nox {α : Type} (m : M α) : M α := fun s => match m s with
  | .ex _ _ => .no
  | r => r
/-- a comprehension over what it walks -/
def lcL (t : Tn) (e : En) (c : En → M Bool) (el : En → M D) : List D → List D → M (List D)
  | [], acc => ret acc
  | x :: xs, acc => match t.set x e with
    | none => no
    | some e' => bnd (nox (c e')) fun b => if b = true then bnd (nox (el e')) fun d => if acc.length < sizeLine then lcL t e c el xs (acc ++ [d]) else no else lcL t e c el xs acc
def lcGo (t : Tn) (e : En) (c : En → M Bool) (el : En → M D) (xs acc : List D) : M D := bnd (lcL t e c el xs acc) fun ys => ret (.lst ys)
/-- a dict comprehension -/
def dcL (t : Tn) (e : En) (c : En → M Bool) (ke ve : En → M D) : List D → List (Key × D) → M (List (Key × D))
  | [], acc => ret acc
  | x :: xs, acc => match t.set x e with
    | none => no
    | some e' => bnd (nox (c e')) fun b => if b = true then bnd (nox (ke e')) fun k => bnd (nox (ve e')) fun d => match keyD k with
        | some k => if acc.length < sizeLine then dcL t e c ke ve xs (setK acc k d) else no
        | none => no
      else dcL t e c ke ve xs acc
/-- two walks, one within the other -/
def lc2L (t : Tn) (e : En) (c : En → M Bool) (w : En → M (List D)) (t1 : Tn) (own1 : List Nat) (c1 : En → M Bool) (el : En → M D) : List D → List D → M (List D)
  | [], acc => ret acc
  | x :: xs, acc => match t.set x e with
    | none => no
    | some e' => bnd (nox (c e')) fun b => if b = true then bnd (nox (w e')) fun ys => bnd (lcL t1 (wipeE e' own1) c1 el ys acc) fun acc' => lc2L t e c w t1 own1 c1 el xs acc' else lc2L t e c w t1 own1 c1 el xs acc
/-- an attribute of an instance of one of these classes -/
def fldM (f : Nat) (cs : List Nat) (x : D) : M D := fun s => match x with
  | .ref n => (match s.get n with
    | some (.ins C fs) => if cs.contains C = true then (match getF f fs with
        | some d => .ok d s
        | none => .no) else .no
    | _ => .no)
  | _ => .no
/-- the def that an instance's method is -/
def rcvM (m : Nat) (tab : List (Nat × Nat)) (x : D) : M Nat := fun s => match x with
  | .ref n => (match s.get n with
    | some (.ins C fs) => (match getF m fs, lookN C tab with
      | none, some f => .ok f s
      | _, _ => .no)
    | _ => .no)
  | _ => .no
/-- a new instance -/
def mkM (C : Nat) (cf : List D → M D) (xs : List D) : M D := fun s => match cf (.ref s.nx :: xs) (s.new (.ins C [])) with
  | .ok .non s' => .ok (.ref s.nx) s'
  | .ok _ _ => .no
  | .ex x s' => .ex x s'
  | .no => .no
def putM (f : Nat) (cs : List Nat) (x d : D) : M Unit := fun s => match x with
  | .ref n => (match s.get n with
    | some (.ins C fs) => if cs.contains C = true ∧ fs.length < 1000 then .ok () (s.put n (.ins C (setF f d fs))) else .no
    | _ => .no)
  | _ => .no
/-- ints, each once, ascending -/
def insI (x : Int) : List Int → List Int
  | [] => [x]
  | y :: r => if x < y then x :: y :: r else if x = y then y :: r else y :: insI x r
def sortI (xs : List Int) : List Int := xs.foldr insI []
def ssetM (d : D) : M D := fun s => match lv d s with
  | some xs => (match intsD xs with
    | some ns => if ns.length < 4000 ∧ (sortI ns).length < 64 then .ok (.lst ((sortI ns).map .int)) s else .no
    | none => .no)
  | none => .no
def lsetM (d : D) : M D := fun s => match d with
  | .tup xs => (match intsD xs with
    | some ns => if ns.length < 4000 then .ok (.int (sortI ns).length) s else .no
    | none => .no)
  | _ => .no
def zipK : List D → List D → Option (List (Key × D))
  | k :: ks, d :: ds => match keyD k, zipK ks ds with
    | some k, some r => some ((k, d) :: r)
    | _, _ => none
  | _, _ => some []
def dzipM (a b : D) : M D := fun s => match sq a s, sq b s with
  | some ks, some ds => (match zipK ks ds with
    | some kvs => if ks.length < 4000 ∧ ds.length < 4000 then .ok (.dct (mkD kvs)) s else .no
    | none => .no)
  | _, _ => .no
/-- what a program gives: its defs -/
structure FE where
  call : Nat → List D → M D
  gl : List D
  fuel : Nat
mutual
def ev (fe : FE) : Ex → En → M D
  | .var i, e => rdv e i
  | .cst d, _ => ret d
  | .glb i, _ => opt fe.gl[i]?
  | .tup es, e => bnd (evs fe es e) mkT
  | .lst es, e => bnd (evs fe es e) mkL
  | .nls es, e => bnd (evs fe es e) fun xs s => if xs.length ≤ sizeLine then .ok (.ref s.nx) (s.new (.lst xs)) else .no
  | .bin o a b, e => bnd (pk a e (ev fe a e)) fun x => bnd (pk b e (ev fe b e)) fun y => opB o x y
  | .neg a, e => bnd (ev fe a e) fun x => match x with
    | .int i => ret (.int (-i))
    | _ => no
  | .not a, e => bnd (pk a e (ev fe a e)) fun x => bnd (truth x) fun t => ret (.bl (!t))
  | .and a b, e => bnd (ev fe a e) fun x => bnd (truth x) fun t => if t = true then ev fe b e else ret x
  | .or a b, e => bnd (ev fe a e) fun x => bnd (truth x) fun t => if t = true then ret x else ev fe b e
  | .cmp o a b, e => bnd (pk a e (ev fe a e)) fun x => bnd (pk b e (ev fe b e)) fun y => opC o x y
  | .chn o p a b c, e => bnd (ev fe a e) fun x => bnd (ev fe b e) fun y => bnd (opC o x y) fun z => match z with
    | .bl t => if t = true then bnd (ev fe c e) fun w => opC p y w else ret (.bl false)
    | _ => no
  | .ite c a b, e => bnd (evt fe c e) fun t => if t = true then ev fe a e else ev fe b e
  | .idx a b, e => bnd (pk a e (ev fe a e)) fun x => bnd (ev fe b e) fun y => ixD x y
  | .rev a, e => bnd (pk a e (ev fe a e)) revD
  | .slcL a lo, e => bnd (pk a e (ev fe a e)) fun x => bnd (ev fe lo e) fun l => bnd (asI l) fun i => slD x i none
  | .slcH a hi, e => bnd (pk a e (ev fe a e)) fun x => bnd (ev fe hi e) fun h => bnd (asI h) fun j => slD x none j
  | .slc a lo hi, e => bnd (pk a e (ev fe a e)) fun x => bnd (ev fe lo e) fun l => bnd (asI l) fun i => bnd (ev fe hi e) fun h => bnd (asI h) fun j => slD x i j
  | .call f es, e => bnd (evs fe es e) fun xs => fe.call f xs
  | .blt b es, e => bnd (evps fe es e) fun xs => blt b xs
  | .isi t a, e => bnd (pk a e (ev fe a e)) fun x => bnd (isTy t x) fun b => ret (.bl b)
  | .mth m o es, e => bnd (pk o e (ev fe o e)) fun x => bnd (rcv m x) fun _ => bnd (evs fe es e) fun xs => mth m x xs
  | .lc own t it c el, e => bnd (evi fe it e) fun xs => lcGo t (wipeE e own) (fun e' => evt fe c e') (fun e' => ev fe el e') xs []
  | .dsp ks es, e => bnd (evs fe es e) fun xs => if ks.length = xs.length ∧ ks.length ≤ 15 then ret (.dct (mkD (ks.zip xs))) else no
  | .ndc, _ => fun s => .ok (.ref s.nx) (s.new (.dct []))
  | .fld a f cs, e => bnd (ev fe a e) (fldM f cs)
  | .met a m tab es, e => bnd (ev fe a e) fun x => bnd (rcvM m tab x) fun f => bnd (evs fe es e) fun xs => fe.call f (x :: xs)
  | .mk C f es, e => bnd (evs fe es e) (mkM C (fe.call f))
  | .dc own t it c k v, e => bnd (evi fe it e) fun xs => bnd (dcL t (wipeE e own) (fun e' => evt fe c e') (fun e' => ev fe k e') (fun e' => ev fe v e') xs []) fun kvs => ret (.dct kvs)
  | .lc2 own own1 t it c t1 it1 c1 el, e => bnd (evi fe it e) fun xs => bnd (lc2L t (wipeE e own) (fun e' => evt fe c e') (fun e' => evi fe it1 e') t1 own1 (fun e' => evt fe c1 e') (fun e' => ev fe el e') xs []) fun ys => ret (.lst ys)
  | .sset a, e => bnd (ev fe a e) ssetM
  | .lset a, e => bnd (ev fe a e) lsetM
  | .dzip a b, e => bnd (ev fe a e) fun x => bnd (ev fe b e) fun y => dzipM x y
  | .bad, _ => no
  | .rg1 t a, e => bnd (ev fe a e) (rga1 t)
  | .rg2 t a b, e => bnd (ev fe a e) fun x => bnd (ev fe b e) fun y => rga2 t x y
def evs (fe : FE) : Exs → En → M (List D)
  | .nil, _ => ret []
  | .cons a r, e => bnd (ev fe a e) fun x => bnd (evs fe r e) fun xs => ret (x :: xs)
def evps (fe : FE) : Exs → En → M (List D)
  | .nil, _ => ret []
  | .cons a r, e => bnd (pk a e (ev fe a e)) fun x => bnd (evps fe r e) fun xs => ret (x :: xs)
def evt (fe : FE) : Te → En → M Bool
  | .yes, _ => ret true
  | .vl x, e => bnd (pk x e (ev fe x e)) truth
  | .not a, e => bnd (evt fe a e) fun t => ret (!t)
  | .and a b, e => bnd (evt fe a e) fun t => if t = true then evt fe b e else ret false
  | .or a b, e => bnd (evt fe a e) fun t => if t = true then ret true else evt fe b e
  | .ite c a b, e => bnd (evt fe c e) fun t => if t = true then evt fe a e else evt fe b e
def evi (fe : FE) : Wi → En → M (List D)
  | .seq a, e => bnd (ev fe a e) items
  | .rng a, e => bnd (pk a e (ev fe a e)) fun x => match x with
    | .int j => rngD 0 j
    | _ => no
  | .rng2 a b, e => bnd (ev fe a e) fun x => bnd (ev fe b e) fun y => match x, y with
    | .int i, .int j => rngD i j
    | _, _ => no
  | .enu a, e => bnd (ev fe a e) enuD
  | .zip a b, e => bnd (ev fe a e) fun x => bnd (ev fe b e) fun y => zipD x y
end

/-! ### statements -/
/-- targets within a tuple: a name, an attribute of what a name holds -/
inductive Tg where
  | nm (i : Nat) | fl (i f : Nat) (cs : List Nat)
abbrev Tgs := List Tg
mutual
inductive Sm where
  | asg (t : Tn) (e : Ex) | par (is : List Nat) (es : Exs)
  | own (i : Nat) (es : Exs) | ownl (i : Nat) (own : List Nat) (t : Tn) (it : Wi) (c : Te) (x : Ex) | owna (i : Nat) (a b : Ex) | owd (i : Nat) | app (i : Nat) (e : Ex) | dpt (i : Nat) (k v : Ex)
  | sti (o i e : Ex) | fst (o : Ex) (f : Nat) (cs : List Nat) (e : Ex) | unp (ts : Tgs) (e : Ex) | bad
  | exp (e : Ex) | ret (e : Ex) | retn | ifs (c : Te) (a b : Sms) | fr (t : Tn) (it : Wi) (b : Sms) | whl (c : Te) (b : Sms) | brk | cnt | pass
inductive Sms where
  | nil | cons (a : Sm) (r : Sms) | frz (i : Nat) (r : Sms)
end
inductive RS where
  | nx (e : En) (s : Sto) | rt (d : D) (s : Sto) | bk (e : En) (s : Sto) | ct (e : En) (s : Sto) | ex (x : Exn) (e : En) (s : Sto) | no
abbrev MS := En → Sto → RS
/-- run m, go on with f; the slots stay -/
def thns {α : Type} (m : M α) (f : α → Sto → RS) (e : En) (s : Sto) : RS := match m s with
  | .ok d s' => f d s'
  | .ex x s' => .ex x e s'
  | .no => .no
def seqS (a b : MS) : MS := fun e s => match a e s with
  | .nx e' s' => b e' s'
  | r => r
def forL (t : Tn) (body : MS) : List D → MS
  | [], e, s => .nx e s
  | x :: xs, e, s => match t.set x e with
    | none => .no
    | some e1 => match body e1 s with
      | .nx e2 s2 => forL t body xs e2 s2
      | .ct e2 s2 => forL t body xs e2 s2
      | .bk e2 s2 => .nx e2 s2
      | r => r
def whlL (c : En → M Bool) (body : MS) : Nat → MS
  | 0, _, _ => .no
  | n + 1, e, s => thns (c e) (fun b s1 => if b = true then (match body e s1 with
      | .nx e2 s2 => whlL c body n e2 s2
      | .ct e2 s2 => whlL c body n e2 s2
      | .bk e2 s2 => .nx e2 s2
      | r => r) else .nx e s1) e s
def setAll : List Nat → List D → En → Option En
  | [], [], e => some e
  | i :: is, d :: ds, e => setAll is ds (e.set i (.val d))
  | _, _, _ => none
def stiD (o i d : D) : M Unit := fun s => match o, i with
  | .ref n, .int k => match s.get n with
    | some (.lst xs) => match ixN xs.length k with
      | some j => .ok () (s.put n (.lst (xs.set j d)))
      | none => .no
    | some (.dct kvs) => if kvs.length < sizeLine then .ok () (s.put n (.dct (setK kvs (.inl k) d))) else .no
    | _ => .no
  | .ref n, .str k => match s.get n with
    | some (.dct kvs) => if kvs.length < sizeLine then .ok () (s.put n (.dct (setK kvs (.inr k) d))) else .no
    | _ => .no
  | _, _ => .no
def frzE (e : En) (i : Nat) : Option En := match e.at i with
  | .own xs => some (e.set i (.val (.lst xs)))
  | .owd kvs => some (e.set i (.val (.dct kvs)))
  | .val _ => some e
  | .no => none
def tgM (t : Tg) (d : D) (e : En) (s : Sto) : Option (En × Sto) := match t with
  | .nm i => some (e.set i (.val d), s)
  | .fl i f cs => (match e.at i with
    | .val x => (match putM f cs x d s with
      | .ok _ s1 => some (e, s1)
      | _ => none)
    | _ => none)
def tgsM : Tgs → List D → En → Sto → RS
  | [], [], e, s => .nx e s
  | t :: ts, d :: ds, e, s => (match tgM t d e s with
    | some (e1, s1) => tgsM ts ds e1 s1
    | none => .no)
  | _, _, _, _ => .no
mutual
def ex1 (fe : FE) : Sm → MS
  | .asg t x, e, s => thns (ev fe x e) (fun d s1 => match t.set d e with
    | some e1 => .nx e1 s1
    | none => .no) e s
  | .par is es, e, s => thns (evs fe es e) (fun ds s1 => match setAll is ds e with
    | some e1 => .nx e1 s1
    | none => .no) e s
  | .own i es, e, s => thns (evs fe es e) (fun xs s1 => if xs.length ≤ sizeLine then .nx (e.set i (.own xs)) s1 else .no) e s
  | .ownl i own t it c x, e, s => thns (bnd (evi fe it e) fun xs => lcL t (wipeE e own) (fun e' => evt fe c e') (fun e' => ev fe x e') xs []) (fun ys s1 => .nx (e.set i (.own ys)) s1) e s
  | .owna i a b, e, s => thns (pk a e (ev fe a e)) (fun x s1 => thns (pk b e (ev fe b e)) (fun y s2 => match lv x s2, lv y s2 with
    | some xs, some ys => if xs.length + ys.length ≤ sizeLine then .nx (e.set i (.own (xs ++ ys))) s2 else .no
    | _, _ => .no) e s1) e s
  | .owd i, e, s => .nx (e.set i (.owd [])) s
  | .app i x, e, s => match e.at i with
    | .own xs => thns (ev fe x e) (fun d s1 => if xs.length < sizeLine then .nx (e.set i (.own (xs ++ [d]))) s1 else .no) e s
    | _ => .no
  | .dpt i k v, e, s => match e.at i with
    | .owd kvs => thns (ev fe v e) (fun d s1 => thns (ev fe k e) (fun y s2 => match keyD y with
      | some k => if kvs.length < sizeLine then .nx (e.set i (.owd (setK kvs k d))) s2 else .no
      | none => .no) e s1) e s
    | _ => .no
  | .sti o i v, e, s => thns (ev fe v e) (fun d s1 => thns (ev fe o e) (fun x s2 => thns (ev fe i e) (fun y s3 => thns (stiD x y d) (fun _ s4 => .nx e s4) e s3) e s2) e s1) e s
  | .fst o f cs v, e, s => thns (ev fe v e) (fun d s1 => thns (ev fe o e) (fun x s2 => thns (putM f cs x d) (fun _ s3 => .nx e s3) e s2) e s1) e s
  | .unp ts v, e, s => thns (ev fe v e) (fun d s1 => match d with
    | .tup xs => tgsM ts xs e s1
    | .lst xs => tgsM ts xs e s1
    | _ => .no) e s
  | .bad, _, _ => .no
  | .exp x, e, s => thns (ev fe x e) (fun _ s1 => .nx e s1) e s
  | .ret x, e, s => thns (pk x e (ev fe x e)) (fun d s1 => .rt d s1) e s
  | .retn, _, s => .rt .non s
  | .ifs c a b, e, s => thns (evt fe c e) (fun t s1 => if t = true then exs fe a e s1 else exs fe b e s1) e s
  | .fr t it b, e, s => thns (evi fe it e) (fun xs s1 => forL t (fun e' s' => exs fe b e' s') xs e s1) e s
  | .whl c b, e, s => whlL (fun e' => evt fe c e') (fun e' s' => exs fe b e' s') fe.fuel e s
  | .brk, e, s => .bk e s
  | .cnt, e, s => .ct e s
  | .pass, e, s => .nx e s
def exs (fe : FE) : Sms → MS
  | .nil, e, s => .nx e s
  | .cons a r, e, s => match ex1 fe a e s with
    | .nx e1 s1 => exs fe r e1 s1
    | q => q
  | .frz i r, e, s => match frzE e i with
    | some e1 => exs fe r e1 s
    | none => .no
end
/-- a def: how many names, how many of them are parameters, its body -/
structure Fn where
  names : Nat
  params : Nat
  body : Sms
def startE (n : Nat) (ds : List D) : En := ds.map .val ++ List.replicate (n - ds.length) .no
def outS : RS → R D
  | .rt d s => .ok d s
  | .nx _ s => .ok .non s
  | .ex x _ s => .ex x s
  | _ => .no
def runF (fns : List Fn) (gl : List D) (fuel : Nat) : Nat → Nat → List D → M D
  | 0, _, _ => no
  | n + 1, f, ds => fun s => match fns[f]? with
    | some fn => if ds.length = fn.params then outS (exs ⟨runF fns gl fuel n, gl, fuel⟩ fn.body (startE fn.names ds) s) else .no
    | none => .no
end Ev
example (fe : Ev.FE) (d : Ev.D) (e : Ev.En) : Ev.ev fe (.cst d) e = Ev.ret d := rfl

set_option Elab.async false
set_option linter.all false
set_option maxRecDepth 100000
/-! Ev2: how values, stores and slots lie in a heap; what an answer is worth. -/
namespace Ev
open PySem PySem.Spec PyProof.Rows L2

abbrev Rho := Nat → Option Addr
def jn (F O : Hp) : Hp := fun a => match F a with
  | some o => some o
  | none => O a
/-- the written part: its objects, the world, where the own classes stand -/
structure Wd where
  K : PySem.W.Frag
  w : World
  ca : Nat → Addr
def KDV (Wo : Wd) (a : Addr) (kv : List (Key × V)) : Prop :=
  ∃ es n, KDict Wo.K Wo.w a es n ∧ (∀ x : Str, ∃ r, PySem.W.nsIn Wo.K a x = some r ∧ RelO (valV kv (Sum.inr x)) r) ∧ (∀ p ∈ kv, ∃ x, p.1 = Sum.inr x) ∧ kv ≠ []

/-- a list that nothing changes: tracked, or of the written part -/
def LsT (K : PySem.W.Frag) (G : Hp) (a : Addr) (vs : List V) : Prop :=
  Rd G a (.lst vs) ∨ ∃ (its : List Value) (n : Nat), K.lookup a = some { cls := .type "list", data := .seq its.toArray n } ∧ vs.length ≤ sizeLine ∧ Vals vs its
mutual
def DR (Wo : Wd) (G : Hp) (ρ : Rho) : D → V → Prop
  | .non, v => v = .non
  | .bl b, v => v = .bl b
  | .int i, v => v = .int i
  | .str x, v => v = .str x ∧ PyData.strOk x = true
  | .tup xs, v => ∃ a vs, v = .ref a ∧ SqT Wo.K G a vs ∧ DRs Wo G ρ xs vs
  | .lst xs, v => ∃ a vs, v = .ref a ∧ LsT Wo.K G a vs ∧ DRs Wo G ρ xs vs
  | .dct kvs, v => ∃ a kv, v = .ref a ∧ (G a = some (.dK kv) ∨ KDV Wo a kv) ∧ DRk Wo G ρ kvs kv
  | .ref n, v => ∃ a, v = .ref a ∧ ρ n = some a
def DRs (Wo : Wd) (G : Hp) (ρ : Rho) : List D → List V → Prop
  | [], vs => vs = []
  | x :: r, vs => ∃ v vr, vs = v :: vr ∧ DR Wo G ρ x v ∧ DRs Wo G ρ r vr
def DRk (Wo : Wd) (G : Hp) (ρ : Rho) : List (Key × D) → List (Key × V) → Prop
  | [], kv => kv = []
  | (k, d) :: r, kv => ∃ v kr, kv = (k, v) :: kr ∧ DR Wo G ρ d v ∧ DRk Wo G ρ r kr
end
def OR (Wo : Wd) (F : Hp) (ρ : Rho) : Ob → HO → Prop
  | .lst xs, h => ∃ vs, h = .lst vs ∧ DRs Wo F ρ xs vs
  | .dct kvs, h => ∃ kv, h = .dK kv ∧ DRk Wo F ρ kvs kv
  | .ins C fs, h => ∃ dx vs, h = .ins (Wo.ca C) dx vs ∧ fs.map (fun p => fnm p.1) = vs.map (·.1) ∧ DRs Wo F ρ (fs.map (·.2)) (vs.map (·.2))

structure Rl (Wo : Wd) (F O : Hp) (ρ : Rho) (st : Sto) (H : Hp) : Prop where
  fz : ∀ a o, F a = some o → H a = some o
  ob : ∀ n o, st.get n = some o → ∃ a h, ρ n = some a ∧ H a = some h ∧ OR Wo F ρ o h
  inj : ∀ m n a, ρ m = some a → ρ n = some a → m = n
  nf : ∀ n a, ρ n = some a → F a = none ∧ ∃ h, H a = some h
  nx : ∀ n, st.nx ≤ n → ρ n = none
  ow : ∀ a o, O a = some o → H a = some o ∧ F a = none ∧ ∀ n, ρ n ≠ some a

def Sl.isOwn : Sl → Bool
  | .own _ => true
  | .owd _ => true
  | _ => false
/-- one slot -/
def SR (Wo : Wd) (F O : Hp) (ρ : Rho) : Sl → Option V → Prop
  | .no, _ => True
  | .val d, v => ∃ u, v = some u ∧ DR Wo F ρ d u
  | .own xs, v => ∃ a vs, v = some (.ref a) ∧ O a = some (.lst vs) ∧ DRs Wo F ρ xs vs
  | .owd kvs, v => ∃ a kv, v = some (.ref a) ∧ O a = some (.dK kv) ∧ DRk Wo F ρ kvs kv
structure RE (Wo : Wd) (F O : Hp) (ρ : Rho) (e : En) (σ : L2.St) : Prop where
  len : e.length = σ.length
  at_ : ∀ i, i < σ.length → ∃ v, σ[i]? = some v ∧ SR Wo F O ρ (e.at i) v
  dis : ∀ i j a, (e.at i).isOwn = true → (e.at j).isOwn = true → σ[i]? = some (some (V.ref a)) → σ[j]? = some (some (V.ref a)) → i = j

/-- from one heap to a later one -/
structure Ext (F O : Hp) (ρ : Rho) (H F' O' : Hp) (ρ' : Rho) (H' : Hp) : Prop where
  f : ∀ a o, F a = some o → F' a = some o
  r : ∀ n a, ρ n = some a → ρ' n = some a
  nf : ∀ a o, F' a = some o → F a = some o ∨ H a = none ∨ ∃ u, O a = some u
  nr : ∀ n a, ρ' n = some a → ρ n = some a ∨ H a = none
  no : ∀ a o, O' a = some o → (∃ u, O a = some u) ∨ H a = none
  kp : ∀ a o, H a = some o → O a = none → (∀ n, ρ n ≠ some a) → H' a = some o
  al : ∀ a o, H a = some o → ∃ u, H' a = some u

theorem Ext.refl {F O : Hp} {ρ : Rho} {H : Hp} : Ext F O ρ H F O ρ H :=
  ⟨fun _ _ h => h, fun _ _ h => h, fun _ _ h => .inl h, fun _ _ h => .inl h, fun _ o h => .inl ⟨o, h⟩, fun _ _ h _ _ => h, fun _ o h => ⟨o, h⟩⟩
theorem Ext.trans {F O : Hp} {ρ : Rho} {H F1 O1 : Hp} {ρ1 : Rho} {H1 F2 O2 : Hp} {ρ2 : Rho} {H2 : Hp} (a : Ext F O ρ H F1 O1 ρ1 H1) (b : Ext F1 O1 ρ1 H1 F2 O2 ρ2 H2) : Ext F O ρ H F2 O2 ρ2 H2 := by
  have dead : ∀ x, H1 x = none → H x = none := fun x hx => by
    cases q : H x with
    | none => rfl
    | some o =>
      obtain ⟨u, e⟩ := a.al x o q
      rw [hx] at e; cases e
  refine ⟨fun x o h => b.f x o (a.f x o h), fun n x h => b.r n x (a.r n x h), fun x o h => ?_, fun n x h => ?_, fun x o h => ?_, fun x o h h1 h2 => ?_, fun x o h => ?_⟩
  · rcases b.nf x o h with h | h | ⟨u, h⟩
    · exact a.nf x o h
    · exact .inr (.inl (dead x h))
    · rcases a.no x u h with h | h
      · exact .inr (.inr h)
      · exact .inr (.inl h)
  · rcases b.nr n x h with h | h
    · exact a.nr n x h
    · exact .inr (dead x h)
  · rcases b.no x o h with ⟨u, h⟩ | h
    · exact a.no x u h
    · exact .inr (dead x h)
  · refine b.kp x o (a.kp x o h h1 h2) ?_ fun n hn => ?_
    · cases q : O1 x with
      | none => rfl
      | some u =>
        rcases a.no x u q with ⟨t, e⟩ | e
        · rw [h1] at e; cases e
        · rw [h] at e; cases e
    · rcases a.nr n x hn with e | e
      · exact h2 n e
      · rw [h] at e; cases e
  · obtain ⟨u, e⟩ := a.al x o h
    exact b.al x u e

/-! ### later heaps keep what was read -/
theorem SqT.later {K : PySem.W.Frag} {G G' : Hp} {a : Addr} {vs : List V} (h : ∀ a o, G a = some o → G' a = some o) (q : SqT K G a vs) : SqT K G' a vs := by
  rcases q with (q | ⟨o, q⟩) | q
  · exact .inl (.inl (h _ _ q))
  · exact .inl (.inr ⟨o, h _ _ q⟩)
  · exact .inr q
theorem LsT.sqL {K : PySem.W.Frag} {G : Hp} {a : Addr} {vs : List V} (q : LsT K G a vs) : SqL K G a vs := by
  rcases q with q | ⟨its, n, e, z, r⟩
  · exact .inl q
  · exact .inr ⟨_, its.toArray, n, e, rfl, rfl, rfl, by rw [List.size_toArray, ← r.length]; exact z, r⟩
theorem rdLater {G G' : Hp} {a : Addr} {u : HO} (h : ∀ a o, G a = some o → G' a = some o) (q : Rd G a u) : Rd G' a u := by
  rcases q with q | ⟨o, q⟩
  · exact .inl (h _ _ q)
  · exact .inr ⟨o, h _ _ q⟩
theorem lsLater {K : PySem.W.Frag} {G G' : Hp} {a : Addr} {vs : List V} (h : ∀ a o, G a = some o → G' a = some o) (q : LsT K G a vs) : LsT K G' a vs := by
  rcases q with q | q
  · exact .inl (rdLater h q)
  · exact .inr q
section
variable {Wo : Wd} {G G' : Hp} {ρ ρ' : Rho}
mutual
theorem DR.later (h : ∀ a o, G a = some o → G' a = some o) (r : ∀ n a, ρ n = some a → ρ' n = some a) : ∀ {d : D} {v : V}, DR Wo G ρ d v → DR Wo G' ρ' d v
  | .non, _, q => q
  | .bl _, _, q => q
  | .int _, _, q => q
  | .str _, _, q => q
  | .tup xs, v, q => by
    obtain ⟨a, vs, e, s, t⟩ := q
    exact ⟨a, vs, e, SqT.later h s, DRs.later h r t⟩
  | .lst xs, v, q => by
    obtain ⟨a, vs, e, s, t⟩ := q
    exact ⟨a, vs, e, lsLater h s, DRs.later h r t⟩
  | .dct kvs, v, q => by
    obtain ⟨a, kv, e, s, t⟩ := q
    exact ⟨a, kv, e, s.elim (fun z => .inl (h _ _ z)) .inr, DRk.later h r t⟩
  | .ref n, v, q => by
    obtain ⟨a, e, s⟩ := q
    exact ⟨a, e, r _ _ s⟩
theorem DRs.later (h : ∀ a o, G a = some o → G' a = some o) (r : ∀ n a, ρ n = some a → ρ' n = some a) : ∀ {ds : List D} {vs : List V}, DRs Wo G ρ ds vs → DRs Wo G' ρ' ds vs
  | [], _, q => q
  | x :: ds, vs, q => by
    obtain ⟨v, vr, e, s, t⟩ := q
    exact ⟨v, vr, e, DR.later h r s, DRs.later h r t⟩
theorem DRk.later (h : ∀ a o, G a = some o → G' a = some o) (r : ∀ n a, ρ n = some a → ρ' n = some a) : ∀ {ds : List (Key × D)} {vs : List (Key × V)}, DRk Wo G ρ ds vs → DRk Wo G' ρ' ds vs
  | [], _, q => q
  | (k, x) :: ds, vs, q => by
    obtain ⟨v, vr, e, s, t⟩ := q
    exact ⟨v, vr, e, DR.later h r s, DRk.later h r t⟩
end
theorem OR.later (h : ∀ a o, G a = some o → G' a = some o) (r : ∀ n a, ρ n = some a → ρ' n = some a) {o : Ob} {x : HO} (q : OR Wo G ρ o x) : OR Wo G' ρ' o x := by
  cases o with
  | lst xs => obtain ⟨vs, e, t⟩ := q; exact ⟨vs, e, t.later h r⟩
  | dct kvs => obtain ⟨vs, e, t⟩ := q; exact ⟨vs, e, t.later h r⟩
  | ins C fs => obtain ⟨dx, vs, e, k, t⟩ := q; exact ⟨dx, vs, e, k, t.later h r⟩
theorem jn_left {F O : Hp} : ∀ a o, F a = some o → jn F O a = some o := fun a o h => by unfold jn; rw [h]
/-- a value to be read at once: its own object may be a local's own -/
def PR (Wo : Wd) (F O : Hp) (ρ : Rho) : D → V → Prop
  | .lst xs, v => ∃ a vs, v = .ref a ∧ LsT Wo.K (jn F O) a vs ∧ DRs Wo F ρ xs vs
  | .dct kvs, v => ∃ a kv, v = .ref a ∧ (jn F O a = some (.dK kv) ∨ KDV Wo a kv) ∧ DRk Wo F ρ kvs kv
  | d, v => DR Wo F ρ d v
def PRs (Wo : Wd) (F O : Hp) (ρ : Rho) : List D → List V → Prop
  | [], vs => vs = []
  | x :: r, vs => ∃ v vr, vs = v :: vr ∧ PR Wo F O ρ x v ∧ PRs Wo F O ρ r vr
theorem DR.pr {F O : Hp} {d : D} {v : V} (h : DR Wo F ρ d v) : PR Wo F O ρ d v := by
  cases d with
  | lst xs => obtain ⟨a, vs, e, s, t⟩ := h; exact ⟨a, vs, e, lsLater jn_left s, t⟩
  | dct kvs => obtain ⟨a, kv, e, s, t⟩ := h; exact ⟨a, kv, e, s.elim (fun z => .inl (jn_left _ _ z)) .inr, t⟩
  | _ => exact h
theorem PR.later {F O F' : Hp} (hj : ∀ a o, jn F O a = some o → jn F' O a = some o) (hf : ∀ a o, F a = some o → F' a = some o) (hr : ∀ n a, ρ n = some a → ρ' n = some a) {d : D} {v : V} (h : PR Wo F O ρ d v) : PR Wo F' O ρ' d v := by
  cases d with
  | lst xs => obtain ⟨a, vs, e, s, t⟩ := h; exact ⟨a, vs, e, lsLater hj s, t.later hf hr⟩
  | dct kvs => obtain ⟨a, kv, e, s, t⟩ := h; exact ⟨a, kv, e, s.elim (fun z => .inl (hj _ _ z)) .inr, t.later hf hr⟩
  | non => exact DR.later hf hr h
  | bl b => exact DR.later hf hr h
  | int b => exact DR.later hf hr h
  | str b => exact DR.later hf hr h
  | tup b => exact DR.later hf hr h
  | ref b => exact DR.later hf hr h
end

section
variable {Wo : Wd} {F O F' O' : Hp} {ρ ρ' : Rho} {st st' : Sto} {H H' : Hp} {e : En} {σ : L2.St}
theorem Rl.jn_le (R : Rl Wo F O ρ st H) : ∀ a o, jn F O a = some o → H a = some o := fun a o h => by
  unfold Ev.jn at h
  cases q : F a with
  | some u => rw [q] at h; exact R.fz a o (q.trans h)
  | none => rw [q] at h; exact (R.ow a o h).1
theorem Ext.jn {O : Hp} (X : Ext F O ρ H F' O ρ' H') (R : Rl Wo F O ρ st H) (R' : Rl Wo F' O ρ' st' H') : ∀ a o, jn F O a = some o → jn F' O a = some o := fun a o h => by
  unfold Ev.jn at h ⊢
  cases q : F a with
  | some u => rw [q] at h; rw [X.f a u q]; exact h
  | none =>
    rw [q] at h
    have h : O a = some o := h
    rw [(R'.ow a o h).2.1]; exact h
theorem SR.later {s : Sl} {v : Option V} (X : Ext F O ρ H F' O ρ' H') (h : SR Wo F O ρ s v) : SR Wo F' O ρ' s v := by
  cases s with
  | no => trivial
  | val d => obtain ⟨u, e, q⟩ := h; exact ⟨u, e, q.later X.f X.r⟩
  | own xs => obtain ⟨a, vs, e, o, q⟩ := h; exact ⟨a, vs, e, o, q.later X.f X.r⟩
  | owd xs => obtain ⟨a, vs, e, o, q⟩ := h; exact ⟨a, vs, e, o, q.later X.f X.r⟩
theorem RE.later (X : Ext F O ρ H F' O ρ' H') (E : RE Wo F O ρ e σ) : RE Wo F' O ρ' e σ :=
  ⟨E.len, fun i hi => let ⟨v, a, b⟩ := E.at_ i hi; ⟨v, a, b.later X⟩, E.dis⟩

/-! ### a new frozen object -/
theorem laid (R : Rl Wo F O ρ st H) {p : Addr} (hp : H p = none) (o : HO) : Ext F O ρ H (upd F p o) O ρ (upd H p o) ∧ Rl Wo (upd F p o) O ρ st (upd H p o) := by
  have fp : F p = none := by
    cases q : F p with
    | none => rfl
    | some u => rw [R.fz p u q] at hp; cases hp
  have ff : ∀ a u, F a = some u → upd F p o a = some u := fun a u h => by rw [upd_ne (ne_of_none h fp)]; exact h
  have hh : ∀ a u, H a = some u → upd H p o a = some u := fun a u h => by rw [upd_ne (ne_of_none h hp)]; exact h
  refine ⟨⟨ff, fun _ _ h => h, fun a u h => ?_, fun _ _ h => .inl h, fun a u h => .inl ⟨u, h⟩, fun a u h _ _ => hh a u h, fun a u h => ⟨u, hh a u h⟩⟩, ⟨fun a u h => ?_, fun n u h => ?_, R.inj, fun n a h => ?_, R.nx, fun a u h => ?_⟩⟩
  · by_cases ha : a = p
    · subst ha; exact .inr (.inl hp)
    · rw [upd_ne ha] at h; exact .inl h
  · by_cases ha : a = p
    · subst ha; rw [upd_same] at h ⊢; exact h
    · rw [upd_ne ha] at h ⊢; exact R.fz a u h
  · obtain ⟨a, x, h1, h2, h3⟩ := R.ob n u h
    exact ⟨a, x, h1, hh a x h2, h3.later ff fun _ _ z => z⟩
  · obtain ⟨h1, x, h2⟩ := R.nf n a h
    have ha : a ≠ p := ne_of_none h2 hp
    exact ⟨by rw [upd_ne ha]; exact h1, x, hh a x h2⟩
  · obtain ⟨h1, h2, h3⟩ := R.ow a u h
    have ha : a ≠ p := ne_of_none h1 hp
    exact ⟨hh a u h1, by rw [upd_ne ha]; exact h2, h3⟩
/-- a new object of the store -/
theorem stored (R : Rl Wo F O ρ st H) {p : Addr} (hp : H p = none) {x : HO} {o : Ob} (hx : OR Wo F ρ o x) :
    Ext F O ρ H F O (fun k => if k = st.nx then some p else ρ k) (upd H p x) ∧ Rl Wo F O (fun k => if k = st.nx then some p else ρ k) (st.new o) (upd H p x) := by
  have fp : F p = none := by
    cases q : F p with
    | none => rfl
    | some u => rw [R.fz p u q] at hp; cases hp
  have hh : ∀ a u, H a = some u → upd H p x a = some u := fun a u h => by rw [upd_ne (ne_of_none h hp)]; exact h
  have rr : ∀ n a, ρ n = some a → (if n = st.nx then some p else ρ n) = some a := fun n a h => by
    rw [if_neg]
    · exact h
    · intro z
      rw [R.nx n (Nat.le_of_eq z.symm)] at h; cases h
  have rs : ∀ n a, (if n = st.nx then some p else ρ n) = some a → (n = st.nx ∧ a = p) ∨ ρ n = some a := fun n a h => by
    by_cases e : n = st.nx
    · rw [if_pos e] at h; cases h; exact .inl ⟨e, rfl⟩
    · rw [if_neg e] at h; exact .inr h
  refine ⟨⟨fun _ _ h => h, rr, fun _ _ h => .inl h, fun n a h => ?_, fun a u h => .inl ⟨u, h⟩, fun a u h _ _ => hh a u h, fun a u h => ⟨u, hh a u h⟩⟩, ⟨fun a u h => hh a u (R.fz a u h), fun n u h => ?_, fun m n a h1 h2 => ?_, fun n a h => ?_, fun n hn => ?_, fun a u h => ?_⟩⟩
  · rcases rs n a h with ⟨_, rfl⟩ | h
    · exact .inr hp
    · exact .inl h
  · by_cases e : n = st.nx
    · subst e
      rw [Sto.get_new] at h; cases h
      exact ⟨p, x, if_pos rfl, upd_same, hx.later (fun _ _ z => z) rr⟩
    · rw [Sto.get_new_ne e] at h
      obtain ⟨a, y, h1, h2, h3⟩ := R.ob n u h
      exact ⟨a, y, rr n a h1, hh a y h2, h3.later (fun _ _ z => z) rr⟩
  · rcases rs m a h1 with ⟨e1, e2⟩ | h1'
    · rcases rs n a h2 with ⟨e3, e4⟩ | h2'
      · exact e1.trans e3.symm
      · subst e2
        obtain ⟨_, y, z⟩ := R.nf n _ h2'
        rw [hp] at z; cases z
    · rcases rs n a h2 with ⟨e3, e4⟩ | h2'
      · subst e4
        obtain ⟨_, y, z⟩ := R.nf m _ h1'
        rw [hp] at z; cases z
      · exact R.inj m n a h1' h2'
  · rcases rs n a h with ⟨_, rfl⟩ | h
    · exact ⟨fp, x, upd_same⟩
    · obtain ⟨h1, y, h2⟩ := R.nf n a h
      exact ⟨h1, y, hh a y h2⟩
  · have hn' : st.nx + 1 ≤ n := hn
    rw [if_neg (by omega)]
    exact R.nx n (by omega)
  · obtain ⟨h1, h2, h3⟩ := R.ow a u h
    refine ⟨hh a u h1, h2, fun n z => ?_⟩
    rcases rs n a z with ⟨_, rfl⟩ | z
    · rw [hp] at h1; cases h1
    · exact h3 n z
/-- an object of the store is written -/
theorem written (R : Rl Wo F O ρ st H) {n : Nat} {a : Addr} {o o' : Ob} {x : HO} (hn : st.get n = some o) (ha : ρ n = some a) (hx : OR Wo F ρ o' x) :
    Ext F O ρ H F O ρ (upd H a x) ∧ Rl Wo F O ρ (st.put n o') (upd H a x) := by
  obtain ⟨fa, y, hy⟩ := R.nf n a ha
  have hh : ∀ b u, b ≠ a → H b = some u → upd H a x b = some u := fun b u hb h => by rw [upd_ne hb]; exact h
  refine ⟨⟨fun _ _ h => h, fun _ _ h => h, fun _ _ h => .inl h, fun _ _ h => .inl h, fun b u h => .inl ⟨u, h⟩, fun b u h _ hr => hh b u (fun z => hr n (z ▸ ha)) h, fun b u h => ?_⟩, ⟨fun b u h => hh b u (fun z => ?_) (R.fz b u h), fun m u h => ?_, R.inj, fun m b h => ?_, R.nx, fun b u h => ?_⟩⟩
  · by_cases hb : b = a
    · subst hb; exact ⟨x, upd_same⟩
    · exact ⟨u, hh b u hb h⟩
  · rw [z, fa] at h; cases h
  · by_cases e : m = n
    · subst e
      rw [Sto.get_put hn] at h; cases h
      exact ⟨a, x, ha, upd_same, hx⟩
    · rw [Sto.get_put_ne e] at h
      obtain ⟨b, y, h1, h2, h3⟩ := R.ob m u h
      exact ⟨b, y, h1, hh b y (fun z => e (R.inj m n a (z ▸ h1) ha)) h2, h3⟩
  · obtain ⟨h1, y, h2⟩ := R.nf m b h
    by_cases hb : b = a
    · subst hb; exact ⟨h1, x, upd_same⟩
    · exact ⟨h1, y, hh b y hb h2⟩
  · obtain ⟨h1, h2, h3⟩ := R.ow b u h
    exact ⟨hh b u (fun z => h3 n (z ▸ ha)) h1, h2, h3⟩
end

/-! ### what an answer is worth -/
def XR (Wo : Wd) (F : Hp) (ρ : Rho) (x : Exn) (cls : Value) (dx : Option Addr) (H : Hp) : Prop :=
  cls = .ref (Wo.ca x.cls) ∧ ((x.fs = [] ∧ dx = none) ∨ ∃ d fv, dx = some d ∧ H d = some (.xd fv) ∧ x.fs.map (fun p => fnm p.1) = fv.map (·.1) ∧ DRs Wo F ρ (x.fs.map (·.2)) (fv.map (·.2)))
/-- a value of any sort, read off the result; P tells how it lies -/
def okA {α β : Type} (P : Hp → Rho → α → β → Prop) (Wo : Wd) (W : WX) (σ : L2.St) (F O : Hp) (ρ : Rho) (H : Hp) (r : R α) (Q : β → Hp → Prop) : Prop := match r with
  | .ok d st' => ∀ v F' ρ' H', Ext F O ρ H F' O ρ' H' → Rl Wo F' O ρ' st' H' → P F' ρ' d v → Q v H'
  | .ex x st' => ∀ cls dx F' ρ' H', Ext F O ρ H F' O ρ' H' → Rl Wo F' O ρ' st' H' → XR Wo F' ρ' x cls dx H' → W cls dx σ H'
  | .no => False
section
variable (Wo : Wd) (W : WX)
def tA {α β : Type} (P : Hp → Hp → Rho → α → β → Prop) (m : En → M α) : L2.St → Hp → (β → Hp → Prop) → Prop := fun σ H Q =>
  ∃ F O ρ e st, Rl Wo F O ρ st H ∧ RE Wo F O ρ e σ ∧ okA (fun F' ρ' => P F' O ρ') Wo W σ F O ρ H (m e st) Q
def pE (F O : Hp) (ρ : Rho) (d : D) (v : V) : Prop := DR Wo F ρ d v
def pP (F O : Hp) (ρ : Rho) (d : D) (v : V) : Prop := PR Wo F O ρ d v
def pEs (F O : Hp) (ρ : Rho) (d : List D) (v : List V) : Prop := DRs Wo F ρ d v
def pPs (F O : Hp) (ρ : Rho) (d : List D) (v : List V) : Prop := PRs Wo F O ρ d v
def pB (F O : Hp) (ρ : Rho) (b : Bool) (c : Bool) : Prop := c = b
/-- an expression's value; one to be read at once; lists of such; a test -/
abbrev tE (m : En → M D) : TE := tA Wo W (pE Wo) m
abbrev tP (m : En → M D) : TE := tA Wo W (pP Wo) m
abbrev tEs (m : En → M (List D)) : TA := tA Wo W (pEs Wo) m
abbrev tPs (m : En → M (List D)) : TA := tA Wo W (pPs Wo) m
abbrev tT (m : En → M Bool) : TT := tA Wo W pB m
end
section
variable {Wo : Wd} {W : WX} {F O : Hp} {ρ : Rho} {st : Sto} {H : Hp} {e : En} {σ : L2.St}
/-- the first of two parts, the rest told from where it ends -/
theorem okA.bnd {α β γ δ : Type} {P : Hp → Rho → α → γ → Prop} {P' : Hp → Rho → β → δ → Prop} {m : M α} {f : α → M β} {Q : δ → Hp → Prop} {Q1 : γ → Hp → Prop}
    (h : okA P' Wo W σ F O ρ H (bnd m f st) Q)
    (k : ∀ d st' v F' ρ' H', Ext F O ρ H F' O ρ' H' → Rl Wo F' O ρ' st' H' → P F' ρ' d v → okA P' Wo W σ F' O ρ' H' (f d st') Q → Q1 v H') : okA P Wo W σ F O ρ H (m st) Q1 := by
  unfold Ev.bnd at h
  cases r : m st with
  | ok d st' =>
    rw [r] at h
    intro v F' ρ' H' X R' p
    refine k d st' v F' ρ' H' X R' p ?_
    have h : okA P' Wo W σ F O ρ H (f d st') Q := h
    cases r2 : f d st' with
    | ok d2 st2 =>
      rw [r2] at h
      exact fun v2 F2 ρ2 H2 X2 R2 p2 => h v2 F2 ρ2 H2 (X.trans X2) R2 p2
    | ex x st2 =>
      rw [r2] at h
      exact fun cls dx F2 ρ2 H2 X2 R2 p2 => h cls dx F2 ρ2 H2 (X.trans X2) R2 p2
    | no => rw [r2] at h; exact h
  | ex x st' => rw [r] at h; exact h
  | no => rw [r] at h; exact h
/-- .. as readings of expressions -/
theorem tA.bnd {α β γ δ : Type} {P : Hp → Hp → Rho → α → γ → Prop} {P' : Hp → Hp → Rho → β → δ → Prop} {m : En → M α} {f : En → α → M β} {Q : δ → Hp → Prop} {Q1 : γ → Hp → Prop} (h : tA Wo W P' (fun e => bnd (m e) (f e)) σ H Q)
    (k : ∀ F O ρ e d st' v H', Rl Wo F O ρ st' H' → RE Wo F O ρ e σ → P F O ρ d v → okA (fun F' ρ' => P' F' O ρ') Wo W σ F O ρ H' (f e d st') Q → Q1 v H') : tA Wo W P m σ H Q1 := by
  obtain ⟨F, O, ρ, e, st, R, E, h⟩ := h
  exact ⟨F, O, ρ, e, st, R, E, okA.bnd h fun d st' v F' ρ' H' X R' p q => k F' O ρ' e d st' v H' R' (E.later X) p q⟩
theorem okA.ret {α γ : Type} {P : Hp → Rho → α → γ → Prop} {d : α} {v : γ} {Q : γ → Hp → Prop} (h : okA P Wo W σ F O ρ H (ret d st) Q) (R : Rl Wo F O ρ st H) (p : P F ρ d v) : Q v H :=
  h v F ρ H Ext.refl R p
theorem okA.ok {α γ : Type} {P : Hp → Rho → α → γ → Prop} {d : α} {st' : Sto} {v : γ} {F' : Hp} {ρ' : Rho} {H' : Hp} {Q : γ → Hp → Prop} (h : okA P Wo W σ F O ρ H (.ok d st') Q) (X : Ext F O ρ H F' O ρ' H') (R : Rl Wo F' O ρ' st' H') (p : P F' ρ' d v) : Q v H' :=
  h v F' ρ' H' X R p
/-- one that may be kept may be read at once -/
theorem tE_tP {m : En → M D} {Q : VK} (h : tP Wo W m σ H Q) : tE Wo W m σ H Q := by
  obtain ⟨F, O, ρ, e, st, R, E, h⟩ := h
  refine ⟨F, O, ρ, e, st, R, E, ?_⟩
  cases r : m e st with
  | ok d st' => rw [r] at h; exact fun v F' ρ' H' X R' p => h v F' ρ' H' X R' (DR.pr p)
  | ex x st' => rw [r] at h; exact h
  | no => rw [r] at h; exact h
end
theorem _root_.L2.PE.imp {X : Cx} {e : Expr} {t u : TE} (h : PE X e t) (k : ∀ σ H Q, u σ H Q → t σ H Q) : PE X e u := ⟨fun pins s σ H Q I q => h.run pins s σ H Q I (k σ H Q q)⟩
theorem _root_.L2.PT.imp {X : Cx} {e : Expr} {t u : TT} (h : PT X e t) (k : ∀ σ H Q, u σ H Q → t σ H Q) : PT X e u := ⟨fun pins s σ H Q I q => h.run pins s σ H Q I (k σ H Q q)⟩
theorem _root_.L2.PW.imp {X : Cx} {e : Expr} {t u : TT} (h : PW X e t) (k : ∀ σ H Q, u σ H Q → t σ H Q) : PW X e u := ⟨fun wh pins s σ H Q I q => h.run wh pins s σ H Q I (k σ H Q q)⟩
theorem _root_.L2.PA.imp {X : Cx} {e : List Expr} {t u : TA} (h : PA X e t) (k : ∀ σ H Q, u σ H Q → t σ H Q) : PA X e u := ⟨fun pos pins s σ H Q I q => h.run pos pins s σ H Q I (k σ H Q q)⟩
theorem _root_.L2.PS.imp {X : Cx} {e : Stmt} {t u : TS} (h : PS X e t) (k : ∀ D σ H, u D σ H → t D σ H) : PS X e u := ⟨fun pins s σ H D I q => h.run pins s σ H D I (k D σ H q)⟩
theorem _root_.L2.PSs.imp {X : Cx} {e : List Stmt} {t u : TS} (h : PSs X e t) (k : ∀ D σ H, u D σ H → t D σ H) : PSs X e u := ⟨fun pins s σ H D I q => h.run pins s σ H D I (k D σ H q)⟩
end Ev

set_option Elab.async false
set_option linter.all false
set_option maxRecDepth 100000
set_option maxHeartbeats 1000000
/-! Ev3: the operators and built-ins by values. -/
namespace Ev
open PySem PySem.Spec PyProof.Rows L2

/-! ### no exception -/
def Tame {α : Type} (m : M α) : Prop := ∀ s x s', m s ≠ .ex x s'
theorem tame_ret {α : Type} {a : α} : Tame (ret a) := fun s x s' h => by cases h
theorem tame_no {α : Type} : Tame (no : M α) := fun s x s' h => by cases h
theorem tame_bnd {α β : Type} {m : M α} {f : α → M β} (h : Tame m) (k : ∀ a, Tame (f a)) : Tame (bnd m f) := fun s x s' e => by
  unfold bnd at e
  cases q : m s with
  | ok a s1 => rw [q] at e; exact k a s1 x s' e
  | ex y s1 => exact h s y s1 q
  | no => rw [q] at e; cases e
theorem tame_opt {α : Type} {o : Option α} : Tame (opt o) := by
  cases o with
  | none => exact tame_no
  | some a => exact tame_ret
theorem tame_mkL {xs : List D} : Tame (mkL xs) := by unfold mkL; split; exact tame_ret; exact tame_no
theorem tame_mkT {xs : List D} : Tame (mkT xs) := by unfold mkT; split; exact tame_ret; exact tame_no
theorem tame_eqD {a b : D} : Tame (eqD a b) := fun s x s' h => by
  unfold eqD at h
  split at h
  · split at h <;> cases h
  · cases h
theorem tame_via {α : Type} {n : Nat} {f : List D → M α} {g : List (Key × D) → M α} (hf : ∀ xs, Tame (f xs)) (hg : ∀ k, Tame (g k)) : Tame (viaL n f g) := fun s x s' h => by
  unfold viaL at h
  split at h
  · exact hf _ s x s' h
  · exact hg _ s x s' h
  · cases h
theorem tame_inSq {a : D} {ys : List D} : Tame (inSq a ys) := by
  unfold inSq
  split
  · split; exact tame_ret; exact tame_no
  · exact tame_no
theorem tame_inDk {a : D} {ys : List (Key × D)} : Tame (inDk a ys) := by
  unfold inDk
  split
  · split; exact tame_ret; exact tame_no
  · exact tame_no
theorem tame_isinD {a b : D} : Tame (isinD a b) := by
  unfold isinD
  split
  · exact tame_ret
  · exact tame_inSq
  · exact tame_inSq
  · exact tame_inDk
  · exact tame_via (fun _ => tame_inSq) fun _ => tame_inDk
  · exact tame_no
theorem tame_opC {o : CO} {a b : D} : Tame (opC o a b) := by
  unfold opC
  split
  · exact tame_bnd tame_eqD fun _ => tame_ret
  · exact tame_bnd tame_eqD fun _ => tame_ret
  · exact tame_ret
  · exact tame_ret
  · exact tame_ret
  · exact tame_ret
  · exact tame_ret
  · exact tame_bnd tame_opt fun _ => tame_ret
  · exact tame_bnd tame_opt fun _ => tame_ret
  · exact tame_bnd tame_isinD fun _ => tame_ret
  · exact tame_bnd tame_isinD fun _ => tame_ret
  · exact tame_no
theorem tame_addL {a b : D} : Tame (addL a b) := fun s x s' h => by
  unfold addL at h
  split at h
  · exact tame_mkL s x s' h
  · cases h
theorem tame_addN {a b : D} : Tame (addN a b) := fun s x s' h => by
  unfold addN at h
  repeat' split at h
  all_goals cases h
theorem tame_opB {o : BO} {a b : D} : Tame (opB o a b) := fun s x s' h => by
  unfold opB at h
  repeat' split at h
  all_goals first
    | exact tame_ret s x s' h
    | exact tame_no s x s' h
    | exact tame_mkL s x s' h
    | exact tame_mkT s x s' h
    | exact tame_addL s x s' h
    | exact tame_addN s x s' h
    | cases h
theorem tame_ixL {b : D} {xs : List D} : Tame (ixL b xs) := by
  unfold ixL
  split
  · exact tame_opt
  · exact tame_no
theorem tame_ixK {b : D} {xs : List (Key × D)} : Tame (ixK b xs) := by
  unfold ixK
  split
  · split; exact tame_opt; exact tame_no
  · exact tame_no
theorem tame_ixD {a b : D} : Tame (ixD a b) := by
  unfold ixD
  split
  · split; exact tame_opt; exact tame_no
  · exact tame_ixL
  · exact tame_ixL
  · exact tame_ixK
  · exact tame_via (fun _ => tame_ixL) fun _ => tame_ixK
  · exact tame_no
theorem tame_slD {a : D} {lo hi : Option Int} : Tame (slD a lo hi) := by
  unfold slD
  split
  · split; exact tame_ret; exact tame_no
  · exact tame_ret
  · exact tame_ret
  · exact tame_via (fun _ => tame_ret) fun _ => tame_no
  · exact tame_no
theorem tame_revD {a : D} : Tame (revD a) := by
  unfold revD
  split
  · exact tame_ret
  · exact tame_ret
  · exact tame_via (fun _ => tame_ret) fun _ => tame_no
  · exact tame_no
theorem tame_asI {a : D} : Tame (asI a) := by unfold asI; split; exact tame_ret; exact tame_no
theorem tame_truth {a : D} : Tame (truth a) := by
  unfold truth
  split
  · exact tame_ret
  · exact tame_ret
  · exact tame_ret
  · split; exact tame_ret; exact tame_no
  · exact tame_ret
  · exact tame_ret
  · exact tame_no
  · intro s x s' h
    dsimp only at h
    split at h <;> cases h
theorem tame_isTy {t : TyN} {a : D} : Tame (isTy t a) := by
  unfold isTy
  split
  all_goals first | exact tame_ret | exact tame_no | exact tame_via (fun _ => tame_ret) fun _ => tame_no
theorem tame_seqM {f : List D → M D} (hf : ∀ xs, Tame (f xs)) {d : D} : Tame (seqM f d) := by
  unfold seqM
  split
  · exact hf _
  · exact hf _
  · exact tame_via hf fun _ => tame_no
  · exact tame_no
theorem tame_lstM {f : List D → M D} (hf : ∀ xs, Tame (f xs)) {d : D} : Tame (lstM f d) := by
  unfold lstM
  split
  · exact hf _
  · exact tame_via hf fun _ => tame_no
  · exact tame_no
theorem tame_dctM {f : List (Key × D) → M D} (hf : ∀ xs, Tame (f xs)) {d : D} : Tame (dctM f d) := by
  unfold dctM
  split
  · exact hf _
  · exact tame_via (fun _ => tame_no) hf
  · exact tame_no
theorem tame_keysOr {f : List D → M D} (hf : ∀ xs, Tame (f xs)) {d : D} : Tame (keysOr f d) := by
  unfold keysOr
  split
  · exact hf _
  · exact hf _
  · exact tame_via hf fun _ => by split; exact hf _; exact tame_no
  · exact tame_no
theorem tame_blt {b : BF} {ds : List D} : Tame (blt b ds) := by
  unfold blt
  split
  · split; exact tame_ret; exact tame_no
  · exact tame_seqM fun _ => tame_ret
  · exact tame_ret
  · exact tame_ret
  · exact tame_ret
  · split; exact tame_ret; exact tame_no
  · exact tame_ret
  · intro s x s' h
    unfold reprD at h
    repeat' split at h
    all_goals cases h
  · intro s x s' h
    unfold reprD at h
    repeat' split at h
    all_goals cases h
  · split; exact tame_ret; exact tame_no
  · exact tame_keysOr fun _ => tame_ret
  · exact tame_seqM fun xs s x s' h => by cases h
  · exact tame_via (fun _ => tame_no) fun _ s x s' h => by cases h
  · exact tame_via (fun _ => tame_no) fun _ => by unfold sortK; split; split; exact tame_ret; exact tame_no; exact tame_no
  · exact tame_seqM fun _ => tame_ret
  · exact tame_lstM fun xs => by unfold sumL; split; exact tame_ret; exact tame_no
  · exact tame_lstM fun xs => by unfold allL; split; exact tame_ret; exact tame_no
  · exact tame_lstM fun xs => by unfold anyL; split; exact tame_ret; exact tame_no
  · exact tame_ret
  · exact tame_ret
  · exact tame_no
theorem tame_getM {k e : D} {kvs : List (Key × D)} : Tame (getM k e kvs) := by
  unfold getM
  split
  · split; exact tame_ret; exact tame_no
  · exact tame_no
theorem tame_mth {m : MF} {d : D} {ds : List D} : Tame (mth m d ds) := by
  unfold mth
  split
  · refine tame_seqM fun xs => ?_
    unfold joinL
    split
    · split; exact tame_ret; exact tame_no
    · exact tame_no
  · split; exact tame_ret; exact tame_no
  · exact tame_dctM fun _ => tame_getM
  · exact tame_dctM fun _ => tame_getM
  · intro s x s' h
    unfold appS at h
    repeat' split at h
    all_goals cases h
  · intro s x s' h
    unfold popS at h
    repeat' split at h
    all_goals cases h
  · exact tame_no

/-! ### readings by values -/
section
variable (Wo : Wd)
/-- an answer without exceptions -/
def okN {α β : Type} (P : Hp → Rho → α → β → Prop) (F O : Hp) (ρ : Rho) (H : Hp) (r : R α) (Q : β → Hp → Prop) : Prop := match r with
  | .ok d st' => ∀ v F' ρ' H', Ext F O ρ H F' O ρ' H' → Rl Wo F' O ρ' st' H' → P F' ρ' d v → Q v H'
  | _ => False
def rOp (f : D → D → M D) : R2 := fun x y H Q => ∃ F O ρ st a b, Rl Wo F O ρ st H ∧ PR Wo F O ρ a x ∧ PR Wo F O ρ b y ∧ okN Wo (DR Wo) F O ρ H (f a b st) Q
def rUn (f : D → M D) : V → Hp → VK → Prop := fun x H Q => ∃ F O ρ st a, Rl Wo F O ρ st H ∧ PR Wo F O ρ a x ∧ okN Wo (DR Wo) F O ρ H (f a st) Q
def rAr (f : List D → M D) : List V → Hp → VK → Prop := fun xs H Q => ∃ F O ρ st ds, Rl Wo F O ρ st H ∧ PRs Wo F O ρ ds xs ∧ okN Wo (DR Wo) F O ρ H (f ds st) Q
def rMt (f : D → List D → M D) : V → List V → Hp → VK → Prop := fun x xs H Q => ∃ F O ρ st a ds, Rl Wo F O ρ st H ∧ PR Wo F O ρ a x ∧ DRs Wo F ρ ds xs ∧ okN Wo (DR Wo) F O ρ H (f a ds st) Q
end
section
variable {Wo : Wd} {W : WX} {F O : Hp} {ρ : Rho} {st : Sto} {H : Hp} {σ : L2.St}
theorem okA.tame {α β : Type} {P : Hp → Rho → α → β → Prop} {m : M α} {Q : β → Hp → Prop} (h : okA P Wo W σ F O ρ H (m st) Q) (t : Tame m) : okN Wo P F O ρ H (m st) Q := by
  cases r : m st with
  | ok d st' => rw [r] at h; exact h
  | ex x st' => exact (t st x st' r).elim
  | no => rw [r] at h; exact h
theorem okN.ret {α γ : Type} {P : Hp → Rho → α → γ → Prop} {d : α} {v : γ} {Q : γ → Hp → Prop} (h : okN Wo P F O ρ H (ret d st) Q) (R : Rl Wo F O ρ st H) (p : P F ρ d v) : Q v H := h v F ρ H Ext.refl R p
theorem okN.okk {α γ : Type} {P : Hp → Rho → α → γ → Prop} {d : α} {v : γ} {Q : γ → Hp → Prop} (h : okN Wo P F O ρ H (.ok d st) Q) (R : Rl Wo F O ρ st H) (p : P F ρ d v) : Q v H := h v F ρ H Ext.refl R p
/-- a new list, a new tuple -/
theorem okN.mkL {xs : List D} {vs : List V} {Q : VK} (h : okN Wo (DR Wo) F O ρ H (mkL xs st) Q) (R : Rl Wo F O ρ st H) (p : DRs Wo F ρ xs vs) : xs.length ≤ sizeLine ∧ ∀ q, H q = none → Q (.ref q) (upd H q (.lst vs)) := by
  unfold Ev.mkL at h
  by_cases c : xs.length ≤ sizeLine
  · rw [if_pos c] at h
    refine ⟨c, fun q hq => ?_⟩
    obtain ⟨X, R'⟩ := laid R hq (.lst vs)
    exact h _ _ _ _ X R' ⟨q, vs, rfl, .inl (.inl upd_same), p.later X.f X.r⟩
  · rw [if_neg c] at h; exact h.elim
theorem okN.mkT {xs : List D} {vs : List V} {Q : VK} (h : okN Wo (DR Wo) F O ρ H (mkT xs st) Q) (R : Rl Wo F O ρ st H) (p : DRs Wo F ρ xs vs) : xs.length ≤ sizeLine ∧ ∀ q, H q = none → Q (.ref q) (upd H q (.tup vs)) := by
  unfold Ev.mkT at h
  by_cases c : xs.length ≤ sizeLine
  · rw [if_pos c] at h
    refine ⟨c, fun q hq => ?_⟩
    obtain ⟨X, R'⟩ := laid R hq (.tup vs)
    exact h _ _ _ _ X R' ⟨q, vs, rfl, .inl (.inl upd_same), p.later X.f X.r⟩
  · rw [if_neg c] at h; exact h.elim
/-- a new list that is told to be one -/
theorem okN.newL {xs : List D} {vs : List V} {Q : VK} (h : okN Wo (DR Wo) F O ρ H (.ok (.lst xs) st) Q) (R : Rl Wo F O ρ st H) (p : DRs Wo F ρ xs vs) (q : Addr) (hq : H q = none) : Q (.ref q) (upd H q (.lst vs)) := by
  obtain ⟨X, R'⟩ := laid R hq (.lst vs)
  exact h _ _ _ _ X R' ⟨q, vs, rfl, .inl (.inl upd_same), p.later X.f X.r⟩
theorem okN.newT {xs : List D} {vs : List V} {Q : VK} (h : okN Wo (DR Wo) F O ρ H (.ok (.tup xs) st) Q) (R : Rl Wo F O ρ st H) (p : DRs Wo F ρ xs vs) (q : Addr) (hq : H q = none) : Q (.ref q) (upd H q (.tup vs)) := by
  obtain ⟨X, R'⟩ := laid R hq (.tup vs)
  exact h _ _ _ _ X R' ⟨q, vs, rfl, .inl (.inl upd_same), p.later X.f X.r⟩

/-! ### what a value's view says of the heap -/
theorem lv_at {d : D} {v : V} {xs : List D} (R : Rl Wo F O ρ st H) (p : PR Wo F O ρ d v) (e : lv d st = some xs) : ∃ a vs, v = .ref a ∧ LsT Wo.K H a vs ∧ DRs Wo F ρ xs vs ∧ (∀ n, d = .ref n → H a = some (.lst vs)) := by
  cases d with
  | lst ys =>
    cases e
    obtain ⟨a, vs, e1, s, t⟩ := p
    exact ⟨a, vs, e1, lsLater R.jn_le s, t, fun n z => by cases z⟩
  | ref n =>
    have e : obL (st.get n) = some xs := e
    cases q : st.get n with
    | none => rw [q] at e; cases e
    | some o =>
      rw [q] at e
      cases o with
      | lst ys =>
        cases e
        obtain ⟨a, e1, e2⟩ := p
        obtain ⟨b, x, h1, h2, vs, h3, h4⟩ := R.ob n _ q
        rw [e2] at h1; cases h1
        subst h3
        exact ⟨a, vs, e1, .inl (.inl h2), h4, fun _ _ => h2⟩
      | dct _ => cases e
      | ins _ _ => cases e
  | _ => cases e
theorem sq_at {d : D} {v : V} {xs : List D} (R : Rl Wo F O ρ st H) (p : PR Wo F O ρ d v) (e : sq d st = some xs) : ∃ a vs, v = .ref a ∧ (LsT Wo.K H a vs ∨ SqT Wo.K H a vs) ∧ DRs Wo F ρ xs vs := by
  cases d with
  | tup ys =>
    cases e
    obtain ⟨a, vs, e1, s, t⟩ := p
    exact ⟨a, vs, e1, .inr (SqT.later R.fz s), t⟩
  | lst ys =>
    obtain ⟨a, vs, h1, h2, h3, _⟩ := lv_at R p (show lv (.lst ys) st = some xs from e)
    exact ⟨a, vs, h1, .inl h2, h3⟩
  | ref n =>
    obtain ⟨a, vs, h1, h2, h3, _⟩ := lv_at R p (show lv (.ref n) st = some xs from e)
    exact ⟨a, vs, h1, .inl h2, h3⟩
  | _ => cases e
/-- the dict as it stands: in the heap, or in the written part -/
theorem dv_at {d : D} {v : V} {kvs : List (Key × D)} (R : Rl Wo F O ρ st H) (p : PR Wo F O ρ d v) (e : dv d st = some kvs) : ∃ a kv, v = .ref a ∧ (H a = some (.dK kv) ∨ KDV Wo a kv) ∧ DRk Wo F ρ kvs kv := by
  cases d with
  | dct ys =>
    cases e
    obtain ⟨a, kv, e1, s, t⟩ := p
    exact ⟨a, kv, e1, s.elim (fun z => .inl (R.jn_le _ _ z)) .inr, t⟩
  | ref n =>
    have e : obD (st.get n) = some kvs := e
    cases q : st.get n with
    | none => rw [q] at e; cases e
    | some o =>
      rw [q] at e
      cases o with
      | dct ys =>
        cases e
        obtain ⟨a, e1, e2⟩ := p
        obtain ⟨b, x, h1, h2, kv, h3, h4⟩ := R.ob n _ q
        rw [e2] at h1; cases h1
        subst h3
        exact ⟨a, kv, e1, .inl h2, h4⟩
      | lst _ => cases e
      | ins _ _ => cases e
  | _ => cases e
theorem DRs.len : ∀ {ds : List D} {vs : List V}, DRs Wo F ρ ds vs → ds.length = vs.length
  | [], _, h => by cases h; rfl
  | _ :: ds, vs, h => by
    obtain ⟨v, vr, e, _, t⟩ := h
    subst e
    rw [List.length_cons, List.length_cons, t.len]
theorem DRs.at : ∀ {ds : List D} {vs : List V} {i : Nat} {d : D}, DRs Wo F ρ ds vs → ds[i]? = some d → ∃ v, vs[i]? = some v ∧ DR Wo F ρ d v
  | [], _, _, _, _, e => by simp at e
  | x :: ds, vs, 0, d, h, e => by
    obtain ⟨v, vr, e1, p, t⟩ := h
    subst e1
    cases (show x = d by simpa using e)
    exact ⟨v, rfl, p⟩
  | x :: ds, vs, i + 1, d, h, e => by
    obtain ⟨v, vr, e1, p, t⟩ := h
    subst e1
    obtain ⟨u, h1, h2⟩ := t.at (i := i) (d := d) (by simpa using e)
    exact ⟨u, by simpa using h1, h2⟩
theorem DRs.app : ∀ {ds es : List D} {vs us : List V}, DRs Wo F ρ ds vs → DRs Wo F ρ es us → DRs Wo F ρ (ds ++ es) (vs ++ us)
  | [], _, vs, _, h, k => by cases h; exact k
  | x :: ds, es, vs, us, h, k => by
    obtain ⟨v, vr, e, p, t⟩ := h
    subst e
    exact ⟨v, vr ++ us, rfl, p, t.app k⟩
theorem DRs.take : ∀ {ds : List D} {vs : List V} (n : Nat), DRs Wo F ρ ds vs → DRs Wo F ρ (ds.take n) (vs.take n)
  | _, _, 0, _ => by rw [List.take_zero, List.take_zero]; rfl
  | [], _, n + 1, h => by cases h; rfl
  | x :: ds, vs, n + 1, h => by
    obtain ⟨v, vr, e, p, t⟩ := h
    subst e
    exact ⟨v, vr.take n, rfl, p, t.take n⟩
theorem DRs.drop : ∀ {ds : List D} {vs : List V} (n : Nat), DRs Wo F ρ ds vs → DRs Wo F ρ (ds.drop n) (vs.drop n)
  | _, _, 0, h => h
  | [], _, n + 1, h => by cases h; rfl
  | x :: ds, vs, n + 1, h => by
    obtain ⟨v, vr, e, p, t⟩ := h
    subst e
    exact t.drop n
theorem DRs.set : ∀ {ds : List D} {vs : List V} (n : Nat) {d : D} {v : V}, DRs Wo F ρ ds vs → DR Wo F ρ d v → DRs Wo F ρ (ds.set n d) (vs.set n v)
  | [], _, _, _, _, h, _ => by cases h; rfl
  | x :: ds, vs, 0, d, v, h, k => by
    obtain ⟨u, vr, e, p, t⟩ := h
    subst e
    exact ⟨v, vr, rfl, k, t⟩
  | x :: ds, vs, n + 1, d, v, h, k => by
    obtain ⟨u, vr, e, p, t⟩ := h
    subst e
    exact ⟨u, vr.set n v, rfl, p, t.set n k⟩
theorem DRs.dropLast : ∀ {ds : List D} {vs : List V}, DRs Wo F ρ ds vs → DRs Wo F ρ ds.dropLast vs.dropLast
  | [], _, h => by cases h; rfl
  | [x], vs, h => by
    obtain ⟨u, vr, e, p, t⟩ := h
    subst e; cases t; rfl
  | x :: y :: ds, vs, h => by
    obtain ⟨u, vr, e, p, t⟩ := h
    subst e
    have t0 := t
    obtain ⟨u2, vr2, e2, p2, t2⟩ := t
    subst e2
    exact ⟨u, (u2 :: vr2).dropLast, rfl, p, t0.dropLast⟩
theorem DRs.nil_iff {ds : List D} {vs : List V} (h : DRs Wo F ρ ds vs) : ds.isEmpty = vs.isEmpty := by
  cases ds with
  | nil => cases h; rfl
  | cons x r => obtain ⟨v, vr, e, _⟩ := h; subst e; rfl
theorem DRk.len : ∀ {ds : List (Key × D)} {vs : List (Key × V)}, DRk Wo F ρ ds vs → ds.length = vs.length
  | [], _, h => by cases h; rfl
  | (k, x) :: ds, vs, h => by
    obtain ⟨v, vr, e, _, t⟩ := h
    subst e
    rw [List.length_cons, List.length_cons, t.len]
theorem DRk.get : ∀ {ds : List (Key × D)} {vs : List (Key × V)} (k : Key), DRk Wo F ρ ds vs → (∃ d v, getK ds k = some d ∧ valV vs k = some v ∧ DR Wo F ρ d v) ∨ (getK ds k = none ∧ valV vs k = none)
  | [], _, k, h => by cases h; exact .inr ⟨rfl, rfl⟩
  | (k', x) :: ds, vs, k, h => by
    obtain ⟨v, vr, e, p, t⟩ := h
    subst e
    by_cases c : k' = k
    · refine .inl ⟨x, v, ?_, ?_, p⟩
      · unfold getK; rw [List.find?_cons_of_pos (by simp [c])]; rfl
      · unfold valV; rw [List.find?_cons_of_pos (by simp [c])]; rfl
    · have e1 : getK ((k', x) :: ds) k = getK ds k := by unfold getK; rw [List.find?_cons_of_neg (by simp [c])]
      have e2 : valV ((k', v) :: vr) k = valV vr k := by unfold valV; rw [List.find?_cons_of_neg (by simp [c])]
      rw [e1, e2]
      exact t.get k
end
end Ev

set_option Elab.async false
set_option linter.all false
set_option maxRecDepth 100000
set_option maxHeartbeats 1000000
/-! Ev4: each operator and built-in keeps its reading. -/
namespace Ev
open PySem PySem.Spec PyProof.Rows L2

abbrev wd (X : Cx) (ca : Nat → Addr) : Wd := ⟨X.K, X.w, ca⟩
/-- room and quiet around a body -/
structure Cq (X : Cx) : Prop where
  hu : X.A.units + 190 < cLine
  hc : X.calm = true
  hg : X.A.guards = some []
  nd : X.N.Nodup

section
variable {Wo : Wd} {G F O : Hp} {ρ : Rho} {st : Sto} {H : Hp}
mutual
theorem dp_of : ∀ {d : D} {v : V} {p : PyData}, DR Wo G ρ d v → py d = some p → Dp Wo.K G v p ∧ p.canLay0 = true
  | .non, v, p, h, e => by cases h; cases e; exact ⟨.non, by simp only [PyData.canLay0]⟩
  | .bl b, v, p, h, e => by cases h; cases e; exact ⟨.bl b, by simp only [PyData.canLay0]⟩
  | .int i, v, p, h, e => by cases h; cases e; exact ⟨.int i, by simp only [PyData.canLay0]⟩
  | .str x, v, p, h, e => by obtain ⟨rfl, q⟩ := h; cases e; exact ⟨.str x, by simp only [PyData.canLay0]; exact q⟩
  | .tup xs, v, p, h, e => by
    obtain ⟨a, vs, rfl, s, t⟩ := h
    simp only [py] at e
    cases q : pys xs with
    | none => rw [q] at e; cases e
    | some ps =>
      rw [q] at e; cases e
      obtain ⟨h1, h2⟩ := dps_of t q
      exact ⟨.tup s h1, by simp only [PyData.canLay0]; exact h2⟩
  | .lst xs, v, p, h, e => by
    obtain ⟨a, vs, rfl, s, t⟩ := h
    simp only [py] at e
    cases q : pys xs with
    | none => rw [q] at e; cases e
    | some ps =>
      rw [q] at e; cases e
      obtain ⟨h1, h2⟩ := dps_of t q
      exact ⟨.lst s.sqL h1, by simp only [PyData.canLay0]; exact h2⟩
  | .dct _, _, _, _, e => by cases e
  | .ref _, _, _, _, e => by cases e
theorem dps_of : ∀ {ds : List D} {vs : List V} {ps : List PyData}, DRs Wo G ρ ds vs → pys ds = some ps → DpAll Wo.K G vs ps ∧ PyData.canLayAll0 ps = true
  | [], vs, ps, h, e => by cases h; cases e; exact ⟨.nil, by simp only [PyData.canLayAll0]⟩
  | x :: r, vs, ps, h, e => by
    obtain ⟨v, vr, rfl, p, t⟩ := h
    simp only [pys] at e
    cases q : py x with
    | none => rw [q] at e; cases e
    | some a =>
      cases q2 : pys r with
      | none => rw [q, q2] at e; cases e
      | some b =>
        rw [q, q2] at e; cases e
        obtain ⟨h1, h2⟩ := dp_of p q
        obtain ⟨h3, h4⟩ := dps_of t q2
        exact ⟨.cons h1 h3, by simp only [PyData.canLayAll0, h2, h4, Bool.and_self]⟩
end
theorem pyv_at {d : D} {v : V} {p : PyData} (R : Rl Wo F O ρ st H) (h : PR Wo F O ρ d v) (e : pyv d st = some p) : Dp Wo.K H v p ∧ p.canLay0 = true := by
  have plain : DR Wo F ρ d v → py d = some p → Dp Wo.K H v p ∧ p.canLay0 = true := fun h1 h2 => dp_of (DR.later R.fz (fun _ _ z => z) h1) h2
  have lists : ∀ xs, lv d st = some xs → (pys xs).map PyData.list = some p → Dp Wo.K H v p ∧ p.canLay0 = true := fun xs e1 e2 => by
    obtain ⟨a, vs, rfl, s, t, _⟩ := lv_at R h e1
    cases q : pys xs with
    | none => rw [q] at e2; cases e2
    | some ps =>
      rw [q] at e2; cases e2
      obtain ⟨h1, h2⟩ := dps_of (t.later R.fz fun _ _ z => z) q
      exact ⟨.lst s.sqL h1, by simp only [PyData.canLay0]; exact h2⟩
  cases d with
  | lst xs => exact lists xs rfl (by simpa only [pyv, py] using e)
  | ref n =>
    have e : (obL (st.get n)).bind (fun xs => (pys xs).map PyData.list) = some p := e
    cases q : obL (st.get n) with
    | none => rw [q] at e; cases e
    | some xs => rw [q] at e; exact lists xs q e
  | dct kvs => cases e
  | _ => exact plain h e
end

section
variable {X : Cx} {ca : Nat → Addr}
/-! ### operators -/
theorem ls_ok {pins : List (Addr × Obj)} {s : Shared} {σ : L2.St} {H : Hp} {l : Addr} {xs : List V} (I : Inv X pins σ H s) (h : LsT X.K H l xs) : xs.length ≤ sizeLine ∧ ∃ (its : List Value) (n : Nat), Vals xs its ∧ s.heap.get? l = some { cls := .type "list", data := .seq its.toArray n } := by
  rcases h with h | ⟨its, n, e, z, r⟩
  · exact h.ok I.hok
  · exact ⟨z, its, n, r, I.kIn _ _ e⟩
theorem op_add_list : OpR X (binaryOp .Add) (fun x y H Q => ∃ l b xs zs, x = .ref l ∧ y = .ref b ∧ LsT X.K H l xs ∧ LsT X.K H b zs ∧ xs.length + zs.length ≤ sizeLine ∧ ∀ p, H p = none → Q (.ref p) (upd H p (.lst (xs ++ zs)))) := by
  intro pins s σ H x y v u Q I rx ry h
  obtain ⟨l, b, xs, zs, rfl, rfl, hH, hB, hz, q⟩ := h
  cases rx
  cases ry
  obtain ⟨z, its, n, r, e⟩ : xs.length ≤ sizeLine ∧ ∃ (its : List Value) (n : Nat), Vals xs its ∧ s.heap.get? l = some { cls := .type "list", data := .seq its.toArray n } := ls_ok I hH
  obtain ⟨z2, its2, n2, r2, e2⟩ : zs.length ≤ sizeLine ∧ ∃ (its : List Value) (n : Nat), Vals zs its ∧ s.heap.get? b = some { cls := .type "list", data := .seq its.toArray n } := ls_ok I hB
  have hl := r.length
  have hl2 := r2.length
  refine PySem.P.add_list e e2 ?_ (by rw [List.size_toArray, List.size_toArray]; omega)
  rw [show its.toArray ++ its2.toArray = (its ++ its2).toArray from by simp]
  exact ⟨.ref _, _, I.lnew (t' := s.toks) (r.append r2) (by rw [List.length_append]; omega), rfl, q _ I.fresh⟩
theorem strOk_app {x y : Str} (hx : PyData.strOk x = true) (hy : PyData.strOk y = true) : PyData.strOk (x ++ y) = true := by
  unfold PyData.strOk at *
  have e : (x ++ y).cps = x.cps ++ y.cps := rfl
  rw [e, Array.all_append, hx, hy]; rfl
theorem od_add : OpR X (binaryOp .Add) (rOp (wd X ca) (opB .add)) := by
  intro pins s σ H x y v u Q I rx ry h
  obtain ⟨F, O, ρ, st, a, b, R, pa, pb, h⟩ := h
  have fall : okN (wd X ca) (DR (wd X ca)) F O ρ H (addL a b st) Q → wpAny (model X.prog X.w) X.A (binaryOp .Add v u) (EP X pins σ Q) X.xe s := fun h => by
    unfold addL at h
    cases ea : lv a st with
    | none => rw [ea] at h; exact h.elim
    | some xs =>
      cases eb : lv b st with
      | none => rw [ea, eb] at h; exact h.elim
      | some ys =>
        rw [ea, eb] at h
        obtain ⟨a1, vs, e1, s1, t1, _⟩ := lv_at R pa ea
        obtain ⟨b1, us, e2, s2, t2, _⟩ := lv_at R pb eb
        obtain ⟨hz, q⟩ := okN.mkL (vs := vs ++ us) h R (t1.app t2)
        rw [List.length_append, t1.len, t2.len] at hz
        exact op_add_list pins s σ H x y v u Q I rx ry ⟨a1, b1, vs, us, e1, e2, s1, s2, hz, q⟩
  cases a with
  | int i => cases b with
    | int j => exact op_add pins s σ H x y v u Q I rx ry ⟨i, j, pa, pb, okN.ret h R rfl⟩
    | _ => exact fall h
  | str i => cases b with
    | str j =>
      obtain ⟨e1, k1⟩ := pa
      obtain ⟨e2, k2⟩ := pb
      have h : okN (wd X ca) (DR (wd X ca)) F O ρ H ((if i.length + j.length ≤ sizeLine then ret (.str (i ++ j)) else no : M D) st) Q := h
      by_cases c : i.length + j.length ≤ sizeLine
      · rw [if_pos c] at h
        exact op_add_str pins s σ H x y v u Q I rx ry ⟨i, j, e1, e2, c, okN.ret h R ⟨rfl, strOk_app k1 k2⟩⟩
      · rw [if_neg c] at h; exact h.elim
    | _ => exact fall h
  | tup i => cases b with
    | tup j =>
      obtain ⟨a1, vs, e1, s1, t1⟩ := pa
      obtain ⟨b1, us, e2, s2, t2⟩ := pb
      have h : okN (wd X ca) (DR (wd X ca)) F O ρ H (mkT (i ++ j) st) Q := h
      obtain ⟨hz, q⟩ := okN.mkT (vs := vs ++ us) h R (t1.app t2)
      have hz0 := hz
      rw [List.length_append, t1.len, t2.len] at hz
      have hl : okN (wd X ca) (DR (wd X ca)) F O ρ H (.ok (.tup (i ++ j)) st) Q := by
        unfold mkT at h
        rw [if_pos hz0] at h
        exact h
      refine op_catA pins s σ H x y v u Q I rx ry ⟨a1, b1, vs, us, e1, e2, SqT.later R.fz s1, SqT.later R.fz s2, hz, fun z => ?_, fun _ z => ?_, fun _ _ => q⟩
      · subst z
        have : i = [] := by
          cases i with
          | nil => rfl
          | cons _ _ => have := t1.len; cases this
        subst this
        exact okN.okk (v := .ref b1) hl R ⟨b1, us, rfl, s2, t2⟩
      · subst z
        have : j = [] := by
          cases j with
          | nil => rfl
          | cons _ _ => have := t2.len; cases this
        subst this
        rw [List.append_nil] at hl
        exact okN.okk (v := .ref a1) hl R ⟨a1, vs, rfl, s1, t1⟩
    | _ => exact fall h
  | _ => exact fall h
theorem od_sub : OpR X (binaryOp .Sub) (rOp (wd X ca) (opB .sub)) := by
  intro pins s σ H x y v u Q I rx ry h
  obtain ⟨F, O, ρ, st, a, b, R, pa, pb, h⟩ := h
  cases a with
  | int i => cases b with
    | int j => exact op_sub pins s σ H x y v u Q I rx ry ⟨i, j, pa, pb, okN.ret h R rfl⟩
    | _ => exact h.elim
  | _ => exact h.elim
theorem rep_fold (x : Array Nat) : ∀ (n : Nat) (acc : Array Nat), (List.foldl (· ++ ·) acc (List.replicate n x)).toList = acc.toList ++ (List.replicate n x.toList).flatten
  | 0, acc => by simp
  | n + 1, acc => by
    rw [List.replicate_succ, List.foldl_cons, rep_fold x n, List.replicate_succ, List.flatten_cons, Array.toList_append, List.append_assoc]
theorem mul_rep {x : Str} {n : Int} (h : 0 ≤ n) : Txt.mul x n = repS x n.toNat := by
  have ext : ∀ {a b : Str}, a.cps.toList = b.cps.toList → a = b := fun {a b} h => by
    obtain ⟨⟨a⟩⟩ := a
    obtain ⟨⟨b⟩⟩ := b
    exact congrArg (fun l => (⟨⟨l⟩⟩ : Str)) h
  apply ext
  unfold Txt.mul repS
  by_cases h1 : n < 1
  · rw [if_pos h1]
    have : n.toNat = 0 := by omega
    rw [this]; rfl
  · rw [if_neg h1]
    by_cases h2 : (n == 1 || x.length == 0) = true
    · rw [if_pos h2]
      simp only [Bool.or_eq_true, beq_iff_eq] at h2
      rcases h2 with h2 | h2
      · subst h2; simp
      · have e : x.cps.toList = [] := by
          have : x.cps.toList.length = 0 := h2
          exact List.length_eq_zero_iff.mp this
        rw [e]; simp
    · rw [if_neg h2]
      rw [rep_fold]; simp
theorem lst_heap {pins : List (Addr × Obj)} {s : Shared} {σ : L2.St} {H : Hp} {a : Addr} {vs : List V} (I : Inv X pins σ H s) (h : LsT X.K H a vs) :
    ∃ (its : List Value) (n : Nat), Vals vs its ∧ vs.length = its.length ∧ vs.length ≤ sizeLine ∧ s.heap.get? a = some { cls := .type "list", data := .seq its.toArray n } := by
  rcases h with h | ⟨its, n, e, z, r⟩
  · obtain ⟨z, its, n, r, e⟩ := h.ok I.hok
    exact ⟨its, n, r, r.length, z, e⟩
  · exact ⟨its, n, r, r.length, by have := r.length; omega, I.kIn a _ e⟩
theorem op_repL {pins : List (Addr × Obj)} {s : Shared} {σ : L2.St} {H : Hp} {l : Addr} {k : Int} {xs : List V} {v u : Value} {Q : VK} (I : Inv X pins σ H s) (rx : RelV (.ref l) v) (ry : RelV (.int k) u) (hH : LsT X.K H l xs)
    (h1 : -(2 ^ 63) ≤ k) (h2 : k < 2 ^ 63) (hz : xs.length * k.toNat ≤ sizeLine) (q : ∀ p, H p = none → Q (.ref p) (upd H p (.lst (List.replicate k.toNat xs).flatten))) :
    wpAny (model X.prog X.w) X.A (binaryOp .Mult v u) (EP X pins σ Q) X.xe s := by
  cases rx
  obtain ⟨t, rfl⟩ := ry
  obtain ⟨its, n, r, hl, z, e⟩ := lst_heap I hH
  have hlen : its.toArray.size * k.toNat ≤ sizeLine := by rw [List.size_toArray, ← hl]; exact hz
  have hcap : ¬ its.toArray.size * k.toNat > (2 ^ 63 - 1) / 8 := by
    have : (sizeLine : Nat) ≤ (2 ^ 63 - 1) / 8 := by decide
    omega
  have hfit : ¬ (!Builtin.List.listFitsIndex k) = true := by rw [fitsIndex_both h1 h2]; exact Bool.false_ne_true
  have hlong : ¬ Builtin.List.listTooLong (its.toArray.size * k.toNat) = true := by rw [notLongL hlen]; exact Bool.false_ne_true
  have hnew : List.foldl (fun x1 x2 => x1 ++ x2) #[] (List.replicate (if its.toArray.isEmpty = true then 0 else k.toNat) its.toArray) = (List.replicate k.toNat its).flatten.toArray := by
    rw [size_rep]
    cases its with
    | nil => simp
    | cons a r' => rw [if_neg (by simp)]
  refine wpAny_binaryOp_repeat_ref (T := "list") (U := "int") (by decide) ⟨_, e, rfl⟩ (fun s' => typeIs_int s' k t) noFill_list_mul F.fills_int_mul F.slot_int_rmul repeat_list F.slot_int_index.lookup
    (call_meets F.slot_int_rmul (typeIs_int s k t) F.entry_int_rmul (F.args_int_rmul_2 _ _) (int___rmul___int_list k t l its.toArray n)
      ⟨e, rfl, ⟨_, e, rfl⟩, call_meets F.slot_list_mul ⟨_, e, rfl⟩ F.entry_list_mul (F.args_list_mul_2 _ _) (AutoListH.list___mul___list_int_3 l its.toArray n k t hfit hcap hlong) ⟨e, ?_⟩⟩)
  rw [hnew]
  exact ⟨.ref _, _, I.lnew (t' := s.toks) (r.rep k.toNat) (by rw [lm_len_rep_flat, Nat.mul_comm]; exact hz), rfl, q _ I.fresh⟩
theorem od_mul : OpR X (binaryOp .Mult) (rOp (wd X ca) (opB .mul)) := by
  intro pins s σ H x y v u Q I rx ry h
  obtain ⟨F, O, ρ, st, a, b, R, pa, pb, h⟩ := h
  cases a with
  | int i => cases b with
    | int j =>
      have h : okN (wd X ca) (DR (wd X ca)) F O ρ H ((if mulOk i j = true then ret (.int (i * j)) else no : M D) st) Q := h
      by_cases c : mulOk i j = true
      · rw [if_pos c] at h
        unfold mulOk at c
        simp only [Bool.or_eq_true, Bool.and_eq_true, decide_eq_true_eq] at c
        exact op_mul pins s σ H x y v u Q I rx ry ⟨i, j, pa, pb, c, okN.ret h R rfl⟩
      · rw [if_neg c] at h; exact h.elim
    | _ => exact h.elim
  | str z => cases b with
    | int n =>
      have h : okN (wd X ca) (DR (wd X ca)) F O ρ H ((if 0 ≤ n ∧ n ≤ 1000000 ∧ z.length * n.toNat ≤ 1000000 then ret (.str (repS z n.toNat)) else no : M D) st) Q := h
      by_cases c : 0 ≤ n ∧ n ≤ 1000000 ∧ z.length * n.toNat ≤ 1000000
      · rw [if_pos c] at h
        obtain ⟨rfl, hz⟩ := pa
        cases (show y = .int n from pb)
        obtain ⟨t, rfl⟩ := rx
        obtain ⟨t2, rfl⟩ := ry
        have ok : MulOk z n := by
          refine ⟨by rw [decide_eq_false (by omega), decide_eq_false (by omega)]; rfl, fun h1 h2 => ?_, fun _ _ => ?_⟩
          · have h3 : z.length ≤ 1000000 := by
              have h4 : 1 ≤ n.toNat := by omega
              have := Nat.mul_le_mul_left z.length h4
              omega
            have h5 : (1000001 : Int) ≤ (2 ^ 63 - 1) / n := (Int.le_ediv_iff_mul_le (by omega)).mpr (by omega)
            omega
          · have := c.2.2
            unfold Builtin.Str.tooLong
            exact decide_eq_false (by rw [sizeLine_eq]; omega)
        refine PySem.SB.mul ok fun t' k => ⟨.str (Txt.mul z n), H, I.tok k, ⟨_, rfl⟩, ?_⟩
        rw [mul_rep c.1]
        refine okN.ret h R ⟨rfl, ?_⟩
        unfold PyData.strOk
        rw [← Array.all_toList, List.all_eq_true]
        intro d hd
        have hd : d ∈ (List.replicate n.toNat z.cps.toList).flatten := hd
        obtain ⟨l, h1, h2⟩ := List.mem_flatten.mp hd
        rw [(List.mem_replicate.mp h1).2] at h2
        unfold PyData.strOk at hz
        rw [← Array.all_toList, List.all_eq_true] at hz
        exact hz d h2
      · rw [if_neg c] at h; exact h.elim
    | _ => exact h.elim
  | tup xs => cases b with
    | int n =>
      have h : okN (wd X ca) (DR (wd X ca)) F O ρ H ((if xs.length ≠ 0 ∧ xs.length ≤ 1000 ∧ 2 ≤ n ∧ n ≤ 1000 then ret (.tup (List.replicate n.toNat xs).flatten) else no : M D) st) Q := h
      by_cases c : xs.length ≠ 0 ∧ xs.length ≤ 1000 ∧ 2 ≤ n ∧ n ≤ 1000
      · rw [if_pos c] at h
        obtain ⟨b1, vs, e1, s1, t1⟩ := pa
        have hl := t1.len
        have rp : ∀ k : Nat, DRs (wd X ca) F ρ (List.replicate k xs).flatten (List.replicate k vs).flatten := fun k => by
          induction k with
          | zero => rfl
          | succ k ih => rw [List.replicate_succ, List.replicate_succ, List.flatten_cons, List.flatten_cons]; exact t1.app ih
        exact op_repT pins s σ H x y v u Q I rx ry ⟨b1, n, vs, e1, pb, SqT.later R.fz s1, fun z => c.1 (by rw [hl, z]; rfl), c.2.2.1, c.2.2.2, by omega, okN.newT h R (rp n.toNat)⟩
      · rw [if_neg c] at h; exact h.elim
    | _ => exact h.elim
  | lst xs => cases b with
    | int n =>
      have h : okN (wd X ca) (DR (wd X ca)) F O ρ H ((if xs.length ≤ 1000 ∧ 0 ≤ n ∧ n ≤ 1000 then ret (.lst (List.replicate n.toNat xs).flatten) else no : M D) st) Q := h
      by_cases c : xs.length ≤ 1000 ∧ 0 ≤ n ∧ n ≤ 1000
      · rw [if_pos c] at h
        obtain ⟨b1, vs, e1, s1, t1⟩ := pa
        have hl := t1.len
        have rp : ∀ k : Nat, DRs (wd X ca) F ρ (List.replicate k xs).flatten (List.replicate k vs).flatten := fun k => by
          induction k with
          | zero => rfl
          | succ k ih => rw [List.replicate_succ, List.replicate_succ, List.flatten_cons, List.flatten_cons]; exact t1.app ih
        subst e1
        cases (show y = .int n from pb)
        refine op_repL I rx ry (lsLater R.jn_le s1) (by omega) (by omega) ?_ (okN.newL h R (rp n.toNat))
        have h1 : vs.length ≤ 1000 := by omega
        have h2 : n.toNat ≤ 1000 := by omega
        have := Nat.mul_le_mul h1 h2
        rw [sizeLine_eq]; omega
      · rw [if_neg c] at h; exact h.elim
    | _ => exact h.elim
  | _ => exact h.elim
theorem od_fdiv : OpR X (binaryOp .FloorDiv) (rOp (wd X ca) (opB .fdiv)) := by
  intro pins s σ H x y v u Q I rx ry h
  obtain ⟨F, O, ρ, st, a, b, R, pa, pb, h⟩ := h
  cases a with
  | int i => cases b with
    | int j =>
      have h : okN (wd X ca) (DR (wd X ca)) F O ρ H ((if 0 < j ∧ (j < 1073741824 ∨ j.natAbs.log2 < 9000) then ret (.int (i / j)) else no : M D) st) Q := h
      by_cases c : 0 < j ∧ (j < 1073741824 ∨ j.natAbs.log2 < 9000)
      · rw [if_pos c] at h
        rcases c with ⟨c0, c | c⟩
        · exact op_fdiv pins s σ H x y v u Q I rx ry ⟨i, j, pa, pb, ⟨c0, c⟩, okN.ret h R rfl⟩
        · exact op_fdivW pins s σ H x y v u Q I rx ry ⟨i, j, pa, pb, ⟨c0, c⟩, okN.ret h R rfl⟩
      · rw [if_neg c] at h; exact h.elim
    | _ => exact h.elim
  | _ => exact h.elim
theorem od_mod : OpR X (binaryOp .Mod) (rOp (wd X ca) (opB .mod)) := by
  intro pins s σ H x y v u Q I rx ry h
  obtain ⟨F, O, ρ, st, a, b, R, pa, pb, h⟩ := h
  cases a with
  | int i => cases b with
    | int j =>
      have h : okN (wd X ca) (DR (wd X ca)) F O ρ H ((if 0 < j then ret (.int (i % j)) else no : M D) st) Q := h
      by_cases c : 0 < j
      · rw [if_pos c] at h
        exact op_mod pins s σ H x y v u Q I rx ry ⟨i, j, pa, pb, c, okN.ret h R rfl⟩
      · rw [if_neg c] at h; exact h.elim
    | _ => exact h.elim
  | _ => exact h.elim
theorem od_pow : OpR X (binaryOp .Pow) (rOp (wd X ca) (opB .pow)) := by
  intro pins s σ H x y v u Q I rx ry h
  obtain ⟨F, O, ρ, st, a, b, R, pa, pb, h⟩ := h
  cases a with
  | int i => cases b with
    | int j =>
      have h : okN (wd X ca) (DR (wd X ca)) F O ρ H ((if 0 ≤ j ∧ j ≤ 1000000 ∧ i.natAbs < 18446744073709551616 then ret (.int (i ^ j.toNat)) else no : M D) st) Q := h
      by_cases c : 0 ≤ j ∧ j ≤ 1000000 ∧ i.natAbs < 18446744073709551616
      · rw [if_pos c] at h
        exact op_pow pins s σ H x y v u Q I rx ry ⟨i, j, pa, pb, c, okN.ret h R rfl⟩
      · rw [if_neg c] at h; exact h.elim
    | _ => exact h.elim
  | _ => exact h.elim
theorem od_addn : OpR X (binaryOp .Add) (rOp (wd X ca) (opB .addn)) := by
  intro pins s σ H x y v u Q I rx ry h
  obtain ⟨F, O, ρ, st, a, b, R, pa, pb, h⟩ := h
  have h : okN (wd X ca) (DR (wd X ca)) F O ρ H (addN a b st) Q := h
  unfold addN at h
  cases ea : lv a st with
  | none => rw [ea] at h; exact h.elim
  | some xs =>
    cases eb : lv b st with
    | none => rw [ea, eb] at h; exact h.elim
    | some ys =>
      rw [ea, eb] at h
      obtain ⟨a1, vs, e1, s1, t1, _⟩ := lv_at R pa ea
      obtain ⟨b1, us, e2, s2, t2, _⟩ := lv_at R pb eb
      dsimp only at h
      by_cases c : xs.length + ys.length ≤ sizeLine
      · rw [if_pos c] at h
        have hz := c
        rw [t1.len, t2.len] at hz
        refine op_add_list pins s σ H x y v u Q I rx ry ⟨a1, b1, vs, us, e1, e2, s1, s2, hz, fun q hq => ?_⟩
        obtain ⟨X', R'⟩ := stored R hq (x := .lst (vs ++ us)) (o := .lst (xs ++ ys)) ⟨vs ++ us, rfl, t1.app t2⟩
        exact h _ _ _ _ X' R' ⟨q, rfl, if_pos rfl⟩
      · rw [if_neg c] at h; exact h.elim
def opOf : BO → Operator
  | .add => .Add | .sub => .Sub | .mul => .Mult | .fdiv => .FloorDiv | .mod => .Mod | .pow => .Pow | .addn => .Add
theorem od_all : ∀ o : BO, OpR X (binaryOp (opOf o)) (rOp (wd X ca) (opB o))
  | .add => od_add | .sub => od_sub | .mul => od_mul | .fdiv => od_fdiv | .mod => od_mod | .pow => od_pow | .addn => od_addn

/-! ### comparisons -/
theorem room_min {X : Cx} (q : Cq X) {m n : Nat} (h : min m n ≤ 100) : X.A.units + min m n < cLine := by have := q.hu; omega
theorem oc_eq (q : Cq X) : OpR X (compareOp .Eq) (rOp (wd X ca) (opC .eq)) := by
  intro pins s σ H x y v u Q I rx ry h
  obtain ⟨F, O, ρ, st, a, b, R, pa, pb, h⟩ := h
  have h : okN (wd X ca) (DR (wd X ca)) F O ρ H (bnd (eqD a b) (fun t => ret (.bl t)) st) Q := h
  unfold bnd eqD at h
  cases ea : pyv a st with
  | none => rw [ea] at h; exact h.elim
  | some d =>
    cases eb : pyv b st with
    | none => rw [ea, eb] at h; exact h.elim
    | some e =>
      rw [ea, eb] at h
      dsimp only at h
      by_cases c : min d.depth e.depth ≤ 100
      · rw [if_pos c] at h
        obtain ⟨d1, c1⟩ := pyv_at R pa ea
        obtain ⟨d2, c2⟩ := pyv_at R pb eb
        obtain ⟨as, r1⟩ := Dp.reads I _ _ _ d1 rx
        obtain ⟨bs, r2⟩ := Dp.reads I _ _ _ d2 ry
        exact SeqAt.compareEq_reads r1 r2 c1 c2 (room_min q c) ⟨.bl _, H, I, rfl, okN.ret h R rfl⟩
      · rw [if_neg c] at h; exact h.elim
theorem oc_ne (q : Cq X) : OpR X (compareOp .NotEq) (rOp (wd X ca) (opC .ne)) := by
  intro pins s σ H x y v u Q I rx ry h
  obtain ⟨F, O, ρ, st, a, b, R, pa, pb, h⟩ := h
  have h : okN (wd X ca) (DR (wd X ca)) F O ρ H (bnd (eqD a b) (fun t => ret (.bl (!t))) st) Q := h
  unfold bnd eqD at h
  cases ea : pyv a st with
  | none => rw [ea] at h; exact h.elim
  | some d =>
    cases eb : pyv b st with
    | none => rw [ea, eb] at h; exact h.elim
    | some e =>
      rw [ea, eb] at h
      dsimp only at h
      by_cases c : min d.depth e.depth ≤ 100
      · rw [if_pos c] at h
        obtain ⟨d1, c1⟩ := pyv_at R pa ea
        obtain ⟨d2, c2⟩ := pyv_at R pb eb
        obtain ⟨as, r1⟩ := Dp.reads I _ _ _ d1 rx
        obtain ⟨bs, r2⟩ := Dp.reads I _ _ _ d2 ry
        exact SeqAt.compareNe_reads r1 r2 c1 c2 (room_min q c) ⟨.bl _, H, I, rfl, okN.ret h R rfl⟩
      · rw [if_neg c] at h; exact h.elim
theorem oc_lt : OpR X (compareOp .Lt) (rOp (wd X ca) (opC .lt)) := by
  intro pins s σ H x y v u Q I rx ry h
  obtain ⟨F, O, ρ, st, a, b, R, pa, pb, h⟩ := h
  cases a with
  | int i => cases b with
    | int j => exact op_lt pins s σ H x y v u Q I rx ry ⟨i, j, pa, pb, okN.ret h R rfl⟩
    | _ => exact h.elim
  | _ => exact h.elim
theorem oc_le : OpR X (compareOp .LtE) (rOp (wd X ca) (opC .le)) := by
  intro pins s σ H x y v u Q I rx ry h
  obtain ⟨F, O, ρ, st, a, b, R, pa, pb, h⟩ := h
  cases a with
  | int i => cases b with
    | int j => exact op_le pins s σ H x y v u Q I rx ry ⟨i, j, pa, pb, okN.ret h R rfl⟩
    | _ => exact h.elim
  | str i => cases b with
    | str j => exact op_le_str pins s σ H x y v u Q I rx ry ⟨i, j, pa.1, pb.1, okN.ret h R rfl⟩
    | _ => exact h.elim
  | _ => exact h.elim
theorem oc_gt : OpR X (compareOp .Gt) (rOp (wd X ca) (opC .gt)) := by
  intro pins s σ H x y v u Q I rx ry h
  obtain ⟨F, O, ρ, st, a, b, R, pa, pb, h⟩ := h
  cases a with
  | int i => cases b with
    | int j => exact op_gt pins s σ H x y v u Q I rx ry ⟨i, j, pa, pb, okN.ret h R rfl⟩
    | _ => exact h.elim
  | _ => exact h.elim
theorem oc_ge : OpR X (compareOp .GtE) (rOp (wd X ca) (opC .ge)) := by
  intro pins s σ H x y v u Q I rx ry h
  obtain ⟨F, O, ρ, st, a, b, R, pa, pb, h⟩ := h
  cases a with
  | int i => cases b with
    | int j => exact op_ge pins s σ H x y v u Q I rx ry ⟨i, j, pa, pb, okN.ret h R rfl⟩
    | _ => exact h.elim
  | _ => exact h.elim
/-- the cases of `is` -/
theorem isD_cases {a b : D} {t : Bool} {Wo : Wd} {F O : Hp} {ρ : Rho} {x y : V} (e : isD a b = some t) (pa : PR Wo F O ρ a x) (pb : PR Wo F O ρ b y) :
    (y = .non ∧ t = decide (x = .non)) ∨ (∃ p q : Bool, x = .bl p ∧ y = .bl q ∧ t = decide (p = q)) := by
  cases b with
  | non =>
    have py_ : y = .non := pb
    refine .inl ⟨py_, ?_⟩
    cases a with
    | non => have px : x = .non := pa; rw [px]; cases e; rfl
    | bl i => have px : x = .bl i := pa; rw [px]; cases e; rfl
    | int i => have px : x = .int i := pa; rw [px]; cases e; rfl
    | str i => have px : x = .str i := pa.1; rw [px]; cases e; rfl
    | tup i => obtain ⟨a1, _, px, _⟩ := pa; rw [px]; cases e; rfl
    | lst i => obtain ⟨a1, _, px, _⟩ := pa; rw [px]; cases e; rfl
    | dct i => obtain ⟨a1, _, px, _⟩ := pa; rw [px]; cases e; rfl
    | ref i => obtain ⟨a1, px, _⟩ := pa; rw [px]; cases e; rfl
  | bl j =>
    have py_ : y = .bl j := pb
    cases a with
    | bl i =>
      cases e
      refine .inr ⟨i, j, pa, py_, ?_⟩
      cases i <;> cases j <;> rfl
    | _ => cases e
  | _ => cases a <;> cases e
theorem oc_is : OpR X (compareOp .Is) (rOp (wd X ca) (opC .is)) := by
  intro pins s σ H x y v u Q I rx ry h
  obtain ⟨F, O, ρ, st, a, b, R, pa, pb, h⟩ := h
  have h : okN (wd X ca) (DR (wd X ca)) F O ρ H (bnd (opt (isD a b)) (fun t => ret (.bl t)) st) Q := h
  cases e : isD a b with
  | none => rw [e] at h; exact h.elim
  | some t =>
    rw [e] at h
    have q : Q (.bl t) H := okN.ret h R rfl
    rcases isD_cases e pa pb with ⟨h1, h2⟩ | ⟨p, r, h1, h2, h3⟩
    · exact op_isN pins s σ H x y v u Q I rx ry ⟨h1, h2 ▸ q⟩
    · exact op_isBl pins s σ H x y v u Q I rx ry ⟨p, r, h1, h2, h3 ▸ q⟩
theorem oc_isn : OpR X (compareOp .IsNot) (rOp (wd X ca) (opC .isn)) := by
  intro pins s σ H x y v u Q I rx ry h
  obtain ⟨F, O, ρ, st, a, b, R, pa, pb, h⟩ := h
  have h : okN (wd X ca) (DR (wd X ca)) F O ρ H (bnd (opt (isD a b)) (fun t => ret (.bl (!t))) st) Q := h
  cases e : isD a b with
  | none => rw [e] at h; exact h.elim
  | some t =>
    rw [e] at h
    have q : Q (.bl (!t)) H := okN.ret h R rfl
    rcases isD_cases e pa pb with ⟨h1, h2⟩ | ⟨p, r, h1, h2, h3⟩
    · exact op_notN pins s σ H x y v u Q I rx ry ⟨h1, h2 ▸ q⟩
    · exact op_notBl pins s σ H x y v u Q I rx ry ⟨p, r, h1, h2, h3 ▸ q⟩
end
end Ev

set_option Elab.async false
set_option linter.all false
set_option maxRecDepth 100000
set_option maxHeartbeats 1000000
/-! Ev5: in, truth, places, slices, built-ins and methods keep their readings. -/
namespace Ev
open PySem PySem.Spec PyProof.Rows L2

/-! ### texts stay texts -/
theorem strOk_of {x : Str} (h : ∀ c ∈ x.cps.toList, c < 0x110000) : PyData.strOk x = true := by
  unfold PyData.strOk
  rw [Array.all_eq_true_iff_forall_mem]
  intro c hc
  exact decide_eq_true (h c (by simpa using hc))
theorem of_strOk {x : Str} (h : PyData.strOk x = true) : ∀ c ∈ x.cps.toList, c < 0x110000 := by
  unfold PyData.strOk at h
  rw [Array.all_eq_true_iff_forall_mem] at h
  intro c hc
  exact of_decide_eq_true (h c (by simpa using hc))
theorem strOk_lit (s : String) : PyData.strOk (Str.ofString s) = true := by
  refine strOk_of fun c hc => ?_
  rw [Str.ofString_eq_toList] at hc
  have hc : c ∈ s.toList.map Char.toNat := by simpa using hc
  obtain ⟨d, _, rfl⟩ := List.mem_map.mp hc
  have := d.valid
  rcases this with h | ⟨_, h⟩
  · exact Nat.lt_trans h (by decide)
  · exact h
theorem strOk_join {a : Str} (ha : PyData.strOk a = true) : ∀ {ys : List Str}, (∀ y ∈ ys, PyData.strOk y = true) → PyData.strOk (Str.join a ys) = true
  | [], _ => by exact strOk_lit ""
  | [x], h => h x (by simp)
  | x :: y :: r, h => by
    show PyData.strOk (x ++ a ++ Str.join a (y :: r)) = true
    exact strOk_app (strOk_app (h x (by simp)) ha) (strOk_join ha fun z hz => h z (List.mem_cons_of_mem _ hz))
theorem digits_small (c : Nat) : ∀ d ∈ (Nat.toDigits 16 c).map Char.toNat, d < 0x110000 := fun d hd => by
  obtain ⟨e, _, rfl⟩ := List.mem_map.mp hd
  rcases e.valid with h | ⟨_, h⟩
  · exact Nat.lt_trans h (by decide)
  · exact h
theorem reprChar_small {q c : Nat} (hq : q < 0x110000) (hc : c < 0x110000) : ∀ d ∈ Builtin.Str.reprChar q c, d < 0x110000 := fun d hd => by
  have hex : ∀ w, ∀ d ∈ List.replicate (w - ((Nat.toDigits 16 c).map Char.toNat).length) 48 ++ (Nat.toDigits 16 c).map Char.toNat, d < 0x110000 := fun w d hd => by
    rcases List.mem_append.mp hd with h | h
    · rw [(List.mem_replicate.mp h).2]; decide
    · exact digits_small c d h
  unfold Builtin.Str.reprChar at hd
  dsimp only at hd
  repeat' split at hd
  all_goals simp only [List.mem_cons, List.not_mem_nil, or_false, List.cons_append, List.nil_append] at hd
  · rcases hd with rfl | rfl
    · decide
    · exact hc
  · rcases hd with rfl | rfl <;> decide
  · rcases hd with rfl | rfl <;> decide
  · rcases hd with rfl | rfl <;> decide
  · rw [hd]; exact hc
  · rcases hd with rfl | rfl | h
    · decide
    · decide
    · exact hex 2 d h
  · rcases hd with rfl | rfl | h
    · decide
    · decide
    · exact hex 4 d h
  · rcases hd with rfl | rfl | h
    · decide
    · decide
    · exact hex 8 d h
theorem foldl_small {q : Nat} (hq : q < 0x110000) : ∀ (l : List Nat) (acc : Array Nat), (∀ c ∈ l, c < 0x110000) → (∀ c ∈ acc.toList, c < 0x110000) →
    ∀ c ∈ (l.foldl (fun out c => out ++ (Builtin.Str.reprChar q c).toArray) acc).toList, c < 0x110000
  | [], acc, _, h => h
  | c :: r, acc, hl, h => by
    refine foldl_small hq r _ (fun d hd => hl d (List.mem_cons_of_mem _ hd)) fun d hd => ?_
    rw [Array.toList_append] at hd
    rcases List.mem_append.mp hd with hd | hd
    · exact h d hd
    · exact reprChar_small hq (hl c (by simp)) d (by simpa using hd)
theorem strOk_repr {x : Str} (h : PyData.strOk x = true) : PyData.strOk (reprText x) = true := by
  have hq : reprQuote x < 0x110000 := by unfold reprQuote; split <;> decide
  refine strOk_of fun c hc => ?_
  unfold reprText at hc
  rw [Array.toList_push] at hc
  rcases List.mem_append.mp hc with hc | hc
  · rw [← Array.foldl_toList] at hc
    exact foldl_small hq _ _ (of_strOk h) (fun d hd => by have : d = reprQuote x := by simpa using hd
                                                          rw [this]; exact hq) c hc
  · rw [List.mem_singleton.mp hc]; exact hq
theorem strOk_from : ∀ (ts : List Str) (k : Nat) (acc : Str), PyData.strOk acc = true → (∀ t ∈ ts, PyData.strOk t = true) → PyData.strOk (textFrom k acc ts) = true
  | [], _, acc, h, _ => h
  | t :: ts, k, acc, h, ht => strOk_from ts (k + 1) _ (strOk_app (strOk_app h (strOk_lit _)) (ht t (by simp))) fun u hu => ht u (List.mem_cons_of_mem _ hu)
mutual
theorem strOk_shown : ∀ d : PyData, d.canLay0 = true → PyData.strOk d.shown = true
  | .none, _ => strOk_lit _
  | .bool b, _ => by cases b <;> exact strOk_lit _
  | .int i, _ => strOk_lit _
  | .str x, h => strOk_repr (by simpa only [PyData.canLay0] using h)
  | .list xs, h => by
    simp only [PyData.shown]
    exact strOk_app (strOk_from _ 0 _ (strOk_lit _) (strOk_shownAll xs (by simpa only [PyData.canLay0] using h))) (strOk_lit _)
  | .tuple xs, h => by
    simp only [PyData.shown]
    exact strOk_app (strOk_app (strOk_lit _) (strOk_join (strOk_lit _) (strOk_shownAll xs (by simpa only [PyData.canLay0] using h)))) (strOk_lit _)
  | .dict kvs, h => by simp only [PyData.canLay0] at h; cases h
theorem strOk_shownAll : ∀ ds : List PyData, PyData.canLayAll0 ds = true → ∀ t ∈ PyData.shownAll ds, PyData.strOk t = true
  | [], _, t, ht => by simp [PyData.shownAll] at ht
  | d :: ds, h, t, ht => by
    simp only [PyData.canLayAll0, Bool.and_eq_true] at h
    simp only [PyData.shownAll, List.mem_cons] at ht
    rcases ht with rfl | ht
    · exact strOk_shown d h.1
    · exact strOk_shownAll ds h.2 t ht
end
mutual
theorem noDict : ∀ d : PyData, d.canLay0 = true → d.hasDict = false
  | .none, _ => by simp only [PyData.hasDict]
  | .bool b, _ => by simp only [PyData.hasDict]
  | .int i, _ => by simp only [PyData.hasDict]
  | .str x, h => by simp only [PyData.hasDict]
  | .list xs, h => by simp only [PyData.hasDict]; exact noDicts xs (by simpa only [PyData.canLay0] using h)
  | .tuple xs, h => by simp only [PyData.hasDict]; exact noDicts xs (by simpa only [PyData.canLay0] using h)
  | .dict kvs, h => by simp only [PyData.canLay0] at h; cases h
theorem noDicts : ∀ ds : List PyData, PyData.canLayAll0 ds = true → PyData.hasDictAll ds = false
  | [], _ => by simp only [PyData.hasDictAll]
  | d :: ds, h => by
    simp only [PyData.canLayAll0, Bool.and_eq_true] at h
    simp only [PyData.hasDictAll, noDict d h.1, noDicts ds h.2, Bool.or_self]
end
section
variable {X : Cx} {ca : Nat → Addr}
theorem kdv_in {a : Addr} {kv : List (Key × V)} {k : Key} {y : V} {u : Value} {pins : List (Addr × Obj)} {s : Shared} {σ : L2.St} {H : Hp} {Q : VK} (I : Inv X pins σ H s) (d : KDV (wd X ca) a kv) (ey : y = kV k) (ry : RelV y u) (ks : ∃ x, k = Sum.inr x)
    (h : Q (.bl (valV kv k).isSome) H) : wpAny (model X.prog X.w) X.A (compareOp .In u (.ref a)) (EP X pins σ Q) X.xe s := by
  obtain ⟨es, n, kd, hg, _⟩ := d
  obtain ⟨x, rfl⟩ := ks
  obtain ⟨r, h1, h2⟩ := hg x
  refine op_in_kd kd pins s σ H y (.ref a) u (.ref a) Q I ry rfl ⟨x, r, ey, rfl, h1, ?_⟩
  have e : r.isSome = (valV kv (Sum.inr x)).isSome := by
    cases q : valV kv (Sum.inr x) with
    | none => rw [q] at h2; rw [RelO.none_of h2]; rfl
    | some v => rw [q] at h2; obtain ⟨u, e, _⟩ := RelO.some_of h2; rw [e]; rfl
  rw [e]; exact h
theorem kdv_notIn {a : Addr} {kv : List (Key × V)} {k : Key} {y : V} {u : Value} {pins : List (Addr × Obj)} {s : Shared} {σ : L2.St} {H : Hp} {Q : VK} (I : Inv X pins σ H s) (d : KDV (wd X ca) a kv) (ey : y = kV k) (ry : RelV y u) (ks : ∃ x, k = Sum.inr x)
    (h : Q (.bl (!(valV kv k).isSome)) H) : wpAny (model X.prog X.w) X.A (compareOp .NotIn u (.ref a)) (EP X pins σ Q) X.xe s := by
  obtain ⟨es, n, kd, hg, _⟩ := d
  obtain ⟨x, rfl⟩ := ks
  obtain ⟨r, h1, h2⟩ := hg x
  refine op_notIn_kd kd pins s σ H y (.ref a) u (.ref a) Q I ry rfl ⟨x, r, ey, rfl, h1, ?_⟩
  have e : r.isSome = (valV kv (Sum.inr x)).isSome := by
    cases q : valV kv (Sum.inr x) with
    | none => rw [q] at h2; rw [RelO.none_of h2]; rfl
    | some v => rw [q] at h2; obtain ⟨u, e, _⟩ := RelO.some_of h2; rw [e]; rfl
  rw [e]; exact h
theorem kdv_str {Wo : Wd} {F : Hp} {ρ : Rho} {a : Addr} {kv : List (Key × V)} {kvs : List (Key × D)} {k : Key} (d : KDV Wo a kv) (t : DRk Wo F ρ kvs kv) (f : kfit kvs k = true) : ∃ x, k = Sum.inr x := by
  cases k with
  | inr x => exact ⟨x, rfl⟩
  | inl i =>
    obtain ⟨_, _, _, _, h3, h4⟩ := d
    have key : ∀ {ks : List (Key × D)} {vs : List (Key × V)}, DRk Wo F ρ ks vs → (∀ p ∈ vs, ∃ x, p.1 = Sum.inr x) → (ks.any fun p => p.1.isLeft) = false := by
      intro ks
      induction ks with
      | nil => intro vs _ _; rfl
      | cons p r ih =>
        intro vs t h
        obtain ⟨q, d⟩ := p
        obtain ⟨v, vr, rfl, _, t2⟩ := t
        obtain ⟨x, e⟩ := h (q, v) (by simp)
        have e : q = Sum.inr x := e
        subst e
        rw [List.any_cons, ih t2 fun p hp => h p (List.mem_cons_of_mem _ hp)]; rfl
    have f : (kvs.isEmpty || kvs.any fun p => p.1.isLeft) = true := f
    rw [key t h3, Bool.or_false] at f
    cases kvs with
    | nil => cases t; exact (h4 rfl).elim
    | cons _ _ => cases f
theorem keyD_at {Wo : Wd} {F O : Hp} {ρ : Rho} {d : D} {k : Key} {y : V} (e : keyD d = some k) (p : PR Wo F O ρ d y) : y = kV k := by
  cases d with
  | int i => cases e; exact p
  | str x => cases e; exact p.1
  | _ => cases e
section
variable {Wo : Wd} {F O : Hp} {ρ : Rho} {st : Sto} {H : Hp}
theorem via_at {α β : Type} {P : Hp → Rho → α → β → Prop} {n : Nat} {v : V} {f : List D → M α} {g : List (Key × D) → M α} {Q : β → Hp → Prop} (R : Rl Wo F O ρ st H) (p : PR Wo F O ρ (.ref n) v) (h : okN Wo P F O ρ H (viaL n f g st) Q) :
    (∃ xs a vs, v = .ref a ∧ st.get n = some (.lst xs) ∧ ρ n = some a ∧ H a = some (.lst vs) ∧ DRs Wo F ρ xs vs ∧ okN Wo P F O ρ H (f xs st) Q) ∨
    (∃ kvs a kv, v = .ref a ∧ st.get n = some (.dct kvs) ∧ ρ n = some a ∧ H a = some (.dK kv) ∧ DRk Wo F ρ kvs kv ∧ okN Wo P F O ρ H (g kvs st) Q) := by
  obtain ⟨a, e1, e2⟩ := p
  unfold viaL at h
  cases q : st.get n with
  | none => rw [q] at h; exact h.elim
  | some o =>
    rw [q] at h
    obtain ⟨b, x, h1, h2, h3⟩ := R.ob n o q
    rw [e2] at h1; cases h1
    cases o with
    | lst xs => obtain ⟨vs, rfl, h4⟩ := h3; exact .inl ⟨xs, a, vs, e1, rfl, e2, h2, h4, h⟩
    | dct xs => obtain ⟨vs, rfl, h4⟩ := h3; exact .inr ⟨xs, a, vs, e1, rfl, e2, h2, h4, h⟩
    | ins _ _ => exact h.elim
theorem seqM_at {d : D} {v : V} {f : List D → M D} {Q : VK} (R : Rl Wo F O ρ st H) (p : PR Wo F O ρ d v) (h : okN Wo (DR Wo) F O ρ H (seqM f d st) Q) :
    ∃ a xs vs, v = .ref a ∧ (LsT Wo.K H a vs ∨ SqT Wo.K F a vs) ∧ DRs Wo F ρ xs vs ∧ okN Wo (DR Wo) F O ρ H (f xs st) Q := by
  cases d with
  | tup xs => obtain ⟨a, vs, e1, s, t⟩ := p; exact ⟨a, xs, vs, e1, .inr s, t, h⟩
  | lst xs => obtain ⟨a, vs, e1, s, t⟩ := p; exact ⟨a, xs, vs, e1, .inl (lsLater R.jn_le s), t, h⟩
  | ref n =>
    rcases via_at R p h with ⟨xs, a, vs, e1, _, _, e2, t, h⟩ | ⟨_, _, _, _, _, _, _, _, h⟩
    · exact ⟨a, xs, vs, e1, .inl (.inl (.inl e2)), t, h⟩
    · exact h.elim
  | _ => exact h.elim
theorem lstM_at {d : D} {v : V} {f : List D → M D} {Q : VK} (R : Rl Wo F O ρ st H) (p : PR Wo F O ρ d v) (h : okN Wo (DR Wo) F O ρ H (lstM f d st) Q) :
    ∃ a xs vs, v = .ref a ∧ LsT Wo.K H a vs ∧ DRs Wo F ρ xs vs ∧ okN Wo (DR Wo) F O ρ H (f xs st) Q := by
  cases d with
  | lst xs => obtain ⟨a, vs, e1, s, t⟩ := p; exact ⟨a, xs, vs, e1, lsLater R.jn_le s, t, h⟩
  | ref n =>
    rcases via_at R p h with ⟨xs, a, vs, e1, _, _, e2, t, h⟩ | ⟨_, _, _, _, _, _, _, _, h⟩
    · exact ⟨a, xs, vs, e1, .inl (.inl e2), t, h⟩
    · exact h.elim
  | _ => exact h.elim
theorem dctM_at {d : D} {v : V} {f : List (Key × D) → M D} {Q : VK} (R : Rl Wo F O ρ st H) (p : PR Wo F O ρ d v) (h : okN Wo (DR Wo) F O ρ H (dctM f d st) Q) :
    ∃ a kvs kv, v = .ref a ∧ (H a = some (.dK kv) ∨ KDV Wo a kv) ∧ DRk Wo F ρ kvs kv ∧ okN Wo (DR Wo) F O ρ H (f kvs st) Q := by
  cases d with
  | dct xs => obtain ⟨a, vs, e1, s, t⟩ := p; exact ⟨a, xs, vs, e1, s.elim (fun z => .inl (R.jn_le _ _ z)) .inr, t, h⟩
  | ref n =>
    rcases via_at R p h with ⟨_, _, _, _, _, _, _, _, h⟩ | ⟨xs, a, vs, e1, _, _, e2, t, h⟩
    · exact h.elim
    · exact ⟨a, xs, vs, e1, .inl e2, t, h⟩
  | _ => exact h.elim
end
/-- `in` and `not in`, by the truth of in -/
theorem isin_run (q : Cq X) {neg : Bool} {pins : List (Addr × Obj)} {s : Shared} {σ : L2.St} {H : Hp} {x y : V} {v u : Value} {Q : VK} {F O : Hp} {ρ : Rho} {st : Sto} {a b : D} (I : Inv X pins σ H s) (rx : RelV x v) (ry : RelV y u)
    (R : Rl (wd X ca) F O ρ st H) (pa : PR (wd X ca) F O ρ a x) (pb : PR (wd X ca) F O ρ b y) (h : okN (wd X ca) (fun _ _ b c => c = b) F O ρ H (isinD a b st) (fun t H' => Q (.bl (if neg then !t else t)) H')) :
    wpAny (model X.prog X.w) X.A (compareOp (if neg then .NotIn else .In) v u) (EP X pins σ Q) X.xe s := by
  have seqs : ∀ ys b1 vs, y = .ref b1 → (LsT X.K H b1 vs ∨ SqT X.K H b1 vs) → DRs (wd X ca) F ρ ys vs → okN (wd X ca) (fun _ _ b c => c = b) F O ρ H (inSq a ys st) (fun t H' => Q (.bl (if neg then !t else t)) H') →
      wpAny (model X.prog X.w) X.A (compareOp (if neg then .NotIn else .In) v u) (EP X pins σ Q) X.xe s := fun ys b1 vs ey sb tb h => by
    subst ey
    unfold inSq at h
    cases ea : py a with
    | none => rw [ea] at h; exact h.elim
    | some p =>
      cases eb : pys ys with
      | none => rw [ea, eb] at h; exact h.elim
      | some qs =>
        rw [ea, eb] at h
        dsimp only at h
        by_cases c : min (PyData.depthAll qs) p.depth ≤ 100
        · rw [if_pos c] at h
          have q1 : Q (.bl (if neg then !(qs.any fun y => PyData.eqv y p) else qs.any fun y => PyData.eqv y p)) H := h _ F ρ H Ext.refl R rfl
          have ea' : pyv a st = some p := by
            cases a with
            | ref n => cases ea
            | _ => exact ea
          obtain ⟨d1, c1⟩ := pyv_at R pa ea'
          obtain ⟨as, r1⟩ := Dp.reads I _ _ _ d1 rx
          obtain ⟨d2, c2⟩ := dps_of (tb.later R.fz fun _ _ z => z) eb
          have room : X.A.units + 1 + min (PyData.depthAll qs) p.depth < cLine := by have := q.hu; omega
          rcases sb with sb | sb
          · obtain ⟨bs, r2⟩ := Dp.reads I _ _ _ (Dp.lst sb.sqL d2) ry
            cases neg with
            | false => exact SeqAt.in_list_reads r2 r1 c2 c1 room ⟨.bl _, H, I, rfl, q1⟩
            | true => exact SeqAt.notIn_list_reads r2 r1 c2 c1 room ⟨.bl _, H, I, rfl, q1⟩
          · obtain ⟨bs, r2⟩ := Dp.reads I _ _ _ (Dp.tup sb d2) ry
            cases neg with
            | false => exact SeqAt.in_tuple_reads r2 r1 c2 c1 room ⟨.bl _, H, I, rfl, q1⟩
            | true => exact SeqAt.notIn_tuple_reads r2 r1 c2 c1 room ⟨.bl _, H, I, rfl, q1⟩
        · rw [if_neg c] at h; exact h.elim
  have dicts : ∀ kvs b1 kv, y = .ref b1 → (H b1 = some (.dK kv) ∨ KDV (wd X ca) b1 kv) → DRk (wd X ca) F ρ kvs kv → okN (wd X ca) (fun _ _ b c => c = b) F O ρ H (inDk a kvs st) (fun t H' => Q (.bl (if neg then !t else t)) H') →
      wpAny (model X.prog X.w) X.A (compareOp (if neg then .NotIn else .In) v u) (EP X pins σ Q) X.xe s := fun kvs b1 kv ey hk tk h => by
    have hu1 : X.A.units + 1 < cLine := by have := q.hu; omega
    subst ey
    unfold inDk at h
    cases ea : keyD a with
    | none => rw [ea] at h; exact h.elim
    | some k =>
      rw [ea] at h
      dsimp only at h
      by_cases fk : kfit kvs k = true
      · rw [if_pos fk] at h
        have q1 : Q (.bl (if neg then !(getK kvs k).isSome else (getK kvs k).isSome)) H := h _ F ρ H Ext.refl R rfl
        have ey := keyD_at ea pa
        cases ry
        have e : (getK kvs k).isSome = (valV kv k).isSome := by
          rcases tk.get k with ⟨d, w, e1, e2, _⟩ | ⟨e1, e2⟩ <;> rw [e1, e2] <;> rfl
        rw [e] at q1
        rcases hk with hk | hk
        · have g : DGet H b1 x (valV kv k) := by rw [ey]; exact DGet.k hk
          cases neg with
          | false => exact d_in hu1 I g rx fun s' I' => ⟨.bl _, H, I', rfl, q1⟩
          | true => exact d_notIn hu1 I g rx fun s' I' => ⟨.bl _, H, I', rfl, q1⟩
        · have ks := kdv_str hk tk fk
          cases neg with
          | false => exact kdv_in I hk ey rx ks q1
          | true => exact kdv_notIn I hk ey rx ks q1
      · rw [if_neg fk] at h; exact h.elim
  cases b with
  | str y' =>
    cases a with
    | str x' =>
      have q1 : Q (.bl (if neg then !(!(Builtin.Str.occurrences y' x' 0 y'.length 1).isEmpty) else !(Builtin.Str.occurrences y' x' 0 y'.length 1).isEmpty)) H := h _ F ρ H Ext.refl R rfl
      cases neg with
      | false => exact op_in_str pins s σ H x y v u Q I rx ry ⟨x', y', pa.1, pb.1, q1⟩
      | true => exact op_notin_str pins s σ H x y v u Q I rx ry ⟨x', y', pa.1, pb.1, q1⟩
    | _ => exact h.elim
  | tup ys =>
    obtain ⟨b1, vs, e1, s1, t1⟩ := pb
    have h : okN (wd X ca) (fun _ _ b c => c = b) F O ρ H (inSq a ys st) (fun t H' => Q (.bl (if neg then !t else t)) H') := by cases a <;> exact h
    exact seqs ys b1 vs e1 (.inr (SqT.later R.fz s1)) t1 h
  | lst ys =>
    obtain ⟨b1, vs, e1, s1, t1⟩ := pb
    have h : okN (wd X ca) (fun _ _ b c => c = b) F O ρ H (inSq a ys st) (fun t H' => Q (.bl (if neg then !t else t)) H') := by cases a <;> exact h
    exact seqs ys b1 vs e1 (.inl (lsLater R.jn_le s1)) t1 h
  | dct kvs =>
    obtain ⟨b1, kv, e1, s1, t1⟩ := pb
    have h : okN (wd X ca) (fun _ _ b c => c = b) F O ρ H (inDk a kvs st) (fun t H' => Q (.bl (if neg then !t else t)) H') := by cases a <;> exact h
    exact dicts kvs b1 kv e1 (s1.elim (fun z => .inl (R.jn_le _ _ z)) .inr) t1 h
  | ref n =>
    have h : okN (wd X ca) (fun _ _ b c => c = b) F O ρ H (viaL n (inSq a) (inDk a) st) (fun t H' => Q (.bl (if neg then !t else t)) H') := by cases a <;> exact h
    rcases via_at R pb h with ⟨xs, b1, vs, e1, _, _, e2, t, h⟩ | ⟨kvs, b1, kv, e1, _, _, e2, t, h⟩
    · exact seqs xs b1 vs e1 (.inl (.inl (.inl e2))) t h
    · exact dicts kvs b1 kv e1 (.inl e2) t h
  | _ => cases a <;> exact h.elim
theorem okN.bndT {gv : Bool → V} {Wo : Wd} {F O : Hp} {ρ : Rho} {st : Sto} {H : Hp} {m : M Bool} {g : Bool → D} {Q : VK} (h : okN Wo (DR Wo) F O ρ H (bnd m (fun t => Ev.ret (g t)) st) Q) (hg : ∀ F' ρ' t, DR Wo F' ρ' (g t) (gv t)) : okN Wo (fun _ _ b c => c = b) F O ρ H (m st) (fun t H' => Q (gv t) H') := by
  unfold bnd at h
  cases e : m st with
  | ok t s' => rw [e] at h; intro v F' ρ' H' X' R' p; subst p; exact h _ F' ρ' H' X' R' (hg F' ρ' v)
  | ex x s' => rw [e] at h; exact h.elim
  | no => rw [e] at h; exact h.elim
theorem oc_isin (q : Cq X) : OpR X (compareOp .In) (rOp (wd X ca) (opC .isin)) := by
  intro pins s σ H x y v u Q I rx ry h
  obtain ⟨F, O, ρ, st, a, b, R, pa, pb, h⟩ := h
  exact isin_run q (neg := false) I rx ry R pa pb (okN.bndT (gv := V.bl) h fun _ _ _ => rfl)
theorem oc_nin (q : Cq X) : OpR X (compareOp .NotIn) (rOp (wd X ca) (opC .nin)) := by
  intro pins s σ H x y v u Q I rx ry h
  obtain ⟨F, O, ρ, st, a, b, R, pa, pb, h⟩ := h
  exact isin_run q (neg := true) I rx ry R pa pb (okN.bndT (gv := fun t => V.bl (!t)) h fun _ _ _ => rfl)
def cmpOf : CO → CmpOp
  | .eq => .Eq | .ne => .NotEq | .lt => .Lt | .le => .LtE | .gt => .Gt | .ge => .GtE | .is => .Is | .isn => .IsNot | .isin => .In | .nin => .NotIn
theorem oc_all (q : Cq X) : ∀ o : CO, OpR X (compareOp (cmpOf o)) (rOp (wd X ca) (opC o))
  | .eq => oc_eq q | .ne => oc_ne q | .lt => oc_lt | .le => oc_le | .gt => oc_gt | .ge => oc_ge | .is => oc_is | .isn => oc_isn | .isin => oc_isin q | .nin => oc_nin q
/-- a value's truth -/
theorem tru_at {F O : Hp} {ρ : Rho} {st : Sto} {H : Hp} {d : D} {v : V} {Q : Bool → Hp → Prop} (R : Rl (wd X ca) F O ρ st H) (p : PR (wd X ca) F O ρ d v) (h : okN (wd X ca) (fun _ _ b c => c = b) F O ρ H (truth d st) Q) : ∃ k, TruV X.K v H k ∧ Q k H := by
  cases d with
  | non => have e : v = .non := p; subst e; exact ⟨false, rfl, okN.ret h R rfl⟩
  | bl b => have e : v = .bl b := p; subst e; exact ⟨b, rfl, okN.ret h R rfl⟩
  | int i => have e : v = .int i := p; subst e; exact ⟨_, rfl, okN.ret h R rfl⟩
  | str x =>
    have e : v = .str x := p.1
    subst e
    have h : okN (wd X ca) (fun _ _ b c => c = b) F O ρ H ((if x.length ≤ sizeLine then ret ((x.length : Int) != 0) else no : M Bool) st) Q := h
    by_cases c : x.length ≤ sizeLine
    · rw [if_pos c] at h; exact ⟨_, ⟨c, rfl⟩, okN.ret h R rfl⟩
    · rw [if_neg c] at h; exact h.elim
  | tup xs =>
    obtain ⟨a, vs, rfl, s, t⟩ := p
    have q : Q (!xs.isEmpty) H := okN.ret h R rfl
    rw [t.nil_iff] at q
    exact ⟨_, .inr (.inl ⟨vs, SqT.later R.fz s, rfl⟩), q⟩
  | lst xs =>
    obtain ⟨a, vs, rfl, s, t⟩ := p
    have q : Q (!xs.isEmpty) H := okN.ret h R rfl
    rw [t.nil_iff] at q
    exact ⟨_, .inl ⟨vs, (lsLater R.jn_le s).sqL, rfl⟩, q⟩
  | dct _ => exact h.elim
  | ref n =>
    have h : okN (wd X ca) (fun _ _ b c => c = b) F O ρ H (viaL n (fun xs => ret (!xs.isEmpty)) (fun _ => no) st) Q := by
      unfold truth at h
      unfold viaL
      cases e : st.get n with
      | none => simp only [e] at h; exact h
      | some o =>
        simp only [e] at h
        cases o <;> exact h
    rcases via_at R p h with ⟨xs, a, vs, rfl, _, _, e2, t, h⟩ | ⟨_, _, _, _, _, _, _, _, h⟩
    · have q : Q (!xs.isEmpty) H := okN.ret h R rfl
      rw [t.nil_iff] at q
      exact ⟨_, .inl ⟨vs, .inl (.inl e2), rfl⟩, q⟩
    · exact h.elim
end
end Ev

set_option Elab.async false
set_option linter.all false
set_option maxRecDepth 100000
set_option maxHeartbeats 1000000
/-! Ev6: places, slices, built-ins, methods. -/
namespace Ev
open PySem PySem.Spec PyProof.Rows L2
section
variable {X : Cx} {ca : Nat → Addr}
theorem strOk_one {x : Str} {c : Nat} (h : PyData.strOk x = true) (hc : c ∈ x.cps.toList) : PyData.strOk ⟨#[c]⟩ = true := strOk_of fun d hd => by
  have : d = c := by simpa using hd
  rw [this]; exact of_strOk h c hc
theorem atI_mem {α : Type} {xs : List α} {i : Int} {v : α} (h : atI xs i = some v) : v ∈ xs := by
  obtain ⟨j, _, h2, _⟩ := atI_get h
  exact List.mem_of_getElem? h2
theorem DRs.atI {Wo : Wd} {F : Hp} {ρ : Rho} {ds : List D} {vs : List V} {i : Int} {d : D} (h : DRs Wo F ρ ds vs) (e : L2.atI ds i = some d) : ∃ v, L2.atI vs i = some v ∧ DR Wo F ρ d v := by
  unfold L2.atI at e ⊢
  rw [← h.len]
  cases q : ixN ds.length i with
  | none => rw [q] at e; cases e
  | some j => rw [q] at e; exact h.at e
theorem kdv_get {a : Addr} {kv : List (Key × V)} {k : Key} {y dv : V} {u r : Value} {pins : List (Addr × Obj)} {s : Shared} {σ : L2.St} {H : Hp} {Q : Value → Shared → Prop} {A : Around} {E : Value → Shared → Prop} (I : Inv X pins σ H s) (d : KDV (wd X ca) a kv) (ey : y = kV k) (ry : RelV y u) (ks : ∃ x, k = Sum.inr x) (rd : RelV dv r)
    (h : ∀ w' s', Inv X pins σ H s' → RelV ((valV kv k).getD dv) w' → Q w' s') : wpAny (model X.prog X.w) A (call (.builtin "dict.get") [.ref a, u, r]) Q E s := by
  obtain ⟨es, n, kd, hg, _⟩ := d
  obtain ⟨x, rfl⟩ := ks
  subst ey
  obtain ⟨t, rfl⟩ := ry
  obtain ⟨r', h1, h2⟩ := hg x
  have hm := PySem.W.mapOf_K (prog := X.prog) (w := X.w) I.kIn kd.at_ kd.lit
  refine call_meetsIn PySem.F.slot_dict_get hm.typeIs PySem.F.entry_dict_get (PySem.F.args_dict_get_3 _ _ _) (meets_dict_get_default (strKind X.prog X.w) a (strKind_is X.prog X.w x t) kd.low r) ⟨_, hm, h _ _ (I.tok _) ?_⟩
  rw [PySem.W.find_K kd.at_ h1]
  cases q : valV kv (Sum.inr x) with
  | none => rw [q] at h2; rw [RelO.none_of h2]; exact rd
  | some v => rw [q] at h2; obtain ⟨w, e, rw'⟩ := RelO.some_of h2; rw [e]; exact rw'
theorem kdv_get1 {a : Addr} {kv : List (Key × V)} {k : Key} {y : V} {u : Value} {pins : List (Addr × Obj)} {s : Shared} {σ : L2.St} {H : Hp} {Q : Value → Shared → Prop} {A : Around} {E : Value → Shared → Prop} (I : Inv X pins σ H s) (d : KDV (wd X ca) a kv) (ey : y = kV k) (ry : RelV y u) (ks : ∃ x, k = Sum.inr x)
    (h : ∀ w' s', Inv X pins σ H s' → RelV ((valV kv k).getD .non) w' → Q w' s') : wpAny (model X.prog X.w) A (call (.builtin "dict.get") [.ref a, u]) Q E s := by
  obtain ⟨es, n, kd, hg, _⟩ := d
  obtain ⟨x, rfl⟩ := ks
  subst ey
  obtain ⟨t, rfl⟩ := ry
  obtain ⟨r', h1, h2⟩ := hg x
  have hm := PySem.W.mapOf_K (prog := X.prog) (w := X.w) I.kIn kd.at_ kd.lit
  refine call_meetsIn PySem.F.slot_dict_get hm.typeIs PySem.F.entry_dict_get (PySem.F.args_dict_get_2 _ _) (meets_dict_get (strKind X.prog X.w) a (strKind_is X.prog X.w x t) kd.low) ⟨_, hm, h _ _ (I.tok _) ?_⟩
  rw [PySem.W.find_K kd.at_ h1]
  cases q : valV kv (Sum.inr x) with
  | none => rw [q] at h2; rw [RelO.none_of h2]; rfl
  | some v => rw [q] at h2; obtain ⟨w, e, rw'⟩ := RelO.some_of h2; rw [e]; exact rw'
/-! ### a[b] -/
theorem ix_dget (hu : X.A.units + 1 < cLine) : IxR X (fun x y H Q => ∃ a v, x = .ref a ∧ DGet H a y (some v) ∧ Q v H) := by
  intro value slice pins s σ H x y v u Q I rx ry h hs
  obtain ⟨a, w, rfl, g, q⟩ := h
  cases rx
  exact tail_any (dict_typeIs I g) PySem.F.slot_dict_getitem.lookup (d_getItem hu I g ry fun w' s' I' r' => ⟨w, H, I', r', q⟩) hs
theorem ix_allD (q : Cq X) : IxR X (rOp (wd X ca) ixD) := by
  intro value slice pins s σ H x y v u Q I rx ry h hs
  obtain ⟨F, O, ρ, st, a, b, R, pa, pb, h⟩ := h
  have hu1 : X.A.units + 1 < cLine := by have := q.hu; omega
  have seqs : ∀ xs b1 vs, x = .ref b1 → (LsT X.K H b1 vs ∨ SqT X.K H b1 vs) → DRs (wd X ca) F ρ xs vs → okN (wd X ca) (DR (wd X ca)) F O ρ H (ixL b xs st) Q → wpAny (model X.prog X.w) X.A (subscriptTail value slice v u) (EP X pins σ Q) X.xe s := fun xs b1 vs ex sb tb h => by
    cases b with
    | int i =>
      have h : okN (wd X ca) (DR (wd X ca)) F O ρ H (opt (atI xs i) st) Q := h
      cases e : atI xs i with
      | none => rw [e] at h; exact h.elim
      | some d =>
        rw [e] at h
        obtain ⟨w, e2, p2⟩ := tb.atI e
        have q1 : Q w H := okN.ret h R p2
        rcases sb with sb | sb
        · exact ix_list value slice pins s σ H x y v u Q I rx ry ⟨b1, vs, i, w, ex, pb, sb.sqL, e2, q1⟩ hs
        · exact ix_tup value slice pins s σ H x y v u Q I rx ry ⟨b1, vs, i, w, ex, pb, sb, e2, q1⟩ hs
    | _ => exact h.elim
  have dicts : ∀ kvs b1 kv, x = .ref b1 → (H b1 = some (.dK kv) ∨ KDV (wd X ca) b1 kv) → DRk (wd X ca) F ρ kvs kv → okN (wd X ca) (DR (wd X ca)) F O ρ H (ixK b kvs st) Q → wpAny (model X.prog X.w) X.A (subscriptTail value slice v u) (EP X pins σ Q) X.xe s := fun kvs b1 kv ex hk tk h => by
    unfold ixK at h
    cases ea : keyD b with
    | none => rw [ea] at h; exact h.elim
    | some k =>
      rw [ea] at h
      dsimp only at h
      by_cases fk : kfit kvs k = true
      · rw [if_pos fk] at h
        have ey := keyD_at ea pb
        rcases tk.get k with ⟨d, w, e1, e2, p2⟩ | ⟨e1, e2⟩
        · rw [e1] at h
          have q1 : Q w H := okN.ret h R p2
          rcases hk with hk | hk
          · refine ix_dget hu1 value slice pins s σ H x y v u Q I rx ry ⟨b1, w, ex, ?_, q1⟩ hs
            rw [ey, ← e2]; exact DGet.k hk
          · obtain ⟨z, rfl⟩ := kdv_str hk tk fk
            obtain ⟨es, n, kd, hg, _⟩ := hk
            obtain ⟨r', h1, h2⟩ := hg z
            rw [e2] at h2
            obtain ⟨w', e3, r3⟩ := RelO.some_of h2
            rw [e3] at h1
            exact ix_kdict value slice pins s σ H x y v u Q I rx ry ⟨b1, z, w, ex, ey, ⟨es, n, w', kd.at_, kd.lit, h1, r3⟩, q1⟩ hs
        · rw [e1] at h; exact h.elim
      · rw [if_neg fk] at h; exact h.elim
  cases a with
  | str z =>
    cases b with
    | int i =>
      have h : okN (wd X ca) (DR (wd X ca)) F O ρ H ((if z.length ≤ sizeLine then opt ((atI z.cps.toList i).map fun c => D.str ⟨#[c]⟩) else no : M D) st) Q := h
      by_cases c : z.length ≤ sizeLine
      · rw [if_pos c] at h
        cases e : atI z.cps.toList i with
        | none => rw [e] at h; exact h.elim
        | some d =>
          rw [e] at h
          exact ix_str value slice pins s σ H x y v u Q I rx ry ⟨z, i, d, pa.1, pb, c, e, okN.ret h R ⟨rfl, strOk_one pa.2 (atI_mem e)⟩⟩ hs
      · rw [if_neg c] at h; exact h.elim
    | _ => exact h.elim
  | tup xs =>
    obtain ⟨b1, vs, e1, s1, t1⟩ := pa
    exact seqs xs b1 vs e1 (.inr (SqT.later R.fz s1)) t1 h
  | lst xs =>
    obtain ⟨b1, vs, e1, s1, t1⟩ := pa
    exact seqs xs b1 vs e1 (.inl (lsLater R.jn_le s1)) t1 h
  | dct kvs =>
    obtain ⟨b1, kv, e1, s1, t1⟩ := pa
    exact dicts kvs b1 kv e1 (s1.elim (fun z => .inl (R.jn_le _ _ z)) .inr) t1 h
  | ref n =>
    have h : okN (wd X ca) (DR (wd X ca)) F O ρ H (viaL n (ixL b) (ixK b) st) Q := h
    rcases via_at R pa h with ⟨xs, b1, vs, e1, _, _, e2, t, h⟩ | ⟨kvs, b1, kv, e1, _, _, e2, t, h⟩
    · exact seqs xs b1 vs e1 (.inl (.inl (.inl e2))) t h
    · exact dicts kvs b1 kv e1 (.inl e2) t h
  | _ => exact h.elim
/-! ### slices -/
def rSlD (Wo : Wd) : V → Option Int → Option Int → Hp → VK → Prop := fun x lo hi H Q => ∃ F O ρ st a, Rl Wo F O ρ st H ∧ PR Wo F O ρ a x ∧ okN Wo (DR Wo) F O ρ H (slD a lo hi st) Q
theorem DRs.cut {Wo : Wd} {F : Hp} {ρ : Rho} {ds : List D} {vs : List V} (h : DRs Wo F ρ ds vs) (lo hi : Option Int) : DRs Wo F ρ (cutL ds lo hi) (cutV vs lo hi) := by
  unfold cutL cutV
  rw [h.len]
  exact (h.drop _).take _
theorem strOk_cut {x : Str} (h : PyData.strOk x = true) (lo hi : Option Int) : PyData.strOk (cutS x lo hi) = true := strOk_of fun c hc => by
  unfold cutS at hc
  have hc : c ∈ (x.cps.toList.drop (HT.sIx x.length 0 lo)).take (HT.sIx x.length x.length hi - HT.sIx x.length 0 lo) := by simpa using hc
  exact of_strOk h c (List.mem_of_mem_drop (List.mem_of_mem_take hc))
theorem sl_allD : SlR X (rSlD (wd X ca)) := by
  intro pins s σ H x v vl vu lo hi sl Q I rx hs pl pu h
  obtain ⟨F, O, ρ, st, a, R, pa, h⟩ := h
  cases a with
  | str z =>
    have h : okN (wd X ca) (DR (wd X ca)) F O ρ H ((if z.length ≤ sizeLine then ret (.str (cutS z lo hi)) else no : M D) st) Q := h
    by_cases c : z.length ≤ sizeLine
    · rw [if_pos c] at h
      exact sl_str pins s σ H x v vl vu lo hi sl Q I rx hs pl pu ⟨z, pa.1, c, okN.ret h R ⟨rfl, strOk_cut pa.2 lo hi⟩⟩
    · rw [if_neg c] at h; exact h.elim
  | tup xs =>
    obtain ⟨b1, vs, e1, s1, t1⟩ := pa
    have h : okN (wd X ca) (DR (wd X ca)) F O ρ H (.ok (.tup (cutL xs lo hi)) st) Q := h
    refine sl_tupA pins s σ H x v vl vu lo hi sl Q I rx hs pl pu ⟨b1, vs, e1, SqT.later R.fz s1, fun c => ?_, fun _ => okN.newT h R (t1.cut lo hi)⟩
    have e : cutV vs lo hi = vs := by
      unfold cutV
      rw [c.1, c.2]
      simp
    exact okN.okk h R ⟨b1, vs, rfl, s1, by have := t1.cut lo hi; rw [e] at this; exact this⟩
  | lst xs =>
    obtain ⟨b1, vs, e1, s1, t1⟩ := pa
    exact sl_list pins s σ H x v vl vu lo hi sl Q I rx hs pl pu ⟨b1, vs, e1, (lsLater R.jn_le s1).sqL, okN.newL h R (t1.cut lo hi)⟩
  | ref n =>
    have h : okN (wd X ca) (DR (wd X ca)) F O ρ H (viaL n (fun xs => ret (.lst (cutL xs lo hi))) (fun _ => no) st) Q := h
    rcases via_at R pa h with ⟨xs, b1, vs, e1, _, _, e2, t, h⟩ | ⟨_, _, _, _, _, _, _, _, h⟩
    · exact sl_list pins s σ H x v vl vu lo hi sl Q I rx hs pl pu ⟨b1, vs, e1, .inl (.inl e2), okN.newL h R (t.cut lo hi)⟩
    · exact h.elim
  | _ => exact h.elim
/-! ### lists of one sort -/
theorem ints_of {Wo : Wd} {F : Hp} {ρ : Rho} : ∀ {xs : List D} {vs : List V} {ns : List Int}, DRs Wo F ρ xs vs → intsD xs = some ns → vs = ns.map V.int
  | [], vs, ns, h, e => by cases h; cases e; rfl
  | .int i :: r, vs, ns, h, e => by
    obtain ⟨v, vr, rfl, p, t⟩ := h
    have e : (intsD r).map (i :: ·) = some ns := e
    cases q : intsD r with
    | none => rw [q] at e; cases e
    | some ms =>
      rw [q] at e; cases e
      have p : v = .int i := p
      rw [p, ints_of t q]; rfl
  | .non :: _, _, _, _, e => by cases e
  | .bl _ :: _, _, _, _, e => by cases e
  | .str _ :: _, _, _, _, e => by cases e
  | .tup _ :: _, _, _, _, e => by cases e
  | .lst _ :: _, _, _, _, e => by cases e
  | .dct _ :: _, _, _, _, e => by cases e
  | .ref _ :: _, _, _, _, e => by cases e
theorem bls_of {Wo : Wd} {F : Hp} {ρ : Rho} : ∀ {xs : List D} {vs : List V} {ns : List Bool}, DRs Wo F ρ xs vs → blsD xs = some ns → vs = ns.map V.bl
  | [], vs, ns, h, e => by cases h; cases e; rfl
  | .bl i :: r, vs, ns, h, e => by
    obtain ⟨v, vr, rfl, p, t⟩ := h
    have e : (blsD r).map (i :: ·) = some ns := e
    cases q : blsD r with
    | none => rw [q] at e; cases e
    | some ms =>
      rw [q] at e; cases e
      have p : v = .bl i := p
      rw [p, bls_of t q]; rfl
  | .non :: _, _, _, _, e => by cases e
  | .int _ :: _, _, _, _, e => by cases e
  | .str _ :: _, _, _, _, e => by cases e
  | .tup _ :: _, _, _, _, e => by cases e
  | .lst _ :: _, _, _, _, e => by cases e
  | .dct _ :: _, _, _, _, e => by cases e
  | .ref _ :: _, _, _, _, e => by cases e
theorem strs_of {Wo : Wd} {F : Hp} {ρ : Rho} : ∀ {xs : List D} {vs : List V} {ns : List Str}, DRs Wo F ρ xs vs → strsD xs = some ns → vs = ns.map V.str ∧ ∀ y ∈ ns, PyData.strOk y = true
  | [], vs, ns, h, e => by cases h; cases e; exact ⟨rfl, fun y hy => by simp at hy⟩
  | .str i :: r, vs, ns, h, e => by
    obtain ⟨v, vr, rfl, p, t⟩ := h
    have e : (strsD r).map (i :: ·) = some ns := e
    cases q : strsD r with
    | none => rw [q] at e; cases e
    | some ms =>
      rw [q] at e; cases e
      obtain ⟨p, k⟩ := p
      obtain ⟨h1, h2⟩ := strs_of t q
      refine ⟨by rw [p, h1]; rfl, fun y hy => ?_⟩
      rcases List.mem_cons.mp hy with rfl | hy
      · exact k
      · exact h2 y hy
  | .non :: _, _, _, _, e => by cases e
  | .int _ :: _, _, _, _, e => by cases e
  | .bl _ :: _, _, _, _, e => by cases e
  | .tup _ :: _, _, _, _, e => by cases e
  | .lst _ :: _, _, _, _, e => by cases e
  | .dct _ :: _, _, _, _, e => by cases e
  | .ref _ :: _, _, _, _, e => by cases e
/-! ### calls of built-ins -/
theorem one_of {Wo : Wd} {F O : Hp} {ρ : Rho} {d : D} {xs : List V} (h : PRs Wo F O ρ [d] xs) : ∃ v, xs = [v] ∧ PR Wo F O ρ d v := by
  obtain ⟨v, vr, rfl, p, t⟩ := h
  cases t
  exact ⟨v, rfl, p⟩
theorem two_of {Wo : Wd} {F O : Hp} {ρ : Rho} {d e : D} {xs : List V} (h : PRs Wo F O ρ [d, e] xs) : ∃ v u, xs = [v, u] ∧ PR Wo F O ρ d v ∧ PR Wo F O ρ e u := by
  obtain ⟨v, vr, rfl, p, t⟩ := h
  obtain ⟨u, ur, rfl, p2, t2⟩ := t
  cases t2
  exact ⟨v, u, rfl, p, p2⟩
/-- the built-in's own value -/
def bfV : BF → Value
  | .len => .builtin "len" | .abs => .builtin "abs" | .int => .type "int" | .str => .type "str" | .repr => .builtin "repr" | .list => .type "list" | .tuple => .type "tuple"
  | .sum => .builtin "sum" | .all => .builtin "all" | .any => .builtin "any" | .max => .builtin "max" | .min => .builtin "min" | .sorted => .builtin "sorted" | .listn => .type "list" | .dict => .type "dict"
theorem room_repr (q : Cq X) {p : PyData} (h : p.depth ≤ 100) : X.A.units + (p.depth + 1) < cLine := by have := q.hu; omega
theorem cr_reprD (q : Cq X) {pins : List (Addr × Obj)} {s : Shared} {σ : L2.St} {H : Hp} {v : V} {u : Value} {Q : VK} {p : PyData} (I : Inv X pins σ H s) (r : RelV v u) (d : Dp X.K H v p) (c : p.canLay0 = true) (e : showOk p = true) (h : Q (.str p.shown) H) :
    wpAny (model X.prog X.w) X.A (call (.builtin "repr") [u]) (EP X pins σ Q) X.xe s := by
  simp only [showOk, Bool.and_eq_true, decide_eq_true_eq] at e
  obtain ⟨⟨e1, e2⟩, e3⟩ := e
  obtain ⟨as, rd⟩ := Dp.reads I _ _ _ d r
  cases rd with
  | none => exact PySem.P.repr_of_none ⟨.str PyData.none.shown, H, I.tok _, ⟨_, rfl⟩, h⟩
  | bool b => exact PySem.P.repr_of_bool ⟨.str (PyData.bool b).shown, H, I.tok _, ⟨_, by cases b <;> rfl⟩, h⟩
  | int i t =>
    have e1 : i.natAbs.log2 < 1920 := by simpa only [PyData.showable, decide_eq_true_eq] using e1
    exact PySem.P.repr_of_int e1 ⟨.str (PyData.int i).shown, H, I.tok _, ⟨_, rfl⟩, h⟩
  | str x t =>
    exact PySem.P.repr_of_str (h := ⟨.str (PyData.str x).shown, H, I.tok _, ⟨_, rfl⟩, h⟩) (hsz := e2)
  | list h1 h2 h3 h4 =>
    have rd := Reads.list h1 h2 h3 h4
    exact PySem.repr_of_reads' (h₀ := s.heap) (s := s) rd e1 (fun z => by rw [noDict _ c] at z; cases z) q.hg (room_repr q e3) (fun _ _ z => z) (hQ := fun h' u tk k => ⟨.str _, H, I.kept k, ⟨_, rfl⟩, h⟩) (hsz := e2)
  | tuple h1 h2 h3 h4 =>
    have rd := Reads.tuple h1 h2 h3 h4
    exact PySem.repr_of_reads' (h₀ := s.heap) (s := s) rd e1 (fun z => by rw [noDict _ c] at z; cases z) q.hg (room_repr q e3) (fun _ _ z => z) (hQ := fun h' u tk k => ⟨.str _, H, I.kept k, ⟨_, rfl⟩, h⟩) (hsz := e2)
  | dict h1 h2 h3 h4 h5 => simp only [PyData.canLay0] at c; cases c
theorem drs_signs {Wo : Wd} {F : Hp} {ρ : Rho} : ∀ l : List Nat, (∀ c ∈ l, PyData.strOk ⟨#[c]⟩ = true) → DRs Wo F ρ (l.map fun c => D.str ⟨#[c]⟩) (l.map fun c => V.str ⟨#[c]⟩)
  | [], _ => rfl
  | c :: l, h => ⟨_, _, rfl, ⟨rfl, h c List.mem_cons_self⟩, drs_signs l fun d hd => h d (List.mem_cons_of_mem _ hd)⟩
/-- list(text): its signs -/
theorem cr_listS (q : Cq X) {pins : List (Addr × Obj)} {s : Shared} {σ : L2.St} {H : Hp} {x : Str} {u : Value} {Q : VK} (I : Inv X pins σ H s) (r : RelV (.str x) u) (c : x.length ≤ sizeLine)
    (h : ∀ l, H l = none → Q (.ref l) (upd H l (.lst (x.cps.toList.map fun c => V.str ⟨#[c]⟩)))) : wpAny (model X.prog X.w) X.A (call (.type "list") [u]) (EP X pins σ Q) X.xe s := by
  obtain ⟨t, rfl⟩ := r
  refine call_list_str (I.ok.hd q.hc) x t (hn := c) fun h' tk acc c' hk e hi => ?_
  refine ⟨.ref s.heap.objs.size, upd H s.heap.objs.size (.lst (x.cps.toList.map fun c => V.str ⟨#[c]⟩)), I.laid hk (Nat.le_refl _) ⟨by rw [List.length_map]; exact c, acc.toList, c', ?_, by rw [Array.toArray_toList]; exact e⟩, rfl, h _ (I.hok.fresh (Nat.le_refl _))⟩
  refine vals_of_idx _ _ (by rw [List.length_map, Array.length_toList, hi.1]; simp) fun j v hj => ?_
  obtain ⟨z, t', hz, rfl⟩ := hi.2 j v (by rw [← Array.getElem?_toList]; exact hj)
  exact ⟨.str ⟨#[z]⟩, by simp [hz], ⟨_, rfl⟩⟩
theorem cr_strT (q : Cq X) {pins : List (Addr × Obj)} {s : Shared} {σ : L2.St} {H : Hp} {v : V} {u : Value} {Q : VK} {ps : List PyData} (I : Inv X pins σ H s) (r : RelV v u) (d : Dp X.K H v (.tuple ps)) (c : (PyData.tuple ps).canLay0 = true) (e : showOk (.tuple ps) = true) (h : Q (.str (PyData.tuple ps).shown) H) :
    wpAny (model X.prog X.w) X.A (call (.type "str") [u]) (EP X pins σ Q) X.xe s := by
  simp only [showOk, Bool.and_eq_true, decide_eq_true_eq] at e
  obtain ⟨⟨e1, e2⟩, e3⟩ := e
  obtain ⟨as, rd⟩ := Dp.reads I _ _ _ d r
  have room : X.A.units + ((PyData.tuple ps).depth + 3) < cLine := by have := q.hu; omega
  cases rd with
  | tuple h1 h2 h3 h4 =>
    have rd := Reads.tuple h1 h2 h3 h4
    exact PySem.str_of_reads (h₀ := s.heap) (s := s) rd e1 (fun z => by rw [noDict _ c] at z; cases z) q.hg room (fun _ _ z => z) (hQ := fun h' u tk k => ⟨.str _, H, I.kept k, ⟨_, rfl⟩, h⟩) (hsz := e2)
theorem drs_ints2 {Wo : Wd} {F : Hp} {ρ : Rho} : ∀ l : List Int, DRs Wo F ρ (l.map D.int) (l.map V.int)
  | [] => rfl
  | _ :: l => ⟨_, _, rfl, rfl, drs_ints2 l⟩
theorem drs_ints {Wo : Wd} {F : Hp} {ρ : Rho} (l : List Int) : DRs Wo F ρ (l.map D.int) (l.map V.int) := drs_ints2 l
theorem DRk.keysI2 {Wo : Wd} {F : Hp} {ρ : Rho} : ∀ {kvs : List (Key × D)} {kv : List (Key × V)} {ks : List Int}, DRk Wo F ρ kvs kv → Ev.keysI kvs = some ks → kv.map (·.1) = ks.map Sum.inl
  | [], kv, ks, h, e => by cases h; cases e; rfl
  | (.inl i, d) :: r, kv, ks, h, e => by
    obtain ⟨v, kr, rfl, _, t⟩ := h
    simp only [Ev.keysI] at e
    cases q : Ev.keysI r with
    | none => rw [q] at e; cases e
    | some k2 =>
      rw [q] at e
      cases e
      rw [List.map_cons, List.map_cons, DRk.keysI2 t q]
  | (.inr x, d) :: r, kv, ks, h, e => by cases e
theorem DRk.keysI {Wo : Wd} {F : Hp} {ρ : Rho} {kvs : List (Key × D)} {kv : List (Key × V)} {ks : List Int} (h : DRk Wo F ρ kvs kv) (e : Ev.keysI kvs = some ks) : (kv.map fun kv => kV kv.1) = ks.map V.int := by
  have := congrArg (List.map kV) (h.keysI2 e)
  rw [List.map_map, List.map_map] at this
  exact this
theorem keysOr_at {Wo : Wd} {F O : Hp} {ρ : Rho} {st : Sto} {H : Hp} {d : D} {v : V} {f : List D → M D} {Q : VK} (R : Rl Wo F O ρ st H) (p : PR Wo F O ρ d v) (h : okN Wo (DR Wo) F O ρ H (keysOr f d st) Q) :
    (∃ a xs vs, v = .ref a ∧ (LsT Wo.K H a vs ∨ SqT Wo.K F a vs) ∧ DRs Wo F ρ xs vs ∧ okN Wo (DR Wo) F O ρ H (f xs st) Q) ∨
    ∃ a kvs kv ks, v = .ref a ∧ H a = some (.dK kv) ∧ DRk Wo F ρ kvs kv ∧ Ev.keysI kvs = some ks ∧ okN Wo (DR Wo) F O ρ H (f (ks.map .int) st) Q := by
  cases d with
  | tup xs => obtain ⟨a, vs, e1, s, t⟩ := p; exact .inl ⟨a, xs, vs, e1, .inr s, t, h⟩
  | lst xs => obtain ⟨a, vs, e1, s, t⟩ := p; exact .inl ⟨a, xs, vs, e1, .inl (lsLater R.jn_le s), t, h⟩
  | ref n =>
    rcases via_at R p h with ⟨xs, a, vs, e1, _, _, e2, t, h⟩ | ⟨kvs, a, kv, e1, _, _, e2, t, h⟩
    · exact .inl ⟨a, xs, vs, e1, .inl (.inl (.inl e2)), t, h⟩
    · cases ek : Ev.keysI kvs with
      | none => rw [ek] at h; exact h.elim
      | some ks => rw [ek] at h; exact .inr ⟨a, kvs, kv, ks, e1, e2, t, ek, h⟩
  | _ => exact h.elim
theorem insS_perm (x : Int) : ∀ l : List Int, (insS x l).Perm (x :: l)
  | [] => .refl _
  | y :: r => by
    unfold insS
    split
    · exact .refl _
    · exact ((insS_perm x r).cons y).trans (.swap x y r)
theorem insS_sorted (x : Int) : ∀ {l : List Int}, l.Pairwise (· ≤ ·) → (insS x l).Pairwise (· ≤ ·)
  | [], _ => .cons (fun _ h => by cases h) .nil
  | y :: r, h => by
    unfold insS
    cases h with
    | cons h1 h2 =>
      split
      · rename_i c
        refine .cons (fun z hz => ?_) (.cons h1 h2)
        rcases List.mem_cons.mp hz with rfl | hz
        · exact c
        · have := h1 z hz; omega
      · rename_i c
        refine .cons (fun z hz => ?_) (insS_sorted x h2)
        rcases List.mem_cons.mp ((insS_perm x r).mem_iff.mp hz) with rfl | hz
        · omega
        · exact h1 z hz
theorem sort_perm : ∀ l : List Int, (l.foldr insS []).Perm l
  | [] => .refl _
  | x :: l => (insS_perm x _).trans ((sort_perm l).cons x)
theorem sort_sorted : ∀ l : List Int, (l.foldr insS []).Pairwise (· ≤ ·)
  | [] => .nil
  | x :: l => insS_sorted x (sort_sorted l)
theorem sorted_uniq : ∀ {a b : List Int}, a.Perm b → a.Pairwise (· ≤ ·) → b.Pairwise (· ≤ ·) → a = b
  | [], b, p, _, _ => by rw [List.nil_perm.mp p]
  | x :: a, [], p, _, _ => by have := p.length_eq; simp at this
  | x :: a, y :: b, p, ha, hb => by
    cases ha with
    | cons ha1 ha2 =>
      cases hb with
      | cons hb1 hb2 =>
        have e : x = y := by
          have h1 : x ∈ y :: b := p.mem_iff.mp List.mem_cons_self
          have h2 : y ∈ x :: a := p.mem_iff.mpr List.mem_cons_self
          rcases List.mem_cons.mp h1 with h | h
          · exact h
          · rcases List.mem_cons.mp h2 with g | g
            · exact g.symm
            · have := hb1 x h; have := ha1 y g; omega
        subst e
        rw [sorted_uniq (List.Perm.cons_inv p) ha2 hb2]
theorem sorted_is {ys ks : List Int} (hp : ys.Perm ks) (hs : ys.Pairwise (· ≤ ·)) : ys = ks.foldr insS [] := sorted_uniq (hp.trans (sort_perm ks).symm) hs (sort_sorted ks)
/-- all built-ins -/
theorem cb_all (q : Cq X) : ∀ b : BF, CallR X (bfV b) (rAr (wd X ca) (blt b)) := by
  intro b pins s σ H xs us Q I rx h
  obtain ⟨F, O, ρ, st, ds, R, pa, h⟩ := h
  unfold blt at h
  split at h
  · rename_i x
    obtain ⟨v, rfl, p⟩ := one_of pa
    by_cases c : x.length ≤ sizeLine
    · rw [if_pos c] at h
      exact call_len pins s σ H _ us Q I rx ⟨v, x.length, rfl, by rw [p.1]; exact ⟨c, rfl⟩, okN.ret h R rfl⟩
    · rw [if_neg c] at h; exact h.elim
  · rename_i d _
    obtain ⟨v, rfl, p⟩ := one_of pa
    obtain ⟨a, ys, vs, e, sb, t, h⟩ := seqM_at R p h
    subst e
    refine call_len pins s σ H _ us Q I rx ⟨_, ys.length, rfl, ?_, okN.ret h R rfl⟩
    rcases sb with sb | sb
    · exact .inl ⟨vs, sb.sqL, t.len⟩
    · exact .inr ⟨vs, SqT.later R.fz sb, t.len⟩
  · obtain ⟨v, rfl, p⟩ := one_of pa
    exact call_abs pins s σ H _ us Q I rx ⟨_, by rw [show v = .int _ from p], okN.ret h R rfl⟩
  · obtain ⟨v, rfl, p⟩ := one_of pa
    exact call_int1 pins s σ H _ us Q I rx (.inl ⟨_, by rw [show v = .int _ from p], okN.ret h R rfl⟩)
  · obtain ⟨v, rfl, p⟩ := one_of pa
    exact call_int1 pins s σ H _ us Q I rx (.inr ⟨_, by rw [show v = .bl _ from p], okN.ret h R rfl⟩)
  · rename_i i
    obtain ⟨v, rfl, p⟩ := one_of pa
    by_cases c : i.natAbs.log2 < 1920
    · rw [if_pos c] at h
      exact call_str_int pins s σ H _ us Q I rx ⟨i, by rw [show v = .int _ from p], c, okN.ret h R ⟨rfl, strOk_lit _⟩⟩
    · rw [if_neg c] at h; exact h.elim
  · obtain ⟨v, rfl, p⟩ := one_of pa
    exact SkE.call_str_str pins s σ H _ us Q I rx ⟨_, by rw [p.1], okN.ret h R ⟨rfl, p.2⟩⟩
  · rename_i ys
    obtain ⟨v, rfl, p⟩ := one_of pa
    obtain ⟨u, rfl, ru⟩ := vals1 rx
    unfold reprD at h
    cases e : pyv (.tup ys) st with
    | none => rw [e] at h; exact h.elim
    | some pd =>
      rw [e] at h
      dsimp only at h
      obtain ⟨d1, c1⟩ := pyv_at R p e
      have e' : (pys ys).map PyData.tuple = some pd := e
      cases q2 : pys ys with
      | none => rw [q2] at e'; cases e'
      | some ps =>
        rw [q2] at e'
        cases e'
        by_cases c : showOk (.tuple ps) = true
        · rw [if_pos c] at h
          exact cr_strT q I ru d1 c1 c (okN.okk h R ⟨rfl, strOk_shown _ c1⟩)
        · rw [if_neg c] at h; exact h.elim
  · rename_i d
    obtain ⟨v, rfl, p⟩ := one_of pa
    obtain ⟨u, rfl, ru⟩ := vals1 rx
    unfold reprD at h
    cases e : pyv d st with
    | none => rw [e] at h; exact h.elim
    | some pd =>
      rw [e] at h
      dsimp only at h
      obtain ⟨d1, c1⟩ := pyv_at R p e
      by_cases c : showOk pd = true
      · rw [if_pos c] at h
        exact cr_reprD q I ru d1 c1 c (okN.okk h R ⟨rfl, strOk_shown pd c1⟩)
      · rw [if_neg c] at h; exact h.elim
  · rename_i x
    obtain ⟨v, rfl, p⟩ := one_of pa
    by_cases c : x.length ≤ sizeLine
    · rw [if_pos c] at h
      obtain ⟨u, rfl, ru⟩ := vals1 rx
      exact cr_listS q I (p.1 ▸ ru) c fun l hl => okN.newL h R (drs_signs _ fun z hz => strOk_one p.2 hz) l hl
    · rw [if_neg c] at h; exact h.elim
  · rename_i d0 _
    obtain ⟨v, rfl, p⟩ := one_of pa
    rcases keysOr_at R p h with ⟨a, ys, vs, e, sb, t, h⟩ | ⟨a, kvs, kv, ks, e, sb, t, ek, h⟩
    · subst e
      exact call_list_of pins s σ H _ us Q I rx ⟨a, vs, rfl, sb.elim (fun z => .inl z.sqL) (fun z => .inr (SqT.later R.fz z)), okN.newL h R t⟩
    · subst e
      refine call_listD q.hc pins s σ H _ us Q I rx ⟨a, kv, rfl, .inl sb, ?_⟩
      rw [t.keysI ek]
      exact okN.newL h R (drs_ints _)
  · obtain ⟨v, rfl, p⟩ := one_of pa
    obtain ⟨a, ys, vs, e, sb, t, h⟩ := seqM_at R p h
    subst e
    refine call_list_of pins s σ H _ us Q I rx ⟨a, vs, rfl, sb.elim (fun z => .inl z.sqL) (fun z => .inr (SqT.later R.fz z)), fun l hl => ?_⟩
    obtain ⟨X', R'⟩ := stored R hl (o := .lst ys) (x := .lst vs) ⟨vs, rfl, t⟩
    exact h _ _ _ _ X' R' ⟨l, rfl, if_pos rfl⟩
  · obtain ⟨v, rfl, p⟩ := one_of pa
    rcases via_at R p h with ⟨_, _, _, _, _, _, _, _, h⟩ | ⟨kvs, a, kv, e, _, _, sb, t, h⟩
    · exact h.elim
    · subst e
      refine call_dictD pins s σ H _ us Q I rx ⟨a, kv, rfl, .inl sb, fun l hl => ?_⟩
      obtain ⟨X', R'⟩ := stored R hl (o := .dct kvs) (x := .dK kv) ⟨kv, rfl, t⟩
      exact h _ _ _ _ X' R' ⟨l, rfl, if_pos rfl⟩
  · obtain ⟨v, rfl, p⟩ := one_of pa
    rcases via_at R p h with ⟨_, _, _, _, _, _, _, _, h⟩ | ⟨kvs, a, kv, e, _, _, sb, t, h⟩
    · exact h.elim
    · subst e
      unfold sortK at h
      cases ek : keysI kvs with
      | none => rw [ek] at h; exact h.elim
      | some ks =>
        rw [ek] at h
        dsimp only at h
        by_cases c : ks.length < 64
        · rw [if_pos c] at h
          refine call_sortedDI q.hc pins s σ H _ us Q I rx ⟨a, kv, ks, rfl, .inl sb, (t.keysI2 ek), c, fun ys l hp hs hl => ?_⟩
          rw [sorted_is hp hs]
          have e2 : ((ks.foldr insS []).map D.int).length = ((ks.foldr insS []).map V.int).length := by simp
          exact okN.newL h R (drs_ints2 _) l hl
        · rw [if_neg c] at h; exact h.elim
  · obtain ⟨v, rfl, p⟩ := one_of pa
    obtain ⟨a, ys, vs, e, sb, t, h⟩ := seqM_at R p h
    subst e
    refine call_tuple_of pins s σ H _ us Q I rx ⟨a, vs, rfl, ?_⟩
    rcases sb with sb | sb
    · exact .inl ⟨sb.sqL, okN.newT h R t⟩
    · exact .inr ⟨SqT.later R.fz sb, okN.okk h R ⟨a, vs, rfl, sb, t⟩⟩
  · obtain ⟨v, rfl, p⟩ := one_of pa
    obtain ⟨a, ys, vs, e, sb, t, h⟩ := lstM_at R p h
    subst e
    unfold sumL at h
    cases e : intsD ys with
    | none => rw [e] at h; exact h.elim
    | some ns =>
      rw [e] at h
      have := ints_of t e
      subst this
      exact cr_sum q.hc pins s σ H _ us Q I rx ⟨a, ns, rfl, sb.sqL, okN.ret h R rfl⟩
  · obtain ⟨v, rfl, p⟩ := one_of pa
    obtain ⟨a, ys, vs, e, sb, t, h⟩ := lstM_at R p h
    subst e
    unfold allL at h
    cases e : blsD ys with
    | none => rw [e] at h; exact h.elim
    | some ns =>
      rw [e] at h
      have := bls_of t e
      subst this
      exact cr_all q.hc pins s σ H _ us Q I rx ⟨a, ns, rfl, sb.sqL, okN.ret h R rfl⟩
  · obtain ⟨v, rfl, p⟩ := one_of pa
    obtain ⟨a, ys, vs, e, sb, t, h⟩ := lstM_at R p h
    subst e
    unfold anyL at h
    cases e : blsD ys with
    | none => rw [e] at h; exact h.elim
    | some ns =>
      rw [e] at h
      have := bls_of t e
      subst this
      exact cr_any q.hc pins s σ H _ us Q I rx ⟨a, ns, rfl, sb.sqL, okN.ret h R rfl⟩
  · obtain ⟨v, u, rfl, p1, p2⟩ := two_of pa
    exact call_max2 q.hc pins s σ H _ us Q I rx ⟨_, _, by rw [show v = .int _ from p1, show u = .int _ from p2], okN.ret h R rfl⟩
  · obtain ⟨v, u, rfl, p1, p2⟩ := two_of pa
    exact call_min2 q.hc pins s σ H _ us Q I rx ⟨_, _, by rw [show v = .int _ from p1, show u = .int _ from p2], okN.ret h R rfl⟩
  · exact h.elim
/-! ### isinstance -/
def tyS : TyN → String
  | .str => "str" | .int => "int" | .bool => "bool" | .tuple => "tuple" | .list => "list"
def tyD : D → Option String
  | .non => some "NoneType" | .bl _ => some "bool" | .int _ => some "int" | .str _ => some "str" | .tup _ => some "tuple" | .lst _ => some "list"
  | _ => none
theorem kit_tab : ∀ t : TyN, kitB "NoneType" (tyS t) = some false ∧ kitB "bool" (tyS t) = some (t == .bool || t == .int) ∧ kitB "int" (tyS t) = some (t == .int) ∧ kitB "str" (tyS t) = some (t == .str) ∧ kitB "tuple" (tyS t) = some (t == .tuple) ∧ kitB "list" (tyS t) = some (t == .list) := by
  intro t
  cases t <;> decide +kernel
theorem ci_all (t : TyN) : CallR X (.builtin "isinstance") (fun xs H Q => ∃ x, xs = [x, .ty (tyS t)] ∧ rUn (wd X ca) (fun d => bnd (isTy t d) fun b => ret (.bl b)) x H Q) := by
  intro pins s σ H xs us Q I rx h
  obtain ⟨x, rfl, F, O, ρ, st, a, R, p, h⟩ := h
  obtain ⟨k1, k2, k3, k4, k5, k6⟩ := kit_tab t
  have go : ∀ (T : String) (b : Bool), TyX X.K H x (.type T) → kitB T (tyS t) = some b → Q (.bl b) H → wpAny (model X.prog X.w) X.A (call (.builtin "isinstance") us) (EP X pins σ Q) X.xe s := fun T b ty e q =>
    call_isi pins s σ H _ us Q I rx ⟨x, .ty (tyS t), .type T, .type (tyS t), b, rfl, .ty _, ty, kit_ty e, q⟩
  have lists : ∀ b1 vs, x = .ref b1 → LsT X.K H b1 vs → TyX X.K H x (.type "list") := fun b1 vs e r => by
    subst e
    rcases r with (r | ⟨o, r⟩) | ⟨its, n, r, _⟩
    · exact .base (.lst r)
    · exact .base (.frz r)
    · exact .kList r rfl
  cases a with
  | non => exact go "NoneType" _ (by rw [show x = .non from p]; exact .base .non) k1 (okN.ret h R rfl)
  | bl b => exact go "bool" _ (by rw [show x = .bl b from p]; exact .base (.bl b)) k2 (okN.ret h R rfl)
  | int i => exact go "int" _ (by rw [show x = .int i from p]; exact .base (.int i)) k3 (okN.ret h R rfl)
  | str y => exact go "str" _ (by rw [p.1]; exact .base (.str y)) k4 (okN.ret h R rfl)
  | tup ys =>
    obtain ⟨b1, vs, e, sb, tb⟩ := p
    refine go "tuple" _ ?_ k5 (okN.ret h R rfl)
    subst e
    rcases SqT.later R.fz sb with (sb | ⟨o, sb⟩) | ⟨o, its, n, e1, e2, _⟩
    · exact .base (.tup sb)
    · exact .fTuple sb
    · exact .kTuple e1 e2
  | lst ys =>
    obtain ⟨b1, vs, e, sb, tb⟩ := p
    exact go "list" _ (lists b1 vs e (lsLater R.jn_le sb)) k6 (okN.ret h R rfl)
  | dct kvs => exact h.elim
  | ref n =>
    obtain ⟨b1, e1, e2⟩ := p
    have h : okN (wd X ca) (DR (wd X ca)) F O ρ H ((bnd (viaL n (fun _ => ret (t == .list)) (fun _ => no)) fun b => ret (.bl b)) st) Q := h
    unfold bnd viaL at h
    cases g : st.get n with
    | none => rw [g] at h; exact h.elim
    | some o =>
      rw [g] at h
      cases o with
      | lst ys =>
        obtain ⟨b2, ho, h1, h2, vs, h3, h4⟩ := R.ob n _ g
        rw [e2] at h1; cases h1
        subst h3
        exact go "list" _ (lists b1 vs e1 (.inl (.inl h2))) k6 (okN.ret h R rfl)
      | dct _ => exact h.elim
      | ins _ _ => exact h.elim
end
end Ev

set_option Elab.async false
set_option linter.all false
set_option maxRecDepth 100000
set_option maxHeartbeats 1000000
/-! Ev7: one rule for each form of expression. -/
namespace Ev
open PySem PySem.Spec PyProof.Rows L2
section
variable {X : Cx} {ca : Nat → Addr} {W : WX} {F O : Hp} {ρ : Rho} {st : Sto} {H : Hp} {e : En} {σ : L2.St}
theorem En.lt_of {e : En} {i : Nat} (h : e.at i ≠ .no) : i < e.length := by
  induction e generalizing i with
  | nil => exact (h (by unfold En.at; rfl)).elim
  | cons x r ih =>
    cases i with
    | zero => exact Nat.succ_pos _
    | succ n => exact Nat.succ_lt_succ (ih h)
theorem RE.get {Wo : Wd} (E : RE Wo F O ρ e σ) {i : Nat} (h : e.at i ≠ .no) : ∃ v, σ[i]? = some v ∧ SR Wo F O ρ (e.at i) v :=
  E.at_ i (by rw [← E.len]; exact En.lt_of h)
/-! ### names, constants -/
theorem re_var {i : Nat} {x : Str} {pos : Pos} (hN : X.N[i]? = some x) (hv : Vis X.env.scope x) (hd : (x == ("__debug__" : Str)) = false) (hcd : (x == ("__classdict__" : Str)) = false) :
    PE X (.Name x pos) (tE (wd X ca) W fun e => rdv e i) :=
  (pe_var hN hv hd hcd).imp fun σ H Q h => by
    obtain ⟨F, O, ρ, e, st, R, E, h⟩ := h
    dsimp only [rdv] at h
    cases q : e.at i with
    | val d =>
      rw [q] at h
      obtain ⟨v, h1, h2⟩ := E.get (i := i) (by rw [q]; exact fun z => by cases z)
      rw [q] at h2
      obtain ⟨u, h3, h4⟩ := h2
      exact ⟨u, by rw [h1, h3], okA.ret h R h4⟩
    | no => rw [q] at h; exact h.elim
    | own xs => rw [q] at h; exact h.elim
    | owd xs => rw [q] at h; exact h.elim
theorem rp_var {i : Nat} {x : Str} {pos : Pos} (hN : X.N[i]? = some x) (hv : Vis X.env.scope x) (hd : (x == ("__debug__" : Str)) = false) (hcd : (x == ("__classdict__" : Str)) = false) :
    PE X (.Name x pos) (tP (wd X ca) W fun e => pkv e i) :=
  (pe_var hN hv hd hcd).imp fun σ H Q h => by
    obtain ⟨F, O, ρ, e, st, R, E, h⟩ := h
    dsimp only [pkv] at h
    have g : e.at i ≠ .no → ∃ v, σ[i]? = some v ∧ SR (wd X ca) F O ρ (e.at i) v := E.get
    have oj : ∀ {a : Addr} {u : HO}, O a = some u → jn F O a = some u := fun {a u} z => by
      unfold jn
      rw [(R.ow a u z).2.1]; exact z
    cases q : e.at i with
    | val d =>
      rw [q] at h g
      obtain ⟨v, h1, u, h3, h4⟩ := g fun z => by cases z
      exact ⟨u, by rw [h1, h3], okA.ret h R h4.pr⟩
    | no => rw [q] at h; exact h.elim
    | own xs =>
      rw [q] at h g
      obtain ⟨v, h1, a, vs, h3, h4, h5⟩ := g fun z => by cases z
      exact ⟨.ref a, by rw [h1, h3], okA.ret h R ⟨a, vs, rfl, .inl (.inl (oj h4)), h5⟩⟩
    | owd xs =>
      rw [q] at h g
      obtain ⟨v, h1, a, vs, h3, h4, h5⟩ := g fun z => by cases z
      exact ⟨.ref a, by rw [h1, h3], okA.ret h R ⟨a, vs, rfl, .inl (oj h4), h5⟩⟩
def sameC : Const → D → Bool
  | .none, .non => true
  | .bool a, .bl b => a == b
  | .int i, .int j => i == j
  | .str x, .str y => x == y && PyData.strOk y
  | _, _ => false
theorem re_cst {c : Const} {d : D} {k : Nat} {pos : Pos} (h : sameC c d = true) : PE X (.Constant c k pos) (tE (wd X ca) W fun _ => ret d) := by
  have go : ∀ v : V, PE X (.Constant c k pos) (tC v) → (∀ F ρ, DR (wd X ca) F ρ d v) → PE X (.Constant c k pos) (tE (wd X ca) W fun _ => ret d) := fun v p r =>
    p.imp fun σ H Q h => by
      obtain ⟨F, O, ρ, e, st, R, E, h⟩ := h
      exact okA.ret h R (r F ρ)
  unfold sameC at h
  split at h
  · exact go .non pe_non fun _ _ => rfl
  · rename_i a b; cases (beq_iff_eq.mp h); exact go (.bl a) pe_bl fun _ _ => rfl
  · rename_i a b; cases (beq_iff_eq.mp h); exact go (.int a) pe_int fun _ _ => rfl
  · rename_i a b
    rw [Bool.and_eq_true] at h
    cases (beq_iff_eq.mp h.1); exact go (.str a) pe_str fun _ _ => ⟨rfl, h.2⟩
  · cases h
/-- a global name stands for d -/
def GOk (K : PySem.W.Frag) (w : World) (ca : Nat → Addr) (mg : Str → Option Value) (x : Str) (d : D) : Prop := ∃ u v, mg x = some u ∧ RelV v u ∧ ∀ F ρ, DR ⟨K, w, ca⟩ F ρ d v
theorem re_glb {x : Str} {d : D} {pos : Pos} {m : M D} (g : GOk X.K X.w ca X.mg x d) (hg : Gl X x) (hd : (x == ("__debug__" : Str)) = false) (hm : m = ret d) : PE X (.Name x pos) (tE (wd X ca) W fun _ => m) := by
  obtain ⟨u, v, h1, h2, h3⟩ := g
  subst hm
  exact (pe_glob hg h1 h2 hd).imp fun σ H Q h => by
    obtain ⟨F, O, ρ, e, st, R, E, h⟩ := h
    exact okA.ret h R (h3 F ρ)
theorem rp_of {x : Expr} {m : En → M D} (h : PE X x (tE (wd X ca) W m)) : PE X x (tP (wd X ca) W m) := h.imp fun _ _ _ => tE_tP
/-! ### lists of expressions -/
def ns : Expr → Bool
  | .Starred _ _ => false
  | _ => true
theorem star_cons {x : Expr} {es : List Expr} {env : Env} (h : ns x = true) : starEach (x :: es) env = (false, eval x env) :: starEach es env := by
  cases x with
  | Starred _ _ => cases h
  | _ => rfl
theorem star_plain {pos : Pos} {env : Env} : ∀ {es : List Expr}, es.all ns = true → (backTo pos (starEach es env)).any (·.1) = false
  | [], _ => rfl
  | x :: es, h => by
    rw [List.all_cons, Bool.and_eq_true] at h
    rw [star_cons h.1]
    show (false || (backTo pos (starEach es env)).any (·.1)) = false
    rw [star_plain h.2]; rfl
theorem star_all {pos : Pos} {env : Env} : ∀ {es : List Expr}, es.all ns = true → (backTo pos (starEach es env)).all (fun x => !x.1) = true
  | [], _ => rfl
  | x :: es, h => by
    rw [List.all_cons, Bool.and_eq_true] at h
    rw [star_cons h.1]
    show (true && (backTo pos (starEach es env)).all (fun x => !x.1)) = true
    rw [star_all h.2]; rfl
theorem rs_nil : PA X [] (tEs (wd X ca) W fun _ => ret []) := ⟨fun pos pins s σ H Q I h => by
  obtain ⟨F, O, ρ, e, st, R, E, h⟩ := h
  exact pa_nil.run pos pins s σ H Q I (okA.ret h R rfl)⟩
theorem rs_cons {x : Expr} {es : List Expr} {m : En → M D} {ms : En → M (List D)} (hs : ns x = true) (hx : PE X x (tE (wd X ca) W m)) (hr : PA X es (tEs (wd X ca) W ms)) : PA X (x :: es) (tEs (wd X ca) W fun e => bnd (m e) fun d => bnd (ms e) fun ds => ret (d :: ds)) :=
  (pa_cons hx hr (star_cons hs)).imp fun σ H Q h => h.bnd fun F O ρ e d st v H1 R E p h1 => ⟨F, O, ρ, e, st, R, E, okA.bnd h1 fun d2 st2 v2 F2 ρ2 H2 X2 R2 p2 h2 => okA.ret h2 R2 ⟨v, v2, rfl, DR.later X2.f X2.r p, p2⟩⟩
theorem rq_nil : PA X [] (tPs (wd X ca) W fun _ => ret []) := ⟨fun pos pins s σ H Q I h => by
  obtain ⟨F, O, ρ, e, st, R, E, h⟩ := h
  exact pa_nil.run pos pins s σ H Q I (okA.ret h R rfl)⟩
theorem rq_cons {x : Expr} {es : List Expr} {m : En → M D} {ms : En → M (List D)} (hs : ns x = true) (hx : PE X x (tP (wd X ca) W m)) (hr : PA X es (tPs (wd X ca) W ms)) : PA X (x :: es) (tPs (wd X ca) W fun e => bnd (m e) fun d => bnd (ms e) fun ds => ret (d :: ds)) :=
  (pa_cons hx hr (star_cons hs)).imp fun σ H Q h => h.bnd fun F O ρ e d st v H1 R E p h1 => ⟨F, O, ρ, e, st, R, E, okA.bnd h1 fun d2 st2 v2 F2 ρ2 H2 X2 R2 p2 h2 => okA.ret h2 R2 ⟨v, v2, rfl, PR.later (X2.jn R R2) X2.f X2.r p, p2⟩⟩
/-! ### displays -/
theorem okA_mkT {xs : List D} {vs : List V} {Q : VK} (h : okA (fun F' ρ' => pE (wd X ca) F' O ρ') (wd X ca) W σ F O ρ H (mkT xs st) Q) (R : Rl (wd X ca) F O ρ st H) (p : DRs (wd X ca) F ρ xs vs) : vs.length ≤ sizeLine ∧ ∀ q, H q = none → Q (.ref q) (upd H q (.tup vs)) := by
  rw [← p.len]; exact okN.mkT (h.tame tame_mkT) R p
theorem okA_mkL {xs : List D} {vs : List V} {Q : VK} (h : okA (fun F' ρ' => pE (wd X ca) F' O ρ') (wd X ca) W σ F O ρ H (mkL xs st) Q) (R : Rl (wd X ca) F O ρ st H) (p : DRs (wd X ca) F ρ xs vs) : vs.length ≤ sizeLine ∧ ∀ q, H q = none → Q (.ref q) (upd H q (.lst vs)) := by
  rw [← p.len]; exact okN.mkL (h.tame tame_mkL) R p
theorem re_tup {es : List Expr} {k : Nat} {pos : Pos} {ms : En → M (List D)} (ha : PA X es (tEs (wd X ca) W ms)) : PE X (.Tuple es k pos) (tE (wd X ca) W fun e => bnd (ms e) mkT) :=
  (pe_tup ha).imp fun σ H Q h => h.bnd fun F O ρ e d st v H1 R E p h1 => okA_mkT h1 R p
theorem re_lst {es : List Expr} {pos : Pos} {ms : En → M (List D)} (ha : PA X es (tEs (wd X ca) W ms)) : PE X (.List es pos) (tE (wd X ca) W fun e => bnd (ms e) mkL) :=
  (pe_lst ha).imp fun σ H Q h => h.bnd fun F O ρ e d st v H1 R E p h1 => okA_mkL h1 R p
/-- a list that is to change -/
def nlsM (xs : List D) : M D := fun s => if xs.length ≤ sizeLine then .ok (.ref s.nx) (s.new (.lst xs)) else .no
theorem re_nls {es : List Expr} {pos : Pos} {ms : En → M (List D)} (ha : PA X es (tEs (wd X ca) W ms)) : PE X (.List es pos) (tE (wd X ca) W fun e => bnd (ms e) nlsM) :=
  (pe_lst ha).imp fun σ H Q h => h.bnd fun F O ρ e d st v H1 R E p h1 => by
    unfold nlsM at h1
    by_cases c : d.length ≤ sizeLine
    · rw [if_pos c] at h1
      refine ⟨by rw [← DRs.len p]; exact c, fun q hq => ?_⟩
      obtain ⟨X', R'⟩ := stored R hq (x := .lst v) (o := .lst d) ⟨v, rfl, p⟩
      exact h1 _ _ _ _ X' R' ⟨q, rfl, if_pos rfl⟩
    · rw [if_neg c] at h1; exact h1.elim
/-! ### operators -/
theorem re_bin {a b : Expr} {pos : Pos} {ma mb : En → M D} (o : BO) (ha : PE X a (tP (wd X ca) W ma)) (hb : PE X b (tP (wd X ca) W mb)) : PE X (.BinOp a (opOf o) b pos) (tE (wd X ca) W fun e => bnd (ma e) fun x => bnd (mb e) fun y => opB o x y) :=
  (pe_op (od_all o) ha hb).imp fun σ H Q h => h.bnd fun F O ρ e d st v H1 R E p h1 => ⟨F, O, ρ, e, st, R, E, okA.bnd h1 fun d2 st2 v2 F2 ρ2 H2 X2 R2 p2 h2 => ⟨F2, O, ρ2, st2, d, d2, R2, PR.later (X2.jn R R2) X2.f X2.r p, p2, h2.tame tame_opB⟩⟩
theorem cmp_imp {ma mb : En → M D} (o : CO) {Q : VK} (h : tE (wd X ca) W (fun e => bnd (ma e) fun x => bnd (mb e) fun y => opC o x y) σ H Q) : tOp (rOp (wd X ca) (opC o)) (tP (wd X ca) W ma) (tP (wd X ca) W mb) σ H Q :=
  h.bnd fun F O ρ e d st v H1 R E p h1 => ⟨F, O, ρ, e, st, R, E, okA.bnd h1 fun d2 st2 v2 F2 ρ2 H2 X2 R2 p2 h2 => ⟨F2, O, ρ2, st2, d, d2, R2, PR.later (X2.jn R R2) X2.f X2.r p, p2, h2.tame tame_opC⟩⟩
theorem re_cmp (q : Cq X) {a b : Expr} {pos : Pos} {ma mb : En → M D} (o : CO) (hm : behindInMarks (cmpOf o) b = false) (ha : PE X a (tP (wd X ca) W ma)) (hb : PE X b (tP (wd X ca) W mb)) : PE X (.Compare a [cmpOf o] [b] pos) (tE (wd X ca) W fun e => bnd (ma e) fun x => bnd (mb e) fun y => opC o x y) :=
  (pe_cmpR (oc_all q o) ha hb hm).imp fun σ H Q h => cmp_imp o h
def BlM (m : M D) : Prop := ∀ s d s', m s = .ok d s' → ∃ t, d = .bl t
theorem opC_bl {o : CO} {a b : D} : BlM (opC o a b) := by
  intro s d s' h
  have b1 : ∀ {m : M Bool} {f : Bool → Bool}, bnd m (fun t => ret (D.bl (f t))) s = .ok d s' → ∃ t, d = .bl t := fun {m f} h => by
    unfold bnd at h
    cases r : m s with
    | ok t s1 => rw [r] at h; cases h; exact ⟨_, rfl⟩
    | ex x s1 => rw [r] at h; cases h
    | no => rw [r] at h; cases h
  unfold opC at h
  split at h
  · exact b1 (f := id) h
  · exact b1 h
  · cases h; exact ⟨_, rfl⟩
  · cases h; exact ⟨_, rfl⟩
  · cases h; exact ⟨_, rfl⟩
  · cases h; exact ⟨_, rfl⟩
  · cases h; exact ⟨_, rfl⟩
  · exact b1 (f := id) h
  · exact b1 h
  · exact b1 (f := id) h
  · exact b1 h
  · cases h
/-- an answer told of more -/
theorem okN.also {α β : Type} {P P' : Hp → Rho → α → β → Prop} {Wo : Wd} {r : R α} {Q : β → Hp → Prop} (h : okN Wo P F O ρ H r Q) (k : ∀ d st' F' ρ' v, r = .ok d st' → P' F' ρ' d v → P F' ρ' d v) : okN Wo P' F O ρ H r Q := by
  cases r with
  | ok d st' => exact fun v F' ρ' H' X' R' p => h v F' ρ' H' X' R' (k d st' F' ρ' v rfl p)
  | ex x s => exact h
  | no => exact h
theorem bl_bnd {α : Type} {m : M α} {f : α → M D} (h : ∀ a, BlM (f a)) : BlM (bnd m f) := fun s d s' e => by
  unfold bnd at e
  cases r : m s with
  | ok a s1 => rw [r] at e; exact h a s1 d s' e
  | ex x s1 => rw [r] at e; cases e
  | no => rw [r] at e; cases e
theorem tst_of {m : En → M D} (hb : ∀ e, BlM (m e)) {Q : Bool → Hp → Prop} (h : tT (wd X ca) W (fun e => bnd (m e) truth) σ H Q) : tE (wd X ca) W m σ H (fun v H' => ∃ k, v = .bl k ∧ Q k H') := by
  obtain ⟨F, O, ρ, e, st, R, E, h⟩ := h
  refine ⟨F, O, ρ, e, st, R, E, ?_⟩
  dsimp only [bnd] at h
  cases r : m e st with
  | ok d s1 =>
    rw [r] at h
    obtain ⟨t, rfl⟩ := hb e st d s1 r
    exact fun v F' ρ' H' X' R' p => ⟨t, p, h t F' ρ' H' X' R' rfl⟩
  | ex x s1 => rw [r] at h; exact h
  | no => rw [r] at h; exact h
theorem rt_cmp (q : Cq X) {a b : Expr} {pos : Pos} {ma mb : En → M D} (o : CO) (hm : behindInMarks (cmpOf o) b = false) (ha : PE X a (tP (wd X ca) W ma)) (hb : PE X b (tP (wd X ca) W mb)) :
    PT X (.Compare a [cmpOf o] [b] pos) (tT (wd X ca) W fun e => bnd (bnd (ma e) fun x => bnd (mb e) fun y => opC o x y) truth) :=
  (pt_cmpR (oc_all q o) ha hb hm).imp fun σ H Q h => cmp_imp o (tst_of (fun e => bl_bnd fun a => bl_bnd fun b => opC_bl) h)
def chnM (o p : CO) (x y : D) (mc : M D) : M D := bnd (opC o x y) fun z => match z with
    | .bl t => if t = true then bnd mc fun w => opC p y w else ret (.bl false)
    | _ => no
theorem chn_bl {o p : CO} {x y : D} {mc : M D} : BlM (chnM o p x y mc) := bl_bnd fun a => by
  cases a with
  | bl t =>
    cases t with
    | true => exact bl_bnd fun _ => opC_bl
    | false => exact fun s d s' h => by cases h; exact ⟨false, rfl⟩
  | _ => exact fun s d s' h => by cases h
theorem chn_imp {ma mb mc : En → M D} (o p : CO) {Q : VK} (h : tE (wd X ca) W (fun e => bnd (ma e) fun x => bnd (mb e) fun y => chnM o p x y (mc e)) σ H Q) :
    tChain (rOp (wd X ca) (opC o)) (rOp (wd X ca) (opC p)) (tE (wd X ca) W ma) (tE (wd X ca) W mb) (tE (wd X ca) W mc) σ H Q :=
  h.bnd fun F O ρ e d st v H1 R E p1 h1 => ⟨F, O, ρ, e, st, R, E, okA.bnd h1 fun d2 st2 v2 F2 ρ2 H2 X2 R2 p2 h2 => by
    refine ⟨F2, O, ρ2, st2, d, d2, R2, (DR.later X2.f X2.r p1).pr, DR.pr p2, ?_⟩
    refine okA.tame (W := W) (σ := σ) (P := DR (wd X ca)) (okA.bnd h2 fun d3 st3 v3 F3 ρ3 H3 X3 R3 p3 h3 => ?_) tame_opC
    cases d3 with
    | bl t =>
      refine ⟨t, p3, ?_⟩
      cases t with
      | true => exact ⟨F3, O, ρ3, e, st3, R3, (E.later X2).later X3, okA.bnd h3 fun d4 st4 v4 F4 ρ4 H4 X4 R4 p4 h4 => ⟨F4, O, ρ4, st4, d2, d4, R4, ((DR.later X3.f X3.r p2).later X4.f X4.r).pr, DR.pr p4, h4.tame tame_opC⟩⟩
      | false => exact okA.ret h3 R3 rfl
    | _ => exact h3.elim⟩
theorem re_chn (q : Cq X) {a b c : Expr} {pos : Pos} {ma mb mc : En → M D} (o p : CO) (hm : lastMarks [cmpOf o, cmpOf p] [b, c] = false) (ha : PE X a (tE (wd X ca) W ma)) (hb : PE X b (tE (wd X ca) W mb)) (hc : PE X c (tE (wd X ca) W mc)) :
    PE X (.Compare a [cmpOf o, cmpOf p] [b, c] pos) (tE (wd X ca) W fun e => bnd (ma e) fun x => bnd (mb e) fun y => chnM o p x y (mc e)) :=
  (pe_chain (oc_all q o) (oc_all q p) ha hb hc hm).imp fun σ H Q h => chn_imp o p h
theorem rt_chn (q : Cq X) {a b c : Expr} {pos : Pos} {ma mb mc : En → M D} (o p : CO) (hm : lastMarks [cmpOf o, cmpOf p] [b, c] = false) (ha : PE X a (tE (wd X ca) W ma)) (hb : PE X b (tE (wd X ca) W mb)) (hc : PE X c (tE (wd X ca) W mc)) :
    PT X (.Compare a [cmpOf o, cmpOf p] [b, c] pos) (tT (wd X ca) W fun e => bnd (bnd (ma e) fun x => bnd (mb e) fun y => chnM o p x y (mc e)) truth) :=
  (pt_chain (oc_all q o) (oc_all q p) ha hb hc hm).imp fun σ H Q h => chn_imp o p (tst_of (fun e => bl_bnd fun a => bl_bnd fun b => chn_bl) h)
theorem re_neg {a : Expr} {pos : Pos} {ma : En → M D} (ha : PE X a (tE (wd X ca) W ma)) : PE X (.UnaryOp .USub a pos) (tE (wd X ca) W fun e => bnd (ma e) fun x => match x with
    | .int i => ret (.int (-i))
    | _ => no) :=
  (pe_un un_neg ha).imp fun σ H Q h => h.bnd fun F O ρ e d st v H1 R E p h1 => by
    cases d with
    | int i => exact ⟨i, p, okA.ret h1 R rfl⟩
    | _ => exact h1.elim
/-! ### truth -/
theorem tame_bool {r : R Bool} {Q : Bool → Hp → Prop} : okN (wd X ca) (fun _ _ b c => c = b) F O ρ H r Q → okN (wd X ca) (fun F' ρ' => pB F' O ρ') F O ρ H r Q := fun h => h
theorem truth_same {d : D} {st s' : Sto} {k : Bool} (r : truth d st = .ok k s') : s' = st := by
  unfold truth at r
  split at r
  · cases r; rfl
  · cases r; rfl
  · cases r; rfl
  · split at r
    · cases r; rfl
    · cases r
  · cases r; rfl
  · cases r; rfl
  · cases r
  · split at r
    · cases r; rfl
    · cases r
theorem truA {d : D} {v : V} {Q : Bool → Hp → Prop} {β : Type} {f : Bool → M β} {γ : Type} {P : Hp → Rho → β → γ → Prop} {Q' : γ → Hp → Prop} (R : Rl (wd X ca) F O ρ st H) (p : PR (wd X ca) F O ρ d v) (h : okA P (wd X ca) W σ F O ρ H (bnd (truth d) f st) Q') :
    ∃ k, TruV X.K v H k ∧ okA P (wd X ca) W σ F O ρ H (f k st) Q' := by
  have t : ∀ k, truth d st = .ok k st → okA P (wd X ca) W σ F O ρ H (f k st) Q' := fun k e => by unfold bnd at h; rw [e] at h; exact h
  have g : okN (wd X ca) (fun _ _ b c => c = b) F O ρ H (truth d st) (fun k H' => okA P (wd X ca) W σ F O ρ H (f k st) Q') := by
    cases r : truth d st with
    | ok k s' =>
      have : s' = st := truth_same r
      subst this
      intro v F' ρ' H' _ _ e
      cases e
      exact t k r
    | ex x s' => exact (tame_truth _ _ _ r).elim
    | no => unfold bnd at h; rw [r] at h; exact h
  exact tru_at R p g
theorem re_not {a : Expr} {pos : Pos} {ma : En → M D} (ha : PE X a (tP (wd X ca) W ma)) : PE X (.UnaryOp .Not a pos) (tE (wd X ca) W fun e => bnd (ma e) fun x => bnd (truth x) fun t => ret (.bl (!t))) :=
  (pe_notT ha).imp fun σ H Q h => h.bnd fun F O ρ e d st v H1 R E p h1 => by
    obtain ⟨k, t, h2⟩ := truA (Q := fun _ _ => True) R p h1
    exact ⟨k, t, okA.ret h2 R rfl⟩
theorem re_and {a b : Expr} {rest : List Expr} {pos : Pos} {ma mb : En → M D} (ha : PE X a (tE (wd X ca) W ma)) (hb : PE X (.BoolOp .And (b :: rest) pos) (tE (wd X ca) W mb)) :
    PE X (.BoolOp .And (a :: b :: rest) pos) (tE (wd X ca) W fun e => bnd (ma e) fun x => bnd (truth x) fun t => if t = true then mb e else ret x) :=
  (pe_andT ha hb).imp fun σ H Q h => h.bnd fun F O ρ e d st v H1 R E p h1 => by
    obtain ⟨k, t, h2⟩ := truA (Q := fun _ _ => True) R (DR.pr p) h1
    refine ⟨k, t, ?_⟩
    cases k with
    | true => exact ⟨F, O, ρ, e, st, R, E, h2⟩
    | false => exact okA.ret h2 R p
theorem re_or {a b : Expr} {rest : List Expr} {pos : Pos} {ma mb : En → M D} (ha : PE X a (tE (wd X ca) W ma)) (hb : PE X (.BoolOp .Or (b :: rest) pos) (tE (wd X ca) W mb)) :
    PE X (.BoolOp .Or (a :: b :: rest) pos) (tE (wd X ca) W fun e => bnd (ma e) fun x => bnd (truth x) fun t => if t = true then ret x else mb e) :=
  (pe_orT ha hb).imp fun σ H Q h => h.bnd fun F O ρ e d st v H1 R E p h1 => by
    obtain ⟨k, t, h2⟩ := truA (Q := fun _ _ => True) R (DR.pr p) h1
    refine ⟨k, t, ?_⟩
    cases k with
    | false => exact ⟨F, O, ρ, e, st, R, E, h2⟩
    | true => exact okA.ret h2 R p
/-! ### tests -/
/-- an expression whose test is its truth -/
def plainT : Expr → Bool
  | .UnaryOp .Not _ _ | .BoolOp _ _ _ | .IfExp _ _ _ _ | .Compare _ _ _ _ => false
  | _ => true
theorem plainT_is {x : Expr} (h : plainT x = true) (env : Env) : ∀ whole, isTrue x env whole = (do let v ← whole; standAt x.pos; holding [v] (truthy v)) := by
  intro whole
  cases x with
  | UnaryOp op _ _ => cases op <;> first | rfl | cases h
  | BoolOp _ _ _ => cases h
  | IfExp _ _ _ _ => cases h
  | Compare _ _ _ _ => cases h
  | _ => rfl
theorem rt_vl {a : Expr} {ma : En → M D} (hp : plainT a = true) (ha : PE X a (tP (wd X ca) W ma)) : PT X a (tT (wd X ca) W fun e => bnd (ma e) truth) :=
  (pt_truth ha (plainT_is hp X.env)).imp fun σ H Q h => h.bnd fun F O ρ e d st v H1 R E p h1 => tru_at R p (h1.tame tame_truth)
theorem rt_not {a : Expr} {pos : Pos} {ma : En → M Bool} (ha : PT X a (tT (wd X ca) W ma)) : PT X (.UnaryOp .Not a pos) (tT (wd X ca) W fun e => bnd (ma e) fun t => ret (!t)) :=
  (pt_not ha).imp fun σ H Q h => h.bnd fun F O ρ e d st v H1 R E p h1 => by
    cases p
    exact okA.ret h1 R rfl
theorem rw_and {a b : Expr} {rest : List Expr} {pos : Pos} {ma mb : En → M Bool} (ha : PT X a (tT (wd X ca) W ma)) (hb : PW X (.BoolOp .And (b :: rest) pos) (tT (wd X ca) W mb)) :
    PW X (.BoolOp .And (a :: b :: rest) pos) (tT (wd X ca) W fun e => bnd (ma e) fun t => if t = true then mb e else ret false) :=
  (pw_and ha hb).imp fun σ H Q h => h.bnd fun F O ρ e d st v H1 R E p h1 => by
    cases p
    cases d with
    | true => exact ⟨F, O, ρ, e, st, R, E, h1⟩
    | false => exact okA.ret h1 R rfl
theorem rw_or {a b : Expr} {rest : List Expr} {pos : Pos} {ma mb : En → M Bool} (ha : PT X a (tT (wd X ca) W ma)) (hb : PW X (.BoolOp .Or (b :: rest) pos) (tT (wd X ca) W mb)) :
    PW X (.BoolOp .Or (a :: b :: rest) pos) (tT (wd X ca) W fun e => bnd (ma e) fun t => if t = true then ret true else mb e) :=
  (pw_or ha hb).imp fun σ H Q h => h.bnd fun F O ρ e d st v H1 R E p h1 => by
    cases p
    cases d with
    | false => exact ⟨F, O, ρ, e, st, R, E, h1⟩
    | true => exact okA.ret h1 R rfl
theorem re_ite {c a b : Expr} {pos : Pos} {mc : En → M Bool} {ma mb : En → M D} (hc : PT X c (tT (wd X ca) W mc)) (ha : PE X a (tE (wd X ca) W ma)) (hb : PE X b (tE (wd X ca) W mb)) :
    PE X (.IfExp c a b pos) (tE (wd X ca) W fun e => bnd (mc e) fun t => if t = true then ma e else mb e) :=
  (pe_ifExp hc ha hb).imp fun σ H Q h => h.bnd fun F O ρ e d st v H1 R E p h1 => by
    cases p
    cases d with
    | true => exact ⟨F, O, ρ, e, st, R, E, h1⟩
    | false => exact ⟨F, O, ρ, e, st, R, E, h1⟩
theorem rt_ite {c a b : Expr} {pos : Pos} {mc ma mb : En → M Bool} (hc : PT X c (tT (wd X ca) W mc)) (ha : PT X a (tT (wd X ca) W ma)) (hb : PT X b (tT (wd X ca) W mb)) :
    PT X (.IfExp c a b pos) (tT (wd X ca) W fun e => bnd (mc e) fun t => if t = true then ma e else mb e) := by
  refine ⟨fun pins s σ H Q I h => ?_⟩
  have k := hc.run pins s σ H (fun t H1 => if t = true then tT (wd X ca) W ma σ H1 Q else tT (wd X ca) W mb σ H1 Q) I (h.bnd fun F O ρ e d st v H1 R E p h1 => by
    cases p
    cases d with
    | true => exact ⟨F, O, ρ, e, st, R, E, h1⟩
    | false => exact ⟨F, O, ρ, e, st, R, E, h1⟩)
  show wpAny _ _ (do if ← isTrue c X.env (eval c X.env) then isTrue a X.env (eval a X.env) else isTrue b X.env (eval b X.env)) _ _ s
  refine wpAny_bind (L2.thn k fun t s1 ⟨H1, I1, q1⟩ => ?_)
  cases t with
  | true => exact ha.run pins s1 σ H1 Q I1 q1
  | false => exact hb.run pins s1 σ H1 Q I1 q1
/-! ### places -/
theorem tame_lift {f : D → D → M D} (tm : ∀ a b, Tame (f a b)) : True := trivial
theorem re_idx (q : Cq X) {a b : Expr} {pos : Pos} {ma mb : En → M D} (hs : PlainIx b) (ha : PE X a (tP (wd X ca) W ma)) (hb : PE X b (tE (wd X ca) W mb)) : PE X (.Subscript a b pos) (tE (wd X ca) W fun e => bnd (ma e) fun x => bnd (mb e) fun y => ixD x y) :=
  (pe_ix (ix_allD q) ha hb hs).imp fun σ H Q h => h.bnd fun F O ρ e d st v H1 R E p h1 => ⟨F, O, ρ, e, st, R, E, okA.bnd h1 fun d2 st2 v2 F2 ρ2 H2 X2 R2 p2 h2 => ⟨F2, O, ρ2, st2, d, d2, R2, PR.later (X2.jn R R2) X2.f X2.r p, DR.pr p2, h2.tame tame_ixD⟩⟩
def plainIx : Expr → Bool
  | .Slice _ _ _ _ => false
  | _ => true
theorem plainIx_is {b : Expr} (h : plainIx b = true) : PlainIx b := fun o i => by
  cases b with
  | Slice _ _ _ _ => cases h
  | _ => rfl
section
variable {prog : Program} {w : World} {A : Around} {E : Value → Shared → Prop} {s : Shared}
theorem sliceApplied_rev {sl : Addr} {vs : Value} {n : Nat} {Q : Int × Int × Nat → Shared → Prop} (hs : s.heap.IsSliceOf sl .none .none vs) (ps : IsPart vs (some (-1)))
    (h : Q ((n : Int) - 1, -1, n) s) : wpAny (model prog w) A (Builtin.Slice.sliceApplied (.ref sl) (pure (n : Int))) Q E s := by
  obtain ⟨os, hos, hcs, hds⟩ := id hs
  unfold Builtin.Slice.sliceApplied Builtin.Slice.sliceFields
  refine wpAny_bind (wpAny_bind (wpAny_field hos hds (x := .none) rfl (wpAny_bind (wpAny_field hos hds (x := .none) rfl (wpAny_bind (wpAny_field hos hds (x := vs) rfl (wpAny_pure ?_)))))))
  refine wpAny_bind (HT.slicePart_ ps ?_)
  show wpAny _ _ (if ((-1 : Int) == 0) = true then _ else _) _ _ s
  rw [if_neg (by decide)]
  refine wpAny_bind (HT.slicePart_ .none (wpAny_bind (HT.slicePart_ .none (wpAny_bind (wpAny_pure ?_)))))
  show wpAny _ _ (pure ((n : Int) - 1, (-1 : Int), Builtin.Slice.slicePlaces ((n : Int) - 1) (-1) (-1))) _ _ s
  have e : Builtin.Slice.slicePlaces ((n : Int) - 1) (-1) (-1) = n := by
    unfold Builtin.Slice.slicePlaces
    have h1 : ¬ ((-1 : Int) > 0) := by decide
    rw [if_neg h1, show (-(-1) : Int) = 1 by decide, Int.ediv_one]
    split <;> omega
  rw [e]
  exact wpAny_pure h
theorem fm_congr {α β : Type} : ∀ (l : List α) (f g : α → Option β), (∀ m ∈ l, f m = g m) → l.filterMap f = l.filterMap g
  | [], _, _, _ => rfl
  | x :: l, f, g, h => by rw [List.filterMap_cons, List.filterMap_cons, h x List.mem_cons_self, fm_congr l f g fun m hm => h m (List.mem_cons_of_mem _ hm)]
theorem pick_rev (xs : Array Value) : ((List.range xs.size).filterMap fun (m : Nat) => xs[(((xs.size : Int) - 1) + (m : Int) * (-1)).toNat]?).toArray = xs.toList.reverse.toArray := by
  have e : (List.range xs.size).filterMap (fun (m : Nat) => xs[(((xs.size : Int) - 1) + (m : Int) * (-1)).toNat]?) = ((List.range xs.size).map fun k => xs.size - 1 - k).filterMap (xs[·]?) := by
    rw [List.filterMap_map]
    refine fm_congr _ _ _ fun m hm => ?_
    have := List.mem_range.mp hm
    show xs[(((xs.size : Int) - 1) + (m : Int) * (-1)).toNat]? = xs[xs.size - 1 - m]?
    rw [show (((xs.size : Int) - 1) + (m : Int) * (-1)).toNat = xs.size - 1 - m by omega]
  rw [e, PySem.W.krv_range, List.filterMap_reverse, PySem.W.krv_all]
theorem getItem_tuple_rev {t sl : Addr} {items : Array Value} {vs : Value} {Q : Value → Shared → Prop} (ht : IsTup s.heap t items) (hs : s.heap.IsSliceOf sl .none .none vs) (ps : IsPart vs (some (-1)))
    (h : Q (.ref s.heap.objs.size) { s with heap := s.heap.push { cls := .type "tuple", data := .seq items.toList.reverse.toArray } })
    (hsz : items.size ≤ sizeLine) : wpAny (model prog w) A (getItem (.ref t) (.ref sl)) Q E s := by
  have htake : sizeOk (.seq items.toList.reverse.toArray) := by
    show items.toList.reverse.toArray.size ≤ sizeLine
    rw [List.size_toArray, List.length_reverse, Array.length_toList]
    exact hsz
  obtain ⟨os, hos, hcs, hds⟩ := id hs
  have hTs : s.TypeIs (.ref sl) "slice" := ⟨os, hos, hcs⟩
  unfold getItem
  try with_reducible refine wpAny_holding ?_
  first | refine wpAny_bind (wpAny_pure ?_) | skip
  refine wpAny_bind (wpAny_sequenceKey ht.typeIs (by decide) ?_)
  refine wpAny_bind (wpAny_callSpecial?_slot (name := Str.ofString "__getitem__") ht.typeIs PyProof.Rows.slot_tuple_getitem
    (wpAny_call_entry PyProof.Rows.slot_tuple_getitem ht.typeIs entry_tuple_getitem ?_ (args_tuple_getitem _ _)))
  show wpAny _ _ (Builtin.Tuple.tupleItemsOf (.ref t) >>= _) _ _ s
  refine wpAny_bind (tupleItemsOf_ ht ?_)
  refine wpAny_bind (wpAny_typeOf hTs ?_)
  rw [if_pos (by decide)]
  refine wpAny_bind (sliceApplied_rev hs ps ?_)
  have hno : ¬ ((((items.size : Int) - 1) == 0 && (-1 : Int) == 1 && items.size == items.size) = true) := by
    intro q
    rw [Bool.and_eq_true, Bool.and_eq_true] at q
    exact absurd q.1.2 (by decide)
  show wpAny _ _ (if (((items.size : Int) - 1) == 0 && (-1 : Int) == 1 && items.size == items.size) = true then _ else _) _ _ s
  rw [if_neg hno, pick_rev]
  first
    | exact wpAny_bind (m := Builtin.Tuple.tupleExact _) (wpAny_newObj_type (wpAny_pure ⟨_, rfl, wpAny_pure h⟩) htake)
    | exact wpAny_bind (m := Builtin.Tuple.tupleExact _) (wpAny_newObj_type (wpAny_bind (wpAny_pure (wpAny_pure ⟨_, rfl, wpAny_pure h⟩))) htake)
end
def tRevA (K : PySem.W.Frag) (te : TE) : TE := fun σ H Q => te σ H fun x H1 => ∃ a xs, x = .ref a ∧ ((SqL K H1 a xs ∧ ∀ p, H1 p = none → Q (.ref p) (upd H1 p (.lst xs.reverse))) ∨ (SqT K H1 a xs ∧ ∀ p, H1 p = none → Q (.ref p) (upd H1 p (.tup xs.reverse))))
theorem pe_revA {e : Expr} {te : TE} {k : Nat} {p1 p2 p3 pos : Pos} (he : PE X e te) : PE X (.Subscript e (.Slice none none (some (.UnaryOp .USub (.Constant (.int 1) k p1) p2)) p3) pos) (tRevA X.K te) := by
  refine ⟨fun pins s σ H Q I h => ?_⟩
  refine Subscript_ (thn (he.run pins s σ H _ I h) fun v s1 ⟨x, H1, I1, r1, q1⟩ => ?_)
  obtain ⟨a, xs, ex, hx⟩ := q1
  subst ex
  cases r1
  have hst : PO X (some (.UnaryOp .USub (.Constant (.int 1) k p1) p2)) (tPart (tUn (rU fun i => .int (-i)) (tC (.int 1)))) := po_some (pe_un un_neg pe_int)
  refine wpAny_Slice (thn (po_none.run pins s1 σ H1 (fun o H2 => o = none ∧ H2 = H1) I1 ⟨rfl, rfl⟩) fun vl s2 ⟨l, H2, I2, pl, el, e2⟩ => ?_)
  subst el e2
  refine thn (po_none.run pins s2 σ H2 (fun o H3 => o = none ∧ H3 = H2) I2 ⟨rfl, rfl⟩) fun vu s3 ⟨u, H3, I3, pu, eu, e3⟩ => ?_
  subst eu e3
  refine thn (hst.run pins s3 σ H3 (fun o H4 => o = some (-1) ∧ H4 = H3) I3 ⟨1, rfl, -1, rfl, rfl, rfl⟩) fun vs s4 ⟨o, H4, I4, ps, eo, e4⟩ => ?_
  subst eo e4
  have I5 : Inv X pins σ H4 { s4 with heap := s4.heap.push { cls := .type "slice", data := .fields #[vl, vu, vs] } } := I4.kept (t' := s4.toks) fun b ob q => Heap.get?_push_of_some _ q
  show wpAny (model X.prog X.w) X.A (subscriptTail e (.Slice none none (some (.UnaryOp .USub (.Constant (.int 1) k p1) p2)) p3) (.ref a) (.ref s4.heap.objs.size)) (EP X pins σ Q) X.xe { s4 with heap := s4.heap.push { cls := .type "slice", data := .fields #[vl, vu, vs] } }
  rcases hx with ⟨hx, q⟩ | ⟨hx, q⟩
  · obtain ⟨its, r, ht, hz⟩ := I5.list hx
    have hlen := r.length
    refine tail_any (ops := [.ref a, .ref s4.heap.objs.size]) ht.isList.typeIs (PySem.slot_list_getitem.lookup) ?_ (by with_unfolding_all rfl)
    refine wpAny_getItem_list_slice ht.isList (Heap.IsSliceOf.new _ vl vu vs) pl pu ps (by decide) ?_ (by rw [List.size_toArray]; omega)
    rw [PySem.W.krv_pick]
    refine ⟨.ref _, _, I5.laid (t' := s4.toks) (o := .lst xs.reverse) (fun b ob q => Heap.get?_push_of_some _ q) (Nat.le_refl _) ?_, rfl, q _ (I5.hok.fresh (Nat.le_refl _))⟩
    exact ⟨by rw [List.length_reverse]; exact hz, _, 0, r.reverse, Heap.get?_push_size _ rfl⟩
  · obtain ⟨its, r, ht, hz⟩ := I5.tuple hx
    have hlen := r.length
    refine tail_any (ops := [.ref a, .ref s4.heap.objs.size]) ht.typeIs (PyProof.Rows.slot_tuple_getitem.lookup) ?_ (by with_unfolding_all rfl)
    cases pl
    cases pu
    refine getItem_tuple_rev ht (Heap.IsSliceOf.new _ .none .none vs) ps ?_ (by rw [List.size_toArray]; omega)
    refine ⟨.ref _, _, I5.laid (t' := s4.toks) (o := .tup xs.reverse) (fun b ob q => Heap.get?_push_of_some _ q) (Nat.le_refl _) ?_, rfl, q _ (I5.hok.fresh (Nat.le_refl _))⟩
    exact ⟨by rw [List.length_reverse]; exact hz, _, r.reverse, IsTup.new _ _⟩
theorem re_rev {a : Expr} {k : Nat} {p1 p2 p3 pos : Pos} {ma : En → M D} (ha : PE X a (tP (wd X ca) W ma)) : PE X (.Subscript a (.Slice none none (some (.UnaryOp .USub (.Constant (.int 1) k p1) p2)) p3) pos) (tE (wd X ca) W fun e => bnd (ma e) revD) :=
  (pe_revA ha).imp fun σ H Q h => h.bnd fun F O ρ e d st v H1 R E p h1 => by
    have rv : ∀ {ds : List D} {vs : List V}, DRs (wd X ca) F ρ ds vs → DRs (wd X ca) F ρ ds.reverse vs.reverse := fun {ds} => by
      induction ds with
      | nil => intro vs h; cases h; rfl
      | cons x r ih =>
        intro vs h
        obtain ⟨v, vr, rfl, q, t⟩ := h
        rw [List.reverse_cons, List.reverse_cons]
        exact (ih t).app ⟨v, [], rfl, q, rfl⟩
    cases d with
    | lst xs =>
      obtain ⟨b1, vs, e1, s1, t1⟩ := p
      exact ⟨b1, vs, e1, .inl ⟨(lsLater R.jn_le s1).sqL, okN.newL (h1.tame tame_revD) R (rv t1)⟩⟩
    | tup xs =>
      obtain ⟨b1, vs, e1, s1, t1⟩ := p
      exact ⟨b1, vs, e1, .inr ⟨SqT.later R.fz s1, okN.newT (h1.tame tame_revD) R (rv t1)⟩⟩
    | ref n =>
      have h2 := h1.tame tame_revD
      have h2 : okN (wd X ca) (DR (wd X ca)) F O ρ H1 (viaL n (fun xs => ret (.lst xs.reverse)) (fun _ => no) st) Q := h2
      rcases via_at R p h2 with ⟨xs, b1, vs, e1, _, _, e2, t, h3⟩ | ⟨_, _, _, _, _, _, _, _, h3⟩
      · exact ⟨b1, vs, e1, .inl ⟨.inl (.inl e2), okN.newL h3 R (rv t)⟩⟩
      · exact h3.elim
    | _ => exact h1.elim
/-- a part of a slice -/
theorem ro_some {b : Expr} {mb : En → M D} (hb : PE X b (tE (wd X ca) W mb)) : PO X (some b) (tPart (tE (wd X ca) W mb)) := po_some hb
theorem re_slcL {a lo : Expr} {p2 pos : Pos} {ma ml : En → M D} (ha : PE X a (tP (wd X ca) W ma)) (hl : PE X lo (tE (wd X ca) W ml)) :
    PE X (.Subscript a (.Slice (some lo) none none p2) pos) (tE (wd X ca) W fun e => bnd (ma e) fun x => bnd (ml e) fun l => bnd (asI l) fun i => slD x i none) :=
  (pe_slice sl_allD ha (po_some hl) po_none).imp fun σ H Q h => h.bnd fun F O ρ e d st v H1 R E p h1 => ⟨F, O, ρ, e, st, R, E, okA.bnd h1 fun d2 st2 v2 F2 ρ2 H2 X2 R2 p2 h2 => by
    cases d2 with
    | int i => exact ⟨i, p2, F2, O, ρ2, st2, d, R2, PR.later (X2.jn R R2) X2.f X2.r p, h2.tame tame_slD⟩
    | _ => exact h2.elim⟩
theorem re_slcH {a hi : Expr} {p2 pos : Pos} {ma mh : En → M D} (ha : PE X a (tP (wd X ca) W ma)) (hh : PE X hi (tE (wd X ca) W mh)) :
    PE X (.Subscript a (.Slice none (some hi) none p2) pos) (tE (wd X ca) W fun e => bnd (ma e) fun x => bnd (mh e) fun l => bnd (asI l) fun i => slD x none i) :=
  (pe_slice sl_allD ha po_none (po_some hh)).imp fun σ H Q h => h.bnd fun F O ρ e d st v H1 R E p h1 => ⟨F, O, ρ, e, st, R, E, okA.bnd h1 fun d2 st2 v2 F2 ρ2 H2 X2 R2 p2 h2 => by
    cases d2 with
    | int i => exact ⟨i, p2, F2, O, ρ2, st2, d, R2, PR.later (X2.jn R R2) X2.f X2.r p, h2.tame tame_slD⟩
    | _ => exact h2.elim⟩
theorem re_slc {a lo hi : Expr} {p2 pos : Pos} {ma ml mh : En → M D} (ha : PE X a (tP (wd X ca) W ma)) (hl : PE X lo (tE (wd X ca) W ml)) (hh : PE X hi (tE (wd X ca) W mh)) :
    PE X (.Subscript a (.Slice (some lo) (some hi) none p2) pos) (tE (wd X ca) W fun e => bnd (ma e) fun x => bnd (ml e) fun l => bnd (asI l) fun i => bnd (mh e) fun h => bnd (asI h) fun j => slD x i j) :=
  (pe_slice sl_allD ha (po_some hl) (po_some hh)).imp fun σ H Q h => h.bnd fun F O ρ e d st v H1 R E p h1 => ⟨F, O, ρ, e, st, R, E, okA.bnd h1 fun d2 st2 v2 F2 ρ2 H2 X2 R2 p2 h2 => by
    cases d2 with
    | int i =>
      exact ⟨i, p2, F2, O, ρ2, e, st2, R2, E.later X2, okA.bnd (f := fun h => bnd (asI h) fun j => slD d (some i) j) h2 fun d3 st3 v3 F3 ρ3 H3 X3 R3 p3 h3 => by
        cases d3 with
        | int j => exact ⟨j, p3, F3, O, ρ3, st3, d, R3, PR.later (X3.jn R2 R3) X3.f X3.r (PR.later (X2.jn R R2) X2.f X2.r p), h3.tame tame_slD⟩
        | _ => exact h3.elim⟩
    | _ => exact h2.elim⟩
/-! ### calls of built-ins -/
def bfN : BF → Str
  | .len => "len" | .abs => "abs" | .int => "int" | .str => "str" | .repr => "repr" | .list => "list" | .tuple => "tuple"
  | .sum => "sum" | .all => "all" | .any => "any" | .max => "max" | .min => "min" | .sorted => "sorted" | .listn => "list" | .dict => "dict"
theorem bf_boot : ∀ b : BF, bootBuiltins (bfN b) = some (bfV b) := by
  intro b; cases b <;> rfl
theorem bf_ne : ∀ b : BF, bfN b ≠ ("__name__" : Str) ∧ (bfN b == ("__debug__" : Str)) = false := by
  intro b; cases b <;> exact ⟨by decide, by decide⟩
theorem re_blt (q : Cq X) (b : BF) {p pos : Pos} {x : Expr} {es : List Expr} {ms : En → M (List D)} (hn : (x :: es).all ns = true) (hg : Gl X (bfN b)) (hm : X.mg (bfN b) = none) (ha : PA X (x :: es) (tPs (wd X ca) W ms)) :
    PE X (.Call (.Name (bfN b) p) (x :: es) [] pos) (tE (wd X ca) W fun e => bnd (ms e) fun xs => blt b xs) := by
  rw [List.all_cons, Bool.and_eq_true] at hn
  have fin : PE X (.Call (.Name (bfN b) p) (x :: es) [] pos) (tCB (rAr (wd X ca) (blt b)) (tPs (wd X ca) W ms)) := by
    have B := bf_boot b
    have C := cb_all (ca := ca) q b
    have D1 := (bf_ne b).1
    have D2 := (bf_ne b).2
    revert B C
    generalize hv : bfV b = v
    intro B C
    have k : (∃ id, v = .builtin id) ∨ ∃ T, v = .type T := by subst hv; cases b <;> first | exact .inl ⟨_, rfl⟩ | exact .inr ⟨_, rfl⟩
    rcases k with ⟨id, rfl⟩ | ⟨T, rfl⟩
    · exact pe_callB C hg hm B ha D1 D2 (star_cons hn.1) (star_plain hn.2)
    · exact pe_callTy C hg hm B ha D1 D2 (star_cons hn.1) (star_plain hn.2)
  exact fin.imp fun σ H Q h => h.bnd fun F O ρ e d st v H1 R E p h1 => ⟨F, O, ρ, st, d, R, p, h1.tame tame_blt⟩
def tyNm : TyN → Str
  | .str => "str" | .int => "int" | .bool => "bool" | .tuple => "tuple" | .list => "list"
theorem ty_boot : ∀ t : TyN, bootBuiltins (tyNm t) = some (.type (tyS t)) := by
  intro t; cases t <;> rfl
theorem ty_ne : ∀ t : TyN, tyNm t ≠ ("__name__" : Str) ∧ (tyNm t == ("__debug__" : Str)) = false := by
  intro b; cases b <;> exact ⟨by decide, by decide⟩
theorem re_isi (t : TyN) {p p2 pos : Pos} {x : Expr} {m : En → M D} (hn : ns x = true) (hg : Gl X "isinstance") (hm : X.mg "isinstance" = none) (hg2 : Gl X (tyNm t)) (hm2 : X.mg (tyNm t) = none) (ha : PE X x (tP (wd X ca) W m)) :
    PE X (.Call (.Name "isinstance" p) [x, .Name (tyNm t) p2] [] pos) (tE (wd X ca) W fun e => bnd (m e) fun x => bnd (isTy t x) fun b => ret (.bl b)) :=
  (pe_callB (ci_all (ca := ca) t) hg hm rfl (pa_cons ha (pa_cons (pe_bltn (v := .ty (tyS t)) hg2 hm2 (ty_boot t) rfl (ty_ne t).1 (ty_ne t).2) pa_nil rfl) (star_cons hn)) (by decide) (by decide) (star_cons hn) rfl).imp
    fun σ H Q h => h.bnd fun F O ρ e d st v H1 R E p h1 => ⟨v, rfl, F, O, ρ, st, d, R, p, h1.tame (tame_bnd tame_isTy fun _ => tame_ret)⟩
end
end Ev

set_option Elab.async false
set_option linter.all false
set_option maxRecDepth 100000
set_option maxHeartbeats 1000000
/-! Ev8: what a def promises; calls of defs; methods of built-ins. -/
namespace Ev
open PySem PySem.Spec PyProof.Rows L2
abbrev O0 : Hp := fun _ => none
section
variable {Wo : Wd} {W : WX} {F O F' O' : Hp} {ρ ρ' : Rho} {st st' : Sto} {H H' : Hp} {e : En} {σ : L2.St}
/-- the caller's own lists are of no concern within -/
theorem Rl.drop (R : Rl Wo F O ρ st H) : Rl Wo F O0 ρ st H := ⟨R.fz, R.ob, R.inj, R.nf, R.nx, fun a o h => by cases h⟩
theorem Rl.lift (R : Rl Wo F O ρ st H) (x : Ext F O0 ρ H F' O0 ρ' H') (R' : Rl Wo F' O0 ρ' st' H') : Ext F O ρ H F' O ρ' H' ∧ Rl Wo F' O ρ' st' H' := by
  refine ⟨⟨x.f, x.r, fun a o h => ?_, x.nr, fun a o h => .inl ⟨o, h⟩, fun a o h h1 h2 => x.kp a o h rfl h2, x.al⟩, ⟨R'.fz, R'.ob, R'.inj, R'.nf, R'.nx, fun a o h => ?_⟩⟩
  · rcases x.nf a o h with h | h | ⟨u, h⟩
    · exact .inl h
    · exact .inr (.inl h)
    · cases h
  · obtain ⟨h1, h2, h3⟩ := R.ow a o h
    refine ⟨x.kp a o h1 rfl h3, ?_, fun n z => ?_⟩
    · cases q : F' a with
      | none => rfl
      | some u =>
        rcases x.nf a u q with z | z | ⟨_, z⟩
        · rw [h2] at z; cases z
        · rw [h1] at z; cases z
        · cases z
    · rcases x.nr n a z with z | z
      · exact h3 n z
      · rw [h1] at z; cases z
theorem okA.drop {α β : Type} {P : Hp → Rho → α → β → Prop} {r : R α} {Q : β → Hp → Prop} (R : Rl Wo F O ρ st H) (h : okA P Wo W σ F O ρ H r Q) : okA P Wo W σ F O0 ρ H r Q := by
  cases r with
  | ok d s1 =>
    intro v F1 ρ1 H1 x R1 p
    obtain ⟨x', R'⟩ := R.lift x R1
    exact h v F1 ρ1 H1 x' R' p
  | ex y s1 =>
    intro cls dx F1 ρ1 H1 x R1 p
    obtain ⟨x', R'⟩ := R.lift x R1
    exact h cls dx F1 ρ1 H1 x' R' p
  | no => exact h
end
/-- a def's promise, told by values -/
def spD (Wo : Wd) (n : Nat) (call : List D → M D) : Sp := fun vs H Q E => vs.length = n ∧ ∃ F ρ st ds, Rl Wo F O0 ρ st H ∧ DRs Wo F ρ ds vs ∧ okA (fun F' ρ' => DR Wo F' ρ') Wo (fun c d _ H => E c d H) [] F O0 ρ H (call ds st) Q
/-- what a def promises where nothing is being written out -/
structure FnG (P : Program) (w : World) (K : PySem.W.Frag) (mg : Str → Option Value) (base : Heap) (k : Nat) (f : Addr) (fd : FuncData) (ps : List Str) (sp : Sp) : Prop where
  run : ∀ (A : Around) (outer : List Env) (s : Shared) (H : Hp) (args : Args) (us : List Value) (vs : List V) (Q : VK) (E : XK),
    A.guards = some [] → Room k A → Env0 P w K mg base A outer s H → vs.length = ps.length → BindsTo s fd args (ps.zip us) → Vals vs us → sp vs H Q E →
      codeAny (model P w) A (.call (.ref f) args) (CR (L2.CX P w) outer P w H s Q E) s
theorem FnG.mono {P : Program} {w : World} {K : PySem.W.Frag} {mg : Str → Option Value} {base : Heap} {j k : Nat} {f : Addr} {fd : FuncData} {ps : List Str} {sp : Sp} (G : FnG P w K mg base j f fd ps sp) (h : j ≤ k) : FnG P w K mg base k f fd ps sp :=
  ⟨fun A outer s H args us vs Q E hg hr => G.run A outer s H args us vs Q E hg (hr.mono h)⟩
section
variable {X : Cx} {ca : Nat → Addr} {W : WX} {F O : Hp} {ρ : Rho} {st : Sto} {H : Hp} {e : En} {σ : L2.St}
/-- the same as okA.bnd, and where the first part's answer came from -/
theorem okA.bndE {α β γ δ : Type} {Wo : Wd} {P : Hp → Rho → α → γ → Prop} {P' : Hp → Rho → β → δ → Prop} {m : M α} {f : α → M β} {Q : δ → Hp → Prop} {Q1 : γ → Hp → Prop}
    (h : okA P' Wo W σ F O ρ H (Ev.bnd m f st) Q)
    (k : ∀ d st' v F' ρ' H', Ext F O ρ H F' O ρ' H' → Rl Wo F' O ρ' st' H' → P F' ρ' d v → okA P' Wo W σ F' O ρ' H' (f d st') Q → m st = .ok d st' → Q1 v H') : okA P Wo W σ F O ρ H (m st) Q1 := by
  have h2 := okA.bnd (P := P) (Q1 := fun v H' => ∀ d st' F' ρ', m st = .ok d st' → Ext F O ρ H F' O ρ' H' → Rl Wo F' O ρ' st' H' → P F' ρ' d v → okA P' Wo W σ F' O ρ' H' (f d st') Q → Q1 v H') h
    fun _ _ _ _ _ _ _ _ _ _ => fun d st' F' ρ' q X' R' p hh => k d st' _ F' ρ' _ X' R' p hh q
  cases r : m st with
  | ok d st' =>
    rw [r] at h2
    intro v F' ρ' H' X' R' p
    refine h2 v F' ρ' H' X' R' p d st' F' ρ' rfl X' R' p ?_
    dsimp only [Ev.bnd] at h
    rw [r] at h
    have h : okA P' Wo W σ F O ρ H (f d st') Q := h
    cases r2 : f d st' with
    | ok d2 st2 => rw [r2] at h; exact fun v2 F2 ρ2 H2 X2 R2 p2 => h v2 F2 ρ2 H2 (X'.trans X2) R2 p2
    | ex x st2 => rw [r2] at h; exact fun cls dx F2 ρ2 H2 X2 R2 p2 => h cls dx F2 ρ2 H2 (X'.trans X2) R2 p2
    | no => rw [r2] at h; exact h
  | ex x st' => rw [r] at h2; exact h2
  | no => rw [r] at h2; exact h2
theorem call_fn {k : Nat} {f : Addr} {fd : FuncData} {ps : List Str} {cf : List D → M D} {pins : List (Addr × Obj)} {s : Shared} {us : List Value} {vs : List V} {ds : List D} {Q : VK} (tk : Takes X W) (hgd : X.A.guards = some []) (hr : Room k X.A)
    (G : FnG X.prog X.w X.K X.mg X.base k f fd ps (spD (wd X ca) ps.length cf)) (hb : ∀ (s : Shared) (us : List Value), us.length = ps.length → BindsTo s fd ⟨us, []⟩ (ps.zip us))
    (I : Inv X pins σ H s) (r : Vals vs us) (hl : ds.length = ps.length) (R : Rl (wd X ca) F O ρ st H) (p : DRs (wd X ca) F ρ ds vs) (h : okA (fun F' ρ' => DR (wd X ca) F' ρ') (wd X ca) W σ F O ρ H (cf ds st) Q) :
    wpAny (model X.prog X.w) X.A (call (.ref f) us) (EP X pins σ Q) X.xe s := by
  have l1 : vs.length = ps.length := by rw [← p.len]; exact hl
  have l2 : us.length = ps.length := by rw [← r.length]; exact l1
  have sp : spD (wd X ca) ps.length cf vs H Q (WE W σ) := by
    refine ⟨l1, F, ρ, st, ds, R.drop, p, ?_⟩
    have h' := okA.drop R h
    cases q : cf ds st with
    | ok d s1 => rw [q] at h'; exact h'
    | ex y s1 => rw [q] at h'; exact h'
    | no => rw [q] at h'; exact h'
  refine wpAny_call (codeAny_mono (G.run X.A X.stack s H ⟨us, []⟩ us vs Q (WE W σ) hgd hr I.env0 l1 (hb s us l2) r sp) fun res s' hq => ?_)
  rcases res with e | (u | _ | _ | _)
  · exact passAt tk σ pins H s e s' I hq
  all_goals first | exact I.after hq | exact hq.elim
theorem re_call {k : Nat} {f : Addr} {fd : FuncData} {ps : List Str} {cf : List D → M D} {x : Str} {a : Expr} {es : List Expr} {p pos : Pos} {ms : En → M (List D)} (tk : Takes X W) (hgd : X.A.guards = some []) (hr : Room k X.A)
    (G : FnG X.prog X.w X.K X.mg X.base k f fd ps (spD (wd X ca) ps.length cf)) (hb : ∀ (s : Shared) (us : List Value), us.length = ps.length → BindsTo s fd ⟨us, []⟩ (ps.zip us))
    (hg : Gl X x) (hm : X.mg x = some (.ref f)) (hk : PySem.W.keepIn X.K (.ref f) = true) (hdb : (x == ("__debug__" : Str)) = false) (hn : (a :: es).all ns = true) (hl : ∀ e s ds s', ms e s = .ok ds s' → ds.length = ps.length)
    (ha : PA X (a :: es) (tEs (wd X ca) W ms)) : PE X (.Call (.Name x p) (a :: es) [] pos) (tE (wd X ca) W fun e => bnd (ms e) cf) := by
  rw [List.all_cons, Bool.and_eq_true] at hn
  refine ⟨fun pins s σ H Q I h => ?_⟩
  refine wpAny_Call_Name_kw (ld_glob I hg hm ?_ hdb)
  have hA : tEs (wd X ca) W ms σ H fun vs H1 => ∃ F O ρ st ds, Rl (wd X ca) F O ρ st H1 ∧ DRs (wd X ca) F ρ ds vs ∧ ds.length = ps.length ∧ okA (fun F' ρ' => DR (wd X ca) F' ρ') (wd X ca) W σ F O ρ H1 (cf ds st) Q := by
    obtain ⟨F, O, ρ, e, st, R, E, h⟩ := h
    refine ⟨F, O, ρ, e, st, R, E, ?_⟩
    have h : okA (fun F' ρ' => pE (wd X ca) F' O ρ') (wd X ca) W σ F O ρ H (bnd (ms e) cf st) Q := h
    exact okA.bndE h fun ds st2 v F2 ρ2 H2 X2 R2 p2 h2 q => ⟨F2, O, ρ2, st2, ds, R2, p2, hl e st ds st2 q, h2⟩
  refine PySem.W.callWith_K (h₀ := X.base) I.ok.mod.kin hk (L2.thn (ha.run pos pins s σ H _ I hA) fun us s1 ⟨vs, H1, I1, r, F, O, ρ, st, ds, R, p, l, q⟩ => ⟨I1.kIn, ?_⟩) (star_cons hn.1) (star_plain hn.2)
  exact call_fn tk hgd hr G hb I1 r l R p q
theorem re_call0 {k : Nat} {f : Addr} {fd : FuncData} {ps : List Str} {cf : List D → M D} {x : Str} {p pos : Pos} (tk : Takes X W) (hgd : X.A.guards = some []) (hr : Room k X.A)
    (G : FnG X.prog X.w X.K X.mg X.base k f fd ps (spD (wd X ca) ps.length cf)) (hb : ∀ (s : Shared) (us : List Value), us.length = ps.length → BindsTo s fd ⟨us, []⟩ (ps.zip us))
    (hg : Gl X x) (hm : X.mg x = some (.ref f)) (hk : PySem.W.keepIn X.K (.ref f) = true) (hdb : (x == ("__debug__" : Str)) = false) (hl : ps.length = 0) : PE X (.Call (.Name x p) [] [] pos) (tE (wd X ca) W fun _ => bnd (ret []) cf) := by
  refine ⟨fun pins s σ H Q I h => ?_⟩
  refine wpAny_Call_Name_kw (ld_glob I hg hm ?_ hdb)
  obtain ⟨F, O, ρ, e, st, R, E, h⟩ := h
  exact PySem.W.callWith_K0 I.kIn hk (call_fn (us := []) (vs := []) (ds := []) tk hgd hr G hb I .nil hl.symm R rfl h)
end
end Ev

set_option Elab.async false
set_option linter.all false
set_option maxRecDepth 100000
set_option maxHeartbeats 1000000
/-! Ev9: methods of built-ins. -/
namespace Ev
open PySem PySem.Spec PyProof.Rows L2
section
variable {X : Cx} {ca : Nat → Addr} {W : WX} {F O : Hp} {ρ : Rho} {st : Sto} {H : Hp} {e : En} {σ : L2.St}
def mfT : MF → String
  | .join => "str" | .upper => "str" | .get => "dict" | .append => "list" | .pop => "list" | .items => "dict"
def mfI : MF → String
  | .join => "str.join" | .upper => "str.upper" | .get => "dict.get" | .append => "list.append" | .pop => "list.pop" | .items => "dict.items"
def mfN : MF → Str
  | .join => "join" | .upper => "upper" | .get => "get" | .append => "append" | .pop => "pop" | .items => "items"
theorem mf_is : ∀ m : MF, PlainAttrs (mfT m) ∧ Slot (mfT m) (mfN m) (mfI m) ∧ typeOf (.builtin (mfI m)) = pure (.type "method_descriptor")
  | .join => ⟨PySem.F.plainAttrs_str, PySem.F.slot_str_join, PySem.F.type_str_join⟩
  | .upper => ⟨PySem.F.plainAttrs_str, PySem.F.slot_str_upper, PySem.F.type_str_upper⟩
  | .get => ⟨PySem.F.plainAttrs_dict, PySem.F.slot_dict_get, PySem.F.type_dict_get⟩
  | .append => ⟨PySem.F.plainAttrs_list, PySem.F.slot_list_append, PySem.F.type_list_append⟩
  | .pop => ⟨PySem.F.plainAttrs_list, PySem.F.slot_list_pop, PySem.F.type_list_pop⟩
  | .items => ⟨PySem.F.plainAttrs_dict, PySem.F.slot_dict_items, PySem.F.type_dict_items⟩
theorem rcv_is {m : MF} {d : D} {x : V} {v : Value} {pins : List (Addr × Obj)} {s : Shared} {st' : Sto} (I : Inv X pins σ H s) (rx : RelV x v) (R : Rl (wd X ca) F O ρ st H) (p : PR (wd X ca) F O ρ d x) (e : rcv m d st = .ok () st') :
    st' = st ∧ s.TypeIs v (mfT m) ∧ ∀ a, v = .ref a → ∃ ob, s.heap.get? a = some ob ∧ ob.dict = none := by
  have dicts : ∀ (b : Addr) (kv : List (Key × V)), x = .ref b → (H b = some (.dK kv) ∨ KDV (wd X ca) b kv) → s.TypeIs v "dict" ∧ ∀ a, v = .ref a → ∃ ob, s.heap.get? a = some ob ∧ ob.dict = none := fun b kv e1 h => by
    subst e1
    rcases h with h | ⟨es, n, kd, _⟩
    · exact tyV_is I rx (.inr (.inr (.inl ⟨rfl, .inl ⟨kv, h⟩⟩)))
    · cases rx
      have o := I.kIn _ _ kd.at_
      refine ⟨⟨_, o, rfl⟩, fun a z => ?_⟩
      cases z
      exact ⟨_, o, rfl⟩
  have lists : ∀ (b : Addr) (vs : List V), x = .ref b → H b = some (.lst vs) → s.TypeIs v "list" ∧ ∀ a, v = .ref a → ∃ ob, s.heap.get? a = some ob ∧ ob.dict = none := fun b vs e1 h => by
    subst e1
    exact tyV_is I rx (.inl ⟨rfl, vs, .inl (.inl h)⟩)
  have refs : ∀ {n : Nat} {f : List D → M Unit} {g : List (Key × D) → M Unit}, d = .ref n → viaL n f g st = .ok () st' →
      (∃ (b : Addr) (vs : List V) (xs : List D), x = .ref b ∧ H b = some (.lst vs) ∧ f xs st = .ok () st') ∨ ∃ (b : Addr) (kv : List (Key × V)) (xs : List (Key × D)), x = .ref b ∧ H b = some (.dK kv) ∧ g xs st = .ok () st' := fun {n f g} ed h => by
    subst ed
    obtain ⟨a, e1, e2⟩ := p
    unfold viaL at h
    cases q : st.get n with
    | none => rw [q] at h; cases h
    | some o =>
      rw [q] at h
      obtain ⟨b, ho, h1, h2, h3⟩ := R.ob n _ q
      rw [e2] at h1; cases h1
      cases o with
      | lst xs => obtain ⟨vs, h4, _⟩ := h3; subst h4; exact .inl ⟨a, vs, xs, e1, h2, h⟩
      | dct xs => obtain ⟨vs, h4, _⟩ := h3; subst h4; exact .inr ⟨a, vs, xs, e1, h2, h⟩
      | ins _ _ => cases h
  unfold rcv at e
  split at e
  · cases e; rw [p.1] at rx; obtain ⟨t, rfl⟩ := rx; exact ⟨rfl, typeIs_str _ _ _, fun a z => by cases z⟩
  · cases e; rw [p.1] at rx; obtain ⟨t, rfl⟩ := rx; exact ⟨rfl, typeIs_str _ _ _, fun a z => by cases z⟩
  · cases e
    obtain ⟨b, kv, e1, h1, _⟩ := p
    exact ⟨rfl, dicts b kv e1 (h1.elim (fun z => .inl (R.jn_le _ _ z)) .inr)⟩
  · rcases refs rfl e with ⟨b, vs, xs, e1, h, z⟩ | ⟨b, kv, xs, e1, h, z⟩
    · cases z
    · cases z; exact ⟨rfl, dicts b kv e1 (.inl h)⟩
  · rcases refs rfl e with ⟨b, vs, xs, e1, h, z⟩ | ⟨b, kv, xs, e1, h, z⟩
    · cases z; exact ⟨rfl, lists b vs e1 h⟩
    · cases z
  · rcases refs rfl e with ⟨b, vs, xs, e1, h, z⟩ | ⟨b, kv, xs, e1, h, z⟩
    · cases z; exact ⟨rfl, lists b vs e1 h⟩
    · cases z
  · cases e
theorem rcv_ref {m : MF} {d : D} {s : Sto} {y : Exn} {s' : Sto} : rcv m d s ≠ .ex y s' := fun e => by
  unfold rcv at e
  split at e
  all_goals first
    | (cases e; done)
    | (unfold viaL at e; split at e <;> cases e)
theorem done1 {d : D} {xs : List V} {us : List Value} (r : Vals xs us) (p : DRs (wd X ca) F ρ [d] xs) : ∃ v u, xs = [v] ∧ us = [u] ∧ RelV v u ∧ DR (wd X ca) F ρ d v := by
  obtain ⟨v, vr, rfl, p1, t⟩ := p
  cases t
  obtain ⟨u, rfl, ru⟩ := vals1 r
  exact ⟨v, u, rfl, rfl, ru, p1⟩
theorem done2 {d d' : D} {xs : List V} {us : List Value} (r : Vals xs us) (p : DRs (wd X ca) F ρ [d, d'] xs) : ∃ v u v' u', xs = [v, v'] ∧ us = [u, u'] ∧ RelV v u ∧ RelV v' u' ∧ DR (wd X ca) F ρ d v ∧ DR (wd X ca) F ρ d' v' := by
  obtain ⟨v, vr, rfl, p1, v', vr', rfl, p2, t⟩ := p
  cases t
  obtain ⟨u, u', rfl, ru, ru'⟩ := vals2 r
  exact ⟨v, u, v', u', rfl, rfl, ru, ru', p1, p2⟩
theorem mth_run (q : Cq X) {m : MF} {d : D} {ds : List D} {x : V} {xs : List V} {v : Value} {us : List Value} {pins : List (Addr × Obj)} {s : Shared} {Q : VK} (I : Inv X pins σ H s) (rx : RelV x v) (rv : Vals xs us) (R : Rl (wd X ca) F O ρ st H)
    (p : PR (wd X ca) F O ρ d x) (ps : DRs (wd X ca) F ρ ds xs) (h : okN (wd X ca) (DR (wd X ca)) F O ρ H (mth m d ds st) Q) : wpAny (model X.prog X.w) X.A (call (.builtin (mfI m)) (v :: us)) (EP X pins σ Q) X.xe s := by
  have hu1 : X.A.units + 1 < cLine := by have := q.hu; omega
  unfold mth at h
  split at h
  · rename_i a d1
    obtain ⟨y, u, rfl, rfl, ru, p1⟩ := done1 rv ps
    obtain ⟨b, ys, vs, e, sb, t, h⟩ := seqM_at R p1.pr h
    subst e
    unfold joinL at h
    cases e : strsD ys with
    | none => rw [e] at h; exact h.elim
    | some zs =>
      rw [e] at h
      obtain ⟨e1, e2⟩ := strs_of t e
      subst e1
      dsimp only at h
      by_cases c : (zs.map (·.length)).sum + zs.length * a.length ≤ 16777216
      · rw [if_pos c] at h
        exact mt_join pins s σ H x [.ref b] v [u] Q I rx (.cons ru .nil) ⟨a, b, zs, p.1, rfl, sb.elim (fun z => .inl z.sqL) (fun z => .inr (SqT.later R.fz z)), c, by rw [show Txt.join a zs = Str.join a zs from PySem.StrLaws.glued_eq_join a zs]; exact okN.ret h R ⟨rfl, strOk_join p.2 e2⟩⟩
      · rw [if_neg c] at h; exact h.elim
  · rename_i a
    cases ps
    cases rv
    by_cases c : a.length ≤ 5592405 ∧ PyData.strOk (Txt.upper a) = true
    · rw [if_pos c] at h
      exact mt_upper pins s σ H x [] v [] Q I rx .nil ⟨a, p.1, rfl, c.1, okN.ret h R ⟨rfl, c.2⟩⟩
    · rw [if_neg c] at h; exact h.elim
  · rename_i k e0 
    obtain ⟨y, u, y', u', rfl, rfl, ru, ru', p1, p2⟩ := done2 rv ps
    obtain ⟨b, kvs, kv, e, sb, t, h⟩ := dctM_at R p h
    subst e
    cases rx
    unfold getM at h
    cases ek : keyD k with
    | none => rw [ek] at h; exact h.elim
    | some k1 =>
      rw [ek] at h
      dsimp only at h
      by_cases c : kfit kvs k1 = true
      · rw [if_pos c] at h
        have ey := keyD_at (F := F) (O := O) (ρ := ρ) ek p1.pr
        have go : ∃ w, (valV kv k1).getD y' = w ∧ DR (wd X ca) F ρ ((getK kvs k1).getD e0) w := by
          rcases t.get k1 with ⟨d1, w1, g1, g2, g3⟩ | ⟨g1, g2⟩
          · rw [g1, g2]; exact ⟨w1, rfl, g3⟩
          · rw [g1, g2]; exact ⟨y', rfl, p2⟩
        obtain ⟨w, g1, g2⟩ := go
        have q1 : Q w H := okN.ret h R g2
        rcases sb with sb | sb
        · exact d_get2 hu1 I (.inl ⟨kv, k1, .inl sb, ey, rfl⟩) ru ru' fun w' s' I' r' => ⟨w, H, I', by rw [← g1]; exact r', q1⟩
        · exact kdv_get I sb ey ru (kdv_str sb t c) ru' fun w' s' I' r' => ⟨w, H, I', by rw [← g1]; exact r', q1⟩
      · rw [if_neg c] at h; exact h.elim
  · rename_i k
    obtain ⟨y, u, rfl, rfl, ru, p1⟩ := done1 rv ps
    obtain ⟨b, kvs, kv, e, sb, t, h⟩ := dctM_at R p h
    subst e
    cases rx
    unfold getM at h
    cases ek : keyD k with
    | none => rw [ek] at h; exact h.elim
    | some k1 =>
      rw [ek] at h
      dsimp only at h
      by_cases c : kfit kvs k1 = true
      · rw [if_pos c] at h
        have ey := keyD_at (F := F) (O := O) (ρ := ρ) ek p1.pr
        have go : ∃ w, (valV kv k1).getD .non = w ∧ DR (wd X ca) F ρ ((getK kvs k1).getD .non) w := by
          rcases t.get k1 with ⟨d1, w1, g1, g2, g3⟩ | ⟨g1, g2⟩
          · rw [g1, g2]; exact ⟨w1, rfl, g3⟩
          · rw [g1, g2]; exact ⟨.non, rfl, rfl⟩
        obtain ⟨w, g1, g2⟩ := go
        have q1 : Q w H := okN.ret h R g2
        rcases sb with sb | sb
        · exact d_get1 hu1 I (.inl ⟨kv, k1, .inl sb, ey, rfl⟩) ru fun w' s' I' r' => ⟨w, H, I', by rw [← g1]; exact r', q1⟩
        · exact kdv_get1 I sb ey ru (kdv_str sb t c) fun w' s' I' r' => ⟨w, H, I', by rw [← g1]; exact r', q1⟩
      · rw [if_neg c] at h; exact h.elim
  · rename_i n d1
    obtain ⟨y, u, rfl, rfl, ru, p1⟩ := done1 rv ps
    obtain ⟨b, e1, e2⟩ := p
    subst e1
    unfold appS at h
    cases g : st.get n with
    | none => rw [g] at h; exact h.elim
    | some o =>
      rw [g] at h
      cases o with
      | lst ys =>
        obtain ⟨b2, ho, h1, h2, vs, h3, h4⟩ := R.ob n _ g
        rw [e2] at h1; cases h1
        subst h3
        dsimp only at h
        by_cases c : ys.length < sizeLine
        · rw [if_pos c] at h
          obtain ⟨X', R'⟩ := written R g e2 (o' := .lst (ys ++ [d1])) (x := .lst (vs ++ [y])) ⟨_, rfl, h4.app ⟨y, [], rfl, p1, rfl⟩⟩
          exact mt_append pins s σ H (.ref b) [y] v [u] Q I rx (.cons ru .nil) ⟨b, vs, y, rfl, rfl, h2, by rw [← h4.len]; exact c, h _ _ _ _ X' R' rfl⟩
        · rw [if_neg c] at h; exact h.elim
      | dct _ => exact h.elim
      | ins _ _ => exact h.elim
  · rename_i n
    cases ps
    cases rv
    obtain ⟨b, e1, e2⟩ := p
    subst e1
    unfold popS at h
    cases g : st.get n with
    | none => rw [g] at h; exact h.elim
    | some o =>
      rw [g] at h
      cases o with
      | lst ys =>
        obtain ⟨b2, ho, h1, h2, vs, h3, h4⟩ := R.ob n _ g
        rw [e2] at h1; cases h1
        subst h3
        dsimp only at h
        cases c : ys[ys.length - 1]? with
        | none => rw [c] at h; exact h.elim
        | some d1 =>
          rw [c] at h
          obtain ⟨y, e3, p3⟩ := h4.at c
          obtain ⟨X', R'⟩ := written R g e2 (o' := .lst ys.dropLast) (x := .lst vs.dropLast) ⟨_, rfl, h4.dropLast⟩
          exact mt_pop pins s σ H (.ref b) [] v [] Q I rx .nil ⟨b, vs, y, rfl, rfl, h2, by rw [← h4.len]; exact e3, h _ _ _ _ X' R' (p3.later X'.f X'.r)⟩
      | dct _ => exact h.elim
      | ins _ _ => exact h.elim
  · exact h.elim
/-- behind the receiver -/
def Rcvd (X : Cx) (ca : Nat → Addr) (W : WX) (m : MF) (ms : En → M (List D)) (σ : L2.St) (Q : VK) (v : V) (H1 : Hp) : Prop := ∃ F O ρ e st d st', Rl (wd X ca) F O ρ st H1 ∧ RE (wd X ca) F O ρ e σ ∧ PR (wd X ca) F O ρ d v ∧ rcv m d st = .ok () st' ∧
      okA (fun F' ρ' => pE (wd X ca) F' O ρ') (wd X ca) W σ F O ρ H1 (bnd (ms e) (fun xs => mth m d xs) st) Q
theorem rcvd {m : MF} {mo : En → M D} {ms : En → M (List D)} {Q : VK} (h : tE (wd X ca) W (fun e => bnd (mo e) fun x => bnd (rcv m x) fun _ => bnd (ms e) fun xs => mth m x xs) σ H Q) : tP (wd X ca) W mo σ H (Rcvd X ca W m ms σ Q) :=
  h.bnd fun F O ρ e d st v H1 R E p h1 => by
    cases c : rcv m d st with
    | ok a st' =>
      have : st' = st := by
        have e1 : ∀ {n : Nat} {f : List D → M Unit} {g : List (Key × D) → M Unit} , (∀ xs s s', f xs s = .ok () s' → s' = s) → (∀ xs s s', g xs s = .ok () s' → s' = s) → viaL n f g st = .ok () st' → st' = st := fun {n f g} hf hg z => by
          unfold viaL at z
          split at z
          · exact hf _ _ _ z
          · exact hg _ _ _ z
          · cases z
        have r1 : ∀ (xs : List D) s s', ret () s = .ok () s' → s' = s := fun _ _ _ z => by cases z; rfl
        have r2 : ∀ (xs : List (Key × D)) s s', ret () s = .ok () s' → s' = s := fun _ _ _ z => by cases z; rfl
        have n1 : ∀ (xs : List D) s s', (no : M Unit) s = .ok () s' → s' = s := fun _ _ _ z => by cases z
        have n2 : ∀ (xs : List (Key × D)) s s', (no : M Unit) s = .ok () s' → s' = s := fun _ _ _ z => by cases z
        unfold rcv at c
        split at c
        · cases c; rfl
        · cases c; rfl
        · cases c; rfl
        · exact e1 n1 r2 c
        · exact e1 r1 n2 c
        · exact e1 r1 n2 c
        · cases c
      subst this
      refine ⟨F, O, ρ, e, _, d, _, R, E, p, c, ?_⟩
      dsimp only [bnd] at h1
      rw [c] at h1
      exact h1
    | ex y s1 => exact (rcv_ref c).elim
    | no =>
      dsimp only [bnd] at h1
      rw [c] at h1
      exact h1.elim
theorem re_mth0 (q : Cq X) (m : MF) {o : Expr} {apos cpos : Pos} {mo : En → M D} (hbase : attributeBase o (mfN m) X.env (eval o X.env) = eval o X.env) (hline : (apos.endLine == cpos.line) = true) (ho : PE X o (tP (wd X ca) W mo)) :
    PE X (.Call (.Attribute o (mfN m) apos) [] [] cpos) (tE (wd X ca) W fun e => bnd (mo e) fun x => bnd (rcv m x) fun _ => bnd (ret []) fun xs => mth m x xs) := by
  refine ⟨fun pins s σ H Q I h => ?_⟩
  obtain ⟨mpa, mslot, mty⟩ := mf_is m
  refine wpAny_Call_method0_late hbase hline (L2.thn (ho.run pins s σ H _ I (rcvd (ms := fun _ => ret []) h)) fun v s1 ⟨x, H1, I1, r1, F, O, ρ, e, st, d, st', R, E, p, c, h1⟩ => ?_)
  obtain ⟨_, h2, h3⟩ := rcv_is I1 r1 R p c
  have h1 : okA (fun F' ρ' => pE (wd X ca) F' O ρ') (wd X ca) W σ F O ρ H1 (mth m d [] st) Q := h1
  exact ⟨_, _, mpa, mslot, mty, h2, h3, Calls.callWith_builtin rfl (PySem.evalArgs_none (mth_run (ds := []) q I1 r1 .nil R p rfl (h1.tame tame_mth)))⟩
theorem re_mth (q : Cq X) (m : MF) {o a : Expr} {es : List Expr} {apos cpos : Pos} {mo : En → M D} {ms : En → M (List D)} (hbase : attributeBase o (mfN m) X.env (eval o X.env) = eval o X.env) (hline : (apos.endLine == cpos.line) = true) (hn : (a :: es).all ns = true) (hl : (a :: es).length < 29)
    (ho : PE X o (tP (wd X ca) W mo)) (ha : PA X (a :: es) (tEs (wd X ca) W ms)) :
    PE X (.Call (.Attribute o (mfN m) apos) (a :: es) [] cpos) (tE (wd X ca) W fun e => bnd (mo e) fun x => bnd (rcv m x) fun _ => bnd (ms e) fun xs => mth m x xs) := by
  refine ⟨fun pins s σ H Q I h => ?_⟩
  obtain ⟨mpa, mslot, mty⟩ := mf_is m
  rw [List.all_cons, Bool.and_eq_true] at hn
  refine wpAny_Call_method_late hbase ?_ hline rfl (L2.thn (ho.run pins s σ H _ I (rcvd h)) fun v s1 ⟨x, H1, I1, r1, F, O, ρ, e, st, d, st', R, E, p, c, h1⟩ => ?_)
  · rw [star_all (by rw [List.all_cons, hn.1, hn.2]; rfl)]
    have : decide ((a :: es).length + ([] : List Keyword).length + (if ([] : List Keyword).isEmpty then 0 else 1) < 30) = true := decide_eq_true (by
      show (a :: es).length + 0 + 0 < 30
      omega)
    rw [this]; rfl
  · obtain ⟨_, h2, h3⟩ := rcv_is I1 r1 R p c
    refine ⟨_, _, mpa, mslot, mty, h2, h3, ?_⟩
    have h4 := L2.thn (ha.run cpos pins s1 σ H1 (fun vs H2 => ∃ F ρ st ds, Rl (wd X ca) F O ρ st H2 ∧ PR (wd X ca) F O ρ d x ∧ DRs (wd X ca) F ρ ds vs ∧ okN (wd X ca) (DR (wd X ca)) F O ρ H2 (mth m d ds st) Q) I1 ⟨F, O, ρ, e, st, R, E, okA.bnd h1 fun d2 st2 v2 F2 ρ2 H2 X2 R2 p2 h2 => ⟨F2, ρ2, st2, d2, R2, PR.later (X2.jn R R2) X2.f X2.r p, p2, h2.tame tame_mth⟩⟩)
      fun us s2 ⟨vs, H2, I2, r2, F2, ρ2, st2, ds, R2, p2, p3, h2⟩ => mth_run q I2 r1 r2 R2 p2 p3 h2
    have se := star_cons (es := es) (env := X.env) hn.1
    rw [se] at h4 ⊢
    exact Calls.callWith_builtin (by show (false || (backTo cpos (starEach es X.env)).any (·.1)) = false; rw [star_plain hn.2] <;> rfl) (Calls.evalArgs_plain h4)
end
end Ev

set_option Elab.async false
set_option linter.all false
set_option maxRecDepth 100000
set_option maxHeartbeats 2000000
/-! EvX: enumerate of a tuple. -/
namespace Ev
open PySem PySem.Spec PyProof.Rows L2
theorem meets_enum1 {v : Value} {o : Obj} {H : Heap → Prop} (B : Begins v o H) :
    Meets (Builtin.«enumerate.__new__» ⟨[.type "enumerate", v], []⟩) (fun _ R s => H s.heap ∧
      R (.ok (.ret (.ref (s.heap.push o).objs.size))) { s with heap := (s.heap.push o).push { cls := .type "enumerate", data := .fields #[.none, .bool false, .ref s.heap.objs.size, rawInt 0, .none, .none] } }) :=
  .of_wp fun prog w A R s h => by
    obtain ⟨hp, g, d, tk, os⟩ := s; obtain ⟨h1, h⟩ := h
    have hsub := sub_enumerate
    have q1 : ∀ {A' : Around} {E : Value → Shared → Prop} {Q : Value → Shared → Prop}, Q (.ref hp.objs.size) ⟨hp.push o, g, d, tk, os⟩ → wpAny (model prog w) A' (pyIter v) Q E ⟨hp, g, d, tk, os⟩ :=
      fun q => B.iter prog w _ _ ⟨hp, g, d, tk, os⟩ _ h1 q
    wp_walk using q1
    refine wpAny_stack_any fun st => wpAny_pure ?_
    split
    · rename_i c _ _ _ _ _
      cases (c == Value.type "enumerate")
      · wp_walk using q1
        exact ⟨_, rfl, h⟩
      · wp_walk using q1
        exact ⟨_, rfl, h⟩
    · wp_walk using q1
      exact ⟨_, rfl, h⟩
section
variable {prog : Program} {w : World} {A : Around} {E : Value → Shared → Prop} {s : Shared}
theorem call_enum1 {v : Value} {o : Obj} {H : Heap → Prop} {Q : Value → Shared → Prop} (B : Begins v o H) (h1 : H s.heap)
    (h : ∀ h', IsEnum h' (s.heap.objs.size + 1) s.heap.objs.size 0 .none → h'.get? s.heap.objs.size = some o → h'.objs.size = s.heap.objs.size + 2 →
      (∀ b o, s.heap.get? b = some o → h'.get? b = some o) → Q (.ref (s.heap.objs.size + 1)) { s with heap := h' }) :
    wpAny (model prog w) A (call (.type "enumerate") [v]) Q E s := by
  refine callType_new F.called_enumerate (by decide) (F.typeCall_enumerate_1 _) (F.newCall_enumerate_1 _) (fun obj => F.args_object_init_2 obj _) F.entry_enumerate_new
    (meets_enum1 B) ⟨h1, ?_⟩
  have hz : (s.heap.push o).objs.size = s.heap.objs.size + 1 := Heap.size_push ..
  show _ ∧ _
  rw [hz]
  have he : IsEnum ((s.heap.push o).push { cls := .type "enumerate", data := .fields #[.none, .bool false, .ref s.heap.objs.size, rawInt 0, .none, .none] }) (s.heap.objs.size + 1) s.heap.objs.size 0 .none := by
    have := Heap.get?_push_size (s.heap.push o) (o := { cls := .type "enumerate", data := .fields #[.none, .bool false, .ref s.heap.objs.size, rawInt 0, .none, .none] }) rfl
    rw [hz] at this; exact this
  exact ⟨⟨_, he, rfl⟩, h _ he (Heap.get?_push_of_some _ (Heap.get?_push_size _ B.free)) (by rw [Heap.size_push, hz]) fun b o x => Heap.get?_push_of_some _ (Heap.get?_push_of_some _ x)⟩
end
/-- a tuple's items, each in a new pair behind its place -/
def IteT (K : PySem.W.Frag) (a : Addr) : It :=
  ⟨fun i H => ∃ (xs : List V) (x : V), SqT K H a xs ∧ xs[i]? = some x, fun i H v H' => ∃ T x, v = .ref T ∧ H T = none ∧ H' = upd H T (.tup [.int (i : Nat), x]) ∧ ∀ xs, SqT K H a xs → xs[i]? = some x, fun i H => ∃ xs : List V, SqT K H a xs ∧ xs.length = i⟩
theorem walk_enumT {K : PySem.W.Frag} {a : Addr} {xs : List V} : Walk (IteT K a) xs.length (fun H => SqT K H a xs) (YPair (fun i => some (.int (i : Nat))) (fun i => xs[i]?)) := by
  refine ⟨fun i _ hi q => ⟨xs, xs[i], q, by simp [hi]⟩, fun _ q => ⟨xs, q, rfl⟩, fun i H v H' _ q y => ?_⟩
  obtain ⟨T, x, h1, h2, h3, h4⟩ := y
  exact ⟨T, .int (i : Nat), x, h1, h2, h3, rfl, h4 xs q⟩
theorem turn_enumT {P : Program} {w : World} {K : PySem.W.Frag} {elts : List Expr} {kk : Nat} {tpos : Pos} (a e it : Addr) :
    Turn P w K (.Tuple elts kk tpos) (IteT K a) [e, it] e (fun i h => (∃ old, IsEnum h e it ((i : Nat) : Int) old) ∧ h.IsTupleIter it a i ∧ e ≠ it ∧ e ≠ a ∧ a ≠ it) where
  mem := by simp
  obj := fun i h st b hb => by
    obtain ⟨⟨old, he⟩, ⟨o, ho, hc, hd⟩, _⟩ := st
    have e' : b = e ∨ b = it := by simpa using hb
    rcases e' with z | z
    · rw [z]; exact ⟨_, he, fun v q => nomatch q⟩
    · rw [z]; exact ⟨o, ho, fun v q => by rw [hd] at q; cases q⟩
  keep := fun i h h' st k => let ⟨⟨old, he⟩, hi, hne⟩ := st; ⟨⟨old, k e (by simp) _ he⟩, hi.at fun o q => k it (by simp) o q, hne⟩
  item := by
    intro X hP hw hK hc i pins s σ H E I hf st hg
    subst hP hw hK
    obtain ⟨⟨old, he⟩, hit, hne, hea, hai⟩ := st
    obtain ⟨xs, x, hq, hx⟩ := hg
    obtain ⟨its, rv, p, hz⟩ := I.tuple hq
    obtain ⟨u, hu, ru⟩ := rv.get hx
    have hel : e < s.heap.objs.size := Heap.lt_size he
    have hil : it < s.heap.objs.size := by obtain ⟨_, q, _⟩ := hit; exact Heap.lt_size q
    have hh : X.A.in1.handled = none := I.ok.hd hc
    have hi : i < its.toArray.size := by rw [List.size_toArray]; exact (List.getElem?_eq_some_iff.mp hu).1
    refine wpAny_pyNext_enum_itemD (Draws.tuple hh it a hai its.toArray) he ⟨hit, p⟩ hi hne (by simp [hne, hea]) fun x' h' tk hP ho hst hT hsz hk => ?_
    have ex : x' = u := by
      have : its.toArray[i]? = some u := by simpa using hu
      rw [this] at hP; exact (Option.some.inj hP).symm
    subst ex
    refine ⟨_, rfl, wpAny_letOwnedTupleGo_enum (s := { s with heap := h', toks := tk + 1 }) ho fun h'' he' sb => ?_⟩
    have hT2 : h''.get? s.heap.objs.size = some { cls := .type "tuple", data := .seq #[.int i tk, x'] } := (sb.2 _ (Nat.ne_of_gt hel)).trans hT
    have new : ObjOk X.prog X.w (upd H s.heap.objs.size (.tup [.int (i : Nat), x])) h'' s.heap.objs.size (.tup [.int (i : Nat), x]) :=
      ⟨by show 2 ≤ sizeLine; decide, [.int i tk, x'], .cons ⟨_, rfl⟩ (.cons ru .nil), ⟨_, hT2, rfl, _, rfl⟩⟩
    have I1 : Inv X pins σ (upd H s.heap.objs.size (.tup [.int (i : Nat), x])) { s with heap := h'', toks := tk + 1 } :=
      I.turnedNew (ch := [e, it]) (fun b ob hb q => (sb.2 b (fun z => hb (by simp [z]))).trans (hk b ob (fun z => hb (by simp [z])) (fun z => hb (by simp [z])) q)) hf (Nat.le_refl _) new
    refine ⟨.ref s.heap.objs.size, _, I1, rfl, ⟨_, x, rfl, I.hok.fresh (Nat.le_refl _), rfl, fun ys hy => by rw [I.tuple_inj hy hq]; exact hx⟩, ⟨⟨x', ?_⟩, hst.1.at fun o q => (sb.2 it (Ne.symm hne)).trans q, hne, hea, hai⟩, fun b hb => ?_⟩
    · have e1 : ((i + 1 : Nat) : Int) = (i : Int) + 1 := by omega
      rw [e1]; exact he'
    · have hb' : b < s.heap.objs.size := by
        have e' : b = e ∨ b = it := by simpa using hb
        rcases e' with z | z
        · rw [z]; exact hel
        · rw [z]; exact hil
      rw [upd_ne (Nat.ne_of_lt hb')]
      exact (hf b hb).1
  done := by
    intro X hP hw hK hc i pins s σ H E I hf st hg
    subst hP hw hK
    obtain ⟨⟨old, he⟩, hit, hne, hea, hai⟩ := st
    obtain ⟨xs, hq, hx⟩ := hg
    obtain ⟨its, rv, p, hz⟩ := I.tuple hq
    obtain ⟨f0, f1, f2, f3, f4, f5⟩ := hf it (by simp)
    have hl := rv.length
    have hh : X.A.in1.handled = none := I.ok.hd hc
    have hi : i = its.toArray.size := by rw [List.size_toArray]; omega
    subst hi
    exact wpAny_pyNext_enum_endD (Draws.tuple hh it a hai its.toArray) he ⟨hit, p⟩ fun h' eb => ⟨rfl, I.turned (t' := s.toks) (fun b o hb q => eb b o hb q) f0 f1 f3 f4 f5⟩
  self := fun A i s Q E st h => let ⟨⟨_, he⟩, _⟩ := st; wpAny_pyIter_enum he h
def iEnumB (K : PySem.W.Frag) (ta : TA) : TI := fun σ H R => ta σ H fun vs H1 => ∃ a xs, vs = [.ref a] ∧ ((SqL K H1 a xs ∧ R (Ite K a) H1) ∨ (SqT K H1 a xs ∧ R (IteT K a) H1))
theorem pi_enumB {X : Cx} {e : Expr} {ta : TA} {p pos tpos : Pos} {elts : List Expr} {kk : Nat} (hg : Gl X "enumerate") (hm : X.mg "enumerate" = none) (ha : PA X [e] ta) (hs : starEach [e] X.env = [(false, eval e X.env)]) :
    PI X (.Tuple elts kk tpos) (.Call (.Name "enumerate" p) [e] [] pos) (iEnumB X.K ta) := by
  refine ⟨fun pins s σ H R I h => ?_⟩
  refine Call_ (ld_blt I hg hm boot_enumerate (PyProof.Rows.callWith_type1 (L2.thn (ha.run pos pins s σ H _ I h) fun us s1 ⟨vs, H1, I1, r1, q1⟩ => ?_) hs rfl))
  obtain ⟨a, xs, ex, q⟩ := q1
  subst ex
  cases r1 with
  | cons r rr =>
    cases rr
    cases r
    rcases q with ⟨hq, q⟩ | ⟨hq, q⟩
    · obtain ⟨its, rv, p', hz⟩ := I1.list hq
      refine call_enumerate_list p'.isList fun h' he hit hsz hk => wpAny_pyIter_enum he ?_
      have I2 : Inv X pins σ H1 { s1 with heap := h' } := I1.kept (t' := s1.toks) hk
      refine ⟨s1.heap.objs.size + 1, [s1.heap.objs.size + 1, s1.heap.objs.size], _, _, H1, rfl, I2, turn_enum a (s1.heap.objs.size + 1) s1.heap.objs.size, ⟨⟨.none, he⟩, hit, Nat.succ_ne_self _⟩, fun b hb => ?_, q⟩
      have e' : b = s1.heap.objs.size + 1 ∨ b = s1.heap.objs.size := by simpa using hb
      have hle : s1.heap.objs.size ≤ b := by
        rcases e' with z | z
        · rw [z]; exact Nat.le_add_right _ _
        · rw [z]; exact Nat.le_refl _
      exact I1.fpOk hle (I1.hok.fresh hle)
    · obtain ⟨its, rv, p', hz⟩ := I1.tuple hq
      have hal : a < s1.heap.objs.size := by obtain ⟨o, z, _⟩ := p'; exact Heap.lt_size z
      refine call_enum1 (begins_tuple a its.toArray) p' fun h' he hit hsz hk => wpAny_pyIter_enum he ?_
      have I2 : Inv X pins σ H1 { s1 with heap := h' } := I1.kept (t' := s1.toks) hk
      refine ⟨s1.heap.objs.size + 1, [s1.heap.objs.size + 1, s1.heap.objs.size], _, _, H1, rfl, I2, turn_enumT a (s1.heap.objs.size + 1) s1.heap.objs.size, ⟨⟨.none, he⟩, ⟨_, hit, rfl, rfl⟩, Nat.succ_ne_self _, Nat.ne_of_gt (Nat.lt_succ_of_lt hal), Nat.ne_of_lt hal⟩, fun b hb => ?_, q⟩
      have e' : b = s1.heap.objs.size + 1 ∨ b = s1.heap.objs.size := by simpa using hb
      have hle : s1.heap.objs.size ≤ b := by
        rcases e' with z | z
        · rw [z]; exact Nat.le_add_right _ _
        · rw [z]; exact Nat.le_refl _
      exact I1.fpOk hle (I1.hok.fresh hle)
end Ev

set_option Elab.async false
set_option linter.all false
set_option maxRecDepth 100000
set_option maxHeartbeats 1000000
/-! EvA: targets, what is walked over, comprehensions. -/
namespace Ev
open PySem PySem.Spec PyProof.Rows L2
section
variable {Wo : Wd} {F O : Hp} {ρ : Rho} {st : Sto} {H : Hp} {e : En} {σ : L2.St}
theorem upd_cases {G : Hp} {p a : Addr} {o u : HO} (h : upd G p o a = some u) : (a = p ∧ o = u) ∨ (a ≠ p ∧ G a = some u) := by
  by_cases e : a = p
  · subst e; rw [upd_same] at h; cases h; exact .inl ⟨rfl, rfl⟩
  · rw [upd_ne e] at h; exact .inr ⟨e, h⟩
/-- a new object of the body's own -/
theorem ownN (R : Rl Wo F O ρ st H) {p : Addr} (hp : H p = none) (x : HO) : Ext F O ρ H F (upd O p x) ρ (upd H p x) ∧ Rl Wo F (upd O p x) ρ st (upd H p x) := by
  have fp : F p = none := by
    cases q : F p with
    | none => rfl
    | some u => rw [R.fz p u q] at hp; cases hp
  have hh : ∀ a u, H a = some u → upd H p x a = some u := fun a u h => by rw [upd_ne (ne_of_none h hp)]; exact h
  refine ⟨⟨fun _ _ h => h, fun _ _ h => h, fun _ _ h => .inl h, fun _ _ h => .inl h, fun a u h => ?_, fun a u h _ _ => hh a u h, fun a u h => ⟨u, hh a u h⟩⟩, ⟨fun a u h => hh a u (R.fz a u h), fun n u h => ?_, R.inj, fun n a h => ?_, R.nx, fun a u h => ?_⟩⟩
  · rcases upd_cases h with ⟨rfl, rfl⟩ | ⟨_, h⟩
    · exact .inr hp
    · exact .inl ⟨u, h⟩
  · obtain ⟨a, y, h1, h2, h3⟩ := R.ob n u h
    exact ⟨a, y, h1, hh a y h2, h3⟩
  · obtain ⟨h1, y, h2⟩ := R.nf n a h
    exact ⟨h1, y, hh a y h2⟩
  · rcases upd_cases h with ⟨rfl, rfl⟩ | ⟨ne, h⟩
    · refine ⟨upd_same, fp, fun n z => ?_⟩
      obtain ⟨_, y, h2⟩ := R.nf n _ z
      rw [hp] at h2; cases h2
    · obtain ⟨h1, h2, h3⟩ := R.ow a u h
      exact ⟨hh a u h1, h2, h3⟩
/-- a body's own object is written -/
theorem ownW (R : Rl Wo F O ρ st H) {p : Addr} {u : HO} (hp : O p = some u) (x : HO) : Ext F O ρ H F (upd O p x) ρ (upd H p x) ∧ Rl Wo F (upd O p x) ρ st (upd H p x) := by
  obtain ⟨g1, fp, g3⟩ := R.ow p u hp
  have hh : ∀ a v, a ≠ p → H a = some v → upd H p x a = some v := fun a v n h => by rw [upd_ne n]; exact h
  refine ⟨⟨fun _ _ h => h, fun _ _ h => h, fun _ _ h => .inl h, fun _ _ h => .inl h, fun a v h => ?_, fun a v h ho _ => hh a v (fun z => by rw [z, hp] at ho; cases ho) h, fun a v h => ?_⟩, ⟨fun a v h => hh a v (fun z => by rw [z, fp] at h; cases h) (R.fz a v h), fun n v h => ?_, R.inj, fun n a h => ?_, R.nx, fun a v h => ?_⟩⟩
  · rcases upd_cases h with ⟨rfl, rfl⟩ | ⟨_, h⟩
    · exact .inl ⟨u, hp⟩
    · exact .inl ⟨v, h⟩
  · by_cases n : a = p
    · subst n; exact ⟨x, upd_same⟩
    · exact ⟨v, hh a v n h⟩
  · obtain ⟨a, y, h1, h2, h3⟩ := R.ob n v h
    exact ⟨a, y, h1, hh a y (fun z => g3 n (z ▸ h1)) h2, h3⟩
  · obtain ⟨h1, y, h2⟩ := R.nf n a h
    exact ⟨h1, y, hh a y (fun z => g3 n (z ▸ h)) h2⟩
  · rcases upd_cases h with ⟨rfl, rfl⟩ | ⟨ne, h⟩
    · exact ⟨upd_same, fp, g3⟩
    · obtain ⟨h1, h2, h3⟩ := R.ow a v h
      exact ⟨hh a v ne h1, h2, h3⟩
def del (O : Hp) (p : Addr) : Hp := fun a => if a = p then none else O a
theorem del_some {p a : Addr} {u : HO} (h : del O p a = some u) : a ≠ p ∧ O a = some u := by
  unfold del at h
  by_cases n : a = p
  · rw [if_pos n] at h; cases h
  · rw [if_neg n] at h; exact ⟨n, h⟩
/-- a body's own object is not to change from here on -/
theorem frzO (R : Rl Wo F O ρ st H) {p : Addr} {u : HO} (hp : O p = some u) : Ext F O ρ H (upd F p u) (del O p) ρ H ∧ Rl Wo (upd F p u) (del O p) ρ st H := by
  obtain ⟨g1, fp, g3⟩ := R.ow p u hp
  have ff : ∀ a v, F a = some v → upd F p u a = some v := fun a v h => by rw [upd_ne (ne_of_none h fp)]; exact h
  refine ⟨⟨ff, fun _ _ h => h, fun a v h => ?_, fun _ _ h => .inl h, fun a v h => .inl ⟨v, (del_some h).2⟩, fun a v h _ _ => h, fun a v h => ⟨v, h⟩⟩, ⟨fun a v h => ?_, fun n v h => ?_, R.inj, fun n a h => ?_, R.nx, fun a v h => ?_⟩⟩
  · rcases upd_cases h with ⟨rfl, rfl⟩ | ⟨_, h⟩
    · exact .inr (.inr ⟨u, hp⟩)
    · exact .inl h
  · rcases upd_cases h with ⟨rfl, rfl⟩ | ⟨_, h⟩
    · exact g1
    · exact R.fz a v h
  · obtain ⟨a, y, h1, h2, h3⟩ := R.ob n v h
    exact ⟨a, y, h1, h2, h3.later ff fun _ _ z => z⟩
  · obtain ⟨h1, y, h2⟩ := R.nf n a h
    refine ⟨?_, y, h2⟩
    rw [upd_ne (fun z : a = p => g3 n (z ▸ h))]; exact h1
  · obtain ⟨ne, h⟩ := del_some h
    obtain ⟨h1, h2, h3⟩ := R.ow a v h
    exact ⟨h1, by rw [upd_ne ne]; exact h2, h3⟩
theorem del_upd {p : Addr} {u : HO} (h : O p = none) : del (upd O p u) p = O := by
  funext a
  unfold del
  by_cases n : a = p
  · rw [if_pos n, n, h]
  · rw [if_neg n, upd_ne n]
theorem upd_upd {G : Hp} {p : Addr} {u v : HO} : upd (upd G p u) p v = upd G p v := by
  funext a
  by_cases n : a = p
  · rw [n, upd_same, upd_same]
  · rw [upd_ne n, upd_ne n, upd_ne n]
/-! ### slots -/
theorem En.at_set_same {y : Sl} : ∀ {e : En} {i : Nat}, i < e.length → (e.set i y).at i = y
  | [], _, h => by simp at h
  | x :: r, 0, _ => rfl
  | x :: r, n + 1, h => En.at_set_same (e := r) (Nat.lt_of_succ_lt_succ h)
theorem En.at_set_ne {y : Sl} : ∀ {e : En} {i j : Nat}, j ≠ i → (e.set i y).at j = e.at j
  | [], _, _, _ => rfl
  | x :: r, 0, 0, h => (h rfl).elim
  | x :: r, 0, j + 1, _ => rfl
  | x :: r, i + 1, 0, _ => rfl
  | x :: r, i + 1, j + 1, h => En.at_set_ne (e := r) (fun z => h (by rw [z]))
theorem En.len_set {y : Sl} : ∀ {e : En} {i : Nat}, (e.set i y).length = e.length
  | [], _ => rfl
  | x :: r, 0 => rfl
  | x :: r, n + 1 => congrArg (· + 1) (En.len_set (e := r))
theorem En.set_len {y : Sl} : ∀ {e : En} {i : Nat}, e.length ≤ i → e.set i y = e
  | [], _, _ => rfl
  | x :: r, 0, h => by simp at h
  | x :: r, n + 1, h => congrArg (x :: ·) (En.set_len (e := r) (Nat.le_of_succ_le_succ h))
theorem RE.at' (E : RE Wo F O ρ e σ) {j : Nat} {v : Option V} (h : σ[j]? = some v) : SR Wo F O ρ (e.at j) v := by
  have hj : j < σ.length := by
    by_cases c : j < σ.length
    · exact c
    · rw [List.getElem?_eq_none (by omega)] at h; cases h
  obtain ⟨u, h1, h2⟩ := E.at_ j hj
  rw [h] at h1; cases h1
  exact h2
theorem RE.set (E : RE Wo F O ρ e σ) {i : Nat} {y : Sl} {v : Option V} (h : SR Wo F O ρ y v) (hd : ∀ j a, y.isOwn = true → v = some (.ref a) → j ≠ i → (e.at j).isOwn = true → σ[j]? ≠ some (some (.ref a))) : RE Wo F O ρ (e.set i y) (σ.set i v) := by
  by_cases hi : i < σ.length
  · refine ⟨by rw [En.len_set, List.length_set]; exact E.len, fun j hj => ?_, fun j k a h1 h2 h3 h4 => ?_⟩
    · rw [List.length_set] at hj
      by_cases c : j = i
      · subst c
        exact ⟨v, by rw [List.getElem?_set_self hj], by rw [En.at_set_same (by rw [E.len]; exact hj)]; exact h⟩
      · obtain ⟨u, g1, g2⟩ := E.at_ j hj
        exact ⟨u, by rw [List.getElem?_set_ne (fun z => c z.symm)]; exact g1, by rw [En.at_set_ne c]; exact g2⟩
    · have hl : i < e.length := by rw [E.len]; exact hi
      by_cases c1 : j = i
      · by_cases c2 : k = i
        · rw [c1, c2]
        · subst c1
          rw [En.at_set_same hl] at h1
          rw [En.at_set_ne c2] at h2
          rw [List.getElem?_set_self hi] at h3
          rw [List.getElem?_set_ne (fun z => c2 z.symm)] at h4
          exact (hd k a h1 (by cases h3; rfl) c2 h2 h4).elim
      · by_cases c2 : k = i
        · subst c2
          rw [En.at_set_same hl] at h2
          rw [En.at_set_ne c1] at h1
          rw [List.getElem?_set_self hi] at h4
          rw [List.getElem?_set_ne (fun z => c1 z.symm)] at h3
          exact (hd j a h2 (by cases h4; rfl) c1 h1 h3).elim
        · rw [En.at_set_ne c1] at h1
          rw [En.at_set_ne c2] at h2
          rw [List.getElem?_set_ne (fun z => c1 z.symm)] at h3
          rw [List.getElem?_set_ne (fun z => c2 z.symm)] at h4
          exact E.dis j k a h1 h2 h3 h4
  · rw [En.set_len (by rw [E.len]; omega), List.set_eq_of_length_le (by omega)]
    exact E
theorem RE.val (E : RE Wo F O ρ e σ) {i : Nat} {d : D} {v : V} (h : DR Wo F ρ d v) : RE Wo F O ρ (e.set i (.val d)) (σ.set i (some v)) :=
  E.set ⟨v, rfl, h⟩ fun _ _ z => by cases z
theorem RE.wipe (E : RE Wo F O ρ e σ) : ∀ own : List Nat, RE Wo F O ρ (wipeE e own) (L2.wipe σ own)
  | [] => E
  | v :: vs => by
    unfold wipeE L2.wipe
    exact (RE.wipe E vs).set trivial fun _ _ z => by cases z
theorem wipe_at {x : Option V} {i : Nat} : ∀ {vs : List Nat} {σ : L2.St}, i ∈ vs → L2.wipe (σ.set i x) vs = L2.wipe σ vs
  | v :: vs, σ, h => by
    unfold L2.wipe
    by_cases c : i ∈ vs
    · rw [wipe_at c]
    · have hv : i = v := by
        rcases List.mem_cons.mp h with z | z
        · exact z
        · exact (c z).elim
      subst hv
      have go : ∀ {ws : List Nat} {τ : L2.St}, i ∉ ws → L2.wipe (τ.set i x) ws = (L2.wipe τ ws).set i x := fun {ws} => by
        induction ws with
        | nil => intro τ _; rfl
        | cons w ws ih =>
          intro τ hw
          simp only [List.mem_cons, not_or] at hw
          unfold L2.wipe
          rw [ih hw.2, List.set_comm _ _ (fun z => hw.1 (by rw [z]))]
      rw [go c, List.set_set]
/-! ### targets -/
def gTL (K : PySem.W.Frag) (n : Nat) (t : TGs) : TG := fun v σ H Q => gTup K n t v σ H Q ∨ gLst K n t v σ H Q
theorem pg_TL {X : Cx} {es : List Expr} {k : Nat} {pos : Pos} {t : TGs} {n : Nat} (hc : X.calm = true) (h : PGs X es t)
    (hn : (assignEach es X.env).length = n) (hst : (assignEach es X.env).findIdx? (·.1) = none) : PG X (.Tuple es k pos) (gTL X.K n t) :=
  ⟨fun pins s σ H v u Q I r hw => hw.elim (fun z => (pg_tup hc h hn hst).run pins s σ H v u Q I r z) fun z => (pg_lst hc h hn hst).run pins s σ H v u Q I r z⟩
mutual
def gOf (K : PySem.W.Frag) : Tn → TG
  | .nm i => gName i
  | .tp ts => gTL K ts.len (gsOf K ts)
def gsOf (K : PySem.W.Frag) : Tns → TGs
  | .nil => gNil
  | .cons t r => gCons (gOf K t) (gsOf K r)
def Tns.len : Tns → Nat
  | .nil => 0
  | .cons _ r => r.len + 1
end
mutual
def Tn.inn (vs : List Nat) : Tn → Bool
  | .nm i => vs.contains i
  | .tp ts => ts.inn vs
def Tns.inn (vs : List Nat) : Tns → Bool
  | .nil => true
  | .cons t r => t.inn vs && r.inn vs
end
theorem Tns.set_len : ∀ {ts : Tns} {ds : List D} {e e' : En}, ts.set ds e = some e' → ds.length = ts.len
  | .nil, [], _, _, _ => rfl
  | .nil, _ :: _, _, _, h => by simp [Tns.set] at h
  | .cons _ _, [], _, _, h => by simp [Tns.set] at h
  | .cons t r, x :: xs, e, e', h => by
    simp only [Tns.set] at h
    cases q : t.set x e with
    | none => rw [q] at h; cases h
    | some e1 => rw [q] at h; simp only [Tns.len, List.length_cons, Tns.set_len h]
mutual
theorem tg_ok (R : Rl Wo F O ρ st H) : ∀ (t : Tn) {e e' : En} {σ : L2.St} {d : D} {v : V} {Q : L2.St → Hp → Prop}, RE Wo F O ρ e σ → DR Wo F ρ d v → t.set d e = some e' → (∀ σ', RE Wo F O ρ e' σ' → (∀ vs, t.inn vs = true → L2.wipe σ' vs = L2.wipe σ vs) → Q σ' H) → gOf Wo.K t v σ H Q
  | .nm i, e, e', σ, d, v, Q, E, p, h, k => by
    simp only [Tn.set] at h
    cases h
    exact k _ (E.val p) fun vs hv => wipe_at (by simpa [Tn.inn] using hv)
  | .tp ts, e, e', σ, d, v, Q, E, p, h, k => by
    cases d with
    | tup xs =>
      simp only [Tn.set] at h
      obtain ⟨a, us, rfl, s1, t1⟩ := p
      exact .inl ⟨a, us, rfl, SqT.later R.fz s1, by rw [← t1.len]; exact Tns.set_len h, tgs_ok R ts E t1 h fun σ' E' hw => k σ' E' fun vs hv => hw vs (by simpa [Tn.inn] using hv)⟩
    | lst xs =>
      simp only [Tn.set] at h
      obtain ⟨a, us, rfl, s1, t1⟩ := p
      exact .inr ⟨a, us, rfl, (lsLater R.fz s1).sqL, by rw [← t1.len]; exact Tns.set_len h, tgs_ok R ts E t1 h fun σ' E' hw => k σ' E' fun vs hv => hw vs (by simpa [Tn.inn] using hv)⟩
    | _ => simp [Tn.set] at h
theorem tgs_ok (R : Rl Wo F O ρ st H) : ∀ (ts : Tns) {e e' : En} {σ : L2.St} {ds : List D} {us : List V} {Q : L2.St → Hp → Prop}, RE Wo F O ρ e σ → DRs Wo F ρ ds us → ts.set ds e = some e' → (∀ σ', RE Wo F O ρ e' σ' → (∀ vs, ts.inn vs = true → L2.wipe σ' vs = L2.wipe σ vs) → Q σ' H) → gsOf Wo.K ts us σ H Q
  | .nil, e, e', σ, ds, us, Q, E, p, h, k => by
    cases ds with
    | nil =>
      simp only [Tns.set] at h
      cases h
      cases p
      exact ⟨rfl, k _ E fun _ _ => rfl⟩
    | cons x xs => simp [Tns.set] at h
  | .cons t r, e, e', σ, ds, us, Q, E, p, h, k => by
    cases ds with
    | nil => simp [Tns.set] at h
    | cons x xs =>
      obtain ⟨v, vr, rfl, p1, p2⟩ := p
      simp only [Tns.set] at h
      cases q : t.set x e with
      | none => rw [q] at h; cases h
      | some e1 =>
        rw [q] at h
        refine ⟨v, vr, rfl, tg_ok R t E p1 q fun σ1 E1 w1 => tgs_ok R r E1 p2 h fun σ2 E2 w2 => k σ2 E2 fun vs hv => ?_⟩
        simp only [Tns.inn, Bool.and_eq_true] at hv
        rw [w2 vs hv.2, w1 vs hv.1]
end
/-! ### what is walked over -/
/-- one that is given: there already, or a new pair -/
def Yields (Wo : Wd) (F : Hp) (ρ : Rho) (d : D) (H : Hp) (x : V) (H' : Hp) : Prop :=
  (H' = H ∧ DR Wo F ρ d x) ∨ ∃ T a b va vb, d = .tup [a, b] ∧ x = .ref T ∧ H T = none ∧ H' = upd H T (.tup [va, vb]) ∧ DR Wo F ρ a va ∧ DR Wo F ρ b vb
theorem Yields.at {F1 O1 : Hp} {ρ1 : Rho} {d : D} {x : V} {H' : Hp} (y : Yields Wo F ρ d H x H') (hf : ∀ a o, F a = some o → F1 a = some o) (hr : ∀ n a, ρ n = some a → ρ1 n = some a) (R : Rl Wo F1 O1 ρ1 st H) :
    ∃ F2, Ext F1 O1 ρ1 H F2 O1 ρ1 H' ∧ Rl Wo F2 O1 ρ1 st H' ∧ DR Wo F2 ρ1 d x := by
  rcases y with ⟨rfl, p⟩ | ⟨T, a, b, va, vb, rfl, rfl, hT, rfl, pa, pb⟩
  · exact ⟨F1, Ext.refl, R, p.later hf hr⟩
  · obtain ⟨X', R'⟩ := laid R hT (.tup [va, vb])
    exact ⟨_, X', R', T, [va, vb], rfl, .inl (.inl upd_same), va, [vb], rfl, (pa.later hf hr).later X'.f X'.r, vb, [], rfl, (pb.later hf hr).later X'.f X'.r, rfl⟩
def WalkD (Wo : Wd) (F : Hp) (ρ : Rho) (ds : List D) (J : It) : Prop :=
  ∃ G Y, Walk J ds.length G Y ∧ (∀ F1 O1 ρ1 st1 H1, (∀ a o, F a = some o → F1 a = some o) → Rl Wo F1 O1 ρ1 st1 H1 → G H1) ∧ ∀ i H x H', i < ds.length → Y i H x H' → ∃ d, ds[i]? = some d ∧ Yields Wo F ρ d H x H'
theorem DRs.at2 {ds : List D} {vs : List V} {i : Nat} {v : V} (h : DRs Wo F ρ ds vs) (e : vs[i]? = some v) : ∃ d, ds[i]? = some d ∧ DR Wo F ρ d v := by
  have hi : i < ds.length := by
    rw [h.len]
    by_cases c : i < vs.length
    · exact c
    · rw [List.getElem?_eq_none (by omega)] at e; cases e
  obtain ⟨u, h1, h2⟩ := h.at (List.getElem?_eq_getElem hi)
  rw [e] at h1; cases h1
  exact ⟨_, List.getElem?_eq_getElem hi, h2⟩
theorem walkD_list {a : Addr} {ds : List D} {vs : List V} (h : LsT Wo.K F a vs) (t : DRs Wo F ρ ds vs) : WalkD Wo F ρ ds (Itl Wo.K a) :=
  ⟨_, _, by rw [t.len]; exact walk_list (xs := vs), fun F1 O1 ρ1 st1 H1 hf R => (lsLater (fun a o z => R.fz a o (hf a o z)) h).sqL, fun i H x H' _ y => by
    obtain ⟨d, h1, h2⟩ := t.at2 y.2
    exact ⟨d, h1, .inl ⟨y.1, h2⟩⟩⟩
theorem walkD_tup {a : Addr} {ds : List D} {vs : List V} (h : SqT Wo.K F a vs) (t : DRs Wo F ρ ds vs) : WalkD Wo F ρ ds (Itt Wo.K a) :=
  ⟨_, _, by rw [t.len]; exact walk_tup (xs := vs), fun F1 O1 ρ1 st1 H1 hf R => SqT.later (fun a o z => R.fz a o (hf a o z)) h, fun i H x H' _ y => by
    obtain ⟨d, h1, h2⟩ := t.at2 y.2
    exact ⟨d, h1, .inl ⟨y.1, h2⟩⟩⟩
theorem walkD_str {x : Str} (h : PyData.strOk x = true) : WalkD Wo F ρ (x.cps.toList.map fun c => .str ⟨#[c]⟩) (Its x) :=
  ⟨_, _, by rw [List.length_map, Array.length_toList]; exact walk_str, fun _ _ _ _ _ _ _ => trivial, fun i H v H' hi y => by
    obtain ⟨h1, c, h2, h3⟩ := y
    have h4 : x.cps.toList[i]? = some c := by rw [Array.getElem?_toList]; exact h2
    refine ⟨.str ⟨#[c]⟩, by rw [List.getElem?_map, h4]; rfl, .inl ⟨h1, h3, strOk_one h (List.mem_of_getElem? h4)⟩⟩⟩
theorem walkD_range {lo : Int} {n : Nat} : WalkD Wo F ρ ((List.range n).map fun (i : Nat) => .int (lo + i)) (Itr lo n) :=
  ⟨_, _, by rw [List.length_map, List.length_range]; exact walk_range, fun _ _ _ _ _ _ _ => trivial, fun i H v H' hi y => by
    rw [List.length_map, List.length_range] at hi
    refine ⟨.int (lo + i), by rw [List.getElem?_map, List.getElem?_range hi]; rfl, .inl ⟨y.1, y.2⟩⟩⟩
theorem walkD_enum {a : Addr} {ds : List D} {vs : List V} (h : LsT Wo.K F a vs) (t : DRs Wo F ρ ds vs) : WalkD Wo F ρ (ds.zipIdx.map fun p => .tup [.int (p.2 : Nat), p.1]) (Ite Wo.K a) :=
  ⟨_, _, by rw [List.length_map, List.length_zipIdx, t.len]; exact walk_enum (xs := vs), fun F1 O1 ρ1 st1 H1 hf R => (lsLater (fun a o z => R.fz a o (hf a o z)) h).sqL, fun i H x H' _ y => by
    obtain ⟨T, x1, y1, h1, h2, h3, h4, h5⟩ := y
    obtain ⟨d, g1, g2⟩ := t.at2 h5
    cases h4
    refine ⟨.tup [.int i, d], by rw [List.getElem?_map, List.getElem?_zipIdx, g1]; simp, .inr ⟨T, .int i, d, _, _, rfl, h1, h2, h3, rfl, g2⟩⟩⟩
theorem walkD_enumT {a : Addr} {ds : List D} {vs : List V} (h : SqT Wo.K F a vs) (t : DRs Wo F ρ ds vs) : WalkD Wo F ρ (ds.zipIdx.map fun p => .tup [.int (p.2 : Nat), p.1]) (IteT Wo.K a) :=
  ⟨_, _, by rw [List.length_map, List.length_zipIdx, t.len]; exact walk_enumT (xs := vs), fun F1 O1 ρ1 st1 H1 hf R => SqT.later (fun a o z => R.fz a o (hf a o z)) h, fun i H x H' _ y => by
    obtain ⟨T, x1, y1, h1, h2, h3, h4, h5⟩ := y
    obtain ⟨d, g1, g2⟩ := t.at2 h5
    cases h4
    refine ⟨.tup [.int i, d], by rw [List.getElem?_map, List.getElem?_zipIdx, g1]; simp, .inr ⟨T, .int i, d, _, _, rfl, h1, h2, h3, rfl, g2⟩⟩⟩
theorem walkD_zip {a b : Addr} {ds es : List D} {vs us : List V} (h : LsT Wo.K F a vs) (t : DRs Wo F ρ ds vs) (h' : LsT Wo.K F b us) (t' : DRs Wo F ρ es us) : WalkD Wo F ρ ((ds.zip es).map fun p => .tup [p.1, p.2]) (Itz Wo.K a b) :=
  ⟨fun H => SqL Wo.K H a vs ∧ SqL Wo.K H b us, YPair (fun i => vs[i]?) (fun i => us[i]?), by rw [List.length_map, List.length_zip, t.len, t'.len]; exact walk_zip (K := Wo.K) (a := a) (b := b) (xs := vs) (ys := us) rfl, fun F1 O1 ρ1 st1 H1 hf R => ⟨(lsLater (fun a o z => R.fz a o (hf a o z)) h).sqL, (lsLater (fun a o z => R.fz a o (hf a o z)) h').sqL⟩, fun i H x H' _ y => by
    obtain ⟨T, x1, y1, h1, h2, h3, h4, h5⟩ := y
    obtain ⟨d, g1, g2⟩ := t.at2 h4
    obtain ⟨d', g3, g4⟩ := t'.at2 h5
    refine ⟨.tup [d, d'], ?_, .inr ⟨T, d, d', _, _, rfl, h1, h2, h3, g2, g4⟩⟩
    have g5 : (ds.zip es)[i]? = some (d, d') := by rw [List.getElem?_zip_eq_some]; exact ⟨g1, g3⟩
    rw [List.getElem?_map, g5]; rfl⟩
end
/-- the reading of what is walked over -/
def okI (Wo : Wd) (W : WX) (σ : L2.St) (F O : Hp) (ρ : Rho) (H : Hp) (r : R (List D)) (Q : L2.It → Hp → Prop) : Prop := match r with
  | .ok ds st' => ∀ F' ρ' H' J, Ext F O ρ H F' O ρ' H' → Rl Wo F' O ρ' st' H' → WalkD Wo F' ρ' ds J → Q J H'
  | .ex x st' => ∀ cls dx F' ρ' H', Ext F O ρ H F' O ρ' H' → Rl Wo F' O ρ' st' H' → XR Wo F' ρ' x cls dx H' → W cls dx σ H'
  | .no => False
def tI (Wo : Wd) (W : WX) (m : En → M (List D)) : TI := fun σ H Q => ∃ F O ρ e st, Rl Wo F O ρ st H ∧ RE Wo F O ρ e σ ∧ okI Wo W σ F O ρ H (m e st) Q
section
variable {X : Cx} {ca : Nat → Addr} {W : WX} {F O : Hp} {ρ : Rho} {st : Sto} {H : Hp} {e : En} {σ : L2.St}
theorem okI.bnd {Wo : Wd} {α γ : Type} {P : Hp → Rho → α → γ → Prop} {m : M α} {f : α → M (List D)} {Q : L2.It → Hp → Prop} {Q1 : γ → Hp → Prop}
    (h : okI Wo W σ F O ρ H (Ev.bnd m f st) Q)
    (k : ∀ d st' v F' ρ' H', Ext F O ρ H F' O ρ' H' → Rl Wo F' O ρ' st' H' → P F' ρ' d v → okI Wo W σ F' O ρ' H' (f d st') Q → Q1 v H') : okA P Wo W σ F O ρ H (m st) Q1 := by
  unfold Ev.bnd at h
  cases r : m st with
  | ok d st' =>
    rw [r] at h
    intro v F' ρ' H' X R' p
    refine k d st' v F' ρ' H' X R' p ?_
    have h : okI Wo W σ F O ρ H (f d st') Q := h
    cases r2 : f d st' with
    | ok d2 st2 =>
      rw [r2] at h
      exact fun F2 ρ2 H2 J X2 R2 p2 => h F2 ρ2 H2 J (X.trans X2) R2 p2
    | ex x st2 =>
      rw [r2] at h
      exact fun cls dx F2 ρ2 H2 X2 R2 p2 => h cls dx F2 ρ2 H2 (X.trans X2) R2 p2
    | no => rw [r2] at h; exact h
  | ex x st' => rw [r] at h; exact h
  | no => rw [r] at h; exact h
theorem tI.bnd {Wo : Wd} {α γ : Type} {P : Hp → Hp → Rho → α → γ → Prop} {m : En → M α} {f : En → α → M (List D)} {Q : L2.It → Hp → Prop} {Q1 : γ → Hp → Prop} (h : tI Wo W (fun e => Ev.bnd (m e) (f e)) σ H Q)
    (k : ∀ F O ρ e d st v H', Rl Wo F O ρ st H' → RE Wo F O ρ e σ → P F O ρ d v → okI Wo W σ F O ρ H' (f e d st) Q → Q1 v H') : tA Wo W P m σ H Q1 := by
  obtain ⟨F, O, ρ, e, st, R, E, h⟩ := h
  exact ⟨F, O, ρ, e, st, R, E, okI.bnd h fun d st' v F' ρ' H' X R' p q => k F' O ρ' e d st' v H' R' (E.later X) p q⟩
theorem ri_seq {tg l : Expr} {m : En → M D} (hl : PE X l (tE (wd X ca) W m)) : PI X tg l (tI (wd X ca) W fun e => bnd (m e) items) := ⟨fun pins s σ H Q I h => by
  obtain ⟨F, O, ρ, e, st, R, E, h⟩ := h
  have g := okI.bnd (P := fun F' ρ' => DR (wd X ca) F' ρ') (Q1 := fun v H' => ∃ d, ∃ st' F' ρ', m e st = .ok d st' ∧ Rl (wd X ca) F' O ρ' st' H' ∧ DR (wd X ca) F' ρ' d v ∧ okI (wd X ca) W σ F' O ρ' H' (items d st') Q) h
  dsimp only [bnd] at h
  cases q : m e st with
  | ok d st' =>
    rw [q] at h
    have h : okI (wd X ca) W σ F O ρ H (items d st') Q := h
    cases d with
    | lst xs =>
      refine (pi_list hl).run pins s σ H Q I ⟨F, O, ρ, e, st, R, E, ?_⟩
      rw [q]
      intro v F' ρ' H' X' R' p
      obtain ⟨a, vs, e1, s1, t1⟩ := p
      exact ⟨a, e1, ⟨vs, (lsLater R'.fz s1).sqL⟩, h F' ρ' H' _ X' R' (walkD_list s1 t1)⟩
    | tup xs =>
      refine (pi_tup hl).run pins s σ H Q I ⟨F, O, ρ, e, st, R, E, ?_⟩
      rw [q]
      intro v F' ρ' H' X' R' p
      obtain ⟨a, vs, e1, s1, t1⟩ := p
      exact ⟨a, e1, ⟨vs, SqT.later R'.fz s1⟩, h F' ρ' H' _ X' R' (walkD_tup s1 t1)⟩
    | str x =>
      refine (pi_str hl).run pins s σ H Q I ⟨F, O, ρ, e, st, R, E, ?_⟩
      rw [q]
      intro v F' ρ' H' X' R' p
      exact ⟨x, p.1, h F' ρ' H' _ X' R' (walkD_str p.2)⟩
    | _ => exact h.elim
  | ex x s1 =>
    rw [q] at h
    refine (pi_list hl).run pins s σ H Q I ⟨F, O, ρ, e, st, R, E, ?_⟩
    rw [q]
    exact h
  | no => rw [q] at h; exact h.elim⟩
def rng1 (d : D) : M (List D) := match d with
  | .int j => rngD 0 j
  | _ => no
def rng2 (x y : D) : M (List D) := match x, y with
  | .int i, .int j => rngD i j
  | _, _ => no
theorem _root_.L2.PI.imp {tg it : Expr} {t u : TI} (h : PI X tg it t) (k : ∀ σ H Q, u σ H Q → t σ H Q) : PI X tg it u := ⟨fun pins s σ H Q I q => h.run pins s σ H Q I (k σ H Q q)⟩
theorem rngD_is {Wo : Wd} {lo hi : Int} {Q : L2.It → Hp → Prop} (h : okI Wo W σ F O ρ H (rngD lo hi st) Q) (R : Rl Wo F O ρ st H) : -(2 ^ 62) ≤ lo ∧ lo < 2 ^ 62 ∧ -(2 ^ 62) ≤ hi ∧ hi < 2 ^ 62 ∧ Q (Itr lo (hi - lo).toNat) H := by
  unfold rngD at h
  by_cases c : -(2 ^ 62) ≤ lo ∧ lo < 2 ^ 62 ∧ -(2 ^ 62) ≤ hi ∧ hi < 2 ^ 62
  · rw [if_pos c] at h
    exact ⟨c.1, c.2.1, c.2.2.1, c.2.2.2, h F ρ H _ Ext.refl R walkD_range⟩
  · rw [if_neg c] at h; exact h.elim
/-- one argument, then what is made of it -/
theorem tI_one {Wo : Wd} {m : En → M D} {f : D → M (List D)} {Q : L2.It → Hp → Prop} (h : tI Wo W (fun e => Ev.bnd (m e) f) σ H Q) :
    tPs Wo W (fun e => Ev.bnd (m e) fun d => Ev.bnd (ret []) fun ds => ret (d :: ds)) σ H fun vs H' => ∃ F O ρ d st v, vs = [v] ∧ Rl Wo F O ρ st H' ∧ PR Wo F O ρ d v ∧ okI Wo W σ F O ρ H' (f d st) Q := by
  obtain ⟨F, O, ρ, e, st, R, E, h⟩ := h
  refine ⟨F, O, ρ, e, st, R, E, ?_⟩
  have g := okI.bnd (P := fun F' ρ' => PR Wo F' O ρ') (Q1 := fun v H' => ∃ F O ρ d st, Rl Wo F O ρ st H' ∧ PR Wo F O ρ d v ∧ okI Wo W σ F O ρ H' (f d st) Q) h fun d st' v F' ρ' H' X' R' p q => ⟨F', O, ρ', d, st', R', p, q⟩
  dsimp only [Ev.bnd]
  cases q : m e st with
  | ok d s1 =>
    rw [q] at g
    intro v F' ρ' H' X' R' p
    obtain ⟨u, ur, rfl, p1, t⟩ := p
    cases t
    obtain ⟨F1, O1, ρ1, d1, st1, g1, g2, g3⟩ := g u F' ρ' H' X' R' p1
    exact ⟨F1, O1, ρ1, d1, st1, u, rfl, g1, g2, g3⟩
  | ex x s1 => rw [q] at g; exact g
  | no => rw [q] at g; exact g
theorem tI_two {Wo : Wd} {m n : En → M D} {f : D → D → M (List D)} {Q : L2.It → Hp → Prop} (h : tI Wo W (fun e => Ev.bnd (m e) fun x => Ev.bnd (n e) fun y => f x y) σ H Q) :
    tEs Wo W (fun e => Ev.bnd (m e) fun d => Ev.bnd (Ev.bnd (n e) fun d => Ev.bnd (ret []) fun ds => ret (d :: ds)) fun ds => ret (d :: ds)) σ H fun vs H' => ∃ F O ρ d d' st v v', vs = [v, v'] ∧ Rl Wo F O ρ st H' ∧ DR Wo F ρ d v ∧ DR Wo F ρ d' v' ∧ okI Wo W σ F O ρ H' (f d d' st) Q := by
  obtain ⟨F, O, ρ, e, st, R, E, h⟩ := h
  refine ⟨F, O, ρ, e, st, R, E, ?_⟩
  dsimp only [Ev.bnd] at h ⊢
  cases q : m e st with
  | ok d s1 =>
    rw [q] at h
    dsimp only at h ⊢
    cases q2 : n e s1 with
    | ok d' s2 =>
      rw [q2] at h
      intro v F' ρ' H' X' R' p
      obtain ⟨u, ur, rfl, p1, u', ur', rfl, p2, t⟩ := p
      cases t
      have h : okI Wo W σ F O ρ H (f d d' s2) Q := h
      refine ⟨F', O, ρ', d, d', s2, u, u', rfl, R', p1, p2, ?_⟩
      cases r2 : f d d' s2 with
      | ok d2 st2 =>
        rw [r2] at h
        exact fun F2 ρ2 H2 J X2 R2 p2 => h F2 ρ2 H2 J (X'.trans X2) R2 p2
      | ex x st2 =>
        rw [r2] at h
        exact fun cls dx F2 ρ2 H2 X2 R2 p2 => h cls dx F2 ρ2 H2 (X'.trans X2) R2 p2
      | no => rw [r2] at h; exact h
    | ex x s2 => rw [q2] at h; exact h
    | no => rw [q2] at h; exact h
  | ex x s1 => rw [q] at h; exact h
  | no => rw [q] at h; exact h
theorem okA.imp {Wo : Wd} {α γ : Type} {P : Hp → Rho → α → γ → Prop} {r : R α} {Q Q' : γ → Hp → Prop} {σ : L2.St} {F O : Hp} {ρ : Rho} {H : Hp} (h : okA P Wo W σ F O ρ H r Q) (k : ∀ v H', Q v H' → Q' v H') : okA P Wo W σ F O ρ H r Q' := by
  cases r with
  | ok d s => exact fun v F' ρ' H' X' R' p => k v H' (h v F' ρ' H' X' R' p)
  | ex x s => exact h
  | no => exact h
theorem ri_rng {tg a : Expr} {p pos : Pos} {m : En → M D} (hn : ns a = true) (hg : Gl X "range") (hm : X.mg "range" = none) (ha : PE X a (tP (wd X ca) W m)) : PI X tg (.Call (.Name "range" p) [a] [] pos) (tI (wd X ca) W fun e => bnd (m e) rng1) :=
  (pi_range1 hg hm (rq_cons hn ha rq_nil) (by rw [star_cons hn]; rfl)).imp fun σ H Q h => by
    obtain ⟨F, O, ρ, e, st, R, E, g⟩ := tI_one h
    refine ⟨F, O, ρ, e, st, R, E, okA.imp g fun vs H1 ⟨F, O, ρ, d, st, v, e1, R1, p1, h1⟩ => ?_⟩
    cases d with
    | int j =>
      have p1 : v = .int j := p1
      obtain ⟨_, _, h3, h4, h5⟩ := rngD_is (lo := 0) (hi := j) h1 R1
      rw [Int.sub_zero] at h5
      exact ⟨j, by rw [e1, p1], h3, h4, h5⟩
    | _ => exact h1.elim
theorem ri_rng2 {tg a b : Expr} {p pos : Pos} {m n : En → M D} (ha1 : ns a = true) (hb1 : ns b = true) (hg : Gl X "range") (hm : X.mg "range" = none) (ha : PE X a (tE (wd X ca) W m)) (hb : PE X b (tE (wd X ca) W n)) :
    PI X tg (.Call (.Name "range" p) [a, b] [] pos) (tI (wd X ca) W fun e => bnd (m e) fun x => bnd (n e) fun y => rng2 x y) :=
  (pi_range2 hg hm (rs_cons ha1 ha (rs_cons hb1 hb rs_nil)) (by rw [star_cons ha1, star_cons hb1]; rfl) (by rw [star_cons hb1]; rfl)).imp fun σ H Q h => by
    obtain ⟨F, O, ρ, e, st, R, E, g⟩ := tI_two h
    refine ⟨F, O, ρ, e, st, R, E, okA.imp g fun vs H1 ⟨F, O, ρ, d, d', st, v, v', e1, R1, p1, p2, h1⟩ => ?_⟩
    cases d with
    | int i =>
      cases d' with
      | int j =>
        have p1 : v = .int i := p1
        have p2 : v' = .int j := p2
        obtain ⟨g1, g2, h3, h4, h5⟩ := rngD_is (lo := i) (hi := j) h1 R1
        exact ⟨i, j, by rw [e1, p1, p2], ⟨g1, g2, h3, h4⟩, h5⟩
      | _ => exact h1.elim
    | _ => exact h1.elim
theorem ri_enu {elts : List Expr} {kk : Nat} {a : Expr} {p pos tpos : Pos} {m : En → M D} (hn : ns a = true) (hg : Gl X "enumerate") (hm : X.mg "enumerate" = none) (ha : PE X a (tE (wd X ca) W m)) :
    PI X (.Tuple elts kk tpos) (.Call (.Name "enumerate" p) [a] [] pos) (tI (wd X ca) W fun e => bnd (m e) enuD) :=
  (pi_enumB hg hm (rs_cons hn ha rs_nil) (by rw [star_cons hn]; rfl)).imp fun σ H Q h => by
    obtain ⟨F, O, ρ, e, st, R, E, h⟩ := h
    refine ⟨F, O, ρ, e, st, R, E, ?_⟩
    have g := okI.bnd (P := fun F' ρ' => DR (wd X ca) F' ρ') (Q1 := fun v H' => ∃ F O ρ d st, Rl (wd X ca) F O ρ st H' ∧ DR (wd X ca) F ρ d v ∧ okI (wd X ca) W σ F O ρ H' (enuD d st) Q) h fun d st' v F' ρ' H' X' R' p q => ⟨F', O, ρ', d, st', R', p, q⟩
    have fin : ∀ u H1, (∃ F O ρ d st, Rl (wd X ca) F O ρ st H1 ∧ DR (wd X ca) F ρ d u ∧ okI (wd X ca) W σ F O ρ H1 (enuD d st) Q) → ∃ a xs, [u] = [V.ref a] ∧ ((SqL X.K H1 a xs ∧ Q (Ite X.K a) H1) ∨ (SqT X.K H1 a xs ∧ Q (IteT X.K a) H1)) := fun u H1 ⟨F, O, ρ, d, st, R1, p1, h1⟩ => by
      cases d with
      | lst xs =>
        obtain ⟨b, vs, rfl, s1, t1⟩ := p1
        exact ⟨b, vs, rfl, .inl ⟨(lsLater R1.fz s1).sqL, h1 F ρ H1 _ Ext.refl R1 (walkD_enum s1 t1)⟩⟩
      | tup xs =>
        obtain ⟨b, vs, rfl, s1, t1⟩ := p1
        exact ⟨b, vs, rfl, .inr ⟨SqT.later R1.fz s1, h1 F ρ H1 _ Ext.refl R1 (walkD_enumT s1 t1)⟩⟩
      | _ => exact h1.elim
    dsimp only [Ev.bnd]
    cases q : m e st with
    | ok d s1 =>
      rw [q] at g
      intro v F' ρ' H' X' R' p
      obtain ⟨u, ur, rfl, p1, t⟩ := p
      cases t
      exact fin u H' (g u F' ρ' H' X' R' p1)
    | ex x s1 => rw [q] at g; exact g
    | no => rw [q] at g; exact g
theorem ri_zip {elts : List Expr} {kk : Nat} {a b : Expr} {p pos tpos : Pos} {m n : En → M D} (ha1 : ns a = true) (hb1 : ns b = true) (hg : Gl X "zip") (hm : X.mg "zip" = none) (ha : PE X a (tE (wd X ca) W m)) (hb : PE X b (tE (wd X ca) W n)) :
    PI X (.Tuple elts kk tpos) (.Call (.Name "zip" p) [a, b] [] pos) (tI (wd X ca) W fun e => bnd (m e) fun x => bnd (n e) fun y => zipD x y) :=
  (pi_zip hg hm (rs_cons ha1 ha (rs_cons hb1 hb rs_nil)) (star_cons ha1) (by rw [star_cons hb1]; rfl)).imp fun σ H Q h => by
    obtain ⟨F, O, ρ, e, st, R, E, g⟩ := tI_two h
    refine ⟨F, O, ρ, e, st, R, E, okA.imp g fun vs H1 ⟨F, O, ρ, d, d', st, v, v', e1, R1, p1, p2, h1⟩ => ?_⟩
    cases d with
    | lst xs =>
      cases d' with
      | lst ys =>
        obtain ⟨a1, vs1, rfl, s1, t1⟩ := p1
        obtain ⟨a2, vs2, rfl, s2, t2⟩ := p2
        exact ⟨a1, a2, vs1, vs2, e1, (lsLater R1.fz s1).sqL, (lsLater R1.fz s2).sqL, h1 F ρ H1 _ Ext.refl R1 (walkD_zip s1 t1 s2 t2)⟩
      | _ => exact h1.elim
    | _ => exact h1.elim
end
end Ev

set_option Elab.async false
set_option linter.all false
set_option maxRecDepth 100000
set_option maxHeartbeats 1000000
/-! EvB: comprehensions, dict displays. -/
namespace Ev
open PySem PySem.Spec PyProof.Rows L2
abbrev W0 : WX := fun _ _ _ _ => False
section
variable {Wo : Wd} {F O : Hp} {ρ : Rho} {st : Sto} {H : Hp} {e : En} {σ : L2.St}
theorem SR.mono {F' O' : Hp} {ρ' : Rho} {s : Sl} {v : Option V} (hf : ∀ a o, F a = some o → F' a = some o) (hr : ∀ n a, ρ n = some a → ρ' n = some a) (ho : ∀ a o, O a = some o → O' a = some o) (h : SR Wo F O ρ s v) : SR Wo F' O' ρ' s v := by
  cases s with
  | no => trivial
  | val d => obtain ⟨u, e, q⟩ := h; exact ⟨u, e, q.later hf hr⟩
  | own xs => obtain ⟨a, vs, e, o, q⟩ := h; exact ⟨a, vs, e, ho _ _ o, q.later hf hr⟩
  | owd xs => obtain ⟨a, vs, e, o, q⟩ := h; exact ⟨a, vs, e, ho _ _ o, q.later hf hr⟩
theorem RE.mono {F' O' : Hp} {ρ' : Rho} (hf : ∀ a o, F a = some o → F' a = some o) (hr : ∀ n a, ρ n = some a → ρ' n = some a) (ho : ∀ a o, O a = some o → O' a = some o) (E : RE Wo F O ρ e σ) : RE Wo F' O' ρ' e σ :=
  ⟨E.len, fun i hi => let ⟨v, a, b⟩ := E.at_ i hi; ⟨v, a, b.mono hf hr ho⟩, E.dis⟩
theorem Rl.own_none (R : Rl Wo F O ρ st H) {p : Addr} (hp : H p = none) : O p = none := by
  cases q : O p with
  | none => rfl
  | some u => rw [(R.ow p u q).1] at hp; cases hp
theorem upd_ext {G : Hp} {p : Addr} {x : HO} (h : G p = none) : ∀ a o, G a = some o → upd G p x a = some o := fun a o z => by rw [upd_ne (ne_of_none z h)]; exact z
theorem wipe_twice {own : List Nat} : L2.wipe (L2.wipe σ own) own = L2.wipe σ own := by
  have go : ∀ ws : List Nat, (∀ v ∈ ws, v ∈ own) → L2.wipe (L2.wipe σ ws) own = L2.wipe σ own := fun ws => by
    induction ws with
    | nil => intro _; rfl
    | cons v ws ih =>
      intro h
      show L2.wipe ((L2.wipe σ ws).set v none) own = _
      rw [wipe_at (h v List.mem_cons_self), ih fun x hx => h x (List.mem_cons_of_mem _ hx)]
  exact go own fun _ h => h
theorem lc_gen {W : WX} {own : List Nat} {t : Tn} {mi : En → M (List D)} {mc : En → M Bool} {me : En → M D} {Q : VK} (ht : t.inn own = true) (R : Rl Wo F O ρ st H) (E : RE Wo F O ρ e σ) (OK : Ev.R (List D) → Prop) (hno : ¬ OK .no) (hm : mi e st ≠ .no)
    (hx : ∀ x s', mi e st = .ex x s' → ∀ cls dx F' ρ' H', Ext F O ρ H F' O ρ' H' → Rl Wo F' O ρ' s' H' → XR Wo F' ρ' x cls dx H' → W cls dx σ H') (h : ∀ ds st1, mi e st = .ok ds st1 → OK (lcL t (wipeE e own) mc me ds [] st1))
    (fin : ∀ acc st2 F2 ρ2 H2 vacc p, OK (.ok acc st2) → O p = none → Ext F O ρ H F2 (upd O p (.lst vacc)) ρ2 H2 → Rl Wo F2 (upd O p (.lst vacc)) ρ2 st2 H2 → DRs Wo F2 ρ2 acc vacc → Q (.ref p) H2) :
    tLc (tI Wo W mi) (gOf Wo.K t) (tT Wo W0 mc) (tE Wo W0 me) own σ H Q := by
  refine ⟨F, O, ρ, e, st, R, E, ?_⟩
  cases r : mi e st with
  | ex x s1 => exact hx x s1 r
  | no => exact (hm r).elim
  | ok ds st1 =>
    have h := h ds st1 r
    intro F1 ρ1 H1 J X1 R1 wk p hp
    obtain ⟨G, Y, w, hG, hY⟩ := wk
    have op : O p = none := R1.own_none hp
    refine lc_it w (fun i H2 => ∃ F2 ρ2 st2 acc vacc, Ext F O ρ H F2 (upd O p (.lst vacc)) ρ2 H2 ∧ (∀ a o, F1 a = some o → F2 a = some o) ∧ (∀ n a, ρ1 n = some a → ρ2 n = some a) ∧ Rl Wo F2 (upd O p (.lst vacc)) ρ2 st2 H2 ∧ DRs Wo F2 ρ2 acc vacc ∧
      OK (lcL t (wipeE e own) mc me (ds.drop i) acc st2)) ?_ ?_ ?_ ?_
    · obtain ⟨X2, R2⟩ := ownN R1 hp (.lst [])
      exact ⟨F1, ρ1, st1, [], [], X1.trans X2, fun _ _ z => z, fun _ _ z => z, R2, rfl, h⟩
    · rintro i H2 _ ⟨F2, ρ2, st2, acc, vacc, X2, hf, hr, R2, p2, h2⟩
      exact hG F2 _ ρ2 st2 H2 hf R2
    · rintro i x H2 H' hi ⟨F2, ρ2, st2, acc, vacc, X2, hf, hr, R2, p2, h2⟩ y
      obtain ⟨d, hd, y⟩ := hY i H2 x H' hi y
      obtain ⟨F3, X3, R3, p3⟩ := y.at hf hr R2
      have X23 := X2.trans X3
      have E3 : RE Wo F3 (upd O p (.lst vacc)) ρ2 e σ := E.mono X23.f X23.r (upd_ext op)
      have hdr : ds.drop i = d :: ds.drop (i + 1) := by
        obtain ⟨hi2, e2⟩ := List.getElem?_eq_some_iff.mp hd
        rw [← e2]; exact List.drop_eq_getElem_cons hi2
      rw [hdr] at h2
      unfold lcL at h2
      cases hs : t.set d (wipeE e own) with
      | none => rw [hs] at h2; exact (hno h2).elim
      | some e' =>
        rw [hs] at h2
        refine tg_ok R3 t (E3.wipe own) p3 hs fun σ2 E2 hw => ⟨(hw own ht).trans wipe_twice, ?_⟩
        refine ⟨F3, _, ρ2, e', st2, R3, E2, ?_⟩
        dsimp only [Ev.bnd, nox] at h2
        cases r1 : mc e' st2 with
        | ex x s1 => rw [r1] at h2; exact (hno h2).elim
        | no => rw [r1] at h2; exact (hno h2).elim
        | ok b st3 =>
          rw [r1] at h2
          intro b' F4 ρ4 H4 X4 R4 eb
          have eb : b' = b := eb
          subst eb
          cases b' with
          | false =>
            refine ⟨F4, ρ4, st3, acc, vacc, X23.trans X4, fun a o z => X4.f _ _ (X3.f _ _ (hf _ _ z)), fun n a z => X4.r _ _ (hr _ _ z), R4, (p2.later X3.f X3.r).later X4.f X4.r, h2⟩
          | true =>
            refine ⟨F4, _, ρ4, e', st3, R4, E2.later X4, ?_⟩
            have h2 : OK (Ev.bnd (nox (me e')) (fun d => if acc.length < sizeLine then lcL t (wipeE e own) mc me (ds.drop (i + 1)) (acc ++ [d]) else no) st3) := h2
            dsimp only [Ev.bnd, nox] at h2
            cases r2 : me e' st3 with
            | ex x s1 => rw [r2] at h2; exact (hno h2).elim
            | no => rw [r2] at h2; exact (hno h2).elim
            | ok y st4 =>
              rw [r2] at h2
              intro v F5 ρ5 H5 X5 R5 p5
              have h2 : OK ((if acc.length < sizeLine then lcL t (wipeE e own) mc me (ds.drop (i + 1)) (acc ++ [y]) else no : M (List D)) st4) := h2
              have p4 : DRs Wo F5 ρ5 acc vacc := ((p2.later X3.f X3.r).later X4.f X4.r).later X5.f X5.r
              by_cases c : acc.length < sizeLine
              · rw [if_pos c] at h2
                obtain ⟨X6, R6⟩ := ownW R5 (p := p) upd_same (.lst (vacc ++ [v]))
                rw [upd_upd] at X6 R6
                exact ⟨vacc, (R5.ow p _ upd_same).1, by rw [← p4.len]; exact c, F5, ρ5, st4, acc ++ [y], vacc ++ [v], ((X23.trans X4).trans X5).trans X6, fun a o z => X5.f _ _ (X4.f _ _ (X3.f _ _ (hf _ _ z))), fun n a z => X5.r _ _ (X4.r _ _ (hr _ _ z)), R6, p4.app ⟨v, [], rfl, p5, rfl⟩, h2⟩
              · rw [if_neg c] at h2; exact (hno h2).elim
    · rintro H2 ⟨F2, ρ2, st2, acc, vacc, X2, hf, hr, R2, p2, h2⟩
      rw [List.drop_length] at h2
      exact fin acc st2 F2 ρ2 H2 vacc p h2 op X2 R2 p2
theorem lc_imp {W : WX} {own : List Nat} {t : Tn} {mi : En → M (List D)} {mc : En → M Bool} {me : En → M D} {Q : VK} (ht : t.inn own = true)
    (h : tE Wo W (fun e => Ev.bnd (mi e) fun xs => lcGo t (wipeE e own) mc me xs []) σ H Q) : tLc (tI Wo W mi) (gOf Wo.K t) (tT Wo W0 mc) (tE Wo W0 me) own σ H Q := by
  obtain ⟨F, O, ρ, e, st, R, E, h⟩ := h
  dsimp only [Ev.bnd, lcGo] at h
  refine lc_gen ht R E (fun r => okA (fun F' ρ' => pE Wo F' O ρ') Wo W σ F O ρ H (Ev.bnd (fun _ => r) (fun ys => Ev.ret (D.lst ys)) st) Q) (fun z => z) (fun z => ?_) (fun x s' z => ?_) (fun ds st1 z => ?_) fun acc st2 F2 ρ2 H2 vacc p z op X2 R2 p2 => ?_
  · rw [z] at h; exact h
  · rw [z] at h; exact h
  · rw [z] at h; exact h
  · have z : okA (fun F' ρ' => pE Wo F' O ρ') Wo W σ F O ρ H (.ok (.lst acc) st2) Q := z
    obtain ⟨X3, R3⟩ := frzO R2 (p := p) upd_same
    rw [del_upd op] at X3 R3
    exact z (.ref p) _ ρ2 H2 (X2.trans X3) R3 ⟨p, vacc, rfl, .inl (.inl upd_same), p2.later X3.f X3.r⟩
end
section
variable {X : Cx} {ca : Nat → Addr} {W : WX}
theorem re_lc {elt tg iter : Expr} {ifs : List Expr} {scope : Scope} {own : List (Str × Nat)} {pos : Pos} {t : Tn} {mi : En → M (List D)} {mc : En → M Bool} {me : En → M D} (hc : X.calm = true) (hN : X.N.Nodup) (ht : t.inn (own.map (·.2)) = true) (hi : PI X tg iter (tI (wd X ca) W mi)) (ok : BlkOk X.N X.env.scope scope own)
    (hg : ∀ s H C cl fp, PG (X.blk s H scope (compEnvC scope cl C X.env) fp) tg (gOf X.K t)) (hc' : ∀ s H C cl fp, PTs (X.blk s H scope (compEnvC scope cl C X.env) fp) ifs (tT (wd X ca) W0 mc))
    (he : ∀ s H C cl fp, PE (X.blk s H scope (compEnvC scope cl C X.env) fp) elt (tE (wd X ca) W0 me)) (hs : ∀ x, foldedSetIterable iter X.env x = pure x) :
    PE X (.ListComp elt [⟨tg, iter, ifs, 0⟩] scope pos) (tE (wd X ca) W fun e => bnd (mi e) fun xs => lcGo t (wipeE e (own.map (·.2))) mc me xs []) :=
  (pe_lc hc hN hi ok hg hc' he hs).imp fun σ H Q h => lc_imp (Wo := wd X ca) ht h
/-- a comprehension as a name's new value, in the name's own place -/
theorem rs_lc {i : Nat} {y : Str} {py : Pos} {elt tg iter : Expr} {ifs : List Expr} {scope : Scope} {own : List (Str × Nat)} {pos spos : Pos} {t : Tn} {mi : En → M (List D)} {mc : En → M Bool} {me : En → M D} (hc : X.calm = true) (hN : X.N.Nodup) (hy : X.N[i]? = some y) (hyl : X.env.scope.names.lookup y = some .local)
    (hsw : swapsWith (.ListComp elt [⟨tg, iter, ifs, 0⟩] scope pos) (some (.Name y py)) spos.line X.env = pure true) (ht : t.inn (own.map (·.2)) = true) (hi : PI X tg iter (tI (wd X ca) W mi)) (ok : BlkOk X.N X.env.scope scope own)
    (hg : ∀ s H C cl fp, PG (X.blk s H scope (compEnvC scope cl C X.env) fp) tg (gOf X.K t)) (hc' : ∀ s H C cl fp, PTs (X.blk s H scope (compEnvC scope cl C X.env) fp) ifs (tT (wd X ca) W0 mc))
    (he : ∀ s H C cl fp, PE (X.blk s H scope (compEnvC scope cl C X.env) fp) elt (tE (wd X ca) W0 me)) (hs : ∀ x, foldedSetIterable iter X.env x = pure x) :
    PS X (.Assign [.Name y py] (.ListComp elt [⟨tg, iter, ifs, 0⟩] scope pos) spos) (tAsg (tE (wd X ca) W fun e => bnd (mi e) fun xs => lcGo t (wipeE e (own.map (·.2))) mc me xs []) (gName i)) :=
  (ps_setLc hc hN hy hyl hsw hi ok hg hc' he hs).imp fun D σ H h => lc_imp (Wo := wd X ca) ht h
theorem pe_lcr {elt tg iter : Expr} {ifs : List Expr} {scope : Scope} {own : List (Str × Nat)} {pos : Pos} {t : Tn} {mi : En → M (List D)} {mc : En → M Bool} {me : En → M D} (hc : X.calm = true) (hN : X.N.Nodup) (hi : PI X tg iter (tI (wd X ca) W mi)) (ok : BlkOk X.N X.env.scope scope own)
    (hg : ∀ s H C cl fp, PG (X.blk s H scope (compEnvC scope cl C X.env) fp) tg (gOf X.K t)) (hc' : ∀ s H C cl fp, PTs (X.blk s H scope (compEnvC scope cl C X.env) fp) ifs (tT (wd X ca) W0 mc))
    (he : ∀ s H C cl fp, PE (X.blk s H scope (compEnvC scope cl C X.env) fp) elt (tE (wd X ca) W0 me)) (hs : ∀ x, foldedSetIterable iter X.env x = pure x) :
    PE X (.ListComp elt [⟨tg, iter, ifs, 0⟩] scope pos) (tLc (tI (wd X ca) W mi) (gOf X.K t) (tT (wd X ca) W0 mc) (tE (wd X ca) W0 me) (own.map (·.2))) := pe_lc hc hN hi ok hg hc' he hs
theorem rc_nil : PTs X [] (tT (wd X ca) W fun _ => ret true) := ⟨fun pins s σ H Q I h => by
  obtain ⟨F, O, ρ, e, st, R, E, h⟩ := h
  exact pts_nil.run pins s σ H Q I (okA.ret h R rfl)⟩
end
end Ev

set_option Elab.async false
set_option linter.all false
set_option maxRecDepth 100000
set_option maxHeartbeats 1000000
/-! EvC: statements. -/
namespace Ev
open PySem PySem.Spec PyProof.Rows L2
/-- what a statement's end is worth -/
def okS (Wo : Wd) (W : WX) (F O : Hp) (ρ : Rho) (H : Hp) (r : RS) (D : Ends) : Prop := match r with
  | .nx e st' => ∀ F' O' ρ' H' σ, Ext F O ρ H F' O' ρ' H' → Rl Wo F' O' ρ' st' H' → RE Wo F' O' ρ' e σ → D.nx σ H'
  | .bk e st' => ∀ F' O' ρ' H' σ, Ext F O ρ H F' O' ρ' H' → Rl Wo F' O' ρ' st' H' → RE Wo F' O' ρ' e σ → D.bk σ H'
  | .ct e st' => ∀ F' O' ρ' H' σ, Ext F O ρ H F' O' ρ' H' → Rl Wo F' O' ρ' st' H' → RE Wo F' O' ρ' e σ → D.ct σ H'
  | .rt d st' => ∀ F' O' ρ' H' v, Ext F O ρ H F' O' ρ' H' → Rl Wo F' O' ρ' st' H' → DR Wo F' ρ' d v → D.rt v H'
  | .ex x e st' => ∀ F' O' ρ' H' σ cls dx, Ext F O ρ H F' O' ρ' H' → Rl Wo F' O' ρ' st' H' → RE Wo F' O' ρ' e σ → XR Wo F' ρ' x cls dx H' → W cls dx σ H'
  | .no => False
def tSt (Wo : Wd) (W : WX) (m : MS) : TS := fun D σ H => ∃ F O ρ e st, Rl Wo F O ρ st H ∧ RE Wo F O ρ e σ ∧ okS Wo W F O ρ H (m e st) D
section
variable {Wo : Wd} {W : WX} {F O F' O' : Hp} {ρ ρ' : Rho} {st : Sto} {H H' : Hp} {e : En} {σ : L2.St}
theorem okS.ext {r : RS} {D : Ends} (h : okS Wo W F O ρ H r D) (x : Ext F O ρ H F' O' ρ' H') : okS Wo W F' O' ρ' H' r D := by
  cases r with
  | nx e st' => exact fun F1 O1 ρ1 H1 σ x1 => h F1 O1 ρ1 H1 σ (x.trans x1)
  | bk e st' => exact fun F1 O1 ρ1 H1 σ x1 => h F1 O1 ρ1 H1 σ (x.trans x1)
  | ct e st' => exact fun F1 O1 ρ1 H1 σ x1 => h F1 O1 ρ1 H1 σ (x.trans x1)
  | rt d st' => exact fun F1 O1 ρ1 H1 v x1 => h F1 O1 ρ1 H1 v (x.trans x1)
  | ex y e st' => exact fun F1 O1 ρ1 H1 σ cls dx x1 => h F1 O1 ρ1 H1 σ cls dx (x.trans x1)
  | no => exact h
/-- an expression, then a statement's rest -/
theorem thns_ok {α γ : Type} {P : Hp → Rho → α → γ → Prop} {m : M α} {f : α → Sto → RS} {D : Ends} {Q1 : γ → Hp → Prop} (E : RE Wo F O ρ e σ) (h : okS Wo W F O ρ H (thns m f e st) D)
    (k : ∀ d st' v F' ρ' H', Ext F O ρ H F' O ρ' H' → Rl Wo F' O ρ' st' H' → RE Wo F' O ρ' e σ → P F' ρ' d v → okS Wo W F' O ρ' H' (f d st') D → m st = .ok d st' → Q1 v H') : okA P Wo W σ F O ρ H (m st) Q1 := by
  unfold thns at h
  cases q : m st with
  | ok d st' =>
    rw [q] at h
    exact fun v F' ρ' H' X' R' p => k d st' v F' ρ' H' X' R' (E.later X') p (okS.ext h X') q
  | ex y s1 =>
    rw [q] at h
    exact fun cls dx F' ρ' H' X' R' p => h F' O ρ' H' σ cls dx X' R' (E.later X') p
  | no => rw [q] at h; exact h
theorem tSt.thns {α γ : Type} {P : Hp → Hp → Rho → α → γ → Prop} {m : En → M α} {f : En → α → Sto → RS} {D : Ends} {Q1 : γ → Hp → Prop} (h : tSt Wo W (fun e s => Ev.thns (m e) (f e) e s) D σ H)
    (k : ∀ F O ρ e d st v H', Rl Wo F O ρ st H' → RE Wo F O ρ e σ → P F O ρ d v → okS Wo W F O ρ H' (f e d st) D → Q1 v H') : tA Wo W P m σ H Q1 := by
  obtain ⟨F, O, ρ, e, st, R, E, h⟩ := h
  exact ⟨F, O, ρ, e, st, R, E, thns_ok E h fun d st' v F' ρ' H' X' R' E' p q _ => k F' O ρ' e d st' v H' R' E' p q⟩
end
section
variable {X : Cx} {ca : Nat → Addr} {W : WX} {F O : Hp} {ρ : Rho} {st : Sto} {H : Hp} {e : En} {σ : L2.St}
/-! ### rows of statements -/
theorem ss_nil : PSs X [] (tSt (wd X ca) W fun e s => .nx e s) := pss_nil.imp fun D σ H ⟨F, O, ρ, e, st, R, E, h⟩ => h F O ρ H σ Ext.refl R E
theorem ss_cons {s : Stmt} {ss : List Stmt} {a b : MS} (h1 : PS X s (tSt (wd X ca) W a)) (h2 : PSs X ss (tSt (wd X ca) W b)) : PSs X (s :: ss) (tSt (wd X ca) W (fun e s => match a e s with
    | .nx e1 s1 => b e1 s1
    | q => q)) :=
  (pss_cons h1 h2).imp fun D σ H ⟨F, O, ρ, e, st, R, E, h⟩ => by
    refine ⟨F, O, ρ, e, st, R, E, ?_⟩
    dsimp only at h
    cases q : a e st with
    | nx e1 s1 =>
      rw [q] at h
      exact fun F' O' ρ' H' σ' X' R' E' => ⟨F', O', ρ', e1, s1, R', E', okS.ext h X'⟩
    | bk e1 s1 => rw [q] at h; exact h
    | ct e1 s1 => rw [q] at h; exact h
    | rt d s1 => rw [q] at h; exact h
    | ex y e1 s1 => rw [q] at h; exact h
    | no => rw [q] at h; exact h
/-- a local's own list stands still from here on -/
theorem frz_ok {Wo : Wd} {e1 : En} {i : Nat} (R : Rl Wo F O ρ st H) (E : RE Wo F O ρ e σ) (h : frzE e i = some e1) : ∃ F' O', Ext F O ρ H F' O' ρ H ∧ Rl Wo F' O' ρ st H ∧ RE Wo F' O' ρ e1 σ := by
  have go : ∀ (a : Addr) (u : HO) (d : D), O a = some u → σ[i]? = some (some (.ref a)) → (e.at i).isOwn = true → e1 = e.set i (.val d) → (∀ F', (∀ b o, F b = some o → F' b = some o) → F' a = some u → DR Wo F' ρ d (.ref a)) → ∃ F' O', Ext F O ρ H F' O' ρ H ∧ Rl Wo F' O' ρ st H ∧ RE Wo F' O' ρ e1 σ :=
    fun a u d ha hs ho he hd => by
      obtain ⟨X', R'⟩ := frzO R ha
      refine ⟨_, _, X', R', ?_⟩
      subst he
      refine ⟨by rw [En.len_set]; exact E.len, fun j hj => ?_, fun j k b h1 h2 h3 h4 => ?_⟩
      · obtain ⟨v, g1, g2⟩ := E.at_ j hj
        refine ⟨v, g1, ?_⟩
        by_cases c : j = i
        · subst c
          rw [En.at_set_same (by rw [E.len]; exact hj)]
          rw [hs] at g1; cases g1
          exact ⟨_, rfl, hd _ X'.f upd_same⟩
        · rw [En.at_set_ne c]
          have ne : ∀ b, (e.at j).isOwn = true → v = some (.ref b) → b ≠ a := fun b o1 o2 z => by
            subst z o2
            exact c (E.dis j i b o1 ho g1 hs)
          revert ne g2
          cases e.at j with
          | no => exact fun _ _ => trivial
          | val d' => exact fun ⟨w, w1, w2⟩ _ => ⟨w, w1, w2.later X'.f X'.r⟩
          | own xs => exact fun ⟨b, vs, w1, w2, w3⟩ ne => ⟨b, vs, w1, by unfold del; rw [if_neg (ne b rfl w1)]; exact w2, w3.later X'.f X'.r⟩
          | owd xs => exact fun ⟨b, vs, w1, w2, w3⟩ ne => ⟨b, vs, w1, by unfold del; rw [if_neg (ne b rfl w1)]; exact w2, w3.later X'.f X'.r⟩
      · have own : ∀ m, ((e.set i (.val d)).at m).isOwn = true → (e.at m).isOwn = true := fun m z => by
          by_cases c : m = i
          · subst c; exact ho
          · rw [En.at_set_ne c] at z; exact z
        exact E.dis j k b (own j h1) (own k h2) h3 h4
  unfold frzE at h
  cases q : e.at i with
  | no => rw [q] at h; cases h
  | val d => rw [q] at h; cases h; exact ⟨F, O, Ext.refl, R, E⟩
  | own xs =>
    rw [q] at h; cases h
    obtain ⟨v, g1, a, vs, g3, g4, g5⟩ : ∃ v, σ[i]? = some v ∧ SR Wo F O ρ (.own xs) v := by have := E.get (i := i) (by rw [q]; exact fun z => by cases z); rw [q] at this; exact this
    exact go a _ (.lst xs) g4 (by rw [g1, g3]) (by rw [q]; rfl) rfl fun F' hf ha => ⟨a, vs, rfl, .inl (.inl ha), g5.later hf fun _ _ z => z⟩
  | owd xs =>
    rw [q] at h; cases h
    obtain ⟨v, g1, a, vs, g3, g4, g5⟩ : ∃ v, σ[i]? = some v ∧ SR Wo F O ρ (.owd xs) v := by have := E.get (i := i) (by rw [q]; exact fun z => by cases z); rw [q] at this; exact this
    exact go a _ (.dct xs) g4 (by rw [g1, g3]) (by rw [q]; rfl) rfl fun F' hf ha => ⟨a, vs, rfl, .inl ha, g5.later hf fun _ _ z => z⟩
theorem ss_frz {ss : List Stmt} {i : Nat} {b : MS} (h2 : PSs X ss (tSt (wd X ca) W b)) : PSs X ss (tSt (wd X ca) W (fun e s => match frzE e i with
    | some e1 => b e1 s
    | none => .no)) :=
  h2.imp fun D σ H ⟨F, O, ρ, e, st, R, E, h⟩ => by
    dsimp only at h
    cases q : frzE e i with
    | none => rw [q] at h; exact h.elim
    | some e1 =>
      rw [q] at h
      obtain ⟨F', O', X', R', E'⟩ := frz_ok R E q
      exact ⟨F', O', ρ, e1, st, R', E', okS.ext h X'⟩
/-! ### one statement -/
theorem so_asg {s : Stmt} {t : Tn} {m : En → M D} (h : PS X s (tAsg (tE (wd X ca) W m) (gOf X.K t))) : PS X s (tSt (wd X ca) W fun e s => thns (m e) (fun d s1 => match t.set d e with
    | some e1 => .nx e1 s1
    | none => .no) e s) :=
  h.imp fun D σ H h => tSt.thns h fun F O ρ e d st v H' R E p h => by
    cases q : t.set d e with
    | none => rw [q] at h; exact h.elim
    | some e1 =>
      rw [q] at h
      exact tg_ok (Wo := wd X ca) R t E p q fun σ' E' _ => h F O ρ H' σ' Ext.refl R E'
theorem setAll_ok {Wo : Wd} (R : Rl Wo F O ρ st H) : ∀ {is : List Nat} {ds : List D} {vs : List V} {e e1 : En} {σ : L2.St}, setAll is ds e = some e1 → RE Wo F O ρ e σ → DRs Wo F ρ ds vs →
    vs.length = is.length ∧ RE Wo F O ρ e1 ((is.zip vs).foldl (fun τ p => τ.set p.1 (some p.2)) σ)
  | [], [], vs, e, e1, σ, h, E, p => by cases p; simp only [setAll] at h; cases h; exact ⟨rfl, E⟩
  | [], _ :: _, _, _, _, _, h, _, _ => by simp [setAll] at h
  | _ :: _, [], _, _, _, _, h, _, _ => by simp [setAll] at h
  | i :: is, d :: ds, vs, e, e1, σ, h, E, p => by
    obtain ⟨v, vr, rfl, p1, p2⟩ := p
    simp only [setAll] at h
    obtain ⟨h1, h2⟩ := setAll_ok R h (E.val (i := i) p1) p2
    exact ⟨by rw [List.length_cons, List.length_cons, h1], h2⟩
theorem so_par {s : Stmt} {is : List Nat} {t : TS} {ms : En → M (List D)} (h : PS X s t) (ht : ∀ D σ H, (tEs (wd X ca) W ms σ H fun vs H1 => vs.length = is.length ∧ D.nx ((is.zip vs).foldl (fun τ p => τ.set p.1 (some p.2)) σ) H1) → t D σ H) :
    PS X s (tSt (wd X ca) W fun e s => thns (ms e) (fun ds s1 => match setAll is ds e with
    | some e1 => .nx e1 s1
    | none => .no) e s) :=
  h.imp fun D σ H h => ht D σ H (tSt.thns h fun F O ρ e ds st vs H' R E p h => by
    cases q : setAll is ds e with
    | none => rw [q] at h; exact h.elim
    | some e1 =>
      rw [q] at h
      obtain ⟨h1, h2⟩ := setAll_ok R q E p
      exact ⟨h1, h F O ρ H' _ Ext.refl R h2⟩)
theorem par2 {i j : Nat} {ta : TA} {D : Ends} (h : ta σ H fun vs H1 => vs.length = [i, j].length ∧ D.nx (([i, j].zip vs).foldl (fun τ p => τ.set p.1 (some p.2)) σ) H1) (hm : ∀ Q Q' : List V → Hp → Prop, (∀ v H, Q v H → Q' v H) → ta σ H Q → ta σ H Q') : tPar i j ta D σ H :=
  hm _ _ (fun vs H1 ⟨h1, h2⟩ => by
    match vs, h1, h2 with
    | [v, w], _, h2 => exact ⟨v, w, rfl, h2⟩) h
theorem par3 {i j l : Nat} {ta : TA} {D : Ends} (h : ta σ H fun vs H1 => vs.length = [i, j, l].length ∧ D.nx (([i, j, l].zip vs).foldl (fun τ p => τ.set p.1 (some p.2)) σ) H1) (hm : ∀ Q Q' : List V → Hp → Prop, (∀ v H, Q v H → Q' v H) → ta σ H Q → ta σ H Q') : tPar3 i j l ta D σ H :=
  hm _ _ (fun vs H1 ⟨h1, h2⟩ => by
    match vs, h1, h2 with
    | [u, v, w], _, h2 => exact ⟨u, v, w, rfl, h2⟩) h
theorem tA.imp {Wo : Wd} {α γ : Type} {P : Hp → Hp → Rho → α → γ → Prop} {m : En → M α} {Q Q' : γ → Hp → Prop} (k : ∀ v H, Q v H → Q' v H) (h : tA Wo W P m σ H Q) : tA Wo W P m σ H Q' := by
  obtain ⟨F, O, ρ, e, st, R, E, h⟩ := h
  exact ⟨F, O, ρ, e, st, R, E, okA.imp h k⟩
/-- a new list of a local's own -/
theorem so_own {s : Stmt} {i : Nat} {ms : En → M (List D)} (h : PS X s (tAsg (tLst (tEs (wd X ca) W ms)) (gName i))) : PS X s (tSt (wd X ca) W fun e s => thns (ms e) (fun xs s1 => if xs.length ≤ sizeLine then .nx (e.set i (.own xs)) s1 else .no) e s) :=
  h.imp fun D σ H h => tSt.thns h fun F O ρ e xs st vs H' R E p h => by
    by_cases c : xs.length ≤ sizeLine
    · rw [if_pos c] at h
      refine ⟨by rw [← DRs.len p]; exact c, fun q hq => ?_⟩
      obtain ⟨X', R'⟩ := ownN R hq (.lst vs)
      have oq := R.own_none hq
      refine h F _ ρ _ _ X' R' ((E.mono (fun _ _ z => z) (fun _ _ z => z) (upd_ext oq)).set (y := .own xs) (v := some (.ref q)) ⟨q, vs, rfl, upd_same, p⟩ fun j a _ ha _ hj hs => ?_)
      cases ha
      have := E.at' hs
      revert hj this
      cases e.at j with
      | no => exact fun z => by cases z
      | val d => exact fun z => by cases z
      | own ys => exact fun _ ⟨b, us, e1, e2, _⟩ => by cases e1; rw [oq] at e2; cases e2
      | owd ys => exact fun _ ⟨b, us, e1, e2, _⟩ => by cases e1; rw [oq] at e2; cases e2
    · rw [if_neg c] at h; exact h.elim
/-- a comprehension as a list of a local's own -/
theorem so_ownl {s : Stmt} {i : Nat} {own : List Nat} {t : Tn} {mi : En → M (List D)} {mc : En → M Bool} {me : En → M D} (ht : t.inn own = true) (h : PS X s (tAsg (tLc (tI (wd X ca) W mi) (gOf X.K t) (tT (wd X ca) W0 mc) (tE (wd X ca) W0 me) own) (gName i))) :
    PS X s (tSt (wd X ca) W fun e s => thns (bnd (mi e) fun xs => lcL t (wipeE e own) mc me xs []) (fun ys s1 => .nx (e.set i (.own ys)) s1) e s) :=
  h.imp fun Dd σ H h => by
    obtain ⟨F, O, ρ, e, st, R, E, h⟩ := h
    dsimp only [thns, bnd] at h
    refine lc_gen (Wo := wd X ca) ht R E (fun r => okS (wd X ca) W F O ρ H (thns (fun _ => r) (fun ys s1 => .nx (e.set i (.own ys)) s1) e st) Dd) (fun z => z) (fun z => ?_) (fun x s' z => ?_) (fun ds st1 z => ?_) fun acc st2 F2 ρ2 H2 vacc p z op X2 R2 p2 => ?_
    · rw [z] at h; exact h
    · rw [z] at h; exact fun cls dx F' ρ' H' X' R' q => h F' O ρ' H' σ cls dx X' R' (E.later X') q
    · rw [z] at h; exact h
    · refine z F2 _ ρ2 H2 _ X2 R2 ((E.mono X2.f X2.r (upd_ext op)).set (y := .own acc) (v := some (.ref p)) ⟨p, vacc, rfl, upd_same, p2⟩ fun j a _ ha _ hj hs => ?_)
      cases ha
      have := E.at' hs
      revert hj this
      cases e.at j with
      | no => exact fun z => by cases z
      | val d => exact fun z => by cases z
      | own ys => exact fun _ ⟨b, us, e1, e2, _⟩ => by cases e1; rw [op] at e2; cases e2
      | owd ys => exact fun _ ⟨b, us, e1, e2, _⟩ => by cases e1; rw [op] at e2; cases e2
abbrev rCatL (K : PySem.W.Frag) : R2 := fun x y H Q => ∃ l b xs zs, x = .ref l ∧ y = .ref b ∧ LsT K H l xs ∧ LsT K H b zs ∧ xs.length + zs.length ≤ sizeLine ∧ ∀ p, H p = none → Q (.ref p) (upd H p (.lst (xs ++ zs)))
/-- two lists' sum as a list of a local's own -/
theorem so_owna {s : Stmt} {i : Nat} {ma mb : En → M D} (h : PS X s (tAsg (tOp (rCatL X.K) (tP (wd X ca) W ma) (tP (wd X ca) W mb)) (gName i))) : PS X s (tSt (wd X ca) W fun e s => thns (ma e) (fun x s1 => thns (mb e) (fun y s2 => match lv x s2, lv y s2 with
    | some xs, some ys => if xs.length + ys.length ≤ sizeLine then .nx (e.set i (.own (xs ++ ys))) s2 else .no
    | _, _ => .no) e s1) e s) :=
  h.imp fun D σ H h => tSt.thns h fun F O ρ e d st v H' R E p h =>
    ⟨F, O, ρ, e, st, R, E, thns_ok E h fun d2 st2 v2 F2 ρ2 H2 X2 R2 E2 p2 h2 _ => by
      have p := PR.later (X2.jn R R2) X2.f X2.r p
      cases ea : lv d st2 with
      | none => rw [ea] at h2; exact h2.elim
      | some xs =>
        cases eb : lv d2 st2 with
        | none => rw [ea, eb] at h2; exact h2.elim
        | some ys =>
          rw [ea, eb] at h2
          obtain ⟨a1, vs, e1, s1, t1, _⟩ := lv_at R2 p ea
          obtain ⟨b1, us, e2, s2, t2, _⟩ := lv_at R2 p2 eb
          dsimp only at h2
          by_cases c : xs.length + ys.length ≤ sizeLine
          · rw [if_pos c] at h2
            have hz := c
            rw [t1.len, t2.len] at hz
            refine ⟨a1, b1, vs, us, e1, e2, s1, s2, hz, fun q hq => ?_⟩
            obtain ⟨X', R'⟩ := ownN R2 hq (.lst (vs ++ us))
            have oq := R2.own_none hq
            refine h2 F2 _ ρ2 _ _ X' R' ((E2.mono (fun _ _ z => z) (fun _ _ z => z) (upd_ext oq)).set (y := .own (xs ++ ys)) (v := some (.ref q)) ⟨q, vs ++ us, rfl, upd_same, t1.app t2⟩ fun j a _ ha _ hj hs => ?_)
            cases ha
            have := E2.at' hs
            revert hj this
            cases e.at j with
            | no => exact fun z => by cases z
            | val d => exact fun z => by cases z
            | own ys => exact fun _ ⟨b, us, e1, e2, _⟩ => by cases e1; rw [oq] at e2; cases e2
            | owd ys => exact fun _ ⟨b, us, e1, e2, _⟩ => by cases e1; rw [oq] at e2; cases e2
          · rw [if_neg c] at h2; exact h2.elim⟩
/-- x.append(e) of a list of one's own -/
theorem so_app {i : Nat} {x : Str} {a : Expr} {p1 p2 p3 p4 : Pos} {m : En → M D} (hN : X.N[i]? = some x) (hv : Vis X.env.scope x) (hd : (x == ("__debug__" : Str)) = false) (hcd : (x == ("__classdict__" : Str)) = false) (hn : ns a = true) (hline : (p2.endLine == p3.line) = true)
    (ha : PE X a (tE (wd X ca) W m)) : PS X (.Expr (.Call (.Attribute (.Name x p1) "append" p2) [a] [] p3) p4) (tSt (wd X ca) W fun e s => match e.at i with
    | .own xs => thns (m e) (fun d s1 => if xs.length < sizeLine then .nx (e.set i (.own (xs ++ [d]))) s1 else .no) e s
    | _ => .no) :=
  (ps_expr (pe_bm PySem.F.plainAttrs_list PySem.F.slot_list_append PySem.F.type_list_append mt_append (pe_var hN hv hd hcd) (pa_cons ha pa_nil (star_cons hn)) rfl (by
    rw [Bool.and_eq_true, Bool.and_eq_true]
    exact ⟨⟨star_all (by rw [List.all_cons, hn]; rfl), rfl⟩, rfl⟩) hline (star_cons hn) rfl) rfl).imp fun Dd σ H h => by
    have key : ∃ y, σ[i]? = some (some y) ∧ tyV X.K "list" y H ∧ tE (wd X ca) W m σ H fun v H2 => rAppend y [v] H2 fun _ H1 => Dd.nx σ H1 := by
      obtain ⟨F, O, ρ, e, st, R, E, h⟩ := h
      dsimp only at h
      cases q : e.at i with
      | own xs =>
        rw [q] at h
        dsimp only at h
        obtain ⟨v, g1, b, vs, g3, g4, g5⟩ : ∃ v, σ[i]? = some v ∧ SR (wd X ca) F O ρ (.own xs) v := by have := E.get (i := i) (by rw [q]; exact fun z => by cases z); rw [q] at this; exact this
        refine ⟨.ref b, by rw [g1, g3], .inl ⟨rfl, vs, .inl (.inl (R.ow b _ g4).1)⟩, F, O, ρ, e, st, R, E, thns_ok E h fun d s1 v2 F' ρ' H' X' R' E' p h _ => ?_⟩
        by_cases c : xs.length < sizeLine
        · rw [if_pos c] at h
          obtain ⟨X2, R2⟩ := ownW R' g4 (.lst (vs ++ [v2]))
          have g6 := g5.later X'.f X'.r
          refine ⟨b, vs, v2, rfl, rfl, (R'.ow b _ g4).1, by rw [← g5.len]; exact c, h F' _ ρ' _ σ X2 R2 ?_⟩
          have hi : i < σ.length := by
            by_cases c : i < σ.length
            · exact c
            · rw [List.getElem?_eq_none (by omega)] at g1; cases g1
          refine ⟨by rw [En.len_set]; exact E.len, fun j hj => ?_, fun j k a h1 h2 h3 h4 => ?_⟩
          · by_cases c2 : j = i
            · subst c2
              exact ⟨_, g1, by rw [En.at_set_same (by rw [E.len]; exact hi)]; exact ⟨b, vs ++ [v2], g3, upd_same, g6.app ⟨v2, [], rfl, p, rfl⟩⟩⟩
            · obtain ⟨w, w1, w2⟩ := E'.at_ j hj
              refine ⟨w, w1, ?_⟩
              rw [En.at_set_ne c2]
              have ne : ∀ a, (e.at j).isOwn = true → w = some (.ref a) → a ≠ b := fun a o1 o2 z => by
                subst z o2
                exact c2 (E.dis j i a o1 (by rw [q]; rfl) w1 (by rw [g1, g3]))
              revert ne w2
              cases e.at j with
              | no => exact fun _ _ => trivial
              | val d' => exact fun z _ => z
              | own ys => exact fun ⟨a, us, z1, z2, z3⟩ ne => ⟨a, us, z1, by rw [upd_ne (ne a rfl z1)]; exact z2, z3⟩
              | owd ys => exact fun ⟨a, us, z1, z2, z3⟩ ne => ⟨a, us, z1, by rw [upd_ne (ne a rfl z1)]; exact z2, z3⟩
          · have own : ∀ m, ((e.set i (.own (xs ++ [d]))).at m).isOwn = true → (e.at m).isOwn = true := fun m z => by
              by_cases c : m = i
              · subst c; rw [q]; rfl
              · rw [En.at_set_ne c] at z; exact z
            exact E.dis j k a (own j h1) (own k h2) h3 h4
        · rw [if_neg c] at h; exact h.elim
      | no => rw [q] at h; exact h.elim
      | val d => rw [q] at h; exact h.elim
      | owd d => rw [q] at h; exact h.elim
    obtain ⟨y, k1, k2, k3⟩ := key
    exact ⟨y, k1, k2, tA.imp (fun v H2 z => z) k3⟩
theorem so_exp {a : Expr} {pos : Pos} {m : En → M D} (hs : swapsWith a none pos.line X.env = pure false) (ha : PE X a (tE (wd X ca) W m)) : PS X (.Expr a pos) (tSt (wd X ca) W fun e s => thns (m e) (fun _ s1 => .nx e s1) e s) :=
  (ps_expr ha hs).imp fun Dd σ H h => tSt.thns h fun F O ρ e d st v H' R E p h => h F O ρ H' σ Ext.refl R E
theorem so_doc {x : Str} {j : Nat} {pos pos' : Pos} : PS X (.Expr (.Constant (.str x) j pos) pos') (tSt (wd X ca) W fun e s => .nx e s) :=
  ps_doc.imp fun Dd σ H ⟨F, O, ρ, e, st, R, E, h⟩ => h F O ρ H σ Ext.refl R E
theorem ret_pr {Wo : Wd} {d : D} {v : V} (R : Rl Wo F O ρ st H) (p : PR Wo F O ρ d v) : ∃ F' O', Ext F O ρ H F' O' ρ H ∧ Rl Wo F' O' ρ st H ∧ DR Wo F' ρ d v := by
  have own : ∀ {a : Addr} {u : HO}, jn F O a = some u → F a = some u ∨ O a = some u := fun {a u} h => by
    unfold jn at h
    cases q : F a with
    | some w => rw [q] at h; exact .inl h
    | none => rw [q] at h; exact .inr h
  cases d with
  | lst xs =>
    obtain ⟨a, vs, rfl, s1, t1⟩ := p
    have fin : F a = some (.lst vs) ∨ (∃ o, F a = some (.frz o (.lst vs))) ∨ O a = some (.lst vs) ∨ (∃ o, O a = some (.frz o (.lst vs))) ∨ LsT Wo.K F a vs := by
      rcases s1 with (s1 | ⟨o, s1⟩) | s1
      · rcases own s1 with z | z
        · exact .inl z
        · exact .inr (.inr (.inl z))
      · rcases own s1 with z | z
        · exact .inr (.inl ⟨o, z⟩)
        · exact .inr (.inr (.inr (.inl ⟨o, z⟩)))
      · exact .inr (.inr (.inr (.inr (.inr s1))))
    rcases fin with z | ⟨o, z⟩ | z | ⟨o, z⟩ | z
    · exact ⟨F, O, Ext.refl, R, a, vs, rfl, .inl (.inl z), t1⟩
    · exact ⟨F, O, Ext.refl, R, a, vs, rfl, .inl (.inr ⟨o, z⟩), t1⟩
    · obtain ⟨X', R'⟩ := frzO R z
      exact ⟨_, _, X', R', a, vs, rfl, .inl (.inl upd_same), t1.later X'.f X'.r⟩
    · obtain ⟨X', R'⟩ := frzO R z
      exact ⟨_, _, X', R', a, vs, rfl, .inl (.inr ⟨o, upd_same⟩), t1.later X'.f X'.r⟩
    · exact ⟨F, O, Ext.refl, R, a, vs, rfl, z, t1⟩
  | dct xs =>
    obtain ⟨a, vs, rfl, s1, t1⟩ := p
    rcases s1 with s1 | s1
    · rcases own s1 with z | z
      · exact ⟨F, O, Ext.refl, R, a, vs, rfl, .inl z, t1⟩
      · obtain ⟨X', R'⟩ := frzO R z
        exact ⟨_, _, X', R', a, vs, rfl, .inl upd_same, t1.later X'.f X'.r⟩
    · exact ⟨F, O, Ext.refl, R, a, vs, rfl, .inr s1, t1⟩
  | non => exact ⟨F, O, Ext.refl, R, p⟩
  | bl b => exact ⟨F, O, Ext.refl, R, p⟩
  | int b => exact ⟨F, O, Ext.refl, R, p⟩
  | str b => exact ⟨F, O, Ext.refl, R, p⟩
  | tup b => exact ⟨F, O, Ext.refl, R, p⟩
  | ref b => exact ⟨F, O, Ext.refl, R, p⟩
theorem so_ret {a : Expr} {pos : Pos} {m : En → M D} (ha : PE X a (tP (wd X ca) W m)) : PS X (.Return (some a) pos) (tSt (wd X ca) W fun e s => thns (m e) (fun d s1 => .rt d s1) e s) :=
  (ps_ret ha).imp fun Dd σ H h => tSt.thns h fun F O ρ e d st v H' R E p h => by
    obtain ⟨F', O', X', R', p'⟩ := ret_pr R p
    exact h F' O' ρ H' v X' R' p'
theorem so_retn {pos : Pos} : PS X (.Return none pos) (tSt (wd X ca) W fun _ s => .rt .non s) :=
  ps_retN.imp fun Dd σ H ⟨F, O, ρ, e, st, R, E, h⟩ => h F O ρ H .non Ext.refl R rfl
theorem so_pass {pos : Pos} : PS X (.Pass pos) (tSt (wd X ca) W fun e s => .nx e s) := ps_pass.imp fun Dd σ H ⟨F, O, ρ, e, st, R, E, h⟩ => h F O ρ H σ Ext.refl R E
theorem so_brk {pos : Pos} : PS X (.Break pos) (tSt (wd X ca) W fun e s => .bk e s) := ps_break.imp fun Dd σ H ⟨F, O, ρ, e, st, R, E, h⟩ => h F O ρ H σ Ext.refl R E
theorem so_cnt {pos : Pos} : PS X (.Continue pos) (tSt (wd X ca) W fun e s => .ct e s) := ps_continue.imp fun Dd σ H ⟨F, O, ρ, e, st, R, E, h⟩ => h F O ρ H σ Ext.refl R E
theorem so_ifs {c : Expr} {p q : List Stmt} {pos : Pos} {mc : En → M Bool} {a b : MS} (hc : PT X c (tT (wd X ca) W mc)) (ha : PSs X p (tSt (wd X ca) W a)) (hb : PSs X q (tSt (wd X ca) W b)) :
    PS X (.If c p q pos) (tSt (wd X ca) W fun e s => thns (mc e) (fun t s1 => if t = true then a e s1 else b e s1) e s) :=
  (ps_if hc ha hb).imp fun Dd σ H h => tSt.thns h fun F O ρ e d st v H' R E p h => by
    have p : v = d := p
    subst p
    cases v with
    | true => exact ⟨F, O, ρ, e, st, R, E, h⟩
    | false => exact ⟨F, O, ρ, e, st, R, E, h⟩
/-- how a loop goes on behind its body -/
def loopS (r : RS) (k : MS) : RS := match r with
  | .nx e s => k e s
  | .ct e s => k e s
  | .bk e s => .nx e s
  | q => q
theorem loop_ok {Wo : Wd} {r : RS} {k : MS} {Dd : Ends} {N : L2.St → Hp → Prop} (h : okS Wo W F O ρ H (loopS r k) Dd)
    (hN : ∀ e st' F' O' ρ' H' σ, Ext F O ρ H F' O' ρ' H' → Rl Wo F' O' ρ' st' H' → RE Wo F' O' ρ' e σ → okS Wo W F' O' ρ' H' (k e st') Dd → N σ H') : okS Wo W F O ρ H r { Dd with nx := N, ct := N, bk := Dd.nx } := by
  cases r with
  | nx e s => exact fun F' O' ρ' H' σ X' R' E' => hN e s F' O' ρ' H' σ X' R' E' (okS.ext h X')
  | ct e s => exact fun F' O' ρ' H' σ X' R' E' => hN e s F' O' ρ' H' σ X' R' E' (okS.ext h X')
  | bk e s => exact h
  | rt d s => exact h
  | ex x e s => exact h
  | no => exact h
theorem forL_cons {t : Tn} {body : MS} {x : D} {xs : List D} {e : En} {s : Sto} : forL t body (x :: xs) e s = match t.set x e with
    | none => .no
    | some e1 => loopS (body e1 s) (forL t body xs) := by
  simp only [forL]
  cases t.set x e with
  | none => rfl
  | some e1 =>
    dsimp only
    cases body e1 s <;> rfl
theorem so_for {tg iter : Expr} {ss : List Stmt} {pos : Pos} {t : Tn} {mi : En → M (List D)} {b : MS} (hp : PassesOwn (model X.prog X.w) X.A X.env X.xe) (hc : X.calm = true) (hi : PI X tg iter (tI (wd X ca) W mi)) (hg : PG X tg (gOf X.K t)) (hb : PSs X ss (tSt (wd X ca) W b))
    (hs : ∀ x, foldedSetIterable iter X.env x = pure x) : PS X (.For tg iter ss [] pos) (tSt (wd X ca) W fun e s => thns (mi e) (fun xs s1 => forL t b xs e s1) e s) :=
  (ps_for hp hc hi hg hb hs).imp fun Dd σ H h => by
    obtain ⟨F, O, ρ, e, st, R, E, h⟩ := h
    refine ⟨F, O, ρ, e, st, R, E, ?_⟩
    dsimp only [thns] at h
    cases r : mi e st with
    | ex x s1 =>
      rw [r] at h
      exact fun cls dx F' ρ' H' X' R' p => h F' O ρ' H' σ cls dx X' R' (E.later X') p
    | no => rw [r] at h; exact h
    | ok ds st1 =>
      rw [r] at h
      intro F1 ρ1 H1 J X1 R1 wk
      obtain ⟨G, Y, w, hG, hY⟩ := wk
      refine for_it w (fun i σ2 H2 => ∃ F2 O2 ρ2 e2 st2, (∀ a o, F1 a = some o → F2 a = some o) ∧ (∀ n a, ρ1 n = some a → ρ2 n = some a) ∧ Rl (wd X ca) F2 O2 ρ2 st2 H2 ∧ RE (wd X ca) F2 O2 ρ2 e2 σ2 ∧ okS (wd X ca) W F2 O2 ρ2 H2 (forL t b (ds.drop i) e2 st2) Dd) ?_ ?_ ?_ ?_
      · exact ⟨F1, O, ρ1, e, st1, fun _ _ z => z, fun _ _ z => z, R1, E.later X1, okS.ext h X1⟩
      · rintro i σ2 H2 _ ⟨F2, O2, ρ2, e2, st2, hf, hr, R2, E2, h2⟩
        exact hG F2 O2 ρ2 st2 H2 hf R2
      · rintro i x σ2 H2 H' hi ⟨F2, O2, ρ2, e2, st2, hf, hr, R2, E2, h2⟩ y
        obtain ⟨d, hd, y⟩ := hY i H2 x H' hi y
        obtain ⟨F3, X3, R3, p3⟩ := y.at hf hr R2
        have hdr : ds.drop i = d :: ds.drop (i + 1) := by
          obtain ⟨hi2, e2⟩ := List.getElem?_eq_some_iff.mp hd
          rw [← e2]; exact List.drop_eq_getElem_cons hi2
        rw [hdr, forL_cons] at h2
        cases hs : t.set d e2 with
        | none => rw [hs] at h2; exact h2.elim
        | some e3 =>
          rw [hs] at h2
          refine tg_ok (Wo := wd X ca) R3 t (E2.later X3) p3 hs fun σ3 E3 _ => ⟨F3, O2, ρ2, e3, st2, R3, E3, loop_ok (okS.ext h2 X3) fun e4 st4 F4 O4 ρ4 H4 σ4 X4 R4 E4 h4 => ⟨F4, O4, ρ4, e4, st4, fun a o z => X4.f _ _ (X3.f _ _ (hf _ _ z)), fun n a z => X4.r _ _ (hr _ _ z), R4, E4, h4⟩⟩
      · rintro σ2 H2 ⟨F2, O2, ρ2, e2, st2, hf, hr, R2, E2, h2⟩
        rw [List.drop_length] at h2
        exact h2 F2 O2 ρ2 H2 σ2 Ext.refl R2 E2
theorem whlL_succ {c : En → M Bool} {body : MS} {n : Nat} {e : En} {s : Sto} : whlL c body (n + 1) e s = thns (c e) (fun b s1 => if b = true then loopS (body e s1) (whlL c body n) else .nx e s1) e s := by
  simp only [whlL, thns]
  cases c e s with
  | ok b s1 =>
    dsimp only
    cases b with
    | true =>
      simp only [if_true]
      cases body e s1 <;> rfl
    | false => rfl
  | ex x s1 => rfl
  | no => rfl
theorem so_whl {c : Expr} {ss : List Stmt} {pos : Pos} {n : Nat} {mc : En → M Bool} {b : MS} (hp : PassesOwn (model X.prog X.w) X.A X.env X.xe) (hc : PT X c (tT (wd X ca) W mc)) (hb : PSs X ss (tSt (wd X ca) W b)) :
    PS X (.While c ss [] pos) (tSt (wd X ca) W fun e s => whlL mc b n e s) :=
  (ps_while hp hc hb).imp fun Dd σ H h => by
    refine ⟨fun n σ H => tSt (wd X ca) W (fun e s => whlL mc b n e s) Dd σ H, ⟨n, h⟩, fun m σ1 H1 h1 => ?_⟩
    cases m with
    | zero =>
      obtain ⟨F, O, ρ, e, st, R, E, h⟩ := h1
      exact h.elim
    | succ m =>
      obtain ⟨F, O, ρ, e, st, R, E, h⟩ := h1
      have h := h
      dsimp only at h
      rw [whlL_succ] at h
      refine ⟨F, O, ρ, e, st, R, E, thns_ok E h fun d st' v F' ρ' H' X' R' E' p h _ => ?_⟩
      have p : v = d := p
      subst p
      cases v with
      | true =>
        refine ⟨fun σ' H' => tSt (wd X ca) W (fun e s => whlL mc b m e s) Dd σ' H', fun σ' H' z => ⟨m, Nat.lt_succ_self m, z⟩, ⟨F', O, ρ', e, st', R', E', loop_ok h fun e4 st4 F4 O4 ρ4 H4 σ4 X4 R4 E4 h4 => ⟨F4, O4, ρ4, e4, st4, R4, E4, h4⟩⟩⟩
      | false => exact h F' O ρ' H' σ1 Ext.refl R' E'
end
end Ev

set_option Elab.async false
set_option linter.all false
set_option maxRecDepth 100000
set_option maxHeartbeats 1000000
/-! EvD: items set; dict displays. -/
namespace Ev
open PySem PySem.Spec PyProof.Rows L2
section
variable {Wo : Wd} {F O : Hp} {ρ : Rho} {st : Sto} {H : Hp}
theorem DRk.any : ∀ {ds : List (Key × D)} {vs : List (Key × V)} (k : Key), DRk Wo F ρ ds vs → (ds.any fun kv => decide (kv.1 = k)) = (vs.any fun kv => decide (kv.1 = k))
  | [], _, k, h => by cases h; rfl
  | (k', x) :: ds, vs, k, h => by
    obtain ⟨v, vr, rfl, p, t⟩ := h
    rw [List.any_cons, List.any_cons, t.any k]
theorem DRk.map : ∀ {ds : List (Key × D)} {vs : List (Key × V)} {k : Key} {d : D} {v : V}, DRk Wo F ρ ds vs → DR Wo F ρ d v → DRk Wo F ρ (ds.map fun kv => if kv.1 = k then (kv.1, d) else kv) (vs.map fun kv => if kv.1 = k then (kv.1, v) else kv)
  | [], _, k, d, v, h, p => by cases h; rfl
  | (k', x) :: ds, vs, k, d, v, h, p => by
    obtain ⟨u, vr, rfl, q, t⟩ := h
    have t' := t.map (k := k) p
    rw [List.map_cons, List.map_cons]
    by_cases c : k' = k
    · rw [if_pos c, if_pos c]; exact ⟨v, _, rfl, p, t'⟩
    · rw [if_neg c, if_neg c]; exact ⟨u, _, rfl, q, t'⟩
theorem DRk.app : ∀ {ds : List (Key × D)} {vs : List (Key × V)} {k : Key} {d : D} {v : V}, DRk Wo F ρ ds vs → DR Wo F ρ d v → DRk Wo F ρ (ds ++ [(k, d)]) (vs ++ [(k, v)])
  | [], _, k, d, v, h, p => by cases h; exact ⟨v, [], rfl, p, rfl⟩
  | (k', x) :: ds, vs, k, d, v, h, p => by
    obtain ⟨u, vr, rfl, q, t⟩ := h
    exact ⟨u, _, rfl, q, t.app p⟩
theorem DRk.put {ds : List (Key × D)} {vs : List (Key × V)} {k : Key} {d : D} {v : V} (h : DRk Wo F ρ ds vs) (p : DR Wo F ρ d v) : DRk Wo F ρ (setK ds k d) (putK vs k v) := by
  unfold setK putK
  rw [h.any k]
  by_cases c : (vs.any fun kv => decide (kv.1 = k)) = true
  · rw [if_pos c, if_pos c]; exact h.map p
  · rw [if_neg c, if_neg c]; exact h.app p
end
section
variable {X : Cx} {ca : Nat → Addr} {W : WX} {F O : Hp} {ρ : Rho} {st : Sto} {H : Hp} {e : En} {σ : L2.St}
def rSti (Wo : Wd) : TSet := fun o i v H Q => ∃ F O ρ st a b d, Rl Wo F O ρ st H ∧ DR Wo F ρ a o ∧ DR Wo F ρ b i ∧ DR Wo F ρ d v ∧ match stiD a b d st with
  | .ok _ st' => ∀ F' ρ' H', Ext F O ρ H F' O ρ' H' → Rl Wo F' O ρ' st' H' → Q H'
  | _ => False
theorem set_sti (q : Cq X) : PSet X (rSti (wd X ca)) := by
  have hu1 : X.A.units + 1 < cLine := by have := q.hu; omega
  intro pins s σ H o i v ov iv u Q I ro ri rv h
  obtain ⟨F, O, ρ, st, a, b, d, R, pa, pb, pd, h⟩ := h
  unfold stiD at h
  split at h
  · rename_i s' hs
    split at hs
    · rename_i n k
      obtain ⟨p, e1, e2⟩ := pa
      have e3 : i = .int k := pb
      subst e1 e3
      split at hs
      · rename_i xs g
        obtain ⟨p2, ho, h1, h2, vs, h3, h4⟩ := R.ob n _ g
        rw [e2] at h1; cases h1
        subst h3
        cases c : ixN xs.length k with
        | none => rw [c] at hs; cases hs
        | some j =>
          rw [c] at hs
          cases hs
          obtain ⟨X', R'⟩ := written R g e2 (o' := .lst (xs.set j d)) (x := .lst (vs.set j v)) ⟨_, rfl, h4.set j pd⟩
          exact set_list pins s σ H _ _ v ov iv u Q I ro ri rv ⟨p, vs, k, j, rfl, rfl, h2, by rw [← h4.len]; exact c, h _ _ _ X' R'⟩
      · rename_i kvs g
        obtain ⟨p2, ho, h1, h2, vs, h3, h4⟩ := R.ob n _ g
        rw [e2] at h1; cases h1
        subst h3
        by_cases c : kvs.length < sizeLine
        · rw [if_pos c] at hs
          cases hs
          obtain ⟨X', R'⟩ := written R g e2 (o' := .dct (setK kvs (.inl k) d)) (x := .dK (putK vs (.inl k) v)) ⟨_, rfl, h4.put pd⟩
          exact set_dict hu1 pins s σ H _ _ v ov iv u Q I ro ri rv ⟨p, _, rfl, .inl ⟨vs, .inl k, h2, rfl, by rw [← h4.len]; exact c, rfl⟩, h _ _ _ X' R'⟩
        · rw [if_neg c] at hs; cases hs
      · cases hs
    · rename_i n k
      obtain ⟨p, e1, e2⟩ := pa
      have e3 : i = .str k := pb.1
      subst e1 e3
      split at hs
      · rename_i kvs g
        obtain ⟨p2, ho, h1, h2, vs, h3, h4⟩ := R.ob n _ g
        rw [e2] at h1; cases h1
        subst h3
        by_cases c : kvs.length < sizeLine
        · rw [if_pos c] at hs
          cases hs
          obtain ⟨X', R'⟩ := written R g e2 (o' := .dct (setK kvs (.inr k) d)) (x := .dK (putK vs (.inr k) v)) ⟨_, rfl, h4.put pd⟩
          exact set_dict hu1 pins s σ H _ _ v ov iv u Q I ro ri rv ⟨p, _, rfl, .inl ⟨vs, .inr k, h2, rfl, by rw [← h4.len]; exact c, rfl⟩, h _ _ _ X' R'⟩
        · rw [if_neg c] at hs; cases hs
      · cases hs
    · cases hs
  · exact h.elim
theorem stiD_nx {a b d : D} {s : Sto} {y : Exn} {s' : Sto} : stiD a b d s ≠ .ex y s' := fun h => by
  unfold stiD at h
  repeat' split at h
  all_goals cases h
theorem so_sti (q : Cq X) {o i a : Expr} {pos pos' : Pos} {mo mi mv : En → M D} (hx : plainIx i = true) (hs : swapsWith a (some (.Subscript o i pos')) pos.line X.env = pure false) (hw : swappedStores [.Subscript o i pos'] a X.env = pure none) (ha : PE X a (tE (wd X ca) W mv)) (ho : PE X o (tE (wd X ca) W mo)) (hi : PE X i (tE (wd X ca) W mi)) :
    PS X (.Assign [.Subscript o i pos'] a pos) (tSt (wd X ca) W fun e s => thns (mv e) (fun d s1 => thns (mo e) (fun x s2 => thns (mi e) (fun y s3 => thns (stiD x y d) (fun _ s4 => .nx e s4) e s3) e s2) e s1) e s) :=
  (ps_asg ha (pg_sub ho hi (set_sti (ca := ca) q) (fun v => by cases i <;> first | rfl | cases hx)) hs hw).imp fun Dd σ H h => tSt.thns h fun F O ρ e d st v H' R E p h =>
    ⟨F, O, ρ, e, st, R, E, thns_ok E h fun x st2 vo F2 ρ2 H2 X2 R2 E2 p2 h2 _ =>
      ⟨F2, O, ρ2, e, st2, R2, E2, thns_ok E2 h2 fun y st3 vi F3 ρ3 H3 X3 R3 E3 p3 h3 _ => ⟨F3, O, ρ3, st3, x, y, d, R3, p2.later X3.f X3.r, p3, (DR.later X2.f X2.r p).later X3.f X3.r, by
        dsimp only [thns] at h3
        cases r : stiD x y d st3 with
        | ok z s4 => rw [r] at h3; exact fun F4 ρ4 H4 X4 R4 => h3 F4 O ρ4 H4 σ X4 R4 (E3.later X4)
        | ex z s4 => exact (stiD_nx r).elim
        | no => rw [r] at h3; exact h3⟩⟩⟩
/-! ### dict displays -/
def trsOf (Wo : Wd) (W : WX) (fe : FE) : List Key → Exs → List (TE × TE)
  | k :: ks, .cons a r => (tC (kV k), tE Wo W (ev fe a)) :: trsOf Wo W fe ks r
  | _, _ => []
def Exs.len : Exs → Nat
  | .nil => 0
  | .cons _ r => r.len + 1
theorem disp_pairs {Wo : Wd} {fe : FE} : ∀ {ks : List Key} {es : Exs} {F O : Hp} {ρ : Rho} {st : Sto} {H : Hp} {Q1 : List V → Hp → Prop}, ks.length = es.len → Rl Wo F O ρ st H → RE Wo F O ρ e σ → okA (fun F' ρ' => pEs Wo F' O ρ') Wo W σ F O ρ H (evs fe es e st) Q1 →
    tPairs (trsOf Wo W fe ks es) σ H fun ps H' => ∃ vs, Q1 vs H' ∧ ps = (ks.zip vs).map (fun kv => (kV kv.1, kv.2)) ∧ vs.length = ks.length
  | [], .nil, F, O, ρ, st, H, Q1, _, R, E, h => ⟨[], okA.ret h R rfl, rfl, rfl⟩
  | [], .cons _ _, _, _, _, _, _, _, hl, _, _, _ => by simp [Exs.len] at hl
  | _ :: _, .nil, _, _, _, _, _, _, hl, _, _, _ => by simp [Exs.len] at hl
  | k :: ks, .cons a r, F, O, ρ, st, H, Q1, hl, R, E, h => by
    have hl : ks.length = r.len := by simpa [Exs.len] using hl
    refine ⟨F, O, ρ, e, st, R, E, ?_⟩
    have h : okA (fun F' ρ' => pEs Wo F' O ρ') Wo W σ F O ρ H (bnd (ev fe a e) (fun x => bnd (evs fe r e) fun xs => ret (x :: xs)) st) Q1 := h
    refine okA.bnd h fun d st1 v F1 ρ1 H1 X1 R1 p1 h1 => ?_
    have g := disp_pairs (Q1 := fun vs H' => Q1 (v :: vs) H') hl R1 (E.later X1) (okA.bnd h1 fun ds st2 vs F2 ρ2 H2 X2 R2 p2 h2 => okA.ret h2 R2 ⟨v, vs, rfl, DR.later X2.f X2.r p1, p2⟩)
    have mono : ∀ {trs : List (TE × TE)} {H : Hp} {Q Q' : List (V × V) → Hp → Prop}, (∀ ps H, Q ps H → Q' ps H) → (∀ p ∈ trs, (∀ H Q Q', (∀ v H, Q v H → Q' v H) → p.1 σ H Q → p.1 σ H Q') ∧ ∀ H Q Q', (∀ v H, Q v H → Q' v H) → p.2 σ H Q → p.2 σ H Q') → tPairs trs σ H Q → tPairs trs σ H Q' := fun {trs} => by
      induction trs with
      | nil => intro H Q Q' hq _ h; exact hq _ _ h
      | cons p trs ih =>
        intro H Q Q' hq hm h
        obtain ⟨m1, m2⟩ := hm p List.mem_cons_self
        exact m1 _ _ _ (fun x H1 h1 => m2 _ _ _ (fun y H2 h2 => ih (fun ps H3 z => hq _ _ z) (fun q hq => hm q (List.mem_cons_of_mem _ hq)) h2) h1) h
    have trm : ∀ {ks : List Key} {r : Exs}, ∀ p ∈ trsOf Wo W fe ks r, (∀ H Q Q', (∀ v H, Q v H → Q' v H) → p.1 σ H Q → p.1 σ H Q') ∧ ∀ H Q Q', (∀ v H, Q v H → Q' v H) → p.2 σ H Q → p.2 σ H Q' := fun {ks} => by
      induction ks with
      | nil => intro r p hp; simp [trsOf] at hp
      | cons k ks ih =>
        intro r p hp
        cases r with
        | nil => simp [trsOf] at hp
        | cons a r =>
          simp only [trsOf, List.mem_cons] at hp
          rcases hp with rfl | hp
          · exact ⟨fun H Q Q' hq h => hq _ _ h, fun H Q Q' hq h => tA.imp hq h⟩
          · exact ih p hp
    exact mono (fun ps H' ⟨vs, q1, e1, e2⟩ => ⟨v :: vs, q1, by rw [e1]; rfl, by rw [List.length_cons, List.length_cons, e2]⟩) trm g
theorem DRk.mk {Wo : Wd} : ∀ {ks : List Key} {ds : List D} {vs : List V} {acc : List (Key × D)} {bcc : List (Key × V)}, DRs Wo F ρ ds vs → DRk Wo F ρ acc bcc → DRk Wo F ρ ((ks.zip ds).foldl (fun a p => setK a p.1 p.2) acc) ((ks.zip vs).foldl (fun a p => putK a p.1 p.2) bcc)
  | [], _, _, _, _, _, h => h
  | _ :: _, [], _, _, _, p, h => by cases p; exact h
  | k :: ks, d :: ds, vs, acc, bcc, p, h => by
    obtain ⟨v, vr, rfl, p1, p2⟩ := p
    show DRk Wo F ρ ((ks.zip ds).foldl (fun a p => setK a p.1 p.2) (setK acc k d)) ((ks.zip vr).foldl (fun a p => putK a p.1 p.2) (putK bcc k v))
    exact DRk.mk p2 (h.put p1)
/-- what is matched of a dict display's keys -/
def mtK : List Key → List (Option Expr) → Bool
  | [], ks => ks.isEmpty
  | k :: r, ks => match ks with
    | some (.Constant c _ _) :: ks => (match k, c with
      | .inl i, .int j => decide (i = j)
      | .inr x, .str y => decide (x = y)
      | _, _ => false) && mtK r ks
    | _ => false
theorem mtK_len : ∀ {ks : List Key} {es : List (Option Expr)}, mtK ks es = true → es.length = ks.length ∧ es.all (·.isSome) = true
  | [], es, h => by
    unfold mtK at h
    cases es with
    | nil => exact ⟨rfl, rfl⟩
    | cons _ _ => cases h
  | k :: r, es, h => by
    unfold mtK at h
    split at h
    · rw [Bool.and_eq_true] at h
      obtain ⟨h1, h2⟩ := mtK_len h.2
      exact ⟨by rw [List.length_cons, List.length_cons, h1], by rw [List.all_cons, h2]; rfl⟩
    · cases h
theorem re_dsp {ks : List Key} {es : Exs} {keys : List (Option Expr)} {values : List Expr} {pos : Pos} {fe : FE} (h0 : keys ≠ []) (h15 : keys.length ≤ 15) (hk : mtK ks keys = true) (hl : ks.length = es.len) (hv : values.length = es.len)
    (hp : PPs X pos keys values (trsOf (wd X ca) W fe ks es)) : PE X (.Dict keys values pos) (tE (wd X ca) W fun e => bnd (evs fe es e) fun xs => if ks.length = xs.length ∧ ks.length ≤ 15 then ret (.dct (mkD (ks.zip xs))) else no) :=
  (pe_disp hp (mtK_len hk).2 (by rw [(mtK_len hk).1, hl, hv]) h0 h15).imp fun σ H Q h => by
    obtain ⟨F, O, ρ, e, st, R, E, h⟩ := h
    intro p hp
    have op := R.own_none hp
    obtain ⟨X1, R1⟩ := ownN R hp (.dK [])
    have E1 : RE (wd X ca) F (upd O p (.dK [])) ρ e σ := E.mono (fun _ _ z => z) (fun _ _ z => z) (upd_ext op)
    dsimp only [bnd] at h
    have go : okA (fun F' ρ' => pEs (wd X ca) F' (upd O p (.dK [])) ρ') (wd X ca) W σ F (upd O p (.dK [])) ρ (upd H p (.dK [])) (evs fe es e st) fun vs H2 => ∃ ds F2 ρ2 st2, evs fe es e st = .ok ds st2 ∧ Ext F (upd O p (.dK [])) ρ (upd H p (.dK [])) F2 (upd O p (.dK [])) ρ2 H2 ∧ Rl (wd X ca) F2 (upd O p (.dK [])) ρ2 st2 H2 ∧ DRs (wd X ca) F2 ρ2 ds vs := by
      cases r : evs fe es e st with
      | ok ds st2 => exact fun v F' ρ' H' X' R' q => ⟨ds, F', ρ', st2, rfl, X', R', q⟩
      | ex y st2 =>
        rw [r] at h
        intro cls dx F' ρ' H' X' R' q
        have X3 := X1.trans X' 
        refine h cls dx F' ρ' H' ⟨X3.f, X3.r, X3.nf, X3.nr, fun a o z => .inl ⟨o, z⟩, X3.kp, X3.al⟩ ⟨R'.fz, R'.ob, R'.inj, R'.nf, R'.nx, fun a o z => R'.ow a o (upd_ext op a o z)⟩ q
      | no => rw [r] at h; exact h.elim
    have g := disp_pairs (ks := ks) hl R1 E1 go
    have mono : ∀ {trs : List (TE × TE)} {H : Hp} {Q Q' : List (V × V) → Hp → Prop}, (∀ ps H, Q ps H → Q' ps H) → (∀ p ∈ trs, (∀ H Q Q', (∀ v H, Q v H → Q' v H) → p.1 σ H Q → p.1 σ H Q') ∧ ∀ H Q Q', (∀ v H, Q v H → Q' v H) → p.2 σ H Q → p.2 σ H Q') → tPairs trs σ H Q → tPairs trs σ H Q' := fun {trs} => by
      induction trs with
      | nil => intro H Q Q' hq _ h; exact hq _ _ h
      | cons p trs ih =>
        intro H Q Q' hq hm h
        obtain ⟨m1, m2⟩ := hm p List.mem_cons_self
        exact m1 _ _ _ (fun x H1 h1 => m2 _ _ _ (fun y H2 h2 => ih (fun ps H3 z => hq _ _ z) (fun q hq => hm q (List.mem_cons_of_mem _ hq)) h2) h1) h
    have trm : ∀ {ks : List Key} {r : Exs}, ∀ p ∈ trsOf (wd X ca) W fe ks r, (∀ H Q Q', (∀ v H, Q v H → Q' v H) → p.1 σ H Q → p.1 σ H Q') ∧ ∀ H Q Q', (∀ v H, Q v H → Q' v H) → p.2 σ H Q → p.2 σ H Q' := fun {ks} => by
      induction ks with
      | nil => intro r p hp; simp [trsOf] at hp
      | cons k ks ih =>
        intro r p hp
        cases r with
        | nil => simp [trsOf] at hp
        | cons a r =>
          simp only [trsOf, List.mem_cons] at hp
          rcases hp with rfl | hp
          · exact ⟨fun H Q Q' hq h => hq _ _ h, fun H Q Q' hq h => tA.imp hq h⟩
          · exact ih p hp
    refine mono (fun ps H2 ⟨vs, ⟨ds, F2, ρ2, st2, r, X2, R2, q2⟩, e1, e2⟩ => ?_) trm g
    rw [r] at h
    have h : okA (fun F' ρ' => pE (wd X ca) F' O ρ') (wd X ca) W σ F O ρ H ((if ks.length = ds.length ∧ ks.length ≤ 15 then ret (.dct (mkD (ks.zip ds))) else no : M D) st2) Q := h
    by_cases c : ks.length = ds.length ∧ ks.length ≤ 15
    · rw [if_pos c] at h
      refine ⟨(R2.ow p _ upd_same).1, ks.zip vs, e1, by rw [List.length_zip]; omega, ?_⟩
      obtain ⟨X3, R3⟩ := ownW R2 (p := p) upd_same (.dK (mergeK [] (ks.zip vs)))
      obtain ⟨X4, R4⟩ := frzO R3 (p := p) upd_same
      rw [upd_upd] at X3 R3 X4 R4
      rw [del_upd op] at X4 R4
      have q3 : DRk (wd X ca) F2 ρ2 (mkD (ks.zip ds)) (mergeK [] (ks.zip vs)) := DRk.mk q2 rfl
      exact h (.ref p) _ ρ2 _ (((X1.trans X2).trans X3).trans X4) R4 ⟨p, _, rfl, .inl upd_same, q3.later X4.f X4.r⟩
    · rw [if_neg c] at h; exact h.elim
theorem re_ndc {pos : Pos} : PE X (.Dict [] [] pos) (tE (wd X ca) W fun _ => fun s => .ok (.ref s.nx) (s.new (.dct []))) :=
  pe_dnewK.imp fun σ H Q h => by
    obtain ⟨F, O, ρ, e, st, R, E, h⟩ := h
    intro p hp
    obtain ⟨X', R'⟩ := stored R hp (x := .dK []) (o := .dct []) ⟨[], rfl, rfl⟩
    exact h (.ref p) _ _ _ X' R' ⟨p, rfl, if_pos rfl⟩
end
end Ev

set_option Elab.async false
set_option linter.all false
set_option maxRecDepth 100000
set_option maxHeartbeats 1000000
/-! EvQ: instances of own classes: attributes, methods, new ones. -/
namespace Ev
open PySem PySem.Spec PyProof.Rows L2
section
variable {Wo : Wd} {F O : Hp} {ρ : Rho} {st : Sto} {H : Hp}
theorem getF_at : ∀ {fs : List (Nat × D)} {vs : List (Str × V)} {f : Nat} {d : D}, fs.map (fun p => fnm p.1) = vs.map (·.1) → DRs Wo F ρ (fs.map (·.2)) (vs.map (·.2)) → getF f fs = some d → ∃ v, vs.lookup (fnm f) = some v ∧ DR Wo F ρ d v
  | [], vs, f, d, _, _, e => by cases e
  | (g, x) :: r, [], f, d, h, _, _ => by cases h
  | (g, x) :: r, (y, v) :: vs, f, d, h, t, e => by
    rw [List.map_cons, List.map_cons, List.cons.injEq] at h
    obtain ⟨v', vr, e2, p, t'⟩ := t
    obtain ⟨rfl, rfl⟩ := List.cons.inj e2
    unfold getF at e
    by_cases c : g = f
    · rw [if_pos c] at e
      cases e
      refine ⟨v, ?_, p⟩
      have hy : fnm g = y := h.1
      rw [List.lookup_cons, ← hy, c, beq_self_eq_true]
    · rw [if_neg c] at e
      obtain ⟨w, h1, h2⟩ := getF_at h.2 t' e
      refine ⟨w, ?_, h2⟩
      have : (fnm f == y) = false := beq_eq_false_iff_ne.mpr fun z => c (fnm_inj (h.1.trans z.symm))
      rw [List.lookup_cons, this]; exact h1
theorem getF_none : ∀ {fs : List (Nat × D)} {vs : List (Str × V)} {f : Nat}, fs.map (fun p => fnm p.1) = vs.map (·.1) → getF f fs = none → vs.lookup (fnm f) = none
  | [], [], f, _, _ => rfl
  | [], _ :: _, f, h, _ => by cases h
  | (g, x) :: r, [], f, h, _ => by cases h
  | (g, x) :: r, (y, v) :: vs, f, h, e => by
    rw [List.map_cons, List.map_cons, List.cons.injEq] at h
    unfold getF at e
    by_cases c : g = f
    · rw [if_pos c] at e; cases e
    · rw [if_neg c] at e
      have : (fnm f == y) = false := beq_eq_false_iff_ne.mpr fun z => c (fnm_inj (h.1.trans z.symm))
      rw [List.lookup_cons, this]; exact getF_none h.2 e
theorem setF_at : ∀ {fs : List (Nat × D)} {vs : List (Str × V)} {f : Nat} {d : D} {v : V}, fs.map (fun p => fnm p.1) = vs.map (·.1) → DRs Wo F ρ (fs.map (·.2)) (vs.map (·.2)) → DR Wo F ρ d v →
    (setF f d fs).map (fun p => fnm p.1) = (putF (fnm f) v vs).map (·.1) ∧ DRs Wo F ρ ((setF f d fs).map (·.2)) ((putF (fnm f) v vs).map (·.2))
  | [], [], f, d, v, _, _, p => ⟨rfl, v, [], rfl, p, rfl⟩
  | [], _ :: _, f, d, v, h, _, _ => by cases h
  | (g, x) :: r, [], f, d, v, h, _, _ => by cases h
  | (g, x) :: r, (y, w) :: vs, f, d, v, h, t, p => by
    rw [List.map_cons, List.map_cons, List.cons.injEq] at h
    obtain ⟨v', vr, e2, p', t'⟩ := t
    obtain ⟨rfl, rfl⟩ := List.cons.inj e2
    unfold setF putF
    by_cases c : g = f
    · have c2 : y = fnm f := by rw [← c]; exact h.1.symm
      rw [if_pos c, if_pos c2]
      refine ⟨?_, v, _, rfl, p, t'⟩
      rw [List.map_cons, List.map_cons, h.1, h.2]
    · have c2 : ¬ y = fnm f := fun z => c (fnm_inj (h.1.trans z))
      rw [if_neg c, if_neg c2]
      obtain ⟨h1, h2⟩ := setF_at h.2 t' p
      refine ⟨?_, w, _, rfl, p', h2⟩
      rw [List.map_cons, List.map_cons, h.1, h1]
theorem ins_at {n C : Nat} {fs : List (Nat × D)} {a : Addr} (R : Rl Wo F O ρ st H) (e : ρ n = some a) (g : st.get n = some (.ins C fs)) :
    ∃ dx vs, H a = some (.ins (Wo.ca C) dx vs) ∧ fs.map (fun p => fnm p.1) = vs.map (·.1) ∧ DRs Wo F ρ (fs.map (·.2)) (vs.map (·.2)) := by
  obtain ⟨b, ho, h1, h2, h3⟩ := R.ob n _ g
  rw [e] at h1; cases h1
  obtain ⟨dx, vs, h4, h5, h6⟩ := h3
  subst h4
  exact ⟨dx, vs, h2, h5, h6⟩
/-- an address that only the heap tells -/
theorem aside (R : Rl Wo F O ρ st H) {p : Addr} (hp : H p = none) (o : HO) : Ext F O ρ H F O ρ (upd H p o) ∧ Rl Wo F O ρ st (upd H p o) := by
  have hh : ∀ a u, H a = some u → upd H p o a = some u := fun a u h => by rw [upd_ne (ne_of_none h hp)]; exact h
  refine ⟨⟨fun _ _ h => h, fun _ _ h => h, fun _ _ h => .inl h, fun _ _ h => .inl h, fun a u h => .inl ⟨u, h⟩, fun a u h _ _ => hh a u h, fun a u h => ⟨u, hh a u h⟩⟩,
    ⟨fun a u h => hh a u (R.fz a u h), fun n u h => ?_, R.inj, fun n a h => ?_, R.nx, fun a u h => ?_⟩⟩
  · obtain ⟨a, x, h1, h2, h3⟩ := R.ob n u h
    exact ⟨a, x, h1, hh a x h2, h3⟩
  · obtain ⟨h1, x, h2⟩ := R.nf n a h
    exact ⟨h1, x, hh a x h2⟩
  · obtain ⟨h1, h2, h3⟩ := R.ow a u h
    exact ⟨hh a u h1, h2, h3⟩
end
section
variable {X : Cx} {ca : Nat → Addr} {W : WX} {F O : Hp} {ρ : Rho} {st : Sto} {H : Hp} {e : En} {σ : L2.St}
/-- o.f -/
theorem re_fld {o : Expr} {f : Nat} {cs : List Nat} {pos : Pos} {m : En → M D} (hb : attributeBase o (fnm f) X.env (eval o X.env) = eval o X.env) (hc : ∀ C, cs.contains C = true → Cls X.K (ca C) ∧ NoAttr X.K (ca C) (fnm f)) (he : PE X o (tE (wd X ca) W m)) :
    PE X (.Attribute o (fnm f) pos) (tE (wd X ca) W fun en => bnd (m en) (fldM f cs)) :=
  (pe_fld he hb).imp fun σ H Q h => h.bnd fun F O ρ e d st v H1 R E p h1 => by
    cases d with
    | ref n =>
      obtain ⟨a, e1, e2⟩ := p
      unfold fldM at h1
      dsimp only at h1
      cases g : st.get n with
      | none => rw [g] at h1; exact h1.elim
      | some ob =>
        rw [g] at h1
        cases ob with
        | ins C fs =>
          dsimp only at h1
          by_cases c : cs.contains C = true
          · rw [if_pos c] at h1
            cases k : getF f fs with
            | none => rw [k] at h1; exact h1.elim
            | some d =>
              rw [k] at h1
              obtain ⟨dx, vs, h2, h3, h4⟩ := ins_at R e2 g
              obtain ⟨w, h5, h6⟩ := getF_at h3 h4 k
              exact ⟨a, ca C, dx, vs, w, e1, h2, (hc C c).1, (hc C c).2, h5, okA.ok h1 Ext.refl R h6⟩
          · rw [if_neg c] at h1; exact h1.elim
        | _ => exact h1.elim
    | _ => exact h1.elim
theorem putM_nx {f : Nat} {cs : List Nat} {x d : D} {s : Sto} {y : Exn} {s' : Sto} : putM f cs x d s ≠ .ex y s' := fun h => by
  unfold putM at h
  repeat' split at h
  all_goals cases h
/-- what a store to an attribute does -/
theorem putM_at {f : Nat} {cs : List Nat} {x d : D} {o v : V} {st st' : Sto} (R : Rl (wd X ca) F O ρ st H) (po : DR (wd X ca) F ρ x o) (pd : DR (wd X ca) F ρ d v) (h : putM f cs x d st = .ok () st') :
    ∃ a C dx vs, o = .ref a ∧ cs.contains C = true ∧ H a = some (.ins (ca C) dx vs) ∧ vs.length < 1000 ∧ Ext F O ρ H F O ρ (upd H a (.ins (ca C) dx (putF (fnm f) v vs))) ∧ Rl (wd X ca) F O ρ st' (upd H a (.ins (ca C) dx (putF (fnm f) v vs))) := by
  cases x with
  | ref n =>
    obtain ⟨a, e1, e2⟩ := po
    unfold putM at h
    dsimp only at h
    cases g : st.get n with
    | none => rw [g] at h; cases h
    | some ob =>
      rw [g] at h
      cases ob with
      | ins C fs =>
        dsimp only at h
        by_cases c : cs.contains C = true ∧ fs.length < 1000
        · rw [if_pos c] at h
          cases h
          obtain ⟨dx, vs, h2, h3, h4⟩ := ins_at R e2 g
          obtain ⟨h5, h6⟩ := setF_at (f := f) h3 h4 pd
          have hl : vs.length = fs.length := by have := congrArg List.length h3; simpa using this.symm
          obtain ⟨X', R'⟩ := written R g e2 (o' := .ins C (setF f d fs)) (x := .ins (ca C) dx (putF (fnm f) v vs)) ⟨dx, _, rfl, h5, h6⟩
          exact ⟨a, C, dx, vs, e1, c.1, h2, by rw [hl]; exact c.2, X', R'⟩
        · rw [if_neg c] at h; cases h
      | _ => cases h
  | _ => cases h
/-- what is between an instance and its method's call -/
theorem callee_few {few : Bool} {o : Expr} {env : Env} {ov : Value} {m : Str} (h : few = true) : calleeOf few o env ov m = getMethod ov m (do return (← importBound o env).getD true) := by subst h; rfl
theorem met_tree {o : Expr} {m : Str} {apos pos : Pos} {args : List Expr} {a : Addr} {A : Around} {env : Env} {prog : Program} {w : World} {E Q : Value → Shared → Prop} {s : Shared} {g : Addr} (hb : attributeBase o m env (eval o env) = eval o env) (hn : args.all ns = true) (hl : args.length < 29) (hline : (apos.endLine == pos.line) = true)
    (h : wpAny (model prog w) A (eval o env) (fun ov s1 => wpAny (model prog w) A (getMethod ov m (do return (← importBound o env).getD true)) (fun fx s2 => wpAny (model prog w) A (callWith pos fx.1 fx.2 (backTo pos (starEach args env)) (backToKw pos (keywordEach [] env))) Q E s2) E s1) E s) :
    wpAny (model prog w) A (eval (.Call (.Attribute o m apos) args [] pos) env) Q E s := by
  rw [arm_eval_Call, hb]
  refine wpAny_bind (wpAny_mono h (fun ov s₁ h₁ => ?_) fun _ _ e => e)
  refine wpAny_bind (wpAny_standAt ?_)
  have hform : methodCallForm (args.length + ([] : List Keyword).length) (backTo pos (starEach args env)) (backToKw pos (keywordEach [] env)) = true := by
    show ((backTo pos (starEach args env)).all (fun x => !x.1) && (backToKw pos (keywordEach [] env)).all (fun x => x.1.isSome) && decide (args.length + ([] : List Keyword).length + (if ([] : List Keyword).isEmpty then 0 else 1) < 30)) = true
    rw [star_all hn]
    have : decide (args.length + ([] : List Keyword).length + (if ([] : List Keyword).isEmpty then 0 else 1) < 30) = true := decide_eq_true (by
      show args.length + 0 + 0 < 30
      omega)
    rw [this]; rfl
  have hpos : methodCallPos true o env apos pos = pure pos := by unfold methodCallPos; simp [hline]
  unfold methodCall
  rw [hform, callee_few rfl, hpos]
  refine wpAny_bind (wpAny_holding (wpAny_mono h₁ (fun fx s₂ h₂ => ?_) fun _ _ e => e))
  exact wpAny_bind (wpAny_pure h₂)
theorem rcvM_at {n : Nat} {tab : List (Nat × Nat)} {d : D} {v : V} {f : Nat} {st st' : Sto} (R : Rl (wd X ca) F O ρ st H) (p : DR (wd X ca) F ρ d v) (h : rcvM n tab d st = .ok f st') :
    st' = st ∧ ∃ a C dx vs, v = .ref a ∧ lookN C tab = some f ∧ H a = some (.ins (ca C) dx vs) ∧ vs.lookup (fnm n) = none := by
  cases d with
  | ref k =>
    obtain ⟨a, e1, e2⟩ := p
    unfold rcvM at h
    dsimp only at h
    cases g : st.get k with
    | none => rw [g] at h; cases h
    | some ob =>
      rw [g] at h
      cases ob with
      | ins C fs =>
        dsimp only at h
        obtain ⟨dx, vs, h2, h3, h4⟩ := ins_at R e2 g
        cases q : getF n fs with
        | some _ => rw [q] at h; cases h
        | none =>
          rw [q] at h
          cases q2 : lookN C tab with
          | none => rw [q2] at h; cases h
          | some f' =>
            rw [q2] at h
            cases h
            exact ⟨rfl, a, C, dx, vs, e1, q2, h2, getF_none h3 q⟩
      | _ => cases h
  | _ => cases h
theorem rcvM_nx {n : Nat} {tab : List (Nat × Nat)} {d : D} {s s' : Sto} {y : Exn} : rcvM n tab d s ≠ .ex y s' := fun h => by
  unfold rcvM at h
  repeat' split at h
  all_goals cases h
/-- what stands behind a method: a def -/
def Meths (X : Cx) (ca : Nat → Addr) (k : Nat) (cf : Nat → List D → M D) (m : Nat) (tab : List (Nat × Nat)) (n : Nat) : Prop := ∀ C f, lookN C tab = some f → Cls X.K (ca C) ∧ ∃ g fd ps, Meth X.K (ca C) (fnm m) g ∧ ps.length = n + 1 ∧ FnG X.prog X.w X.K X.mg X.base k g fd ps (spD (wd X ca) ps.length (cf f)) ∧
  ∀ (s : Shared) (us : List Value), us.length = ps.length → BindsTo s fd ⟨us, []⟩ (ps.zip us)
theorem re_met0 {k : Nat} {cf : Nat → List D → M D} {m : Nat} {tab : List (Nat × Nat)} {o : Expr} {apos pos : Pos} {mo : En → M D} (tk : Takes X W) (hgd : X.A.guards = some []) (hr : Room k X.A) (hT : Meths X ca k cf m tab 0)
    (hb : attributeBase o (fnm m) X.env (eval o X.env) = eval o X.env) (hline : (apos.endLine == pos.line) = true) (ho : PE X o (tE (wd X ca) W mo)) :
    PE X (.Call (.Attribute o (fnm m) apos) [] [] pos) (tE (wd X ca) W fun e => bnd (mo e) fun x => bnd (rcvM m tab x) fun f => bnd (ret []) fun xs => cf f (x :: xs)) := by
  refine ⟨fun pins s σ H Q I h => ?_⟩
  refine met_tree (a := 0) (g := 0) hb rfl (by decide) hline (L2.thn (ho.run pins s σ H (fun v H1 => ∃ F O ρ st d, Rl (wd X ca) F O ρ st H1 ∧ DR (wd X ca) F ρ d v ∧ okA (fun F' ρ' => DR (wd X ca) F' ρ') (wd X ca) W σ F O ρ H1 (bnd (rcvM m tab d) (fun f => cf f [d]) st) Q) I
    (h.bnd fun F O ρ e d st v H1 R E p h1 => ⟨F, O, ρ, st, d, R, p, h1⟩)) fun v s1 ⟨x, H1, I1, r1, F, O, ρ, st, d, R, p, h1⟩ => ?_)
  cases c : rcvM m tab d st with
  | ok f st' =>
    obtain ⟨rfl, a, C, dx, vs, e1, h2, h3, h4⟩ := rcvM_at R p c
    subst e1
    obtain rfl : v = Value.ref a := r1
    obtain ⟨hcl, g, fd, ps, hm, hl, G, hbd⟩ := hT C f h2
    refine getmeth_ok I1 h3 hcl hm h4 ?_
    have h1 : okA (fun F' ρ' => DR (wd X ca) F' ρ') (wd X ca) W σ F O ρ H1 (cf f [d] st') Q := by
      dsimp only [bnd] at h1
      rw [c] at h1
      exact h1
    exact PySem.W.callWith_K0 (first := [.ref a]) I1.kIn hm.kp (call_fn (us := [.ref a]) (vs := [.ref a]) (ds := [d]) tk hgd hr G hbd I1 (.cons rfl .nil) (by rw [hl]; rfl) R ⟨_, _, rfl, p, rfl⟩ h1)
  | ex y st' => exact (rcvM_nx c).elim
  | no =>
    dsimp only [bnd] at h1
    rw [c] at h1
    exact h1.elim
theorem re_met {k : Nat} {cf : Nat → List D → M D} {m n : Nat} {tab : List (Nat × Nat)} {o a : Expr} {es : List Expr} {apos pos : Pos} {mo : En → M D} {ms : En → M (List D)} (tk : Takes X W) (hgd : X.A.guards = some []) (hr : Room k X.A) (hT : Meths X ca k cf m tab n)
    (hb : attributeBase o (fnm m) X.env (eval o X.env) = eval o X.env) (hline : (apos.endLine == pos.line) = true) (hn : (a :: es).all ns = true) (hl29 : (a :: es).length < 29) (hlen : ∀ e s ds s', ms e s = .ok ds s' → ds.length = n)
    (ho : PE X o (tE (wd X ca) W mo)) (ha : PA X (a :: es) (tEs (wd X ca) W ms)) :
    PE X (.Call (.Attribute o (fnm m) apos) (a :: es) [] pos) (tE (wd X ca) W fun e => bnd (mo e) fun x => bnd (rcvM m tab x) fun f => bnd (ms e) fun xs => cf f (x :: xs)) := by
  have hn' := hn
  rw [List.all_cons, Bool.and_eq_true] at hn
  refine ⟨fun pins s σ H Q I h => ?_⟩
  refine met_tree (a := 0) (g := 0) hb hn' hl29 hline (L2.thn (ho.run pins s σ H (fun v H1 => ∃ F O ρ e st d, Rl (wd X ca) F O ρ st H1 ∧ RE (wd X ca) F O ρ e σ ∧ DR (wd X ca) F ρ d v ∧ okA (fun F' ρ' => DR (wd X ca) F' ρ') (wd X ca) W σ F O ρ H1 (bnd (rcvM m tab d) (fun f => bnd (ms e) fun xs => cf f (d :: xs)) st) Q) I
    (h.bnd fun F O ρ e d st v H1 R E p h1 => ⟨F, O, ρ, e, st, d, R, E, p, h1⟩)) fun v s1 ⟨x, H1, I1, r1, F, O, ρ, e, st, d, R, E, p, h1⟩ => ?_)
  cases c : rcvM m tab d st with
  | ok f st' =>
    obtain ⟨rfl, a1, C, dx, vs, e1, h2, h3, h4⟩ := rcvM_at R p c
    subst e1
    obtain rfl : v = Value.ref a1 := r1
    obtain ⟨hcl, g, fd, ps, hm, hl, G, hbd⟩ := hT C f h2
    refine getmeth_ok I1 h3 hcl hm h4 ?_
    have h1 : okA (fun F' ρ' => DR (wd X ca) F' ρ') (wd X ca) W σ F O ρ H1 (bnd (ms e) (fun xs => cf f (d :: xs)) st') Q := by
      dsimp only [bnd] at h1
      rw [c] at h1
      exact h1
    have hA : tEs (wd X ca) W ms σ H1 fun us H2 => ∃ F O ρ st ds, Rl (wd X ca) F O ρ st H2 ∧ DRs (wd X ca) F ρ (d :: ds) (.ref a1 :: us) ∧ (d :: ds).length = ps.length ∧ okA (fun F' ρ' => DR (wd X ca) F' ρ') (wd X ca) W σ F O ρ H2 (cf f (d :: ds) st) Q :=
      ⟨F, O, ρ, e, st', R, E, okA.bndE h1 fun ds st2 v2 F2 ρ2 H2 X2 R2 p2 h2 q => ⟨F2, O, ρ2, st2, ds, R2, ⟨_, _, rfl, DR.later X2.f X2.r p, p2⟩, by rw [hl, List.length_cons, hlen e st' ds st2 q], h2⟩⟩
    refine PySem.W.callWith_K (first := [.ref a1]) (h₀ := X.base) I1.ok.mod.kin hm.kp (L2.thn (ha.run pos pins s1 σ H1 _ I1 hA) fun us s2 ⟨vs, H2, I2, r, F, O, ρ, st, ds, R, p, l, q⟩ => ⟨I2.kIn, ?_⟩) (star_cons hn.1) (star_plain hn.2)
    exact call_fn (us := .ref a1 :: us) (vs := .ref a1 :: vs) tk hgd hr G hbd I2 (.cons rfl r) l R p q
  | ex y st' => exact (rcvM_nx c).elim
  | no =>
    dsimp only [bnd] at h1
    rw [c] at h1
    exact h1.elim
/-- a new instance, and its __init__ -/
theorem run_mk {k C : Nat} {cf : List D → M D} {g : Addr} {fd : FuncData} {ps : List Str} {pins : List (Addr × Obj)} {s : Shared} {us : List Value} {vs : List V} {ds : List D} {Q : VK} (tk : Takes X W) (hgd : X.A.guards = some []) (hr : Room (k + 1) X.A) (M : Mk X.K (ca C) g)
    (G : FnG X.prog X.w X.K X.mg X.base k g fd ps (spD (wd X ca) ps.length cf)) (hb : ∀ (s : Shared) (us : List Value), us.length = ps.length → BindsTo s fd ⟨us, []⟩ (ps.zip us))
    (I : Inv X pins σ H s) (r : Vals vs us) (hl : ds.length + 1 = ps.length) (R : Rl (wd X ca) F O ρ st H) (p : DRs (wd X ca) F ρ ds vs) (h : okA (fun F' ρ' => DR (wd X ca) F' ρ') (wd X ca) W σ F O ρ H (mkM C cf ds st) Q) :
    wpAny (model X.prog X.w) X.A (call (.ref (ca C)) us) (EP X pins σ Q) X.xe s := by
  have hx : H (s.heap.objs.size + 1) = none := I.hok.fresh (Nat.le_succ _)
  have hd : H s.heap.objs.size = none := I.hok.fresh (Nat.le_refl _)
  have ne : s.heap.objs.size + 1 ≠ s.heap.objs.size := Nat.succ_ne_self _
  have I2 := Inv.made (C := ca C) I
  obtain ⟨X1, R1⟩ := aside R hd (.own (s.heap.objs.size + 1))
  obtain ⟨X2, R2⟩ := stored R1 (p := s.heap.objs.size + 1) (by rw [upd_ne ne]; exact hx) (o := .ins C []) (x := .ins (ca C) s.heap.objs.size []) ⟨_, _, rfl, rfl, rfl⟩
  have X12 := X1.trans X2
  have p2 : DRs (wd X ca) F (fun k => if k = st.nx then some (s.heap.objs.size + 1) else ρ k) (.ref st.nx :: ds) (.ref (s.heap.objs.size + 1) :: vs) := ⟨_, _, rfl, ⟨_, rfl, if_pos rfl⟩, p.later X12.f X12.r⟩
  have l1 : (V.ref (s.heap.objs.size + 1) :: vs).length = ps.length := by rw [← p2.len]; exact hl
  have r2 : Vals (V.ref (s.heap.objs.size + 1) :: vs) (Value.ref (s.heap.objs.size + 1) :: us) := .cons rfl r
  have l2 : (Value.ref (s.heap.objs.size + 1) :: us).length = ps.length := by rw [← r2.length]; exact l1
  have h' : okA (fun F' ρ' => DR (wd X ca) F' ρ') (wd X ca) W σ F O (fun k => if k = st.nx then some (s.heap.objs.size + 1) else ρ k) (upd (upd H s.heap.objs.size (.own (s.heap.objs.size + 1))) (s.heap.objs.size + 1) (.ins (ca C) s.heap.objs.size [])) (cf (.ref st.nx :: ds) (st.new (.ins C [])))
      (fun v H2 => v = .non ∧ Q (.ref (s.heap.objs.size + 1)) H2) := by
    unfold mkM at h
    cases q : cf (.ref st.nx :: ds) (st.new (.ins C [])) with
    | ok d s1 =>
      rw [q] at h
      cases d with
      | non => exact fun v F3 ρ3 H3 X3 R3 e => ⟨e, h _ F3 ρ3 H3 (X12.trans X3) R3 ⟨_, rfl, X3.r _ _ (if_pos rfl)⟩⟩
      | _ => exact h.elim
    | ex y s1 =>
      rw [q] at h
      exact fun cls dx F3 ρ3 H3 X3 R3 p3 => h cls dx F3 ρ3 H3 (X12.trans X3) R3 p3
    | no => rw [q] at h; exact h.elim
  have sp : spD (wd X ca) ps.length cf (.ref (s.heap.objs.size + 1) :: vs) (upd (upd H s.heap.objs.size (.own (s.heap.objs.size + 1))) (s.heap.objs.size + 1) (.ins (ca C) s.heap.objs.size [])) (fun v H2 => v = .non ∧ Q (.ref (s.heap.objs.size + 1)) H2) (WE W σ) := by
    refine ⟨l1, F, _, _, _, R2.drop, p2, ?_⟩
    have h'' := okA.drop R2 h'
    cases q : cf (.ref st.nx :: ds) (st.new (.ins C [])) with
    | ok d s1 => rw [q] at h''; exact h''
    | ex y s1 => rw [q] at h''; exact h''
    | no => rw [q] at h''; exact h''
  refine wpAny_call (make_map (f := g) I.kIn M.makes M.init (beq_iff_eq.mp M.fn) (codeAny_mono (G.run _ X.stack _ _ ⟨Value.ref (s.heap.objs.size + 1) :: us, []⟩ (Value.ref (s.heap.objs.size + 1) :: us) _ _ (WE W σ) ?_ (hr.make (ca C) us [])
    (I2.env0.make (ca C) us []) l1 (hb _ _ l2) r2 sp) fun res s' hq => ?_))
  · exact hgd
  · rcases res with e | (u | _ | _ | _)
    · exact passAt tk σ pins _ _ e s' I2 hq
    · exact hq.elim
    · exact hq.elim
    · exact hq.elim
    · rename_i u
      obtain ⟨v, H', I3, rv, ev, q3⟩ := I2.after hq
      subst ev
      exact ⟨rv, ⟨V.ref (s.heap.objs.size + 1), H', I3, rfl, q3⟩⟩
theorem re_mk {k C n : Nat} {cf : List D → M D} {g : Addr} {fd : FuncData} {ps : List Str} {x : Str} {a : Expr} {es : List Expr} {p pos : Pos} {ms : En → M (List D)} (tk : Takes X W) (hgd : X.A.guards = some []) (hr : Room (k + 1) X.A) (M : Mk X.K (ca C) g)
    (G : FnG X.prog X.w X.K X.mg X.base k g fd ps (spD (wd X ca) ps.length cf)) (hb : ∀ (s : Shared) (us : List Value), us.length = ps.length → BindsTo s fd ⟨us, []⟩ (ps.zip us)) (hps : ps.length = n + 1)
    (hg : Gl X x) (hm : X.mg x = some (.ref (ca C))) (hdb : (x == ("__debug__" : Str)) = false) (hn : (a :: es).all ns = true) (hl : ∀ e s ds s', ms e s = .ok ds s' → ds.length = n)
    (ha : PA X (a :: es) (tEs (wd X ca) W ms)) : PE X (.Call (.Name x p) (a :: es) [] pos) (tE (wd X ca) W fun e => bnd (ms e) (mkM C cf)) := by
  rw [List.all_cons, Bool.and_eq_true] at hn
  refine ⟨fun pins s σ H Q I h => ?_⟩
  refine wpAny_Call_Name_kw (ld_glob I hg hm ?_ hdb)
  have hA : tEs (wd X ca) W ms σ H fun vs H1 => ∃ F O ρ st ds, Rl (wd X ca) F O ρ st H1 ∧ DRs (wd X ca) F ρ ds vs ∧ ds.length + 1 = ps.length ∧ okA (fun F' ρ' => DR (wd X ca) F' ρ') (wd X ca) W σ F O ρ H1 (mkM C cf ds st) Q := by
    obtain ⟨F, O, ρ, e, st, R, E, h⟩ := h
    refine ⟨F, O, ρ, e, st, R, E, ?_⟩
    have h : okA (fun F' ρ' => pE (wd X ca) F' O ρ') (wd X ca) W σ F O ρ H (bnd (ms e) (mkM C cf) st) Q := h
    exact okA.bndE h fun ds st2 v F2 ρ2 H2 X2 R2 p2 h2 q => ⟨F2, O, ρ2, st2, ds, R2, p2, by rw [hl e st ds st2 q, hps], h2⟩
  refine PySem.W.callWith_K (h₀ := X.base) I.ok.mod.kin M.kp (L2.thn (ha.run pos pins s σ H _ I hA) fun us s1 ⟨vs, H1, I1, r, F, O, ρ, st, ds, R, p, l, q⟩ => ⟨I1.kIn, ?_⟩) (star_cons hn.1) (star_plain hn.2)
  exact run_mk tk hgd hr M G hb I1 r l R p q
theorem re_mk0 {k C : Nat} {cf : List D → M D} {g : Addr} {fd : FuncData} {ps : List Str} {x : Str} {p pos : Pos} (tk : Takes X W) (hgd : X.A.guards = some []) (hr : Room (k + 1) X.A) (M : Mk X.K (ca C) g)
    (G : FnG X.prog X.w X.K X.mg X.base k g fd ps (spD (wd X ca) ps.length cf)) (hb : ∀ (s : Shared) (us : List Value), us.length = ps.length → BindsTo s fd ⟨us, []⟩ (ps.zip us)) (hps : ps.length = 0 + 1)
    (hg : Gl X x) (hm : X.mg x = some (.ref (ca C))) (hdb : (x == ("__debug__" : Str)) = false) : PE X (.Call (.Name x p) [] [] pos) (tE (wd X ca) W fun _ => bnd (ret []) (mkM C cf)) := by
  refine ⟨fun pins s σ H Q I h => ?_⟩
  refine wpAny_Call_Name_kw (ld_glob I hg hm ?_ hdb)
  obtain ⟨F, O, ρ, e, st, R, E, h⟩ := h
  exact PySem.W.callWith_K0 I.kIn M.kp (run_mk (us := []) (vs := []) (ds := []) tk hgd hr M G hb I .nil hps.symm R rfl h)
/-- o.f = e -/
theorem so_fst {o a : Expr} {f : Nat} {cs : List Nat} {pos pos' : Pos} {mo mv : En → M D} (hc : ∀ C, cs.contains C = true → Cls X.K (ca C) ∧ NoAttr X.K (ca C) (fnm f)) (hs : swapsWith a (some (.Attribute o (fnm f) pos')) pos.line X.env = pure false) (ha : PE X a (tE (wd X ca) W mv)) (ho : PE X o (tE (wd X ca) W mo)) :
    PS X (.Assign [.Attribute o (fnm f) pos'] a pos) (tSt (wd X ca) W fun e s => thns (mv e) (fun d s1 => thns (mo e) (fun x s2 => thns (putM f cs x d) (fun _ s3 => .nx e s3) e s2) e s1) e s) :=
  (ps_fld ho ha hs).imp fun Dd σ H h => tSt.thns h fun F O ρ e d st v H' R E p h =>
    ⟨F, O, ρ, e, st, R, E, thns_ok E h fun x st2 vo F2 ρ2 H2 X2 R2 E2 p2 h2 _ => by
      dsimp only [thns] at h2
      cases r : putM f cs x d st2 with
      | ok z s4 =>
        rw [r] at h2
        obtain ⟨b, C, dx, vs, e1, h3, h4, h5, X', R'⟩ := putM_at (f := f) (cs := cs) R2 p2 (DR.later X2.f X2.r p) r
        exact ⟨b, ca C, dx, vs, e1, h4, (hc C h3).1, (hc C h3).2, h5, h2 _ _ _ _ σ X' R' (E2.later X')⟩
      | ex z s4 => exact (putM_nx r).elim
      | no => rw [r] at h2; exact h2.elim⟩
end
end Ev

set_option Elab.async false
set_option linter.all false
set_option maxRecDepth 100000
set_option maxHeartbeats 1000000
/-! EvR: tuples put into names and attributes. -/
namespace Ev
open PySem PySem.Spec PyProof.Rows L2
section
variable {X : Cx} {ca : Nat → Addr} {W : WX} {F O : Hp} {ρ : Rho} {st : Sto} {H : Hp} {e : En} {σ : L2.St}
def gFld (K : PySem.W.Frag) (to : TE) (f : Str) : TG := fun v σ H Q => to σ H fun x H1 => ∃ a C dx fs, x = .ref a ∧ H1 a = some (.ins C dx fs) ∧ Cls K C ∧ NoAttr K C f ∧ fs.length < 1000 ∧ Q σ (upd H1 a (.ins C dx (putF f v fs)))
theorem pg_fld {o : Expr} {f : Str} {pos : Pos} {to : TE} (ho : PE X o to) : PG X (.Attribute o f pos) (gFld X.K to f) := by
  refine ⟨fun pins s σ H v u Q I r h => ?_⟩
  rw [arm_assign_Attribute]
  refine wpAny_bind (wpAny_holding (L2.thn (ho.run pins s σ H _ I h) fun ov s1 ⟨x, H1, I1, r1, a, C, dx, fs, ex, ea, c, n, l, q⟩ => ?_))
  subst ex
  obtain rfl : ov = Value.ref a := r1
  refine wpAny_bind (wpAny_standAt (wpAny_bind (wpAny_holding (setattr_ok I1 ea c n l r fun s2 I2 => ?_))))
  exact wpAny_release ⟨σ, _, I2, q⟩
def gTg (X : Cx) (ca : Nat → Addr) (W : WX) : Tg → TG
  | .nm i => gName i
  | .fl i f _ => gFld X.K (tE (wd X ca) W fun e => rdv e i) (fnm f)
def gTgs (X : Cx) (ca : Nat → Addr) (W : WX) : Tgs → TGs
  | [] => gNil
  | t :: ts => gCons (gTg X ca W t) (gTgs X ca W ts)
/-- what a target of attributes wants of its class -/
def TgOk (X : Cx) (ca : Nat → Addr) : Tg → Prop
  | .nm _ => True
  | .fl _ f cs => ∀ C, cs.contains C = true → Cls X.K (ca C) ∧ NoAttr X.K (ca C) (fnm f)
theorem tgm_ok {t : Tg} {d : D} {v : V} {e1 : En} {s1 : Sto} {Q : L2.St → Hp → Prop} (hk : TgOk X ca t) (R : Rl (wd X ca) F O ρ st H) (E : RE (wd X ca) F O ρ e σ) (p : DR (wd X ca) F ρ d v) (h : tgM t d e st = some (e1, s1))
    (k : ∀ F' ρ' H' σ', Ext F O ρ H F' O ρ' H' → Rl (wd X ca) F' O ρ' s1 H' → RE (wd X ca) F' O ρ' e1 σ' → Q σ' H') : gTg X ca W t v σ H Q := by
  cases t with
  | nm i =>
    cases h
    exact k F ρ H _ Ext.refl R (E.val p)
  | fl i f cs =>
    unfold tgM at h
    dsimp only at h
    cases q : e.at i with
    | val x =>
      rw [q] at h
      dsimp only at h
      cases r : putM f cs x d st with
      | ok z s2 =>
        rw [r] at h
        cases h
        refine ⟨F, O, ρ, e, st, R, E, ?_⟩
        have hv : rdv e i st = .ok x st := by
          dsimp only [rdv]
          rw [q]; rfl
        show okA _ _ _ _ _ _ _ _ (rdv e i st) _
        rw [hv]
        intro o F2 ρ2 H2 X2 R2 p2
        obtain ⟨b, C, dx, vs, e1, h3, h4, h5, X', R'⟩ := putM_at (f := f) (cs := cs) R2 p2 (DR.later X2.f X2.r p) r
        exact ⟨b, ca C, dx, vs, e1, h4, (hk C h3).1, (hk C h3).2, h5, k _ _ _ σ (X2.trans X') R' ((E.later X2).later X')⟩
      | ex z s2 => rw [r] at h; cases h
      | no => rw [r] at h; cases h
    | _ => rw [q] at h; cases h
theorem tgsM_ok {Dd : Ends} : ∀ {ts : Tgs} {ds : List D} {vs : List V} {e : En} {σ : L2.St} {F : Hp} {ρ : Rho} {st : Sto} {H : Hp}, (∀ t ∈ ts, TgOk X ca t) → Rl (wd X ca) F O ρ st H → RE (wd X ca) F O ρ e σ → DRs (wd X ca) F ρ ds vs → okS (wd X ca) W F O ρ H (tgsM ts ds e st) Dd →
    vs.length = ts.length ∧ gTgs X ca W ts vs σ H Dd.nx
  | [], [], vs, e, σ, F, ρ, st, H, hk, R, E, p, h => by
    cases p
    exact ⟨rfl, rfl, h F O ρ H σ Ext.refl R E⟩
  | [], _ :: _, vs, e, σ, F, ρ, st, H, hk, R, E, p, h => h.elim
  | _ :: _, [], vs, e, σ, F, ρ, st, H, hk, R, E, p, h => h.elim
  | t :: ts, d :: ds, vs, e, σ, F, ρ, st, H, hk, R, E, p, h => by
    obtain ⟨v, vr, rfl, p1, p2⟩ := p
    unfold tgsM at h
    cases q : tgM t d e st with
    | none => rw [q] at h; exact h.elim
    | some r =>
      obtain ⟨e1, s1⟩ := r
      rw [q] at h
      dsimp only at h
      have hlen : ∀ {ts : Tgs} {ds : List D} {e : En} {st : Sto} {F : Hp} {ρ : Rho} {H : Hp}, okS (wd X ca) W F O ρ H (tgsM ts ds e st) Dd → ds.length = ts.length := by
        intro ts
        induction ts with
        | nil => intro ds e st F ρ H h; cases ds with
          | nil => rfl
          | cons _ _ => exact h.elim
        | cons t ts ih => intro ds e st F ρ H h; cases ds with
          | nil => exact h.elim
          | cons d ds =>
            unfold tgsM at h
            cases q : tgM t d e st with
            | none => rw [q] at h; exact h.elim
            | some r => rw [q] at h; rw [List.length_cons, List.length_cons, ih h]
      refine ⟨by rw [List.length_cons, List.length_cons, ← p2.len, hlen h], v, vr, rfl, tgm_ok (hk t List.mem_cons_self) R E p1 q fun F' ρ' H' σ' X' R' E' => ?_⟩
      exact (tgsM_ok (fun z hz => hk z (List.mem_cons_of_mem _ hz)) R' E' (p2.later X'.f X'.r) (okS.ext h X')).2
theorem so_unp {ts : Tgs} {es : List Expr} {kk : Nat} {tpos pos : Pos} {a : Expr} {mv : En → M D} (hc : X.calm = true) (hk : ∀ t ∈ ts, TgOk X ca t) (hg : PGs X es (gTgs X ca W ts)) (hn : (assignEach es X.env).length = ts.length) (hst : (assignEach es X.env).findIdx? (·.1) = none)
    (hs : swapsWith a (some (.Tuple es kk tpos)) pos.line X.env = pure false) (hw : swappedStores [.Tuple es kk tpos] a X.env = pure none) (ha : PE X a (tE (wd X ca) W mv)) :
    PS X (.Assign [.Tuple es kk tpos] a pos) (tSt (wd X ca) W fun e s => thns (mv e) (fun d s1 => match d with
      | .tup xs => tgsM ts xs e s1
      | .lst xs => tgsM ts xs e s1
      | _ => .no) e s) :=
  (ps_asg ha (pg_TL hc hg hn hst) hs hw).imp fun Dd σ H h => tSt.thns h fun F O ρ e d st v H' R E p h => by
    cases d with
    | tup xs =>
      obtain ⟨b, vs, e1, s1, t1⟩ := p
      obtain ⟨h1, h2⟩ := tgsM_ok hk R E t1 h
      exact .inl ⟨b, vs, e1, SqT.later R.fz s1, h1, h2⟩
    | lst xs =>
      obtain ⟨b, vs, e1, s1, t1⟩ := p
      obtain ⟨h1, h2⟩ := tgsM_ok hk R E t1 h
      exact .inr ⟨b, vs, e1, (lsLater R.fz s1).sqL, h1, h2⟩
    | _ => exact h.elim
end
end Ev

set_option Elab.async false
set_option linter.all false
set_option maxRecDepth 100000
set_option maxHeartbeats 2000000
/-! EvS: dict comprehensions, two walks in one comprehension. -/
namespace Ev
open PySem PySem.Spec PyProof.Rows L2
theorem it_any {J : It} {n : Nat} {G : Hp → Prop} {Y : Nat → Hp → V → Hp → Prop} (w : Walk J n G Y) {H0 : Hp} {Step : V → Hp → (Hp → Prop) → Prop} {Fin : Hp → Prop} (Pv : Nat → Hp → Prop) (h0 : Pv 0 H0) (hG : ∀ i H, i ≤ n → Pv i H → G H)
    (hs : ∀ i x H H', i < n → Pv i H → Y i H x H' → Step x H' (Pv (i + 1))) (hd : ∀ H, Pv n H → Fin H) :
    ∃ W : Nat → Nat → Hp → Prop, (∃ m, W 0 m H0) ∧ ∀ i m H, W i m H → (J.stop i H ∧ Fin H) ∨ (J.go i H ∧ ∃ Nx : Hp → Prop, (∀ H', Nx H' → ∃ m', m' < m ∧ W (i + 1) m' H') ∧ ∀ x H', J.yld i H x H' → Step x H' Nx) := by
  refine ⟨fun i m H => m = n - i ∧ i ≤ n ∧ Pv i H, ⟨n, by simp, Nat.zero_le _, h0⟩, ?_⟩
  rintro i m H ⟨rfl, hi, p⟩
  have q := hG i H hi p
  by_cases hlt : i < n
  · refine .inr ⟨w.goes i H hlt q, Pv (i + 1), fun H' p' => ⟨n - (i + 1), by omega, rfl, hlt, p'⟩, fun x H' y => hs i x H H' hlt p (w.yields i H x H' hlt q y)⟩
  · have e : i = n := by omega
    subst e
    exact .inl ⟨w.stops H q, hd H p⟩
section
variable {Wo : Wd} {W : WX} {F O : Hp} {ρ : Rho} {st : Sto} {H : Hp} {e : En} {σ : L2.St}
theorem Rl.less {O' : Hp} (h : ∀ a o, O a = some o → O' a = some o) (R : Rl Wo F O' ρ st H) : Rl Wo F O ρ st H := ⟨R.fz, R.ob, R.inj, R.nf, R.nx, fun a o z => R.ow a o (h a o z)⟩
theorem drop_at {α : Type} {l : List α} {i : Nat} {d : α} (h : l[i]? = some d) : l.drop i = d :: l.drop (i + 1) := by
  obtain ⟨hi2, e2⟩ := List.getElem?_eq_some_iff.mp h
  rw [← e2]; exact List.drop_eq_getElem_cons hi2
theorem dc_imp {own : List Nat} {t : Tn} {mi : En → M (List D)} {mc : En → M Bool} {mk mv : En → M D} {Q : VK} (ht : t.inn own = true)
    (h : tE Wo W (fun e => Ev.bnd (mi e) fun xs => Ev.bnd (dcL t (wipeE e own) mc mk mv xs []) fun kvs => ret (.dct kvs)) σ H Q) : tDc (tI Wo W mi) (gOf Wo.K t) (tT Wo W0 mc) (tE Wo W0 mk) (tE Wo W0 mv) own σ H Q := by
  obtain ⟨F, O, ρ, e, st, R, E, h⟩ := h
  refine ⟨F, O, ρ, e, st, R, E, ?_⟩
  dsimp only [Ev.bnd] at h
  cases r : mi e st with
  | ex x s1 => rw [r] at h; exact h
  | no => rw [r] at h; exact h.elim
  | ok ds st1 =>
    rw [r] at h
    intro F1 ρ1 H1 J X1 R1 wk p hp
    obtain ⟨G, Y, w, hG, hY⟩ := wk
    have op : O p = none := R1.own_none hp
    let OK : Ev.R (List (Key × D)) → Prop := fun r => okA (fun F' ρ' => pE Wo F' O ρ') Wo W σ F O ρ H (Ev.bnd (fun _ => r) (fun kvs => Ev.ret (D.dct kvs)) st) Q
    have hno : ¬ OK .no := fun z => z
    have h : OK (dcL t (wipeE e own) mc mk mv ds [] st1) := h
    refine it_any w (fun i H2 => ∃ F2 ρ2 st2 acc vacc, Ext F O ρ H F2 (upd O p (.dK vacc)) ρ2 H2 ∧ (∀ a o, F1 a = some o → F2 a = some o) ∧ (∀ n a, ρ1 n = some a → ρ2 n = some a) ∧ Rl Wo F2 (upd O p (.dK vacc)) ρ2 st2 H2 ∧ DRk Wo F2 ρ2 acc vacc ∧
      OK (dcL t (wipeE e own) mc mk mv (ds.drop i) acc st2)) ?_ ?_ ?_ ?_
    · obtain ⟨X2, R2⟩ := ownN R1 hp (.dK [])
      exact ⟨F1, ρ1, st1, [], [], X1.trans X2, fun _ _ z => z, fun _ _ z => z, R2, rfl, h⟩
    · rintro i H2 _ ⟨F2, ρ2, st2, acc, vacc, X2, hf, hr, R2, p2, h2⟩
      exact hG F2 _ ρ2 st2 H2 hf R2
    · rintro i x H2 H' hi ⟨F2, ρ2, st2, acc, vacc, X2, hf, hr, R2, p2, h2⟩ y
      obtain ⟨d, hd, y⟩ := hY i H2 x H' hi y
      obtain ⟨F3, X3, R3, p3⟩ := y.at hf hr R2
      have X23 := X2.trans X3
      have E3 : RE Wo F3 (upd O p (.dK vacc)) ρ2 e σ := E.mono X23.f X23.r (upd_ext op)
      rw [drop_at hd] at h2
      unfold dcL at h2
      cases hs : t.set d (wipeE e own) with
      | none => rw [hs] at h2; exact (hno h2).elim
      | some e' =>
        rw [hs] at h2
        refine tg_ok R3 t (E3.wipe own) p3 hs fun σ2 E2 hw => ⟨(hw own ht).trans wipe_twice, ?_⟩
        refine ⟨F3, _, ρ2, e', st2, R3, E2, ?_⟩
        dsimp only [Ev.bnd, nox] at h2
        cases r1 : mc e' st2 with
        | ex x s1 => rw [r1] at h2; exact (hno h2).elim
        | no => rw [r1] at h2; exact (hno h2).elim
        | ok b st3 =>
          rw [r1] at h2
          intro b' F4 ρ4 H4 X4 R4 eb
          have eb : b' = b := eb
          subst eb
          cases b' with
          | false =>
            exact ⟨F4, ρ4, st3, acc, vacc, X23.trans X4, fun a o z => X4.f _ _ (X3.f _ _ (hf _ _ z)), fun n a z => X4.r _ _ (hr _ _ z), R4, (p2.later X3.f X3.r).later X4.f X4.r, h2⟩
          | true =>
            refine ⟨F4, _, ρ4, e', st3, R4, E2.later X4, ?_⟩
            simp only [if_true] at h2
            dsimp only [Ev.bnd, nox] at h2
            cases r2 : mk e' st3 with
            | ex x s1 => rw [r2] at h2; exact (hno h2).elim
            | no => rw [r2] at h2; exact (hno h2).elim
            | ok y st4 =>
              rw [r2] at h2
              intro vk F5 ρ5 H5 X5 R5 p5
              refine ⟨F5, _, ρ5, e', st4, R5, (E2.later X4).later X5, ?_⟩
              dsimp only at h2
              cases r3 : mv e' st4 with
              | ex x s1 => rw [r3] at h2; exact (hno h2).elim
              | no => rw [r3] at h2; exact (hno h2).elim
              | ok z st5 =>
                rw [r3] at h2
                intro vv F6 ρ6 H6 X6 R6 p6
                dsimp only at h2
                cases ek : keyD y with
                | none => rw [ek] at h2; exact (hno h2).elim
                | some k =>
                  rw [ek] at h2
                  have ey : vk = kV k := keyD_at (F := F5) (O := O) (ρ := ρ5) ek (DR.pr p5)
                  have h2 : OK ((if acc.length < sizeLine then dcL t (wipeE e own) mc mk mv (ds.drop (i + 1)) (setK acc k z) else no : M (List (Key × D))) st5) := h2
                  have p4 : DRk Wo F6 ρ6 acc vacc := (((p2.later X3.f X3.r).later X4.f X4.r).later X5.f X5.r).later X6.f X6.r
                  by_cases c : acc.length < sizeLine
                  · rw [if_pos c] at h2
                    obtain ⟨X7, R7⟩ := ownW R6 (p := p) upd_same (.dK (putK vacc k vv))
                    rw [upd_upd] at X7 R7
                    exact ⟨vacc, k, ey, (R6.ow p _ upd_same).1, by rw [← p4.len]; exact c, F6, ρ6, st5, setK acc k z, putK vacc k vv, (((X23.trans X4).trans X5).trans X6).trans X7, fun a o z => X6.f _ _ (X5.f _ _ (X4.f _ _ (X3.f _ _ (hf _ _ z)))), fun n a z => X6.r _ _ (X5.r _ _ (X4.r _ _ (hr _ _ z))), R7, p4.put p6, h2⟩
                  · rw [if_neg c] at h2; exact (hno h2).elim
    · rintro H2 ⟨F2, ρ2, st2, acc, vacc, X2, hf, hr, R2, p2, h2⟩
      rw [List.drop_length] at h2
      have z : okA (fun F' ρ' => pE Wo F' O ρ') Wo W σ F O ρ H (.ok (.dct acc) st2) Q := h2
      obtain ⟨X3, R3⟩ := frzO R2 (p := p) upd_same
      rw [del_upd op] at X3 R3
      exact z (.ref p) _ ρ2 H2 (X2.trans X3) R3 ⟨p, vacc, rfl, .inl upd_same, p2.later X3.f X3.r⟩
theorem lc2_imp {own own1 : List Nat} {t t1 : Tn} {mi w1 : En → M (List D)} {mc mc1 : En → M Bool} {me : En → M D} {Q : VK} (ht : t.inn own = true) (ht1 : t1.inn own1 = true)
    (h : tE Wo W (fun e => Ev.bnd (mi e) fun xs => Ev.bnd (lc2L t (wipeE e own) mc w1 t1 own1 mc1 me xs []) fun ys => ret (.lst ys)) σ H Q) :
    tLc2 (tI Wo W mi) (gOf Wo.K t) (tT Wo W0 mc) (tI Wo W0 w1) (gOf Wo.K t1) (tT Wo W0 mc1) (tE Wo W0 me) own own1 σ H Q := by
  obtain ⟨F, O, ρ, e, st, R, E, h⟩ := h
  refine ⟨F, O, ρ, e, st, R, E, ?_⟩
  dsimp only [Ev.bnd] at h
  cases r : mi e st with
  | ex x s1 => rw [r] at h; exact h
  | no => rw [r] at h; exact h.elim
  | ok ds st1 =>
    rw [r] at h
    intro F1 ρ1 H1 J X1 R1 wk p hp
    obtain ⟨G, Y, w, hG, hY⟩ := wk
    have op : O p = none := R1.own_none hp
    let OK : Ev.R (List D) → Prop := fun r => okA (fun F' ρ' => pE Wo F' O ρ') Wo W σ F O ρ H (Ev.bnd (fun _ => r) (fun ys => Ev.ret (D.lst ys)) st) Q
    have hno : ¬ OK .no := fun z => z
    have h : OK (lc2L t (wipeE e own) mc w1 t1 own1 mc1 me ds [] st1) := h
    refine it_any w (fun i H2 => ∃ F2 ρ2 st2 acc vacc, Ext F O ρ H F2 (upd O p (.lst vacc)) ρ2 H2 ∧ (∀ a o, F1 a = some o → F2 a = some o) ∧ (∀ n a, ρ1 n = some a → ρ2 n = some a) ∧ Rl Wo F2 (upd O p (.lst vacc)) ρ2 st2 H2 ∧ DRs Wo F2 ρ2 acc vacc ∧
      OK (lc2L t (wipeE e own) mc w1 t1 own1 mc1 me (ds.drop i) acc st2)) ?_ ?_ ?_ ?_
    · obtain ⟨X2, R2⟩ := ownN R1 hp (.lst [])
      exact ⟨F1, ρ1, st1, [], [], X1.trans X2, fun _ _ z => z, fun _ _ z => z, R2, rfl, h⟩
    · rintro i H2 _ ⟨F2, ρ2, st2, acc, vacc, X2, hf, hr, R2, p2, h2⟩
      exact hG F2 _ ρ2 st2 H2 hf R2
    · rintro i x H2 H' hi ⟨F2, ρ2, st2, acc, vacc, X2, hf, hr, R2, p2, h2⟩ y
      obtain ⟨d, hd, y⟩ := hY i H2 x H' hi y
      obtain ⟨F3, X3, R3, p3⟩ := y.at hf hr R2
      have X23 := X2.trans X3
      have E3 : RE Wo F3 O ρ2 e σ := E.mono X23.f X23.r fun _ _ z => z
      rw [drop_at hd] at h2
      unfold lc2L at h2
      cases hs : t.set d (wipeE e own) with
      | none => rw [hs] at h2; exact (hno h2).elim
      | some e' =>
        rw [hs] at h2
        refine tg_ok (R3.less (upd_ext op)) t (E3.wipe own) p3 hs fun σ2 E2 hw => ⟨(hw own ht).trans wipe_twice, ?_⟩
        refine ⟨F3, _, ρ2, e', st2, R3, E2.mono (fun _ _ z => z) (fun _ _ z => z) (upd_ext op), ?_⟩
        dsimp only [Ev.bnd, nox] at h2
        cases r1 : mc e' st2 with
        | ex x s1 => rw [r1] at h2; exact (hno h2).elim
        | no => rw [r1] at h2; exact (hno h2).elim
        | ok b st3 =>
          rw [r1] at h2
          intro b' F4 ρ4 H4 X4 R4 eb
          have eb : b' = b := eb
          subst eb
          have E4 : RE Wo F4 O ρ4 e' σ2 := E2.mono X4.f X4.r fun _ _ z => z
          cases b' with
          | false =>
            exact ⟨F4, ρ4, st3, acc, vacc, X23.trans X4, fun a o z => X4.f _ _ (X3.f _ _ (hf _ _ z)), fun n a z => X4.r _ _ (hr _ _ z), R4, (p2.later X3.f X3.r).later X4.f X4.r, h2⟩
          | true =>
            refine ⟨F4, _, ρ4, e', st3, R4, E4.mono (fun _ _ z => z) (fun _ _ z => z) (upd_ext op), ?_⟩
            simp only [if_true] at h2
            dsimp only [Ev.bnd, nox] at h2
            cases r2 : w1 e' st3 with
            | ex x s1 => rw [r2] at h2; exact (hno h2).elim
            | no => rw [r2] at h2; exact (hno h2).elim
            | ok ys st4 =>
              rw [r2] at h2
              intro F5 ρ5 H5 J1 X5 R5 wk1
              obtain ⟨G1, Y1, w1', hG1, hY1⟩ := wk1
              have X25 := (X23.trans X4).trans X5
              have E5 : RE Wo F5 O ρ5 e' σ2 := E4.mono X5.f X5.r fun _ _ z => z
              have h2 : OK (Ev.bnd (lcL t1 (wipeE e' own1) mc1 me ys acc) (fun acc' => lc2L t (wipeE e own) mc w1 t1 own1 mc1 me (ds.drop (i + 1)) acc') st4) := h2
              refine it_any w1' (fun j H6 => ∃ F6 ρ6 st6 acc6 vacc6, Ext F O ρ H F6 (upd O p (.lst vacc6)) ρ6 H6 ∧ (∀ a o, F5 a = some o → F6 a = some o) ∧ (∀ n a, ρ5 n = some a → ρ6 n = some a) ∧ Rl Wo F6 (upd O p (.lst vacc6)) ρ6 st6 H6 ∧ DRs Wo F6 ρ6 acc6 vacc6 ∧
                OK (Ev.bnd (lcL t1 (wipeE e' own1) mc1 me (ys.drop j) acc6) (fun acc' => lc2L t (wipeE e own) mc w1 t1 own1 mc1 me (ds.drop (i + 1)) acc') st6)) ?_ ?_ ?_ ?_
              · exact ⟨F5, ρ5, st4, acc, vacc, X25, fun _ _ z => z, fun _ _ z => z, R5, ((p2.later X3.f X3.r).later X4.f X4.r).later X5.f X5.r, h2⟩
              · rintro j H6 _ ⟨F6, ρ6, st6, acc6, vacc6, X6, hf6, hr6, R6, p6, h6⟩
                exact hG1 F6 _ ρ6 st6 H6 hf6 R6
              · rintro j x1 H6 H6' hj ⟨F6, ρ6, st6, acc6, vacc6, X6, hf6, hr6, R6, p6, h6⟩ y1
                obtain ⟨d1, hd1, y1⟩ := hY1 j H6 x1 H6' hj y1
                obtain ⟨F7, X7, R7, p7⟩ := y1.at hf6 hr6 R6
                have X67 := X6.trans X7
                have E7 : RE Wo F7 O ρ6 e' σ2 := E5.mono (fun a o z => X7.f _ _ (hf6 _ _ z)) (fun n a z => X7.r _ _ (hr6 _ _ z)) fun _ _ z => z
                rw [drop_at hd1] at h6
                unfold lcL at h6
                dsimp only [Ev.bnd] at h6
                cases hs1 : t1.set d1 (wipeE e' own1) with
                | none => rw [hs1] at h6; exact (hno h6).elim
                | some e2 =>
                  rw [hs1] at h6
                  refine tg_ok (R7.less (upd_ext op)) t1 (E7.wipe own1) p7 hs1 fun σ3 E8 hw1 => ⟨(hw1 own1 ht1).trans wipe_twice, ?_⟩
                  refine ⟨F7, _, ρ6, e2, st6, R7, E8.mono (fun _ _ z => z) (fun _ _ z => z) (upd_ext op), ?_⟩
                  dsimp only [Ev.bnd, nox] at h6
                  cases r3 : mc1 e2 st6 with
                  | ex x s1 => rw [r3] at h6; exact (hno h6).elim
                  | no => rw [r3] at h6; exact (hno h6).elim
                  | ok b1 st7 =>
                    rw [r3] at h6
                    intro b1' F9 ρ9 H9 X9 R9 eb1
                    have eb1 : b1' = b1 := eb1
                    subst eb1
                    cases b1' with
                    | false =>
                      exact ⟨F9, ρ9, st7, acc6, vacc6, X67.trans X9, fun a o z => X9.f _ _ (X7.f _ _ (hf6 _ _ z)), fun n a z => X9.r _ _ (hr6 _ _ z), R9, (p6.later X7.f X7.r).later X9.f X9.r, h6⟩
                    | true =>
                      refine ⟨F9, _, ρ9, e2, st7, R9, (E8.mono (fun _ _ z => z) (fun _ _ z => z) (upd_ext op)).later X9, ?_⟩
                      simp only [if_true] at h6
                      dsimp only [Ev.bnd, nox] at h6
                      cases r4 : me e2 st7 with
                      | ex x s1 => rw [r4] at h6; exact (hno h6).elim
                      | no => rw [r4] at h6; exact (hno h6).elim
                      | ok y st8 =>
                        rw [r4] at h6
                        intro v Fa ρa Ha Xa Ra pa
                        dsimp only at h6
                        have p4 : DRs Wo Fa ρa acc6 vacc6 := ((p6.later X7.f X7.r).later X9.f X9.r).later Xa.f Xa.r
                        by_cases c : acc6.length < sizeLine
                        · rw [if_pos c] at h6
                          obtain ⟨Xb, Rb⟩ := ownW Ra (p := p) upd_same (.lst (vacc6 ++ [v]))
                          rw [upd_upd] at Xb Rb
                          exact ⟨vacc6, (Ra.ow p _ upd_same).1, by rw [← p4.len]; exact c, Fa, ρa, st8, acc6 ++ [y], vacc6 ++ [v], ((X67.trans X9).trans Xa).trans Xb, fun a o z => Xa.f _ _ (X9.f _ _ (X7.f _ _ (hf6 _ _ z))), fun n a z => Xa.r _ _ (X9.r _ _ (hr6 _ _ z)), Rb, p4.app ⟨v, [], rfl, pa, rfl⟩, h6⟩
                        · rw [if_neg c] at h6; exact (hno h6).elim
              · rintro H6 ⟨F6, ρ6, st6, acc6, vacc6, X6, hf6, hr6, R6, p6, h6⟩
                rw [List.drop_length] at h6
                exact ⟨F6, ρ6, st6, acc6, vacc6, X6, fun a o z => hf6 _ _ (X5.f _ _ (X4.f _ _ (X3.f _ _ (hf _ _ z)))), fun n a z => hr6 _ _ (X5.r _ _ (X4.r _ _ (hr _ _ z))), R6, p6, h6⟩
    · rintro H2 ⟨F2, ρ2, st2, acc, vacc, X2, hf, hr, R2, p2, h2⟩
      rw [List.drop_length] at h2
      have z : okA (fun F' ρ' => pE Wo F' O ρ') Wo W σ F O ρ H (.ok (.lst acc) st2) Q := h2
      obtain ⟨X3, R3⟩ := frzO R2 (p := p) upd_same
      rw [del_upd op] at X3 R3
      exact z (.ref p) _ ρ2 H2 (X2.trans X3) R3 ⟨p, vacc, rfl, .inl (.inl upd_same), p2.later X3.f X3.r⟩
end
end Ev

set_option Elab.async false
set_option linter.all false
set_option maxRecDepth 100000
set_option maxHeartbeats 2000000
/-! EvT: sets of ints. -/
namespace Ev
open PySem PySem.Spec PyProof.Rows L2
theorem insI_mem (x : Int) : ∀ (l : List Int) (y : Int), y ∈ insI x l ↔ y = x ∨ y ∈ l
  | [], y => by simp [insI]
  | z :: r, y => by
    unfold insI
    split
    · simp
    · split
      · rename_i e; subst e; simp
      · rw [List.mem_cons, insI_mem x r y, List.mem_cons]
        constructor
        · rintro (h | h | h) <;> simp [h]
        · rintro (h | h | h) <;> simp [h]
theorem insI_asc (x : Int) : ∀ {l : List Int}, l.Pairwise (· < ·) → (insI x l).Pairwise (· < ·)
  | [], _ => .cons (fun _ h => by cases h) .nil
  | z :: r, h => by
    unfold insI
    cases h with
    | cons h1 h2 =>
      split
      · rename_i c
        refine .cons (fun y hy => ?_) (.cons h1 h2)
        rcases List.mem_cons.mp hy with rfl | hy
        · exact c
        · have := h1 y hy; omega
      · split
        · exact .cons h1 h2
        · refine .cons (fun y hy => ?_) (insI_asc x h2)
          rcases (insI_mem x r y).mp hy with rfl | hy
          · omega
          · exact h1 y hy
theorem sortI_mem : ∀ (l : List Int) (y : Int), y ∈ sortI l ↔ y ∈ l
  | [], y => by simp [sortI]
  | x :: l, y => by
    show y ∈ insI x (sortI l) ↔ _
    rw [insI_mem, sortI_mem l y, List.mem_cons]
theorem sortI_asc : ∀ (l : List Int), (sortI l).Pairwise (· < ·)
  | [] => .nil
  | x :: l => insI_asc x (sortI_asc l)
theorem nodup_len : ∀ {a b : List Int}, a.Nodup → (∀ x ∈ a, x ∈ b) → a.length ≤ b.length
  | [], b, _, _ => Nat.zero_le _
  | x :: a, b, h, k => by
    cases h with
    | cons h1 h2 =>
      have hx := k x List.mem_cons_self
      have := nodup_len (a := a) (b := b.erase x) h2 fun y hy => (List.mem_erase_of_ne (fun e => h1 y hy e.symm)).mpr (k y (List.mem_cons_of_mem _ hy))
      rw [List.length_erase_of_mem hx] at this
      have : 0 < b.length := List.length_pos_of_mem hx
      rw [List.length_cons]
      omega
theorem asc_uniq {a b : List Int} (ha : a.Pairwise (· < ·)) (hb : b.Pairwise (· < ·)) (h : ∀ k, k ∈ a ↔ k ∈ b) : a = b := by
  have n : ∀ {l : List Int}, l.Pairwise (· < ·) → l.Nodup := fun h => h.imp fun {x y} z => by omega
  have p : a.Perm b := (List.perm_ext_iff_of_nodup (n ha) (n hb)).mpr h
  exact sorted_uniq p (ha.imp fun {x y} z => Int.le_of_lt z) (hb.imp fun {x y} z => Int.le_of_lt z)
theorem SetR.count {w : World} {h : Heap} {a : Addr} {ns : List Int} {c : Nat} (R : SetR w h a (fun j => decide (j ∈ ns)) c) : c = (sortI ns).length := by
  obtain ⟨o, es, ep, t, ho, hex, hd, g, nd, hm, hb, hf, hn, hr, hl⟩ := R
  have n : (sortI ns).Nodup := (sortI_asc ns).imp fun {x y} z => by omega
  have hm : ∀ k, k ∈ ns ↔ k ∈ es.toList.map keyOf := fun k => by rw [← hm k, decide_eq_true_eq]
  have h1 := nodup_len nd fun x hx => (sortI_mem ns x).mpr ((hm x).mpr hx)
  have h2 := nodup_len n fun x hx => (hm x).mp ((sortI_mem ns x).mp hx)
  have e : (es.toList.map keyOf).length = c := by rw [List.length_map, Array.length_toList]; exact hn
  omega
section
variable {X : Cx} {ca : Nat → Addr} {W : WX}
def tLenSetT (K : PySem.W.Frag) (ta : TE) : TE := fun σ H Q => ta σ H fun x H1 => ∃ (l : Addr) (ns : List Int), x = .ref l ∧ SqT K H1 l (ns.map V.int) ∧ ns.length < 4000 ∧ Q (.int (sortI ns).length) H1
theorem pe_lenSetT {a : Expr} {ta : TE} {p p2 q pos : Pos} (hg : Gl X "len") (hm : X.mg "len" = none) (hg2 : Gl X "set") (hm2 : X.mg "set" = none) (ha : PE X a ta) (hc : X.calm = true)
    (na : starEach [a] X.env = (false, eval a X.env) :: starEach [] X.env) : PE X (.Call (.Name "len" p) [.Call (.Name "set" p2) [a] [] q] [] pos) (tLenSetT X.K ta) := by
  refine ⟨fun pins s σ H Q I h => ?_⟩
  refine Call_ (ld_blt I hg hm boot_len ?_)
  refine PyProof.Rows.callWith_builtin1 (PyProof.Rows.args_cons ?_ rfl) rfl rfl
  refine Call_ (ld_blt I hg2 hm2 boot_set ?_)
  refine PyProof.Rows.callWith_type1 (PyProof.Rows.args_cons (L2.thn (ha.run pins s σ H _ I h) fun v s1 ⟨x, H1, I1, r1, q1⟩ => PyProof.Rows.args_nil ?_) na) na rfl
  obtain ⟨l, ns, rfl, hq, hl, q1⟩ := q1
  cases r1
  obtain ⟨its, r, pl, hz⟩ := I1.tuple hq
  refine call_set_tupI ns (I1.ok.hd hc) pl (by simpa using ints_of_vals r) (by unfold scanBound; omega) fun h' tk c R hcn hk => ?_
  refine PyProof.Rows.args_nil ?_
  have hcount := SetR.count R
  obtain ⟨o, es, ep, t, ho, hex, hd, _, _, _, _, hf, hn, _, _⟩ := R
  have I2 : Inv X pins σ H1 { s1 with heap := h', toks := tk } := I1.kept fun b o e => hk b o e
  exact call_len_set ho hex hd hf (by rw [hn]; have : c ≤ ns.length := hcn; omega) ⟨.int (sortI ns).length, H1, I2.tok _, ⟨_, by rw [hn, hcount]⟩, q1⟩
theorem re_lset (q : Cq X) {a : Expr} {p p2 q2 pos : Pos} {ma : En → M D} (hn : ns a = true) (hg : Gl X "len") (hm : X.mg "len" = none) (hg2 : Gl X "set") (hm2 : X.mg "set" = none) (ha : PE X a (tE (wd X ca) W ma)) :
    PE X (.Call (.Name "len" p) [.Call (.Name "set" p2) [a] [] q2] [] pos) (tE (wd X ca) W fun e => bnd (ma e) lsetM) :=
  (pe_lenSetT hg hm hg2 hm2 ha q.hc (star_cons hn)).imp fun σ H Q h => h.bnd fun F O ρ e d st v H1 R E p h1 => by
    cases d with
    | tup xs =>
      obtain ⟨b, vs, e1, s1, t1⟩ := p
      unfold lsetM at h1
      dsimp only at h1
      cases c : intsD xs with
      | none => rw [c] at h1; exact h1.elim
      | some ns =>
        rw [c] at h1
        dsimp only at h1
        by_cases hl : ns.length < 4000
        · rw [if_pos hl] at h1
          have e2 := ints_of t1 c
          subst e2
          exact ⟨b, ns, e1, SqT.later R.fz s1, hl, okA.ok h1 Ext.refl R rfl⟩
        · rw [if_neg hl] at h1; exact h1.elim
    | _ => exact h1.elim
end
end Ev

set_option Elab.async false
set_option linter.all false
set_option maxRecDepth 100000
set_option maxHeartbeats 2000000
/-! EvU: dict comprehensions and two walks in one, as values and as a name's new value. -/
namespace Ev
open PySem PySem.Spec PyProof.Rows L2
section
variable {X : Cx} {ca : Nat → Addr} {W : WX}
theorem re_dc {kx vx tg iter : Expr} {ifs : List Expr} {scope : Scope} {own : List (Str × Nat)} {pos : Pos} {t : Tn} {mi : En → M (List D)} {mc : En → M Bool} {mk mv : En → M D} (hc : X.calm = true) (hN : X.N.Nodup) (ht : t.inn (own.map (·.2)) = true) (hi : PI X tg iter (tI (wd X ca) W mi)) (ok : BlkOk X.N X.env.scope scope own)
    (hg : ∀ s H C cl fp, PG (X.blk s H scope (compEnvC scope cl C X.env) fp) tg (gOf X.K t)) (hc' : ∀ s H C cl fp, PTs (X.blk s H scope (compEnvC scope cl C X.env) fp) ifs (tT (wd X ca) W0 mc))
    (hk : ∀ s H C cl fp, PE (X.blk s H scope (compEnvC scope cl C X.env) fp) kx (tE (wd X ca) W0 mk)) (hv : ∀ s H C cl fp, PE (X.blk s H scope (compEnvC scope cl C X.env) fp) vx (tE (wd X ca) W0 mv)) (hs : ∀ x, foldedSetIterable iter X.env x = pure x) :
    PE X (.DictComp kx vx [⟨tg, iter, ifs, 0⟩] scope pos) (tE (wd X ca) W fun e => bnd (mi e) fun xs => bnd (dcL t (wipeE e (own.map (·.2))) mc mk mv xs []) fun kvs => ret (.dct kvs)) :=
  (pe_dc hc hN hi ok hg hc' hk hv hs).imp fun σ H Q h => dc_imp (Wo := wd X ca) ht h
/-- .. as a name's new value, in the name's own place -/
theorem ps_setDc {i : Nat} {y : Str} {py : Pos} {kx vx tg iter : Expr} {ifs : List Expr} {scope : Scope} {own : List (Str × Nat)} {pos spos : Pos} {wi : TI} {g : TG} {tt : TT} {tk tv : TE} (hc : X.calm = true) (hN : X.N.Nodup) (hy : X.N[i]? = some y) (hyl : X.env.scope.names.lookup y = some .local)
    (hsw : swapsWith (.DictComp kx vx [⟨tg, iter, ifs, 0⟩] scope pos) (some (.Name y py)) spos.line X.env = pure true) (hi : PI X tg iter wi) (ok : BlkOk X.N X.env.scope scope own)
    (hg : ∀ s H C cl fp, PG (X.blk s H scope (compEnvC scope cl C X.env) fp) tg g) (ht : ∀ s H C cl fp, PTs (X.blk s H scope (compEnvC scope cl C X.env) fp) ifs tt)
    (hk : ∀ s H C cl fp, PE (X.blk s H scope (compEnvC scope cl C X.env) fp) kx tk) (hv : ∀ s H C cl fp, PE (X.blk s H scope (compEnvC scope cl C X.env) fp) vx tv) (hs : ∀ x, foldedSetIterable iter X.env x = pure x) :
    PS X (.Assign [.Name y py] (.DictComp kx vx [⟨tg, iter, ifs, 0⟩] scope pos) spos) (tAsg (tDc wi g tt tk tv (own.map (·.2))) (gName i)) := by
  refine ⟨fun pins s σ H D I h => ?_⟩
  rw [exec_Assign_Name_used _ _ _ _ hsw]
  refine wpAny_bind (wpAny_standAt (wpAny_bind ?_))
  show wpAny _ X.A (do let _ ← comprehension (.DictComp kx vx [⟨tg, iter, ifs, 0⟩] scope pos) scope X.env (firstIterPos [⟨tg, iter, ifs, 0⟩] pos) newDict false (eval iter X.env) (some (assign (.Name y py) X.env))) _ _ s
  have h : tDc wi g tt tk tv (own.map (·.2)) σ H (fun x H1 => gName i x σ H1 D.nx) := h
  refine wpAny_bind (L2.thn (dc_core (Qf := fun _ s' => SP X pins D .next s') hc hN I hi ok hg ht hk hv hs h fun L C s' m H' I' q hn f => ?_) fun _ s' hq => wpAny_pure (wpAny_pure hq))
  show wpAny _ _ (assign (.Name y py) X.env (.ref L)) _ _ _
  refine wpAny_assign_Name (store_ok2 (v := V.ref L) I' hN hy (.inl hyl) rfl (fun s2 I2 ⟨a, sb, ha⟩ => ?_) (.inr hyl))
  obtain ⟨f0, f1, f2, f3, f4, f5⟩ := f
  have haC : C ≠ a := by
    rcases ha with z | z
    · rw [z]; exact f1
    · exact fun e => f4 y a z e.symm
  refine ⟨m, hn.sameBut sb haC, fun h3 sb3 => ?_⟩
  exact ⟨_, H', I2.turned (t' := s2.toks) (fun b o hb e => (sb3.2 b hb).trans e) f0 f1 f3 f4 f5, q⟩
theorem rs_dc {i : Nat} {y : Str} {py : Pos} {kx vx tg iter : Expr} {ifs : List Expr} {scope : Scope} {own : List (Str × Nat)} {pos spos : Pos} {t : Tn} {mi : En → M (List D)} {mc : En → M Bool} {mk mv : En → M D} (hc : X.calm = true) (hN : X.N.Nodup) (hy : X.N[i]? = some y) (hyl : X.env.scope.names.lookup y = some .local)
    (hsw : swapsWith (.DictComp kx vx [⟨tg, iter, ifs, 0⟩] scope pos) (some (.Name y py)) spos.line X.env = pure true) (ht : t.inn (own.map (·.2)) = true) (hi : PI X tg iter (tI (wd X ca) W mi)) (ok : BlkOk X.N X.env.scope scope own)
    (hg : ∀ s H C cl fp, PG (X.blk s H scope (compEnvC scope cl C X.env) fp) tg (gOf X.K t)) (hc' : ∀ s H C cl fp, PTs (X.blk s H scope (compEnvC scope cl C X.env) fp) ifs (tT (wd X ca) W0 mc))
    (hk : ∀ s H C cl fp, PE (X.blk s H scope (compEnvC scope cl C X.env) fp) kx (tE (wd X ca) W0 mk)) (hv : ∀ s H C cl fp, PE (X.blk s H scope (compEnvC scope cl C X.env) fp) vx (tE (wd X ca) W0 mv)) (hs : ∀ x, foldedSetIterable iter X.env x = pure x) :
    PS X (.Assign [.Name y py] (.DictComp kx vx [⟨tg, iter, ifs, 0⟩] scope pos) spos) (tAsg (tE (wd X ca) W fun e => bnd (mi e) fun xs => bnd (dcL t (wipeE e (own.map (·.2))) mc mk mv xs []) fun kvs => ret (.dct kvs)) (gName i)) :=
  (ps_setDc hc hN hy hyl hsw hi ok hg hc' hk hv hs).imp fun D σ H h => dc_imp (Wo := wd X ca) ht h
theorem re_lc2 {elt tg iter tg1 iter1 : Expr} {ifs ifs1 : List Expr} {scope : Scope} {own : List (Str × Nat)} {own1 : List Nat} {pos : Pos} {t t1 : Tn} {mi w1 : En → M (List D)} {mc mc1 : En → M Bool} {me : En → M D} (hc : X.calm = true) (hN : X.N.Nodup) (ht : t.inn (own.map (·.2)) = true) (ht1 : t1.inn own1 = true) (hi : PI X tg iter (tI (wd X ca) W mi)) (ok : BlkOk X.N X.env.scope scope own) (hv : ∀ i ∈ own1, i ∈ own.map (·.2))
    (hg : ∀ s H C cl fp, PG (X.blk s H scope (compEnvC scope cl C X.env) fp) tg (gOf X.K t)) (hc' : ∀ s H C cl fp, PTs (X.blk s H scope (compEnvC scope cl C X.env) fp) ifs (tT (wd X ca) W0 mc))
    (hi1 : ∀ s H C cl fp, PI (X.blk s H scope (compEnvC scope cl C X.env) fp) tg1 iter1 (tI (wd X ca) W0 w1))
    (hg1 : ∀ s H C cl fp, PG (X.blk s H scope (compEnvC scope cl C X.env) fp) tg1 (gOf X.K t1)) (hc1 : ∀ s H C cl fp, PTs (X.blk s H scope (compEnvC scope cl C X.env) fp) ifs1 (tT (wd X ca) W0 mc1))
    (he : ∀ s H C cl fp, PE (X.blk s H scope (compEnvC scope cl C X.env) fp) elt (tE (wd X ca) W0 me)) (hs : ∀ x, foldedSetIterable iter X.env x = pure x) (hs1 : ∀ env x, foldedSetIterable iter1 env x = pure x) :
    PE X (.ListComp elt [⟨tg, iter, ifs, 0⟩, ⟨tg1, iter1, ifs1, 0⟩] scope pos) (tE (wd X ca) W fun e => bnd (mi e) fun xs => bnd (lc2L t (wipeE e (own.map (·.2))) mc w1 t1 own1 mc1 me xs []) fun ys => ret (.lst ys)) :=
  (pe_lc2 hc hN hi ok hv hg hc' hi1 hg1 hc1 he hs hs1).imp fun σ H Q h => lc2_imp (Wo := wd X ca) ht ht1 h
theorem rs_lc2 {i : Nat} {y : Str} {py : Pos} {elt tg iter tg1 iter1 : Expr} {ifs ifs1 : List Expr} {scope : Scope} {own : List (Str × Nat)} {own1 : List Nat} {pos spos : Pos} {t t1 : Tn} {mi w1 : En → M (List D)} {mc mc1 : En → M Bool} {me : En → M D} (hc : X.calm = true) (hN : X.N.Nodup) (hy : X.N[i]? = some y) (hyl : X.env.scope.names.lookup y = some .local)
    (hsw : swapsWith (.ListComp elt [⟨tg, iter, ifs, 0⟩, ⟨tg1, iter1, ifs1, 0⟩] scope pos) (some (.Name y py)) spos.line X.env = pure true) (ht : t.inn (own.map (·.2)) = true) (ht1 : t1.inn own1 = true) (hi : PI X tg iter (tI (wd X ca) W mi)) (ok : BlkOk X.N X.env.scope scope own) (hv : ∀ i ∈ own1, i ∈ own.map (·.2))
    (hg : ∀ s H C cl fp, PG (X.blk s H scope (compEnvC scope cl C X.env) fp) tg (gOf X.K t)) (hc' : ∀ s H C cl fp, PTs (X.blk s H scope (compEnvC scope cl C X.env) fp) ifs (tT (wd X ca) W0 mc))
    (hi1 : ∀ s H C cl fp, PI (X.blk s H scope (compEnvC scope cl C X.env) fp) tg1 iter1 (tI (wd X ca) W0 w1))
    (hg1 : ∀ s H C cl fp, PG (X.blk s H scope (compEnvC scope cl C X.env) fp) tg1 (gOf X.K t1)) (hc1 : ∀ s H C cl fp, PTs (X.blk s H scope (compEnvC scope cl C X.env) fp) ifs1 (tT (wd X ca) W0 mc1))
    (he : ∀ s H C cl fp, PE (X.blk s H scope (compEnvC scope cl C X.env) fp) elt (tE (wd X ca) W0 me)) (hs : ∀ x, foldedSetIterable iter X.env x = pure x) (hs1 : ∀ env x, foldedSetIterable iter1 env x = pure x) :
    PS X (.Assign [.Name y py] (.ListComp elt [⟨tg, iter, ifs, 0⟩, ⟨tg1, iter1, ifs1, 0⟩] scope pos) spos) (tAsg (tE (wd X ca) W fun e => bnd (mi e) fun xs => bnd (lc2L t (wipeE e (own.map (·.2))) mc w1 t1 own1 mc1 me xs []) fun ys => ret (.lst ys)) (gName i)) :=
  (ps_setLc2 hc hN hy hyl hsw hi ok hv hg hc' hi1 hg1 hc1 he hs hs1).imp fun D σ H h => lc2_imp (Wo := wd X ca) ht ht1 h
end
end Ev

set_option Elab.async false
set_option linter.all false
set_option maxRecDepth 100000
set_option maxHeartbeats 4000000
/-! EvV: sorted(set(list of ints)). -/
namespace Ev
open PySem PySem.Spec PyProof.Rows L2
section
variable {P : Program} {w : World} {A : Around} {E : Value → Shared → Prop} {s : Shared}
/-- a set of a list's ints, with its order: as call_set_tupI for tuples -/
theorem call_set_lstI {l : Addr} {items : Array Value} (ns : List Int) {Q : Value → Shared → Prop} (hh : A.handled = none) (hl : s.heap.IsList l items) (hit : IntsAre items.toList ns) (hb : ns.length + 1 < scanBound)
    (h : ∀ (h' : Heap) (tk c : Nat), SetR w h' s.heap.objs.size (fun j => decide (j ∈ ns)) c → c ≤ ns.length → (∀ b o, s.heap.get? b = some o → h'.get? b = some o) → Q (.ref s.heap.objs.size) { s with heap := h', toks := tk }) :
    wpAny (model P w) A (call (.type "set") [.ref l]) Q E s := by
  have hisz : items.size = ns.length := by
    have q := IntsAre.length hit
    rw [Array.length_toList] at q
    exact q
  obtain ⟨c, tl, hmro⟩ := F.called_set.mro
  have hmade := F.called_set.made
  have hsub := F.called_set.sub
  refine wpAny_call (codeAny_of_tree ?_)
  show wpAny _ _ (callAny (.type "set") _) _ _ _
  refine wpAny_pure ⟨Code.quiet_builtin _ (by decide +kernel), codeAny_builtin F.entry_type_call ?_⟩
  rw [Around.under_plain (weight_type_call_type "set" [.ref l] []) rfl]
  have h1 := F.called_set.notType
  have h2 := F.called_set.canCreate
  have hct := F.typeCall_set_1 (.ref l)
  repeat (any_goals (first | assumption | wp_step))
  refine codeAny_mono (code_set_led1 (.ref l) (E := E) (Q₁ := fun obj s₁ => obj = .ref s.heap.objs.size ∧ s₁ = { s with heap := (s.heap.push { cls := .type "set", dict := none, data := .set #[] 0 (.fresh 0 0 (!w.params.followText "set-order")) }) }) ⟨rfl, rfl⟩) fun r s₁ hr => ?_
  cases r with
  | error e => exact hr
  | ok fl =>
    cases fl with
    | ret obj =>
      obtain ⟨rfl, rfl⟩ := hr
      have hS : (s.heap.push { cls := .type "set", dict := none, data := .set #[] 0 (.fresh 0 0 (!w.params.followText "set-order")) }).get? s.heap.objs.size = some { cls := .type "set", dict := none, data := .set #[] 0 (.fresh 0 0 (!w.params.followText "set-order")) } := Heap.get?_push_size _ rfl
      have hT : Shared.TypeIs { s with heap := (s.heap.push { cls := .type "set", dict := none, data := .set #[] 0 (.fresh 0 0 (!w.params.followText "set-order")) }) } (.ref s.heap.objs.size) "set" := ⟨_, hS, rfl⟩
      have hli := F.called_set.init.lookup
      have hbi := F.called_set.init.bind (.ref s.heap.objs.size)
      repeat (any_goals (first | assumption | wp_step))
      refine codeAny_mono (codeAny_call_builtin (R := wants (fun r s₂ => r = .none ∧ ∃ h' tk c, s₂ = { s with heap := h', toks := tk } ∧ SetR w h' s.heap.objs.size (fun j => decide (j ∈ ns)) c ∧ c ≤ ns.length ∧ (∀ b o, s.heap.get? b = some o → h'.get? b = some o)) E) F.called_set.init.plain F.entry_set_init (check_set_init_1 hT ?_)) fun r₂ s₂ hr₂ => ?_
      · obtain ⟨ol, hol, hcl, nl, hdl⟩ := hl
        obtain ⟨ocls, odict, odata, oslots⟩ := ol
        simp only at hcl hdl
        subst hcl; subst hdl
        have hol' : (s.heap.push { cls := .type "set", dict := none, data := .set #[] 0 (.fresh 0 0 (!w.params.followText "set-order")) }).get? l = some { cls := .type "list", dict := odict, data := .seq items nl, slots := oslots } := Heap.get?_push_of_some _ hol
        have hsls := F.sub_list_set
        have hslf := F.sub_list_frozenset
        have hne : (Value.type "list" == Value.type "dict") = false := by decide
        have hl1 : (s.heap.push { cls := .type "set", dict := none, data := .set #[] 0 (.fresh 0 0 (!w.params.followText "set-order")) }).IsList l items := ⟨_, hol', rfl, nl, rfl⟩
        unfold Builtin.«set.__init__» noKeywords Builtin.Frozenset.updateFrom
        generalize hPI : pyIter = PI
        wp_walk
        subst hPI
        refine wpAny_pyIter_list hl1 ?_
        refine wpAny_bind (wpAny_runValue ?_)
        have hlS : l < s.heap.objs.size := Heap.lt_size hol
        have hh3 : A.in1.in1.in1.handled = none := by simp [hh]
        have hneI : l ≠ (s.heap.push { cls := .type "set", dict := none, data := .set #[] 0 (.fresh 0 0 (!w.params.followText "set-order")) }).objs.size := by
          rw [Heap.size_push]; exact Nat.ne_of_lt (Nat.lt_succ_of_lt hlS)
        have hSf : s.heap.objs.size ∉ [(s.heap.push { cls := .type "set", dict := none, data := .set #[] 0 (.fresh 0 0 (!w.params.followText "set-order")) }).objs.size, l] := by
          rw [Heap.size_push]; simp only [List.mem_cons, List.mem_singleton, List.not_mem_nil, or_false, not_or]
          exact ⟨Nat.ne_of_lt (Nat.lt_succ_self _), Nat.ne_of_gt hlS⟩
        have hval : ∀ (i : Nat) (v : Value), items[i]? = some v → ∃ k t, ns[i]? = some k ∧ v = .int k t := fun i v hv => by
          have hi : i < ns.length := by rw [← hisz]; exact (Array.getElem?_eq_some_iff.mp hv).1
          obtain ⟨t, e⟩ := PyProof.Rows.IntsAre.int_at hit i v (by rw [Array.getElem?_toList]; exact hv)
          refine ⟨ns[i], t, List.getElem?_eq_getElem hi, ?_⟩
          rw [e, List.getD_eq_getElem?_getD, List.getElem?_eq_getElem hi] <;> rfl
        refine set_update_ints ((Walks.list hh3 _ l hneI items).toS) s.heap.objs.size hSf ns hisz hb hval (items.size - 0) 0 _ (by omega) (Nat.zero_le _) ⟨⟨_, Heap.get?_push_size _ rfl, rfl, rfl⟩, (hl1.push _)⟩ ?hS0 ?hR
        case hS0 =>
          have hget : ((s.heap.push { cls := .type "set", dict := none, data := .set #[] 0 (.fresh 0 0 (!w.params.followText "set-order")) }).push { cls := .type "list_iterator", data := .fields #[.ref l, .int 0 0] }).get? s.heap.objs.size = some { cls := .type "set", dict := none, data := .set #[] 0 (.fresh 0 0 (!w.params.followText "set-order")) } := Heap.get?_push_of_some _ hS
          exact ⟨0, Nat.le_refl 0, setR_new_at hget⟩
        case hR =>
          intro s' c' hm hc' hS'
          obtain ⟨h', g2, d', tk', os'⟩ := s'
          have eg : g2 = s.gens := hm.gens
          have ed : d' = s.drawn := hm.drawn
          have eo : os' = s.os := hm.os
          subst eg; subst ed; subst eo
          show wpAny _ _ _ _ _ _
          refine wpAny_pure ?_
          show wpAny _ _ (PySem.ret Value.none) _ _ _
          rw [hisz] at hc'
          refine wpAny_pure ⟨rfl, h', tk', c', rfl, hS', hc', fun b o e => ?_⟩
          have hb0 : b < s.heap.objs.size := Heap.lt_size e
          have hb2 : b ≠ (s.heap.push { cls := .type "set", dict := none, data := .set #[] 0 (.fresh 0 0 (!w.params.followText "set-order")) }).objs.size := by
            rw [Heap.size_push]; exact Nat.ne_of_lt (Nat.lt_succ_of_lt hb0)
          exact hm.heap b o (by simp only [List.mem_cons, List.mem_singleton, List.not_mem_nil, or_false, not_or]; exact ⟨Nat.ne_of_lt hb0, hb2⟩) (Heap.get?_push_of_some _ (Heap.get?_push_of_some _ e))
      · cases r₂ with
        | error e => exact hr₂
        | ok fl₂ =>
          cases fl₂ with
          | ret r =>
            obtain ⟨rfl, h', tk, c', rfl, hS', hc', hk'⟩ := hr₂
            repeat (any_goals (first | assumption | wp_step))
            exact h _ _ _ hS' hc' hk'
          | _ => exact hr₂.elim
    | _ => exact hr.elim
end
section
variable {X : Cx} {ca : Nat → Addr} {W : WX}
/-- sorted(set(l)), l a list of ints -/
def tSortSet (K : PySem.W.Frag) (ta : TE) : TE := fun σ H Q => ta σ H fun x H1 => ∃ (l : Addr) (ns : List Int), x = .ref l ∧ SqL K H1 l (ns.map V.int) ∧ ns.length < 4000 ∧ (sortI ns).length < 64 ∧ ∀ p, H1 p = none → Q (.ref p) (upd H1 p (.lst ((sortI ns).map V.int)))
theorem pe_sortSet {a : Expr} {ta : TE} {p p2 q pos : Pos} (hg : Gl X "sorted") (hm : X.mg "sorted" = none) (hg2 : Gl X "set") (hm2 : X.mg "set" = none) (ha : PE X a ta) (hc : X.calm = true)
    (na : starEach [a] X.env = (false, eval a X.env) :: starEach [] X.env) : PE X (.Call (.Name "sorted" p) [.Call (.Name "set" p2) [a] [] q] [] pos) (tSortSet X.K ta) := by
  refine ⟨fun pins s σ H Q I h => ?_⟩
  refine Call_ (ld_blt I hg hm boot_sorted ?_)
  refine PyProof.Rows.callWith_builtin1 (PyProof.Rows.args_cons ?_ rfl) rfl rfl
  refine Call_ (ld_blt I hg2 hm2 PyProof.Rows.boot_set ?_)
  refine PyProof.Rows.callWith_type1 (PyProof.Rows.args_cons (L2.thn (ha.run pins s σ H _ I h) fun v s1 ⟨x, H1, I1, r1, q1⟩ => PyProof.Rows.args_nil ?_) na) na rfl
  obtain ⟨l, ns, rfl, hq, hl, h64, q1⟩ := q1
  cases r1
  obtain ⟨its, r, pl, hz⟩ := I1.list hq
  refine call_set_lstI ns (I1.ok.hd hc) pl.isList (by simpa using ints_of_vals r) (by unfold scanBound; omega) fun h' tk c R hcn hk => ?_
  refine PyProof.Rows.args_nil ?_
  have hcount := SetR.count R
  have I2 : Inv X pins σ H1 { s1 with heap := h', toks := tk } := (I1.kept (t' := s1.toks) fun b o e => hk b o e).tok _
  refine sorted_set R (I2.ok.hd hc) (by rw [hcount]; exact h64) fun s' p out cc ks k g o hp hgp hi hs hmem hlen => ?_
  have ek : ks = sortI ns := asc_uniq hs (sortI_asc ns) fun z => by rw [hmem z, sortI_mem, decide_eq_true_eq]
  subst ek
  have hll : ((sortI ns).map V.int).length ≤ sizeLine := by rw [List.length_map, sizeLine_eq]; omega
  have hn : H1 p = none := I2.hok.fresh hp
  have J : Inv X pins σ (upd H1 p (.lst ((sortI ns).map V.int))) { ({ s1 with heap := h', toks := tk } : Shared) with heap := s'.heap, gens := s'.gens, drawn := s'.drawn, toks := s'.toks } :=
    I2.call (ch := []) (Un.laid k hp hn) (I2.hok.laid k hp ⟨hll, out.toList, cc, vals_of_ints hi, hgp⟩) (by rw [g]; exact I2.bare) (fun _ z => nomatch z)
  have e : s' = { ({ s1 with heap := h', toks := tk } : Shared) with heap := s'.heap, gens := s'.gens, drawn := s'.drawn, toks := s'.toks } := by
    cases s'
    cases s1
    cases o
    rfl
  rw [e]
  exact ⟨.ref p, _, J, rfl, q1 p hn⟩
theorem re_sset (q : Cq X) {a : Expr} {p p2 q2 pos : Pos} {ma : En → M D} (hn : ns a = true) (hg : Gl X "sorted") (hm : X.mg "sorted" = none) (hg2 : Gl X "set") (hm2 : X.mg "set" = none) (ha : PE X a (tE (wd X ca) W ma)) :
    PE X (.Call (.Name "sorted" p) [.Call (.Name "set" p2) [a] [] q2] [] pos) (tE (wd X ca) W fun e => bnd (ma e) ssetM) :=
  (pe_sortSet hg hm hg2 hm2 ha q.hc (star_cons hn)).imp fun σ H Q h => h.bnd fun F O ρ e d st v H1 R E p h1 => by
    unfold ssetM at h1
    cases c : lv d st with
    | none => rw [c] at h1; exact h1.elim
    | some xs =>
      rw [c] at h1
      dsimp only at h1
      cases c2 : intsD xs with
      | none => rw [c2] at h1; exact h1.elim
      | some ns =>
        rw [c2] at h1
        dsimp only at h1
        by_cases hl : ns.length < 4000 ∧ (sortI ns).length < 64
        · rw [if_pos hl] at h1
          obtain ⟨b, vs, e1, s1, t1, _⟩ := lv_at (O := O) R (DR.pr p) c
          have e2 := ints_of t1 c2
          subst e2
          refine ⟨b, ns, e1, s1.sqL, hl.1, hl.2, fun p hp => ?_⟩
          obtain ⟨X', R'⟩ := laid R hp (.lst ((sortI ns).map V.int))
          exact h1 (.ref p) _ ρ _ X' R' ⟨p, _, rfl, .inl (.inl upd_same), drs_ints _⟩
        · rw [if_neg hl] at h1; exact h1.elim
end
/-! ### tuple(range(..)), list(range(..)) -/
def rgN (t : Bool) : Str := if t = true then "tuple" else "list"
section
variable {X : Cx} {ca : Nat → Addr} {W : WX}
theorem drs_rg {Wo : Wd} {F : Hp} {ρ : Rho} {lo : Int} : ∀ l : List Nat, DRs Wo F ρ (l.map fun (i : Nat) => .int (lo + i)) (l.map fun i => V.int (lo + (i : Nat)))
  | [] => rfl
  | i :: l => ⟨_, _, rfl, rfl, drs_rg l⟩
theorem rga_ok {F O : Hp} {ρ : Rho} {st : Sto} {H : Hp} {σ : L2.St} {t : Bool} {lo hi : Int} {Q : VK} (R : Rl (wd X ca) F O ρ st H) (h : okA (fun F' ρ' => DR (wd X ca) F' ρ') (wd X ca) W σ F O ρ H (rgaD t lo hi st) Q) :
    RgOk lo hi ∧ ∀ q, H q = none → Q (.ref q) (upd H q (if t = true then .tup (rgV lo hi) else .lst (rgV lo hi))) := by
  unfold rgaD at h
  by_cases c : -(2 ^ 62) ≤ lo ∧ lo < 2 ^ 62 ∧ -(2 ^ 62) ≤ hi ∧ hi < 2 ^ 62 ∧ (hi - lo).toNat ≤ 2 ^ 24
  · rw [if_pos c] at h
    refine ⟨c, fun q hq => ?_⟩
    have hd : DRs (wd X ca) F ρ ((List.range (hi - lo).toNat).map fun (i : Nat) => .int (lo + i)) (rgV lo hi) := drs_rg _
    cases t with
    | true =>
      obtain ⟨X', R'⟩ := laid R hq (.tup (rgV lo hi))
      exact h (.ref q) _ ρ _ X' R' ⟨q, _, rfl, .inl (.inl upd_same), hd.later X'.f X'.r⟩
    | false =>
      obtain ⟨X', R'⟩ := laid R hq (.lst (rgV lo hi))
      exact h (.ref q) _ ρ _ X' R' ⟨q, _, rfl, .inl (.inl upd_same), hd.later X'.f X'.r⟩
  · rw [if_neg c] at h; exact h.elim
theorem pe_rga {te : L2.St → Hp → (Int → Int → Hp → Prop) → Prop} {e : Expr} {t : Bool} {p pos : Pos} (hc : X.calm = true) (hg : Gl X (rgN t)) (hm : X.mg (rgN t) = none) (he : PRg X e te) (na : starEach [e] X.env = (false, eval e X.env) :: starEach [] X.env) :
    PE X (.Call (.Name (rgN t) p) [e] [] pos) (fun σ H Q => te σ H fun a b H1 => RgOk a b ∧ ∀ q, H1 q = none → Q (.ref q) (upd H1 q (if t = true then .tup (rgV a b) else .lst (rgV a b)))) := by
  cases t with
  | true => exact pe_tupRg hc hg hm he na
  | false => exact pe_listRg hc hg hm he na
theorem re_rg1 (q : Cq X) (t : Bool) {a : Expr} {p p2 q2 pos : Pos} {ma : En → M D} (hn : ns a = true) (hg : Gl X (rgN t)) (hm : X.mg (rgN t) = none) (hg2 : Gl X "range") (hm2 : X.mg "range" = none) (ha : PE X a (tE (wd X ca) W ma)) :
    PE X (.Call (.Name (rgN t) p) [.Call (.Name "range" p2) [a] [] q2] [] pos) (tE (wd X ca) W fun e => bnd (ma e) (rga1 t)) :=
  (pe_rga q.hc hg hm (prg_1 hg2 hm2 ha (star_cons hn)) rfl).imp fun σ H Q h => h.bnd fun F O ρ e d st v H1 R E p h1 => by
    cases d with
    | int j =>
      have p : v = .int j := p
      exact ⟨j, p, rga_ok R h1⟩
    | _ => exact h1.elim
theorem re_rg2 (q : Cq X) (t : Bool) {a b : Expr} {p p2 q2 pos : Pos} {ma mb : En → M D} (hn : ns a = true) (hn2 : ns b = true) (hg : Gl X (rgN t)) (hm : X.mg (rgN t) = none) (hg2 : Gl X "range") (hm2 : X.mg "range" = none) (ha : PE X a (tE (wd X ca) W ma)) (hb : PE X b (tE (wd X ca) W mb)) :
    PE X (.Call (.Name (rgN t) p) [.Call (.Name "range" p2) [a, b] [] q2] [] pos) (tE (wd X ca) W fun e => bnd (ma e) fun x => bnd (mb e) fun y => rga2 t x y) :=
  (pe_rga q.hc hg hm (prg_2 hg2 hm2 ha hb (star_cons hn) (star_cons hn2) (by rw [star_cons hn2]; rfl)) rfl).imp fun σ H Q h => h.bnd fun F O ρ e d st v H1 R E p h1 => ⟨F, O, ρ, e, st, R, E, by
    have h1 : okA (fun F' ρ' => DR (wd X ca) F' ρ') (wd X ca) W σ F O ρ H1 (Ev.bnd (mb e) (fun y => rga2 t d y) st) Q := h1
    refine okA.bnd h1 fun d2 st2 v2 F2 ρ2 H2 X2 R2 p2 h2 => ?_
    cases d with
    | int i =>
      cases d2 with
      | int j =>
        have p : v = .int i := p
        have p2 : v2 = .int j := p2
        exact ⟨i, j, p, p2, rga_ok R2 h2⟩
      | _ => exact h2.elim
    | _ => exact h2.elim⟩
end
end Ev

set_option Elab.async false
set_option linter.all false
set_option maxRecDepth 100000
set_option maxHeartbeats 4000000
/-! EvZ: dict(zip(a, b)) over lists and tuples. -/
namespace Ev
open PySem PySem.Spec PyProof.Rows L2
section
variable {prog : Program} {w : World} {A : Around} {E : Value → Shared → Prop} {s : Shared} {z TI TO T i1 i2 : Addr} {fp1 fp2 : List Addr} {n1 n2 i : Nat} {P1 P2 : Nat → Value → Prop} {St1 St2 : Nat → Heap → Prop} {f : Bool} {oT : Obj}
theorem zipD_held_item {Q : Option Value → Shared → Prop} (S : ZipSep2 z TI TO i1 i2 fp1 fp2) (D1 : Draws prog w A.in1 i1 fp1 n1 P1 St1) (D2 : Draws prog w A.in1 i2 fp2 n2 P2 St2)
    (hz : IsZipHeld s.heap z TI TO T f) (hT : s.heap.get? T = some oT) (hTI : IsTupOf2 s.heap TI (.ref i1) (.ref i2)) (st1 : St1 i s.heap) (st2 : St2 i s.heap) (hlt1 : i < n1) (hlt2 : i < n2)
    (hQ : ∀ x1 x2 h' tk, P1 i x1 → P2 i x2 → IsZipHeld h' z TI TO T true → St1 (i + 1) h' → St2 (i + 1) h' → IsTupOf2 h' s.heap.objs.size x1 x2 → h'.objs.size = s.heap.objs.size + 1 →
      (∀ c o, c ≠ z → c ≠ i1 → c ≠ i2 → s.heap.get? c = some o → h'.get? c = some o) → Q (some (.ref s.heap.objs.size)) { s with heap := h', toks := tk }) :
    wpAny (model prog w) A (pyNext (.ref z)) Q E s := by
  have hTy : s.TypeIs (.ref z) "zip" := ⟨_, hz, rfl⟩
  unfold pyNext
  refine wpAny_bind (wpAny_attempt (wpAny_callSpecial?_slot (name := Str.ofString "__next__") hTy F.slot_zip_next
    (wpAny_call_entry F.slot_zip_next hTy F.entry_zip_next ?_ (F.args_zip_next_1 _))))
  obtain ⟨hp, g, d, tk0, os⟩ := s
  show wpAny _ _ (field (.ref z) 2 >>= _) _ _ _
  refine wpAny_bind (wpAny_field hz rfl (x := .bool false) rfl ?_)
  show wpAny _ _ (field (.ref z) 3 >>= _) _ _ _
  refine wpAny_bind (wpAny_field hz rfl (x := .ref TI) rfl ?_)
  refine wpAny_bind (wpAny_seqItems hTI rfl ?_)
  show wpAny _ _ (Builtin.SmallTypes.ownedTupleIsFree (.ref z) >>= _) _ _ _
  refine wpAny_bind (wpAny_tupleHeld_zip hz hT fun h₁ hz₁ hs₁ => ?_)
  replace hs₁ : Heap.SameBut z hp h₁ := hs₁
  simp only [Bool.false_eq_true, if_false]
  refine wpAny_bind ?_
  rw [← Array.forIn_toList]
  simp only [List.forIn_cons, List.forIn_nil]
  refine wpAny_bind (wpAny_bind (wpAny_holding ?_))
  show wpAny _ _ (Builtin.SmallTypes.nextOf (.ref i1) >>= _) _ _ ⟨h₁, g, d, tk0, os⟩
  refine wpAny_bind (D1.item i _ _ _ hlt1 (D1.over st1 hs₁ S.zf1) fun x1 p1 tk1 hx1 sn1 hp1 => wpAny_pure ?_)
  replace hp1 : Heap.SameBut i1 h₁ p1 := hp1
  refine wpAny_pure ?_
  refine wpAny_bind (wpAny_bind (wpAny_holding ?_))
  show wpAny _ _ (Builtin.SmallTypes.nextOf (.ref i2) >>= _) _ _ ⟨p1, g, d, tk1, os⟩
  refine wpAny_bind (D2.item i _ _ _ hlt2 (D2.over (D2.over st2 hs₁ S.zf2) hp1 S.sep1_2) fun x2 p2 tk2 hx2 sn2 hp2 => wpAny_pure ?_)
  replace hp2 : Heap.SameBut i2 p1 p2 := hp2
  refine wpAny_pure (wpAny_pure ?_)
  show wpAny _ _ (newTuple [x1, x2] >>= _) _ _ _
  refine wpAny_bind (wpAny_newTuple ?_)
  have hsz : p2.objs.size = hp.objs.size := by rw [hp2.1, hp1.1, hs₁.1]
  have hz₃ : IsZipHeld p2 z TI TO T true := hp2.extBut _ _ S.zi2 (hp1.extBut _ _ S.zi1 hz₁)
  have hk : ∀ c o, c ≠ z → c ≠ i1 → c ≠ i2 → hp.get? c = some o → p2.get? c = some o := fun c o c1 c2 c3 e => hp2.extBut _ _ c3 (hp1.extBut _ _ c2 (hs₁.extBut _ _ c1 e))
  have e1 : St1 (i + 1) p2 := D1.over sn1 hp2 S.sep2_1
  refine wpAny_pure ⟨_, rfl, wpAny_pure ?_⟩
  show Q (some (.ref p2.objs.size)) _
  have hpp : IsTupOf2 (p2.push { cls := .type "tuple", data := .seq #[x1, x2] }) p2.objs.size x1 x2 := Heap.get?_push_size _ rfl
  have hz4 : (p2.push { cls := .type "tuple", data := .seq #[x1, x2] }).objs.size = p2.objs.size + 1 := Heap.size_push ..
  rw [hsz] at hpp hz4 ⊢
  exact hQ x1 x2 _ tk2 hx1 hx2 (Heap.get?_push_of_some _ hz₃) (D1.frame _ _ _ e1 fun b _ o e => Heap.get?_push_of_some _ e) (D2.frame _ _ _ sn2 fun b _ o e => Heap.get?_push_of_some _ e) hpp hz4 fun c o c1 c2 c3 e => Heap.get?_push_of_some _ (hk c o c1 c2 c3 e)
theorem zipD_held_end {Q : Option Value → Shared → Prop} (S : ZipSep2 z TI TO i1 i2 fp1 fp2) (D1 : Draws prog w A.in1 i1 fp1 n1 P1 St1) (D2 : Draws prog w A.in1 i2 fp2 n2 P2 St2)
    (hz : IsZipHeld s.heap z TI TO T f) (hT : s.heap.get? T = some oT) (hTI : IsTupOf2 s.heap TI (.ref i1) (.ref i2)) (st1 : St1 i s.heap) (st2 : St2 i s.heap) (hle1 : i ≤ n1) (hle2 : i ≤ n2) (hend : i = n1 ∨ i = n2)
    (hQ : ∀ h' tk, (∀ c o, c ≠ z → c ≠ i1 → c ≠ i2 → s.heap.get? c = some o → h'.get? c = some o) → Q none { s with heap := h', toks := tk }) :
    wpAny (model prog w) A (pyNext (.ref z)) Q E s := by
  have hTy : s.TypeIs (.ref z) "zip" := ⟨_, hz, rfl⟩
  unfold pyNext
  refine wpAny_bind (wpAny_attempt (wpAny_callSpecial?_slot (name := Str.ofString "__next__") hTy F.slot_zip_next
    (wpAny_call_entry F.slot_zip_next hTy F.entry_zip_next ?_ (F.args_zip_next_1 _))))
  obtain ⟨hp, g, d, tk0, os⟩ := s
  show wpAny _ _ (field (.ref z) 2 >>= _) _ _ _
  refine wpAny_bind (wpAny_field hz rfl (x := .bool false) rfl ?_)
  show wpAny _ _ (field (.ref z) 3 >>= _) _ _ _
  refine wpAny_bind (wpAny_field hz rfl (x := .ref TI) rfl ?_)
  refine wpAny_bind (wpAny_seqItems hTI rfl ?_)
  show wpAny _ _ (Builtin.SmallTypes.ownedTupleIsFree (.ref z) >>= _) _ _ _
  refine wpAny_bind (wpAny_tupleHeld_zip hz hT fun h₁ hz₁ hs₁ => ?_)
  replace hs₁ : Heap.SameBut z hp h₁ := hs₁
  simp only [Bool.false_eq_true, if_false]
  refine wpAny_bind ?_
  rw [← Array.forIn_toList]
  simp only [List.forIn_cons, List.forIn_nil]
  refine wpAny_bind (wpAny_bind (wpAny_holding ?_))
  show wpAny _ _ (Builtin.SmallTypes.nextOf (.ref i1) >>= _) _ _ ⟨h₁, g, d, tk0, os⟩
  by_cases hlt : i < n1
  · refine wpAny_bind (D1.item i _ _ _ hlt (D1.over st1 hs₁ S.zf1) fun x1 p1 tk1 hx1 sn1 hp1 => wpAny_pure ?_)
    replace hp1 : Heap.SameBut i1 h₁ p1 := hp1
    refine wpAny_pure ?_
    refine wpAny_bind (wpAny_bind (wpAny_holding ?_))
    show wpAny _ _ (Builtin.SmallTypes.nextOf (.ref i2) >>= _) _ _ ⟨p1, g, d, tk1, os⟩
    have hi2 : i = n2 := by omega
    refine wpAny_bind (D2.done ⟨p1, g, d, tk1, os⟩ _ _ (by rw [← hi2]; exact D2.over (D2.over st2 hs₁ S.zf2) hp1 S.sep1_2) fun q e hq he => ?_)
    replace hq : Heap.ExtBut i2 p1 q := hq
    obtain ⟨o, ho, hc⟩ := he
    refine wpAny_bind (wpAny_isInstance (T := "StopIteration") (b := true) ⟨o, ho, hc⟩ isSubtype_stop ?_)
    exact wpAny_pure (hQ q tk1 fun c o c1 c2 c3 x => hq _ _ c3 (hp1.extBut _ _ c2 (hs₁.extBut _ _ c1 x)))
  · have hi1 : i = n1 := by omega
    refine wpAny_bind (D1.done ⟨h₁, g, d, tk0, os⟩ _ _ (by rw [← hi1]; exact D1.over st1 hs₁ S.zf1) fun q e hq he => ?_)
    replace hq : Heap.ExtBut i1 h₁ q := hq
    obtain ⟨o, ho, hc⟩ := he
    refine wpAny_bind (wpAny_isInstance (T := "StopIteration") (b := true) ⟨o, ho, hc⟩ isSubtype_stop ?_)
    exact wpAny_pure (hQ q tk0 fun c o c1 c2 _ x => hq _ _ c2 (hs₁.extBut _ _ c1 x))
/-- a zip as what dict() takes -/
theorem argD (S : ZipSep2 z TI TO i1 i2 fp1 fp2) (D1 : ∀ A : Around, A.handled = none → Draws prog w A i1 fp1 n1 P1 St1) (D2 : ∀ A : Around, A.handled = none → Draws prog w A i2 fp2 n2 P2 St2)
    (k1 : ∀ h h', St1 0 h → (∀ b o, h.get? b = some o → h'.get? b = some o) → St1 0 h') (k2 : ∀ h h', St2 0 h → (∀ b o, h.get? b = some o → h'.get? b = some o) → St2 0 h')
    (t1 : ∀ h, St1 0 h → ∀ b ∈ fp1, ∃ o, h.get? b = some o) (t2 : ∀ h, St2 0 h → ∀ b ∈ fp2, ∃ o, h.get? b = some o) :
    PairArg prog w "zip" z (z :: TI :: TO :: (fp1 ++ fp2)) [z, TO, i1, i2] (min n1 n2) (fun i k v => P1 i k ∧ P2 i v)
      (fun h => IsZip h z TI TO .none ∧ IsTupOf2 h TI (.ref i1) (.ref i2) ∧ (∃ a b, IsTupOf2 h TO a b) ∧ St1 0 h ∧ St2 0 h) where
  type := fun s ok => ⟨_, ok.1, rfl⟩
  notDict := by decide
  keep := fun h h' ok hk => by
    obtain ⟨hz, hTI, ⟨a, b, hTO⟩, h1, h2⟩ := ok
    exact ⟨hk _ _ hz, hk _ _ hTI, ⟨a, b, hk _ _ hTO⟩, k1 _ _ h1 hk, k2 _ _ h2 hk⟩
  there := fun h ok b hb => by
    obtain ⟨hz, hTI, ⟨a, c, hTO⟩, h1, h2⟩ := ok
    simp only [List.mem_cons, List.mem_append] at hb
    rcases hb with rfl | rfl | rfl | hb | hb
    · exact ⟨_, hz⟩
    · exact ⟨_, hTI⟩
    · exact ⟨_, hTO⟩
    · exact t1 h h1 b hb
    · exact t2 h h2 b hb
  sub := fun b hb => by
    simp only [List.mem_cons, List.not_mem_nil, or_false, List.mem_append] at hb ⊢
    rcases hb with rfl | rfl | rfl | rfl
    · exact .inl rfl
    · exact .inr (.inr (.inl rfl))
    · exact .inr (.inr (.inr (.inl S.mem1)))
    · exact .inr (.inr (.inr (.inr S.mem2)))
  noKeys := fun A s Q E hA ok h => getAttrOr_miss_zip ok.1 rfl rfl rfl zip_no_keys (by decide +kernel) hA h
  iter := fun A s d Q E hA ok hd hdf h => by
    obtain ⟨hz, hTI, ⟨a, b, hTO⟩, h1, h2⟩ := ok
    simp only [List.mem_cons, List.mem_append, not_or] at hdf
    obtain ⟨dz, dTI, dTO, d1, d2⟩ := hdf
    have E1 := D1 A.in1 hA
    have E2 := D2 A.in1 hA
    have dm1 : d ≠ i1 := fun e => d1 (by rw [e]; exact S.mem1)
    have dm2 : d ≠ i2 := fun e => d2 (by rw [e]; exact S.mem2)
    refine wpAny_pyIter_zip hz (h z [z, TO, i1, i2] (fun i h => IsTupOf2 h TI (.ref i1) (.ref i2) ∧ St1 i h ∧ St2 i h ∧
      ((IsZip h z TI TO .none ∧ ∃ a b, IsTupOf2 h TO a b) ∨ ∃ T f oT, IsZipHeld h z TI TO T f ∧ h.get? T = some oT ∧ T ≠ z ∧ T ≠ i1 ∧ T ≠ i2 ∧ T ≠ d)) s.heap s.toks ?_
      ⟨hTI, h1, h2, .inl ⟨hz, a, b, hTO⟩⟩ (fun _ _ e => e) fun b hb => .inl hb)
    exact {
      off := fun hm => by
        simp only [List.mem_cons, List.not_mem_nil, or_false] at hm
        rcases hm with e | e | e | e
        · exact dz e
        · exact dTO e
        · exact dm1 e
        · exact dm2 e
      frame := fun i h₁ h₂ st hk => by
        obtain ⟨hTI, h1, h2, hz⟩ := st
        refine ⟨hk _ _ (Ne.symm dTI) hTI, E1.frame _ _ _ h1 fun b hb o e => hk b o (fun x => d1 (x ▸ hb)) e, E2.frame _ _ _ h2 fun b hb o e => hk b o (fun x => d2 (x ▸ hb)) e, ?_⟩
        rcases hz with ⟨hz, a, b, hTO⟩ | ⟨T, f, oT, hz, hT, r1, r2, r3, r4⟩
        · exact .inl ⟨hk _ _ (Ne.symm dz) hz, a, b, hk _ _ (Ne.symm dTO) hTO⟩
        · exact .inr ⟨T, f, oT, hk _ _ (Ne.symm dz) hz, hk _ _ r4 hT, r1, r2, r3, r4⟩
      item := fun i s₁ Q₁ E₁ hi st hds hQ => by
        obtain ⟨hTI, h1, h2, hz⟩ := st
        have l1 : i < n1 := Nat.lt_of_lt_of_le hi (Nat.min_le_left ..)
        have l2 : i < n2 := Nat.lt_of_lt_of_le hi (Nat.min_le_right ..)
        have lt : ∀ {c o}, s₁.heap.get? c = some o → s₁.heap.objs.size ≠ c := fun e => Nat.ne_of_gt (Heap.lt_size e)
        have m1 : s₁.heap.objs.size ≠ i1 := let ⟨_, e⟩ := E1.live _ _ h1; lt e
        have m2 : s₁.heap.objs.size ≠ i2 := let ⟨_, e⟩ := E2.live _ _ h2; lt e
        rcases hz with ⟨hz, a, b, hTO⟩ | ⟨T, f, oT, hz, hT, r1, r2, r3, r4⟩
        · refine wpAny_pyNext_zipD2_item S E1 E2 hz hTI hTO h1 h2 l1 l2 fun x1 x2 h' tk y1 y2 a1 a2 a3 a4 a5 a6 hk => ?_
          exact hQ s₁.heap.objs.size _ _ h' tk ⟨y1, y2⟩ (.inl ⟨_, a5, rfl, _, rfl⟩)
            ⟨hk _ _ S.TIz S.TITO S.TIi1 S.TIi2 hTI, a3, a4, .inr ⟨s₁.heap.objs.size, false, _, a1, a5, lt hz, m1, m2, Nat.ne_of_gt hds⟩⟩
            fun c o hc e => hk c o (fun x => hc (by simp [x])) (fun x => hc (by simp [x])) (fun x => hc (by simp [x])) (fun x => hc (by simp [x])) e
        · refine zipD_held_item S E1 E2 hz hT hTI h1 h2 l1 l2 fun x1 x2 h' tk y1 y2 a1 a3 a4 a5 a6 hk => ?_
          exact hQ s₁.heap.objs.size _ _ h' tk ⟨y1, y2⟩ (.inl ⟨_, a5, rfl, _, rfl⟩)
            ⟨hk _ _ S.TIz S.TIi1 S.TIi2 hTI, a3, a4, .inr ⟨T, true, oT, a1, hk _ _ r1 r2 r3 hT, r1, r2, r3, r4⟩⟩
            fun c o hc e => hk c o (fun x => hc (by simp [x])) (fun x => hc (by simp [x])) (fun x => hc (by simp [x])) e
      done := fun s₁ Q₁ E₁ st hQ => by
        obtain ⟨hTI, h1, h2, hz⟩ := st
        rcases hz with ⟨hz, a, b, hTO⟩ | ⟨T, f, oT, hz, hT, r1, r2, r3, r4⟩
        · exact wpAny_pyNext_zipD2_end S E1 E2 hz hTI hTO h1 h2 (by omega) (by omega) (by omega) fun h' tk hk => hQ h' tk fun c o hc e => hk c o (fun x => hc (by simp [x])) (fun x => hc (by simp [x])) (fun x => hc (by simp [x])) (fun x => hc (by simp [x])) e
        · exact zipD_held_end S E1 E2 hz hT hTI h1 h2 (by omega) (by omega) (by omega) fun h' tk hk => hQ h' tk fun c o hc e => hk c o (fun x => hc (by simp [x])) (fun x => hc (by simp [x])) (fun x => hc (by simp [x])) e }
end
/-- what a sequence's iterator draws -/
structure Src (prog : Program) (w : World) (h0 : Heap) (a : Addr) (its : List Value) where
  o : Obj
  HH : Heap → Prop
  St : Addr → Nat → Heap → Prop
  B : Begins (.ref a) o HH
  h : HH h0
  lt : a < h0.objs.size
  D : ∀ it, a ≠ it → ∀ A : Around, A.handled = none → Draws prog w A it [it, a] its.length (fun i v => its[i]? = some v) (St it)
  st : ∀ it h', h'.get? it = some o → HH h' → St it 0 h'
  k : ∀ it h h', St it 0 h → (∀ b o, h.get? b = some o → h'.get? b = some o) → St it 0 h'
  t : ∀ it h, St it 0 h → ∀ b ∈ [it, a], ∃ o, h.get? b = some o
theorem toA {its : List Value} {i : Nat} {v : Value} : (its.toArray[i]? = some v) = (its[i]? = some v) := by simp
def srcL {prog : Program} {w : World} {h0 : Heap} {a : Addr} {its : List Value} (hl : h0.IsList a its.toArray) : Src prog w h0 a its where
  o := { cls := .type "list_iterator", data := .fields #[.ref a, .int 0 0] }
  HH := fun h => h.IsList a its.toArray
  St := fun it i h => h.IsListIter it a i ∧ h.IsList a its.toArray
  B := begins_list a its.toArray
  h := hl
  lt := let ⟨_, e, _⟩ := hl; Heap.lt_size e
  D := fun it hne A hA => by
    have d := Draws.list (prog := prog) (w := w) hA it a hne its.toArray
    rw [List.size_toArray] at d
    simpa only [toA] using d
  st := fun it h' e hh => ⟨⟨_, e, rfl, rfl⟩, hh⟩
  k := fun it h h' st k => ⟨st.1.at fun o e => k _ o e, st.2.at fun o e => k _ o e⟩
  t := fun it h st b hb => by
    obtain ⟨⟨o, e, _⟩, ⟨o2, e2, _⟩⟩ := st
    simp only [List.mem_cons, List.not_mem_nil, or_false] at hb
    rcases hb with rfl | rfl
    · exact ⟨o, e⟩
    · exact ⟨o2, e2⟩
def srcT {prog : Program} {w : World} {h0 : Heap} {a : Addr} {its : List Value} (hl : h0.IsTuple a its.toArray) : Src prog w h0 a its where
  o := { cls := .type "tuple_iterator", data := .fields #[.ref a, .int 0 0] }
  HH := fun h => h.IsTuple a its.toArray
  St := fun it i h => h.IsTupleIter it a i ∧ h.IsTuple a its.toArray
  B := begins_tuple a its.toArray
  h := hl
  lt := let ⟨_, e, _⟩ := hl; Heap.lt_size e
  D := fun it hne A hA => by
    have d := Draws.tuple (prog := prog) (w := w) hA it a hne its.toArray
    rw [List.size_toArray] at d
    simpa only [toA] using d
  st := fun it h' e hh => ⟨⟨_, e, rfl, rfl⟩, hh⟩
  k := fun it h h' st k => ⟨st.1.at fun o e => k _ o e, st.2.at fun o e => k _ o e⟩
  t := fun it h st b hb => by
    obtain ⟨⟨o, e, _⟩, ⟨o2, e2, _⟩⟩ := st
    simp only [List.mem_cons, List.not_mem_nil, or_false] at hb
    rcases hb with rfl | rfl
    · exact ⟨o, e⟩
    · exact ⟨o2, e2⟩
/-- keys and values, as far as both go -/
def ZR : List (Key × V) → List V → List V → Prop
  | [], us, vs => us = [] ∨ vs = []
  | (k, v) :: r, us, vs => ∃ ur vr, us = kV k :: ur ∧ vs = v :: vr ∧ ZR r ur vr
theorem ZR.prs {P : Program} {w : World} : ∀ {kvl : List (Key × V)} {us vs : List V} {is js : List Value}, ZR kvl us vs → Vals us is → Vals vs js →
    ∃ prs : List (Key × Value), KV kvl prs ∧ prs.length = min is.length js.length ∧ ∀ (i : Nat) (key v : Value), is[i]? = some key → js[i]? = some v → ∃ k, prs[i]? = some (k, v) ∧ (mixKind P w).is k key = true
  | [], us, vs, is, js, h, r1, r2 => by
    refine ⟨[], .nil, ?_, fun i key v e1 e2 => ?_⟩
    · rcases h with rfl | rfl
      · cases r1; simp
      · cases r2; simp
    · rcases h with rfl | rfl
      · cases r1; simp at e1
      · cases r2; simp at e2
  | (k, v) :: r, us, vs, is, js, h, r1, r2 => by
    obtain ⟨ur, vr, rfl, rfl, h⟩ := h
    cases r1 with
    | cons a1 t1 =>
      cases r2 with
      | cons a2 t2 =>
        obtain ⟨prs, g1, g2, g3⟩ := ZR.prs (P := P) (w := w) h t1 t2
        refine ⟨(k, _) :: prs, .cons ⟨rfl, a2⟩ g1, by simp only [List.length_cons, g2]; omega, fun i key v e1 e2 => ?_⟩
        cases i with
        | zero =>
          rw [List.getElem?_cons_zero] at e1 e2
          cases e1; cases e2
          exact ⟨k, rfl, kV_is a1⟩
        | succ i =>
          rw [List.getElem?_cons_succ] at e1 e2
          obtain ⟨k', e3, e4⟩ := g3 i key v e1 e2
          exact ⟨k', by rw [List.getElem?_cons_succ]; exact e3, e4⟩
def tDzip (K : PySem.W.Frag) (ta : TA) : TE := fun σ H Q => ta σ H fun vs H1 => ∃ a b us ws kvl, vs = [.ref a, .ref b] ∧ (SqL K H1 a us ∨ SqT K H1 a us) ∧ (SqL K H1 b ws ∨ SqT K H1 b ws) ∧ ZR kvl us ws ∧ kvl.length ≤ sizeLine ∧
  ∀ q, H1 q = none → Q (.ref q) (upd H1 q (.dK (mergeK [] kvl)))
section
variable {X : Cx} {ca : Nat → Addr} {W : WX}
theorem src_of {pins : List (Addr × Obj)} {s : Shared} {σ : L2.St} {H : Hp} {a : Addr} {us : List V} (I : Inv X pins σ H s) (h : SqL X.K H a us ∨ SqT X.K H a us) : ∃ its, Vals us its ∧ Nonempty (Src X.prog X.w s.heap a its) := by
  rcases h with h | h
  · obtain ⟨its, rv, p, _⟩ := I.list h
    exact ⟨its, rv, ⟨srcL p.isList⟩⟩
  · obtain ⟨its, rv, p, _⟩ := I.tuple h
    exact ⟨its, rv, ⟨srcT p⟩⟩
theorem pe_dzip {a b : Expr} {ta : TA} {p p2 q pos : Pos} (hg : Gl X "dict") (hm : X.mg "dict" = none) (hg2 : Gl X "zip") (hm2 : X.mg "zip" = none) (ha : PA X [a, b] ta) (hc : X.calm = true)
    (hs : starEach [a, b] X.env = (false, eval a X.env) :: starEach [b] X.env) (hpl : (backTo q (starEach [b] X.env)).any (·.1) = false) : PE X (.Call (.Name "dict" p) [.Call (.Name "zip" p2) [a, b] [] q] [] pos) (tDzip X.K ta) := by
  refine ⟨fun pins s σ H Q I h => ?_⟩
  refine Call_ (ld_blt I hg hm PyProof.Rows.boot_dict ?_)
  refine PyProof.Rows.callWith_type1 (PyProof.Rows.args_cons ?_ rfl) rfl rfl
  refine Call_ (ld_blt I hg2 hm2 PyProof.Rows.boot_zip (PyProof.Rows.callWith_type1 (L2.thn (ha.run q pins s σ H _ I h) fun us s1 ⟨vs, H1, I1, r1, q1⟩ => ?_) hs hpl))
  obtain ⟨a1, b1, us, ws, kvl, ex, hx, hy, hz, hl, q1⟩ := q1
  subst ex
  cases r1 with
  | cons r rr =>
    cases rr with
    | cons r' rr =>
      cases rr
      cases r
      cases r'
      obtain ⟨is, rv1, ⟨S1⟩⟩ := src_of I1 hx
      obtain ⟨js, rv2, ⟨S2⟩⟩ := src_of I1 hy
      obtain ⟨prs, g1, g2, g3⟩ := hz.prs (P := X.prog) (w := X.w) rv1 rv2
      refine zip_begins2 S1.B S2.B S1.h S2.h fun h' c1 c2 c3 c4 c5 hsz hk => ?_
      refine PyProof.Rows.args_nil ?_
      have hN := S1.lt
      have hM := S2.lt
      generalize hn : s1.heap.objs.size = n at *
      have hN : a1 < n := hN
      have hM : b1 < n := hM
      have ne : ∀ {i : Nat} {x : Addr}, x < n → n + i ≠ x := fun {i x} z e => absurd (Nat.le_add_right n i) (by rw [e]; exact Nat.not_le.mpr z)
      have ne0 : ∀ {x : Addr}, x < n → n ≠ x := fun {x} z e => by rw [e] at z; exact absurd z (Nat.lt_irrefl _)
      have nj : ∀ {i j : Nat}, i ≠ j → n + i ≠ n + j := fun {i j} z e => z (Nat.add_left_cancel e)
      have S : ZipSep2 (n + 4) (n + 2) (n + 3) n (n + 1) [n, a1] [n + 1, b1] := by
        refine ⟨nj (by decide), nj (by decide), nj (by decide), nj (j := 0) (by decide), by simp, ?_, ?_, nj (by decide), by simp, ?_, ?_, ?_, ?_⟩
        · simp only [List.mem_cons, List.not_mem_nil, or_false, not_or]; exact ⟨nj (j := 0) (by decide), ne hN⟩
        · simp only [List.mem_cons, List.not_mem_nil, or_false, not_or]; exact ⟨nj (j := 0) (by decide), ne hN⟩
        · simp only [List.mem_cons, List.not_mem_nil, or_false, not_or]; exact ⟨nj (by decide), ne hM⟩
        · simp only [List.mem_cons, List.not_mem_nil, or_false, not_or]; exact ⟨nj (by decide), ne hM⟩
        · simp only [List.mem_cons, List.not_mem_nil, or_false, not_or]; exact ⟨nj (i := 0) (by decide), ne0 hM⟩
        · simp only [List.mem_cons, List.not_mem_nil, or_false, not_or]; exact ⟨nj (j := 0) (by decide), ne hN⟩
      have P := argD (prog := X.prog) (w := X.w) S (S1.D n (ne0 hN).symm) (S2.D (n + 1) (ne hM).symm) (S1.k n) (S2.k (n + 1)) (S1.t n) (S2.t (n + 1))
      have I2 : Inv X pins σ H1 { s1 with heap := h' } := I1.kept (t' := s1.toks) hk
      have hlen : (mergeK [] kvl).length ≤ sizeLine := by
        refine Nat.le_trans (length_mergeK kvl []) ?_
        rw [List.length_nil, Nat.zero_add]; exact hl
      have hkl : kvl.length = min is.length js.length := by rw [← g2]; exact KV.length g1
      refine PySem.call_dict_pairs (s := { s1 with heap := h' }) (knd := mixKind X.prog X.w) (kvs := prs) P (I2.ok.hd hc) ⟨c1, c2, ⟨_, _, c3⟩, S1.st n h' c4 (S1.B.keeps _ _ S1.h hk), S2.st (n + 1) h' c5 (S2.B.keeps _ _ S2.h hk)⟩
        ⟨g2, fun i key v e => g3 i key v e.1 e.2⟩ (by rw [← hkl]; exact hl) fun h2 tk hd' k => ?_
      have fr : ∀ b ∈ [n + 4, n + 3, n, n + 1], FpOk X pins H1 b := fun b hb => by
        have hle : s1.heap.objs.size ≤ b := by
          rw [hn]
          simp only [List.mem_cons, List.not_mem_nil, or_false] at hb
          rcases hb with rfl | rfl | rfl | rfl
          · exact Nat.le_add_right _ _
          · exact Nat.le_add_right _ _
          · exact Nat.le_refl _
          · exact Nat.le_add_right _ _
        exact I1.fpOk hle (I1.hok.fresh hle)
      have hms : (h'.objs.size == sysModules) = false := beq_eq_false_iff_ne.mpr (Nat.ne_of_gt I2.big)
      exact ⟨.ref h'.objs.size, upd H1 h'.objs.size (.dK (mergeK [] kvl)), I2.turnedNew (t' := tk) (ch := [n + 4, n + 3, n, n + 1]) k fr (Nat.le_refl _) (show ObjOk X.prog X.w _ _ _ (.dK (mergeK [] kvl)) from ⟨hlen, hms, merged [] prs, KV.merge g1 .nil, hd'⟩), rfl, q1 _ (I2.hok.fresh (Nat.le_refl _))⟩
theorem zipK_at {Wo : Wd} {F O : Hp} {ρ : Rho} : ∀ {ks ds : List D} {kvs : List (Key × D)} {us ws : List V}, zipK ks ds = some kvs → DRs Wo F ρ ks us → DRs Wo F ρ ds ws → ∃ kvl, DRk Wo F ρ kvs kvl ∧ ZR kvl us ws ∧ kvl.length ≤ ks.length
  | [], ds, kvs, us, ws, h, t1, t2 => by
    have h : some [] = some kvs := by unfold zipK at h; exact h
    cases h
    exact ⟨[], rfl, .inl t1, Nat.le_refl _⟩
  | _ :: _, [], kvs, us, ws, h, t1, t2 => by
    have h : some [] = some kvs := by unfold zipK at h; exact h
    cases h
    exact ⟨[], rfl, .inr t2, Nat.zero_le _⟩
  | k :: ks, d :: ds, kvs, us, ws, h, t1, t2 => by
    unfold zipK at h
    cases e1 : keyD k with
    | none => rw [e1] at h; cases h
    | some q =>
      cases e2 : zipK ks ds with
      | none => rw [e1, e2] at h; cases h
      | some r =>
        rw [e1, e2] at h
        cases h
        obtain ⟨u, ur, rfl, p1, t1⟩ := t1
        obtain ⟨v, vr, rfl, p2, t2⟩ := t2
        obtain ⟨kvl, g1, g2, g3⟩ := zipK_at (O := O) e2 t1 t2
        have eu : u = kV q := keyD_at (F := F) (O := O) (ρ := ρ) e1 (DR.pr p1)
        subst eu
        exact ⟨(q, v) :: kvl, ⟨v, kvl, rfl, p2, g1⟩, ⟨ur, vr, rfl, rfl, g2⟩, by simpa using g3⟩
theorem DRk.fold {Wo : Wd} {F : Hp} {ρ : Rho} : ∀ {kvs : List (Key × D)} {kvl : List (Key × V)} {acc : List (Key × D)} {bcc : List (Key × V)}, DRk Wo F ρ kvs kvl → DRk Wo F ρ acc bcc → DRk Wo F ρ (kvs.foldl (fun a p => setK a p.1 p.2) acc) (mergeK bcc kvl)
  | [], kvl, acc, bcc, h, g => by cases h; exact g
  | (k, d) :: r, kvl, acc, bcc, h, g => by
    obtain ⟨v, kr, rfl, p, t⟩ := h
    show DRk Wo F ρ (r.foldl (fun a p => setK a p.1 p.2) (setK acc k d)) (mergeK (putK bcc k v) kr)
    exact DRk.fold t (g.put p)
theorem re_dzip (q : Cq X) {a b : Expr} {p p2 q2 pos : Pos} {ma mb : En → M D} (hn : ns a = true) (hn2 : ns b = true) (hg : Gl X "dict") (hm : X.mg "dict" = none) (hg2 : Gl X "zip") (hm2 : X.mg "zip" = none) (ha : PE X a (tE (wd X ca) W ma)) (hb : PE X b (tE (wd X ca) W mb)) :
    PE X (.Call (.Name "dict" p) [.Call (.Name "zip" p2) [a, b] [] q2] [] pos) (tE (wd X ca) W fun e => bnd (ma e) fun x => bnd (mb e) fun y => dzipM x y) :=
  (pe_dzip hg hm hg2 hm2 (rs_cons hn ha (rs_cons hn2 hb rs_nil)) q.hc (star_cons hn) (by rw [star_cons hn2]; rfl)).imp fun σ H Q h => by
    obtain ⟨F, O, ρ, e, st, R, E, h⟩ := h
    refine ⟨F, O, ρ, e, st, R, E, ?_⟩
    dsimp only [Ev.bnd] at h ⊢
    cases q1 : ma e st with
    | ex x s1 => rw [q1] at h; exact h
    | no => rw [q1] at h; exact h.elim
    | ok d s1 =>
      rw [q1] at h
      dsimp only at h ⊢
      cases q2 : mb e s1 with
      | ex x s2 => rw [q2] at h; exact h
      | no => rw [q2] at h; exact h.elim
      | ok d' s2 =>
        rw [q2] at h
        intro vs F2 ρ2 H2 X2 R2 p2
        obtain ⟨u, ur, rfl, p3, u', ur', rfl, p4, t⟩ := p2
        cases t
        have h : okA (fun F' ρ' => pE (wd X ca) F' O ρ') (wd X ca) W σ F O ρ H (dzipM d d' s2) Q := h
        unfold dzipM at h
        cases c1 : sq d s2 with
        | none => rw [c1] at h; exact h.elim
        | some ks =>
          cases c2 : sq d' s2 with
          | none => rw [c1, c2] at h; exact h.elim
          | some ds =>
            rw [c1, c2] at h
            dsimp only at h
            cases c3 : zipK ks ds with
            | none => rw [c3] at h; exact h.elim
            | some kvs =>
              rw [c3] at h
              dsimp only at h
              by_cases c : ks.length < 4000 ∧ ds.length < 4000
              · rw [if_pos c] at h
                obtain ⟨a1, us, rfl, s1', t1⟩ := sq_at (O := O) R2 (DR.pr p3) c1
                obtain ⟨b1, ws, rfl, s2', t2⟩ := sq_at (O := O) R2 (DR.pr p4) c2
                obtain ⟨kvl, g1, g2, g3⟩ := zipK_at (O := O) c3 t1 t2
                refine ⟨a1, b1, us, ws, kvl, rfl, ?_, ?_, g2, by rw [sizeLine_eq]; omega, fun p hp => ?_⟩
                · rcases s1' with z | z
                  · exact .inl z.sqL
                  · exact .inr z
                · rcases s2' with z | z
                  · exact .inl z.sqL
                  · exact .inr z
                obtain ⟨X3, R3⟩ := laid R2 hp (.dK (mergeK [] kvl))
                have g4 : DRk (wd X ca) F2 ρ2 (mkD kvs) (mergeK [] kvl) := DRk.fold g1 rfl
                exact h (.ref p) _ ρ2 _ (X2.trans X3) R3 ⟨p, _, rfl, .inl upd_same, g4.later X3.f X3.r⟩
              · rw [if_neg c] at h; exact h.elim
end
end Ev

set_option Elab.async false
set_option linter.all false
set_option maxRecDepth 100000
set_option maxHeartbeats 4000000
/-! EvE: a program's text beside the small language, and what that gives. -/
namespace Ev
open PySem PySem.Spec PyProof.Rows L2
/-- what is told of classes: their names with number, __init__ and its parameters; methods (class, name, def, parameters); names that a class does not have -/
structure CT where
  mr : List (Str × Nat × Nat × Nat)
  mt : List (Nat × Nat × Nat × Nat)
  na : List (Nat × Nat)
/-- what a body's text is held against -/
structure MC where
  N : List Str
  sc : Scope
  raw : Scope
  gls : List Str
  fns : List (Option (Str × Nat))
  bns : List Str
  ct : CT
def MC.noat (c : MC) (f : Nat) (cs : List Nat) : Bool := cs.all fun C => c.ct.na.contains (C, f)
def rel (sc scope : Scope) : Scope :=
  { scope with names := scope.names.map fun (n, k) => if (k == .free && sc.kind == .function && sc.names.lookup n == some .cell) then (n, .cell) else (n, k) }
def MC.blk (c : MC) (scope : Scope) : MC := { c with sc := rel c.sc scope, raw := scope }
def nmOk (x : Str) : Bool := !(x == ("__debug__" : Str)) && !(x == ("__classdict__" : Str))
def MC.vis (c : MC) (x : Str) : Bool := c.sc.names.lookup x == some .local || c.sc.names.lookup x == some .cell || c.sc.names.lookup x == some .free
def MC.gl (c : MC) (x : Str) : Bool := c.sc.names.lookup x == some .globalImplicit
def MC.loc (c : MC) (x : Str) : Bool := c.sc.names.lookup x == some .local || (c.sc.names.lookup x == some .cell && c.raw.names.lookup x == some .cell)
def MC.at (c : MC) (i : Nat) (x : Str) : Bool := c.N[i]? == some x
def MC.blt (c : MC) (x : Str) : Bool := c.gl x && c.bns.contains x
def baseOk : Expr → Bool
  | .Call _ [] _ _ => false
  | _ => true
def notSet : Expr → Bool
  | .Set _ _ _ => false
  | _ => true
def notComp : Expr → Bool
  | .ListComp _ _ _ _ | .SetComp _ _ _ _ | .DictComp _ _ _ _ _ => false
  | _ => true
mutual
def mtTn (c : MC) : Tn → Expr → Bool
  | .nm i => fun e => match e with
    | .Name x _ => c.at i x && c.loc x
    | _ => false
  | .tp ts => fun e => match e with
    | .Tuple es _ _ => mtTns c ts es
    | _ => false
def mtTns (c : MC) : Tns → List Expr → Bool
  | .nil => fun l => match l with
    | [] => true
    | _ => false
  | .cons t r => fun l => match l with
    | e :: es => ns e && mtTn c t e && mtTns c r es
    | _ => false
end
mutual
/-- a constant, a display of constants -/
def mtC : D → Expr → Bool
  | .tup xs => fun e => match e with
    | .Tuple l _ _ => decide (xs.length ≤ 1000) && mtCs xs l
    | _ => false
  | .lst xs => fun e => match e with
    | .List l _ => decide (xs.length ≤ 1000) && mtCs xs l
    | _ => false
  | .int i => fun e => match e with
    | .Constant k _ _ => sameC k (.int i)
    | .UnaryOp .USub (.Constant (.int j) _ _) _ => decide (i = -j)
    | _ => false
  | .non => fun e => match e with
    | .Constant k _ _ => sameC k .non
    | _ => false
  | .bl b => fun e => match e with
    | .Constant k _ _ => sameC k (.bl b)
    | _ => false
  | .str x => fun e => match e with
    | .Constant k _ _ => sameC k (.str x)
    | _ => false
  | _ => fun _ => false
def mtCs : List D → List Expr → Bool
  | [] => fun l => match l with
    | [] => true
    | _ => false
  | d :: ds => fun l => match l with
    | e :: es => ns e && mtC d e && mtCs ds es
    | _ => false
end
/-- a comprehension's own names, with their places -/
def MC.own (c : MC) (is : List Nat) : List (Str × Nat) := is.map fun i => (c.N.getD i "", i)
def isYes : Te → Bool
  | .yes => true
  | _ => false
def ifOk (y : Bool) (f : Expr → Bool) : List Expr → Bool
  | [] => y
  | [e] => f e
  | _ => false
theorem ifOk_is {y : Bool} {f : Expr → Bool} {l : List Expr} (h : ifOk y f l = true) : (l = [] ∧ y = true) ∨ ∃ e, l = [e] ∧ f e = true := by
  match l, h with
  | [], h => exact .inl ⟨rfl, h⟩
  | [e], h => exact .inr ⟨e, rfl, h⟩
  | _ :: _ :: _, h => cases h
theorem isYes_is {t : Te} (h : isYes t = true) : t = .yes := by
  cases t with
  | yes => rfl
  | _ => cases h
mutual
def mtE : MC → Ex → Expr → Bool
  | c, .var i => fun e => match e with
    | .Name x _ => c.at i x && c.vis x && nmOk x
    | _ => false
  | c, .cst d => fun e => mtC d e
  | c, .glb i => fun e => match e with
    | .Name x _ => c.gls[i]? == some x && c.gl x && nmOk x
    | _ => false
  | c, .tup es => fun e => match e with
    | .Tuple l _ _ => mtEs c es l
    | _ => false
  | c, .lst es => fun e => match e with
    | .List l _ => mtEs c es l
    | _ => false
  | c, .nls es => fun e => match e with
    | .List l _ => mtEs c es l
    | _ => false
  | c, .bin o a b => fun e => match e with
    | .BinOp a' op b' _ => decide (op = opOf o) && mtE c a a' && mtE c b b'
    | _ => false
  | c, .neg a => fun e => match e with
    | .UnaryOp .USub a' _ => mtE c a a'
    | _ => false
  | c, .not a => fun e => match e with
    | .UnaryOp .Not a' _ => mtE c a a'
    | _ => false
  | c, .and a b => fun e => match e with
    | .BoolOp .And (a' :: b' :: r) p => mtE c a a' && (match r with
      | [] => mtE c b b'
      | x :: r => mtE c b (.BoolOp .And (b' :: x :: r) p))
    | _ => false
  | c, .or a b => fun e => match e with
    | .BoolOp .Or (a' :: b' :: r) p => mtE c a a' && (match r with
      | [] => mtE c b b'
      | x :: r => mtE c b (.BoolOp .Or (b' :: x :: r) p))
    | _ => false
  | c, .cmp o a b => fun e => match e with
    | .Compare a' [op] [b'] _ => decide (op = cmpOf o) && !behindInMarks (cmpOf o) b' && mtE c a a' && mtE c b b'
    | _ => false
  | c, .chn o p a b d => fun e => match e with
    | .Compare a' [op, op'] [b', d'] _ => decide (op = cmpOf o) && decide (op' = cmpOf p) && !lastMarks [cmpOf o, cmpOf p] [b', d'] && mtE c a a' && mtE c b b' && mtE c d d'
    | _ => false
  | c, .ite t a b => fun e => match e with
    | .IfExp t' a' b' _ => mtT c t t' && mtE c a a' && mtE c b b'
    | _ => false
  | c, .idx a b => fun e => match e with
    | .Subscript a' b' _ => plainIx b' && mtE c a a' && mtE c b b'
    | _ => false
  | c, .rev a => fun e => match e with
    | .Subscript a' (.Slice none none (some (.UnaryOp .USub (.Constant (.int 1) _ _) _)) _) _ => mtE c a a'
    | _ => false
  | c, .slcL a lo => fun e => match e with
    | .Subscript a' (.Slice (some lo') none none _) _ => mtE c a a' && mtE c lo lo'
    | _ => false
  | c, .slcH a hi => fun e => match e with
    | .Subscript a' (.Slice none (some hi') none _) _ => mtE c a a' && mtE c hi hi'
    | _ => false
  | c, .slc a lo hi => fun e => match e with
    | .Subscript a' (.Slice (some lo') (some hi') none _) _ => mtE c a a' && mtE c lo lo' && mtE c hi hi'
    | _ => false
  | c, .call f es => fun e => match e with
    | .Call (.Name x _) l [] _ => c.fns[f]? == some (some (x, es.len)) && c.gl x && nmOk x && mtEs c es l
    | _ => false
  | c, .blt b es => fun e => match e with
    | .Call (.Name x _) (a :: l) [] _ => x == bfN b && c.blt (bfN b) && mtEs c es (a :: l)
    | _ => false
  | c, .isi t a => fun e => match e with
    | .Call (.Name x _) [a', .Name y _] [] _ => x == ("isinstance" : Str) && y == tyNm t && c.blt "isinstance" && c.blt (tyNm t) && ns a' && mtE c a a'
    | _ => false
  | c, .mth m o es => fun e => match e with
    | .Call (.Attribute o' x ap) l [] cp => x == mfN m && baseOk o' && ap.endLine == cp.line && decide (l.length < 29) && mtE c o o' && mtEs c es l
    | _ => false
  | c, .lc own t it cd el => fun e => match e with
    | .ListComp el' [⟨tg, it', ifs, 0⟩] sc _ => blkC c.N c.sc sc (c.own own) && t.inn own && notSet it' && mtTn (c.blk sc) t tg && mtW c it tg it' && mtE (c.blk sc) el el' && ifOk (isYes cd) (mtT (c.blk sc) cd) ifs
    | _ => false
  | c, .dsp ks es => fun e => match e with
    | .Dict keys values _ => !keys.isEmpty && decide (keys.length ≤ 15) && mtK ks keys && decide (ks.length = es.len) && decide (values.length = es.len) && mtEs c es values
    | _ => false
  | c, .ndc => fun e => match e with
    | .Dict [] [] _ => true
    | _ => false
  | c, .lset a => fun e => match e with
    | .Call (.Name x _) [.Call (.Name y _) [a'] [] _] [] _ => x == ("len" : Str) && y == ("set" : Str) && c.blt "len" && c.blt "set" && ns a' && mtE c a a'
    | _ => false
  | _, .bad => fun _ => true
  | c, .fld a f cs => fun e => match e with
    | .Attribute a' x _ => x == fnm f && baseOk a' && c.noat f cs && mtE c a a'
    | _ => false
  | c, .met o m tab es => fun e => match e with
    | .Call (.Attribute o' x ap) l [] cp => x == fnm m && baseOk o' && ap.endLine == cp.line && decide (l.length < 29) && (tab.all fun p => c.ct.mt.contains (p.1, m, p.2, es.len)) && mtE c o o' && mtEs c es l
    | _ => false
  | c, .mk C f es => fun e => match e with
    | .Call (.Name x _) l [] _ => c.ct.mr.contains (x, C, f, es.len) && c.gl x && nmOk x && mtEs c es l
    | _ => false
  | c, .dc own t it cd kx vx => fun e => match e with
    | .DictComp kx' vx' [⟨tg, it', ifs, 0⟩] sc _ => blkC c.N c.sc sc (c.own own) && t.inn own && notSet it' && mtTn (c.blk sc) t tg && mtW c it tg it' && mtE (c.blk sc) kx kx' && mtE (c.blk sc) vx vx' && ifOk (isYes cd) (mtT (c.blk sc) cd) ifs
    | _ => false
  | c, .lc2 own own1 t it cd t1 it1 cd1 el => fun e => match e with
    | .ListComp el' [⟨tg, it', ifs, 0⟩, ⟨tg1, it1', ifs1, 0⟩] sc _ => blkC c.N c.sc sc (c.own own) && t.inn own && t1.inn own1 && (own1.all fun i => own.contains i) && notSet it' && notSet it1' && mtTn (c.blk sc) t tg && mtTn (c.blk sc) t1 tg1 && mtW c it tg it' && mtW (c.blk sc) it1 tg1 it1' && mtE (c.blk sc) el el' && ifOk (isYes cd) (mtT (c.blk sc) cd) ifs && ifOk (isYes cd1) (mtT (c.blk sc) cd1) ifs1
    | _ => false
  | c, .sset a => fun e => match e with
    | .Call (.Name x _) [.Call (.Name y _) [a'] [] _] [] _ => x == ("sorted" : Str) && y == ("set" : Str) && c.blt "sorted" && c.blt "set" && ns a' && mtE c a a'
    | _ => false
  | c, .dzip a b => fun e => match e with
    | .Call (.Name x _) [.Call (.Name y _) [a', b'] [] _] [] _ => x == ("dict" : Str) && y == ("zip" : Str) && c.blt "dict" && c.blt "zip" && ns a' && ns b' && mtE c a a' && mtE c b b'
    | _ => false
  | c, .rg1 t a => fun e => match e with
    | .Call (.Name x _) [.Call (.Name y _) [a'] [] _] [] _ => x == rgN t && y == ("range" : Str) && c.blt (rgN t) && c.blt "range" && ns a' && mtE c a a'
    | _ => false
  | c, .rg2 t a b => fun e => match e with
    | .Call (.Name x _) [.Call (.Name y _) [a', b'] [] _] [] _ => x == rgN t && y == ("range" : Str) && c.blt (rgN t) && c.blt "range" && ns a' && ns b' && mtE c a a' && mtE c b b'
    | _ => false
def mtEs : MC → Exs → List Expr → Bool
  | c, .nil => fun l => match l with
    | [] => true
    | _ => false
  | c, .cons x r => fun l => match l with
    | e :: es => ns e && mtE c x e && mtEs c r es
    | _ => false
def mtT : MC → Te → Expr → Bool
  | c, .yes => fun _ => false
  | c, .vl x => fun e => (match x with
    | .cmp _ _ _ => true
    | .chn _ _ _ _ _ => true
    | _ => plainT e) && mtE c x e
  | c, .not a => fun e => match e with
    | .UnaryOp .Not a' _ => mtT c a a'
    | _ => false
  | c, .and a b => fun e => match e with
    | .BoolOp .And (a' :: b' :: r) p => mtT c a a' && (match r with
      | [] => mtT c b b'
      | x :: r => mtT c b (.BoolOp .And (b' :: x :: r) p))
    | _ => false
  | c, .or a b => fun e => match e with
    | .BoolOp .Or (a' :: b' :: r) p => mtT c a a' && (match r with
      | [] => mtT c b b'
      | x :: r => mtT c b (.BoolOp .Or (b' :: x :: r) p))
    | _ => false
  | c, .ite t a b => fun e => match e with
    | .IfExp t' a' b' _ => mtT c t t' && mtT c a a' && mtT c b b'
    | _ => false
def mtW : MC → Wi → Expr → Expr → Bool
  | c, .seq a => fun _ e => mtE c a e
  | c, .rng a => fun _ e => match e with
    | .Call (.Name x _) [a'] [] _ => x == ("range" : Str) && c.blt "range" && ns a' && mtE c a a'
    | _ => false
  | c, .rng2 a b => fun _ e => match e with
    | .Call (.Name x _) [a', b'] [] _ => x == ("range" : Str) && c.blt "range" && ns a' && ns b' && mtE c a a' && mtE c b b'
    | _ => false
  | c, .enu a => fun tg e => match tg, e with
    | .Tuple _ _ _, .Call (.Name x _) [a'] [] _ => x == ("enumerate" : Str) && c.blt "enumerate" && ns a' && mtE c a a'
    | _, _ => false
  | c, .zip a b => fun tg e => match tg, e with
    | .Tuple _ _ _, .Call (.Name x _) [a', b'] [] _ => x == ("zip" : Str) && c.blt "zip" && ns a' && ns b' && mtE c a a' && mtE c b b'
    | _, _ => false
end
/-- the rows of these definitions are made here (elsewhere Lean's own bound on them cannot be turned) -/
theorem mt_rows {c : MC} {e : Expr} {l : List Expr} (h : mtE c (.var 0) e = true) (h1 : mtEs c .nil l = true) (h2 : mtT c .yes e = true) (h3 : mtW c (.seq (.var 0)) e e = true) : mtE c (.var 0) e = true := by
  have g := h
  simp only [mtE] at h
  simp only [mtEs] at h1
  simp only [mtT] at h2
  simp only [mtW] at h3
  exact g
/-! ### what a body stands on -/
structure Bk (ca : Nat → Addr) (fe : FE) (k : Nat) (X : Cx) (c : MC) (W : WX) : Prop where
  N : X.N = c.N
  nd : X.N.Nodup
  sc : X.env.scope = c.sc
  kd : c.sc.kind = .function
  fn : ∀ x, c.raw.names.lookup x = some .cell → X.fn x = true
  hc : X.calm = true
  gd : X.A.guards = some []
  rm : Room k X.A
  bl : ∀ x ∈ c.bns, X.mg x = none
  gv : ∀ (i : Nat) (x : Str), c.gls[i]? = some x → ∃ d, fe.gl[i]? = some d ∧ GOk X.K X.w ca X.mg x d
  ms : ∀ (C m f n : Nat), (C, m, f, n) ∈ c.ct.mt → Cls X.K (ca C) ∧ ∃ g fd ps, Meth X.K (ca C) (fnm m) g ∧ ps.length = n + 1 ∧ FnG X.prog X.w X.K X.mg X.base k g fd ps (spD (wd X ca) ps.length (fe.call f)) ∧
    ∀ (s : Shared) (us : List Value), us.length = ps.length → BindsTo s fd ⟨us, []⟩ (ps.zip us)
  mr : ∀ (x : Str) (C f n : Nat), (x, C, f, n) ∈ c.ct.mr → X.mg x = some (.ref (ca C)) ∧ ∃ j g fd ps, k = j + 1 ∧ Mk X.K (ca C) g ∧ ps.length = n + 1 ∧ FnG X.prog X.w X.K X.mg X.base j g fd ps (spD (wd X ca) ps.length (fe.call f)) ∧
    ∀ (s : Shared) (us : List Value), us.length = ps.length → BindsTo s fd ⟨us, []⟩ (ps.zip us)
  na : ∀ (C f : Nat), (C, f) ∈ c.ct.na → Cls X.K (ca C) ∧ NoAttr X.K (ca C) (fnm f)
  fs : ∀ (i : Nat) (x : Str) (n : Nat), c.fns[i]? = some (some (x, n)) → ∃ f fd ps, X.mg x = some (.ref f) ∧ PySem.W.keepIn X.K (.ref f) = true ∧ ps.length = n ∧ FnG X.prog X.w X.K X.mg X.base k f fd ps (spD (wd X ca) ps.length (fe.call i)) ∧
    ∀ (s : Shared) (us : List Value), us.length = ps.length → BindsTo s fd ⟨us, []⟩ (ps.zip us)
  tk : Takes X W
  po : PassesOwn (model X.prog X.w) X.A X.env X.xe
section
variable {X : Cx} {ca : Nat → Addr} {fe : FE} {k : Nat} {c : MC} {W : WX}
theorem Bk.q (B : Bk ca fe k X c W) : Cq X := ⟨by have := B.rm.un; omega, B.hc, B.gd, B.nd⟩
theorem Bk.vis (B : Bk ca fe k X c W) {x : Str} (h : c.vis x = true) : Vis X.env.scope x := by
  rw [B.sc]
  unfold MC.vis at h
  simp only [Bool.or_eq_true, beq_iff_eq] at h
  rcases h with (h | h) | h
  · exact .inl h
  · exact .inr (.inl h)
  · exact .inr (.inr h)
theorem Bk.at (B : Bk ca fe k X c W) {i : Nat} {x : Str} (h : c.at i x = true) : X.N[i]? = some x := by
  rw [B.N]; exact beq_iff_eq.mp h
theorem Bk.gl (B : Bk ca fe k X c W) {x : Str} (h : c.gl x = true) : Gl X x := by
  show X.env.scope.names.lookup x = _
  rw [B.sc]; exact beq_iff_eq.mp h
theorem Bk.loc (B : Bk ca fe k X c W) {x : Str} (h : c.loc x = true) : Loc X.env.scope x ∧ (X.fn x = true ∨ X.env.scope.names.lookup x = some .local) := by
  rw [B.sc]
  unfold MC.loc at h
  simp only [Bool.or_eq_true, Bool.and_eq_true, beq_iff_eq] at h
  rcases h with h | ⟨h1, h2⟩
  · exact ⟨.inl h, .inr h⟩
  · exact ⟨.inr h1, .inl (B.fn x h2)⟩
theorem Bk.blt (B : Bk ca fe k X c W) {x : Str} (h : c.blt x = true) : Gl X x ∧ X.mg x = none := by
  unfold MC.blt at h
  rw [Bool.and_eq_true] at h
  exact ⟨B.gl h.1, B.bl x (by simpa using h.2)⟩
theorem Bk.blk (B : Bk ca fe k X c W) {scope : Scope} (hk : scope.kind = .function) (s : Shared) (H : Hp) (C : Addr) (cl : List (Str × Addr)) (fp : List Addr) : Bk ca fe k (X.blk s H scope (compEnvC scope cl C X.env) fp) (c.blk scope) W0 where
  N := B.N
  nd := B.nd
  sc := by
    show relabel scope X.env = rel c.sc scope
    rw [← B.sc]; rfl
  kd := hk
  fn := fun x h => by
    show (scope.names.lookup x == some .cell) = true
    exact beq_iff_eq.mpr h
  hc := B.hc
  gd := B.gd
  rm := B.rm
  bl := B.bl
  gv := B.gv
  ms := B.ms
  mr := B.mr
  na := B.na
  fs := B.fs
  tk := fun _ _ ⟨_, _, _, _, _, _, _, _, _, _, _, _, _, _, _, _, w⟩ => w.elim
  po := fun _ _ h => h.elim
theorem Bk.noat (B : Bk ca fe k X c W) {f : Nat} {cs : List Nat} (h : c.noat f cs = true) : ∀ C, cs.contains C = true → Cls X.K (ca C) ∧ NoAttr X.K (ca C) (fnm f) := fun C hC => by
  unfold MC.noat at h
  have := List.all_eq_true.mp h C (by simpa using hC)
  exact B.na C f (by simpa using this)
theorem lookN_mem {α : Type} {C : Nat} {f : α} : ∀ {tab : List (Nat × α)}, lookN C tab = some f → (C, f) ∈ tab
  | (D, g) :: r, h => by
    unfold lookN at h
    by_cases e : D = C
    · rw [if_pos e] at h; cases h; rw [e]; exact List.mem_cons_self
    · rw [if_neg e] at h; exact List.mem_cons_of_mem _ (lookN_mem h)
theorem Bk.meths (B : Bk ca fe k X c W) {m n : Nat} {tab : List (Nat × Nat)} (h : (tab.all fun p => c.ct.mt.contains (p.1, m, p.2, n)) = true) : Meths X ca k fe.call m tab n := fun C f hC => by
  have := List.all_eq_true.mp h (C, f) (lookN_mem hC)
  exact B.ms C m f n (by simpa using this)
theorem nmOk_is {x : Str} (h : nmOk x = true) : (x == ("__debug__" : Str)) = false ∧ (x == ("__classdict__" : Str)) = false := by
  unfold nmOk at h
  simp only [Bool.and_eq_true, Bool.not_eq_true'] at h
  exact h
theorem base_is {o : Expr} {x : Str} {env : Env} (h : baseOk o = true) : attributeBase o x env (eval o env) = eval o env := by
  cases o with
  | Call f args kws p =>
    cases args with
    | nil => cases h
    | cons a as => cases f <;> rfl
  | _ => rfl
theorem set_is {e : Expr} {env : Env} (h : notSet e = true) : ∀ x, foldedSetIterable e env x = pure x := fun x => by
  cases e with
  | Set _ _ _ => cases h
  | _ => rfl
/-! ### targets -/
theorem assign_len {es : List Expr} {env : Env} (h : es.all ns = true) : (assignEach es env).length = es.length ∧ (assignEach es env).findIdx? (·.1) = none ∧ ∀ e r, es = e :: r → (assignEach (e :: r) env).map (·.2) = assign e env :: (assignEach r env).map (·.2) := by
  induction es with
  | nil => exact ⟨rfl, rfl, fun _ _ z => by cases z⟩
  | cons e r ih =>
    rw [List.all_cons, Bool.and_eq_true] at h
    obtain ⟨h1, h2, _⟩ := ih h.2
    have g : assignEach (e :: r) env = (false, assign e env) :: assignEach r env := by
      cases e <;> first | rfl | (exact absurd h.1 (fun z => by cases z))
    refine ⟨by rw [g, List.length_cons, List.length_cons, h1], by rw [g, List.findIdx?_cons]; simp [h2], fun e' r' z => ?_⟩
    cases z
    rw [g]; rfl
mutual
theorem pg_tn {X : Cx} {c : MC} {W : WX} (B : Bk ca fe k X c W) : ∀ (t : Tn) (e : Expr), mtTn c t e = true → PG X e (gOf X.K t)
  | .nm i, e, h => by
    simp only [mtTn] at h
    split at h
    · rw [Bool.and_eq_true] at h
      exact pg_name B.nd (B.at h.1) (B.loc h.2).1 (B.loc h.2).2
    · cases h
  | .tp ts, e, h => by
    simp only [mtTn] at h
    split at h
    · rename_i es _ _
      obtain ⟨h1, h2, h3⟩ := pg_tns B ts es h
      have ha := assign_len (env := X.env) h2
      exact pg_TL B.hc h1 (by rw [ha.1]; exact h3) ha.2.1
    · cases h
theorem pg_tns {X : Cx} {c : MC} {W : WX} (B : Bk ca fe k X c W) : ∀ (ts : Tns) (es : List Expr), mtTns c ts es = true → PGs X es (gsOf X.K ts) ∧ es.all ns = true ∧ es.length = ts.len
  | .nil, es, h => by
    simp only [mtTns] at h
    split at h
    · exact ⟨pgs_nil, rfl, rfl⟩
    · cases h
  | .cons t r, es, h => by
    simp only [mtTns] at h
    split at h
    · rename_i e es
      rw [Bool.and_eq_true, Bool.and_eq_true] at h
      obtain ⟨h1, h2, h3⟩ := pg_tns B r es h.2
      have hall : (e :: es).all ns = true := by rw [List.all_cons, h.1.1, h2]; rfl
      exact ⟨pgs_cons (pg_tn B t e h.1.2) h1 ((assign_len hall).2.2 e es rfl), hall, by rw [List.length_cons, h3]; rfl⟩
    · cases h
end
theorem mtEs_all {c : MC} : ∀ (xs : Exs) (es : List Expr), mtEs c xs es = true → es.all ns = true ∧ es.length = xs.len
  | .nil, es, h => by
    simp only [mtEs] at h
    split at h
    · exact ⟨rfl, rfl⟩
    · cases h
  | .cons x r, es, h => by
    simp only [mtEs] at h
    split at h
    · rename_i e es
      rw [Bool.and_eq_true, Bool.and_eq_true] at h
      obtain ⟨h1, h2⟩ := mtEs_all r es h.2
      exact ⟨by rw [List.all_cons, h.1.1, h1]; rfl, by rw [List.length_cons, h2]; rfl⟩
    · cases h
theorem evs_len : ∀ (xs : Exs) {e : En} {s s' : Sto} {ds : List D}, evs fe xs e s = .ok ds s' → ds.length = xs.len
  | .nil, e, s, s', ds, h => by simp only [evs] at h; cases h; rfl
  | .cons x r, e, s, s', ds, h => by
    simp only [evs] at h
    unfold bnd at h
    cases q : ev fe x e s with
    | ok d s1 =>
      rw [q] at h
      have h : bnd (evs fe r e) (fun xs => ret (d :: xs)) s1 = .ok ds s' := h
      unfold bnd at h
      cases q2 : evs fe r e s1 with
      | ok ds2 s2 => rw [q2] at h; cases h; rw [List.length_cons, evs_len r q2]; rfl
      | ex _ _ => rw [q2] at h; cases h
      | no => rw [q2] at h; cases h
    | ex _ _ => rw [q] at h; cases h
    | no => rw [q] at h; cases h
end
end Ev

set_option Elab.async false
set_option linter.all false
set_option maxRecDepth 100000
set_option maxHeartbeats 4000000
/-! EvF: the small language tells what expressions do. -/
namespace Ev
open PySem PySem.Spec PyProof.Rows L2
variable {ca : Nat → Addr} {fe : FE} {k : Nat}
theorem and2 {a b : Bool} (h : (a && b) = true) : a = true ∧ b = true := by simpa using h
theorem small_is {n : Nat} (h : n ≤ 1000) : n ≤ sizeLine := by rw [sizeLine_eq]; omega
mutual
theorem re_con {X : Cx} {W : WX} : ∀ (d : D) (e : Expr), mtC d e = true → PE X e (tE (wd X ca) W fun _ => ret d)
  | .tup xs, e, h => by
    simp only [mtC] at h
    split at h
    · obtain ⟨h1, h2⟩ := and2 h
      have m : mkT xs = ret (.tup xs) := by unfold mkT; rw [if_pos (small_is (of_decide_eq_true h1))]
      refine (re_tup (ca := ca) (W := W) (pa_con xs _ h2)).imp fun σ H Q z => ?_
      have e : (fun _ : En => bnd (ret xs) mkT) = fun _ => ret (D.tup xs) := by funext _; exact m
      rw [e]; exact z
    · cases h
  | .lst xs, e, h => by
    simp only [mtC] at h
    split at h
    · obtain ⟨h1, h2⟩ := and2 h
      have m : mkL xs = ret (.lst xs) := by unfold mkL; rw [if_pos (small_is (of_decide_eq_true h1))]
      refine (re_lst (ca := ca) (W := W) (pa_con xs _ h2)).imp fun σ H Q z => ?_
      have e : (fun _ : En => bnd (ret xs) mkL) = fun _ => ret (D.lst xs) := by funext _; exact m
      rw [e]; exact z
    · cases h
  | .int i, e, h => by
    simp only [mtC] at h
    split at h
    · exact re_cst h
    · rename_i j _ _ _
      have e := of_decide_eq_true h
      subst e
      exact re_neg (re_cst (d := .int j) (by simp [sameC]))
    · cases h
  | .non, e, h => by
    simp only [mtC] at h
    split at h
    · exact re_cst h
    · cases h
  | .bl b, e, h => by
    simp only [mtC] at h
    split at h
    · exact re_cst h
    · cases h
  | .str x, e, h => by
    simp only [mtC] at h
    split at h
    · exact re_cst h
    · cases h
  | .dct _, e, h => by simp only [mtC] at h; cases h
  | .ref _, e, h => by simp only [mtC] at h; cases h
theorem pa_con {X : Cx} {W : WX} : ∀ (ds : List D) (es : List Expr), mtCs ds es = true → PA X es (tEs (wd X ca) W fun _ => ret ds)
  | [], es, h => by
    simp only [mtCs] at h
    split at h
    · exact rs_nil
    · cases h
  | d :: ds, es, h => by
    simp only [mtCs] at h
    split at h
    · obtain ⟨h1, h2⟩ := and2 h
      obtain ⟨h3, h4⟩ := and2 h1
      exact rs_cons h3 (re_con d _ h4) (pa_con ds _ h2)
    · cases h
end
/-- read at once -/
theorem pk_ev {X : Cx} {c : MC} {W : WX} (B : Bk ca fe k X c W) (x : Ex) (e : Expr) (h : mtE c x e = true) (p : PE X e (tE (wd X ca) W (ev fe x))) : PE X e (tP (wd X ca) W fun en => pk x en (ev fe x en)) := by
  cases x with
  | var i =>
    simp only [mtE] at h
    split at h
    · obtain ⟨h1, h2⟩ := and2 h
      obtain ⟨h3, h4⟩ := and2 h1
      exact rp_var (B.at h3) (B.vis h4) (nmOk_is h2).1 (nmOk_is h2).2
    · cases h
  | _ => exact rp_of p
mutual
theorem pe_ev {X : Cx} {c : MC} {W : WX} (B : Bk ca fe k X c W) : ∀ (x : Ex) (e : Expr), mtE c x e = true → PE X e (tE (wd X ca) W (ev fe x))
  | .var i, e, h => by
    simp only [mtE] at h
    split at h
    · obtain ⟨h1, h2⟩ := and2 h
      obtain ⟨h3, h4⟩ := and2 h1
      exact re_var (B.at h3) (B.vis h4) (nmOk_is h2).1 (nmOk_is h2).2
    · cases h
  | .cst d, e, h => by
    simp only [mtE] at h
    exact re_con d e h
  | .glb i, e, h => by
    simp only [mtE] at h
    split at h
    · obtain ⟨h1, h2⟩ := and2 h
      obtain ⟨h3, h4⟩ := and2 h1
      obtain ⟨d, g1, g2⟩ := B.gv i _ (beq_iff_eq.mp h3)
      exact re_glb g2 (B.gl h4) (nmOk_is h2).1 (by rw [g1])
    · cases h
  | .tup es, e, h => by
    simp only [mtE] at h
    split at h
    · exact re_tup (pa_ev B es _ h)
    · cases h
  | .lst es, e, h => by
    simp only [mtE] at h
    split at h
    · exact re_lst (pa_ev B es _ h)
    · cases h
  | .nls es, e, h => by
    simp only [mtE] at h
    split at h
    · exact re_nls (pa_ev B es _ h)
    · cases h
  | .bin o a b, e, h => by
    simp only [mtE] at h
    split at h
    · obtain ⟨h1, h2⟩ := and2 h
      obtain ⟨h3, h4⟩ := and2 h1
      cases (of_decide_eq_true h3)
      exact re_bin o (pk_ev B a _ h4 (pe_ev B a _ h4)) (pk_ev B b _ h2 (pe_ev B b _ h2))
    · cases h
  | .neg a, e, h => by
    simp only [mtE] at h
    split at h
    · exact re_neg (pe_ev B a _ h)
    · cases h
  | .not a, e, h => by
    simp only [mtE] at h
    split at h
    · exact re_not (pk_ev B a _ h (pe_ev B a _ h))
    · cases h
  | .and a b, e, h => by
    simp only [mtE] at h
    split at h
    · obtain ⟨h1, h2⟩ := and2 h
      split at h2
      · exact re_and (pe_ev B a _ h1) (pe_one (pe_ev B b _ h2))
      · exact re_and (pe_ev B a _ h1) (pe_ev B b _ h2)
    · cases h
  | .or a b, e, h => by
    simp only [mtE] at h
    split at h
    · obtain ⟨h1, h2⟩ := and2 h
      split at h2
      · exact re_or (pe_ev B a _ h1) (pe_one (pe_ev B b _ h2))
      · exact re_or (pe_ev B a _ h1) (pe_ev B b _ h2)
    · cases h
  | .cmp o a b, e, h => by
    simp only [mtE] at h
    split at h
    · obtain ⟨h1, h2⟩ := and2 h
      obtain ⟨h3, h4⟩ := and2 h1
      obtain ⟨h5, h6⟩ := and2 h3
      cases (of_decide_eq_true h5)
      exact re_cmp B.q o (by simpa using h6) (pk_ev B a _ h4 (pe_ev B a _ h4)) (pk_ev B b _ h2 (pe_ev B b _ h2))
    · cases h
  | .chn o p a b d, e, h => by
    simp only [mtE] at h
    split at h
    · obtain ⟨h1, h2⟩ := and2 h
      obtain ⟨h3, h4⟩ := and2 h1
      obtain ⟨h5, h6⟩ := and2 h3
      obtain ⟨h7, h8⟩ := and2 h5
      obtain ⟨h9, h10⟩ := and2 h7
      cases (of_decide_eq_true h9)
      cases (of_decide_eq_true h10)
      exact re_chn B.q o p (by simpa using h8) (pe_ev B a _ h6) (pe_ev B b _ h4) (pe_ev B d _ h2)
    · cases h
  | .ite t a b, e, h => by
    simp only [mtE] at h
    split at h
    · obtain ⟨h1, h2⟩ := and2 h
      obtain ⟨h3, h4⟩ := and2 h1
      exact re_ite (pt_ev B t _ h3) (pe_ev B a _ h4) (pe_ev B b _ h2)
    · cases h
  | .idx a b, e, h => by
    simp only [mtE] at h
    split at h
    · obtain ⟨h1, h2⟩ := and2 h
      obtain ⟨h3, h4⟩ := and2 h1
      exact re_idx B.q (plainIx_is h3) (pk_ev B a _ h4 (pe_ev B a _ h4)) (pe_ev B b _ h2)
    · cases h
  | .rev a, e, h => by
    simp only [mtE] at h
    split at h
    · exact re_rev (pk_ev B a _ h (pe_ev B a _ h))
    · cases h
  | .slcL a lo, e, h => by
    simp only [mtE] at h
    split at h
    · obtain ⟨h1, h2⟩ := and2 h
      exact re_slcL (pk_ev B a _ h1 (pe_ev B a _ h1)) (pe_ev B lo _ h2)
    · cases h
  | .slcH a hi, e, h => by
    simp only [mtE] at h
    split at h
    · obtain ⟨h1, h2⟩ := and2 h
      exact re_slcH (pk_ev B a _ h1 (pe_ev B a _ h1)) (pe_ev B hi _ h2)
    · cases h
  | .slc a lo hi, e, h => by
    simp only [mtE] at h
    split at h
    · obtain ⟨h1, h2⟩ := and2 h
      obtain ⟨h3, h4⟩ := and2 h1
      exact re_slc (pk_ev B a _ h3 (pe_ev B a _ h3)) (pe_ev B lo _ h4) (pe_ev B hi _ h2)
    · cases h
  | .call f es, e, h => by
    simp only [mtE] at h
    split at h
    · obtain ⟨h1, h2⟩ := and2 h
      obtain ⟨h3, h4⟩ := and2 h1
      obtain ⟨h5, h6⟩ := and2 h3
      obtain ⟨g, fd, ps, m1, m2, m3, m4, m5⟩ := B.fs f _ _ (beq_iff_eq.mp h5)
      rename_i l _
      cases l with
      | nil =>
        cases es with
        | nil => exact re_call0 B.tk B.gd B.rm m4 m5 (B.gl h6) m1 m2 (nmOk_is h4).1 m3
        | cons _ _ => simp [mtEs] at h2
      | cons a l => exact re_call B.tk B.gd B.rm m4 m5 (B.gl h6) m1 m2 (nmOk_is h4).1 (mtEs_all es _ h2).1 (fun e s ds s' z => by rw [m3]; exact evs_len es z) (pa_ev B es _ h2)
    · cases h
  | .blt b es, e, h => by
    simp only [mtE] at h
    split at h
    · obtain ⟨h1, h2⟩ := and2 h
      obtain ⟨h3, h4⟩ := and2 h1
      cases (beq_iff_eq.mp h3)
      exact re_blt B.q b (mtEs_all es _ h2).1 (B.blt h4).1 (B.blt h4).2 (pp_ev B es _ h2)
    · cases h
  | .isi t a, e, h => by
    simp only [mtE] at h
    split at h
    · obtain ⟨h1, h2⟩ := and2 h
      obtain ⟨h3, h4⟩ := and2 h1
      obtain ⟨h5, h6⟩ := and2 h3
      obtain ⟨h7, h8⟩ := and2 h5
      obtain ⟨h9, h10⟩ := and2 h7
      cases (beq_iff_eq.mp h9)
      cases (beq_iff_eq.mp h10)
      exact re_isi t h4 (B.blt h8).1 (B.blt h8).2 (B.blt h6).1 (B.blt h6).2 (pk_ev B a _ h2 (pe_ev B a _ h2))
    · cases h
  | .mth m o es, e, h => by
    simp only [mtE] at h
    split at h
    · rename_i x _ l cp
      obtain ⟨h1, h2⟩ := and2 h
      obtain ⟨h3, h4⟩ := and2 h1
      obtain ⟨h5, h6⟩ := and2 h3
      obtain ⟨h7, h8⟩ := and2 h5
      obtain ⟨h9, h10⟩ := and2 h7
      cases (beq_iff_eq.mp h9)
      cases l with
      | nil =>
        cases es with
        | nil => exact re_mth0 B.q m (base_is h10) h8 (pk_ev B o _ h4 (pe_ev B o _ h4))
        | cons _ _ => simp [mtEs] at h2
      | cons a l => exact re_mth B.q m (base_is h10) h8 (mtEs_all es _ h2).1 (of_decide_eq_true h6) (pk_ev B o _ h4 (pe_ev B o _ h4)) (pa_ev B es _ h2)
    · cases h
  | .lc own t it cd el, e, h => by
    simp only [mtE] at h
    split at h
    · rename_i tg it' ifs sc _
      obtain ⟨h1, h2⟩ := and2 h
      obtain ⟨h3, h4⟩ := and2 h1
      obtain ⟨h5, h6⟩ := and2 h3
      obtain ⟨h7, h8⟩ := and2 h5
      obtain ⟨h9, h10⟩ := and2 h7
      obtain ⟨h11, h12⟩ := and2 h9
      have ok : BlkOk X.N X.env.scope sc (c.own own) := by rw [B.N, B.sc]; exact blkOk_by h11
      have hown : (c.own own).map (·.2) = own := by simp [MC.own, List.map_map, Function.comp_def]
      have hb : ∀ s H C cl fp, Bk ca fe k (X.blk s H sc (compEnvC sc cl C X.env) fp) (c.blk sc) W0 := fun s H C cl fp => B.blk ok.kind s H C cl fp
      have hcd : ∀ s H C cl fp, PTs (X.blk s H sc (compEnvC sc cl C X.env) fp) ifs (tT (wd X ca) W0 (evt fe cd)) := fun s H C cl fp => by
        rcases ifOk_is h2 with ⟨e1, e2⟩ | ⟨e1, e2, e3⟩
        · rw [e1, isYes_is e2]; exact rc_nil
        · rw [e2]; exact pts_one (pt_ev (hb s H C cl fp) cd _ e3)
      have r := re_lc (W := W) (ca := ca) (pos := (by assumption)) B.hc B.nd (by rw [hown]; exact h12) (pi_ev B it tg it' h6) ok (fun s H C cl fp => pg_tn (hb s H C cl fp) t tg h8) hcd (fun s H C cl fp => pe_ev (hb s H C cl fp) el _ h4) (set_is h10)
      rw [hown] at r
      exact r
    · cases h
  | .dsp ks es, e, h => by
    simp only [mtE] at h
    split at h
    · obtain ⟨h1, h2⟩ := and2 h
      obtain ⟨h3, h4⟩ := and2 h1
      obtain ⟨h5, h6⟩ := and2 h3
      obtain ⟨h7, h8⟩ := and2 h5
      obtain ⟨h9, h10⟩ := and2 h7
      exact re_dsp (by intro z; rw [z] at h9; cases h9) (of_decide_eq_true h10) h8 (of_decide_eq_true h6) (of_decide_eq_true h4) (pps_ev B ks es _ _ h8 h2 (of_decide_eq_true h6))
    · cases h
  | .ndc, e, h => by
    simp only [mtE] at h
    split at h
    · exact re_ndc
    · cases h
  | .lset a, e, h => by
    simp only [mtE] at h
    split at h
    · obtain ⟨h1, h2⟩ := and2 h
      obtain ⟨h3, h4⟩ := and2 h1
      obtain ⟨h5, h6⟩ := and2 h3
      obtain ⟨h7, h8⟩ := and2 h5
      obtain ⟨h9, h10⟩ := and2 h7
      cases (beq_iff_eq.mp h9)
      cases (beq_iff_eq.mp h10)
      exact re_lset B.q h4 (B.blt h8).1 (B.blt h8).2 (B.blt h6).1 (B.blt h6).2 (pe_ev B a _ h2)
    · cases h
  | .bad, e, h => ⟨fun pins s σ H Q I ⟨_, _, _, _, _, _, _, q⟩ => q.elim⟩
  | .fld a f cs, e, h => by
    simp only [mtE] at h
    split at h
    · obtain ⟨h1, h2⟩ := and2 h
      obtain ⟨h3, h4⟩ := and2 h1
      obtain ⟨h5, h6⟩ := and2 h3
      cases (beq_iff_eq.mp h5)
      exact re_fld (base_is h6) (B.noat h4) (pe_ev B a _ h2)
    · cases h
  | .met o m tab es, e, h => by
    simp only [mtE] at h
    split at h
    · rename_i x _ l cp
      obtain ⟨h1, h2⟩ := and2 h
      obtain ⟨h3, h4⟩ := and2 h1
      obtain ⟨h5, h6⟩ := and2 h3
      obtain ⟨h7, h8⟩ := and2 h5
      obtain ⟨h9, h10⟩ := and2 h7
      obtain ⟨h11, h12⟩ := and2 h9
      cases (beq_iff_eq.mp h11)
      cases l with
      | nil =>
        cases es with
        | nil => exact re_met0 B.tk B.gd B.rm (B.meths h6) (base_is h12) h10 (pe_ev B o _ h4)
        | cons _ _ => simp [mtEs] at h2
      | cons a l => exact re_met B.tk B.gd B.rm (B.meths h6) (base_is h12) h10 (mtEs_all es _ h2).1 (of_decide_eq_true h8) (fun e s ds s' z => evs_len es z) (pe_ev B o _ h4) (pa_ev B es _ h2)
    · cases h
  | .mk C f es, e, h => by
    simp only [mtE] at h
    split at h
    · rename_i x _ l _
      obtain ⟨h1, h2⟩ := and2 h
      obtain ⟨h3, h4⟩ := and2 h1
      obtain ⟨h5, h6⟩ := and2 h3
      obtain ⟨m1, j, g, fd, ps, hk, m2, m3, m4, m5⟩ := B.mr _ C f _ (by simpa using h5)
      have hr : Room (j + 1) X.A := by rw [← hk]; exact B.rm
      cases l with
      | nil =>
        cases es with
        | nil => exact re_mk0 B.tk B.gd hr m2 m4 m5 m3 (B.gl h6) m1 (nmOk_is h4).1
        | cons _ _ => simp [mtEs] at h2
      | cons a l => exact re_mk B.tk B.gd hr m2 m4 m5 m3 (B.gl h6) m1 (nmOk_is h4).1 (mtEs_all es _ h2).1 (fun e s ds s' z => evs_len es z) (pa_ev B es _ h2)
    · cases h
  | .dc own t it cd kx vx, e, h => by
    simp only [mtE] at h
    split at h
    · rename_i tg it' ifs sc _
      obtain ⟨h1, h2⟩ := and2 h
      obtain ⟨h3, h4⟩ := and2 h1
      obtain ⟨h5, h6⟩ := and2 h3
      obtain ⟨h7, h8⟩ := and2 h5
      obtain ⟨h9, h10⟩ := and2 h7
      obtain ⟨h11, h12⟩ := and2 h9
      obtain ⟨h13, h14⟩ := and2 h11
      have ok : BlkOk X.N X.env.scope sc (c.own own) := by rw [B.N, B.sc]; exact blkOk_by h13
      have hown : (c.own own).map (·.2) = own := by simp [MC.own, List.map_map, Function.comp_def]
      have hb : ∀ s H C cl fp, Bk ca fe k (X.blk s H sc (compEnvC sc cl C X.env) fp) (c.blk sc) W0 := fun s H C cl fp => B.blk ok.kind s H C cl fp
      have hcd : ∀ s H C cl fp, PTs (X.blk s H sc (compEnvC sc cl C X.env) fp) ifs (tT (wd X ca) W0 (evt fe cd)) := fun s H C cl fp => by
        rcases ifOk_is h2 with ⟨e1, e2⟩ | ⟨e1, e2, e3⟩
        · rw [e1, isYes_is e2]; exact rc_nil
        · rw [e2]; exact pts_one (pt_ev (hb s H C cl fp) cd _ e3)
      have r := re_dc (W := W) (ca := ca) (pos := (by assumption)) B.hc B.nd (by rw [hown]; exact h14) (pi_ev B it tg it' h8) ok (fun s H C cl fp => pg_tn (hb s H C cl fp) t tg h10) hcd (fun s H C cl fp => pe_ev (hb s H C cl fp) kx _ h6) (fun s H C cl fp => pe_ev (hb s H C cl fp) vx _ h4) (set_is h12)
      rw [hown] at r
      exact r
    · cases h
  | .lc2 own own1 t it cd t1 it1 cd1 el, e, h => by
    simp only [mtE] at h
    split at h
    · rename_i tg it' ifs tg1 it1' ifs1 sc _
      obtain ⟨h1, h0⟩ := and2 h
      obtain ⟨h1, h2⟩ := and2 h1
      obtain ⟨h1, q1⟩ := and2 h1
      obtain ⟨h1, q2⟩ := and2 h1
      obtain ⟨h1, q3⟩ := and2 h1
      obtain ⟨h1, q4⟩ := and2 h1
      obtain ⟨h1, q5⟩ := and2 h1
      obtain ⟨h1, q6⟩ := and2 h1
      obtain ⟨h1, q7⟩ := and2 h1
      obtain ⟨h1, q8⟩ := and2 h1
      obtain ⟨h1, q9⟩ := and2 h1
      obtain ⟨q11, q10⟩ := and2 h1
      have ok : BlkOk X.N X.env.scope sc (c.own own) := by rw [B.N, B.sc]; exact blkOk_by q11
      have hown : (c.own own).map (·.2) = own := by simp [MC.own, List.map_map, Function.comp_def]
      have hb : ∀ s H C cl fp, Bk ca fe k (X.blk s H sc (compEnvC sc cl C X.env) fp) (c.blk sc) W0 := fun s H C cl fp => B.blk ok.kind s H C cl fp
      have hcd : ∀ s H C cl fp, PTs (X.blk s H sc (compEnvC sc cl C X.env) fp) ifs (tT (wd X ca) W0 (evt fe cd)) := fun s H C cl fp => by
        rcases ifOk_is h2 with ⟨e1, e2⟩ | ⟨e1, e2, e3⟩
        · rw [e1, isYes_is e2]; exact rc_nil
        · rw [e2]; exact pts_one (pt_ev (hb s H C cl fp) cd _ e3)
      have hcd1 : ∀ s H C cl fp, PTs (X.blk s H sc (compEnvC sc cl C X.env) fp) ifs1 (tT (wd X ca) W0 (evt fe cd1)) := fun s H C cl fp => by
        rcases ifOk_is h0 with ⟨e1, e2⟩ | ⟨e1, e2, e3⟩
        · rw [e1, isYes_is e2]; exact rc_nil
        · rw [e2]; exact pts_one (pt_ev (hb s H C cl fp) cd1 _ e3)
      have r := re_lc2 (W := W) (ca := ca) (pos := (by assumption)) B.hc B.nd (by rw [hown]; exact q10) q9 (pi_ev B it tg it' q3) ok (fun i hi => by rw [hown]; simpa using List.all_eq_true.mp q8 i hi) (fun s H C cl fp => pg_tn (hb s H C cl fp) t tg q5) hcd (fun s H C cl fp => pi_ev (hb s H C cl fp) it1 tg1 it1' q2) (fun s H C cl fp => pg_tn (hb s H C cl fp) t1 tg1 q4) hcd1 (fun s H C cl fp => pe_ev (hb s H C cl fp) el _ q1) (set_is q7) (fun env => set_is q6)
      rw [hown] at r
      exact r
    · cases h
  | .sset a, e, h => by
    simp only [mtE] at h
    split at h
    · obtain ⟨h1, h2⟩ := and2 h
      obtain ⟨h3, h4⟩ := and2 h1
      obtain ⟨h5, h6⟩ := and2 h3
      obtain ⟨h7, h8⟩ := and2 h5
      obtain ⟨h9, h10⟩ := and2 h7
      cases (beq_iff_eq.mp h9)
      cases (beq_iff_eq.mp h10)
      exact re_sset B.q h4 (B.blt h8).1 (B.blt h8).2 (B.blt h6).1 (B.blt h6).2 (pe_ev B a _ h2)
    · cases h
  | .dzip a b, e, h => by
    simp only [mtE] at h
    split at h
    · obtain ⟨h0, h2⟩ := and2 h
      obtain ⟨h1, h12⟩ := and2 h0
      obtain ⟨h11, h4⟩ := and2 h1
      obtain ⟨h3, h14⟩ := and2 h11
      obtain ⟨h5, h6⟩ := and2 h3
      obtain ⟨h7, h8⟩ := and2 h5
      obtain ⟨h9, h10⟩ := and2 h7
      cases (beq_iff_eq.mp h9)
      cases (beq_iff_eq.mp h10)
      exact re_dzip B.q h14 h4 (B.blt h8).1 (B.blt h8).2 (B.blt h6).1 (B.blt h6).2 (pe_ev B a _ h12) (pe_ev B b _ h2)
    · cases h
  | .rg1 t a, e, h => by
    simp only [mtE] at h
    split at h
    · obtain ⟨h1, h2⟩ := and2 h
      obtain ⟨h3, h4⟩ := and2 h1
      obtain ⟨h5, h6⟩ := and2 h3
      obtain ⟨h7, h8⟩ := and2 h5
      obtain ⟨h9, h10⟩ := and2 h7
      cases (beq_iff_eq.mp h9)
      cases (beq_iff_eq.mp h10)
      exact re_rg1 B.q t h4 (B.blt h8).1 (B.blt h8).2 (B.blt h6).1 (B.blt h6).2 (pe_ev B a _ h2)
    · cases h
  | .rg2 t a b, e, h => by
    simp only [mtE] at h
    split at h
    · obtain ⟨h0, h2⟩ := and2 h
      obtain ⟨h1, h12⟩ := and2 h0
      obtain ⟨h11, h4⟩ := and2 h1
      obtain ⟨h3, h14⟩ := and2 h11
      obtain ⟨h5, h6⟩ := and2 h3
      obtain ⟨h7, h8⟩ := and2 h5
      obtain ⟨h9, h10⟩ := and2 h7
      cases (beq_iff_eq.mp h9)
      cases (beq_iff_eq.mp h10)
      exact re_rg2 B.q t h14 h4 (B.blt h8).1 (B.blt h8).2 (B.blt h6).1 (B.blt h6).2 (pe_ev B a _ h12) (pe_ev B b _ h2)
    · cases h
theorem pps_ev {X : Cx} {c : MC} {W : WX} (B : Bk ca fe k X c W) : ∀ (ks : List Key) (xs : Exs) (keys : List (Option Expr)) (es : List Expr) {pos : Pos}, mtK ks keys = true → mtEs c xs es = true → ks.length = xs.len → PPs X pos keys es (trsOf (wd X ca) W fe ks xs)
  | [], .nil, keys, es, _, h1, h2, _ => by
    unfold mtK at h1
    simp only [mtEs] at h2
    cases keys with
    | nil =>
      split at h2
      · exact pps_nil
      · cases h2
    | cons _ _ => cases h1
  | [], .cons _ _, _, _, _, _, _, hl => by simp [Exs.len] at hl
  | _ :: _, .nil, _, _, _, _, _, hl => by simp [Exs.len] at hl
  | q :: ks, .cons x r, keys, es, _, h1, h2, hl => by
    unfold mtK at h1
    split at h1
    · simp only [mtEs] at h2
      split at h2
      · obtain ⟨g1, g2⟩ := and2 h1
        obtain ⟨g3, g4⟩ := and2 h2
        obtain ⟨g5, g6⟩ := and2 g3
        refine pps_cons ?_ (pe_ev B x _ g6) (pps_ev B ks r _ _ g2 g4 (by simpa [Exs.len] using hl))
        split at g1
        · cases (of_decide_eq_true g1); exact pe_int
        · cases (of_decide_eq_true g1); exact pe_str
        · cases g1
      · cases h2
    · cases h1
theorem pa_ev {X : Cx} {c : MC} {W : WX} (B : Bk ca fe k X c W) : ∀ (xs : Exs) (es : List Expr), mtEs c xs es = true → PA X es (tEs (wd X ca) W (evs fe xs))
  | .nil, es, h => by
    simp only [mtEs] at h
    split at h
    · exact rs_nil
    · cases h
  | .cons x r, es, h => by
    simp only [mtEs] at h
    split at h
    · obtain ⟨h1, h2⟩ := and2 h
      obtain ⟨h3, h4⟩ := and2 h1
      exact rs_cons h3 (pe_ev B x _ h4) (pa_ev B r _ h2)
    · cases h
theorem pp_ev {X : Cx} {c : MC} {W : WX} (B : Bk ca fe k X c W) : ∀ (xs : Exs) (es : List Expr), mtEs c xs es = true → PA X es (tPs (wd X ca) W (evps fe xs))
  | .nil, es, h => by
    simp only [mtEs] at h
    split at h
    · exact rq_nil
    · cases h
  | .cons x r, es, h => by
    simp only [mtEs] at h
    split at h
    · obtain ⟨h1, h2⟩ := and2 h
      obtain ⟨h3, h4⟩ := and2 h1
      exact rq_cons h3 (pk_ev B x _ h4 (pe_ev B x _ h4)) (pp_ev B r _ h2)
    · cases h
theorem pt_ev {X : Cx} {c : MC} {W : WX} (B : Bk ca fe k X c W) : ∀ (t : Te) (e : Expr), mtT c t e = true → PT X e (tT (wd X ca) W (evt fe t))
  | .yes, e, h => by simp only [mtT] at h; cases h
  | .vl x, e, h => by
    simp only [mtT] at h
    obtain ⟨h1, h2⟩ := and2 h
    have hp := pe_ev B x e h2
    have hk := pk_ev B x e h2 hp
    cases x with
    | cmp o a b =>
      simp only [mtE] at h2
      split at h2
      · obtain ⟨g1, g2⟩ := and2 h2
        obtain ⟨g3, g4⟩ := and2 g1
        obtain ⟨g5, g6⟩ := and2 g3
        cases (of_decide_eq_true g5)
        exact rt_cmp B.q o (by simpa using g6) (pk_ev B a _ g4 (pe_ev B a _ g4)) (pk_ev B b _ g2 (pe_ev B b _ g2))
      · cases h2
    | chn o p a b d =>
      simp only [mtE] at h2
      split at h2
      · obtain ⟨g1, g2⟩ := and2 h2
        obtain ⟨g3, g4⟩ := and2 g1
        obtain ⟨g5, g6⟩ := and2 g3
        obtain ⟨g7, g8⟩ := and2 g5
        obtain ⟨g9, g10⟩ := and2 g7
        cases (of_decide_eq_true g9)
        cases (of_decide_eq_true g10)
        exact rt_chn B.q o p (by simpa using g8) (pe_ev B a _ g6) (pe_ev B b _ g4) (pe_ev B d _ g2)
      · cases h2
    | _ => exact rt_vl h1 hk
  | .not a, e, h => by
    simp only [mtT] at h
    split at h
    · exact rt_not (pt_ev B a _ h)
    · cases h
  | .and a b, e, h => by
    simp only [mtT] at h
    split at h
    · obtain ⟨h1, h2⟩ := and2 h
      split at h2
      · exact (rw_and (pt_ev B a _ h1) (pw_and1 (pt_ev B b _ h2))).pt
      · exact (rw_and (pt_ev B a _ h1) (pw_ev B b _ _ _ h2)).pt
    · cases h
  | .or a b, e, h => by
    simp only [mtT] at h
    split at h
    · obtain ⟨h1, h2⟩ := and2 h
      split at h2
      · exact (rw_or (pt_ev B a _ h1) (pw_or1 (pt_ev B b _ h2))).pt
      · exact (rw_or (pt_ev B a _ h1) (pw_ev B b _ _ _ h2)).pt
    · cases h
  | .ite t a b, e, h => by
    simp only [mtT] at h
    split at h
    · obtain ⟨h1, h2⟩ := and2 h
      obtain ⟨h3, h4⟩ := and2 h1
      exact rt_ite (pt_ev B t _ h3) (pt_ev B a _ h4) (pt_ev B b _ h2)
    · cases h
theorem pw_ev {X : Cx} {c : MC} {W : WX} (B : Bk ca fe k X c W) : ∀ (t : Te) (op : BoolOp) (vs : List Expr) (p : Pos), mtT c t (.BoolOp op vs p) = true → PW X (.BoolOp op vs p) (tT (wd X ca) W (evt fe t))
  | .yes, op, vs, p, h => by simp only [mtT] at h; cases h
  | .vl x, op, vs, p, h => by
    simp only [mtT] at h
    obtain ⟨h1, h2⟩ := and2 h
    cases x with
    | cmp o a b => simp only [mtE] at h2; cases h2
    | chn o p a b d => simp only [mtE] at h2; cases h2
    | _ => cases h1
  | .not a, op, vs, p, h => by simp only [mtT] at h; cases h
  | .and a b, op, vs, p, h => by
    simp only [mtT] at h
    split at h
    · rename_i heq
      cases heq
      obtain ⟨h1, h2⟩ := and2 h
      split at h2
      · exact rw_and (pt_ev B a _ h1) (pw_and1 (pt_ev B b _ h2))
      · exact rw_and (pt_ev B a _ h1) (pw_ev B b _ _ _ h2)
    · cases h
  | .or a b, op, vs, p, h => by
    simp only [mtT] at h
    split at h
    · rename_i heq
      cases heq
      obtain ⟨h1, h2⟩ := and2 h
      split at h2
      · exact rw_or (pt_ev B a _ h1) (pw_or1 (pt_ev B b _ h2))
      · exact rw_or (pt_ev B a _ h1) (pw_ev B b _ _ _ h2)
    · cases h
  | .ite t a b, op, vs, p, h => by simp only [mtT] at h; cases h
theorem pi_ev {X : Cx} {c : MC} {W : WX} (B : Bk ca fe k X c W) : ∀ (t : Wi) (tg e : Expr), mtW c t tg e = true → PI X tg e (tI (wd X ca) W (evi fe t))
  | .seq a, tg, e, h => by
    simp only [mtW] at h
    exact ri_seq (pe_ev B a e h)
  | .rng a, tg, e, h => by
    simp only [mtW] at h
    split at h
    · obtain ⟨h1, h2⟩ := and2 h
      obtain ⟨h3, h4⟩ := and2 h1
      obtain ⟨h5, h6⟩ := and2 h3
      cases (beq_iff_eq.mp h5)
      exact ri_rng h4 (B.blt h6).1 (B.blt h6).2 (pk_ev B a _ h2 (pe_ev B a _ h2))
    · cases h
  | .rng2 a b, tg, e, h => by
    simp only [mtW] at h
    split at h
    · obtain ⟨h1, h2⟩ := and2 h
      obtain ⟨h3, h4⟩ := and2 h1
      obtain ⟨h5, h6⟩ := and2 h3
      obtain ⟨h7, h8⟩ := and2 h5
      obtain ⟨h9, h10⟩ := and2 h7
      cases (beq_iff_eq.mp h9)
      exact ri_rng2 h8 h6 (B.blt h10).1 (B.blt h10).2 (pe_ev B a _ h4) (pe_ev B b _ h2)
    · cases h
  | .enu a, tg, e, h => by
    simp only [mtW] at h
    split at h
    · obtain ⟨h1, h2⟩ := and2 h
      obtain ⟨h3, h4⟩ := and2 h1
      obtain ⟨h5, h6⟩ := and2 h3
      cases (beq_iff_eq.mp h5)
      exact ri_enu h4 (B.blt h6).1 (B.blt h6).2 (pe_ev B a _ h2)
    · cases h
  | .zip a b, tg, e, h => by
    simp only [mtW] at h
    split at h
    · obtain ⟨h1, h2⟩ := and2 h
      obtain ⟨h3, h4⟩ := and2 h1
      obtain ⟨h5, h6⟩ := and2 h3
      obtain ⟨h7, h8⟩ := and2 h5
      obtain ⟨h9, h10⟩ := and2 h7
      cases (beq_iff_eq.mp h9)
      exact ri_zip h8 h6 (B.blt h10).1 (B.blt h10).2 (pe_ev B a _ h4) (pe_ev B b _ h2)
    · cases h
end
end Ev

set_option Elab.async false
set_option linter.all false
set_option maxRecDepth 100000
set_option maxHeartbeats 4000000
/-! EvG: .. and what statements do. -/
namespace Ev
open PySem PySem.Spec PyProof.Rows L2
variable {ca : Nat → Addr} {fe : FE} {k : Nat}
/-- a comprehension that is put straight into a name -/
def swB (c : MC) (y : Str) (py : Pos) (v : Expr) : Bool := match v with
  | .ListComp _ _ sc _ | .SetComp _ _ sc _ | .DictComp _ _ _ sc _ => c.sc.names.lookup y == some .local && py.line == v.pos.line && !(sc.names.any fun (n, k) => n == y && (k == .local || k == .cell))
  | _ => false
def swN (c : MC) (ts vs : List Expr) : Option (Option (List Str)) :=
  if (!(ts.length == 2 || ts.length == 3) || vs.length != ts.length) = true then some none
  else if (vs.any fun | .Starred .. => true | _ => false) = true then some none
  else
    let line := (ts.head?.map (·.pos.line)).getD 0
    let names := ts.filterMap fun
      | .Name id pos => if (c.sc.names.lookup id == some .local && pos.line == line) = true then some id else none
      | _ => none
    if (names.length != ts.length || names.eraseDups.length != names.length) = true then some none
    else if vs.all (foldedForSure 8) = true then some none
    else if vs.all (constantsAlone 8) = true then none
    else some (some names)
def noSw (c : MC) (tg v : Expr) : Bool := match tg, v with
  | .Tuple ts _ _, .Tuple vs _ _ => swN c ts vs == some none
  | .List ts _, .Tuple vs _ _ => swN c ts vs == some none
  | _, _ => true
theorem blk_kind {X : Cx} {c : MC} {W : WX} (B : Bk ca fe k X c W) : (X.env.blockKind == .function) = true := by
  unfold Env.blockKind
  rw [B.sc, B.kd]; rfl
theorem sw_is {X : Cx} {c : MC} {W : WX} (B : Bk ca fe k X c W) {v : Expr} {y : Str} {py : Pos} {l : Nat} : swapsWith v (some (.Name y py)) l X.env = pure (swB c y py v) := by
  have hk := blk_kind B
  unfold swapsWith swB
  cases v with
  | ListComp _ _ _ _ => dsimp only; rw [hk]; show pure _ = pure _; unfold Env.kindOf; rw [B.sc]; rfl
  | SetComp _ _ _ _ => dsimp only; rw [hk]; show pure _ = pure _; unfold Env.kindOf; rw [B.sc]; rfl
  | DictComp _ _ _ _ _ => dsimp only; rw [hk]; show pure _ = pure _; unfold Env.kindOf; rw [B.sc]; rfl
  | _ => rfl
theorem sw_no {v : Expr} {t : Expr} {l : Nat} {env : Env} (h : ∀ y p, t ≠ .Name y p) : swapsWith v (some t) l env = pure false := by
  unfold swapsWith
  cases v with
  | ListComp _ _ _ _ => cases t <;> first | rfl | exact (h _ _ rfl).elim
  | SetComp _ _ _ _ => cases t <;> first | rfl | exact (h _ _ rfl).elim
  | DictComp _ _ _ _ _ => cases t <;> first | rfl | exact (h _ _ rfl).elim
  | _ => rfl
theorem sw_none {v : Expr} {l : Nat} {env : Env} (h : notComp v = true) : swapsWith v none l env = pure false := by
  unfold swapsWith
  cases v <;> first | rfl | cases h
theorem swN_is {X : Cx} {c : MC} {W : WX} (B : Bk ca fe k X c W) {ts vs : List Expr} {kt k2 : Nat} {pt p2 : Pos} {r : Option (List Str)} (h : swN c ts vs = some r) : swappedStores [.Tuple ts kt pt] (.Tuple vs k2 p2) X.env = pure r := by
  have hk := blk_kind B
  have hb : (X.env.blockKind != .function) = false := by unfold bne; rw [hk]; rfl
  unfold swappedStores
  unfold swN at h
  dsimp only at h ⊢
  rw [hb, Bool.or_false]
  unfold Env.kindOf
  rw [B.sc]
  split at h
  · rename_i e; cases h; exact if_pos e
  · rename_i e
    refine (if_neg e).trans ?_
    split at h
    · rename_i e; cases h; exact if_pos e
    · rename_i e
      refine (if_neg e).trans ?_
      split at h
      · rename_i e; cases h; exact if_pos e
      · rename_i e
        refine (if_neg e).trans ?_
        split at h
        · rename_i e; cases h; exact if_pos e
        · rename_i e
          refine (if_neg e).trans ?_
          split at h
          · cases h
          · rename_i e; cases h; exact if_neg e
/-- two or three names at once -/
def parOk (c : MC) (is : List Nat) (ts vs : List Expr) : Bool := match is, ts, vs with
  | [i, j], [.Name x _, .Name y _], [_, _] => c.at i x && c.at j y && decide (i ≠ j) && c.sc.names.lookup x == some .local && c.sc.names.lookup y == some .local && swN c ts vs == some (some [x, y])
  | [i, j, l], [.Name x _, .Name y _, .Name z _], [_, _, _] => c.at i x && c.at j y && c.at l z && decide (i ≠ j) && decide (i ≠ l) && decide (j ≠ l) && c.sc.names.lookup x == some .local && c.sc.names.lookup y == some .local && c.sc.names.lookup z == some .local && swN c ts vs == some (some [x, y, z])
  | _, _, _ => false
/-- a name's new value may be a comprehension -/
def lcOk (c : MC) (i : Nat) (tg : Expr) : Bool := match tg with
  | .Name y _ => c.at i y && c.sc.names.lookup y == some .local
  | _ => false
def isLc : Ex → Bool
  | .lc _ _ _ _ _ => true
  | .dc _ _ _ _ _ _ => true
  | .lc2 _ _ _ _ _ _ _ _ _ => true
  | _ => false
/-- a target within a tuple: a name, an attribute of what a name holds -/
def mtTg (c : MC) : Tg → Expr → Bool
  | .nm i => fun e => match e with
    | .Name x _ => c.at i x && c.loc x
    | _ => false
  | .fl i f cs => fun e => match e with
    | .Attribute (.Name y _) x _ => c.at i y && c.vis y && nmOk y && x == fnm f && c.noat f cs
    | _ => false
def mtTgs (c : MC) : Tgs → List Expr → Bool
  | [], [] => true
  | t :: ts, e :: es => ns e && mtTg c t e && mtTgs c ts es
  | _, _ => false
def nmSw (c : MC) (tg v : Expr) : Bool := match tg with
  | .Name y py => !swB c y py v
  | _ => true
mutual
def mtS (c : MC) : Sm → Stmt → Bool
  | .asg t x => fun s => match s with
    | .Assign [tg] v _ => mtE c x v && mtTn c t tg && noSw c tg v && (nmSw c tg v || (isLc x && (match t with
      | .nm i => lcOk c i tg
      | _ => false)))
    | _ => false
  | .par is es => fun s => match s with
    | .Assign [.Tuple ts _ _] (.Tuple vs _ _) _ => parOk c is ts vs && mtEs c es vs
    | _ => false
  | .own i es => fun s => match s with
    | .Assign [.Name y py] (.List l _) _ => c.at i y && c.loc y && mtEs c es l
    | _ => false
  | .ownl i own t it cd el => fun s => match s with
    | .Assign [.Name y py] (.ListComp el' [⟨tg, it', ifs, 0⟩] sc p) _ => c.at i y && c.loc y && c.sc.names.lookup y == some .local && mtE c (.lc own t it cd el) (.ListComp el' [⟨tg, it', ifs, 0⟩] sc p)
    | _ => false
  | .owna i a b => fun s => match s with
    | .Assign [.Name y py] (.BinOp l .Add r p) _ => c.at i y && c.loc y && mtE c a l && mtE c b r && !swB c y py (.BinOp l .Add r p)
    | _ => false
  | .owd _ => fun _ => false
  | .fst o f cs v => fun s => match s with
    | .Assign [.Attribute o' x _] v' _ => x == fnm f && c.noat f cs && mtE c v v' && mtE c o o'
    | _ => false
  | .unp ts v => fun s => match s with
    | .Assign [.Tuple es k p] v' _ => mtTgs c ts es && noSw c (.Tuple es k p) v' && mtE c v v'
    | _ => false
  | .bad => fun _ => false
  | .app i x => fun s => match s with
    | .Expr (.Call (.Attribute (.Name y _) m p2) [a] [] p3) _ => c.at i y && c.vis y && nmOk y && m == ("append" : Str) && ns a && p2.endLine == p3.line && mtE c x a
    | _ => false
  | .dpt _ _ _ => fun _ => false
  | .sti o i v => fun s => match s with
    | .Assign [.Subscript o' i' _] v' _ => plainIx i' && mtE c v v' && mtE c o o' && mtE c i i'
    | _ => false
  | .exp x => fun s => match s with
    | .Expr v _ => notComp v && mtE c x v
    | _ => false
  | .ret x => fun s => match s with
    | .Return (some v) _ => mtE c x v
    | _ => false
  | .retn => fun s => match s with
    | .Return none _ => true
    | _ => false
  | .ifs t a b => fun s => match s with
    | .If t' a' b' _ => mtT c t t' && mtSs c a a' && mtSs c b b'
    | _ => false
  | .fr t it b => fun s => match s with
    | .For tg it' b' [] _ => mtTn c t tg && notSet it' && mtW c it tg it' && mtSs c b b'
    | _ => false
  | .whl t b => fun s => match s with
    | .While t' b' [] _ => mtT c t t' && mtSs c b b'
    | _ => false
  | .brk => fun s => match s with
    | .Break _ => true
    | _ => false
  | .cnt => fun s => match s with
    | .Continue _ => true
    | _ => false
  | .pass => fun s => match s with
    | .Pass _ => true
    | .Expr (.Constant (.str _) _ _) _ => true
    | _ => false
def mtSs (c : MC) : Sms → List Stmt → Bool
  | .nil => fun l => match l with
    | [] => true
    | _ => false
  | .cons a r => fun l => match l with
    | s :: ss => mtS c a s && mtSs c r ss
    | _ => false
  | .frz _ r => fun l => mtSs c r l
end
theorem noSw_is {X : Cx} {c : MC} {W : WX} (B : Bk ca fe k X c W) {tg v : Expr} (h : noSw c tg v = true) : swappedStores [tg] v X.env = pure none := by
  unfold noSw at h
  split at h
  · exact swN_is B (beq_iff_eq.mp h)
  · exact swN_is (kt := 0) (pt := default) (k2 := 0) (p2 := default) B (beq_iff_eq.mp h)
  · rename_i h1 h2
    unfold swappedStores
    cases tg <;> cases v <;> first | rfl | exact (h1 _ _ _ _ _ _ rfl rfl).elim | exact (h2 _ _ _ _ _ rfl rfl).elim
theorem ps_asg_ev {X : Cx} {c : MC} {W : WX} (B : Bk ca fe k X c W) {t : Tn} {x : Ex} {tg v : Expr} {pos : Pos} (h1 : mtE c x v = true) (h2 : mtTn c t tg = true) (h3 : noSw c tg v = true) (h4 : nmSw c tg v = true) :
    PS X (.Assign [tg] v pos) (tAsg (tE (wd X ca) W (ev fe x)) (gOf X.K t)) := by
  have he := pe_ev B x v h1
  have hg := pg_tn B t tg h2
  have nst : ns tg = true := by
    cases t with
    | nm i => simp only [mtTn] at h2; split at h2; rfl; cases h2
    | tp ts => simp only [mtTn] at h2; split at h2; rfl; cases h2
  have ha : (assignEach [tg] X.env).map (·.2) = [assign tg X.env] := by
    have := (assign_len (es := [tg]) (env := X.env) (by rw [List.all_cons, nst]; rfl)).2.2 tg [] rfl
    rw [this]; rfl
  refine ps_asg he hg ?_ (noSw_is B h3) ha
  show swapsWith v (some tg) pos.line X.env = pure false
  cases tg with
  | Name y py =>
    rw [sw_is B]
    have h4 : (!swB c y py v) = true := h4
    simp only [Bool.not_eq_true'] at h4
    rw [h4]
  | _ => exact sw_no fun _ _ z => by cases z
theorem ps_lc_ev {X : Cx} {c : MC} {W : WX} (B : Bk ca fe k X c W) {i : Nat} {own : List Nat} {t : Tn} {it : Wi} {cd : Te} {el : Ex} {tg v : Expr} {pos : Pos} (h1 : lcOk c i tg = true) (h2 : nmSw c tg v = false) (h : mtE c (.lc own t it cd el) v = true) :
    PS X (.Assign [tg] v pos) (tAsg (tE (wd X ca) W (ev fe (.lc own t it cd el))) (gName i)) := by
  unfold lcOk at h1
  split at h1
  · rename_i y py
    obtain ⟨k1, k2⟩ := and2 h1
    have hsw : swapsWith v (some (.Name y py)) pos.line X.env = pure true := by
      have h2 : (!swB c y py v) = false := h2
      rw [sw_is B]
      simp only [Bool.not_eq_false'] at h2
      rw [h2]
    simp only [mtE] at h
    split at h
    · rename_i tg2 it' ifs sc lp
      obtain ⟨h1, h2⟩ := and2 h
      obtain ⟨h3, h4⟩ := and2 h1
      obtain ⟨h5, h6⟩ := and2 h3
      obtain ⟨h7, h8⟩ := and2 h5
      obtain ⟨h9, h10⟩ := and2 h7
      obtain ⟨h11, h12⟩ := and2 h9
      have ok : BlkOk X.N X.env.scope sc (c.own own) := by rw [B.N, B.sc]; exact blkOk_by h11
      have hown : (c.own own).map (·.2) = own := by simp [MC.own, List.map_map, Function.comp_def]
      have hb : ∀ s H C cl fp, Bk ca fe k (X.blk s H sc (compEnvC sc cl C X.env) fp) (c.blk sc) W0 := fun s H C cl fp => B.blk ok.kind s H C cl fp
      have hcd : ∀ s H C cl fp, PTs (X.blk s H sc (compEnvC sc cl C X.env) fp) ifs (tT (wd X ca) W0 (evt fe cd)) := fun s H C cl fp => by
        rcases ifOk_is h2 with ⟨e1, e2⟩ | ⟨e1, e2, e3⟩
        · rw [e1, isYes_is e2]; exact rc_nil
        · rw [e2]; exact pts_one (pt_ev (hb s H C cl fp) cd _ e3)
      have r := rs_lc (W := W) (ca := ca) (spos := pos) B.hc B.nd (B.at k1) (by rw [B.sc]; exact beq_iff_eq.mp k2) hsw (by rw [hown]; exact h12) (pi_ev B it tg2 it' h6) ok (fun s H C cl fp => pg_tn (hb s H C cl fp) t tg2 h8) hcd (fun s H C cl fp => pe_ev (hb s H C cl fp) el _ h4) (set_is h10)
      rw [hown] at r
      exact r
    · cases h
  · cases h1
theorem ps_dc_ev {X : Cx} {c : MC} {W : WX} (B : Bk ca fe k X c W) {i : Nat} {own : List Nat} {t : Tn} {it : Wi} {cd : Te} {kx vx : Ex} {tg v : Expr} {pos : Pos} (h1 : lcOk c i tg = true) (h2 : nmSw c tg v = false) (h : mtE c (.dc own t it cd kx vx) v = true) :
    PS X (.Assign [tg] v pos) (tAsg (tE (wd X ca) W (ev fe (.dc own t it cd kx vx))) (gName i)) := by
  unfold lcOk at h1
  split at h1
  · rename_i y py
    obtain ⟨k1, k2⟩ := and2 h1
    have hsw : swapsWith v (some (.Name y py)) pos.line X.env = pure true := by
      have h2 : (!swB c y py v) = false := h2
      rw [sw_is B]
      simp only [Bool.not_eq_false'] at h2
      rw [h2]
    simp only [mtE] at h
    split at h
    · rename_i tg2 it' ifs sc lp
      obtain ⟨h1, h2⟩ := and2 h
      obtain ⟨h3, h4⟩ := and2 h1
      obtain ⟨h5, h6⟩ := and2 h3
      obtain ⟨h7, h8⟩ := and2 h5
      obtain ⟨h9, h10⟩ := and2 h7
      obtain ⟨h11, h12⟩ := and2 h9
      obtain ⟨h13, h14⟩ := and2 h11
      have ok : BlkOk X.N X.env.scope sc (c.own own) := by rw [B.N, B.sc]; exact blkOk_by h13
      have hown : (c.own own).map (·.2) = own := by simp [MC.own, List.map_map, Function.comp_def]
      have hb : ∀ s H C cl fp, Bk ca fe k (X.blk s H sc (compEnvC sc cl C X.env) fp) (c.blk sc) W0 := fun s H C cl fp => B.blk ok.kind s H C cl fp
      have hcd : ∀ s H C cl fp, PTs (X.blk s H sc (compEnvC sc cl C X.env) fp) ifs (tT (wd X ca) W0 (evt fe cd)) := fun s H C cl fp => by
        rcases ifOk_is h2 with ⟨e1, e2⟩ | ⟨e1, e2, e3⟩
        · rw [e1, isYes_is e2]; exact rc_nil
        · rw [e2]; exact pts_one (pt_ev (hb s H C cl fp) cd _ e3)
      have r := rs_dc (W := W) (ca := ca) (spos := pos) B.hc B.nd (B.at k1) (by rw [B.sc]; exact beq_iff_eq.mp k2) hsw (by rw [hown]; exact h14) (pi_ev B it tg2 it' h8) ok (fun s H C cl fp => pg_tn (hb s H C cl fp) t tg2 h10) hcd (fun s H C cl fp => pe_ev (hb s H C cl fp) kx _ h6) (fun s H C cl fp => pe_ev (hb s H C cl fp) vx _ h4) (set_is h12)
      rw [hown] at r
      exact r
    · cases h
  · cases h1
theorem ps_lc2_ev {X : Cx} {c : MC} {W : WX} (B : Bk ca fe k X c W) {i : Nat} {own own1 : List Nat} {t t1 : Tn} {it it1 : Wi} {cd cd1 : Te} {el : Ex} {tg v : Expr} {pos : Pos} (h1 : lcOk c i tg = true) (h2 : nmSw c tg v = false) (h : mtE c (.lc2 own own1 t it cd t1 it1 cd1 el) v = true) :
    PS X (.Assign [tg] v pos) (tAsg (tE (wd X ca) W (ev fe (.lc2 own own1 t it cd t1 it1 cd1 el))) (gName i)) := by
  unfold lcOk at h1
  split at h1
  · rename_i y py
    obtain ⟨k1, k2⟩ := and2 h1
    have hsw : swapsWith v (some (.Name y py)) pos.line X.env = pure true := by
      have h2 : (!swB c y py v) = false := h2
      rw [sw_is B]
      simp only [Bool.not_eq_false'] at h2
      rw [h2]
    simp only [mtE] at h
    split at h
    · rename_i tg2 it' ifs tg3 it1' ifs1 sc lp
      obtain ⟨h1, h0⟩ := and2 h
      obtain ⟨h1, h2⟩ := and2 h1
      obtain ⟨h1, q1⟩ := and2 h1
      obtain ⟨h1, q2⟩ := and2 h1
      obtain ⟨h1, q3⟩ := and2 h1
      obtain ⟨h1, q4⟩ := and2 h1
      obtain ⟨h1, q5⟩ := and2 h1
      obtain ⟨h1, q6⟩ := and2 h1
      obtain ⟨h1, q7⟩ := and2 h1
      obtain ⟨h1, q8⟩ := and2 h1
      obtain ⟨h1, q9⟩ := and2 h1
      obtain ⟨q11, q10⟩ := and2 h1
      have ok : BlkOk X.N X.env.scope sc (c.own own) := by rw [B.N, B.sc]; exact blkOk_by q11
      have hown : (c.own own).map (·.2) = own := by simp [MC.own, List.map_map, Function.comp_def]
      have hb : ∀ s H C cl fp, Bk ca fe k (X.blk s H sc (compEnvC sc cl C X.env) fp) (c.blk sc) W0 := fun s H C cl fp => B.blk ok.kind s H C cl fp
      have hcd : ∀ s H C cl fp, PTs (X.blk s H sc (compEnvC sc cl C X.env) fp) ifs (tT (wd X ca) W0 (evt fe cd)) := fun s H C cl fp => by
        rcases ifOk_is h2 with ⟨e1, e2⟩ | ⟨e1, e2, e3⟩
        · rw [e1, isYes_is e2]; exact rc_nil
        · rw [e2]; exact pts_one (pt_ev (hb s H C cl fp) cd _ e3)
      have hcd1 : ∀ s H C cl fp, PTs (X.blk s H sc (compEnvC sc cl C X.env) fp) ifs1 (tT (wd X ca) W0 (evt fe cd1)) := fun s H C cl fp => by
        rcases ifOk_is h0 with ⟨e1, e2⟩ | ⟨e1, e2, e3⟩
        · rw [e1, isYes_is e2]; exact rc_nil
        · rw [e2]; exact pts_one (pt_ev (hb s H C cl fp) cd1 _ e3)
      have r := rs_lc2 (W := W) (ca := ca) (spos := pos) B.hc B.nd (B.at k1) (by rw [B.sc]; exact beq_iff_eq.mp k2) hsw (by rw [hown]; exact q10) q9 (pi_ev B it tg2 it' q3) ok (fun i hi => by rw [hown]; simpa using List.all_eq_true.mp q8 i hi) (fun s H C cl fp => pg_tn (hb s H C cl fp) t tg2 q5) hcd (fun s H C cl fp => pi_ev (hb s H C cl fp) it1 tg3 it1' q2) (fun s H C cl fp => pg_tn (hb s H C cl fp) t1 tg3 q4) hcd1 (fun s H C cl fp => pe_ev (hb s H C cl fp) el _ q1) (set_is q7) (fun env => set_is q6)
      rw [hown] at r
      exact r
    · cases h
  · cases h1
theorem tg_ev {X : Cx} {c : MC} {W : WX} (B : Bk ca fe k X c W) (t : Tg) (e : Expr) (h : mtTg c t e = true) : PG X e (gTg X ca W t) ∧ TgOk X ca t := by
  cases t with
  | nm i =>
    simp only [mtTg] at h
    split at h
    · obtain ⟨h1, h2⟩ := and2 h
      exact ⟨pg_name B.nd (B.at h1) (B.loc h2).1 (B.loc h2).2, trivial⟩
    · cases h
  | fl i f cs =>
    simp only [mtTg] at h
    split at h
    · obtain ⟨h1, h2⟩ := and2 h
      obtain ⟨h3, h4⟩ := and2 h1
      obtain ⟨h5, h6⟩ := and2 h3
      obtain ⟨h7, h8⟩ := and2 h5
      cases (beq_iff_eq.mp h4)
      exact ⟨pg_fld (re_var (B.at h7) (B.vis h8) (nmOk_is h6).1 (nmOk_is h6).2), B.noat h2⟩
    · cases h
theorem tgs_ev {X : Cx} {c : MC} {W : WX} (B : Bk ca fe k X c W) : ∀ (ts : Tgs) (es : List Expr), mtTgs c ts es = true → PGs X es (gTgs X ca W ts) ∧ es.all ns = true ∧ es.length = ts.length ∧ ∀ t ∈ ts, TgOk X ca t
  | [], [], _ => ⟨pgs_nil, rfl, rfl, fun _ z => by cases z⟩
  | [], _ :: _, h => by cases h
  | _ :: _, [], h => by cases h
  | t :: ts, e :: es, h => by
    unfold mtTgs at h
    obtain ⟨h1, h2⟩ := and2 h
    obtain ⟨h3, h4⟩ := and2 h1
    obtain ⟨g1, g2, g3, g4⟩ := tgs_ev B ts es h2
    obtain ⟨g5, g6⟩ := tg_ev B t e h4
    have hall : (e :: es).all ns = true := by rw [List.all_cons, h3, g2]; rfl
    refine ⟨pgs_cons g5 g1 ((assign_len hall).2.2 e es rfl), hall, by rw [List.length_cons, List.length_cons, g3], fun z hz => ?_⟩
    rcases List.mem_cons.mp hz with rfl | hz
    · exact g6
    · exact g4 z hz
theorem ps_ownl_ev {X : Cx} {c : MC} {W : WX} (B : Bk ca fe k X c W) {i : Nat} {own : List Nat} {t : Tn} {it : Wi} {cd : Te} {el : Ex} {y : Str} {py pos lp : Pos} {el' tg2 it' : Expr} {ifs : List Expr} {sc : Scope} (k1 : c.at i y = true) (k2 : c.loc y = true) (k3 : (c.sc.names.lookup y == some .local) = true)
    (h : mtE c (.lc own t it cd el) (.ListComp el' [⟨tg2, it', ifs, 0⟩] sc lp) = true) : t.inn own = true ∧
    PS X (.Assign [.Name y py] (.ListComp el' [⟨tg2, it', ifs, 0⟩] sc lp) pos) (tAsg (tLc (tI (wd X ca) W (evi fe it)) (gOf X.K t) (tT (wd X ca) W0 (evt fe cd)) (tE (wd X ca) W0 (ev fe el)) own) (gName i)) := by
  simp only [mtE] at h
  obtain ⟨h1, h2⟩ := and2 h
  obtain ⟨h3, h4⟩ := and2 h1
  obtain ⟨h5, h6⟩ := and2 h3
  obtain ⟨h7, h8⟩ := and2 h5
  obtain ⟨h9, h10⟩ := and2 h7
  obtain ⟨h11, h12⟩ := and2 h9
  have ok : BlkOk X.N X.env.scope sc (c.own own) := by rw [B.N, B.sc]; exact blkOk_by h11
  have hown : (c.own own).map (·.2) = own := by simp [MC.own, List.map_map, Function.comp_def]
  have hb : ∀ s H C cl fp, Bk ca fe k (X.blk s H sc (compEnvC sc cl C X.env) fp) (c.blk sc) W0 := fun s H C cl fp => B.blk ok.kind s H C cl fp
  have hcd : ∀ s H C cl fp, PTs (X.blk s H sc (compEnvC sc cl C X.env) fp) ifs (tT (wd X ca) W0 (evt fe cd)) := fun s H C cl fp => by
    rcases ifOk_is h2 with ⟨e1, e2⟩ | ⟨e1, e2, e3⟩
    · rw [e1, isYes_is e2]; exact rc_nil
    · rw [e2]; exact pts_one (pt_ev (hb s H C cl fp) cd _ e3)
  refine ⟨h12, ?_⟩
  by_cases hsw : swB c y py (.ListComp el' [⟨tg2, it', ifs, 0⟩] sc lp) = true
  · have e : swapsWith (.ListComp el' [⟨tg2, it', ifs, 0⟩] sc lp) (some (.Name y py)) pos.line X.env = pure true := by rw [sw_is B, hsw]
    have r := ps_setLc (g := gOf X.K t) (te := tE (wd X ca) W0 (ev fe el)) (tt := tT (wd X ca) W0 (evt fe cd)) (spos := pos) B.hc B.nd (B.at k1) (by rw [B.sc]; exact beq_iff_eq.mp k3) e (pi_ev B it tg2 it' h6) ok (fun s H C cl fp => pg_tn (hb s H C cl fp) t tg2 h8) hcd (fun s H C cl fp => pe_ev (hb s H C cl fp) el _ h4) (set_is h10)
    rw [hown] at r
    exact r
  · have e : swapsWith (.ListComp el' [⟨tg2, it', ifs, 0⟩] sc lp) (some (.Name y py)) pos.line X.env = pure false := by
      rw [sw_is B]
      have : swB c y py (.ListComp el' [⟨tg2, it', ifs, 0⟩] sc lp) = false := by simpa using hsw
      rw [this]
    have r := pe_lcr (W := W) (ca := ca) (pos := lp) B.hc B.nd (pi_ev B it tg2 it' h6) ok (fun s H C cl fp => pg_tn (hb s H C cl fp) t tg2 h8) hcd (fun s H C cl fp => pe_ev (hb s H C cl fp) el _ h4) (set_is h10)
    rw [hown] at r
    exact ps_set B.nd (B.at k1) (B.loc k2).1 r e (B.loc k2).2
mutual
theorem ps_ev {X : Cx} {c : MC} {W : WX} (B : Bk ca fe k X c W) : ∀ (m : Sm) (s : Stmt), mtS c m s = true → PS X s (tSt (wd X ca) W (ex1 fe m))
  | .asg t x, s, h => by
    simp only [mtS] at h
    split at h
    · rename_i tg v pos
      obtain ⟨h1, h2⟩ := and2 h
      obtain ⟨h3, h4⟩ := and2 h1
      obtain ⟨h5, h6⟩ := and2 h3
      rw [Bool.or_eq_true] at h2
      rcases h2 with h2 | h2
      · exact so_asg (ps_asg_ev B h5 h6 h4 h2)
      · obtain ⟨g1, g2⟩ := and2 h2
        cases t with
        | tp ts => cases g2
        | nm i =>
          by_cases hsw : nmSw c tg v = true
          · exact so_asg (ps_asg_ev B h5 h6 h4 hsw)
          · cases x with
            | lc own t2 it cd el => exact so_asg (t := .nm i) (ps_lc_ev B g2 (by simpa using hsw) h5)
            | dc own t2 it cd kx vx => exact so_asg (t := .nm i) (ps_dc_ev B g2 (by simpa using hsw) h5)
            | lc2 own own1 t2 it cd t1 it1 cd1 el => exact so_asg (t := .nm i) (ps_lc2_ev B g2 (by simpa using hsw) h5)
            | _ => cases g1
    · cases h
  | .par is es, s, h => by
    simp only [mtS] at h
    split at h
    · rename_i ts kt pt vs k2 pt2 pos
      obtain ⟨h1, h2⟩ := and2 h
      have ha := pa_ev B es vs h2
      unfold parOk at h1
      split at h1
      · rename_i i j x px y py a b
        obtain ⟨g1, g2⟩ := and2 h1
        obtain ⟨g3, g4⟩ := and2 g1
        obtain ⟨g5, g6⟩ := and2 g3
        obtain ⟨g7, g8⟩ := and2 g5
        obtain ⟨g9, g10⟩ := and2 g7
        exact so_par (ps_par B.hc B.nd (B.at g9) (B.at g10) (of_decide_eq_true g8) (by rw [B.sc]; exact beq_iff_eq.mp g6) (by rw [B.sc]; exact beq_iff_eq.mp g4) ha (swN_is B (beq_iff_eq.mp g2)) rfl) fun D σ H z => par2 z fun Q Q' hq w => tA.imp hq w
      · rename_i i j l x px y py z pz a b d
        obtain ⟨g1, g2⟩ := and2 h1
        obtain ⟨g3, g4⟩ := and2 g1
        obtain ⟨g5, g6⟩ := and2 g3
        obtain ⟨g7, g8⟩ := and2 g5
        obtain ⟨g9, g10⟩ := and2 g7
        obtain ⟨g11, g12⟩ := and2 g9
        obtain ⟨g13, g14⟩ := and2 g11
        obtain ⟨g15, g16⟩ := and2 g13
        obtain ⟨g17, g18⟩ := and2 g15
        exact so_par (ps_par3 B.hc B.nd (B.at g17) (B.at g18) (B.at g16) (of_decide_eq_true g14) (of_decide_eq_true g12) (of_decide_eq_true g10) (by rw [B.sc]; exact beq_iff_eq.mp g8) (by rw [B.sc]; exact beq_iff_eq.mp g6) (by rw [B.sc]; exact beq_iff_eq.mp g4) ha (swN_is B (beq_iff_eq.mp g2)) rfl) fun D σ H z => par3 z fun Q Q' hq w => tA.imp hq w
      · cases h1
    · cases h
  | .own i es, s, h => by
    simp only [mtS] at h
    split at h
    · obtain ⟨h1, h2⟩ := and2 h
      obtain ⟨h3, h4⟩ := and2 h1
      exact so_own (ps_set B.nd (B.at h3) (B.loc h4).1 (pe_lst (pa_ev B es _ h2)) rfl (B.loc h4).2)
    · cases h
  | .ownl i own t it cd el, s, h => by
    simp only [mtS] at h
    split at h
    · obtain ⟨h1, h2⟩ := and2 h
      obtain ⟨h3, h4⟩ := and2 h1
      obtain ⟨h5, h6⟩ := and2 h3
      obtain ⟨g1, g2⟩ := ps_ownl_ev B h5 h6 h4 h2
      exact so_ownl g1 g2
    · cases h
  | .owna i a b, s, h => by
    simp only [mtS] at h
    split at h
    · obtain ⟨h1, h2⟩ := and2 h
      obtain ⟨h3, h4⟩ := and2 h1
      obtain ⟨h5, h6⟩ := and2 h3
      obtain ⟨h7, h8⟩ := and2 h5
      simp only [Bool.not_eq_true'] at h2
      exact so_owna (ps_set B.nd (B.at h7) (B.loc h8).1 (pe_op op_add_list (pk_ev B a _ h6 (pe_ev B a _ h6)) (pk_ev B b _ h4 (pe_ev B b _ h4))) (by rw [sw_is B, h2]) (B.loc h8).2)
    · cases h
  | .owd i, s, h => by simp only [mtS] at h; cases h
  | .app i x, s, h => by
    simp only [mtS] at h
    split at h
    · obtain ⟨h1, h2⟩ := and2 h
      obtain ⟨h3, h4⟩ := and2 h1
      obtain ⟨h5, h6⟩ := and2 h3
      obtain ⟨h7, h8⟩ := and2 h5
      obtain ⟨h9, h10⟩ := and2 h7
      obtain ⟨h11, h12⟩ := and2 h9
      cases (beq_iff_eq.mp h8)
      exact so_app (B.at h11) (B.vis h12) (nmOk_is h10).1 (nmOk_is h10).2 h6 h4 (pe_ev B x _ h2)
    · cases h
  | .fst o f cs v, s, h => by
    simp only [mtS] at h
    split at h
    · obtain ⟨h1, h2⟩ := and2 h
      obtain ⟨h3, h4⟩ := and2 h1
      obtain ⟨h5, h6⟩ := and2 h3
      cases (beq_iff_eq.mp h5)
      exact so_fst (B.noat h6) (sw_no fun _ _ z => by cases z) (pe_ev B v _ h4) (pe_ev B o _ h2)
    · cases h
  | .unp ts v, s, h => by
    simp only [mtS] at h
    split at h
    · obtain ⟨h1, h2⟩ := and2 h
      obtain ⟨h3, h4⟩ := and2 h1
      obtain ⟨g1, g2, g3, g4⟩ := tgs_ev B ts _ h3
      have hal := assign_len (env := X.env) g2
      exact so_unp B.hc g4 g1 (by rw [hal.1]; exact g3) hal.2.1 (sw_no fun _ _ z => by cases z) (noSw_is B h4) (pe_ev B v _ h2)
    · cases h
  | .bad, s, h => by simp only [mtS] at h; cases h
  | .dpt i kx v, s, h => by simp only [mtS] at h; cases h
  | .sti o i v, s, h => by
    simp only [mtS] at h
    split at h
    · obtain ⟨h1, h2⟩ := and2 h
      obtain ⟨h3, h4⟩ := and2 h1
      obtain ⟨h5, h6⟩ := and2 h3
      exact so_sti B.q h5 (sw_no fun _ _ z => by cases z) (noSw_is B rfl) (pe_ev B v _ h6) (pe_ev B o _ h4) (pe_ev B i _ h2)
    · cases h
  | .exp x, s, h => by
    simp only [mtS] at h
    split at h
    · obtain ⟨h1, h2⟩ := and2 h
      exact so_exp (sw_none h1) (pe_ev B x _ h2)
    · cases h
  | .ret x, s, h => by
    simp only [mtS] at h
    split at h
    · exact so_ret (pk_ev B x _ h (pe_ev B x _ h))
    · cases h
  | .retn, s, h => by
    simp only [mtS] at h
    split at h
    · exact so_retn
    · cases h
  | .ifs t a b, s, h => by
    simp only [mtS] at h
    split at h
    · obtain ⟨h1, h2⟩ := and2 h
      obtain ⟨h3, h4⟩ := and2 h1
      exact so_ifs (pt_ev B t _ h3) (pss_ev B a _ h4) (pss_ev B b _ h2)
    · cases h
  | .fr t it b, s, h => by
    simp only [mtS] at h
    split at h
    · obtain ⟨h1, h2⟩ := and2 h
      obtain ⟨h3, h4⟩ := and2 h1
      obtain ⟨h5, h6⟩ := and2 h3
      exact so_for B.po B.hc (pi_ev B it _ _ h4) (pg_tn B t _ h5) (pss_ev B b _ h2) (set_is h6)
    · cases h
  | .whl t b, s, h => by
    simp only [mtS] at h
    split at h
    · obtain ⟨h1, h2⟩ := and2 h
      exact so_whl B.po (pt_ev B t _ h1) (pss_ev B b _ h2)
    · cases h
  | .brk, s, h => by
    simp only [mtS] at h
    split at h
    · exact so_brk
    · cases h
  | .cnt, s, h => by
    simp only [mtS] at h
    split at h
    · exact so_cnt
    · cases h
  | .pass, s, h => by
    simp only [mtS] at h
    split at h
    · exact so_pass
    · exact so_doc
    · cases h
theorem pss_ev {X : Cx} {c : MC} {W : WX} (B : Bk ca fe k X c W) : ∀ (m : Sms) (ss : List Stmt), mtSs c m ss = true → PSs X ss (tSt (wd X ca) W (exs fe m))
  | .nil, ss, h => by
    simp only [mtSs] at h
    split at h
    · exact ss_nil
    · cases h
  | .cons a r, ss, h => by
    simp only [mtSs] at h
    split at h
    · obtain ⟨h1, h2⟩ := and2 h
      exact ss_cons (ps_ev B a _ h1) (pss_ev B r _ h2)
    · cases h
  | .frz i r, ss, h => by
    simp only [mtSs] at h
    exact ss_frz (pss_ev B r _ h)
end
end Ev

set_option Elab.async false
set_option linter.all false
set_option maxRecDepth 100000
set_option maxHeartbeats 4000000
/-! EvH: defs, and a law from its run. -/
namespace Ev
open PySem PySem.Spec PyProof.Rows L2
section
variable {Wo : Wd} {F : Hp} {ρ : Rho} {H : Hp}
theorem no_at : ∀ (m i : Nat), En.at (List.replicate m Sl.no) i = Sl.no
  | 0, i => rfl
  | m + 1, 0 => rfl
  | m + 1, i + 1 => no_at m i
theorem vals_start : ∀ {ds : List D} {vs : List V} (m : Nat), DRs Wo F ρ ds vs → RE Wo F O0 ρ (ds.map Sl.val ++ List.replicate m Sl.no) (vs.map some ++ List.replicate m none)
  | [], vs, m, h => by
    cases h
    refine ⟨by simp, fun i hi => ?_, fun i j a h1 => ?_⟩
    · have hi : i < m := by simpa using hi
      refine ⟨none, by simp [hi], ?_⟩
      show SR Wo F O0 ρ (En.at (List.replicate m Sl.no) i) none
      rw [no_at]; exact trivial
    · have h1 : (En.at (List.replicate m Sl.no) i).isOwn = true := h1
      rw [no_at] at h1; cases h1
  | d :: ds, vs, m, h => by
    obtain ⟨v, vr, rfl, p, t⟩ := h
    have E := vals_start m t
    refine ⟨?_, fun i hi => ?_, fun i j a h1 h2 h3 h4 => ?_⟩
    · have := E.len
      show (ds.map Sl.val ++ List.replicate m Sl.no).length + 1 = (vr.map some ++ List.replicate m none).length + 1
      rw [this]
    · cases i with
      | zero => exact ⟨some v, rfl, v, rfl, p⟩
      | succ i => exact E.at_ i (Nat.lt_of_succ_lt_succ hi)
    · cases i with
      | zero => cases h1
      | succ i =>
        cases j with
        | zero => cases h2
        | succ j => rw [E.dis i j a h1 h2 h3 h4]
theorem RE.start {ds : List D} {vs : List V} {N : List Str} (h : DRs Wo F ρ ds vs) : RE Wo F O0 ρ (startE N.length ds) (L2.start N vs) := by
  unfold startE L2.start
  rw [h.len]
  exact vals_start _ h
/-- a body's end is its def's end -/
theorem out_ok {E : XK} {r : RS} {st : Sto} {Q : VK} (h : okA (fun F' ρ' => DR Wo F' ρ') Wo (fun c d _ H => E c d H) [] F O0 ρ H (outS r) Q) : okS Wo (fun c d _ H => E c d H) F O0 ρ H r { nx := fun _ H' => Q .non H', rt := Q } := by
  have low : ∀ {F' O' : Hp} {ρ' : Rho} {H' : Hp} {st' : Sto}, Ext F O0 ρ H F' O' ρ' H' → Rl Wo F' O' ρ' st' H' → Ext F O0 ρ H F' O0 ρ' H' ∧ Rl Wo F' O0 ρ' st' H' := fun x R => ⟨⟨x.f, x.r, x.nf, x.nr, fun _ _ z => (by cases z), x.kp, x.al⟩, R.drop⟩
  cases r with
  | nx e s => exact fun F' O' ρ' H' σ x R _ => h .non F' ρ' H' (low x R).1 (low x R).2 rfl
  | rt d s => exact fun F' O' ρ' H' v x R p => h v F' ρ' H' (low x R).1 (low x R).2 p
  | ex y e s => exact fun F' O' ρ' H' σ cls dx x R _ p => h cls dx F' ρ' H' (low x R).1 (low x R).2 p
  | bk e s => exact h.elim
  | ct e s => exact h.elim
  | no => exact h.elim
end
section
variable {P : Program} {w : World} {K : PySem.W.Frag} {mg : Str → Option Value} {base : Heap} {ca : Nat → Addr}
theorem fnG_of {n : Nat} {f : Addr} {name qual : Str} {params : Arguments} {body : List Stmt} {scope : Scope} {dV kV doc pm cdv ct oc : Value} {an od : Option Addr} {osl : Array (Option Value)} {N ps : List Str} {m : MS}
    (lk : K.lookup f = some ⟨oc, od, .func (PySem.W.fnOf name qual params body scope dV kV doc pm an cdv ct), osl⟩) (hcd : PySem.W.codeIn K cdv qual = true) (S : FnScope N ps scope)
    (hB : ∀ (A : Around) (outer : List Env) (s : Shared) (H : Hp) (E : XK), A.guards = some [] → Room n (A.deeper (envOfC qual scope s.heap.objs.size f cdv)) → A.handled = none →
      PSs (cxOf (L2.CX P w) P w K mg base N qual scope f cdv A outer s H E) body (tSt ⟨K, w, ca⟩ (fun c d _ H => E c d H) m)) :
    FnG P w K mg base (n + 1) f (PySem.W.fnOf name qual params body scope dV kV doc pm an cdv ct) ps (spD ⟨K, w, ca⟩ ps.length fun ds s => outS (m (startE N.length ds) s)) := by
  refine ⟨fun A outer s H args us vs Q E hg room env0 vl bnds rv sp => ?_⟩
  have inH : K.In s.heap := env0.mod.kin.keeps fun b o z => (env0.bs b o z).1
  have nolim : s.heap.NoLimit := env0.mod.nolimit.keeps fun b o z => (env0.bs b o z).1
  have kinds : ∀ y ∈ ps.zip us, scope.names.lookup y.1 = some .local ∨ (scope.names.lookup y.1 = some .cell ∧ ((cellsFrom (s.heap.objs.size + 1) scope.names []).lookup y.1).isSome = true) := fun y hy =>
    (S.par y.1 (List.of_mem_zip (show (y.1, y.2) ∈ ps.zip us from hy)).1).imp id fun z => ⟨z, PySem.W.cellsFrom_some _ _ _ (.inl z)⟩
  refine codeAny_call_function room.depth (inH _ _ lk) rfl S.co S.gen rfl (PySem.W.codeRec_of inH hcd) (bnds _ _ _ _ (wpAny_newFunctionEnv_cells S.kind kinds fun env henv s1 x => ?_))
  subst henv
  refine ⟨nolim.keeps x.toInCall.keep, codeAny_func ?_⟩
  have body_ok := hB A outer s H E hg (room.deeper _) room.hd
  have I : Inv (cxOf (L2.CX P w) P w K mg base N qual scope f cdv A outer s H E) [] (L2.start N vs) H s1 := inv_start S room.hd env0 vl rv x
  obtain ⟨_, F, ρ, st, ds, R, p, h⟩ := sp
  have want : tSt ⟨K, w, ca⟩ (fun c d _ H => E c d H) m { nx := fun _ H' => Q .non H', rt := Q } (L2.start N vs) H := ⟨F, O0, ρ, startE N.length ds, st, R, RE.start p, out_ok (st := st) h⟩
  refine wpAny_mono (body_ok.run [] s1 _ H _ I want) (fun fl s' q => ?_) fun _ _ z => z
  rcases fl with _ | _ | _ | u
  · obtain ⟨σ', H', J, q⟩ := q
    exact ⟨V.non, H', J.os, J.bare, J.base, J.hok, rfl, q⟩
  · obtain ⟨_, _, _, q⟩ := q
    exact q.elim
  · obtain ⟨_, _, _, q⟩ := q
    exact q.elim
  · obtain ⟨v, σ', H', J, rv', q⟩ := q
    exact ⟨v, H', J.os, J.bare, J.base, J.hok, rv', q⟩
end
end Ev

set_option Elab.async false
set_option linter.all false
set_option maxRecDepth 100000
set_option maxHeartbeats 4000000
/-! EvI: all defs of a program, and its law. -/
namespace Ev
open PySem PySem.Spec PyProof.Rows L2
structure Df where
  name : Str
  N : List Str
  ps : List Str
  params : Arguments
  body : List Stmt
  scope : Scope
  fn : Fn
  cls : Option Str
  qual : Str
/-- where it stands: a global's name, a class's method -/
def Df.at (f : Df) : Str × Option Str := match f.cls with
  | none => (f.name, none)
  | some C => (C, some f.name)
/-- a class: its name, its __init__ and how many parameters that has besides self; methods by name, def, parameters besides self; names that it does not have -/
structure ClD where
  name : Str
  init : Nat
  initN : Nat
  meths : List (Nat × Nat × Nat)
  na : List Nat
def ctOf (cl : List ClD) : CT := ⟨cl.zipIdx.map fun p => (p.1.name, p.2, p.1.init, p.1.initN), cl.zipIdx.flatMap fun p => p.1.meths.map fun q => (p.2, q.1, q.2.1, q.2.2), cl.zipIdx.flatMap fun p => p.1.na.map fun f => (p.2, f)⟩
def dfAt (dfs : List Df) (f : Nat) (a : Str × Option Str) (n : Nat) : Bool := match dfs[f]? with
  | some g => decide (g.at = a) && decide (g.ps.length = n)
  | none => false
theorem dfAt_is {dfs : List Df} {f n : Nat} {a : Str × Option Str} (h : dfAt dfs f a n = true) : ∃ g, dfs[f]? = some g ∧ g.at = a ∧ g.ps.length = n := by
  unfold dfAt at h
  split at h
  · rename_i g e
    obtain ⟨h1, h2⟩ := and2 h
    exact ⟨g, e, of_decide_eq_true h1, of_decide_eq_true h2⟩
  · cases h
def ClD.ok (dfs : List Df) (c : ClD) : Bool := dfAt dfs c.init (c.name, some "__init__") (c.initN + 1) && c.meths.all fun q => dfAt dfs q.2.1 (c.name, some (fnm q.1)) (q.2.2 + 1)
def caOf (K : PySem.W.Frag) (cl : List ClD) (C : Nat) : Addr := He.ga K (match cl[C]? with
  | some c => c.name
  | none => "")
def scB (N ps : List Str) (sc : Scope) : Bool := decide (sc.kind = .function) && !sc.isCoroutine && !sc.isGenerator && decide N.Nodup && decide (N.take ps.length = ps) && (ps.all fun x => sc.names.lookup x == some .local || sc.names.lookup x == some .cell) && sc.names.all fun y => decide (y.2 ≠ .free)
theorem scB_ok {N ps : List Str} {sc : Scope} (h : scB N ps sc = true) : FnScope N ps sc := by
  unfold scB at h
  obtain ⟨h1, h2⟩ := and2 h
  obtain ⟨h3, h4⟩ := and2 h1
  obtain ⟨h5, h6⟩ := and2 h3
  obtain ⟨h7, h8⟩ := and2 h5
  obtain ⟨h9, h10⟩ := and2 h7
  obtain ⟨h11, h12⟩ := and2 h9
  refine ⟨of_decide_eq_true h11, by simpa using h12, by simpa using h10, of_decide_eq_true h8, of_decide_eq_true h6, fun x hx => ?_, fun y hy => ?_⟩
  · have := List.all_eq_true.mp h4 x hx
    simpa using this
  · exact of_decide_eq_true (List.all_eq_true.mp h2 y hy)
def Df.mc (gls : List Str) (fns : List (Option (Str × Nat))) (ct : CT) (bns : List Str) (f : Df) : MC := ⟨f.N, f.scope, f.scope, gls, fns, bns, ct⟩
def Df.ok (gls : List Str) (fns : List (Option (Str × Nat))) (ct : CT) (bns : List Str) (f : Df) : Bool := decide (f.fn.names = f.N.length) && decide (f.fn.params = f.ps.length) && scB f.N f.ps f.scope && mtSs (f.mc gls fns ct bns) f.fn.body f.body
def Df.d (f : Df) : He.DefD := ⟨f.at, f.name, f.qual, f.params, f.body, f.scope, [], []⟩
def Df.sg (f : Df) : Option (Str × Nat) := match f.cls with
  | none => some (f.name, f.ps.length)
  | some _ => none
def sig (dfs : List Df) : List (Option (Str × Nat)) := dfs.map Df.sg
/-- how a def's parameters are bound -/
def Df.Bind (f : Df) : Prop := ∀ (kV doc pm : Value) (an : Option Addr) (cdv ct : Value) (us : List Value), us.length = f.ps.length → bindArgs (PySem.W.fnOf f.name f.qual f.params f.body f.scope .none kV doc pm an cdv ct) ⟨us, []⟩ = pure (f.ps.zip us)
section
variable {P : Program} {w : World} {K : PySem.W.Frag} {mg : Str → Option Value} {base : Heap} {ca : Nat → Addr}
/-- what is told of a program's defs and classes -/
structure PrOk (K : PySem.W.Frag) (mg : Str → Option Value) (ca : Nat → Addr) (dfs : List Df) (ct : CT) : Prop where
  defs : ∀ f ∈ dfs, ∃ fd, FunD K f.name f.qual f.params f.body f.scope [] [] (He.fAd K f.at) fd
  glo : ∀ f ∈ dfs, f.cls = none → mg f.name = some (.ref (He.fAd K f.at))
  ms : ∀ (C m f n : Nat), (C, m, f, n) ∈ ct.mt → Cls K (ca C) ∧ ∃ g, dfs[f]? = some g ∧ Meth K (ca C) (fnm m) (He.fAd K g.at) ∧ g.ps.length = n + 1
  mr : ∀ (x : Str) (C f n : Nat), (x, C, f, n) ∈ ct.mr → mg x = some (.ref (ca C)) ∧ ∃ g, dfs[f]? = some g ∧ Mk K (ca C) (He.fAd K g.at) ∧ g.ps.length = n + 1
  na : ∀ (C f : Nat), (C, f) ∈ ct.na → Cls K (ca C) ∧ NoAttr K (ca C) (fnm f)
theorem prog_ok {dfs : List Df} {gls bns : List Str} {ct : CT} {gv : List D} {fuel : Nat} (hok : ∀ f ∈ dfs, f.ok gls (sig dfs) ct bns = true) (hP : PrOk K mg ca dfs ct)
    (hb : ∀ f ∈ dfs, f.Bind) (hbl : ∀ x ∈ bns, mg x = none) (hgl : ∀ (i : Nat) (x : Str), gls[i]? = some x → ∃ d, gv[i]? = some d ∧ GOk K w ca mg x d) :
    ∀ (n i : Nat) (f : Df), dfs[i]? = some f → ∀ fd, FunD K f.name f.qual f.params f.body f.scope [] [] (He.fAd K f.at) fd → FnG P w K mg base (2 * n) (He.fAd K f.at) fd f.ps (spD ⟨K, w, ca⟩ f.ps.length (runF (dfs.map Df.fn) gv fuel n i))
  | 0, i, f, hi, fd, F => ⟨fun A outer s H args us vs Q E hg hr e0 hl bnd rv ⟨_, F, ρ, st, ds, R, p, h⟩ => h.elim⟩
  | n + 1, i, f, hi, fd, F => by
    have ih := prog_ok (fuel := fuel) hok hP hb hbl hgl n
    have hf : f ∈ dfs := List.mem_of_getElem? hi
    have ok := hok f hf
    unfold Df.ok at ok
    obtain ⟨h1, h2⟩ := and2 ok
    obtain ⟨h3, h4⟩ := and2 h1
    obtain ⟨h5, h6⟩ := and2 h3
    have S := scB_ok h4
    obtain ⟨oc, od, dV, kV, doc, pm, an, cdv, ct', osl, rfl, lk, hcd, _, _⟩ := F.ex
    have G := fnG_of (P := P) (w := w) (mg := mg) (base := base) (ca := ca) (n := 2 * n + 1) (m := exs ⟨runF (dfs.map Df.fn) gv fuel n, gv, fuel⟩ f.fn.body) lk hcd S fun A outer s H E hg room hh => by
      refine pss_ev (ca := ca) (fe := ⟨runF (dfs.map Df.fn) gv fuel n, gv, fuel⟩) (X := cxOf (L2.CX P w) P w K mg base f.N f.qual f.scope (He.fAd K f.at) cdv A outer s H E) (k := 2 * n + 1) (c := f.mc gls (sig dfs) ct bns) ⟨rfl, S.nd, rfl, S.kind, fun _ _ => rfl, rfl, hg, room, hbl, hgl, fun C m g q hm => ?_, fun x C g q hm => ?_, hP.na, fun j x m hj => ?_, takes_of rfl rfl rfl rfl, passes_of rfl⟩ f.fn.body f.body h2
      · obtain ⟨c1, d, c2, c3, c4⟩ := hP.ms C m g q hm
        have hd : d ∈ dfs := List.mem_of_getElem? c2
        obtain ⟨gd, FG⟩ := hP.defs d hd
        exact ⟨c1, He.fAd K d.at, gd, d.ps, c3, c4, (ih g d c2 gd FG).mono (Nat.le_succ _), fun s us hl => FG.bindsA (hb d hd) s us hl⟩
      · obtain ⟨c1, d, c2, c3, c4⟩ := hP.mr x C g q hm
        have hd : d ∈ dfs := List.mem_of_getElem? c2
        obtain ⟨gd, FG⟩ := hP.defs d hd
        exact ⟨c1, 2 * n, He.fAd K d.at, gd, d.ps, rfl, c3, c4, ih g d c2 gd FG, fun s us hl => FG.bindsA (hb d hd) s us hl⟩
      have hj : (dfs.map Df.sg)[j]? = some (some (x, m)) := hj
      rw [List.getElem?_map] at hj
      cases q : dfs[j]? with
      | none => rw [q] at hj; cases hj
      | some g =>
        rw [q] at hj
        have hj : g.sg = some (x, m) := Option.some.inj hj
        unfold Df.sg at hj
        cases e : g.cls with
        | some _ => rw [e] at hj; cases hj
        | none =>
          rw [e] at hj
          obtain ⟨rfl, rfl⟩ := Prod.mk.inj (Option.some.inj hj)
          have hg : g ∈ dfs := List.mem_of_getElem? q
          obtain ⟨gd, FG⟩ := hP.defs g hg
          exact ⟨He.fAd K g.at, gd, g.ps, hP.glo g hg e, FG.kp, rfl, (ih j g q gd FG).mono (Nat.le_succ _), fun s us hl => FG.bindsA (hb g hg) s us hl⟩
    refine ⟨fun A outer s H args us vs Q E hg hr e0 hl bnd rv sp => G.run A outer s H args us vs Q E hg hr e0 hl bnd rv ?_⟩
    obtain ⟨hl, F1, ρ, st, ds, R, p, h⟩ := sp
    refine ⟨hl, F1, ρ, st, ds, R, p, ?_⟩
    have e : runF (dfs.map Df.fn) gv fuel (n + 1) i ds st = outS (exs ⟨runF (dfs.map Df.fn) gv fuel n, gv, fuel⟩ f.fn.body (startE f.N.length ds) st) := by
      have g : (dfs.map Df.fn)[i]? = some f.fn := by rw [List.getElem?_map, hi]; rfl
      have l : ds.length = f.fn.params := by rw [p.len, hl]; exact (of_decide_eq_true h6).symm
      show (match (dfs.map Df.fn)[i]? with
        | some fn => if ds.length = fn.params then outS (exs ⟨runF (dfs.map Df.fn) gv fuel n, gv, fuel⟩ fn.body (startE fn.names ds) st) else .no
        | none => .no) = _
      rw [g]
      show (if ds.length = f.fn.params then outS (exs ⟨runF (dfs.map Df.fn) gv fuel n, gv, fuel⟩ f.fn.body (startE f.fn.names ds) st) else .no) = _
      rw [if_pos l, of_decide_eq_true h5]
    rw [e] at h
    exact h
/-- law(script) answers True: from its run -/
theorem law_run {mb : Str → Option Value} {k : Nat} {fa a : Addr} {fd : FuncData} {x : Str} {s₁ : Shared} {vs : List Value} {ns : List Int} {cf : List D → M D}
    (inK : K.In s₁.heap) (nsG : s₁.heap.Ns mainGlobals mg) (nsB : s₁.heap.Ns builtinsNs mb) (bltE : ∀ x : Str, x ≠ "__name__" → mb x = bootBuiltins x) (nolim : s₁.heap.NoLimit) (noG : s₁.gens = #[])
    (objA : s₁.heap.get? a = some { cls := .type "list", data := .seq vs.toArray }) (intz : IntsAre vs ns) (short : ns.length ≤ sizeLine) (room : Room k callerA)
    (fnOk : ∀ base : Heap, K.In base → base.Ns mainGlobals mg → FnG P w K mg base k fa fd [x] (spD ⟨K, w, ca⟩ 1 cf)) (bindX : ∀ (s : Shared) (u : Value), BindsTo s fd ⟨[u], []⟩ [(x, u)])
    (run : ∃ s', cf [.lst (ns.map D.int)] ⟨0, []⟩ = .ok (.bl true) s') :
    codeAny (model P w) callerA (.call (.ref fa) ⟨[.ref a], []⟩) (fun r s' => r = .ok (.ret (.bool true)) ∧ OldK s₁.heap s'.heap ∧ s'.os = s₁.os ∧ AllBare s'.gens) s₁ := by
  have rv := vals_ints intz
  have lenV := intz.length
  have drs : ∀ (F : Hp) (ρ : Rho) (ms : List Int), DRs ⟨K, w, ca⟩ F ρ (ms.map D.int) (ms.map V.int) := fun F ρ ms => by
    induction ms with
    | nil => rfl
    | cons m ms ih => exact ⟨_, _, rfl, rfl, ih⟩
  have main : ∀ H : Hp, (∀ b, H b = none ∨ ∃ o xs, H b = some (.frz o (.lst xs))) → LsT K H a (ns.map V.int) → HOk P w H s₁.heap → (∀ b, H b ≠ none → b = a) → (H a ≠ none → K.lookup a = none) →
      codeAny (model P w) callerA (.call (.ref fa) ⟨[.ref a], []⟩) (fun r s' => r = .ok (.ret (.bool true)) ∧ OldK s₁.heap s'.heap ∧ s'.os = s₁.os ∧ AllBare s'.gens) s₁ := fun H only isL hok onlyA notK => by
    have noDct : ∀ {b : Addr} {o : Obj} {es : Array DictEntry} {ep : Nat}, s₁.heap.get? b = some o → o.data = .dict es ep → H b = none := fun {b o es ep} e dd => by
      rcases only b with z | ⟨ob, xs, z⟩
      · exact z
      · have := onlyA b (by rw [z]; simp)
        subst this
        rw [objA] at e
        cases e
        cases (show Data.seq vs.toArray _ = Data.dict es ep from dd)
    have keepNs : ∀ {b : Addr} {m : Str → Option Value}, s₁.heap.Ns b m → (hidT s₁.heap H).Ns b m := fun {b m} ⟨o, es, ep, e, dd, r⟩ => ⟨o, es, ep, hidT_get e (noDct e dd), dd, r⟩
    have inB : K.In (hidT s₁.heap H) := fun b o e => hidT_get (inK b o e) (by
      by_cases q : H b = none
      · exact q
      · have := onlyA b q
        subst this
        rw [notK q] at e; cases e)
    have mod : Mod K mg (hidT s₁.heap H) := ⟨inB, keepNs nsG, ⟨mb, keepNs nsB, bltE⟩, let ⟨mc, h1, h2⟩ := nolim; ⟨mc, keepNs h1, h2⟩⟩
    have env0 : Env0 P w K mg (hidT s₁.heap H) callerA [] s₁ H := ⟨rfl, mod, fun b o e => of_hidT e, Nat.le_of_eq (hidT_size _ _), trivial, fun b hb => (by cases hb), hok, .of_eq noG⟩
    obtain ⟨s', hrun⟩ := run
    have R : Rl ⟨K, w, ca⟩ H O0 (fun _ => none) ⟨0, []⟩ H := ⟨fun _ _ z => z, fun n o z => (by cases z), fun _ _ _ z => (by cases z), fun _ _ z => (by cases z), fun _ _ => rfl, fun _ _ z => (by cases z)⟩
    have sp : spD ⟨K, w, ca⟩ 1 cf [.ref a] H (fun v _ => v = .bl true) fun _ _ _ => False := by
      refine ⟨rfl, H, fun _ => none, ⟨0, []⟩, [.lst (ns.map D.int)], R, ⟨.ref a, [], rfl, ⟨a, ns.map V.int, rfl, isL, drs _ _ _⟩, rfl⟩, ?_⟩
      rw [hrun]
      exact fun v F' ρ' H' _ _ p => p
    refine codeAny_mono ((fnOk _ inB (keepNs nsG)).run callerA [] s₁ H ⟨[.ref a], []⟩ [.ref a] [.ref a] _ _ rfl room env0 rfl (bindX s₁ (.ref a)) (.cons rfl .nil) sp) fun r s2 h => ?_
    rcases r with e | fl
    · obtain ⟨_, _, _, _, _, _, _, _, _, _, _, _, z⟩ := h
      exact z.elim
    · rcases fl with _ | _ | _ | u
      · exact h.elim
      · exact h.elim
      · exact h.elim
      · obtain ⟨v, H', os, bare, un, hok', r', q⟩ := h
        obtain rfl : v = .bl true := q
        obtain rfl : u = Value.bool true := r'
        refine ⟨rfl, OldK.of_keep fun b o e => ?_, os, bare⟩
        rcases only b with z | ⟨ob, xs, z⟩
        · exact un.keep b o e z (fun y => by cases y) (fun y => by cases y)
        · obtain ⟨e1, _⟩ := hok b _ z
          obtain ⟨e2, _⟩ := hok' b _ (un.frzs b ob _ z)
          rw [e] at e1; cases e1
          exact e2
  by_cases hk : K.lookup a = none
  · refine main (fun b => if b = a then some (.frz { cls := .type "list", data := .seq vs.toArray } (.lst (ns.map V.int))) else none) (fun b => ?_) (.inl (.inr ⟨{ cls := .type "list", data := .seq vs.toArray }, if_pos rfl⟩)) (fun b u z => ?_) (fun b z => ?_) fun _ => hk
    · by_cases c : b = a
      · exact .inr ⟨_, _, if_pos c⟩
      · exact .inl (if_neg c)
    · by_cases c : b = a
      · subst c
        have z' := (if_pos rfl).symm.trans z
        cases z'
        exact ⟨objA, by rw [List.length_map]; exact short, vs, _, rv, objA⟩
      · have z' := (if_neg c).symm.trans z
        cases z'
    · by_cases c : b = a
      · exact c
      · exact (z (if_neg c)).elim
  · cases q : K.lookup a with
    | none => exact (hk q).elim
    | some o =>
      have e := inK a o q
      rw [objA] at e
      cases e
      exact main (fun _ => none) (fun _ => .inl rfl) (.inr ⟨vs, _, q, by rw [List.length_map]; exact short, rv⟩) (fun b u z => by cases z) (fun b z => (z rfl).elim) fun z => (z rfl).elim
end
end Ev

set_option Elab.async false
set_option linter.all false
set_option maxRecDepth 100000
set_option maxHeartbeats 4000000
/-! EvJ: the module's constants; the head's facts; a law's walk. -/
namespace Ev
open PySem PySem.Spec PyProof.Rows L2
mutual
/-- a value as the module has it -/
def valB (K : PySem.W.Frag) : D → Value → Bool
  | .non, u => (match u with
    | .none => true
    | _ => false)
  | .bl b, u => (match u with
    | .bool c => b == c
    | _ => false)
  | .int i, u => (match u with
    | .int j _ => decide (i = j)
    | _ => false)
  | .str x, u => (match u with
    | .str y _ => decide (x = y) && PyData.strOk x
    | _ => false)
  | .tup xs, u => (match u with
    | .ref a => (match K.lookup a with
      | some ⟨.type c, _, .seq its _, _⟩ => decide (c = "tuple") && (decide (its.size ≤ sizeLine) && valsB K xs its.toList)
      | _ => false)
    | _ => false)
  | .lst xs, u => (match u with
    | .ref a => (match K.lookup a with
      | some ⟨.type c, none, .seq its _, sl⟩ => decide (c = "list") && (sl.isEmpty && (decide (its.size ≤ sizeLine) && valsB K xs its.toList))
      | _ => false)
    | _ => false)
  | .dct _, _ => false
  | .ref _, _ => false
def valsB (K : PySem.W.Frag) : List D → List Value → Bool
  | [], us => us.isEmpty
  | x :: xs, us => (match us with
    | u :: us => valB K x u && valsB K xs us
    | [] => false)
end
def valkB (K : PySem.W.Frag) : List (Key × D) → List DictEntry → Bool
  | [], es => es.isEmpty
  | (k, x) :: xs, es => (match es with
    | e :: es => ((match k, e.key with
      | .inr z, .str y _ => decide (z = y)
      | _, _ => false) && valB K x e.val) && valkB K xs es
    | [] => false)
/-- a module's name stands for d -/
def gvB (K : PySem.W.Frag) (x : Str) : D → Bool
  | .dct kvs => (match PySem.W.nsIn K mainGlobals x with
    | some (some (.ref a)) => (match K.lookup a with
      | some ⟨_, _, .dict es _, _⟩ => !kvs.isEmpty && valkB K kvs es.toList
      | _ => false)
    | _ => false)
  | d => (match PySem.W.nsIn K mainGlobals x with
    | some (some u) => valB K d u
    | _ => false)
section
variable {K : PySem.W.Frag} {w : World} {ca : Nat → Addr}
mutual
theorem valB_ok : ∀ {d : D} {u : Value}, valB K d u = true → ∃ v, RelV v u ∧ ∀ F ρ, DR ⟨K, w, ca⟩ F ρ d v
  | .non, u, h => by
    simp only [valB] at h
    split at h
    · exact ⟨.non, rfl, fun _ _ => rfl⟩
    · cases h
  | .bl b, u, h => by
    simp only [valB] at h
    split at h
    · cases (beq_iff_eq.mp h); exact ⟨.bl b, rfl, fun _ _ => rfl⟩
    · cases h
  | .int i, u, h => by
    simp only [valB] at h
    split at h
    · cases (of_decide_eq_true h); exact ⟨.int i, ⟨_, rfl⟩, fun _ _ => rfl⟩
    · cases h
  | .str x, u, h => by
    simp only [valB] at h
    split at h
    · obtain ⟨h1, h2⟩ := and2 h
      cases (of_decide_eq_true h1); exact ⟨.str x, ⟨_, rfl⟩, fun _ _ => ⟨rfl, h2⟩⟩
    · cases h
  | .tup xs, u, h => by
    simp only [valB] at h
    split at h
    · rename_i a
      split at h
      · rename_i c od its n sl q
        obtain ⟨h1, h2⟩ := and2 h
        obtain ⟨h3, h4⟩ := and2 h2
        obtain ⟨vs, r, t⟩ := valsB_ok h4
        exact ⟨.ref a, rfl, fun F ρ => ⟨a, vs, rfl, .inr ⟨_, its, n, q, congrArg Value.type (of_decide_eq_true h1), rfl, of_decide_eq_true h3, r⟩, t F ρ⟩⟩
      · cases h
    · cases h
  | .lst xs, u, h => by
    simp only [valB] at h
    split at h
    · rename_i a
      split at h
      · rename_i c its n sl q
        obtain ⟨h1, h2⟩ := and2 h
        obtain ⟨h3, h4⟩ := and2 h2
        obtain ⟨h5, h6⟩ := and2 h4
        obtain ⟨vs, r, t⟩ := valsB_ok h6
        have e1 := of_decide_eq_true h1
        have e2 : sl = #[] := Array.isEmpty_iff.mp h3
        subst e1 e2
        refine ⟨.ref a, rfl, fun F ρ => ⟨a, vs, rfl, .inr ⟨its.toList, n, by rw [q], by rw [r.length]; simpa using of_decide_eq_true h5, r⟩, t F ρ⟩⟩
      · cases h
    · cases h
  | .dct _, u, h => by simp only [valB] at h; cases h
  | .ref _, u, h => by simp only [valB] at h; cases h
theorem valsB_ok : ∀ {ds : List D} {us : List Value}, valsB K ds us = true → ∃ vs, Vals vs us ∧ ∀ F ρ, DRs ⟨K, w, ca⟩ F ρ ds vs
  | [], us, h => by
    simp only [valsB] at h
    cases us with
    | nil => exact ⟨[], .nil, fun _ _ => rfl⟩
    | cons _ _ => cases h
  | x :: xs, us, h => by
    simp only [valsB] at h
    split at h
    · obtain ⟨h1, h2⟩ := and2 h
      obtain ⟨v, r, t⟩ := valB_ok h1
      obtain ⟨vs, rs, ts⟩ := valsB_ok h2
      exact ⟨v :: vs, .cons r rs, fun F ρ => ⟨v, vs, rfl, t F ρ, ts F ρ⟩⟩
    · cases h
end
theorem valkB_ok : ∀ {kvs : List (Key × D)} {es : List DictEntry}, valkB K kvs es = true → ∃ kv : List (Key × V), (∀ F ρ, DRk ⟨K, w, ca⟩ F ρ kvs kv) ∧ (∀ p ∈ kv, ∃ x, p.1 = Sum.inr x) ∧ kv.length = kvs.length ∧
    (∀ x : Str, RelO (valV kv (Sum.inr x)) ((es.find? (·.key.isStr x)).map (·.val))) ∧ (es.any (·.refKey)) = false
  | [], es, h => by
    simp only [valkB] at h
    cases es with
    | nil => exact ⟨[], fun _ _ => rfl, fun p hp => by simp at hp, rfl, fun _ => trivial, rfl⟩
    | cons _ _ => cases h
  | (k, d) :: kvs, es, h => by
    simp only [valkB] at h
    split at h
    · rename_i e es
      obtain ⟨h1, h2⟩ := and2 h
      obtain ⟨h3, h4⟩ := and2 h1
      obtain ⟨kv, t1, t2, t3, t4, t5⟩ := valkB_ok h2
      obtain ⟨v, r, t⟩ := valB_ok (w := w) (ca := ca) h4
      split at h3
      · rename_i z y tk ek
        have e1 := of_decide_eq_true h3
        subst e1
        refine ⟨(.inr z, v) :: kv, fun F ρ => ⟨v, kv, rfl, t F ρ, t1 F ρ⟩, fun p hp => ?_, by rw [List.length_cons, List.length_cons, t3], fun x => ?_, ?_⟩
        · rcases List.mem_cons.mp hp with rfl | hp
          · exact ⟨z, rfl⟩
          · exact t2 p hp
        · by_cases c : z = x
          · subst c
            have g1 : valV ((Sum.inr z, v) :: kv : List (Key × V)) (Sum.inr z) = some v := by unfold valV; rw [List.find?_cons_of_pos (by simp)]; rfl
            have g2 : (e.key.isStr z) = true := by rw [ek]; simp [Value.isStr]
            have g3 : (e :: es).find? (fun q => q.key.isStr z) = some e := by rw [List.find?_cons]; simp only [g2]
            rw [g1, g3]
            exact r
          · have g1 : valV ((Sum.inr z, v) :: kv : List (Key × V)) (Sum.inr x) = valV kv (Sum.inr x) := by unfold valV; rw [List.find?_cons_of_neg (by simp [c])]
            have g2 : e.key.isStr x = false := by rw [ek]; simp [Value.isStr, c]
            have g3 : (e :: es).find? (fun q => q.key.isStr x) = es.find? (fun q => q.key.isStr x) := by rw [List.find?_cons]; simp only [g2]
            rw [g1, g3]
            exact t4 x
        · have g : e.refKey = false := by unfold DictEntry.refKey; rw [ek]
          rw [List.any_cons, g, t5]; rfl
      · cases h3
    · cases h
theorem gvB_ok {h : Heap} {mg : Str → Option Value} {x : Str} {d : D} (X : K.In h) (G : h.Ns mainGlobals mg) (c : gvB K x d = true) (hd : ∀ kvs, d = .dct kvs → ∃ es n, KDict K w (He.ga K x) es n) : GOk K w ca mg x d := by
  have plain : (match PySem.W.nsIn K mainGlobals x with
    | some (some u) => valB K d u
    | _ => false) = true → GOk K w ca mg x d := fun c => by
    cases e : PySem.W.nsIn K mainGlobals x with
    | none => rw [e] at c; cases c
    | some o =>
      rw [e] at c
      cases o with
      | none => cases c
      | some u =>
        obtain ⟨v, r, t⟩ := valB_ok (w := w) (ca := ca) c
        exact ⟨u, v, PySem.W.mg_of X G e, r, t⟩
  cases d with
  | dct kvs =>
    simp only [gvB] at c
    obtain ⟨es, n, kd⟩ := hd kvs rfl
    cases e : PySem.W.nsIn K mainGlobals x with
    | none => rw [e] at c; cases c
    | some o =>
      rw [e] at c
      cases o with
      | none => cases c
      | some u =>
        cases u with
        | ref a =>
          have ea : He.ga K x = a := by unfold He.ga; rw [e]
          rw [ea] at kd
          have k1 := kd.at_
          dsimp only at c
          rw [k1] at c
          dsimp only at c
          obtain ⟨h1, h2⟩ := and2 c
          obtain ⟨kv, t1, t2, t3, t4, t5⟩ := valkB_ok (w := w) (ca := ca) h2
          refine ⟨.ref a, .ref a, PySem.W.mg_of X G e, rfl, fun F ρ => ⟨a, kv, rfl, .inr ⟨es, n, kd, fun y => ?_, t2, ?_⟩, t1 F ρ⟩⟩
          · unfold PySem.W.nsIn
            rw [k1]
            dsimp only
            have := t4 y
            cases q : es.toList.find? (·.key.isStr y) with
            | none => rw [q] at this; rw [t5]; exact ⟨none, rfl, this⟩
            | some en => rw [q] at this; exact ⟨some en.val, rfl, this⟩
          · intro z
            rw [z] at t3
            cases kvs with
            | nil => cases h1
            | cons _ _ => cases t3
        | _ => cases c
  | non => exact plain c
  | bl _ => exact plain c
  | int _ => exact plain c
  | str _ => exact plain c
  | tup _ => exact plain c
  | lst _ => exact plain c
  | ref _ => exact plain c
end
end Ev

set_option Elab.async false
set_option linter.all false
set_option maxRecDepth 100000
set_option maxHeartbeats 4000000
/-! EvK: a law's walk from its run. -/
namespace Ev
open PySem PySem.Spec PyProof.Rows L2
def tabs (gls : List (Str × D)) : List He.Tab := gls.filterMap fun p => match p.2 with
  | .dct kvs => some (fun K => He.ga K p.1, kvs.filterMap fun q => match q.1 with
    | .inr x => some x
    | .inl _ => none)
  | _ => none
def ClD.facts (c : ClD) : List He.Fa := [.glo c.name, .cls c.name, .mkr c.name] ++ (c.meths.map fun q => He.Fa.meth c.name (fnm q.1)) ++ c.na.map fun f => He.Fa.noat c.name (fnm f)
def Df.gloF (f : Df) : Option He.Fa := match f.cls with
  | none => some (.glo f.name)
  | some _ => none
def facts (dfs : List Df) (cl : List ClD) (bns : List Str) : List He.Fa := dfs.filterMap Df.gloF ++ (bns.map He.Fa.free ++ cl.flatMap ClD.facts)
def exB (gls : List (Str × D)) (K : PySem.W.Frag) : Bool := gls.all fun p => gvB K p.1 p.2
abbrev hookP (n : Nat) (dfs : List Df) (cl : List ClD) (gls : List (Str × D)) (bns : List Str) : PySem.W.Hook := He.hookX n (facts dfs cl bns) (dfs.map Df.d) (tabs gls) [] (exB gls)
def obsP (n : Nat) (dfs : List Df) (cl : List ClD) (gls : List (Str × D)) (bns : List Str) (s : PySem.W.SharedT) : He.AlX := He.obsX n (facts dfs cl bns) (dfs.map Df.d) (tabs gls) [] (exB gls) (HandSHeadRun.getT s)
theorem obsP_eq {n : Nat} {dfs : List Df} {cl : List ClD} {gls : List (Str × D)} {bns : List Str} (s : PySem.W.SharedT) : obsP n dfs cl gls bns s = (hookP n dfs cl gls bns).obs s.abs := He.obsX_eq (HandSHeadRun.getT_eq s)
theorem allc {α : Type} {P : α → Prop} {a : α} {l : List α} (h : P a) (t : ∀ f ∈ l, P f) : ∀ f ∈ a :: l, P f := fun f hf => by
  rcases List.mem_cons.mp hf with rfl | hf
  · exact h
  · exact t f hf
theorem walk_ev {l : PySem.W.OpenLaw} {n m k li fuel : Nat} {q : Program} {loose : List Str} {XP : (Str → Option Value) → Heap → Prop} {d : DefRec} {dfs : List Df} {cl : List ClD} {gls : List (Str × D)} {bns : List Str} {x : Str} {lf : Df}
    (hn : l.most = some n) (hn2 : n ≤ sizeLine) (hdf : d.params.defaults = []) (hr : Room (2 * k) callerA) (hli : dfs[li]? = some lf) (hlc : lf.cls = none) (hname : d.name = lf.name) (hps : lf.ps = [x])
    (hok : (dfs.all fun f => f.ok (gls.map (·.1)) (sig dfs) (ctOf cl) bns) = true) (hcl : (cl.all fun c => c.ok dfs) = true) (hb : ∀ f ∈ dfs, f.Bind)
    (hrun : ∀ ns : List Int, ns.length ≤ n → ∃ s', runF (dfs.map Df.fn) (gls.map (·.2)) fuel k li [.lst (ns.map D.int)] ⟨0, []⟩ = .ok (.bl true) s') :
    PySem.W.WalkO q loose XP (hookP m dfs cl gls bns).says l.row.toRowW d [] (fun f vs => PySem.call f vs) := by
  refine Att.attach_call hn hdf fun w s₀ s₁ mg mb fa o pm cd doc a vs ns G Y ho hd hcd hmg hobj hints hlen hg => ?_
  obtain ⟨K, KX, c⟩ := Y
  have NG := G.T.g
  have glo : ∀ f ∈ dfs, f.cls = none → mg f.name = some (.ref (He.fAd K f.at)) := fun f hf e => by
    have e1 : He.fAd K f.at = He.ga K f.name := by unfold Df.at; rw [e]; rfl
    rw [e1]
    exact He.glo_ok KX NG (c.t.d.facts (List.mem_append_left _ (List.mem_filterMap.mpr ⟨f, hf, by unfold Df.gloF; rw [e]⟩)))
  have free : ∀ y ∈ bns, mg y = none := fun y hy => He.free_ok KX NG (c.t.d.facts (List.mem_append_right _ (List.mem_append_left _ (List.mem_map.mpr ⟨y, hy, rfl⟩))))
  have defs : ∀ f ∈ dfs, ∃ fd, FunD K f.name f.qual f.params f.body f.scope [] [] (He.fAd K f.at) fd := fun f hf => c.t.d.defs (d := f.d) (List.mem_map.mpr ⟨f, hf, rfl⟩)
  have cfact : ∀ q ∈ cl, ∀ a ∈ q.facts, a.ok K = true := fun q hq a ha => c.t.d.facts (List.mem_append_right _ (List.mem_append_right _ (List.mem_flatMap.mpr ⟨q, hq, ha⟩)))
  have cat : ∀ (q : ClD) (C : Nat), (q, C) ∈ cl.zipIdx → q ∈ cl ∧ caOf K cl C = He.ga K q.name := fun q C h => by
    have e := List.mem_zipIdx_iff_getElem?.mp h
    exact ⟨List.mem_of_getElem? e, by unfold caOf; simp only [e]⟩
  have clok := List.all_eq_true.mp hcl
  have hP : PrOk K mg (caOf K cl) dfs (ctOf cl) := by
    refine ⟨defs, glo, fun C m f n h => ?_, fun y C f n h => ?_, fun C f h => ?_⟩
    · obtain ⟨⟨q, C'⟩, h1, h2⟩ := List.mem_flatMap.mp h
      obtain ⟨t, h3, h4⟩ := List.mem_map.mp h2
      obtain ⟨e1, e2, e3, e4⟩ : C' = C ∧ t.1 = m ∧ t.2.1 = f ∧ t.2.2 = n := by simpa using h4
      subst e1 e2 e3 e4
      obtain ⟨h5, h6⟩ := cat q C' h1
      rw [h6]
      have ok := clok q h5
      unfold ClD.ok at ok
      obtain ⟨g, g1, g2, g3⟩ := dfAt_is (List.all_eq_true.mp (and2 ok).2 t h3)
      refine ⟨He.cls_ok (cfact q h5 _ (by simp [ClD.facts])), g, g1, ?_, g3⟩
      rw [g2]
      exact He.meth_ok (cfact q h5 _ (List.mem_append_left _ (List.mem_append_right _ (List.mem_map.mpr ⟨t, h3, rfl⟩))))
    · obtain ⟨⟨q, C'⟩, h1, h2⟩ := List.mem_map.mp h
      obtain ⟨e1, e2, e3, e4⟩ : q.name = y ∧ C' = C ∧ q.init = f ∧ q.initN = n := by simpa using h2
      subst e1 e2 e3 e4
      obtain ⟨h5, h6⟩ := cat q C' h1
      rw [h6]
      have ok := clok q h5
      unfold ClD.ok at ok
      obtain ⟨g, g1, g2, g3⟩ := dfAt_is (and2 ok).1
      refine ⟨He.glo_ok KX NG (cfact q h5 _ (by simp [ClD.facts])), g, g1, ?_, g3⟩
      rw [g2]
      exact He.mkr_ok (cfact q h5 _ (by simp [ClD.facts]))
    · obtain ⟨⟨q, C'⟩, h1, h2⟩ := List.mem_flatMap.mp h
      obtain ⟨t, h3, h4⟩ := List.mem_map.mp h2
      obtain ⟨e1, e2⟩ : C' = C ∧ t = f := by simpa using h4
      subst e1 e2
      obtain ⟨h5, h6⟩ := cat q C' h1
      rw [h6]
      exact ⟨He.cls_ok (cfact q h5 _ (by simp [ClD.facts])), He.noat_ok (cfact q h5 _ (List.mem_append_right _ (List.mem_map.mpr ⟨t, h3, rfl⟩)))⟩
  have consts : ∀ (i : Nat) (y : Str), (gls.map (·.1))[i]? = some y → ∃ e, (gls.map (·.2))[i]? = some e ∧ GOk K w (caOf K cl) mg y e := fun i y hy => by
    rw [List.getElem?_map] at hy
    cases e : gls[i]? with
    | none => rw [e] at hy; cases hy
    | some p =>
      rw [e] at hy
      have hy : p.1 = y := Option.some.inj hy
      subst hy
      refine ⟨p.2, by rw [List.getElem?_map, e]; rfl, gvB_ok KX NG (List.all_eq_true.mp c.more p (List.mem_of_getElem? e)) fun kvs hk => ?_⟩
      have mem : (⟨fun K => He.ga K p.1, kvs.filterMap fun q => match q.1 with
        | .inr x => some x
        | .inl _ => none⟩ : He.Tab) ∈ tabs gls := List.mem_filterMap.mpr ⟨p, List.mem_of_getElem? e, by rw [hk]⟩
      obtain ⟨j, hj, ej⟩ := List.mem_iff_getElem.mp mem
      exact c.t.tab j (t := (tabs gls)[j]) (by rw [List.getElem?_eq_getElem hj]) |> fun z => by rw [ej] at z; exact z
  have hlf : lf ∈ dfs := List.mem_of_getElem? hli
  obtain ⟨fd, F⟩ := defs lf hlf
  have efa := glo lf hlf hlc
  rw [hname] at hmg
  rw [hmg] at efa
  have efa : fa = He.fAd K lf.at := by cases efa; rfl
  subst efa
  have fok : ∀ base : Heap, K.In base → base.Ns mainGlobals mg → FnG l.prog w K mg base (2 * k) (He.fAd K lf.at) fd [x] (spD ⟨K, w, caOf K cl⟩ 1 (runF (dfs.map Df.fn) (gls.map (·.2)) fuel k li)) := fun base _ _ => by
    have g := prog_ok (P := l.prog) (base := base) (fuel := fuel) (List.all_eq_true.mp hok) hP hb free consts k li lf hli fd F
    rw [hps] at g
    exact g
  exact law_run KX NG G.T.b G.T.builtins G.T.nolimit hg hobj hints (Nat.le_trans hlen hn2) hr fok (fun s u => by
    have := F.bindsA (ps := lf.ps) (hb lf hlf) s [u] (by rw [hps]; rfl)
    rw [hps] at this
    exact this) (hrun ns hlen)
end Ev

set_option Elab.async false
set_option linter.all false
set_option maxRecDepth 100000
set_option maxHeartbeats 4000000
/-! EvL: how a run is told; the laws' draws. -/
namespace Ev
open PySem L2
/-- m ends well, with Q -/
def wp {α : Type} (m : M α) (s : Sto) (Q : α → Sto → Prop) : Prop := ∃ a s', m s = .ok a s' ∧ Q a s'
section
variable {α β : Type} {s : Sto} {Q : α → Sto → Prop}
@[simp] theorem wp_ret {a : α} : wp (ret a) s Q ↔ Q a s := ⟨fun ⟨_, _, e, q⟩ => by cases e; exact q, fun q => ⟨a, s, rfl, q⟩⟩
@[simp] theorem wp_no : wp (no : M α) s Q ↔ False := ⟨fun ⟨_, _, e, _⟩ => by (cases e), False.elim⟩
@[simp] theorem wp_bnd {m : M β} {f : β → M α} : wp (bnd m f) s Q ↔ wp m s fun b s' => wp (f b) s' Q := by
  constructor
  · rintro ⟨a, s', e, q⟩
    unfold bnd at e
    cases r : m s with
    | ok b s1 => rw [r] at e; exact ⟨b, s1, r, a, s', e, q⟩
    | ex x s1 => rw [r] at e; cases e
    | no => rw [r] at e; cases e
  · rintro ⟨b, s1, r, a, s', e, q⟩
    exact ⟨a, s', by unfold bnd; rw [r]; exact e, q⟩
theorem wp.mono {m : M α} {Q' : α → Sto → Prop} (h : wp m s Q) (k : ∀ a s', Q a s' → Q' a s') : wp m s Q' := let ⟨a, s', e, q⟩ := h; ⟨a, s', e, k a s' q⟩
@[simp] theorem wp_opt {o : Option α} : wp (opt o) s Q ↔ ∃ a, o = some a ∧ Q a s := by
  cases o with
  | none => exact ⟨fun ⟨_, _, e, _⟩ => by (cases e), fun ⟨_, e, _⟩ => by (cases e)⟩
  | some a => exact ⟨fun ⟨_, _, e, q⟩ => by cases e; exact ⟨a, rfl, q⟩, fun ⟨_, e, q⟩ => by cases e; exact ⟨a, s, rfl, q⟩⟩
@[simp] theorem wp_ite {c : Prop} [Decidable c] {m n : M α} : wp (if c then m else n) s Q ↔ if c then wp m s Q else wp n s Q := by
  by_cases h : c
  · rw [if_pos h, if_pos h]
  · rw [if_neg h, if_neg h]
end
/-- how a row of statements ends -/
def Wn (r : RS) (N : En → Sto → Prop) (T : D → Sto → Prop) (B C : En → Sto → Prop) : Prop := match r with
  | .nx e s => N e s
  | .rt d s => T d s
  | .bk e s => B e s
  | .ct e s => C e s
  | _ => False
section
variable {fe : FE} {e : En} {s : Sto} {N : En → Sto → Prop} {T : D → Sto → Prop} {B C : En → Sto → Prop}
@[simp] theorem wn_thns {α : Type} {m : M α} {f : α → Sto → RS} : Wn (thns m f e s) N T B C ↔ wp m s fun a s' => Wn (f a s') N T B C := by
  unfold thns
  constructor
  · intro h
    cases r : m s with
    | ok a s1 => rw [r] at h; exact ⟨a, s1, r, h⟩
    | ex x s1 => rw [r] at h; exact h.elim
    | no => rw [r] at h; exact h.elim
  · rintro ⟨a, s1, r, h⟩
    rw [r]; exact h
@[simp] theorem wn_nx : Wn (.nx e s) N T B C ↔ N e s := Iff.rfl
@[simp] theorem wn_rt {d : D} : Wn (.rt d s) N T B C ↔ T d s := Iff.rfl
@[simp] theorem wn_bk : Wn (.bk e s) N T B C ↔ B e s := Iff.rfl
@[simp] theorem wn_ct : Wn (.ct e s) N T B C ↔ C e s := Iff.rfl
@[simp] theorem wn_nil : Wn (exs fe .nil e s) N T B C ↔ N e s := Iff.rfl
@[simp] theorem wn_cons {a : Sm} {r : Sms} : Wn (exs fe (.cons a r) e s) N T B C ↔ Wn (ex1 fe a e s) (fun e1 s1 => Wn (exs fe r e1 s1) N T B C) T B C := by
  simp only [exs]
  cases ex1 fe a e s <;> rfl
theorem wn_frz {i : Nat} {r : Sms} {e1 : En} (h : frzE e i = some e1) : Wn (exs fe (.frz i r) e s) N T B C ↔ Wn (exs fe r e1 s) N T B C := by
  simp only [exs, h]
@[simp] theorem wn_ite {c : Prop} [Decidable c] {a b : RS} : Wn (if c then a else b) N T B C ↔ if c then Wn a N T B C else Wn b N T B C := by
  by_cases h : c
  · rw [if_pos h, if_pos h]
  · rw [if_neg h, if_neg h]
theorem Wn.mono {r : RS} {N' : En → Sto → Prop} {T' : D → Sto → Prop} {B' C' : En → Sto → Prop} (h : Wn r N T B C) (hn : ∀ e s, N e s → N' e s) (ht : ∀ d s, T d s → T' d s) (hb : ∀ e s, B e s → B' e s) (hc : ∀ e s, C e s → C' e s) : Wn r N' T' B' C' := by
  cases r with
  | nx e s => exact hn e s h
  | rt d s => exact ht d s h
  | bk e s => exact hb e s h
  | ct e s => exact hc e s h
  | ex x e s => exact h
  | no => exact h
/-- a for, by an invariant over the rest -/
theorem wn_for {t : Tn} {body : MS} (I : List D → En → Sto → Prop) (hnil : ∀ e s, I [] e s → N e s)
    (hcons : ∀ x xs e s, I (x :: xs) e s → ∃ e1, t.set x e = some e1 ∧ Wn (body e1 s) (I xs) T N (I xs)) : ∀ {xs : List D} {e : En} {s : Sto}, I xs e s → Wn (forL t body xs e s) N T B C
  | [], e, s, h => hnil e s h
  | x :: xs, e, s, h => by
    obtain ⟨e1, h1, h2⟩ := hcons x xs e s h
    simp only [forL, h1]
    cases r : body e1 s with
    | nx e2 s2 => rw [r] at h2; exact wn_for I hnil hcons h2
    | ct e2 s2 => rw [r] at h2; exact wn_for I hnil hcons h2
    | bk e2 s2 => rw [r] at h2; exact h2
    | rt d s2 => rw [r] at h2; exact h2
    | ex x e2 s2 => rw [r] at h2; exact h2.elim
    | no => rw [r] at h2; exact h2.elim
theorem wp_run {fns : List Fn} {gl : List D} {fuel n i : Nat} {ds : List D} {fn : Fn} {Q : D → Sto → Prop} (h : fns[i]? = some fn) (hl : ds.length = fn.params)
    (k : Wn (exs ⟨runF fns gl fuel n, gl, fuel⟩ fn.body (startE fn.names ds) s) (fun _ s' => Q .non s') Q (fun _ _ => False) fun _ _ => False) : wp (runF fns gl fuel (n + 1) i ds) s Q := by
  have e : runF fns gl fuel (n + 1) i ds s = outS (exs ⟨runF fns gl fuel n, gl, fuel⟩ fn.body (startE fn.names ds) s) := by
    simp only [runF, h, if_pos hl]
  cases r : exs ⟨runF fns gl fuel n, gl, fuel⟩ fn.body (startE fn.names ds) s with
  | nx e1 s1 => rw [r] at e k; exact ⟨_, _, e, k⟩
  | rt d s1 => rw [r] at e k; exact ⟨_, _, e, k⟩
  | bk e1 s1 => rw [r] at k; exact k.elim
  | ct e1 s1 => rw [r] at k; exact k.elim
  | ex x e1 s1 => rw [r] at k; exact k.elim
  | no => rw [r] at k; exact k.elim
end
/-! ### the forms, one by one -/
section
variable {fe : FE} {e : En} {s : Sto}
@[simp] theorem ev_var {i : Nat} : ev fe (.var i) e = rdv e i := rfl
@[simp] theorem ev_cst {d : D} : ev fe (.cst d) e = ret d := rfl
@[simp] theorem ev_glb {i : Nat} : ev fe (.glb i) e = opt fe.gl[i]? := rfl
@[simp] theorem ev_tup {es : Exs} : ev fe (.tup es) e = bnd (evs fe es e) mkT := rfl
@[simp] theorem ev_lst {es : Exs} : ev fe (.lst es) e = bnd (evs fe es e) mkL := rfl
@[simp] theorem ev_nls {es : Exs} : ev fe (.nls es) e = bnd (evs fe es e) nlsM := rfl
@[simp] theorem ev_bin {o : BO} {a b : Ex} : ev fe (.bin o a b) e = bnd (pk a e (ev fe a e)) fun x => bnd (pk b e (ev fe b e)) fun y => opB o x y := rfl
@[simp] theorem ev_not {a : Ex} : ev fe (.not a) e = bnd (pk a e (ev fe a e)) fun x => bnd (truth x) fun t => ret (.bl (!t)) := rfl
@[simp] theorem ev_and {a b : Ex} : ev fe (.and a b) e = bnd (ev fe a e) fun x => bnd (truth x) fun t => if t = true then ev fe b e else ret x := rfl
@[simp] theorem ev_or {a b : Ex} : ev fe (.or a b) e = bnd (ev fe a e) fun x => bnd (truth x) fun t => if t = true then ret x else ev fe b e := rfl
@[simp] theorem ev_cmp {o : CO} {a b : Ex} : ev fe (.cmp o a b) e = bnd (pk a e (ev fe a e)) fun x => bnd (pk b e (ev fe b e)) fun y => opC o x y := rfl
@[simp] theorem ev_ite {c : Te} {a b : Ex} : ev fe (.ite c a b) e = bnd (evt fe c e) fun t => if t = true then ev fe a e else ev fe b e := rfl
@[simp] theorem ev_idx {a b : Ex} : ev fe (.idx a b) e = bnd (pk a e (ev fe a e)) fun x => bnd (ev fe b e) fun y => ixD x y := rfl
@[simp] theorem ev_slcL {a b : Ex} : ev fe (.slcL a b) e = bnd (pk a e (ev fe a e)) fun x => bnd (ev fe b e) fun l => bnd (asI l) fun i => slD x i none := rfl
@[simp] theorem ev_slcH {a b : Ex} : ev fe (.slcH a b) e = bnd (pk a e (ev fe a e)) fun x => bnd (ev fe b e) fun l => bnd (asI l) fun i => slD x none i := rfl
@[simp] theorem ev_slc {a b c : Ex} : ev fe (.slc a b c) e = bnd (pk a e (ev fe a e)) fun x => bnd (ev fe b e) fun l => bnd (asI l) fun i => bnd (ev fe c e) fun h => bnd (asI h) fun j => slD x i j := rfl
@[simp] theorem ev_call {f : Nat} {es : Exs} : ev fe (.call f es) e = bnd (evs fe es e) fun xs => fe.call f xs := rfl
@[simp] theorem ev_blt {b : BF} {es : Exs} : ev fe (.blt b es) e = bnd (evps fe es e) fun xs => blt b xs := rfl
@[simp] theorem ev_isi {t : TyN} {a : Ex} : ev fe (.isi t a) e = bnd (pk a e (ev fe a e)) fun x => bnd (isTy t x) fun b => ret (.bl b) := rfl
@[simp] theorem ev_mth {m : MF} {o : Ex} {es : Exs} : ev fe (.mth m o es) e = bnd (pk o e (ev fe o e)) fun x => bnd (rcv m x) fun _ => bnd (evs fe es e) fun xs => mth m x xs := rfl
@[simp] theorem ev_lc {own : List Nat} {t : Tn} {it : Wi} {c : Te} {el : Ex} : ev fe (.lc own t it c el) e = bnd (evi fe it e) fun xs => lcGo t (wipeE e own) (fun e' => evt fe c e') (fun e' => ev fe el e') xs [] := rfl
@[simp] theorem evs_nil : evs fe .nil e = ret [] := rfl
@[simp] theorem evs_cons {a : Ex} {r : Exs} : evs fe (.cons a r) e = bnd (ev fe a e) fun x => bnd (evs fe r e) fun xs => ret (x :: xs) := rfl
@[simp] theorem evps_nil : evps fe .nil e = ret [] := rfl
@[simp] theorem evps_cons {a : Ex} {r : Exs} : evps fe (.cons a r) e = bnd (pk a e (ev fe a e)) fun x => bnd (evps fe r e) fun xs => ret (x :: xs) := rfl
@[simp] theorem evt_yes : evt fe .yes e = ret true := rfl
@[simp] theorem evt_vl {x : Ex} : evt fe (.vl x) e = bnd (pk x e (ev fe x e)) truth := rfl
@[simp] theorem evt_not {a : Te} : evt fe (.not a) e = bnd (evt fe a e) fun t => ret (!t) := rfl
@[simp] theorem evt_and {a b : Te} : evt fe (.and a b) e = bnd (evt fe a e) fun t => if t = true then evt fe b e else ret false := rfl
@[simp] theorem evt_or {a b : Te} : evt fe (.or a b) e = bnd (evt fe a e) fun t => if t = true then ret true else evt fe b e := rfl
@[simp] theorem evt_ite {c a b : Te} : evt fe (.ite c a b) e = bnd (evt fe c e) fun t => if t = true then evt fe a e else evt fe b e := rfl
@[simp] theorem evi_seq {a : Ex} : evi fe (.seq a) e = bnd (ev fe a e) items := rfl
@[simp] theorem evi_rng {a : Ex} : evi fe (.rng a) e = bnd (pk a e (ev fe a e)) rng1 := rfl
@[simp] theorem evi_rng2 {a b : Ex} : evi fe (.rng2 a b) e = bnd (ev fe a e) fun x => bnd (ev fe b e) fun y => rng2 x y := rfl
@[simp] theorem evi_enu {a : Ex} : evi fe (.enu a) e = bnd (ev fe a e) enuD := rfl
@[simp] theorem evi_zip {a b : Ex} : evi fe (.zip a b) e = bnd (ev fe a e) fun x => bnd (ev fe b e) fun y => zipD x y := rfl
@[simp] theorem pk_var {i : Nat} {m : M D} : pk (.var i) e m = pkv e i := rfl
@[simp] theorem pk_cst {d : D} {m : M D} : pk (.cst d) e m = m := rfl
@[simp] theorem pk_glb {i : Nat} {m : M D} : pk (.glb i) e m = m := rfl
@[simp] theorem pk_tup {es : Exs} {m : M D} : pk (.tup es) e m = m := rfl
@[simp] theorem pk_lst {es : Exs} {m : M D} : pk (.lst es) e m = m := rfl
@[simp] theorem pk_bin {o : BO} {a b : Ex} {m : M D} : pk (.bin o a b) e m = m := rfl
@[simp] theorem pk_not {a : Ex} {m : M D} : pk (.not a) e m = m := rfl
@[simp] theorem pk_neg {a : Ex} {m : M D} : pk (.neg a) e m = m := rfl
@[simp] theorem pk_and {a b : Ex} {m : M D} : pk (.and a b) e m = m := rfl
@[simp] theorem pk_or {a b : Ex} {m : M D} : pk (.or a b) e m = m := rfl
@[simp] theorem pk_cmp {o : CO} {a b : Ex} {m : M D} : pk (.cmp o a b) e m = m := rfl
@[simp] theorem pk_chn {o p : CO} {a b c : Ex} {m : M D} : pk (.chn o p a b c) e m = m := rfl
@[simp] theorem pk_ite {c : Te} {a b : Ex} {m : M D} : pk (.ite c a b) e m = m := rfl
@[simp] theorem pk_idx {a b : Ex} {m : M D} : pk (.idx a b) e m = m := rfl
@[simp] theorem ev_rev {a : Ex} : ev fe (.rev a) e = bnd (pk a e (ev fe a e)) revD := rfl
@[simp] theorem ev_dsp {ks : List Key} {es : Exs} : ev fe (.dsp ks es) e = bnd (evs fe es e) fun xs => if ks.length = xs.length ∧ ks.length ≤ 15 then ret (.dct (mkD (ks.zip xs))) else no := rfl
@[simp] theorem pk_rev {a : Ex} {m : M D} : pk (.rev a) e m = m := rfl
@[simp] theorem pk_dsp {ks : List Key} {es : Exs} {m : M D} : pk (.dsp ks es) e m = m := rfl
@[simp] theorem pk_slcL {a b : Ex} {m : M D} : pk (.slcL a b) e m = m := rfl
@[simp] theorem pk_slcH {a b : Ex} {m : M D} : pk (.slcH a b) e m = m := rfl
@[simp] theorem pk_slc {a b c : Ex} {m : M D} : pk (.slc a b c) e m = m := rfl
@[simp] theorem pk_nls {es : Exs} {m : M D} : pk (.nls es) e m = m := rfl
@[simp] theorem pk_call {f : Nat} {es : Exs} {m : M D} : pk (.call f es) e m = m := rfl
@[simp] theorem pk_blt {b : BF} {es : Exs} {m : M D} : pk (.blt b es) e m = m := rfl
@[simp] theorem pk_isi {t : TyN} {a : Ex} {m : M D} : pk (.isi t a) e m = m := rfl
@[simp] theorem pk_mth {f : MF} {o : Ex} {es : Exs} {m : M D} : pk (.mth f o es) e m = m := rfl
@[simp] theorem pk_lc {own : List Nat} {t : Tn} {it : Wi} {c : Te} {el : Ex} {m : M D} : pk (.lc own t it c el) e m = m := rfl
@[simp] theorem at_zero {x : Sl} {r : En} : En.at (x :: r) 0 = x := rfl
@[simp] theorem at_succ {x : Sl} {r : En} {n : Nat} : En.at (x :: r) (n + 1) = En.at r n := rfl
@[simp] theorem set_zero {x y : Sl} {r : En} : En.set (x :: r) 0 y = y :: r := rfl
@[simp] theorem set_succ {x y : Sl} {r : En} {n : Nat} : En.set (x :: r) (n + 1) y = x :: En.set r n y := rfl
@[simp] theorem rdv_zero {d : D} {r : En} : rdv (.val d :: r) 0 = ret d := rfl
@[simp] theorem rdv_succ {x : Sl} {r : En} {n : Nat} : rdv (x :: r) (n + 1) = rdv r n := rfl
@[simp] theorem pkv_zero {d : D} {r : En} : pkv (.val d :: r) 0 = ret d := rfl
@[simp] theorem pkv_own {d : List D} {r : En} : pkv (.own d :: r) 0 = ret (.lst d) := rfl
@[simp] theorem pkv_succ {x : Sl} {r : En} {n : Nat} : pkv (x :: r) (n + 1) = pkv r n := rfl
theorem rdv_val {i : Nat} {d : D} (h : e.at i = .val d) : rdv e i = ret d := by unfold rdv; rw [h]
theorem pkv_val {i : Nat} {d : D} (h : e.at i = .val d) : pkv e i = ret d := by unfold pkv; rw [h]
@[simp] theorem x_asg {t : Tn} {x : Ex} : ex1 fe (.asg t x) e s = thns (ev fe x e) (fun d s1 => match t.set d e with
    | some e1 => .nx e1 s1
    | none => .no) e s := rfl
@[simp] theorem x_nm {i : Nat} {d : D} : Tn.set (.nm i) d e = some (e.set i (.val d)) := rfl
@[simp] theorem x_sti {o i v : Ex} : ex1 fe (.sti o i v) e s = thns (ev fe v e) (fun d s1 => thns (ev fe o e) (fun x s2 => thns (ev fe i e) (fun y s3 => thns (stiD x y d) (fun _ s4 => .nx e s4) e s3) e s2) e s1) e s := rfl
@[simp] theorem x_exp {x : Ex} : ex1 fe (.exp x) e s = thns (ev fe x e) (fun _ s1 => .nx e s1) e s := rfl
@[simp] theorem x_ret {x : Ex} : ex1 fe (.ret x) e s = thns (pk x e (ev fe x e)) (fun d s1 => .rt d s1) e s := rfl
@[simp] theorem x_retn : ex1 fe .retn e s = .rt .non s := rfl
@[simp] theorem x_ifs {c : Te} {a b : Sms} : ex1 fe (.ifs c a b) e s = thns (evt fe c e) (fun t s1 => if t = true then exs fe a e s1 else exs fe b e s1) e s := rfl
@[simp] theorem x_fr {t : Tn} {it : Wi} {b : Sms} : ex1 fe (.fr t it b) e s = thns (evi fe it e) (fun xs s1 => forL t (fun e' s' => exs fe b e' s') xs e s1) e s := rfl
@[simp] theorem x_pass : ex1 fe .pass e s = .nx e s := rfl
@[simp] theorem x_brk : ex1 fe .brk e s = .bk e s := rfl
@[simp] theorem x_cnt : ex1 fe .cnt e s = .ct e s := rfl
@[simp] theorem opB_add {i j : Int} : opB .add (.int i) (.int j) = ret (.int (i + j)) := rfl
@[simp] theorem opB_sub {i j : Int} : opB .sub (.int i) (.int j) = ret (.int (i - j)) := rfl
@[simp] theorem opB_mul {i j : Int} : opB .mul (.int i) (.int j) = if mulOk i j = true then ret (.int (i * j)) else no := rfl
@[simp] theorem opB_fdiv {i j : Int} : opB .fdiv (.int i) (.int j) = if 0 < j ∧ (j < 1073741824 ∨ j.natAbs.log2 < 9000) then ret (.int (i / j)) else no := rfl
@[simp] theorem opB_mod {i j : Int} : opB .mod (.int i) (.int j) = if 0 < j then ret (.int (i % j)) else no := rfl
@[simp] theorem opB_tup {xs ys : List D} : opB .add (.tup xs) (.tup ys) = mkT (xs ++ ys) := rfl
theorem opB_lst {xs ys : List D} : opB .add (.lst xs) (.lst ys) = mkL (xs ++ ys) := rfl
@[simp] theorem opC_lt {i j : Int} : opC .lt (.int i) (.int j) = ret (.bl (decide (i < j))) := rfl
@[simp] theorem opC_le {i j : Int} : opC .le (.int i) (.int j) = ret (.bl (decide (i ≤ j))) := rfl
@[simp] theorem opC_gt {i j : Int} : opC .gt (.int i) (.int j) = ret (.bl (decide (j < i))) := rfl
@[simp] theorem opC_ge {i j : Int} : opC .ge (.int i) (.int j) = ret (.bl (decide (j ≤ i))) := rfl
@[simp] theorem truth_bl {b : Bool} : truth (.bl b) = ret b := rfl
@[simp] theorem asI_int {i : Int} : asI (.int i) = ret (some i) := rfl
@[simp] theorem ix_lst {xs : List D} {i : Int} : ixD (.lst xs) (.int i) = opt (atI xs i) := rfl
@[simp] theorem ix_tup {xs : List D} {i : Int} : ixD (.tup xs) (.int i) = opt (atI xs i) := rfl
@[simp] theorem blt_int {i : Int} : blt .int [.int i] = ret (.int i) := rfl
@[simp] theorem blt_abs {i : Int} : blt .abs [.int i] = ret (.int (if i < 0 then -i else i)) := rfl
@[simp] theorem blt_len_lst {xs : List D} : blt .len [.lst xs] = ret (.int xs.length) := rfl
@[simp] theorem blt_len_tup {xs : List D} : blt .len [.tup xs] = ret (.int xs.length) := rfl
theorem ix_ref {n : Nat} {i : Int} {xs : List D} {Q : D → Sto → Prop} (h : s.get n = some (.lst xs)) : wp (ixD (.ref n) (.int i)) s Q ↔ ∃ d, atI xs i = some d ∧ Q d s := by
  have : ixD (.ref n) (.int i) s = opt (atI xs i) s := by
    show viaL n (ixL (.int i)) (ixK (.int i)) s = _
    unfold viaL
    rw [h]; rfl
  unfold wp
  rw [this]
  exact wp_opt
end
/-! ### the laws' draws -/
def fCup (n1 n2 n3 n4 n5 : Int) : Fn := ⟨2, 1, (.cons (.asg (.nm 1) (.blt .abs (.cons (.idx (.bin .add (.blt .list (.cons (.var 0) .nil)) (.cst (.lst [(.int 0)]))) (.cst (.int 0))) .nil))) (.cons (.ret (.nls (.cons (.ite (.vl (.cmp .ge (.var 1) (.bin .pow (.cst (.int 10)) (.cst (.int 18)))))
  (.bin .fdiv (.var 1) (.cst (.int n1))) (.cst (.int 0))) (.cons (.bin .add (.bin .mod (.blt .int (.cons (.bin .add (.bin .mul (.var 1) (.cst (.int n2))) (.cst (.int n3))) .nil)) (.cst (.int n4))) (.cst (.int n5))) .nil)))) .nil))⟩
def fRoll (n1 n2 n3 n4 n5 n6 : Int) : Fn := ⟨4, 2, (.cons (.ifs (.vl (.cmp .gt (.idx (.var 0) (.cst (.int 0))) (.cst (.int 0)))) (.cons (.asg (.nm 3) (.bin .mod (.blt .int (.cons (.idx (.var 0) (.cst (.int 0))) .nil)) (.var 1)))
  (.cons (.sti (.var 0) (.cst (.int 0)) (.bin .fdiv (.idx (.var 0) (.cst (.int 0))) (.var 1))) (.cons (.ret (.var 3)) .nil))) .nil)
  (.cons (.sti (.var 0) (.cst (.int 1)) (.bin .mod (.blt .int (.cons (.bin .add (.bin .mul (.idx (.var 0) (.cst (.int 1))) (.cst (.int n1))) (.cst (.int n2))) .nil)) (.cst (.int n3))))
  (.cons (.asg (.nm 2) (.bin .mod (.blt .int (.cons (.bin .mul (.idx (.var 0) (.cst (.int 1))) (.bin .add (.idx (.var 0) (.cst (.int 1))) (.cst (.int n4)))) .nil)) (.cst (.int n5))))
  (.cons (.ret (.bin .mod (.blt .int (.cons (.bin .fdiv (.var 2) (.cst (.int n6))) .nil)) (.var 1))) .nil))))⟩
def fSome (r : Nat) : Fn := ⟨2, 2, (.cons (.ret (.idx (.var 1) (.call r (.cons (.var 0) (.cons (.blt .len (.cons (.var 1) .nil)) .nil))))) .nil)⟩
/-- the cup stands in the store at c -/
def Cup (c : Nat) (s : Sto) : Prop := ∃ a b : Int, s.get c = some (.lst [.int a, .int b]) ∧ 0 ≤ a ∧ 0 ≤ b ∧ b < 4294967296
/-- all but the cup is as it was -/
def Fr (c : Nat) (s s' : Sto) : Prop := s'.nx = s.nx ∧ ∀ k, k ≠ c → s'.get k = s.get k
theorem Fr.refl {c : Nat} {s : Sto} : Fr c s s := ⟨rfl, fun _ _ => rfl⟩
theorem Fr.trans {c : Nat} {s t u : Sto} (a : Fr c s t) (b : Fr c t u) : Fr c s u := ⟨b.1.trans a.1, fun k h => (b.2 k h).trans (a.2 k h)⟩
theorem Fr.put {c : Nat} {s : Sto} {o : Ob} : Fr c s (s.put c o) := ⟨rfl, fun _ h => Sto.get_put_ne h⟩
theorem wp_ix0 {c : Nat} {s : Sto} {a b : D} (h : s.get c = some (.lst [a, b])) : ∀ Q, wp (ixD (.ref c) (.int 0)) s Q ↔ Q a s := fun Q => by
  rw [ix_ref h]
  exact ⟨fun ⟨d, e, q⟩ => by cases e; exact q, fun q => ⟨_, rfl, q⟩⟩
theorem wp_ix1 {c : Nat} {s : Sto} {a b : D} (h : s.get c = some (.lst [a, b])) : ∀ Q, wp (ixD (.ref c) (.int 1)) s Q ↔ Q b s := fun Q => by
  rw [ix_ref h]
  exact ⟨fun ⟨d, e, q⟩ => by cases e; exact q, fun q => ⟨_, rfl, q⟩⟩
theorem wp_sti {c : Nat} {s : Sto} {a b : D} (h : s.get c = some (.lst [a, b])) : (∀ d Q, wp (stiD (.ref c) (.int 0) d) s Q ↔ Q () (s.put c (.lst [d, b]))) ∧ ∀ d Q, wp (stiD (.ref c) (.int 1) d) s Q ↔ Q () (s.put c (.lst [a, d])) := by
  suffices g : ∀ (d : D) (Q : Unit → Sto → Prop), (wp (stiD (.ref c) (.int 0) d) s Q ↔ Q () (s.put c (.lst [d, b]))) ∧ (wp (stiD (.ref c) (.int 1) d) s Q ↔ Q () (s.put c (.lst [a, d]))) from ⟨fun d Q => (g d Q).1, fun d Q => (g d Q).2⟩
  intro d Q
  have e0 : stiD (.ref c) (.int 0) d s = .ok () (s.put c (.lst [d, b])) := by simp only [stiD, h]; rfl
  have e1 : stiD (.ref c) (.int 1) d s = .ok () (s.put c (.lst [a, d])) := by simp only [stiD, h]; rfl
  unfold wp
  rw [e0, e1]
  exact ⟨⟨fun ⟨_, _, e, q⟩ => by cases e; exact q, fun q => ⟨_, _, rfl, q⟩⟩, ⟨fun ⟨_, _, e, q⟩ => by cases e; exact q, fun q => ⟨_, _, rfl, q⟩⟩⟩
theorem roll_ok {fns : List Fn} {gl : List D} {fuel n i c : Nat} {n1 n2 n3 n4 n5 n6 many : Int} {s : Sto} (hf : fns[i]? = some (fRoll n1 n2 n3 n4 n5 n6)) (hc : Cup c s) (hm : 0 < many) (hm2 : many < 1073741824)
    (k1 : 0 < n1 ∧ n1 < 1073741824) (k2 : 0 ≤ n2) (k3 : 0 < n3 ∧ n3 < 4294967296) (k4 : 0 ≤ n4) (k5 : 0 < n5) (k6 : 0 < n6 ∧ n6 < 1073741824) :
    wp (runF fns gl fuel (n + 1) i [.ref c, .int many]) s fun d s' => (∃ r : Nat, d = .int r ∧ (r : Int) < many) ∧ Cup c s' ∧ Fr c s s' := by
  obtain ⟨a, b, hg, ha, hb, hb2⟩ := hc
  refine wp_run hf rfl ?_
  show Wn (exs _ (.cons _ _) [.val (.ref c), .val (.int many), .no, .no] s) _ _ _ _
  have m1 : mulOk b n1 = true := by
    unfold mulOk
    have h1 : n1 < 2 ^ 64 := by omega
    have h2 : -(2 ^ 64) < n1 := by omega
    simp; omega
  by_cases h0 : 0 < a
  · have hg' : (s.put c (.lst [.int (a / many), .int b])).get c = some (.lst [.int (a / many), .int b]) := Sto.get_put hg
    simp [wp_ix0 hg, h0, hm, hm2, (wp_sti hg).1]
    refine ⟨⟨(a % many).toNat, ?_, ?_⟩, ⟨a / many, b, hg', Int.ediv_nonneg ha (by omega), hb, hb2⟩, Fr.put⟩
    · have := Int.emod_nonneg a (show many ≠ 0 by omega); omega
    · have := Int.emod_lt_of_pos a hm; have := Int.emod_nonneg a (show many ≠ 0 by omega); omega
  · have hb3 : 0 ≤ (b * n1 + n2) % n3 := Int.emod_nonneg _ (by omega)
    have hb4 : (b * n1 + n2) % n3 < n3 := Int.emod_lt_of_pos _ k3.1
    generalize hy : (b * n1 + n2) % n3 = y at hb3 hb4
    have hg' : (s.put c (.lst [.int a, .int y])).get c = some (.lst [.int a, .int y]) := Sto.get_put hg
    have m2 : mulOk y (y + n4) = true := by
      unfold mulOk
      have h1 : y < 2 ^ 64 := by omega
      have h2 : -(2 ^ 64) < y := by omega
      simp; omega
    simp [wp_ix0 hg, wp_ix1 hg, h0, hm, hm2, m1, k3.1, hy, (wp_sti hg).2, wp_ix1 hg', m2, k5, k6.1, k6.2, wp_ite]
    refine ⟨⟨(y * (y + n4) % n5 / n6 % many).toNat, ?_, ?_⟩, ⟨a, y, hg', ha, hb3, by omega⟩, Fr.put⟩
    · have := Int.emod_nonneg (y * (y + n4) % n5 / n6) (show many ≠ 0 by omega); omega
    · have := Int.emod_lt_of_pos (y * (y + n4) % n5 / n6) hm; have := Int.emod_nonneg (y * (y + n4) % n5 / n6) (show many ≠ 0 by omega); omega
theorem wp_call {fns : List Fn} {gl : List D} {fuel n i : Nat} {ds : List D} {s : Sto} {Q : D → Sto → Prop} {P : D → Sto → Prop} (h : wp (runF fns gl fuel n i ds) s P) (k : ∀ d s', P d s' → Q d s') : wp (runF fns gl fuel n i ds) s Q := h.mono k
theorem atI_at {α : Type} {xs : List α} {r : Nat} (h : r < xs.length) : atI xs (r : Int) = some xs[r] := by
  unfold atI ixN
  rw [if_pos (by omega), if_pos (by omega)]
  simp [h]
/-- the numbers of a roll -/
structure RollK (n1 n2 n3 n4 n5 n6 : Int) : Prop where
  k1 : 0 < n1 ∧ n1 < 1073741824
  k2 : 0 ≤ n2
  k3 : 0 < n3 ∧ n3 < 4294967296
  k4 : 0 ≤ n4
  k5 : 0 < n5
  k6 : 0 < n6 ∧ n6 < 1073741824
/-- where a law's draws stand among its defs -/
structure Rolls (fns : List Fn) (r : Nat) : Prop where
  ex : ∃ n1 n2 n3 n4 n5 n6 : Int, fns[r]? = some (fRoll n1 n2 n3 n4 n5 n6) ∧ RollK n1 n2 n3 n4 n5 n6
section
variable {fns : List Fn} {gl : List D} {fuel n i r c : Nat} {s : Sto}
theorem Rolls.roll (h : Rolls fns r) {many : Int} (hc : Cup c s) (hm : 0 < many ∧ many < 1073741824) : wp (runF fns gl fuel (n + 1) r [.ref c, .int many]) s fun d s' => (∃ x : Nat, d = .int x ∧ (x : Int) < many) ∧ Cup c s' ∧ Fr c s s' := by
  obtain ⟨n1, n2, n3, n4, n5, n6, hf, k⟩ := h.ex
  exact roll_ok hf hc hm.1 hm.2 k.k1 k.k2 k.k3 k.k4 k.k5 k.k6
theorem Rolls.pick (h : Rolls fns r) (hi : fns[i]? = Option.some (fSome r)) {xs : List D} (hc : Cup c s) (hm : 0 < xs.length ∧ xs.length < 1073741824) : wp (runF fns gl fuel (n + 2) i [.ref c, .lst xs]) s fun d s' => d ∈ xs ∧ Cup c s' ∧ Fr c s s' := by
  refine wp_run hi rfl ?_
  show Wn (exs _ (.cons _ _) [.val (.ref c), .val (.lst xs)] s) _ _ _ _
  simp
  refine (h.roll (many := (xs.length : Int)) hc ⟨by omega, by omega⟩).mono fun d s' ⟨⟨x, e, hx⟩, h2, h3⟩ => ?_
  subst e
  have hx' : x < xs.length := by omega
  simp [atI_at hx', h2, h3]
theorem Rolls.pickT (h : Rolls fns r) (hi : fns[i]? = Option.some (fSome r)) {xs : List D} (hc : Cup c s) (hm : 0 < xs.length ∧ xs.length < 1073741824) : wp (runF fns gl fuel (n + 2) i [.ref c, .tup xs]) s fun d s' => d ∈ xs ∧ Cup c s' ∧ Fr c s s' := by
  refine wp_run hi rfl ?_
  show Wn (exs _ (.cons _ _) [.val (.ref c), .val (.tup xs)] s) _ _ _ _
  simp
  refine (h.roll (many := (xs.length : Int)) hc ⟨by omega, by omega⟩).mono fun d s' ⟨⟨x, e, hx⟩, h2, h3⟩ => ?_
  subst e
  have hx' : x < xs.length := by omega
  simp [atI_at hx', h2, h3]
end
@[simp] theorem blt_list_lst {xs : List D} : blt .list [.lst xs] = ret (.lst xs) := rfl
@[simp] theorem blt_list_tup {xs : List D} : blt .list [.tup xs] = ret (.lst xs) := rfl
@[simp] theorem opB_pow {i j : Int} : opB .pow (.int i) (.int j) = if 0 ≤ j ∧ j ≤ 1000000 ∧ i.natAbs < 18446744073709551616 then ret (.int (i ^ j.toNat)) else no := rfl
theorem wp_mkL {xs : List D} {s : Sto} {Q : D → Sto → Prop} (h : xs.length ≤ 1000000) : wp (mkL xs) s Q ↔ Q (.lst xs) s := by
  unfold mkL
  rw [if_pos (by rw [sizeLine_eq]; omega), wp_ret]
theorem wp_mkT {xs : List D} {s : Sto} {Q : D → Sto → Prop} (h : xs.length ≤ 1000000) : wp (mkT xs) s Q ↔ Q (.tup xs) s := by
  unfold mkT
  rw [if_pos (by rw [sizeLine_eq]; omega), wp_ret]
theorem wp_nls {xs : List D} {s : Sto} {Q : D → Sto → Prop} (h : xs.length ≤ 1000000) : wp (nlsM xs) s Q ↔ Q (.ref s.nx) (s.new (.lst xs)) := by
  have e : nlsM xs s = .ok (.ref s.nx) (s.new (.lst xs)) := by unfold nlsM; rw [if_pos (by rw [sizeLine_eq]; omega)]
  unfold wp
  rw [e]
  exact ⟨fun ⟨_, _, e, q⟩ => by cases e; exact q, fun q => ⟨_, _, rfl, q⟩⟩
theorem cup_ok {fns : List Fn} {gl : List D} {fuel n i : Nat} {n1 n2 n3 n4 n5 : Int} {s : Sto} {ns : List Int} (hf : fns[i]? = some (fCup n1 n2 n3 n4 n5)) (k1 : 0 < n1 ∧ n1 < 1073741824) (k2 : 0 < n2 ∧ n2 < 1073741824) (k3 : 0 < n4 ∧ n4 < 2147483648) (k4 : 0 ≤ n5 ∧ n5 < 2147483648)
    (hl : ns.length ≤ 63) : wp (runF fns gl fuel (n + 1) i [.lst (ns.map .int)]) s fun d s' => d = .ref s.nx ∧ Cup s.nx s' ∧ s'.nx = s.nx + 1 ∧ ∀ k, k ≠ s.nx → s'.get k = s.get k := by
  refine wp_run hf rfl ?_
  show Wn (exs _ (.cons _ _) [.val (.lst (ns.map .int)), .no] s) _ _ _ _
  have hl2 : (ns.map D.int ++ [D.int 0]).length ≤ 1000000 := by simp; omega
  have h0 : ∃ x, atI (ns.map D.int ++ [D.int 0]) 0 = some (.int x) := by
    cases ns with
    | nil => exact ⟨0, rfl⟩
    | cons x r => exact ⟨x, atI_at (xs := (x :: r).map D.int ++ [D.int 0]) (r := 0) (by simp)⟩
  obtain ⟨x, hx⟩ := h0
  simp [opB_lst, wp_mkL hl2, hx]
  generalize hy : (if x < 0 then -x else x) = y
  have hy0 : 0 ≤ y := by rw [← hy]; split <;> omega
  have m1 : mulOk y n2 = true := by unfold mulOk; simp; omega
  have e0 : 0 ≤ (y * n2 + n3) % n4 := Int.emod_nonneg _ (by omega)
  have e1 : (y * n2 + n3) % n4 < n4 := Int.emod_lt_of_pos _ k3.1
  have fin : ∀ z : Int, 0 ≤ z → (D.ref s.nx = D.ref s.nx ∧ Cup s.nx (s.new (.lst [.int z, .int ((y * n2 + n3) % n4 + n5)])) ∧ (s.new (.lst [.int z, .int ((y * n2 + n3) % n4 + n5)])).nx = s.nx + 1 ∧ ∀ k, k ≠ s.nx → (s.new (.lst [.int z, .int ((y * n2 + n3) % n4 + n5)])).get k = s.get k) :=
    fun z hz => ⟨rfl, ⟨z, _, Sto.get_new, hz, by omega, by omega⟩, rfl, fun k hk => Sto.get_new_ne hk⟩
  by_cases h18 : (1000000000000000000 : Int) ≤ y
  · simp [h18, k1.1, k1.2, m1, k3.1, wp_nls]
    simpa using (fin (y / n1) (Int.ediv_nonneg hy0 (by omega))).2
  · simp [h18, k1.1, k1.2, m1, k3.1, wp_nls]
    simpa using (fin 0 (by omega)).2
end Ev

set_option Elab.async false
set_option linter.all false
set_option maxRecDepth 100000
set_option maxHeartbeats 4000000
/-! EvM: more forms: equality, membership, repr, slices. -/
namespace Ev
open PySem L2
section
variable {s : Sto}
/-- a value without places of the store -/
theorem eqD_of {a b : D} {p q : PyData} (ha : pyv a s = some p) (hb : pyv b s = some q) (h : min p.depth q.depth ≤ 100) : eqD a b s = .ok (PyData.eqv p q) s := by
  unfold eqD
  rw [ha, hb]
  dsimp only
  rw [if_pos h]
theorem wp_eq {a b : D} {p q : PyData} {Q : D → Sto → Prop} (ha : pyv a s = some p) (hb : pyv b s = some q) (h : min p.depth q.depth ≤ 100) : wp (opC .eq a b) s Q ↔ Q (.bl (PyData.eqv p q)) s := by
  have e : opC .eq a b s = .ok (.bl (PyData.eqv p q)) s := by
    show bnd (eqD a b) (fun t => ret (D.bl t)) s = _
    unfold bnd
    rw [eqD_of ha hb h]; rfl
  unfold wp
  rw [e]
  exact ⟨fun ⟨_, _, e, q⟩ => by cases e; exact q, fun q => ⟨_, _, rfl, q⟩⟩
theorem wp_ne {a b : D} {p q : PyData} {Q : D → Sto → Prop} (ha : pyv a s = some p) (hb : pyv b s = some q) (h : min p.depth q.depth ≤ 100) : wp (opC .ne a b) s Q ↔ Q (.bl (!PyData.eqv p q)) s := by
  have e : opC .ne a b s = .ok (.bl (!PyData.eqv p q)) s := by
    show bnd (eqD a b) (fun t => ret (D.bl (!t))) s = _
    unfold bnd
    rw [eqD_of ha hb h]; rfl
  unfold wp
  rw [e]
  exact ⟨fun ⟨_, _, e, q⟩ => by cases e; exact q, fun q => ⟨_, _, rfl, q⟩⟩
@[simp] theorem eq_str {x y : Str} {Q : D → Sto → Prop} : wp (opC .eq (.str x) (.str y)) s Q ↔ Q (.bl (decide (x = y))) s := wp_eq (p := .str x) (q := .str y) rfl rfl (by simp [PyData.depth]) |>.trans (by simp [PyData.eqv]; exact Iff.rfl)
@[simp] theorem ne_str {x y : Str} {Q : D → Sto → Prop} : wp (opC .ne (.str x) (.str y)) s Q ↔ Q (.bl (!decide (x = y))) s := wp_ne (p := .str x) (q := .str y) rfl rfl (by simp [PyData.depth]) |>.trans (by simp [PyData.eqv]; exact Iff.rfl)
@[simp] theorem eq_int {x y : Int} {Q : D → Sto → Prop} : wp (opC .eq (.int x) (.int y)) s Q ↔ Q (.bl (decide (x = y))) s := wp_eq (p := .int x) (q := .int y) rfl rfl (by simp [PyData.depth]) |>.trans (by simp [PyData.eqv]; exact Iff.rfl)
@[simp] theorem ne_int {x y : Int} {Q : D → Sto → Prop} : wp (opC .ne (.int x) (.int y)) s Q ↔ Q (.bl (!decide (x = y))) s := wp_ne (p := .int x) (q := .int y) rfl rfl (by simp [PyData.depth]) |>.trans (by simp [PyData.eqv]; exact Iff.rfl)
@[simp] theorem ty_non {t : TyN} : isTy t .non = ret false := rfl
@[simp] theorem ty_bl {t : TyN} {b : Bool} : isTy t (.bl b) = ret (t == .bool || t == .int) := rfl
@[simp] theorem ty_int {t : TyN} {b : Int} : isTy t (.int b) = ret (t == .int) := rfl
@[simp] theorem ty_str {t : TyN} {b : Str} : isTy t (.str b) = ret (t == .str) := rfl
@[simp] theorem ty_tup {t : TyN} {b : List D} : isTy t (.tup b) = ret (t == .tuple) := rfl
@[simp] theorem ty_lst {t : TyN} {b : List D} : isTy t (.lst b) = ret (t == .list) := rfl
@[simp] theorem at_0 {α : Type} {x : α} {r : List α} : atI (x :: r) 0 = some x := atI_at (xs := x :: r) (r := 0) (by simp)
@[simp] theorem at_1 {α : Type} {x y : α} {r : List α} : atI (x :: y :: r) 1 = some y := atI_at (xs := x :: y :: r) (r := 1) (by simp)
@[simp] theorem at_2 {α : Type} {x y z : α} {r : List α} : atI (x :: y :: z :: r) 2 = some z := atI_at (xs := x :: y :: z :: r) (r := 2) (by simp)
@[simp] theorem at_3 {α : Type} {x y z u : α} {r : List α} : atI (x :: y :: z :: u :: r) 3 = some u := atI_at (xs := x :: y :: z :: u :: r) (r := 3) (by simp)
/-- x in a tuple, a list -/
theorem wp_in {a : D} {ys : List D} {p : PyData} {qs : List PyData} {Q : D → Sto → Prop} (ha : py a = some p) (hb : pys ys = some qs) (h : min (PyData.depthAll qs) p.depth ≤ 100) : wp (opC .isin a (.tup ys)) s Q ↔ Q (.bl (qs.any fun y => PyData.eqv y p)) s := by
  have e : opC .isin a (.tup ys) s = .ok (.bl (qs.any fun y => PyData.eqv y p)) s := by
    show bnd (isinD a (.tup ys)) (fun t => ret (D.bl t)) s = _
    have : isinD a (.tup ys) = inSq a ys := by cases a <;> rfl
    rw [this]
    unfold inSq bnd
    rw [ha, hb]
    dsimp only
    rw [if_pos h]; rfl
  unfold wp
  rw [e]
  exact ⟨fun ⟨_, _, e, q⟩ => by cases e; exact q, fun q => ⟨_, _, rfl, q⟩⟩
theorem wp_inL {a : D} {ys : List D} {p : PyData} {qs : List PyData} {Q : D → Sto → Prop} (ha : py a = some p) (hb : pys ys = some qs) (h : min (PyData.depthAll qs) p.depth ≤ 100) : wp (opC .isin a (.lst ys)) s Q ↔ Q (.bl (qs.any fun y => PyData.eqv y p)) s := by
  have e : opC .isin a (.lst ys) s = .ok (.bl (qs.any fun y => PyData.eqv y p)) s := by
    show bnd (isinD a (.lst ys)) (fun t => ret (D.bl t)) s = _
    have : isinD a (.lst ys) = inSq a ys := by cases a <;> rfl
    rw [this]
    unfold inSq bnd
    rw [ha, hb]
    dsimp only
    rw [if_pos h]; rfl
  unfold wp
  rw [e]
  exact ⟨fun ⟨_, _, e, q⟩ => by cases e; exact q, fun q => ⟨_, _, rfl, q⟩⟩
theorem wp_repr {d : D} {p : PyData} {Q : D → Sto → Prop} (h : pyv d s = some p) (ok : showOk p = true) : wp (blt .repr [d]) s Q ↔ Q (.str p.shown) s := by
  have e : blt .repr [d] s = .ok (.str p.shown) s := by
    show reprD d s = _
    unfold reprD
    rw [h]
    dsimp only
    rw [if_pos ok]
  unfold wp
  rw [e]
  exact ⟨fun ⟨_, _, e, q⟩ => by cases e; exact q, fun q => ⟨_, _, rfl, q⟩⟩
@[simp] theorem repr_bl {b : Bool} {Q : D → Sto → Prop} : wp (blt .repr [.bl b]) s Q ↔ Q (.str (PyData.bool b).shown) s := wp_repr rfl (by cases b <;> rfl)
theorem shown_bl {a b : Bool} : (PyData.bool a).shown = (PyData.bool b).shown ↔ a = b := by
  cases a <;> cases b <;> simp [PyData.shown] <;> decide
@[simp] theorem truth_int {i : Int} : truth (.int i) = ret (i != 0) := rfl
@[simp] theorem truth_non : truth .non = ret false := rfl
@[simp] theorem truth_tup {xs : List D} : truth (.tup xs) = ret (!xs.isEmpty) := rfl
@[simp] theorem truth_lst {xs : List D} : truth (.lst xs) = ret (!xs.isEmpty) := rfl
@[simp] theorem items_lst {xs : List D} {Q : List D → Sto → Prop} : wp (items (.lst xs)) s Q ↔ Q xs s := ⟨fun ⟨_, _, e, q⟩ => by cases e; exact q, fun q => ⟨_, _, rfl, q⟩⟩
@[simp] theorem items_tup {xs : List D} {Q : List D → Sto → Prop} : wp (items (.tup xs)) s Q ↔ Q xs s := ⟨fun ⟨_, _, e, q⟩ => by cases e; exact q, fun q => ⟨_, _, rfl, q⟩⟩
theorem rng_ok {j : Int} {Q : List D → Sto → Prop} (h : -(2 ^ 62) ≤ j ∧ j < 2 ^ 62) : wp (rng1 (.int j)) s Q ↔ Q ((List.range j.toNat).map fun (i : Nat) => .int i) s := by
  have e : rng1 (.int j) s = .ok ((List.range j.toNat).map fun (i : Nat) => .int i) s := by
    show rngD 0 j s = _
    unfold rngD
    rw [if_pos ⟨by omega, by omega, h.1, h.2⟩]
    show R.ok _ _ = _
    simp
  unfold wp
  rw [e]
  exact ⟨fun ⟨_, _, e, q⟩ => by cases e; exact q, fun q => ⟨_, _, rfl, q⟩⟩
/-- a comprehension, by what each item gives -/
theorem wp_lcL {t : Tn} {e : En} {c : En → M Bool} {el : En → M D} {Q : List D → Sto → Prop} {P : List D → List D → Sto → Prop} (h0 : ∀ acc s, P [] acc s → Q acc s)
    (h1 : ∀ x xs acc s, P (x :: xs) acc s → ∃ e', t.set x e = some e' ∧ wp (c e') s fun b s1 => if b = true then wp (el e') s1 fun d s2 => acc.length < sizeLine ∧ P xs (acc ++ [d]) s2 else P xs acc s1) :
    ∀ {xs acc : List D} {s : Sto}, P xs acc s → wp (lcL t e c el xs acc) s Q
  | [], acc, s, h => wp_ret.mpr (h0 acc s h)
  | x :: xs, acc, s, h => by
    obtain ⟨e', he, b, s1, hc, hb⟩ := h1 x xs acc s h
    unfold lcL
    rw [he]
    have n1 : nox (c e') s = .ok b s1 := by unfold nox; rw [hc]
    rw [wp_bnd]
    refine ⟨b, s1, n1, ?_⟩
    cases b with
    | false => simpa using wp_lcL h0 h1 hb
    | true =>
      obtain ⟨d, s2, hd, hl, hp⟩ := hb
      have n2 : nox (el e') s1 = .ok d s2 := by unfold nox; rw [hd]
      simp only [if_true]
      rw [wp_bnd]
      refine ⟨d, s2, n2, ?_⟩
      show wp (if acc.length < sizeLine then lcL t e c el xs (acc ++ [d]) else no) s2 Q
      rw [if_pos hl]
      exact wp_lcL h0 h1 hp
theorem wp_lc {t : Tn} {e : En} {c : En → M Bool} {el : En → M D} {Q : D → Sto → Prop} {P : List D → List D → Sto → Prop} (h0 : ∀ acc s, P [] acc s → Q (.lst acc) s)
    (h1 : ∀ x xs acc s, P (x :: xs) acc s → ∃ e', t.set x e = some e' ∧ wp (c e') s fun b s1 => if b = true then wp (el e') s1 fun d s2 => acc.length < sizeLine ∧ P xs (acc ++ [d]) s2 else P xs acc s1)
    {xs acc : List D} {s : Sto} (h : P xs acc s) : wp (lcGo t e c el xs acc) s Q := by
  unfold lcGo
  rw [wp_bnd]
  exact (wp_lcL (Q := fun acc s => Q (.lst acc) s) h0 h1 h).mono fun ys s' q => wp_ret.mpr q
/-- .. that draws nothing: the items kept, and what they give -/
theorem wp_lcf {t : Tn} {e : En} {c : En → M Bool} {el : En → M D} {s : Sto} {Q : D → Sto → Prop} {xs : List D} (f : D → Bool) (g : D → D) (hl : xs.length ≤ 1000000)
    (h : ∀ x ∈ xs, ∃ e', t.set x e = some e' ∧ wp (c e') s fun b s1 => s1 = s ∧ b = f x ∧ (b = true → wp (el e') s fun d s2 => s2 = s ∧ d = g x)) (hq : Q (.lst ((xs.filter f).map g)) s) : wp (lcGo t e c el xs []) s Q := by
  refine wp_lc (P := fun ys acc s' => s' = s ∧ (∀ y ∈ ys, y ∈ xs) ∧ acc.length + ys.length ≤ 1000000 ∧ acc ++ (ys.filter f).map g = (xs.filter f).map g) ?_ ?_ ⟨rfl, fun _ h => h, by simpa using hl, rfl⟩
  · rintro acc _ ⟨rfl, _, _, e⟩
    simp only [List.filter_nil, List.map_nil, List.append_nil] at e
    rw [e]; exact hq
  · rintro x ys acc _ ⟨rfl, hy, hz, e⟩
    obtain ⟨e', he, b, s1, hc, rfl, hb, hd⟩ := h x (hy x List.mem_cons_self)
    refine ⟨e', he, b, _, hc, ?_⟩
    have hz' : acc.length + (ys.length + 1) ≤ 1000000 := hz
    cases b with
    | false =>
      rw [List.filter_cons_of_neg (by rw [← hb]; simp)] at e
      exact ⟨rfl, fun y h => hy y (List.mem_cons_of_mem _ h), by omega, e⟩
    | true =>
      obtain ⟨d, s2, h2, rfl, rfl⟩ := hd rfl
      rw [List.filter_cons_of_pos (by rw [← hb]), List.map_cons] at e
      exact ⟨g x, _, h2, by rw [sizeLine_eq]; omega, rfl, fun y h => hy y (List.mem_cons_of_mem _ h), by rw [List.length_append, List.length_singleton]; omega, by rw [List.append_assoc]; exact e⟩
theorem pys_some : ∀ {xs : List D}, (∀ x ∈ xs, ∃ p, py x = some p) → ∃ ps, pys xs = some ps ∧ ps.length = xs.length
  | [], _ => ⟨[], rfl, rfl⟩
  | x :: xs, h => by
    obtain ⟨p, hp⟩ := h x List.mem_cons_self
    obtain ⟨ps, h1, h2⟩ := pys_some fun y hy => h y (List.mem_cons_of_mem _ hy)
    exact ⟨p :: ps, by simp [pys, hp, h1], by simp [h2]⟩
theorem eq_nil {xs : List D} {Q : D → Sto → Prop} (h : ∀ x ∈ xs, ∃ p, py x = some p) : wp (opC .eq (.lst xs) (.lst [])) s Q ↔ Q (.bl xs.isEmpty) s := by
  obtain ⟨ps, h1, h2⟩ := pys_some h
  rw [wp_eq (p := .list ps) (q := .list []) (by simp [pyv, py, h1]) rfl (by simp only [PyData.depth, PyData.depthAll]; omega)]
  cases ps <;> cases xs <;> simp_all [PyData.eqv, PyData.eqvAll]
theorem ne_nil {xs : List D} {Q : D → Sto → Prop} (h : ∀ x ∈ xs, ∃ p, py x = some p) : wp (opC .ne (.lst xs) (.lst [])) s Q ↔ Q (.bl (!xs.isEmpty)) s := by
  obtain ⟨ps, h1, h2⟩ := pys_some h
  rw [wp_ne (p := .list ps) (q := .list []) (by simp [pyv, py, h1]) rfl (by simp only [PyData.depth, PyData.depthAll]; omega)]
  cases ps <;> cases xs <;> simp_all [PyData.eqv, PyData.eqvAll]
end
end Ev

set_option Elab.async false
set_option linter.all false
set_option maxRecDepth 100000
set_option maxHeartbeats 4000000
/-! EvN: texts as lists of signs. -/
namespace Ev
open PySem L2
def cl (x : Str) : List Nat := x.cps.toList
theorem cl_ext {x y : Str} (h : cl x = cl y) : x = y := by
  obtain ⟨⟨a⟩⟩ := x
  obtain ⟨⟨b⟩⟩ := y
  exact congrArg (fun l => (⟨⟨l⟩⟩ : Str)) h
theorem cl_mk {l : List Nat} : cl ⟨l.toArray⟩ = l := rfl
theorem cl_app {x y : Str} : cl (x ++ y) = cl x ++ cl y := by
  show (x.cps ++ y.cps).toList = _
  rw [Array.toList_append]; rfl
theorem cl_len {x : Str} : (cl x).length = x.length := rfl
theorem len_app {x y : Str} : (x ++ y).length = x.length + y.length := by rw [← cl_len, ← cl_len, ← cl_len, cl_app, List.length_append]
theorem cl_join : ∀ ys : List Str, cl (Str.join "" ys) = (ys.map cl).flatten
  | [] => rfl
  | [x] => by simp [Str.join]
  | x :: y :: r => by
    show cl (x ++ ("" : Str) ++ Str.join "" (y :: r)) = _
    rw [cl_app, cl_app, cl_join (y :: r)]
    have : cl (Str.ofString "") = [] := rfl
    simp [this]
theorem cl_rep {x : Str} {n : Nat} : cl (repS x n) = (List.replicate n (cl x)).flatten := rfl
theorem len_rep {x : Str} (n : Nat) : (repS x n).length = n * x.length := by
  rw [← cl_len, cl_rep]
  induction n with
  | zero => rw [Nat.zero_mul]; rfl
  | succ n ih => rw [List.replicate_succ, List.flatten_cons, List.length_append, ih, cl_len, Nat.succ_mul, Nat.add_comm]
theorem all_rep {x : Str} {p : Nat → Bool} (h : (cl x).all p = true) (n : Nat) : (cl (repS x n)).all p = true := by
  rw [cl_rep]
  induction n with
  | zero => rfl
  | succ n ih => rw [List.replicate_succ, List.flatten_cons, List.all_append, h, ih]; rfl
theorem strsD_map : ∀ {ys : List Str}, strsD (ys.map D.str) = some ys
  | [] => rfl
  | y :: ys => by simp [strsD, strsD_map (ys := ys)]
theorem intsD_map : ∀ {ys : List Int}, intsD (ys.map D.int) = some ys
  | [] => rfl
  | y :: ys => by simp [intsD, intsD_map (ys := ys)]
theorem blsD_map : ∀ {ys : List Bool}, blsD (ys.map D.bl) = some ys
  | [] => rfl
  | y :: ys => by simp [blsD, blsD_map (ys := ys)]
section
variable {s : Sto}
theorem blt_len_str {x : Str} : blt .len [.str x] = if x.length ≤ sizeLine then ret (.int x.length) else no := rfl
theorem wp_len_str {x : Str} {Q : D → Sto → Prop} (h : x.length ≤ 1000000) : wp (blt .len [.str x]) s Q ↔ Q (.int x.length) s := by
  rw [blt_len_str, if_pos (by rw [sizeLine_eq]; omega), wp_ret]
theorem wp_all {bs : List Bool} {Q : D → Sto → Prop} : wp (blt .all [.lst (bs.map D.bl)]) s Q ↔ Q (.bl (bs.all id)) s := by
  have e : blt .all [.lst (bs.map D.bl)] = ret (.bl (bs.all id)) := by
    show allL (bs.map D.bl) = _
    unfold allL
    rw [blsD_map]
  rw [e, wp_ret]
theorem wp_any {bs : List Bool} {Q : D → Sto → Prop} : wp (blt .any [.lst (bs.map D.bl)]) s Q ↔ Q (.bl (bs.any id)) s := by
  have e : blt .any [.lst (bs.map D.bl)] = ret (.bl (bs.any id)) := by
    show anyL (bs.map D.bl) = _
    unfold anyL
    rw [blsD_map]
  rw [e, wp_ret]
theorem wp_sum {ns : List Int} {Q : D → Sto → Prop} : wp (blt .sum [.lst (ns.map D.int)]) s Q ↔ Q (.int ns.sum) s := by
  have e : blt .sum [.lst (ns.map D.int)] = ret (.int ns.sum) := by
    show sumL (ns.map D.int) = _
    unfold sumL
    rw [intsD_map]
  rw [e, wp_ret]
theorem wp_join {a : Str} {ys : List Str} {Q : D → Sto → Prop} (h : (ys.map (·.length)).sum + ys.length * a.length ≤ 16777216) : wp (mth .join (.str a) [.lst (ys.map D.str)]) s Q ↔ Q (.str (Str.join a ys)) s := by
  have e : mth .join (.str a) [.lst (ys.map D.str)] = ret (.str (Str.join a ys)) := by
    show joinL a (ys.map D.str) = _
    unfold joinL
    rw [strsD_map]
    dsimp only
    rw [if_pos h]
  rw [e, wp_ret]
@[simp] theorem rcv_join {a : Str} : rcv .join (.str a) = ret () := rfl
@[simp] theorem rcv_upper {a : Str} : rcv .upper (.str a) = ret () := rfl
theorem wp_add_str {x y : Str} {Q : D → Sto → Prop} (h : x.length + y.length ≤ 1000000) : wp (opB .add (.str x) (.str y)) s Q ↔ Q (.str (x ++ y)) s := by
  have e : opB .add (.str x) (.str y) = if x.length + y.length ≤ sizeLine then ret (.str (x ++ y)) else no := rfl
  rw [e, if_pos (by rw [sizeLine_eq]; omega), wp_ret]
theorem wp_rep_str {x : Str} {n : Int} {Q : D → Sto → Prop} (h0 : 0 ≤ n ∧ n ≤ 1000000) (h : x.length * n.toNat ≤ 1000000) : wp (opB .mul (.str x) (.int n)) s Q ↔ Q (.str (repS x n.toNat)) s := by
  have e : opB .mul (.str x) (.int n) = if 0 ≤ n ∧ n ≤ 1000000 ∧ x.length * n.toNat ≤ 1000000 then ret (.str (repS x n.toNat)) else no := rfl
  rw [e, if_pos ⟨h0.1, h0.2, h⟩, wp_ret]
@[simp] theorem items_str {x : Str} {Q : List D → Sto → Prop} : wp (items (.str x)) s Q ↔ Q ((cl x).map fun c => .str ⟨#[c]⟩) s := ⟨fun ⟨_, _, e, q⟩ => by cases e; exact q, fun q => ⟨_, _, rfl, q⟩⟩
@[simp] theorem le_str {x y : Str} : opC .le (.str x) (.str y) = ret (.bl (!decide (cl y < cl x))) := rfl
@[simp] theorem is_bl {a b : Bool} : opC .is (.bl a) (.bl b) = ret (.bl (a == b)) := rfl
@[simp] theorem isn_bl {a b : Bool} : opC .isn (.bl a) (.bl b) = ret (.bl (!(a == b))) := rfl
@[simp] theorem is_non {a : D} : opC .is a .non = bnd (opt (isD a .non)) fun t => ret (.bl t) := rfl
@[simp] theorem isn_non {a : D} : opC .isn a .non = bnd (opt (isD a .non)) fun t => ret (.bl (!t)) := rfl
@[simp] theorem ev_chn {fe : FE} {e : En} {o p : CO} {a b c : Ex} : ev fe (.chn o p a b c) e = bnd (ev fe a e) fun x => bnd (ev fe b e) fun y => bnd (opC o x y) fun z => match z with
    | .bl t => if t = true then bnd (ev fe c e) fun w => opC p y w else ret (.bl false)
    | _ => no := rfl
@[simp] theorem ev_neg {fe : FE} {e : En} {a : Ex} : ev fe (.neg a) e = bnd (ev fe a e) fun x => match x with
    | .int i => ret (.int (-i))
    | _ => no := rfl
@[simp] theorem min_int {i j : Int} : blt .min [.int i, .int j] = ret (.int (if j < i then j else i)) := rfl
@[simp] theorem max_int {i j : Int} : blt .max [.int i, .int j] = ret (.int (if j > i then j else i)) := rfl
@[simp] theorem blt_tuple_lst {xs : List D} : blt .tuple [.lst xs] = ret (.tup xs) := rfl
@[simp] theorem blt_tuple_tup {xs : List D} : blt .tuple [.tup xs] = ret (.tup xs) := rfl
@[simp] theorem blt_str_str {x : Str} : blt .str [.str x] = ret (.str x) := rfl
theorem blt_str_int {i : Int} : blt .str [.int i] = if i.natAbs.log2 < 1920 then ret (.str (toString i)) else no := rfl
@[simp] theorem sl_lst {xs : List D} {lo hi : Option Int} : slD (.lst xs) lo hi = ret (.lst (cutL xs lo hi)) := rfl
@[simp] theorem sl_tup {xs : List D} {lo hi : Option Int} : slD (.tup xs) lo hi = ret (.tup (cutL xs lo hi)) := rfl
theorem wp_sl_str {x : Str} {lo hi : Option Int} {Q : D → Sto → Prop} (h : x.length ≤ 1000000) : wp (slD (.str x) lo hi) s Q ↔ Q (.str (cutS x lo hi)) s := by
  have e : slD (.str x) lo hi = if x.length ≤ sizeLine then ret (.str (cutS x lo hi)) else no := rfl
  rw [e, if_pos (by rw [sizeLine_eq]; omega), wp_ret]
theorem cl_cut {x : Str} {lo hi : Option Int} : cl (cutS x lo hi) = cutL (cl x) lo hi := by
  unfold cutS cutL cl
  rfl
theorem wp_list_str {x : Str} {Q : D → Sto → Prop} (h : x.length ≤ 1000000) : wp (blt .list [.str x]) s Q ↔ Q (.lst ((cl x).map fun c => .str ⟨#[c]⟩)) s := by
  have e : blt .list [.str x] = if x.length ≤ sizeLine then ret (.lst ((cl x).map fun c => .str ⟨#[c]⟩)) else no := rfl
  rw [e, if_pos (by rw [sizeLine_eq]; omega), wp_ret]
/-- a comprehension over the forms of xs, without a test: their outs -/
theorem wp_lcm {α : Type} {t : Tn} {e : En} {el : En → M D} {Q : D → Sto → Prop} (enc out : α → D) (xs : List α) (hl : xs.length ≤ 1000000)
    (h : ∀ x ∈ xs, ∃ e', t.set (enc x) e = some e' ∧ wp (el e') s fun d s' => d = out x ∧ s' = s) (hq : Q (.lst (xs.map out)) s) : wp (lcGo t e (fun _ => ret true) el (xs.map enc) []) s Q := by
  refine wp_lc (P := fun ys acc s' => s' = s ∧ ∃ don rest, xs = don ++ rest ∧ ys = rest.map enc ∧ acc = don.map out) ?_ ?_ ⟨rfl, [], xs, rfl, rfl, rfl⟩
  · rintro acc _ ⟨rfl, don, rest, e1, e2, e3⟩
    have : rest = [] := by simpa using e2.symm
    subst this
    rw [List.append_nil] at e1
    rw [e3, ← e1]; exact hq
  · rintro y ys acc _ ⟨rfl, don, rest, e1, e2, e3⟩
    cases rest with
    | nil => simp at e2
    | cons x rest =>
      rw [List.map_cons] at e2
      injection e2 with e4 e5
      obtain ⟨e', h1, h2⟩ := h x (by rw [e1]; simp)
      rw [e4]
      refine ⟨e', h1, wp_ret.mpr ?_⟩
      simp only [if_true]
      refine h2.mono fun d s' ⟨h3, h4⟩ => ?_
      subst h3 h4
      refine ⟨by rw [sizeLine_eq, e3, List.length_map]; rw [e1, List.length_append, List.length_cons] at hl; omega, rfl, don ++ [x], rest, by rw [e1, List.append_assoc]; rfl, e5, by rw [e3, List.map_append]; rfl⟩
end
end Ev

set_option Elab.async false
set_option linter.all false
set_option maxRecDepth 100000
set_option maxHeartbeats 4000000
/-! EvO: membership of texts, `is`, two names at once, what repr is of good texts. -/
namespace Ev
open PySem L2
theorem wp_st {α : Type} {m : M α} {s s' : Sto} {Q : α → Sto → Prop} {a : α} (e : m s = .ok a s') : wp m s Q ↔ Q a s' := by
  unfold wp
  rw [e]
  exact ⟨fun ⟨_, _, e, q⟩ => by cases e; exact q, fun q => ⟨_, _, rfl, q⟩⟩
/-- a plain run, by computing -/
theorem wp_is {α : Type} {m : M α} {s : Sto} {Q : α → Sto → Prop} {a : α} (e : m s = .ok a s) : wp m s Q ↔ Q a s := by
  unfold wp
  rw [e]
  exact ⟨fun ⟨_, _, e, q⟩ => by cases e; exact q, fun q => ⟨_, _, rfl, q⟩⟩
section
variable {fe : FE} {e : En} {s : Sto}
@[simp] theorem x_par {is : List Nat} {es : Exs} : ex1 fe (.par is es) e s = thns (evs fe es e) (fun ds s1 => match setAll is ds e with
    | some e1 => .nx e1 s1
    | none => .no) e s := rfl
theorem x_own {i : Nat} {es : Exs} : ex1 fe (.own i es) e s = thns (evs fe es e) (fun xs s1 => if xs.length ≤ sizeLine then .nx (e.set i (.own xs)) s1 else .no) e s := rfl
theorem x_owna {i : Nat} {a b : Ex} : ex1 fe (.owna i a b) e s = thns (pk a e (ev fe a e)) (fun x s1 => thns (pk b e (ev fe b e)) (fun y s2 => match lv x s2, lv y s2 with
    | some xs, some ys => if xs.length + ys.length ≤ sizeLine then .nx (e.set i (.own (xs ++ ys))) s2 else .no
    | _, _ => .no) e s1) e s := rfl
/-- lists of a local's own -/
theorem wn_own {i : Nat} {es : Exs} {N : En → Sto → Prop} {T : D → Sto → Prop} {B C : En → Sto → Prop} : Wn (ex1 fe (.own i es) e s) N T B C ↔ wp (evs fe es e) s fun xs s1 => xs.length ≤ sizeLine ∧ N (e.set i (.own xs)) s1 := by
  rw [x_own, wn_thns]
  refine iff_of_eq (congrArg _ (funext fun xs => funext fun s1 => propext ?_))
  by_cases c : xs.length ≤ sizeLine
  · rw [if_pos c]; exact ⟨fun h => ⟨c, h⟩, fun h => h.2⟩
  · rw [if_neg c]; exact ⟨fun h => h.elim, fun h => (c h.1).elim⟩
theorem wn_owna {i : Nat} {a b : Ex} {N : En → Sto → Prop} {T : D → Sto → Prop} {B C : En → Sto → Prop} : Wn (ex1 fe (.owna i a b) e s) N T B C ↔ wp (pk a e (ev fe a e)) s fun x s1 => wp (pk b e (ev fe b e)) s1 fun y s2 => ∃ xs ys, lv x s2 = some xs ∧ lv y s2 = some ys ∧ xs.length + ys.length ≤ sizeLine ∧ N (e.set i (.own (xs ++ ys))) s2 := by
  rw [x_owna, wn_thns]
  refine iff_of_eq (congrArg _ (funext fun x => funext fun s1 => ?_))
  rw [wn_thns]
  refine congrArg _ (funext fun y => funext fun s2 => propext ?_)
  cases lv x s2 with
  | none => exact ⟨fun h => h.elim, fun ⟨_, _, h, _⟩ => by cases h⟩
  | some xs =>
    cases lv y s2 with
    | none => exact ⟨fun h => h.elim, fun ⟨_, _, _, h, _⟩ => by cases h⟩
    | some ys =>
      dsimp only
      by_cases c : xs.length + ys.length ≤ sizeLine
      · rw [if_pos c]; exact ⟨fun h => ⟨xs, ys, rfl, rfl, c, h⟩, fun ⟨_, _, e1, e2, _, h⟩ => by cases e1; cases e2; exact h⟩
      · rw [if_neg c]; exact ⟨fun h => h.elim, fun ⟨_, _, e1, e2, h, _⟩ => by cases e1; cases e2; exact c h⟩
theorem wn_app {i : Nat} {x : Ex} {xs : List D} {N : En → Sto → Prop} {T : D → Sto → Prop} {B C : En → Sto → Prop} (h : e.at i = .own xs) : Wn (ex1 fe (.app i x) e s) N T B C ↔ wp (ev fe x e) s fun d s1 => xs.length < sizeLine ∧ N (e.set i (.own (xs ++ [d]))) s1 := by
  have q : ex1 fe (.app i x) e s = thns (ev fe x e) (fun d s1 => if xs.length < sizeLine then .nx (e.set i (.own (xs ++ [d]))) s1 else .no) e s := by simp only [ex1, h]
  rw [q, wn_thns]
  refine iff_of_eq (congrArg _ (funext fun d => funext fun s1 => propext ?_))
  by_cases c : xs.length < sizeLine
  · rw [if_pos c]; exact ⟨fun h => ⟨c, h⟩, fun h => h.2⟩
  · rw [if_neg c]; exact ⟨fun h => h.elim, fun h => (c h.1).elim⟩
@[simp] theorem setAll_nil : setAll [] [] e = some e := rfl
@[simp] theorem setAll_cons {i : Nat} {is : List Nat} {d : D} {ds : List D} : setAll (i :: is) (d :: ds) e = setAll is ds (e.set i (.val d)) := rfl
@[simp] theorem tp_set {ts : Tns} {xs : List D} : Tn.set (.tp ts) (.tup xs) e = ts.set xs e := rfl
@[simp] theorem tp_setL {ts : Tns} {xs : List D} : Tn.set (.tp ts) (.lst xs) e = ts.set xs e := rfl
@[simp] theorem tns_nil : Tns.set .nil [] e = some e := rfl
@[simp] theorem tns_cons {i : Nat} {r : Tns} {x : D} {xs : List D} : Tns.set (.cons (.nm i) r) (x :: xs) e = r.set xs (e.set i (.val x)) := rfl
@[simp] theorem eq_bl {a b : Bool} {Q : D → Sto → Prop} : wp (opC .eq (.bl a) (.bl b)) s Q ↔ Q (.bl (a == b)) s := (wp_eq (p := .bool a) (q := .bool b) rfl rfl (by simp [PyData.depth])).trans (by cases a <;> cases b <;> exact Iff.rfl)
@[simp] theorem ne_bl {a b : Bool} {Q : D → Sto → Prop} : wp (opC .ne (.bl a) (.bl b)) s Q ↔ Q (.bl (!(a == b))) s := (wp_ne (p := .bool a) (q := .bool b) rfl rfl (by simp [PyData.depth])).trans (by cases a <;> cases b <;> exact Iff.rfl)
theorem isin_nin {a b : D} {t : Bool} {Q : D → Sto → Prop} (h : ∀ Q : D → Sto → Prop, wp (opC .isin a b) s Q ↔ Q (.bl t) s) : wp (opC .nin a b) s Q ↔ Q (.bl (!t)) s := by
  have e : isinD a b s = .ok t s := by
    obtain ⟨d, s', e, h1, h2⟩ := (h fun d s' => d = .bl t ∧ s' = s).mpr ⟨rfl, rfl⟩
    have e : bnd (isinD a b) (fun t => ret (D.bl t)) s = R.ok d s' := e
    unfold bnd at e
    cases r : isinD a b s with
    | ok x s1 =>
      rw [r] at e
      injection e with e1 e2
      subst h1 h2
      injection e1 with e1
      rw [e1, e2]
    | ex x s1 => rw [r] at e; cases e
    | no => rw [r] at e; cases e
  have e2 : opC .nin a b s = .ok (.bl (!t)) s := by
    show bnd (isinD a b) (fun t => ret (D.bl (!t))) s = _
    unfold bnd
    rw [e]; rfl
  unfold wp
  rw [e2]
  exact ⟨fun ⟨_, _, e, q⟩ => by cases e; exact q, fun q => ⟨_, _, rfl, q⟩⟩
@[simp] theorem in_sign {c : Nat} {y : Str} {Q : D → Sto → Prop} : wp (opC .isin (.str ⟨#[c]⟩) (.str y)) s Q ↔ Q (.bl (decide (c ∈ cl y))) s := by
  have e : opC .isin (.str ⟨#[c]⟩) (.str y) = ret (.bl (decide (c ∈ cl y))) := by
    show bnd (ret (!(Builtin.Str.occurrences y ⟨#[c]⟩ 0 y.length 1).isEmpty)) (fun t => ret (D.bl t)) = _
    rw [StrLaws.found_one]; rfl
  rw [e, wp_ret]
theorem pys_str : ∀ ys : List Str, pys (ys.map D.str) = some (ys.map PyData.str)
  | [] => rfl
  | y :: ys => by simp [pys, py, pys_str ys]
theorem any_str {x : Str} : ∀ ys : List Str, (ys.map PyData.str).any (fun y => PyData.eqv y (.str x)) = decide (x ∈ ys)
  | [] => by simp
  | y :: ys => by
    rw [List.map_cons, List.any_cons, any_str ys]
    have : PyData.eqv (.str y) (.str x) = decide (x = y) := by
      by_cases h : x = y
      · simp [PyData.eqv, h]
      · have h2 : ¬ y = x := fun e => h e.symm
        simp [PyData.eqv, h, h2]
    rw [this]
    by_cases h : x = y <;> by_cases h2 : x ∈ ys <;> simp [h, h2]
theorem in_T {x : Str} {ys : List Str} {Q : D → Sto → Prop} : wp (opC .isin (.str x) (.tup (ys.map D.str))) s Q ↔ Q (.bl (decide (x ∈ ys))) s := by
  rw [wp_in (p := .str x) rfl (pys_str ys) (by simp only [PyData.depth]; omega), any_str]
theorem in_L {x : Str} {ys : List Str} {Q : D → Sto → Prop} : wp (opC .isin (.str x) (.lst (ys.map D.str))) s Q ↔ Q (.bl (decide (x ∈ ys))) s := by
  rw [wp_inL (p := .str x) rfl (pys_str ys) (by simp only [PyData.depth]; omega), any_str]
theorem nin_T {x : Str} {ys : List Str} {Q : D → Sto → Prop} : wp (opC .nin (.str x) (.tup (ys.map D.str))) s Q ↔ Q (.bl (!decide (x ∈ ys))) s := isin_nin fun _ => in_T
theorem nin_L {x : Str} {ys : List Str} {Q : D → Sto → Prop} : wp (opC .nin (.str x) (.lst (ys.map D.str))) s Q ↔ Q (.bl (!decide (x ∈ ys))) s := isin_nin fun _ => in_L
theorem map_nat_inj : ∀ {a b : List Char}, a.map Char.toNat = b.map Char.toNat → a = b
  | [], [], _ => rfl
  | [], _ :: _, h => by cases h
  | _ :: _, [], h => by cases h
  | c :: a, d :: b, h => by
    injection h with h1 h2
    rw [map_nat_inj h2, Char.ext (UInt32.toNat_inj.mp h1)]
@[simp] theorem ofs_inj {a b : String} : Str.ofString a = Str.ofString b ↔ a = b := by
  constructor
  · intro h
    rw [Str.ofString_eq_toList, Str.ofString_eq_toList] at h
    have h2 : a.toList.map Char.toNat = b.toList.map Char.toNat := congrArg (fun x : Str => x.cps.toList) h
    have h3 : a.toList = b.toList := map_nat_inj h2
    exact String.toList_inj.mp h3
  · intro h; rw [h]
class Texts (ys : List D) (zs : outParam (List Str)) : Prop where
  eq : ys = zs.map D.str
instance texts_nil : Texts [] [] := ⟨rfl⟩
instance texts_cons {x : Str} {r : List D} {zs : List Str} [h : Texts r zs] : Texts (.str x :: r) (x :: zs) := ⟨by rw [h.eq]; rfl⟩
@[simp] theorem in_Ts {x : Str} {ys : List D} {zs : List Str} [h : Texts ys zs] {Q : D → Sto → Prop} : wp (opC .isin (.str x) (.tup ys)) s Q ↔ Q (.bl (decide (x ∈ zs))) s := by
  rw [h.eq]; exact in_T
@[simp] theorem in_Lls {x : Str} {ys : List D} {zs : List Str} [h : Texts ys zs] {Q : D → Sto → Prop} : wp (opC .isin (.str x) (.lst ys)) s Q ↔ Q (.bl (decide (x ∈ zs))) s := by
  rw [h.eq]; exact in_L
@[simp] theorem nin_Ts {x : Str} {ys : List D} {zs : List Str} [h : Texts ys zs] {Q : D → Sto → Prop} : wp (opC .nin (.str x) (.tup ys)) s Q ↔ Q (.bl (!decide (x ∈ zs))) s := isin_nin fun _ => in_Ts
@[simp] theorem nin_Lls {x : Str} {ys : List D} {zs : List Str} [h : Texts ys zs] {Q : D → Sto → Prop} : wp (opC .nin (.str x) (.lst ys)) s Q ↔ Q (.bl (!decide (x ∈ zs))) s := isin_nin fun _ => in_Lls
def isT : RS → Bool
  | .rt (.bl true) _ => true
  | _ => false
/-- a plain run to True, by computing -/
theorem wn_t {r : RS} {N : En → Sto → Prop} {T : D → Sto → Prop} {B C : En → Sto → Prop} (e : isT r = true) (h : ∀ s, T (.bl true) s) : Wn r N T B C := by
  cases r with
  | rt d s => cases d with
    | bl b => cases b with
      | true => exact h s
      | false => cases e
    | _ => cases e
  | _ => cases e
theorem wp_eqn {α : Type} {m : M α} {s : Sto} {a : α} (h : wp m s fun d s' => d = a ∧ s' = s) : m s = .ok a s := by
  obtain ⟨d, s', e, h1, h2⟩ := h
  rw [e, h1, h2]
theorem pys_bls : ∀ bs : List Bool, pys (bs.map D.bl) = some (bs.map PyData.bool)
  | [] => rfl
  | b :: bs => by simp [pys, py, pys_bls bs]
theorem any_bls {b : Bool} : ∀ bs : List Bool, (bs.map PyData.bool).any (fun y => PyData.eqv y (.bool b)) = decide (b ∈ bs)
  | [] => by simp
  | y :: ys => by
    rw [List.map_cons, List.any_cons, any_bls ys]
    have : PyData.eqv (.bool y) (.bool b) = decide (b = y) := by cases b <;> cases y <;> rfl
    rw [this]
    by_cases h : b = y <;> by_cases h2 : b ∈ ys <;> simp [h, h2]
theorem in_bls {b : Bool} {bs : List Bool} {Q : D → Sto → Prop} : wp (opC .isin (.bl b) (.lst (bs.map D.bl))) s Q ↔ Q (.bl (decide (b ∈ bs))) s := by
  rw [wp_inL (p := .bool b) rfl (pys_bls bs) (by simp only [PyData.depth]; omega), any_bls]
theorem nin_bls {b : Bool} {bs : List Bool} {Q : D → Sto → Prop} : wp (opC .nin (.bl b) (.lst (bs.map D.bl))) s Q ↔ Q (.bl (!decide (b ∈ bs))) s := isin_nin fun _ => in_bls
/-- lists of the store -/
theorem wp_app {n : Nat} {xs : List D} {d : D} {Q : D → Sto → Prop} (h : s.get n = some (.lst xs)) (hl : xs.length < 1000000) : wp (mth .append (.ref n) [d]) s Q ↔ Q .non (s.put n (.lst (xs ++ [d]))) := by
  have e : mth .append (.ref n) [d] s = .ok .non (s.put n (.lst (xs ++ [d]))) := by
    show appS n d s = _
    unfold appS
    rw [h]
    dsimp only
    rw [if_pos (by rw [sizeLine_eq]; omega)]
  exact wp_st e
theorem wp_addn {a b : D} {xs ys : List D} {Q : D → Sto → Prop} (ha : lv a s = some xs) (hb : lv b s = some ys) (h : xs.length + ys.length ≤ 1000000) : wp (opB .addn a b) s Q ↔ Q (.ref s.nx) (s.new (.lst (xs ++ ys))) := by
  have e : opB .addn a b s = .ok (.ref s.nx) (s.new (.lst (xs ++ ys))) := by
    show addN a b s = _
    unfold addN
    rw [ha, hb]
    dsimp only
    rw [if_pos (by rw [sizeLine_eq]; omega)]
  exact wp_st e
theorem rcv_app {n : Nat} {xs : List D} {Q : Unit → Sto → Prop} (h : s.get n = some (.lst xs)) : wp (rcv .append (.ref n)) s Q ↔ Q () s := by
  have e : rcv .append (.ref n) s = .ok () s := by
    show viaL n (fun _ => ret ()) (fun _ => no) s = _
    unfold viaL
    rw [h]; rfl
  exact (wp_is e)
theorem sl_ref {n : Nat} {xs : List D} {lo hi : Option Int} {Q : D → Sto → Prop} (h : s.get n = some (.lst xs)) : wp (slD (.ref n) lo hi) s Q ↔ Q (.lst (cutL xs lo hi)) s := by
  have e : slD (.ref n) lo hi s = .ok (.lst (cutL xs lo hi)) s := by
    show viaL n _ _ s = _
    unfold viaL
    rw [h]; rfl
  exact (wp_is e)
theorem len_ref {n : Nat} {xs : List D} {Q : D → Sto → Prop} (h : s.get n = some (.lst xs)) : wp (blt .len [.ref n]) s Q ↔ Q (.int xs.length) s := by
  have e : blt .len [.ref n] s = .ok (.int xs.length) s := by
    show viaL n _ _ s = _
    unfold viaL
    rw [h]; rfl
  exact (wp_is e)
/-- a statement, and what is so behind it -/
theorem wn_then {fe : FE} {e : En} {s : Sto} {a : Sm} {r : Sms} {N : En → Sto → Prop} {T : D → Sto → Prop} {B C : En → Sto → Prop} (mid : En → Sto → Prop) (h1 : Wn (ex1 fe a e s) mid T B C) (h2 : ∀ e s, mid e s → Wn (exs fe r e s) N T B C) : Wn (exs fe (.cons a r) e s) N T B C := by
  rw [wn_cons]
  exact h1.mono h2 (fun _ _ h => h) (fun _ _ h => h) (fun _ _ h => h)
theorem wn_is {r : RS} {d : D} {s : Sto} {N : En → Sto → Prop} {T : D → Sto → Prop} {B C : En → Sto → Prop} (e : r = .rt d s) (h : T d s) : Wn r N T B C := by rw [e]; exact h
/-- a text of signs as Python has them -/
def Sane (x : Str) : Prop := ∀ c ∈ cl x, c < 16 ^ 8
theorem showOk_str {x : Str} (h : Sane x) (l : x.length ≤ 100000) : showOk (.str x) = true := by
  have := StrLaws.reprText_len x h
  have e : (PyData.str x).shown = reprText x := rfl
  have d : (PyData.str x).depth = 0 := rfl
  have sh : (PyData.str x).showable = true := rfl
  unfold showOk
  rw [sh, e, d, sizeLine_eq]
  simp; omega
theorem repr_str {x : Str} (h : Sane x) (l : x.length ≤ 100000) {Q : D → Sto → Prop} : wp (blt .repr [.str x]) s Q ↔ Q (.str (PyData.str x).shown) s := wp_repr rfl (showOk_str h l)
theorem sane_of {x : String} : Sane (Str.ofString x) := fun c hc => by
  rw [Str.ofString_eq_toList] at hc
  have hc : c ∈ x.toList.map Char.toNat := hc
  obtain ⟨d, _, rfl⟩ := List.mem_map.mp hc
  have : d.toNat < 1114112 := by
    have := d.valid
    unfold UInt32.isValidChar Nat.isValidChar at this
    show d.val.toNat < _
    omega
  omega
theorem sane_app {x y : Str} (a : Sane x) (b : Sane y) : Sane (x ++ y) := fun c hc => by
  rw [cl_app] at hc
  exact (List.mem_append.mp hc).elim (a c) (b c)
theorem sane_rep {x : Str} (a : Sane x) (n : Nat) : Sane (repS x n) := fun c hc => by
  rw [cl_rep] at hc
  obtain ⟨l, h1, h2⟩ := List.mem_flatten.mp hc
  rw [List.eq_of_mem_replicate h1] at h2
  exact a c h2
theorem cutL_sub {α : Type} {l : List α} {lo hi : Option Int} {c : α} (h : c ∈ cutL l lo hi) : c ∈ l := List.mem_of_mem_drop (List.mem_of_mem_take h)
theorem sane_cut {x : Str} (a : Sane x) {lo hi : Option Int} : Sane (cutS x lo hi) := fun c hc => by
  rw [cl_cut] at hc
  exact a c (cutL_sub hc)
theorem cutL_len {α : Type} {l : List α} {lo hi : Option Int} : (cutL l lo hi).length ≤ l.length := by
  unfold cutL
  rw [List.length_take, List.length_drop]; omega
theorem len_cut {x : Str} {lo hi : Option Int} : (cutS x lo hi).length ≤ x.length := by
  rw [← cl_len, ← cl_len, cl_cut]; exact cutL_len
theorem sane_join {a : Str} (h : Sane a) : ∀ {ys : List Str}, (∀ y ∈ ys, Sane y) → Sane (Str.join a ys)
  | [], _ => fun c hc => by cases hc
  | [x], k => k x (by simp)
  | x :: y :: r, k => by
    show Sane (x ++ a ++ Str.join a (y :: r))
    exact sane_app (sane_app (k x (by simp)) h) (sane_join h fun z hz => k z (List.mem_cons_of_mem _ hz))
theorem wp_ix_str {x : Str} {i : Int} {c : Nat} {Q : D → Sto → Prop} (h : x.length ≤ 1000000) (hc : atI (cl x) i = some c) : wp (ixD (.str x) (.int i)) s Q ↔ Q (.str ⟨#[c]⟩) s := by
  have e : ixD (.str x) (.int i) = if x.length ≤ sizeLine then opt ((atI (cl x) i).map fun c => .str ⟨#[c]⟩) else no := rfl
  rw [e, if_pos (by rw [sizeLine_eq]; omega), hc]
  exact wp_ret
theorem signs_len (l : List Nat) : ((l.map fun c => (⟨#[c]⟩ : Str)).map (·.length)).sum = l.length := by
  induction l with
  | nil => rfl
  | cons c l ih => rw [List.map_cons, List.map_cons, List.sum_cons, ih, List.length_cons]; show 1 + l.length = _; omega
theorem cl_signs (l : List Nat) : cl (Str.join (Str.ofString "") (l.map fun c => (⟨#[c]⟩ : Str))) = l := by
  rw [cl_join]
  induction l with
  | nil => rfl
  | cons c l ih => rw [List.map_cons, List.map_cons, List.flatten_cons, ih]; rfl
theorem wp_join_signs {l : List Nat} {Q : D → Sto → Prop} (h : l.length ≤ 1000000) : wp (mth .join (.str (Str.ofString "")) [.lst (l.map fun c => D.str ⟨#[c]⟩)]) s Q ↔ Q (.str ⟨l.toArray⟩) s := by
  have e : l.map (fun c => D.str ⟨#[c]⟩) = (l.map fun c => (⟨#[c]⟩ : Str)).map D.str := by rw [List.map_map]; rfl
  have z0 : (Str.ofString "").length = 0 := rfl
  rw [e, wp_join (by rw [signs_len, z0]; omega)]
  have : Str.join (Str.ofString "") (l.map fun c => (⟨#[c]⟩ : Str)) = ⟨l.toArray⟩ := cl_ext (by rw [cl_signs]; rfl)
  rw [this]
theorem take_get {l : List Nat} {k : Nat} (h : k ≤ l.length) : (List.range k).map (fun i => D.str ⟨#[l.getD i 0]⟩) = (l.take k).map fun c => D.str ⟨#[c]⟩ := by
  apply List.ext_getElem
  · simp; omega
  · intro i h1 h2
    simp at h1 h2 ⊢
    have h3 : i < l.length := by omega
    simp [h3]
theorem cutL_lo {α : Type} {l : List α} {n : Nat} : cutL l (some (n : Int)) none = l.drop n := by
  unfold cutL
  rw [HT.sIx_none, HT.sIx_nat]
  by_cases h : n ≤ l.length
  · rw [Nat.min_eq_left h, List.take_of_length_le (by rw [List.length_drop]; omega)]
  · rw [Nat.min_eq_right (by omega), Nat.sub_self, List.take_zero, List.drop_eq_nil_of_le (by omega)]
theorem cutL_hi {α : Type} {l : List α} {n : Nat} : cutL l none (some (n : Int)) = l.take n := by
  unfold cutL
  rw [HT.sIx_none, HT.sIx_nat]
  rw [List.drop_zero, Nat.sub_zero]
  by_cases h : n ≤ l.length
  · rw [Nat.min_eq_left h]
  · rw [Nat.min_eq_right (by omega), List.take_of_length_le (Nat.le_refl _), List.take_of_length_le (by omega)]
end
end Ev

set_option Elab.async false
set_option linter.all false
set_option maxRecDepth 100000
set_option maxHeartbeats 4000000
/-! EvP: what repr gives is not too long. -/
namespace Ev
open PySem L2
mutual
def fine : PyData → Bool
  | .none => true
  | .bool _ => true
  | .int i => decide (i.natAbs < 10 ^ 60)
  | .str x => (cl x).all fun c => decide (c < 16 ^ 8)
  | .list xs => fines xs
  | .tuple xs => fines xs
  | .dict _ => false
def fines : List PyData → Bool
  | [] => true
  | x :: r => fine x && fines r
end
mutual
/-- no fewer signs than repr has -/
def bsz : PyData → Nat
  | .none => 4
  | .bool _ => 5
  | .int i => 61
  | .str x => 10 * x.length + 2
  | .list xs => bszs xs + 2
  | .tuple xs => bszs xs + 3
  | .dict _ => 0
def bszs : List PyData → Nat
  | [] => 0
  | x :: r => bsz x + 2 + bszs r
end
theorem nat_digits {n k : Nat} (hk : 0 < k) (h : n < 10 ^ k) : (toString n).length ≤ k := by
  show n.repr.length ≤ k
  rw [Nat.length_repr_le_iff (by omega)]; exact h
theorem int_digits {i : Int} {k : Nat} (hk : 0 < k) (h : i.natAbs < 10 ^ k) : (toString i : String).length ≤ k + 1 := by
  cases i with
  | ofNat n =>
    have := nat_digits hk (show n < 10 ^ k from h)
    show (toString n).length ≤ k + 1
    omega
  | negSucc n =>
    have := nat_digits hk (show n + 1 < 10 ^ k from h)
    show ("-" ++ toString (n + 1)).length ≤ k + 1
    rw [String.length_append]
    have : "-".length = 1 := rfl
    omega
theorem len_of (x : String) : (Str.ofString x).length = x.length := by
  rw [Str.ofString_eq_toList]
  show (x.toList.map Char.toNat).toArray.size = _
  simp
  exact String.length_toList
theorem from_len : ∀ (ts : List Str) (k : Nat) (acc : Str), (textFrom k acc ts).length ≤ acc.length + (ts.map fun t => t.length + 2).sum
  | [], k, acc => Nat.le_add_right _ _
  | t :: r, k, acc => by
    show (textFrom (k + 1) (acc ++ (if k > 0 then ", " else "" : String) ++ t) r).length ≤ _
    have h := from_len r (k + 1) (acc ++ (if k > 0 then ", " else "" : String) ++ t)
    have l1 : (Str.ofString (if k > 0 then ", " else "")).length ≤ 2 := by
      split
      · exact Nat.le_refl _
      · exact Nat.zero_le _
    rw [len_app, len_app] at h
    simp only [List.map_cons, List.sum_cons]
    omega
theorem join_len : ∀ ts : List Str, (Str.join ", " ts).length ≤ (ts.map fun t => t.length + 2).sum
  | [] => Nat.zero_le _
  | [x] => by show x.length ≤ _; simp
  | x :: y :: r => by
    have h := join_len (y :: r)
    show (x ++ (", " : Str) ++ Str.join ", " (y :: r)).length ≤ _
    rw [len_app, len_app]
    have l1 : (Str.ofString ", ").length = 2 := rfl
    simp only [List.map_cons, List.sum_cons] at h ⊢
    omega
mutual
theorem shown_len : ∀ p : PyData, fine p = true → p.shown.length ≤ bsz p
  | .none, _ => by decide
  | .bool b, _ => by cases b <;> decide
  | .int i, h => by
    have h := int_digits (k := 60) (by decide) (of_decide_eq_true h)
    show (Str.ofString (toString i)).length ≤ 61
    rw [len_of]; omega
  | .str x, h => StrLaws.reprText_len x fun c hc => of_decide_eq_true (List.all_eq_true.mp h c hc)
  | .list xs, h => by
    have := shownAll_len xs h
    have h1 := from_len (PyData.shownAll xs) 0 "["
    have l1 : (Str.ofString "[").length = 1 := rfl
    have l2 : (Str.ofString "]").length = 1 := rfl
    show (textFrom 0 "[" (PyData.shownAll xs) ++ ("]" : Str)).length ≤ bszs xs + 2
    rw [len_app]; omega
  | .tuple xs, h => by
    have := shownAll_len xs h
    have h1 := join_len (PyData.shownAll xs)
    have l1 : (Str.ofString "(").length = 1 := rfl
    have l2 : (Str.ofString (if (PyData.shownAll xs).length == 1 then ",)" else ")")).length ≤ 2 := by
      split
      · exact Nat.le_refl _
      · exact by decide
    show (("(" : Str) ++ Str.join ", " (PyData.shownAll xs) ++ (if (PyData.shownAll xs).length == 1 then ",)" else ")" : String)).length ≤ bszs xs + 3
    rw [len_app, len_app]; omega
  | .dict _, h => by cases h
theorem shownAll_len : ∀ xs : List PyData, fines xs = true → ((PyData.shownAll xs).map fun t => t.length + 2).sum ≤ bszs xs
  | [], _ => Nat.le_refl _
  | x :: r, h => by
    simp only [fines, Bool.and_eq_true] at h
    have h1 := shown_len x h.1
    have h2 := shownAll_len r h.2
    simp only [PyData.shownAll, List.map_cons, List.sum_cons, bszs]
    omega
end
mutual
theorem showable_of : ∀ p : PyData, fine p = true → p.showable = true
  | .none, _ => rfl
  | .bool b, _ => rfl
  | .int i, h => by
    have h : i.natAbs < 10 ^ 60 := of_decide_eq_true h
    refine decide_eq_true ?_
    by_cases h0 : i.natAbs = 0
    · rw [h0]; decide
    · have := (Nat.log2_lt h0 (k := 300)).mpr (Nat.lt_trans h (by decide +kernel))
      omega
  | .str x, h => rfl
  | .list xs, h => showables_of xs h
  | .tuple xs, h => showables_of xs h
  | .dict _, h => by cases h
theorem showables_of : ∀ xs : List PyData, fines xs = true → PyData.showableAll xs = true
  | [], _ => rfl
  | x :: r, h => by
    simp only [fines, Bool.and_eq_true] at h
    simp only [PyData.showableAll, showable_of x h.1, showables_of r h.2, Bool.and_self]
end
theorem showOk_of {p : PyData} (h : fine p = true) (hb : bsz p ≤ 1000000) (hd : p.depth ≤ 100) : showOk p = true := by
  have := shown_len p h
  unfold showOk
  rw [showable_of p h, sizeLine_eq]
  simp
  exact ⟨by omega, hd⟩
@[simp] theorem opC_chn {fe : FE} {e : En} {o p : CO} {a b c : Ex} : ev fe (.chn o p a b c) e = bnd (ev fe a e) fun x => bnd (ev fe b e) fun y => bnd (opC o x y) fun z => match z with
    | .bl t => if t = true then bnd (ev fe c e) fun w => opC p y w else ret (.bl false)
    | _ => no := rfl
@[simp] theorem zip_lst {xs ys : List D} : zipD (.lst xs) (.lst ys) = ret ((xs.zip ys).map fun p => .tup [p.1, p.2]) := rfl
@[simp] theorem rev_lst {xs : List D} : revD (.lst xs) = ret (.lst xs.reverse) := rfl
@[simp] theorem rev_tup {xs : List D} : revD (.tup xs) = ret (.tup xs.reverse) := rfl
theorem rev_ref {n : Nat} {xs : List D} {s : Sto} {Q : D → Sto → Prop} (h : s.get n = some (.lst xs)) : wp (revD (.ref n)) s Q ↔ Q (.lst xs.reverse) s := by
  have e : revD (.ref n) s = .ok (.lst xs.reverse) s := by
    show viaL n _ _ s = _
    unfold viaL
    rw [h]; rfl
  exact wp_is e
theorem roll_wide {fns : List Fn} {gl : List D} {fuel n i c : Nat} {n1 n2 n3 n4 n5 n6 many : Int} {s : Sto} (hf : fns[i]? = some (fRoll n1 n2 n3 n4 n5 n6)) (hc : Cup c s) (hm : 0 < many) (hm2 : many.natAbs.log2 < 9000)
    (k1 : 0 < n1 ∧ n1 < 1073741824) (k2 : 0 ≤ n2) (k3 : 0 < n3 ∧ n3 < 4294967296) (k4 : 0 ≤ n4) (k5 : 0 < n5) (k6 : 0 < n6 ∧ n6 < 1073741824) :
    wp (runF fns gl fuel (n + 1) i [.ref c, .int many]) s fun d s' => (∃ r : Nat, d = .int r ∧ (r : Int) < many) ∧ Cup c s' ∧ Fr c s s' := by
  obtain ⟨a, b, hg, ha, hb, hb2⟩ := hc
  refine wp_run hf rfl ?_
  show Wn (exs _ (.cons _ _) [.val (.ref c), .val (.int many), .no, .no] s) _ _ _ _
  have m1 : mulOk b n1 = true := by
    unfold mulOk
    have h1 : n1 < 2 ^ 64 := by omega
    have h2 : -(2 ^ 64) < n1 := by omega
    simp; omega
  by_cases h0 : 0 < a
  · have hg' : (s.put c (.lst [.int (a / many), .int b])).get c = some (.lst [.int (a / many), .int b]) := Sto.get_put hg
    simp [wp_ix0 hg, h0, hm, hm2, (wp_sti hg).1]
    refine ⟨⟨(a % many).toNat, ?_, ?_⟩, ⟨a / many, b, hg', Int.ediv_nonneg ha (by omega), hb, hb2⟩, Fr.put⟩
    · have := Int.emod_nonneg a (show many ≠ 0 by omega); omega
    · have := Int.emod_lt_of_pos a hm; have := Int.emod_nonneg a (show many ≠ 0 by omega); omega
  · have hb3 : 0 ≤ (b * n1 + n2) % n3 := Int.emod_nonneg _ (by omega)
    have hb4 : (b * n1 + n2) % n3 < n3 := Int.emod_lt_of_pos _ k3.1
    generalize hy : (b * n1 + n2) % n3 = y at hb3 hb4
    have hg' : (s.put c (.lst [.int a, .int y])).get c = some (.lst [.int a, .int y]) := Sto.get_put hg
    have m2 : mulOk y (y + n4) = true := by
      unfold mulOk
      have h1 : y < 2 ^ 64 := by omega
      have h2 : -(2 ^ 64) < y := by omega
      simp; omega
    simp [wp_ix0 hg, wp_ix1 hg, h0, hm, hm2, m1, k3.1, hy, (wp_sti hg).2, wp_ix1 hg', m2, k5, k6.1, k6.2, wp_ite]
    refine ⟨⟨(y * (y + n4) % n5 / n6 % many).toNat, ?_, ?_⟩, ⟨a, y, hg', ha, hb3, by omega⟩, Fr.put⟩
    · have := Int.emod_nonneg (y * (y + n4) % n5 / n6) (show many ≠ 0 by omega); omega
    · have := Int.emod_lt_of_pos (y * (y + n4) % n5 / n6) hm; have := Int.emod_nonneg (y * (y + n4) % n5 / n6) (show many ≠ 0 by omega); omega
theorem Rolls.rollW {fns : List Fn} {gl : List D} {fuel n r c : Nat} {s : Sto} (h : Rolls fns r) {many : Int} (hc : Cup c s) (hm : 0 < many) (hm2 : many.natAbs.log2 < 9000) : wp (runF fns gl fuel (n + 1) r [.ref c, .int many]) s fun d s' => (∃ x : Nat, d = .int x ∧ (x : Int) < many) ∧ Cup c s' ∧ Fr c s s' := by
  obtain ⟨n1, n2, n3, n4, n5, n6, hf, k⟩ := h.ex
  exact roll_wide hf hc hm hm2 k.k1 k.k2 k.k3 k.k4 k.k5 k.k6
/-- a statement that changes nothing, by computing -/
theorem wn_same {fe : FE} {e : En} {s : Sto} {a : Sm} {r : Sms} {N : En → Sto → Prop} {T : D → Sto → Prop} {B C : En → Sto → Prop} (h1 : ex1 fe a e s = .nx e s) (h2 : Wn (exs fe r e s) N T B C) : Wn (exs fe (.cons a r) e s) N T B C := by
  rw [wn_cons, h1]; exact h2
theorem cup_new {s : Sto} {o : Ob} (hc : Cup 0 s) (h : 0 < s.nx) : Cup 0 (s.new o) := by
  obtain ⟨a, b, h1, h2⟩ := hc
  exact ⟨a, b, by rw [Sto.get_new_ne (by omega)]; exact h1, h2⟩
theorem cup_put {s : Sto} {o : Ob} {p : Nat} (hc : Cup 0 s) (h : p ≠ 0) : Cup 0 (s.put p o) := by
  obtain ⟨a, b, h1, h2⟩ := hc
  exact ⟨a, b, by rw [Sto.get_put_ne (by omega)]; exact h1, h2⟩
@[simp] theorem str_tup {xs : List D} : blt .str [.tup xs] = blt .repr [.tup xs] := rfl
theorem wp_joinT {a : Str} {ys : List Str} {s : Sto} {Q : D → Sto → Prop} (h : (ys.map (·.length)).sum + ys.length * a.length ≤ 16777216) : wp (mth .join (.str a) [.tup (ys.map D.str)]) s Q ↔ Q (.str (Str.join a ys)) s := by
  have e : mth .join (.str a) [.tup (ys.map D.str)] = ret (.str (Str.join a ys)) := by
    show joinL a (ys.map D.str) = _
    unfold joinL
    rw [strsD_map]
    dsimp only
    rw [if_pos h]
  rw [e, wp_ret]
end Ev

set_option Elab.async false
set_option linter.all false
set_option maxRecDepth 100000
set_option maxHeartbeats 0
namespace K27
open PySem PySem.Spec PyProof.Rows L2 Ev
/-! ### the program, def by def (printed by gen.py) -/
def top (i : Nat) : Stmt := PySem.Challenge.pw_arenaplaces_k27_written_asks.main.body.getD i (.Pass ⟨0, 0, 0, 0⟩)
def clsSt (s : Stmt) (j : Nat) : Stmt := match s with
  | .ClassDef _ _ _ body _ _ _ _ _ _ _ => body.getD j (.Pass ⟨0, 0, 0, 0⟩)
  | _ => s
def f_is_arrow : Fn := ⟨1, 1, (.cons (.ret (.cmp .isin (.idx (.var 0) (.cst (.int 0))) (.glb 1))) .nil)⟩
def d_is_arrow : Df := ⟨"is_arrow", ["kind"], ["kind"], defArgs (top 4), defBody (top 4), defScope (top 4), f_is_arrow, none, "is_arrow"⟩
def f_placed : Fn := ⟨5, 2, (.cons (.ifs (.vl (.cmp .isin (.var 1) (.glb 0))) (.cons (.ret (.var 1)) .nil) .nil) (.cons (.asg (.nm 2) (.blt .tuple (.cons (.lc [4] (.nm 4) (.seq (.slcL (.var 1) (.cst (.int 1)))) .yes (.call 1 (.cons
  (.var 0) (.cons (.var 4) .nil)))) .nil))) (.cons (.asg (.nm 3) (.ite (.vl (.call 0 (.cons (.var 1) .nil))) (.tup (.cons (.met (.var 0) 1962734 [(0, 29)] (.cons (.cst (.bl true)) .nil)) .nil)) (.cst (.tup [])))) (.cons (.ret (.bin
  .add (.bin .add (.bin .add (.tup (.cons (.idx (.var 1) (.cst (.int 0))) .nil)) (.var 2)) (.tup (.cons (.met (.var 0) 1962734 [(0, 29)] (.cons (.cst (.bl false)) .nil)) .nil))) (.var 3))) .nil))))⟩
def d_placed : Df := ⟨"placed", ["table", "kind", "parts", "bags", "part"], ["table", "kind"], defArgs (top 5), defBody (top 5), defScope (top 5), f_placed, none, "placed"⟩
def f_parts_of : Fn := ⟨1, 1, (.cons (.ifs (.vl (.cmp .isin (.var 0) (.glb 0))) (.cons (.ret (.cst (.tup []))) .nil) .nil) (.cons (.ret (.ite (.or (.vl (.call 0 (.cons (.var 0) .nil))) (.vl (.cmp .eq (.idx (.var 0) (.cst (.int 0)))
  (.cst (.str "pair"))))) (.slc (.var 0) (.cst (.int 1)) (.cst (.int 3))) (.slc (.var 0) (.cst (.int 1)) (.cst (.int 2))))) .nil))⟩
def d_parts_of : Df := ⟨"parts_of", ["kind"], ["kind"], defArgs (top 6), defBody (top 6), defScope (top 6), f_parts_of, none, "parts_of"⟩
def f_place_of : Fn := ⟨1, 1, (.cons (.ret (.idx (.var 0) (.bin .add (.cst (.int 1)) (.blt .len (.cons (.call 2 (.cons (.var 0) .nil)) .nil))))) .nil)⟩
def d_place_of : Df := ⟨"place_of", ["kind"], ["kind"], defArgs (top 7), defBody (top 7), defScope (top 7), f_place_of, none, "place_of"⟩
def f_bag_of : Fn := ⟨1, 1, (.cons (.ret (.idx (.var 0) (.cst (.int (-1))))) .nil)⟩
def d_bag_of : Df := ⟨"bag_of", ["kind"], ["kind"], defArgs (top 8), defBody (top 8), defScope (top 8), f_bag_of, none, "bag_of"⟩
def f_places_in : Fn := ⟨3, 1, (.cons (.ifs (.vl (.cmp .isin (.var 0) (.glb 0))) (.cons (.ret (.cst (.lst []))) .nil) .nil) (.cons (.ret (.bin .add (.lst (.cons (.call 3 (.cons (.var 0) .nil)) .nil)) (.lc2 [1, 2] [2] (.nm 1) (.seq
  (.call 2 (.cons (.var 0) .nil))) .yes (.nm 2) (.seq (.call 5 (.cons (.var 1) .nil))) .yes (.var 2)))) .nil))⟩
def d_places_in : Df := ⟨"places_in", ["kind", "part", "place"], ["kind"], defArgs (top 9), defBody (top 9), defScope (top 9), f_places_in, none, "places_in"⟩
def f_things_in : Fn := ⟨4, 1, (.cons (.ifs (.vl (.cmp .isin (.var 0) (.glb 0))) (.cons (.ret (.cst (.lst []))) .nil) .nil) (.cons (.asg (.nm 1) (.bin .add (.lst (.cons (.call 3 (.cons (.var 0) .nil)) .nil)) (.ite (.vl (.call 0 (.cons
  (.var 0) .nil))) (.lst (.cons (.call 4 (.cons (.var 0) .nil)) .nil)) (.cst (.lst []))))) (.cons (.ret (.bin .add (.var 1) (.lc2 [2, 3] [3] (.nm 2) (.seq (.call 2 (.cons (.var 0) .nil))) .yes (.nm 3) (.seq (.call 6 (.cons (.var 2)
  .nil))) .yes (.var 3)))) .nil)))⟩
def d_things_in : Df := ⟨"things_in", ["kind", "found", "part", "thing"], ["kind"], defArgs (top 10), defBody (top 10), defScope (top 10), f_things_in, none, "things_in"⟩
def f_join_types : Fn := ⟨5, 3, (.cons (.fr (.tp (.cons (.nm 3) (.cons (.nm 4) .nil))) (.zip (.call 6 (.cons (.var 1) .nil)) (.call 6 (.cons (.var 2) .nil))) (.cons (.exp (.met (.var 0) 232421354 [(0, 31), (2, 41)] (.cons (.var 3)
  (.cons (.var 4) .nil)))) .nil)) .nil)⟩
def d_join_types : Df := ⟨"join_types", ["table", "one", "other", "left", "right"], ["table", "one", "other"], defArgs (top 11), defBody (top 11), defScope (top 11), f_join_types, none, "join_types"⟩
def f_turned : Fn := ⟨6, 3, (.cons (.ifs (.vl (.cmp .isin (.var 1) (.glb 0))) (.cons (.ret (.var 1)) .nil) .nil) (.cons (.asg (.nm 3) (.blt .tuple (.cons (.lc [4] (.nm 4) (.seq (.call 2 (.cons (.var 1) .nil))) .yes (.call 8 (.cons
  (.var 0) (.cons (.var 4) (.cons (.var 2) .nil))))) .nil))) (.cons (.ret (.bin .add (.bin .add (.tup (.cons (.idx (.var 1) (.cst (.int 0))) .nil)) (.var 3)) (.blt .tuple (.cons (.lc [5] (.nm 5) (.seq (.slcL (.var 1) (.bin .add (.cst
  (.int 1)) (.blt .len (.cons (.var 3) .nil))))) .yes (.idx (.var 2) (.met (.var 0) 1849332 [(0, 30)] (.cons (.var 5) .nil)))) .nil)))) .nil)))⟩
def d_turned : Df := ⟨"turned", ["table", "kind", "others", "parts", "part", "thing"], ["table", "kind", "others"], defArgs (top 12), defBody (top 12), defScope (top 12), f_turned, none, "turned"⟩
def f_parts_at : Fn := ⟨3, 1, (.cons (.asg (.nm 1) (.lc [2] (.nm 2) (.rng2 (.cst (.int 1)) (.blt .len (.cons (.var 0) .nil))) (.vl (.isi .tuple (.idx (.var 0) (.var 2)))) (.var 2))) (.cons (.ret (.mth .get (.glb 11) (.cons (.idx (.var
  0) (.cst (.int 0))) (.cons (.blt .tuple (.cons (.var 1) .nil)) .nil)))) .nil))⟩
def d_parts_at : Df := ⟨"parts_at", ["term", "at", "index"], ["term"], defArgs (top 29), defBody (top 29), defScope (top 29), f_parts_at, none, "parts_at"⟩
def f_with_parts : Fn := ⟨4, 2, (.cons (.ret (.blt .tuple (.cons (.lc [2, 3] (.tp (.cons (.nm 2) (.cons (.nm 3) .nil))) (.enu (.var 0)) .yes (.mth .get (.var 1) (.cons (.var 2) (.cons (.var 3) .nil)))) .nil))) .nil)⟩
def d_with_parts : Df := ⟨"with_parts", ["term", "parts", "at", "item"], ["term", "parts"], defArgs (top 30), defBody (top 30), defScope (top 30), f_with_parts, none, "with_parts"⟩
def f_own_places : Fn := ⟨1, 1, (.cons (.ifs (.vl (.cmp .eq (.idx (.var 0) (.cst (.int 0))) (.glb 8))) (.cons (.ret (.blt .list (.cons (.idx (.var 0) (.cst (.int 1))) .nil))) .nil) .nil) (.cons (.ifs (.vl (.cmp .eq (.idx (.var 0) (.cst
  (.int 0))) (.glb 9))) (.cons (.ret (.ite (.vl (.cmp .isn (.idx (.var 0) (.cst (.int 2))) (.cst .non))) (.blt .list (.cons (.idx (.var 0) (.cst (.int 2))) .nil)) (.cst (.lst [])))) .nil) .nil) (.cons (.ret (.ite (.vl (.cmp .isin (.idx
  (.var 0) (.cst (.int 0))) (.glb 7))) (.lst (.cons (.idx (.var 0) (.cst (.int (-1)))) .nil)) (.cst (.lst [])))) .nil)))⟩
def d_own_places : Df := ⟨"own_places", ["term"], ["term"], defArgs (top 31), defBody (top 31), defScope (top 31), f_own_places, none, "own_places"⟩
def f_standing : Fn := ⟨5, 1, (.cons (.par [1, 2] (.cons (.call 11 (.cons (.var 0) .nil)) (.cons (.lc2 [3, 4] [4] (.nm 3) (.seq (.call 9 (.cons (.var 0) .nil))) .yes (.nm 4) (.seq (.call 12 (.cons (.idx (.var 0) (.var 3)) .nil))) .yes
  (.var 4)) .nil))) (.cons (.ret (.ite (.vl (.cmp .isin (.idx (.var 0) (.cst (.int 0))) (.glb 10))) (.bin .add (.var 1) (.var 2)) (.bin .add (.var 2) (.var 1)))) .nil))⟩
def d_standing : Df := ⟨"standing", ["term", "own", "inner", "at", "place"], ["term"], defArgs (top 32), defBody (top 32), defScope (top 32), f_standing, none, "standing"⟩
def f_each_once : Fn := ⟨3, 1, (.cons (.asg (.nm 1) .ndc) (.cons (.fr (.nm 2) (.seq (.var 0)) (.cons (.sti (.var 1) (.var 2) (.cst (.bl true))) .nil)) (.cons (.ret (.blt .list (.cons (.var 1) .nil))) .nil)))⟩
def d_each_once : Df := ⟨"each_once", ["places", "found", "place"], ["places"], defArgs (top 33), defBody (top 33), defScope (top 33), f_each_once, none, "each_once"⟩
def f_numbered : Fn := ⟨4, 2, (.cons (.asg (.nm 0) (.call 10 (.cons (.var 0) (.cons (.dc [2] (.nm 2) (.seq (.call 9 (.cons (.var 0) .nil))) .yes (.var 2) (.call 14 (.cons (.idx (.var 0) (.var 2)) (.cons (.var 1) .nil)))) .nil)))) (.cons
  (.ifs (.vl (.cmp .eq (.idx (.var 0) (.cst (.int 0))) (.glb 8))) (.cons (.ret (.tup (.cons (.glb 8) (.cons (.blt .tuple (.cons (.lc [3] (.nm 3) (.seq (.idx (.var 0) (.cst (.int 1)))) .yes (.idx (.var 1) (.var 3))) .nil)) (.cons (.idx
  (.var 0) (.cst (.int 2))) .nil))))) .nil) .nil) (.cons (.ifs (.and (.vl (.cmp .eq (.idx (.var 0) (.cst (.int 0))) (.glb 9))) (.vl (.cmp .isn (.idx (.var 0) (.cst (.int 2))) (.cst .non)))) (.cons (.ret (.bin .add (.bin .add (.slcH
  (.var 0) (.cst (.int 2))) (.tup (.cons (.blt .tuple (.cons (.lc [3] (.nm 3) (.seq (.idx (.var 0) (.cst (.int 2)))) .yes (.idx (.var 1) (.var 3))) .nil)) .nil))) (.slcL (.var 0) (.cst (.int 3))))) .nil) .nil) (.cons (.ret (.ite (.vl
  (.cmp .isin (.idx (.var 0) (.cst (.int 0))) (.glb 7))) (.bin .add (.slcH (.var 0) (.cst (.int (-1)))) (.tup (.cons (.idx (.var 1) (.idx (.var 0) (.cst (.int (-1))))) .nil))) (.var 0))) .nil))))⟩
def d_numbered : Df := ⟨"numbered", ["term", "numbers", "at", "place"], ["term", "numbers"], defArgs (top 34), defBody (top 34), defScope (top 34), f_numbered, none, "numbered"⟩
def f_plain_term : Fn := ⟨10, 2, (.cons (.asg (.tp (.cons (.nm 5) (.cons (.nm 6) .nil))) (.tup (.cons (.fld (.var 1) 1022628936491416173669 [1]) (.cons (.fld (.var 0) 27340091636 [2, 3, 4]) .nil)))) (.cons (.asg (.nm 2) (.idx (.var
  5) (.cst (.int 0)))) (.cons (.ifs (.vl (.cmp .eq (.var 2) (.glb 9))) (.cons (.asg (.nm 7) (.ite (.vl (.cmp .is (.fld (.var 1) 1915632 [1]) (.cst .non))) (.cst .non) (.blt .tuple (.cons (.lc [9] (.nm 9) (.seq (.fld (.var 1) 1915632
  [1])) .yes (.met (.var 6) 1849332 [(0, 30)] (.cons (.var 9) .nil))) .nil)))) (.cons (.ret (.tup (.cons (.glb 9) (.cons (.idx (.var 5) (.cst (.int 1))) (.cons (.var 7) (.cons (.call 16 (.cons (.var 0) (.cons (.idx (.fld (.var 1) 31115227376
  [1]) (.cst (.int 0))) .nil))) .nil)))))) .nil)) .nil) (.cons (.asg (.nm 3) (.lc [8] (.nm 8) (.seq (.fld (.var 1) 31115227376 [1])) .yes (.call 16 (.cons (.var 0) (.cons (.var 8) .nil))))) (.cons (.asg (.nm 4) (.call 10 (.cons (.var
  5) (.cons (.dzip (.call 9 (.cons (.var 5) .nil)) (.var 3)) .nil)))) (.cons (.ret (.ite (.vl (.cmp .isin (.var 2) (.glb 7))) (.bin .add (.var 4) (.tup (.cons (.met (.var 6) 1849332 [(0, 30)] (.cons (.fld (.var 1) 27321202288 [1])
  .nil)) .nil))) (.var 4))) .nil))))))⟩
def d_plain_term : Df := ⟨"plain_term", ["effects", "spot", "word", "parts", "found", "expression", "table", "put", "part", "place"], ["effects", "spot"], defArgs (top 35), defBody (top 35), defScope (top 35), f_plain_term, none, "plain_term"⟩
def f_term_of : Fn := ⟨6, 2, (.cons (.asg (.tp (.cons (.nm 3) (.cons (.nm 4) .nil))) (.tup (.cons (.call 15 (.cons (.var 0) (.cons (.var 1) .nil))) (.cons (.met (.var 0) 213463277 [(3, 54)] (.cons (.var 1) .nil)) .nil)))) (.cons (.asg
  (.nm 2) (.blt .tuple (.cons (.lc [5] (.nm 5) (.seq (.call 13 (.cons (.call 12 (.cons (.var 3) .nil)) .nil))) (.vl (.cmp .isin (.var 5) (.var 4))) (.var 5)) .nil))) (.cons (.ret (.ite (.vl (.cmp .ne (.var 2) (.cst (.tup [])))) (.tup
  (.cons (.glb 8) (.cons (.var 2) (.cons (.var 3) .nil)))) (.var 3))) .nil)))⟩
def d_term_of : Df := ⟨"term_of", ["effects", "spot", "places", "term", "made", "place"], ["effects", "spot"], defArgs (top 36), defBody (top 36), defScope (top 36), f_term_of, none, "term_of"⟩
def f_told : Fn := ⟨6, 2, (.cons (.asg (.nm 2) (.call 13 (.cons (.bin .add (.var 1) (.call 12 (.cons (.var 0) .nil))) .nil))) (.cons (.asg (.nm 3) (.dc [4, 5] (.tp (.cons (.nm 4) (.cons (.nm 5) .nil))) (.enu (.var 2)) .yes (.var 5)
  (.var 4))) (.cons (.ret (.tup (.cons (.rg1 true (.blt .len (.cons (.var 1) .nil))) (.cons (.call 14 (.cons (.var 0) (.cons (.var 3) .nil))) .nil)))) .nil)))⟩
def d_told : Df := ⟨"told", ["term", "first", "order", "numbers", "at", "place"], ["term", "first"], defArgs (top 37), defBody (top 37), defScope (top 37), f_told, none, "told"⟩
def f_worked_function : Fn := ⟨16, 2, (.cons (.asg (.tp (.cons (.nm 8) (.cons (.nm 9) (.cons (.nm 10) (.cons (.nm 11) (.cons (.nm 12) .nil)))))) (.var 1)) (.cons (.asg (.nm 2) (.mk 2 38 (.cons (.var 0) (.cons (.tup (.cons (.var 8)
  (.cons (.var 10) (.cons (.var 11) .nil)))) .nil)))) (.cons (.asg (.nm 3) (.met (.var 2) 245102707 [(2, 39)] (.cons (.var 12) (.cons (.tup (.cons (.tup (.cons (.var 9) (.cons (.idx (.fld (.var 2) 1817583 [1, 2]) (.cst (.int 1))) .nil)))
  .nil)) .nil)))) (.cons (.exp (.call 7 (.cons (.fld (.var 2) 27340091636 [2, 3, 4]) (.cons (.idx (.fld (.var 2) 1817583 [1, 2]) (.cst (.int 2))) (.cons (.fld (.var 3) 211530987 [1]) .nil))))) (.cons (.asg (.nm 4) (.mk 3 49 (.cons
  (.var 2) (.cons (.var 3) .nil)))) (.cons (.exp (.met (.var 4) 211530982 [(3, 53)] .nil)) (.cons (.asg (.nm 5) (.call 16 (.cons (.var 4) (.cons (.var 3) .nil)))) (.cons (.asg (.nm 6) (.lc2 [13, 14] [14] (.nm 13) (.seq (.slcL (.fld
  (.var 2) 1817583 [1, 2]) (.cst (.int 1)))) .yes (.nm 14) (.seq (.call 5 (.cons (.var 13) .nil))) .yes (.met (.fld (.var 2) 27340091636 [2, 3, 4]) 1849332 [(0, 30)] (.cons (.var 14) .nil)))) (.cons (.asg (.nm 7) (.met (.fld (.var
  2) 27340091636 [2, 3, 4]) 3463328822883 [(0, 35)] (.cons (.lc2 [13, 15] [15] (.nm 13) (.seq (.slcL (.fld (.var 2) 1817583 [1, 2]) (.cst (.int 1)))) .yes (.nm 15) (.seq (.call 6 (.cons (.var 13) .nil))) .yes (.var 15)) .nil))) (.cons
  (.ret (.tup (.cons (.var 4) (.cons (.var 5) (.cons (.call 13 (.cons (.bin .add (.var 6) (.lc [14] (.nm 14) (.seq (.call 12 (.cons (.var 5) .nil))) (.vl (.cmp .isin (.var 14) (.var 7))) (.var 14))) .nil)) .nil))))) .nil))))))))))⟩
def d_worked_function : Df := ⟨"worked_function", ["known", "function", "walker", "root", "effects", "term", "typed", "reached", "name", "parameter", "kind", "result", "expression", "one", "place", "thing"], ["known", "function"], defArgs (top 40), defBody (top 40), defScope (top 40), f_worked_function, none, "worked_function"⟩
def f_worked_program : Fn := ⟨7, 1, (.cons (.par [2, 3] (.cons .ndc (.cons (.nls .nil) .nil))) (.cons (.fr (.nm 1) (.seq (.var 0)) (.cons (.asg (.tp (.cons (.nm 4) (.cons (.nm 5) (.cons (.nm 6) .nil)))) (.call 18 (.cons (.var 2) (.cons
  (.var 1) .nil)))) (.cons (.exp (.mth .append (.var 3) (.cons (.bin .add (.bin .add (.bin .add (.tup (.cons (.idx (.var 1) (.cst (.int 0))) .nil)) (.slcH (.call 17 (.cons (.var 5) (.cons (.var 6) .nil))) (.cst (.int 1)))) (.tup (.cons
  (.idx (.var 1) (.cst (.int 1))) .nil))) (.slcL (.call 17 (.cons (.var 5) (.cons (.var 6) .nil))) (.cst (.int 1)))) .nil))) (.cons (.sti (.var 2) (.idx (.var 1) (.cst (.int 0))) (.mk 4 56 (.cons (.var 4) (.cons (.fld (.var 4) 31081608427
  [3, 4]) (.cons (.var 6) .nil))))) .nil)))) (.cons (.ret (.tup (.cons (.var 2) (.cons (.var 3) .nil)))) .nil)))⟩
def d_worked_program : Df := ⟨"worked_program", ["program", "function", "known", "rows", "effects", "term", "first"], ["program"], defArgs (top 41), defBody (top 41), defScope (top 41), f_worked_program, none, "worked_program"⟩
def f_worked_ask : Fn := ⟨7, 2, (.cons (.asg (.nm 2) (.mk 2 38 (.cons (.var 0) (.cons (.cst .non) .nil)))) (.cons (.asg (.nm 3) (.mk 3 49 (.cons (.var 2) (.cons (.met (.var 2) 245102707 [(2, 39)] (.cons (.var 1) (.cons (.cst (.tup
  [])) .nil))) .nil)))) (.cons (.exp (.met (.var 3) 211530982 [(3, 53)] .nil)) (.cons (.asg (.tp (.cons (.nm 4) (.cons (.nm 5) .nil))) (.tup (.cons (.call 16 (.cons (.var 3) (.cons (.fld (.var 3) 245102578 [3]) .nil))) (.cons (.met
  (.var 3) 2239803977646783075817616999 [(3, 55)] .nil) .nil)))) (.cons (.ret (.tup (.cons (.var 3) (.cons (.var 4) (.cons (.lc [6] (.nm 6) (.seq (.call 13 (.cons (.call 12 (.cons (.var 4) .nil)) .nil))) (.vl (.cmp .isin (.var 6) (.var
  5))) (.var 6)) .nil))))) .nil)))))⟩
def d_worked_ask : Df := ⟨"worked_ask", ["known", "ask", "walker", "effects", "term", "left", "place"], ["known", "ask"], defArgs (top 42), defBody (top 42), defScope (top 42), f_worked_ask, none, "worked_ask"⟩
def f_placed_ask : Fn := ⟨5, 2, (.cons (.asg (.tp (.cons (.nm 2) (.cons (.nm 3) (.cons (.nm 4) .nil)))) (.call 20 (.cons (.idx (.call 19 (.cons (.var 0) .nil)) (.cst (.int 0))) (.cons (.var 1) .nil)))) (.cons (.ret (.call 17 (.cons
  (.var 3) (.cons (.var 4) .nil)))) .nil))⟩
def d_placed_ask : Df := ⟨"placed_ask", ["program", "ask", "effects", "term", "first"], ["program", "ask"], defArgs (top 43), defBody (top 43), defScope (top 43), f_placed_ask, none, "placed_ask"⟩
def f__law_cup : Fn := ⟨2, 1, (.cons (.asg (.nm 1) (.blt .abs (.cons (.idx (.bin .add (.blt .list (.cons (.var 0) .nil)) (.cst (.lst [(.int 0)]))) (.cst (.int 0))) .nil))) (.cons (.ret (.nls (.cons (.ite (.vl (.cmp .ge (.var 1) (.bin
  .pow (.cst (.int 10)) (.cst (.int 18))))) (.bin .fdiv (.var 1) (.cst (.int 67))) (.cst (.int 0))) (.cons (.bin .add (.bin .mod (.blt .int (.cons (.bin .add (.bin .mul (.var 1) (.cst (.int 277))) (.cst (.int 2609))) .nil)) (.cst (.int
  2077503167))) (.cst (.int 163))) .nil)))) .nil))⟩
def d__law_cup : Df := ⟨"_law_cup", ["script", "cell"], ["script"], defArgs (top 45), defBody (top 45), defScope (top 45), f__law_cup, none, "_law_cup"⟩
def f__law_roll : Fn := ⟨4, 2, (.cons (.ifs (.vl (.cmp .gt (.idx (.var 0) (.cst (.int 0))) (.cst (.int 0)))) (.cons (.asg (.nm 3) (.bin .mod (.blt .int (.cons (.idx (.var 0) (.cst (.int 0))) .nil)) (.var 1))) (.cons (.sti (.var 0)
  (.cst (.int 0)) (.bin .fdiv (.idx (.var 0) (.cst (.int 0))) (.var 1))) (.cons (.ret (.var 3)) .nil))) .nil) (.cons (.sti (.var 0) (.cst (.int 1)) (.bin .mod (.blt .int (.cons (.bin .add (.bin .mul (.idx (.var 0) (.cst (.int 1)))
  (.cst (.int 31051))) (.cst (.int 7993))) .nil)) (.cst (.int 2147483543)))) (.cons (.asg (.nm 2) (.bin .mod (.blt .int (.cons (.bin .mul (.idx (.var 0) (.cst (.int 1))) (.bin .add (.idx (.var 0) (.cst (.int 1))) (.cst (.int 229))))
  .nil)) (.cst (.int 2147483587)))) (.cons (.ret (.bin .mod (.blt .int (.cons (.bin .fdiv (.var 2) (.cst (.int 821))) .nil)) (.var 1))) .nil))))⟩
def d__law_roll : Df := ⟨"_law_roll", ["cup", "many", "deep", "found"], ["cup", "many"], defArgs (top 46), defBody (top 46), defScope (top 46), f__law_roll, none, "_law_roll"⟩
def f__law_some : Fn := ⟨2, 2, (.cons (.ret (.idx (.var 1) (.call 23 (.cons (.var 0) (.cons (.blt .len (.cons (.var 1) .nil)) .nil))))) .nil)⟩
def d__law_some : Df := ⟨"_law_some", ["cup", "things"], ["cup", "things"], defArgs (top 47), defBody (top 47), defScope (top 47), f__law_some, none, "_law_some"⟩
def f__law_rows : Fn := ⟨16, 2, (.cons (.asg (.tp (.cons (.nm 11) (.cons (.nm 12) (.cons (.nm 13) (.cons (.nm 14) .nil))))) (.tup (.cons (.cst (.tup [(.str "var"), (.str "p")])) (.cons (.cst (.tup [(.str "var"), (.str "x")])) (.cons
  (.cst (.tup [(.str "var"), (.str "y")])) (.cons (.tup (.cons (.cst (.str "pair")) (.cons (.var 0) (.cons (.var 1) .nil)))) .nil)))))) (.cons (.own 2 (.cons (.tup (.cons (.var 14) (.cons (.tup (.cons (.cst (.tup [(.int 0)])) (.cons
  (.bin .add (.var 14) (.cst (.tup [(.int 0)]))) .nil))) .nil))) (.cons (.tup (.cons (.tup (.cons (.cst (.str "split")) (.cons (.cst (.str "x")) (.cons (.cst (.str "y")) (.cons (.var 14) (.cons (.var 12) .nil)))))) (.cons (.tup (.cons
  (.cst (.tup [])) (.cons (.tup (.cons (.cst (.str "make")) (.cons (.cst (.tup [(.int 0)])) (.cons (.tup (.cons (.cst (.str "split")) (.cons (.cst (.str "x")) (.cons (.cst (.str "y")) (.cons (.bin .add (.var 14) (.cst (.tup [(.int
  0)]))) (.cons (.var 12) (.cons (.cst (.int 0)) .nil))))))) .nil)))) .nil))) .nil))) .nil))) (.cons (.asg (.nm 3) (.tup (.cons (.cst (.str "fun")) (.cons (.cst (.str "x")) (.cons (.cst (.str "int")) (.cons (.var 12) .nil)))))) (.cons
  (.app 2 (.tup (.cons (.tup (.cons (.cst (.str "let")) (.cons (.cst (.str "f")) (.cons (.var 3) (.cons (.tup (.cons (.cst (.str "use")) (.cons (.cst (.tup [(.str "var"), (.str "f")])) (.cons (.var 0) .nil)))) .nil))))) (.cons (.tup
  (.cons (.cst (.tup [])) (.cons (.tup (.cons (.cst (.str "make")) (.cons (.cst (.tup [(.int 0)])) (.cons (.tup (.cons (.cst (.str "let")) (.cons (.cst (.str "f")) (.cons (.bin .add (.var 3) (.cst (.tup [(.int 0)]))) (.cons (.tup (.cons
  (.cst (.str "use")) (.cons (.cst (.tup [(.str "var"), (.str "f")])) (.cons (.var 0) (.cons (.cst (.int 0)) .nil))))) .nil))))) .nil)))) .nil))) .nil)))) (.cons (.app 2 (.tup (.cons (.tup (.cons (.cst (.str "if")) (.cons (.cst (.tup
  [(.str "truth"), (.bl true)])) (.cons (.var 14) (.cons (.tup (.cons (.cst (.str "pair")) (.cons (.var 1) (.cons (.var 0) .nil)))) .nil))))) (.cons (.tup (.cons (.cst (.tup [(.int 0)])) (.cons (.tup (.cons (.cst (.str "if")) (.cons
  (.cst (.tup [(.str "truth"), (.bl true)])) (.cons (.bin .add (.var 14) (.cst (.tup [(.int 0)]))) (.cons (.tup (.cons (.cst (.str "pair")) (.cons (.var 1) (.cons (.var 0) (.cons (.cst (.int 0)) .nil))))) .nil))))) .nil))) .nil))))
  (.cons (.asg (.nm 4) (.tup (.cons (.cst (.str "cons")) (.cons (.var 0) (.cons (.cst (.tup [(.str "nil"), (.str "int")])) .nil))))) (.cons (.app 2 (.tup (.cons (.tup (.cons (.cst (.str "case")) (.cons (.var 4) (.cons (.var 1) (.cons
  (.cst (.str "x")) (.cons (.cst (.str "y")) (.cons (.var 12) .nil))))))) (.cons (.tup (.cons (.cst (.tup [])) (.cons (.tup (.cons (.cst (.str "make")) (.cons (.cst (.tup [(.int 0)])) (.cons (.tup (.cons (.cst (.str "case")) (.cons
  (.bin .add (.var 4) (.cst (.tup [(.int 0)]))) (.cons (.var 1) (.cons (.cst (.str "x")) (.cons (.cst (.str "y")) (.cons (.var 12) (.cons (.cst (.int 0)) .nil)))))))) .nil)))) .nil))) .nil)))) (.cons (.asg (.nm 5) (.tup (.cons (.cst
  (.str "fun")) (.cons (.cst (.str "x")) (.cons (.cst (.str "int")) (.cons (.tup (.cons (.cst (.str "split")) (.cons (.cst (.str "a")) (.cons (.cst (.str "b")) (.cons (.var 11) (.cons (.cst (.tup [(.str "var"), (.str "a")])) .nil))))))
  .nil)))))) (.cons (.asg (.nm 6) (.tup (.cons (.cst (.str "make")) (.cons (.cst (.tup [(.int 1)])) (.cons (.tup (.cons (.cst (.str "let")) (.cons (.cst (.str "f")) (.cons (.tup (.cons (.cst (.str "fun")) (.cons (.cst (.str "x")) (.cons
  (.cst (.str "int")) (.cons (.tup (.cons (.cst (.str "split")) (.cons (.cst (.str "a")) (.cons (.cst (.str "b")) (.cons (.var 11) (.cons (.cst (.tup [(.str "var"), (.str "a")])) (.cons (.cst (.int 0)) .nil))))))) (.cons (.cst (.int
  1)) .nil)))))) (.cons (.tup (.cons (.cst (.str "use")) (.cons (.cst (.tup [(.str "var"), (.str "f")])) (.cons (.var 1) (.cons (.cst (.int 1)) .nil))))) .nil))))) .nil))))) (.cons (.app 2 (.tup (.cons (.tup (.cons (.cst (.str "let"))
  (.cons (.cst (.str "p")) (.cons (.var 14) (.cons (.tup (.cons (.cst (.str "let")) (.cons (.cst (.str "f")) (.cons (.var 5) (.cons (.tup (.cons (.cst (.str "use")) (.cons (.cst (.tup [(.str "var"), (.str "f")])) (.cons (.var 1) .nil))))
  .nil))))) .nil))))) (.cons (.tup (.cons (.cst (.tup [])) (.cons (.tup (.cons (.cst (.str "make")) (.cons (.cst (.tup [(.int 0)])) (.cons (.tup (.cons (.cst (.str "let")) (.cons (.cst (.str "p")) (.cons (.bin .add (.var 14) (.cst
  (.tup [(.int 0)]))) (.cons (.var 6) .nil))))) .nil)))) .nil))) .nil)))) (.cons (.asg (.nm 7) (.tup (.cons (.cst (.str "fun")) (.cons (.cst (.str "x")) (.cons (.cst (.str "int")) (.cons (.tup (.cons (.cst (.str "pair")) (.cons (.var
  12) (.cons (.var 0) .nil)))) .nil)))))) (.cons (.app 2 (.tup (.cons (.tup (.cons (.cst (.str "let")) (.cons (.cst (.str "f")) (.cons (.var 7) (.cons (.var 1) .nil))))) (.cons (.tup (.cons (.cst (.tup [])) (.cons (.tup (.cons (.cst
  (.str "make")) (.cons (.cst (.tup [(.int 0)])) (.cons (.tup (.cons (.cst (.str "let")) (.cons (.cst (.str "f")) (.cons (.tup (.cons (.cst (.str "fun")) (.cons (.cst (.str "x")) (.cons (.cst (.str "int")) (.cons (.tup (.cons (.cst
  (.str "pair")) (.cons (.var 12) (.cons (.var 0) (.cons (.cst (.int 1)) .nil))))) (.cons (.cst (.int 0)) .nil)))))) (.cons (.var 1) .nil))))) .nil)))) .nil))) .nil)))) (.cons (.asg (.nm 8) (.tup (.cons (.cst (.str "read")) (.cons
  (.tup (.cons (.cst (.str "open")) (.cons (.var 0) .nil))) .nil)))) (.cons (.asg (.nm 9) (.cst (.tup [(.str "after"), (.tup [(.str "close"), (.tup [(.str "var"), (.str "f")])]), (.tup [(.str "var"), (.str "n")])]))) (.cons (.app 2
  (.tup (.cons (.tup (.cons (.cst (.str "split")) (.cons (.cst (.str "f")) (.cons (.cst (.str "n")) (.cons (.var 8) (.cons (.var 9) .nil)))))) (.cons (.tup (.cons (.cst (.tup [])) (.cons (.tup (.cons (.cst (.str "make")) (.cons (.cst
  (.tup [(.int 0)])) (.cons (.tup (.cons (.cst (.str "split")) (.cons (.cst (.str "f")) (.cons (.cst (.str "n")) (.cons (.bin .add (.var 8) (.cst (.tup [(.int 0)]))) (.cons (.var 9) (.cons (.cst (.int 0)) .nil))))))) .nil)))) .nil)))
  .nil)))) (.cons (.owna 2 (.var 2) (.lst (.cons (.cst (.tup [(.tup [(.str "nil"), (.str "int")]), (.tup [(.tup []), (.tup [(.str "nil"), (.str "int")])])])) (.cons (.tup (.cons (.tup (.cons (.cst (.str "cons")) (.cons (.var 14) (.cons
  (.cst (.tup [(.str "nil"), (.tup [(.str "pair"), (.str "int"), (.str "int")])])) .nil)))) (.cons (.tup (.cons (.cst (.tup [(.int 0), (.int 1)])) (.cons (.tup (.cons (.cst (.str "cons")) (.cons (.bin .add (.var 14) (.cst (.tup [(.int
  0)]))) (.cons (.cst (.tup [(.str "nil"), (.tup [(.str "pair"), (.str "int"), (.str "int")])])) (.cons (.cst (.int 1)) .nil))))) .nil))) .nil))) .nil)))) (.cons (.asg (.nm 10) (.tup (.cons (.cst (.str "split")) (.cons (.cst (.str
  "x")) (.cons (.cst (.str "y")) (.cons (.var 14) (.cons (.tup (.cons (.cst (.str "raise")) (.cons (.cst (.str "int")) (.cons (.var 12) .nil)))) .nil))))))) (.cons (.par [15, 5] (.cons (.tup (.cons (.cst (.str "pair")) (.cons (.var
  14) (.cons (.var 0) .nil)))) (.cons (.tup (.cons (.cst (.str "split")) (.cons (.cst (.str "a")) (.cons (.cst (.str "b")) (.cons (.var 12) (.cons (.cst (.tup [(.str "var"), (.str "a")])) .nil)))))) .nil))) (.cons (.app 2 (.tup (.cons
  (.tup (.cons (.cst (.str "split")) (.cons (.cst (.str "x")) (.cons (.cst (.str "y")) (.cons (.var 15) (.cons (.var 5) .nil)))))) (.cons (.tup (.cons (.cst (.tup [])) (.cons (.tup (.cons (.cst (.str "make")) (.cons (.cst (.tup [(.int
  0), (.int 1)])) (.cons (.tup (.cons (.cst (.str "split")) (.cons (.cst (.str "x")) (.cons (.cst (.str "y")) (.cons (.tup (.cons (.cst (.str "pair")) (.cons (.bin .add (.var 14) (.cst (.tup [(.int 1)]))) (.cons (.var 0) (.cons (.cst
  (.int 0)) .nil))))) (.cons (.bin .add (.var 5) (.cst (.tup [(.int 1)]))) (.cons (.cst (.int 0)) .nil))))))) .nil)))) .nil))) .nil)))) (.cons (.app 2 (.tup (.cons (.tup (.cons (.cst (.str "try")) (.cons (.var 10) (.cons (.cst (.str
  "e")) (.cons (.cst (.tup [(.str "var"), (.str "e")])) .nil))))) (.cons (.tup (.cons (.cst (.tup [])) (.cons (.tup (.cons (.cst (.str "try")) (.cons (.tup (.cons (.cst (.str "make")) (.cons (.cst (.tup [(.int 0)])) (.cons (.tup (.cons
  (.cst (.str "split")) (.cons (.cst (.str "x")) (.cons (.cst (.str "y")) (.cons (.bin .add (.var 14) (.cst (.tup [(.int 0)]))) (.cons (.tup (.cons (.cst (.str "raise")) (.cons (.cst (.str "int")) (.cons (.var 12) .nil)))) (.cons (.cst
  (.int 0)) .nil))))))) .nil)))) (.cons (.cst (.str "e")) (.cons (.cst (.tup [(.str "var"), (.str "e")])) .nil))))) .nil))) .nil)))) (.cons (.ret (.var 2)) .nil)))))))))))))))))))))⟩
def d__law_rows : Df := ⟨"_law_rows", ["one", "two", "found", "same", "longer", "inner", "due", "never", "read", "last", "tried", "p", "x", "y", "pair", "deep"], ["one", "two"], defArgs (top 48), defBody (top 48), defScope (top 48), f__law_rows, none, "_law_rows"⟩
def f_law : Fn := ⟨4, 1, (.cons (.asg (.nm 1) (.call 22 (.cons (.var 0) .nil))) (.cons (.fr (.tp (.cons (.nm 2) (.cons (.nm 3) .nil))) (.seq (.call 25 (.cons (.tup (.cons (.cst (.str "int")) (.cons (.call 23 (.cons (.var 1) (.cons
  (.cst (.int 1000)) .nil))) .nil))) (.cons (.tup (.cons (.cst (.str "int")) (.cons (.call 23 (.cons (.var 1) (.cons (.cst (.int 1000)) .nil))) .nil))) .nil)))) (.cons (.ifs (.vl (.cmp .ne (.blt .repr (.cons (.call 21 (.cons (.cst
  (.tup [])) (.cons (.var 2) .nil))) .nil)) (.blt .repr (.cons (.var 3) .nil)))) (.cons (.ret (.cst (.bl false))) .nil) .nil) .nil)) (.cons (.ret (.cst (.bl true))) .nil)))⟩
def d_law : Df := ⟨"law", ["script", "cup", "ask", "due"], ["script"], defArgs (top 49), defBody (top 49), defScope (top 49), f_law, none, "law"⟩
def f_Table___init__ : Fn := ⟨1, 1, (.cons (.fst (.var 0) 14453 [0] (.nls .nil)) (.cons (.fst (.var 0) 3807976961271 [0] .ndc) .nil))⟩
def d_Table___init__ : Df := ⟨"__init__", ["self"], ["self"], defArgs (clsSt (top 3) 0), defBody (clsSt (top 3) 0), defScope (clsSt (top 3) 0), f_Table___init__, some "Table", "Table.__init__"⟩
def f_Table_many : Fn := ⟨1, 1, (.cons (.ret (.blt .len (.cons (.fld (.var 0) 14453 [0]) .nil))) .nil)⟩
def d_Table_many : Df := ⟨"many", ["self"], ["self"], defArgs (clsSt (top 3) 1), defBody (clsSt (top 3) 1), defScope (clsSt (top 3) 1), f_Table_many, some "Table", "Table.many"⟩
def f_Table_new : Fn := ⟨2, 2, (.cons (.exp (.mth .append (.fld (.var 0) 14453 [0]) (.cons (.blt .len (.cons (.fld (.var 0) 14453 [0]) .nil)) .nil))) (.cons (.ifs (.vl (.var 1)) (.cons (.sti (.fld (.var 0) 3807976961271 [0]) (.bin
  .sub (.blt .len (.cons (.fld (.var 0) 14453 [0]) .nil)) (.cst (.int 1))) (.cst (.lst []))) .nil) .nil) (.cons (.ret (.bin .sub (.blt .len (.cons (.fld (.var 0) 14453 [0]) .nil)) (.cst (.int 1)))) .nil)))⟩
def d_Table_new : Df := ⟨"new", ["self", "is_bag"], ["self", "is_bag"], defArgs (clsSt (top 3) 2), defBody (clsSt (top 3) 2), defScope (clsSt (top 3) 2), f_Table_new, some "Table", "Table.new"⟩
def f_Table_top : Fn := ⟨2, 2, (.cons (.whl (.vl (.cmp .ne (.idx (.fld (.var 0) 14453 [0]) (.var 1)) (.var 1))) (.cons (.asg (.nm 1) (.idx (.fld (.var 0) 14453 [0]) (.var 1))) .nil)) (.cons (.ret (.var 1)) .nil))⟩
def d_Table_top : Df := ⟨"top", ["self", "thing"], ["self", "thing"], defArgs (clsSt (top 3) 3), defBody (clsSt (top 3) 3), defScope (clsSt (top 3) 3), f_Table_top, some "Table", "Table.top"⟩
def f_Table_join : Fn := ⟨3, 3, (.cons (.par [1, 2] (.cons (.met (.var 0) 1849332 [(0, 30)] (.cons (.var 1) .nil)) (.cons (.met (.var 0) 1849332 [(0, 30)] (.cons (.var 2) .nil)) .nil))) (.cons (.ifs (.vl (.cmp .ne (.var 1) (.var 2)))
  (.cons (.sti (.fld (.var 0) 14453 [0]) (.var 2) (.var 1)) (.cons (.ifs (.vl (.cmp .isin (.var 2) (.fld (.var 0) 3807976961271 [0]))) (.cons (.sti (.fld (.var 0) 3807976961271 [0]) (.var 1) (.bin .add (.idx (.fld (.var 0) 3807976961271
  [0]) (.var 1)) (.idx (.fld (.var 0) 3807976961271 [0]) (.var 2)))) .nil) .nil) .nil)) .nil) .nil))⟩
def d_Table_join : Df := ⟨"join", ["self", "one", "other"], ["self", "one", "other"], defArgs (clsSt (top 3) 4), defBody (clsSt (top 3) 4), defScope (clsSt (top 3) 4), f_Table_join, some "Table", "Table.join"⟩
def f_Table_is_bag : Fn := ⟨2, 2, (.cons (.ret (.cmp .isin (.met (.var 0) 1849332 [(0, 30)] (.cons (.var 1) .nil)) (.fld (.var 0) 3807976961271 [0]))) .nil)⟩
def d_Table_is_bag : Df := ⟨"is_bag", ["self", "thing"], ["self", "thing"], defArgs (clsSt (top 3) 5), defBody (clsSt (top 3) 5), defScope (clsSt (top 3) 5), f_Table_is_bag, some "Table", "Table.is_bag"⟩
def f_Table_put : Fn := ⟨6, 3, (.cons (.asg (.nm 3) (.met (.var 0) 243021812 [(0, 34)] (.cons (.idx (.fld (.var 0) 3807976961271 [0]) (.met (.var 0) 1849332 [(0, 30)] (.cons (.var 1) .nil))) .nil))) (.cons (.asg (.nm 4) (.lc [5] (.nm
  5) (.seq (.met (.var 0) 243021812 [(0, 34)] (.cons (.var 2) .nil))) (.vl (.cmp .nin (.var 5) (.var 3))) (.var 5))) (.cons (.sti (.fld (.var 0) 3807976961271 [0]) (.met (.var 0) 1849332 [(0, 30)] (.cons (.var 1) .nil)) (.bin .add
  (.var 3) (.var 4))) (.cons (.ret (.cmp .ne (.var 4) (.cst (.lst [])))) .nil))))⟩
def d_Table_put : Df := ⟨"put", ["self", "bag", "things", "had", "more", "thing"], ["self", "bag", "things"], defArgs (clsSt (top 3) 6), defBody (clsSt (top 3) 6), defScope (clsSt (top 3) 6), f_Table_put, some "Table", "Table.put"⟩
def f_Table_tops : Fn := ⟨3, 2, (.cons (.ret (.sset (.lc [2] (.nm 2) (.seq (.var 1)) .yes (.met (.var 0) 1849332 [(0, 30)] (.cons (.var 2) .nil))))) .nil)⟩
def d_Table_tops : Df := ⟨"tops", ["self", "things", "thing"], ["self", "things"], defArgs (clsSt (top 3) 7), defBody (clsSt (top 3) 7), defScope (clsSt (top 3) 7), f_Table_tops, some "Table", "Table.tops"⟩
def f_Table_closed : Fn := ⟨5, 2, (.cons (.par [2, 3] (.cons .ndc (.cons (.met (.var 0) 243021812 [(0, 34)] (.cons (.var 1) .nil)) .nil))) (.cons (.whl (.vl (.var 3)) (.cons (.par [4, 3] (.cons (.idx (.var 3) (.cst (.int 0))) (.cons
  (.slcL (.var 3) (.cst (.int 1))) .nil))) (.cons (.ifs (.vl (.cmp .nin (.var 4) (.var 2))) (.cons (.sti (.var 2) (.var 4) (.cst (.bl true))) (.cons (.asg (.nm 3) (.bin .add (.var 3) (.met (.var 0) 243021812 [(0, 34)] (.cons (.mth
  .get (.fld (.var 0) 3807976961271 [0]) (.cons (.var 4) (.cons (.cst (.lst [])) .nil))) .nil)))) .nil)) .nil) .nil))) (.cons (.ret (.blt .sorted (.cons (.var 2) .nil))) .nil)))⟩
def d_Table_closed : Df := ⟨"closed", ["self", "things", "found", "line", "thing"], ["self", "things"], defArgs (clsSt (top 3) 8), defBody (clsSt (top 3) 8), defScope (clsSt (top 3) 8), f_Table_closed, some "Table", "Table.closed"⟩
def f_Spot___init__ : Fn := ⟨3, 3, (.cons (.fst (.var 0) 1022628936491416173669 [1] (.var 1)) (.cons (.fst (.var 0) 3465748937057 [1] (.var 2)) (.cons (.fst (.var 0) 31115227376 [1] (.cst (.lst []))) (.cons (.fst (.var 0) 211530987
  [1] (.cst (.str "unit"))) (.cons (.fst (.var 0) 1817583 [1, 2] (.cst (.lst []))) (.cons (.fst (.var 0) 27321202288 [1] (.cst .non)) (.cons (.fst (.var 0) 1915632 [1] (.cst .non)) (.cons (.fst (.var 0) 62389650508478953 [1] (.cst
  (.bl false))) .nil))))))))⟩
def d_Spot___init__ : Df := ⟨"__init__", ["self", "expression", "around"], ["self", "expression", "around"], defArgs (clsSt (top 19) 0), defBody (clsSt (top 19) 0), defScope (clsSt (top 19) 0), f_Spot___init__, some "Spot", "Spot.__init__"⟩
def f_Spot_lies : Fn := ⟨2, 2, (.cons (.fst (.var 0) 27321202288 [1] (.var 1)) (.cons (.fst (.var 0) 1817583 [1, 2] (.bin .add (.fld (.var 0) 1817583 [1, 2]) (.lst (.cons (.var 1) .nil)))) .nil))⟩
def d_Spot_lies : Df := ⟨"lies", ["self", "place"], ["self", "place"], defArgs (clsSt (top 19) 1), defBody (clsSt (top 19) 1), defScope (clsSt (top 19) 1), f_Spot_lies, some "Spot", "Spot.lies"⟩
def f_Walker___init__ : Fn := ⟨3, 3, (.cons (.fst (.var 0) 27340091636 [2, 3, 4] (.mk 0 27 .nil)) (.cons (.fst (.var 0) 29779294059 [2] (.var 1)) (.cons (.fst (.var 0) 1817583 [1, 2] (.cst .non)) (.cons (.ifs (.vl (.cmp .isn (.var
  2) (.cst .non))) (.cons (.fst (.var 0) 1817583 [1, 2] (.tup (.cons (.idx (.var 2) (.cst (.int 0))) (.cons (.call 1 (.cons (.fld (.var 0) 27340091636 [2, 3, 4]) (.cons (.idx (.var 2) (.cst (.int 1))) .nil))) (.cons (.call 1 (.cons
  (.fld (.var 0) 27340091636 [2, 3, 4]) (.cons (.idx (.var 2) (.cst (.int 2))) .nil))) .nil))))) .nil) .nil) .nil))))⟩
def d_Walker___init__ : Df := ⟨"__init__", ["self", "known", "own"], ["self", "known", "own"], defArgs (clsSt (top 20) 0), defBody (clsSt (top 20) 0), defScope (clsSt (top 20) 0), f_Walker___init__, some "Walker", "Walker.__init__"⟩
def f_Walker_spot : Fn := ⟨7, 3, (.cons (.par [3, 4] (.cons (.mk 1 36 (.cons (.var 1) (.cons (.lc [5, 6] (.tp (.cons (.nm 5) (.cons (.nm 6) .nil))) (.seq (.var 2)) .yes (.var 6)) .nil))) (.cons (.idx (.var 1) (.cst (.int 0))) .nil)))
  (.cons (.ifs (.or (.vl (.cmp .eq (.var 4) (.cst (.str "let")))) (.vl (.cmp .eq (.var 4) (.cst (.str "split"))))) (.cons (.exp (.met (.var 0) 27076163554 [(2, 42)] (.cons (.var 3) (.cons (.var 1) (.cons (.var 2) .nil))))) .nil) (.cons
  (.ifs (.or (.vl (.cmp .eq (.var 4) (.cst (.str "case")))) (.vl (.cmp .eq (.var 4) (.cst (.str "if"))))) (.cons (.exp (.met (.var 0) 3806926206051 [(2, 43)] (.cons (.var 3) (.cons (.var 1) (.cons (.var 2) .nil))))) .nil) (.cons (.ifs
  (.vl (.cmp .eq (.var 4) (.cst (.str "try")))) (.cons (.exp (.met (.var 0) 27057092980 [(2, 44)] (.cons (.var 3) (.cons (.var 1) (.cons (.var 2) .nil))))) .nil) (.cons (.ifs (.vl (.cmp .isin (.var 4) (.glb 6))) (.cons (.exp (.met
  (.var 0) 62416317159553766 [(2, 45)] (.cons (.var 3) (.cons (.var 1) (.cons (.var 2) .nil))))) .nil) (.cons (.ifs (.vl (.cmp .eq (.var 4) (.cst (.str "call")))) (.cons (.exp (.met (.var 0) 3463314092259 [(2, 46)] (.cons (.var 3)
  (.cons (.var 1) (.cons (.var 2) .nil))))) .nil) (.cons (.ifs (.or (.vl (.cmp .eq (.var 4) (.cst (.str "nil")))) (.or (.vl (.cmp .eq (.var 4) (.cst (.str "raise")))) (.vl (.cmp .eq (.var 4) (.cst (.str "var")))))) (.cons (.exp (.met
  (.var 0) 27057156334 [(2, 47)] (.cons (.var 3) (.cons (.var 1) (.cons (.var 2) .nil))))) .nil) (.cons (.exp (.met (.var 0) 29749704304 [(2, 48)] (.cons (.var 3) (.cons (.var 1) (.cons (.var 2) .nil))))) .nil)) .nil)) .nil)) .nil))
  .nil)) .nil)) (.cons (.ret (.var 3)) .nil)))⟩
def d_Walker_spot : Df := ⟨"spot", ["self", "expression", "scope", "found", "word", "name", "kind"], ["self", "expression", "scope"], defArgs (clsSt (top 20) 1), defBody (clsSt (top 20) 1), defScope (clsSt (top 20) 1), f_Walker_spot, some "Walker", "Walker.spot"⟩
def f_Walker_part : Fn := ⟨5, 4, (.cons (.asg (.nm 4) (.met (.var 0) 245102707 [(2, 39)] (.cons (.var 2) (.cons (.var 3) .nil)))) (.cons (.fst (.var 1) 31115227376 [1] (.bin .add (.fld (.var 1) 31115227376 [1]) (.lst (.cons (.var 4)
  .nil)))) (.cons (.ret (.fld (.var 4) 211530987 [1])) .nil)))⟩
def d_Walker_part : Df := ⟨"part", ["self", "found", "expression", "scope", "inner"], ["self", "found", "expression", "scope"], defArgs (clsSt (top 20) 2), defBody (clsSt (top 20) 2), defScope (clsSt (top 20) 2), f_Walker_part, some "Walker", "Walker.part"⟩
def f_Walker_join : Fn := ⟨3, 3, (.cons (.exp (.call 7 (.cons (.fld (.var 0) 27340091636 [2, 3, 4]) (.cons (.var 1) (.cons (.var 2) .nil))))) .nil)⟩
def d_Walker_join : Df := ⟨"join", ["self", "one", "other"], ["self", "one", "other"], defArgs (clsSt (top 20) 3), defBody (clsSt (top 20) 3), defScope (clsSt (top 20) 3), f_Walker_join, some "Walker", "Walker.join"⟩
def f_Walker_bound : Fn := ⟨5, 4, (.cons (.asg (.nm 4) (.met (.var 0) 245149936 [(2, 40)] (.cons (.var 1) (.cons (.idx (.var 2) (.cst (.int (-2)))) (.cons (.var 3) .nil))))) (.cons (.ifs (.vl (.cmp .eq (.idx (.var 2) (.cst (.int 0)))
  (.cst (.str "let")))) (.cons (.fst (.var 1) 211530987 [1] (.met (.var 0) 245149936 [(2, 40)] (.cons (.var 1) (.cons (.idx (.var 2) (.cst (.int 3))) (.cons (.bin .add (.var 3) (.tup (.cons (.tup (.cons (.idx (.var 2) (.cst (.int 1)))
  (.cons (.var 4) .nil))) .nil))) .nil))))) (.cons .retn .nil)) .nil) (.cons (.fst (.var 1) 211530987 [1] (.met (.var 0) 245149936 [(2, 40)] (.cons (.var 1) (.cons (.idx (.var 2) (.cst (.int 4))) (.cons (.bin .add (.var 3) (.tup (.cons
  (.tup (.cons (.idx (.var 2) (.cst (.int 1))) (.cons (.idx (.var 4) (.cst (.int 1))) .nil))) (.cons (.tup (.cons (.idx (.var 2) (.cst (.int 2))) (.cons (.idx (.var 4) (.cst (.int 2))) .nil))) .nil)))) .nil))))) (.cons (.exp (.met
  (.var 1) 242840812 [(1, 37)] (.cons (.call 3 (.cons (.var 4) .nil)) .nil))) .nil))))⟩
def d_Walker_bound : Df := ⟨"bound", ["self", "found", "expression", "scope", "one"], ["self", "found", "expression", "scope"], defArgs (clsSt (top 20) 4), defBody (clsSt (top 20) 4), defScope (clsSt (top 20) 4), f_Walker_bound, some "Walker", "Walker.bound"⟩
def f_Walker_chosen : Fn := ⟨6, 4, (.cons (.asg (.nm 4) (.met (.var 0) 245149936 [(2, 40)] (.cons (.var 1) (.cons (.idx (.var 2) (.cst (.int 1))) (.cons (.var 3) .nil))))) (.cons (.fst (.var 1) 211530987 [1] (.met (.var 0) 245149936
  [(2, 40)] (.cons (.var 1) (.cons (.idx (.var 2) (.cst (.int 2))) (.cons (.var 3) .nil))))) (.cons (.ifs (.vl (.cmp .eq (.idx (.var 2) (.cst (.int 0))) (.cst (.str "if")))) (.cons (.exp (.met (.var 0) 232421354 [(0, 31), (2, 41)]
  (.cons (.fld (.var 1) 211530987 [1]) (.cons (.met (.var 0) 245149936 [(2, 40)] (.cons (.var 1) (.cons (.idx (.var 2) (.cst (.int 3))) (.cons (.var 3) .nil)))) .nil)))) (.cons .retn .nil)) .nil) (.cons (.asg (.nm 5) (.tup (.cons (.tup
  (.cons (.idx (.var 2) (.cst (.int 3))) (.cons (.idx (.var 4) (.cst (.int 1))) .nil))) (.cons (.tup (.cons (.idx (.var 2) (.cst (.int 4))) (.cons (.var 4) .nil))) .nil)))) (.cons (.exp (.met (.var 0) 232421354 [(0, 31), (2, 41)] (.cons
  (.fld (.var 1) 211530987 [1]) (.cons (.met (.var 0) 245149936 [(2, 40)] (.cons (.var 1) (.cons (.idx (.var 2) (.cst (.int 5))) (.cons (.bin .add (.var 3) (.var 5)) .nil)))) .nil)))) (.cons (.exp (.met (.var 1) 242840812 [(1, 37)]
  (.cons (.call 3 (.cons (.var 4) .nil)) .nil))) .nil))))))⟩
def d_Walker_chosen : Df := ⟨"chosen", ["self", "found", "expression", "scope", "one", "more"], ["self", "found", "expression", "scope"], defArgs (clsSt (top 20) 5), defBody (clsSt (top 20) 5), defScope (clsSt (top 20) 5), f_Walker_chosen, some "Walker", "Walker.chosen"⟩
def f_Walker_tried : Fn := ⟨4, 4, (.cons (.fst (.var 1) 211530987 [1] (.met (.var 0) 245149936 [(2, 40)] (.cons (.var 1) (.cons (.idx (.var 2) (.cst (.int 1))) (.cons (.var 3) .nil))))) (.cons (.exp (.met (.var 0) 232421354 [(0, 31),
  (2, 41)] (.cons (.fld (.var 1) 211530987 [1]) (.cons (.met (.var 0) 245149936 [(2, 40)] (.cons (.var 1) (.cons (.idx (.var 2) (.cst (.int 3))) (.cons (.bin .add (.var 3) (.tup (.cons (.tup (.cons (.idx (.var 2) (.cst (.int 2))) (.cons
  (.cst (.str "int")) .nil))) .nil))) .nil)))) .nil)))) .nil))⟩
def d_Walker_tried : Df := ⟨"tried", ["self", "found", "expression", "scope"], ["self", "found", "expression", "scope"], defArgs (clsSt (top 20) 6), defBody (clsSt (top 20) 6), defScope (clsSt (top 20) 6), f_Walker_tried, some "Walker", "Walker.tried"⟩
def f_Walker_function : Fn := ⟨10, 4, (.cons (.asg (.tp (.cons (.nm 6) (.cons (.nm 7) (.cons (.nm 8) (.cons (.nm 9) .nil))))) (.var 2)) (.cons (.asg (.nm 4) (.call 1 (.cons (.fld (.var 0) 27340091636 [2, 3, 4]) (.cons (.var 8) .nil))))
  (.cons (.asg (.nm 5) (.met (.var 0) 245149936 [(2, 40)] (.cons (.var 1) (.cons (.var 9) (.cons (.bin .add (.var 3) (.tup (.cons (.tup (.cons (.var 7) (.cons (.var 4) .nil))) .nil))) .nil))))) (.cons (.exp (.met (.var 1) 242840812
  [(1, 37)] (.cons (.met (.fld (.var 0) 27340091636 [2, 3, 4]) 1962734 [(0, 29)] (.cons (.cst (.bl false)) .nil)) .nil))) (.cons (.fst (.var 1) 211530987 [1] (.tup (.cons (.var 6) (.cons (.var 4) (.cons (.var 5) (.cons (.fld (.var
  1) 27321202288 [1]) (.cons (.met (.fld (.var 0) 27340091636 [2, 3, 4]) 1962734 [(0, 29)] (.cons (.cst (.bl true)) .nil)) .nil))))))) .nil)))))⟩
def d_Walker_function : Df := ⟨"function", ["self", "found", "expression", "scope", "one", "other", "word", "name", "kind", "body"], ["self", "found", "expression", "scope"], defArgs (clsSt (top 20) 7), defBody (clsSt (top 20) 7), defScope (clsSt (top 20) 7), f_Walker_function, some "Walker", "Walker.function"⟩
def f_Walker_called : Fn := ⟨13, 4, (.cons (.asg (.tp (.cons (.nm 4) (.cons (.nm 5) (.cons (.nm 6) .nil)))) (.var 2)) (.cons (.fst (.var 1) 62389650508478953 [1] (.and (.cmp .isn (.fld (.var 0) 1817583 [1, 2]) (.cst .non)) (.cmp .eq
  (.var 5) (.idx (.fld (.var 0) 1817583 [1, 2]) (.cst (.int 0)))))) (.cons (.ifs (.vl (.fld (.var 1) 62389650508478953 [1])) (.cons (.unp [.nm 9, .fl 1 211530987 [1]] (.slcL (.fld (.var 0) 1817583 [1, 2]) (.cst (.int 1)))) .nil) (.cons
  (.asg (.nm 7) (.idx (.fld (.var 0) 29779294059 [2]) (.var 5))) (.cons (.asg (.nm 8) (.met (.var 7) 3982185085551 [(4, 57)] (.cons (.fld (.var 0) 27340091636 [2, 3, 4]) .nil))) (.cons (.unp [.nm 9, .fl 1 211530987 [1]] (.lc [10] (.nm
  10) (.seq (.fld (.var 7) 31081608427 [3, 4])) .yes (.call 8 (.cons (.fld (.var 7) 27340091636 [2, 3, 4]) (.cons (.var 10) (.cons (.var 8) .nil)))))) (.cons (.fst (.var 1) 1817583 [1, 2] (.lc [11] (.nm 11) (.seq (.fld (.var 7) 4012518257509
  [4])) .yes (.idx (.var 8) (.var 11)))) (.cons (.fst (.var 1) 1915632 [1] (.lc [12] (.nm 12) (.seq (.fld (.var 7) 3980834681072 [4])) .yes (.idx (.var 8) (.var 12)))) .nil)))))) (.cons (.exp (.met (.var 0) 232421354 [(0, 31), (2,
  41)] (.cons (.met (.var 0) 245149936 [(2, 40)] (.cons (.var 1) (.cons (.var 6) (.cons (.var 3) .nil)))) (.cons (.var 9) .nil)))) .nil))))⟩
def d_Walker_called : Df := ⟨"called", ["self", "found", "expression", "scope", "word", "name", "part", "known", "others", "one", "kind", "thing", "place"], ["self", "found", "expression", "scope"], defArgs (clsSt (top 20) 8), defBody (clsSt (top 20) 8), defScope (clsSt (top 20) 8), f_Walker_called, some "Walker", "Walker.called"⟩
def f_Walker_named : Fn := ⟨6, 4, (.cons (.ifs (.vl (.cmp .eq (.idx (.var 2) (.cst (.int 0))) (.cst (.str "var")))) (.cons (.fst (.var 1) 211530987 [1] (.idx (.lc [4, 5] (.tp (.cons (.nm 4) (.cons (.nm 5) .nil))) (.seq (.var 3)) (.vl
  (.cmp .eq (.var 4) (.idx (.var 2) (.cst (.int 1))))) (.var 5)) (.cst (.int (-1))))) .nil) (.cons (.ifs (.vl (.cmp .eq (.idx (.var 2) (.cst (.int 0))) (.cst (.str "nil")))) (.cons (.fst (.var 1) 211530987 [1] (.tup (.cons (.cst (.str
  "list")) (.cons (.call 1 (.cons (.fld (.var 0) 27340091636 [2, 3, 4]) (.cons (.idx (.var 2) (.cst (.int 1))) .nil))) (.cons (.met (.fld (.var 0) 27340091636 [2, 3, 4]) 1962734 [(0, 29)] (.cons (.cst (.bl false)) .nil)) .nil)))))
  .nil) (.cons (.exp (.met (.var 0) 245149936 [(2, 40)] (.cons (.var 1) (.cons (.idx (.var 2) (.cst (.int 2))) (.cons (.var 3) .nil))))) (.cons (.fst (.var 1) 211530987 [1] (.call 1 (.cons (.fld (.var 0) 27340091636 [2, 3, 4]) (.cons
  (.idx (.var 2) (.cst (.int 1))) .nil)))) .nil))) .nil)) .nil)⟩
def d_Walker_named : Df := ⟨"named", ["self", "found", "expression", "scope", "name", "kind"], ["self", "found", "expression", "scope"], defArgs (clsSt (top 20) 9), defBody (clsSt (top 20) 9), defScope (clsSt (top 20) 9), f_Walker_named, some "Walker", "Walker.named"⟩
def f_Walker_plain : Fn := ⟨9, 4, (.cons (.asg (.nm 4) (.idx (.var 2) (.cst (.int 0)))) (.cons (.asg (.nm 5) (.lc [6] (.nm 6) (.seq (.slcL (.var 2) (.cst (.int 1)))) (.vl (.isi .tuple (.var 6))) (.met (.var 0) 245149936 [(2, 40)] (.cons
  (.var 1) (.cons (.var 6) (.cons (.var 3) .nil)))))) (.cons (.ifs (.or (.vl (.cmp .eq (.var 4) (.cst (.str "pair")))) (.vl (.cmp .isin (.var 4) (.glb 5)))) (.cons (.exp (.met (.var 1) 242840812 [(1, 37)] (.cons (.met (.fld (.var 0)
  27340091636 [2, 3, 4]) 1962734 [(0, 29)] (.cons (.cst (.bl false)) .nil)) .nil))) (.cons (.asg (.tp (.cons (.nm 7) (.cons (.nm 8) .nil))) (.ite (.vl (.cmp .eq (.var 4) (.cst (.str "pair")))) (.var 5) (.tup (.cons (.idx (.glb 5) (.var
  4)) (.cons (.cst (.str "int")) .nil))))) (.cons (.fst (.var 1) 211530987 [1] (.tup (.cons (.cst (.str "pair")) (.cons (.var 7) (.cons (.var 8) (.cons (.fld (.var 1) 27321202288 [1]) .nil)))))) .nil))) (.cons (.ifs (.vl (.cmp .eq
  (.var 4) (.cst (.str "cons")))) (.cons (.fst (.var 1) 211530987 [1] (.idx (.var 5) (.cst (.int 1)))) (.cons (.exp (.met (.var 0) 232421354 [(0, 31), (2, 41)] (.cons (.idx (.var 5) (.cst (.int 0))) (.cons (.idx (.idx (.var 5) (.cst
  (.int 1))) (.cst (.int 1))) .nil)))) (.cons (.exp (.met (.var 1) 242840812 [(1, 37)] (.cons (.call 3 (.cons (.idx (.var 5) (.cst (.int 1))) .nil)) .nil))) .nil))) (.cons (.ifs (.vl (.cmp .eq (.var 4) (.cst (.str "use")))) (.cons
  (.exp (.met (.var 0) 232421354 [(0, 31), (2, 41)] (.cons (.idx (.var 5) (.cst (.int 1))) (.cons (.idx (.idx (.var 5) (.cst (.int 0))) (.cst (.int 1))) .nil)))) (.cons (.unp [.fl 1 211530987 [1], .fl 1 1817583 [1, 2]] (.tup (.cons
  (.idx (.idx (.var 5) (.cst (.int 0))) (.cst (.int 2))) (.cons (.lst (.cons (.call 4 (.cons (.idx (.var 5) (.cst (.int 0))) .nil)) .nil)) .nil)))) (.cons (.exp (.met (.var 1) 242840812 [(1, 37)] (.cons (.call 3 (.cons (.idx (.var
  5) (.cst (.int 0))) .nil)) .nil))) .nil))) (.cons (.ifs (.vl (.cmp .eq (.var 4) (.cst (.str "after")))) (.cons (.fst (.var 1) 211530987 [1] (.idx (.var 5) (.cst (.int 1)))) .nil) (.cons (.fst (.var 1) 211530987 [1] (.ite (.vl (.cmp
  .isin (.var 4) (.glb 2))) (.cst (.str "int")) (.ite (.vl (.cmp .isin (.var 4) (.glb 3))) (.cst (.str "bool")) (.idx (.glb 4) (.var 4))))) .nil)) .nil)) .nil)) .nil)) .nil)))⟩
def d_Walker_plain : Df := ⟨"plain", ["self", "found", "expression", "scope", "word", "kinds", "part", "one", "other"], ["self", "found", "expression", "scope"], defArgs (clsSt (top 20) 10), defBody (clsSt (top 20) 10), defScope (clsSt (top 20) 10), f_Walker_plain, some "Walker", "Walker.plain"⟩
def f_Effects___init__ : Fn := ⟨3, 3, (.cons (.fst (.var 0) 27340091636 [2, 3, 4] (.fld (.var 1) 27340091636 [2, 3, 4])) (.cons (.fst (.var 0) 245102578 [3] (.var 2)) (.cons (.fst (.var 0) 31081608427 [3, 4] (.ite (.vl (.cmp .isn (.fld
  (.var 1) 1817583 [1, 2]) (.cst .non))) (.slcL (.fld (.var 1) 1817583 [1, 2]) (.cst (.int 1))) (.cst (.tup [])))) (.cons (.fst (.var 0) 29749703649 [3] (.cst (.lst []))) (.cons (.fst (.var 0) 929673491674648017385 [3] (.cst (.bl true)))
  .nil)))))⟩
def d_Effects___init__ : Df := ⟨"__init__", ["self", "walker", "root"], ["self", "walker", "root"], defArgs (clsSt (top 22) 0), defBody (clsSt (top 22) 0), defScope (clsSt (top 22) 0), f_Effects___init__, some "Effects", "Effects.__init__"⟩
def f_Effects_out_of : Fn := ⟨4, 2, (.cons (.asg (.nm 2) (.call 6 (.cons (.fld (.var 1) 211530987 [1]) .nil))) (.cons (.fr (.nm 3) (.seq (.bin .add (.fld (.var 1) 3465748937057 [1]) (.blt .list (.cons (.fld (.var 0) 31081608427 [3,
  4]) .nil)))) (.cons (.asg (.nm 2) (.bin .add (.var 2) (.call 6 (.cons (.var 3) .nil)))) .nil)) (.cons (.ret (.met (.fld (.var 0) 27340091636 [2, 3, 4]) 3463328822883 [(0, 35)] (.cons (.var 2) .nil))) .nil)))⟩
def d_Effects_out_of : Df := ⟨"out_of", ["self", "spot", "found", "kind"], ["self", "spot"], defArgs (clsSt (top 22) 1), defBody (clsSt (top 22) 1), defScope (clsSt (top 22) 1), f_Effects_out_of, some "Effects", "Effects.out_of"⟩
def f_Effects_effect : Fn := ⟨5, 2, (.cons (.asg (.nm 2) (.bin .add (.fld (.var 1) 1817583 [1, 2]) (.ite (.vl (.fld (.var 1) 62389650508478953 [1])) (.fld (.var 0) 29749703649 [3]) (.cst (.lst []))))) (.cons (.fr (.nm 3) (.seq (.fld
  (.var 1) 31115227376 [1])) (.cons (.asg (.nm 4) (.met (.var 0) 244953836 [(3, 52)] (.cons (.var 3) .nil))) (.cons (.ifs (.vl (.cmp .isin (.idx (.fld (.var 1) 1022628936491416173669 [1]) (.cst (.int 0))) (.glb 6))) (.cons (.fst (.var
  0) 929673491674648017385 [3] (.or (.met (.fld (.var 0) 27340091636 [2, 3, 4]) 1915632 [(0, 33)] (.cons (.call 4 (.cons (.fld (.var 1) 211530987 [1]) .nil)) (.cons (.var 4) .nil))) (.fld (.var 0) 929673491674648017385 [3]))) .nil)
  (.cons (.asg (.nm 2) (.bin .add (.var 2) (.var 4))) .nil)) .nil))) (.cons (.ret (.met (.fld (.var 0) 27340091636 [2, 3, 4]) 3463328822883 [(0, 35)] (.cons (.var 2) .nil))) .nil)))⟩
def d_Effects_effect : Df := ⟨"effect", ["self", "spot", "found", "part", "left"], ["self", "spot"], defArgs (clsSt (top 22) 2), defBody (clsSt (top 22) 2), defScope (clsSt (top 22) 2), f_Effects_effect, some "Effects", "Effects.effect"⟩
def f_Effects_left : Fn := ⟨4, 2, (.cons (.asg (.nm 2) (.met (.var 0) 3534690794223 [(3, 50)] (.cons (.var 1) .nil))) (.cons (.ret (.lc [3] (.nm 3) (.seq (.met (.var 0) 4012518257509 [(3, 51)] (.cons (.var 1) .nil))) (.vl (.cmp .isin
  (.var 3) (.var 2))) (.var 3))) .nil))⟩
def d_Effects_left : Df := ⟨"left", ["self", "spot", "out", "thing"], ["self", "spot"], defArgs (clsSt (top 22) 3), defBody (clsSt (top 22) 3), defScope (clsSt (top 22) 3), f_Effects_left, some "Effects", "Effects.left"⟩
def f_Effects_find : Fn := ⟨2, 1, (.cons (.whl (.vl (.fld (.var 0) 929673491674648017385 [3])) (.cons (.fst (.var 0) 929673491674648017385 [3] (.cst (.bl false))) (.cons (.asg (.nm 1) (.met (.var 0) 244953836 [(3, 52)] (.cons (.fld
  (.var 0) 245102578 [3]) .nil))) (.cons (.fst (.var 0) 929673491674648017385 [3] (.or (.fld (.var 0) 929673491674648017385 [3]) (.cmp .ne (.var 1) (.fld (.var 0) 29749703649 [3])))) (.cons (.fst (.var 0) 29749703649 [3] (.var 1))
  .nil))))) .nil)⟩
def d_Effects_find : Df := ⟨"find", ["self", "left"], ["self"], defArgs (clsSt (top 22) 4), defBody (clsSt (top 22) 4), defScope (clsSt (top 22) 4), f_Effects_find, some "Effects", "Effects.find"⟩
def f_Effects_made : Fn := ⟨4, 2, (.cons (.asg (.nm 2) (.met (.var 0) 3534690794223 [(3, 50)] (.cons (.var 1) .nil))) (.cons (.ret (.lc [3] (.nm 3) (.seq (.met (.var 0) 4012518257509 [(3, 51)] (.cons (.var 1) .nil))) (.and (.vl (.cmp
  .nin (.var 3) (.var 2))) (.not (.vl (.met (.fld (.var 0) 27340091636 [2, 3, 4]) 3565298383337 [(0, 32)] (.cons (.var 3) .nil))))) (.var 3))) .nil))⟩
def d_Effects_made : Df := ⟨"made", ["self", "spot", "out", "thing"], ["self", "spot"], defArgs (clsSt (top 22) 5), defBody (clsSt (top 22) 5), defScope (clsSt (top 22) 5), f_Effects_made, some "Effects", "Effects.made"⟩
def f_Effects_global_places : Fn := ⟨2, 1, (.cons (.ret (.lc [1] (.nm 1) (.seq (.met (.var 0) 244953836 [(3, 52)] (.cons (.fld (.var 0) 245102578 [3]) .nil))) (.not (.vl (.met (.fld (.var 0) 27340091636 [2, 3, 4]) 3565298383337 [(0,
  32)] (.cons (.var 1) .nil)))) (.var 1))) .nil)⟩
def d_Effects_global_places : Df := ⟨"global_places", ["self", "thing"], ["self"], defArgs (clsSt (top 22) 6), defBody (clsSt (top 22) 6), defScope (clsSt (top 22) 6), f_Effects_global_places, some "Effects", "Effects.global_places"⟩
def f_Known___init__ : Fn := ⟨6, 4, (.cons (.fst (.var 0) 27340091636 [2, 3, 4] (.fld (.var 1) 27340091636 [2, 3, 4])) (.cons (.fst (.var 0) 31081608427 [3, 4] (.var 2)) (.cons (.fst (.var 0) 4012518257509 [4] (.met (.var 1) 244953836
  [(3, 52)] (.cons (.fld (.var 1) 245102578 [3]) .nil))) (.cons (.fst (.var 0) 3980834681072 [4] (.var 3)) (.cons (.fst (.var 0) 443303111193330 [4] (.met (.fld (.var 0) 27340091636 [2, 3, 4]) 3463328822883 [(0, 35)] (.cons (.lc2 [4,
  5] [5] (.nm 4) (.seq (.var 2)) .yes (.nm 5) (.seq (.call 6 (.cons (.var 4) .nil))) .yes (.var 5)) .nil))) .nil)))))⟩
def d_Known___init__ : Df := ⟨"__init__", ["self", "effects", "kinds", "params", "kind", "thing"], ["self", "effects", "kinds", "params"], defArgs (clsSt (top 39) 0), defBody (clsSt (top 39) 0), defScope (clsSt (top 39) 0), f_Known___init__, some "Known", "Known.__init__"⟩
def f_Known_others : Fn := ⟨5, 2, (.cons (.asg (.nm 2) (.dc [3] (.nm 3) (.seq (.fld (.var 0) 443303111193330 [4])) .yes (.var 3) (.met (.var 1) 1962734 [(0, 29)] (.cons (.met (.fld (.var 0) 27340091636 [2, 3, 4]) 3565298383337 [(0,
  32)] (.cons (.var 3) .nil)) .nil)))) (.cons (.fr (.nm 3) (.seq (.fld (.var 0) 443303111193330 [4])) (.cons (.ifs (.vl (.met (.fld (.var 0) 27340091636 [2, 3, 4]) 3565298383337 [(0, 32)] (.cons (.var 3) .nil))) (.cons (.exp (.met
  (.var 1) 1915632 [(0, 33)] (.cons (.idx (.var 2) (.var 3)) (.cons (.lc [4] (.nm 4) (.seq (.met (.fld (.var 0) 27340091636 [2, 3, 4]) 3463328822883 [(0, 35)] (.cons (.lst (.cons (.var 3) .nil)) .nil))) (.vl (.cmp .ne (.var 4) (.var
  3))) (.idx (.var 2) (.var 4))) .nil)))) .nil) .nil) .nil)) (.cons (.ret (.var 2)) .nil)))⟩
def d_Known_others : Df := ⟨"others", ["self", "table", "found", "thing", "one"], ["self", "table"], defArgs (clsSt (top 39) 1), defBody (clsSt (top 39) 1), defScope (clsSt (top 39) 1), f_Known_others, some "Known", "Known.others"⟩
def dfs : List Df := [d_is_arrow, d_placed, d_parts_of, d_place_of, d_bag_of, d_places_in, d_things_in, d_join_types, d_turned, d_parts_at, d_with_parts, d_own_places, d_standing, d_each_once, d_numbered, d_plain_term, d_term_of, d_told, d_worked_function, d_worked_program, d_worked_ask, d_placed_ask, d__law_cup, d__law_roll, d__law_some, d__law_rows, d_law, d_Table___init__, d_Table_many, d_Table_new, d_Table_top, d_Table_join, d_Table_is_bag, d_Table_put, d_Table_tops, d_Table_closed, d_Spot___init__, d_Spot_lies, d_Walker___init__, d_Walker_spot, d_Walker_part, d_Walker_join, d_Walker_bound, d_Walker_chosen, d_Walker_tried, d_Walker_function, d_Walker_called, d_Walker_named, d_Walker_plain, d_Effects___init__, d_Effects_out_of, d_Effects_effect, d_Effects_left, d_Effects_find, d_Effects_made, d_Effects_global_places, d_Known___init__, d_Known_others]
def cls : List ClD := [⟨"Table", 27, 0, [(255570157, 28, 0), (1962734, 29, 1), (1849332, 30, 1), (232421354, 31, 2), (3565298383337, 32, 1), (1915632, 33, 2), (243021812, 34, 1), (3463328822883, 35, 1)], [14453, 3807976961271]⟩, ⟨"Spot",
  36, 2, [(242840812, 37, 1)], [3465748937057, 1022628936491416173669, 62389650508478953, 211530987, 1817583, 31115227376, 27321202288, 1915632]⟩, ⟨"Walker", 38, 2, [(245102707, 39, 2), (245149936, 40, 3), (232421354, 41, 2), (27076163554,
  42, 3), (3806926206051, 43, 3), (27057092980, 44, 3), (62416317159553766, 45, 3), (3463314092259, 46, 3), (27057156334, 47, 3), (29749704304, 48, 3)], [29779294059, 1817583, 27340091636]⟩, ⟨"Effects", 49, 2, [(3534690794223, 50,
  1), (4012518257509, 51, 1), (244953836, 52, 1), (211530982, 53, 0), (213463277, 54, 1), (2239803977646783075817616999, 55, 0)], [29749703649, 929673491674648017385, 31081608427, 245102578, 27340091636]⟩, ⟨"Known", 56, 3, [(3982185085551,
  57, 1)], [4012518257509, 31081608427, 3980834681072, 443303111193330, 27340091636]⟩]
def gls : List (Str × D) := [("GROUND_things", (.tup [(.str "int"), (.str "bool"), (.str "unit"), (.str "file"), (.str "buf")])), ("ARROWS", (.tup [(.str "fun"), (.str "once")])), ("NUMBERS", (.tup [(.str "int"), (.str "plus"), (.str
  "less"), (.str "times"), (.str "over")])), ("TRUTHS", (.tup [(.str "truth"), (.str "below"), (.str "same")])), ("GROUND_spots", (.dct [(.inr "unit", (.str "unit")), (.inr "open", (.str "file")), (.inr "write", (.str "file")), (.inr
  "close", (.str "unit")), (.inr "buf", (.str "buf")), (.inr "put", (.str "buf")), (.inr "free", (.str "unit")), (.inr "print", (.str "unit"))])), ("READS", (.dct [(.inr "read", (.str "file")), (.inr "get", (.str "buf"))])), ("BODIES",
  (.tup [(.str "fun"), (.str "once")])), ("PLACED", (.tup [(.str "pair"), (.str "cons"), (.str "split"), (.str "case"), (.str "fun"), (.str "once"), (.str "use"), (.str "read"), (.str "get")])), ("MAKE", (.str "make")), ("CALL", (.str
  "call")), ("AHEAD", (.tup [(.str "split"), (.str "case"), (.str "make"), (.str "call")])), ("PARTS", (.dct [(.inr "nil", (.tup [])), (.inr "raise", (.tup [(.int 2)])), (.inr "fun", (.tup [(.int 3)])), (.inr "once", (.tup [(.int 3)])),
  (.inr "call", (.tup [(.int 3)])), (.inr "make", (.tup [(.int 2)]))]))]
def bns : List Str := ["abs", "dict", "enumerate", "int", "isinstance", "len", "list", "range", "repr", "set", "sorted", "tuple", "zip"]
theorem binds : ∀ f ∈ dfs, f.Bind :=
  allc (fun _ _ _ _ _ _ us hl => match us, hl with | [_], _ => rfl) <| allc (fun _ _ _ _ _ _ us hl => match us, hl with | [_, _], _ => rfl) <| allc (fun _ _ _ _ _ _ us hl => match us, hl with | [_], _ => rfl) <| allc (fun _ _ _ _ _ _ us hl => match us, hl with | [_], _ => rfl) <| allc (fun _ _ _ _ _ _ us hl => match us, hl with | [_], _ => rfl) <| allc (fun _ _ _ _ _ _ us hl => match us, hl with | [_], _ => rfl) <| allc (fun _ _ _ _ _ _ us hl => match us, hl with | [_], _ => rfl) <| allc (fun _ _ _ _ _ _ us hl => match us, hl with | [_, _, _], _ => rfl) <| allc (fun _ _ _ _ _ _ us hl => match us, hl with | [_, _, _], _ => rfl) <| allc (fun _ _ _ _ _ _ us hl => match us, hl with | [_], _ => rfl) <| allc (fun _ _ _ _ _ _ us hl => match us, hl with | [_, _], _ => rfl) <| allc (fun _ _ _ _ _ _ us hl => match us, hl with | [_], _ => rfl) <| allc (fun _ _ _ _ _ _ us hl => match us, hl with | [_], _ => rfl) <| allc (fun _ _ _ _ _ _ us hl => match us, hl with | [_], _ => rfl) <| allc (fun _ _ _ _ _ _ us hl => match us, hl with | [_, _], _ => rfl) <| allc (fun _ _ _ _ _ _ us hl => match us, hl with | [_, _], _ => rfl) <| allc (fun _ _ _ _ _ _ us hl => match us, hl with | [_, _], _ => rfl) <| allc (fun _ _ _ _ _ _ us hl => match us, hl with | [_, _], _ => rfl) <| allc (fun _ _ _ _ _ _ us hl => match us, hl with | [_, _], _ => rfl) <| allc (fun _ _ _ _ _ _ us hl => match us, hl with | [_], _ => rfl) <| allc (fun _ _ _ _ _ _ us hl => match us, hl with | [_, _], _ => rfl) <| allc (fun _ _ _ _ _ _ us hl => match us, hl with | [_, _], _ => rfl) <| allc (fun _ _ _ _ _ _ us hl => match us, hl with | [_], _ => rfl) <| allc (fun _ _ _ _ _ _ us hl => match us, hl with | [_, _], _ => rfl) <| allc (fun _ _ _ _ _ _ us hl => match us, hl with | [_, _], _ => rfl) <| allc (fun _ _ _ _ _ _ us hl => match us, hl with | [_, _], _ => rfl) <| allc (fun _ _ _ _ _ _ us hl => match us, hl with | [_], _ => rfl) <| allc (fun _ _ _ _ _ _ us hl => match us, hl with | [_], _ => rfl) <| allc (fun _ _ _ _ _ _ us hl => match us, hl with | [_], _ => rfl) <| allc (fun _ _ _ _ _ _ us hl => match us, hl with | [_, _], _ => rfl) <| allc (fun _ _ _ _ _ _ us hl => match us, hl with | [_, _], _ => rfl) <| allc (fun _ _ _ _ _ _ us hl => match us, hl with | [_, _, _], _ => rfl) <| allc (fun _ _ _ _ _ _ us hl => match us, hl with | [_, _], _ => rfl) <| allc (fun _ _ _ _ _ _ us hl => match us, hl with | [_, _, _], _ => rfl) <| allc (fun _ _ _ _ _ _ us hl => match us, hl with | [_, _], _ => rfl) <| allc (fun _ _ _ _ _ _ us hl => match us, hl with | [_, _], _ => rfl) <| allc (fun _ _ _ _ _ _ us hl => match us, hl with | [_, _, _], _ => rfl) <| allc (fun _ _ _ _ _ _ us hl => match us, hl with | [_, _], _ => rfl) <| allc (fun _ _ _ _ _ _ us hl => match us, hl with | [_, _, _], _ => rfl) <| allc (fun _ _ _ _ _ _ us hl => match us, hl with | [_, _, _], _ => rfl) <| allc (fun _ _ _ _ _ _ us hl => match us, hl with | [_, _, _, _], _ => rfl) <| allc (fun _ _ _ _ _ _ us hl => match us, hl with | [_, _, _], _ => rfl) <| allc (fun _ _ _ _ _ _ us hl => match us, hl with | [_, _, _, _], _ => rfl) <| allc (fun _ _ _ _ _ _ us hl => match us, hl with | [_, _, _, _], _ => rfl) <| allc (fun _ _ _ _ _ _ us hl => match us, hl with | [_, _, _, _], _ => rfl) <| allc (fun _ _ _ _ _ _ us hl => match us, hl with | [_, _, _, _], _ => rfl) <| allc (fun _ _ _ _ _ _ us hl => match us, hl with | [_, _, _, _], _ => rfl) <| allc (fun _ _ _ _ _ _ us hl => match us, hl with | [_, _, _, _], _ => rfl) <| allc (fun _ _ _ _ _ _ us hl => match us, hl with | [_, _, _, _], _ => rfl) <| allc (fun _ _ _ _ _ _ us hl => match us, hl with | [_, _, _], _ => rfl) <| allc (fun _ _ _ _ _ _ us hl => match us, hl with | [_, _], _ => rfl) <| allc (fun _ _ _ _ _ _ us hl => match us, hl with | [_, _], _ => rfl) <| allc (fun _ _ _ _ _ _ us hl => match us, hl with | [_, _], _ => rfl) <| allc (fun _ _ _ _ _ _ us hl => match us, hl with | [_], _ => rfl) <| allc (fun _ _ _ _ _ _ us hl => match us, hl with | [_, _], _ => rfl) <| allc (fun _ _ _ _ _ _ us hl => match us, hl with | [_], _ => rfl) <| allc (fun _ _ _ _ _ _ us hl => match us, hl with | [_, _, _, _], _ => rfl) <| allc (fun _ _ _ _ _ _ us hl => match us, hl with | [_, _], _ => rfl) <| fun f hf => by cases hf
-- law is def 26 of the list, statement 49 of the top; other names: ['__name__', 'GROUND_things', 'ARROWS', 'Table', 'is_arrow', 'placed', 'parts_of', 'place_of', 'bag_of', 'places_in', 'things_in', 'join_types', 'turned', 'NUMBERS', 'TRUTHS', 'GROUND_spots', 'READS', 'BODIES', 'Spot', 'Walker', 'Effects', 'PLACED', 'MAKE', 'CALL', 'AHEAD', 'PARTS', 'parts_at', 'with_parts', 'own_places', 'standing', 'each_once', 'numbered', 'plain_term', 'term_of', 'told', 'Known', 'worked_function', 'worked_program', 'worked_ask', 'placed_ask', '_law_cup', '_law_roll', '_law_some', '_law_rows']
-- CLASSES ['Table', 'Spot', 'Walker', 'Effects', 'Known']

theorem okAll : (dfs.all fun f => f.ok (gls.map (·.1)) (sig dfs) (ctOf cls) bns) = true := by decide +kernel
theorem okCls : (cls.all fun c => c.ok dfs) = true := by decide +kernel
abbrev R : PySem.W.OpenRow := PySem.W.OpenLaw.row PySem.Challenge.rw_arenaplaces_k27_written_asks
def names : List Str := (["__name__", "GROUND_things", "ARROWS", "Table", "is_arrow", "placed", "parts_of", "place_of", "bag_of", "places_in", "things_in", "join_types", "turned", "NUMBERS", "TRUTHS", "GROUND_spots", "READS", "BODIES", "Spot", "Walker"] : List Str) ++ (["Effects", "PLACED", "MAKE", "CALL", "AHEAD", "PARTS", "parts_at", "with_parts", "own_places", "standing", "each_once", "numbered", "plain_term", "term_of", "told", "Known", "worked_function", "worked_program", "worked_ask", "placed_ask"] : List Str) ++ (["_law_cup", "_law_roll", "_law_some", "_law_rows"] : List Str)
abbrev qv : Program := PySem.W.view R.prog [49]
theorem run_f (w : World) : HandSHeadRun.RunEq R qv (hookP 6 dfs cls gls bns) (obsP 6 dfs cls gls bns) 4000 names (w.withFollow "special-get-raises" false) := by
  intro os
  kernel_rfl
theorem run_t (w : World) : HandSHeadRun.RunEq R qv (hookP 6 dfs cls gls bns) (obsP 6 dfs cls gls bns) 4000 names (w.withFollow "special-get-raises" true) := by
  intro os
  kernel_rfl
theorem run (w : World) : HandSHeadRun.RunEq R qv (hookP 6 dfs cls gls bns) (obsP 6 dfs cls gls bns) 4000 names w := PySem.W.byRow2 "special-get-raises" (P := fun w => HandSHeadRun.RunEq R qv (hookP 6 dfs cls gls bns) (obsP 6 dfs cls gls bns) 4000 names w) run_f run_t w
end K27

set_option Elab.async false
set_option linter.all false
set_option maxRecDepth 100000
set_option maxHeartbeats 0
namespace K27
open PySem PySem.Spec PyProof.Rows L2 Ev
abbrev fns : List Fn := dfs.map Df.fn
abbrev gv : List D := gls.map (·.2)
/-! ### they can be shown -/
/-- can be shown, in so many signs, so deep -/
def Sk (n k : Nat) (d : D) : Prop := ∃ p, py d = some p ∧ fine p = true ∧ bsz p ≤ n ∧ p.depth ≤ k
def Sks (n k : Nat) (ds : List D) : Prop := ∃ ps, pys ds = some ps ∧ fines ps = true ∧ bszs ps ≤ n ∧ PyData.depthAll ps ≤ k
theorem Sk.mono {n k n' k' : Nat} {d : D} (h : Sk n k d) (h1 : n ≤ n') (h2 : k ≤ k') : Sk n' k' d := let ⟨p, a, b, c, e⟩ := h; ⟨p, a, b, by omega, by omega⟩
theorem Sks.nil {k : Nat} : Sks 0 k [] := ⟨[], rfl, rfl, Nat.le_refl _, Nat.zero_le _⟩
theorem Sks.cons {n m k : Nat} {d : D} {ds : List D} (h : Sk n k d) (t : Sks m k ds) : Sks (n + 2 + m) k (d :: ds) := by
  obtain ⟨p, a, b, c, e⟩ := h
  obtain ⟨ps, a2, b2, c2, e2⟩ := t
  refine ⟨p :: ps, by simp only [pys, a, a2], by simp only [fines, b, b2]; rfl, by simp only [bszs]; omega, ?_⟩
  show max p.depth (PyData.depthAll ps) ≤ k
  omega
theorem Sks.tup {n k : Nat} {ds : List D} (h : Sks n k ds) : Sk (n + 3) (k + 1) (.tup ds) := by
  obtain ⟨ps, a2, b2, c2, e2⟩ := h
  refine ⟨.tuple ps, by simp only [py, a2]; rfl, b2, by simp only [bsz]; omega, ?_⟩
  show PyData.depthAll ps + 1 ≤ k + 1
  omega
theorem Sks.lst {n k : Nat} {ds : List D} (h : Sks n k ds) : Sk (n + 3) (k + 1) (.lst ds) := by
  obtain ⟨ps, a2, b2, c2, e2⟩ := h
  refine ⟨.list ps, by simp only [py, a2]; rfl, b2, by simp only [bsz]; omega, ?_⟩
  show PyData.depthAll ps + 1 ≤ k + 1
  omega
theorem Sk.ok {n k : Nat} {d : D} (h : Sk n k d) (hn : n ≤ 1000000) (hk : k ≤ 100) : ∃ p, py d = some p ∧ showOk p = true := by
  obtain ⟨p, a, b, c, e⟩ := h
  exact ⟨p, a, showOk_of b (by omega) (by omega)⟩
theorem Sks.ok {n k : Nat} : ∀ {ds : List D}, Sks n k ds → n ≤ 1000000 → k ≤ 100 → ∀ d ∈ ds, ∃ p, py d = some p ∧ showOk p = true
  | [], _, _, _, d, hd => by cases hd
  | x :: ds, ⟨ps, a, b, c, e⟩, hn, hk, d, hd => by
    simp only [pys] at a
    cases q : py x with
    | none => rw [q] at a; cases a
    | some p =>
      cases q2 : pys ds with
      | none => rw [q, q2] at a; cases a
      | some pr =>
        rw [q, q2] at a
        cases a
        simp only [fines, Bool.and_eq_true] at b
        simp only [bszs] at c
        have e : max p.depth (PyData.depthAll pr) ≤ k := e
        rcases List.mem_cons.mp hd with rfl | hd
        · exact ⟨p, q, showOk_of b.1 (by omega) (by omega)⟩
        · exact Sks.ok (ds := ds) ⟨pr, q2, b.2, by omega, by omega⟩ hn hk d hd
theorem sk_str {x : Str} (k : Nat) (h : ((cl x).all fun c => decide (c < 16 ^ 8)) = true) (hl : x.length ≤ 10) : Sk 102 k (.str x) := ⟨.str x, rfl, h, by simp only [bsz]; omega, Nat.zero_le _⟩
theorem sk_int {i : Int} (k : Nat) (h : i.natAbs < 10 ^ 60) : Sk 61 k (.int i) := ⟨.int i, rfl, decide_eq_true h, Nat.le_refl _, Nat.zero_le _⟩
theorem sk_bl {b : Bool} (k : Nat) : Sk 5 k (.bl b) := ⟨.bool b, rfl, rfl, Nat.le_refl _, Nat.zero_le _⟩
theorem sk_non (k : Nat) : Sk 4 k .non := ⟨.none, rfl, rfl, Nat.le_refl _, Nat.zero_le _⟩
/-- closed values -/
def skB (n k : Nat) (d : D) : Bool := match py d with
  | some p => fine p && decide (bsz p ≤ n) && decide (p.depth ≤ k)
  | none => false
theorem sk_by {n k : Nat} {d : D} (h : skB n k d = true) : Sk n k d := by
  unfold skB at h
  split at h
  · rename_i p e
    simp only [Bool.and_eq_true, decide_eq_true_eq] at h
    exact ⟨p, e, h.1.1, h.1.2, h.2⟩
  · cases h
def SOk (d : D) : Prop := Sk 950000 95 d
abbrev SI (d : D) : Prop := Sk 900000 90 d
theorem SI.ok {d : D} (h : SI d) : SOk d := Sk.mono h (by omega) (by omega)
theorem SOk.ok {d : D} (h : SOk d) : ∃ p, py d = some p ∧ showOk p = true := Sk.ok h (by omega) (by omega)
def eqS (a b : D) : Bool := match py a, py b with
  | some p, some q => decide (p.shown = q.shown)
  | _, _ => false
theorem pyv_py {d : D} {p : PyData} {s : Sto} (h : py d = some p) : pyv d s = some p := by cases d <;> first | exact h | cases h
theorem repr_eq {a b : D} {s : Sto} (ha : SOk a) (hb : SOk b) {Q : D → Sto → Prop} : (wp (blt .repr [a]) s fun x s' => wp (blt .repr [b]) s' fun y s' => wp (opC .eq x y) s' Q) ↔ Q (.bl (eqS a b)) s := by
  obtain ⟨p, h1, h2⟩ := ha.ok
  obtain ⟨q, h3, h4⟩ := hb.ok
  rw [wp_repr (pyv_py h1) h2]
  simp only [wp_repr (pyv_py h3) h4, Ev.eq_str]
  unfold eqS
  rw [h1, h3]
theorem repr_ne {a b : D} {s : Sto} (ha : SOk a) (hb : SOk b) {Q : D → Sto → Prop} : (wp (blt .repr [a]) s fun x s' => wp (blt .repr [b]) s' fun y s' => wp (opC .ne x y) s' Q) ↔ Q (.bl (!eqS a b)) s := by
  obtain ⟨p, h1, h2⟩ := ha.ok
  obtain ⟨q, h3, h4⟩ := hb.ok
  rw [wp_repr (pyv_py h1) h2]
  simp only [wp_repr (pyv_py h3) h4, Ev.ne_str]
  unfold eqS
  rw [h1, h3]

/-! ### the rows (printed by gen.py from the law's text) -/
def ask0 (a b : Int) : D := (.tup [(.str "pair"), (.tup [(.str "int"), (.int a)]), (.tup [(.str "int"), (.int b)])])
def due0 (a b : Int) : D := (.tup [(.tup [(.int 0)]), (.tup [(.str "pair"), (.tup [(.str "int"), (.int a)]), (.tup [(.str "int"), (.int b)]), (.int 0)])])
theorem due0_ok {a b : Int} (ha : a.natAbs < 10 ^ 60) (hb : b.natAbs < 10 ^ 60) : SOk (due0 a b) := Sk.mono (Sks.tup (Sks.cons (sk_by (n := 5000) (k := 2) (by decide +kernel)) (Sks.cons (Sk.mono (Sks.tup (Sks.cons (sk_by (n := 5000) (k := 1) (by decide +kernel)) (Sks.cons (Sk.mono (Sks.tup (Sks.cons (sk_by (n := 5000) (k := 0) (by decide +kernel)) (Sks.cons (sk_int 0 ha) .nil))) (Nat.le_refl _) (by decide)) (Sks.cons (Sk.mono (Sks.tup (Sks.cons (sk_by (n := 5000) (k := 0) (by decide +kernel)) (Sks.cons (sk_int 0 hb) .nil))) (Nat.le_refl _) (by decide)) (Sks.cons (sk_by (n := 5000) (k := 1) (by decide +kernel)) .nil))))) (Nat.le_refl _) (by decide)) .nil))) (by decide) (by decide)
def ask1 (a b : Int) : D := (.tup [(.str "split"), (.str "x"), (.str "y"), (.tup [(.str "pair"), (.tup [(.str "int"), (.int a)]), (.tup [(.str "int"), (.int b)])]), (.tup [(.str "var"), (.str "x")])])
def due1 (a b : Int) : D := (.tup [(.tup []), (.tup [(.str "make"), (.tup [(.int 0)]), (.tup [(.str "split"), (.str "x"), (.str "y"), (.tup [(.str "pair"), (.tup [(.str "int"), (.int a)]), (.tup [(.str "int"), (.int b)]), (.int 0)]), (.tup [(.str "var"), (.str "x")]), (.int 0)])])])
theorem due1_ok {a b : Int} (ha : a.natAbs < 10 ^ 60) (hb : b.natAbs < 10 ^ 60) : SOk (due1 a b) := Sk.mono (Sks.tup (Sks.cons (sk_by (n := 5000) (k := 4) (by decide +kernel)) (Sks.cons (Sk.mono (Sks.tup (Sks.cons (sk_by (n := 5000) (k := 3) (by decide +kernel)) (Sks.cons (sk_by (n := 5000) (k := 3) (by decide +kernel)) (Sks.cons (Sk.mono (Sks.tup (Sks.cons (sk_by (n := 5000) (k := 2) (by decide +kernel)) (Sks.cons (sk_by (n := 5000) (k := 2) (by decide +kernel)) (Sks.cons (sk_by (n := 5000) (k := 2) (by decide +kernel)) (Sks.cons (Sk.mono (Sks.tup (Sks.cons (sk_by (n := 5000) (k := 1) (by decide +kernel)) (Sks.cons (Sk.mono (Sks.tup (Sks.cons (sk_by (n := 5000) (k := 0) (by decide +kernel)) (Sks.cons (sk_int 0 ha) .nil))) (Nat.le_refl _) (by decide)) (Sks.cons (Sk.mono (Sks.tup (Sks.cons (sk_by (n := 5000) (k := 0) (by decide +kernel)) (Sks.cons (sk_int 0 hb) .nil))) (Nat.le_refl _) (by decide)) (Sks.cons (sk_by (n := 5000) (k := 1) (by decide +kernel)) .nil))))) (Nat.le_refl _) (by decide)) (Sks.cons (sk_by (n := 5000) (k := 2) (by decide +kernel)) (Sks.cons (sk_by (n := 5000) (k := 2) (by decide +kernel)) .nil))))))) (Nat.le_refl _) (by decide)) .nil)))) (Nat.le_refl _) (by decide)) .nil))) (by decide) (by decide)
def ask2 (a b : Int) : D := (.tup [(.str "let"), (.str "f"), (.tup [(.str "fun"), (.str "x"), (.str "int"), (.tup [(.str "var"), (.str "x")])]), (.tup [(.str "use"), (.tup [(.str "var"), (.str "f")]), (.tup [(.str "int"), (.int a)])])])
def due2 (a b : Int) : D := (.tup [(.tup []), (.tup [(.str "make"), (.tup [(.int 0)]), (.tup [(.str "let"), (.str "f"), (.tup [(.str "fun"), (.str "x"), (.str "int"), (.tup [(.str "var"), (.str "x")]), (.int 0)]), (.tup [(.str "use"), (.tup [(.str "var"), (.str "f")]), (.tup [(.str "int"), (.int a)]), (.int 0)])])])])
theorem due2_ok {a b : Int} (ha : a.natAbs < 10 ^ 60) (hb : b.natAbs < 10 ^ 60) : SOk (due2 a b) := Sk.mono (Sks.tup (Sks.cons (sk_by (n := 5000) (k := 4) (by decide +kernel)) (Sks.cons (Sk.mono (Sks.tup (Sks.cons (sk_by (n := 5000) (k := 3) (by decide +kernel)) (Sks.cons (sk_by (n := 5000) (k := 3) (by decide +kernel)) (Sks.cons (Sk.mono (Sks.tup (Sks.cons (sk_by (n := 5000) (k := 2) (by decide +kernel)) (Sks.cons (sk_by (n := 5000) (k := 2) (by decide +kernel)) (Sks.cons (sk_by (n := 5000) (k := 2) (by decide +kernel)) (Sks.cons (Sk.mono (Sks.tup (Sks.cons (sk_by (n := 5000) (k := 1) (by decide +kernel)) (Sks.cons (sk_by (n := 5000) (k := 1) (by decide +kernel)) (Sks.cons (Sk.mono (Sks.tup (Sks.cons (sk_by (n := 5000) (k := 0) (by decide +kernel)) (Sks.cons (sk_int 0 ha) .nil))) (Nat.le_refl _) (by decide)) (Sks.cons (sk_by (n := 5000) (k := 1) (by decide +kernel)) .nil))))) (Nat.le_refl _) (by decide)) .nil))))) (Nat.le_refl _) (by decide)) .nil)))) (Nat.le_refl _) (by decide)) .nil))) (by decide) (by decide)
def ask3 (a b : Int) : D := (.tup [(.str "if"), (.tup [(.str "truth"), (.bl true)]), (.tup [(.str "pair"), (.tup [(.str "int"), (.int a)]), (.tup [(.str "int"), (.int b)])]), (.tup [(.str "pair"), (.tup [(.str "int"), (.int b)]), (.tup [(.str "int"), (.int a)])])])
def due3 (a b : Int) : D := (.tup [(.tup [(.int 0)]), (.tup [(.str "if"), (.tup [(.str "truth"), (.bl true)]), (.tup [(.str "pair"), (.tup [(.str "int"), (.int a)]), (.tup [(.str "int"), (.int b)]), (.int 0)]), (.tup [(.str "pair"), (.tup [(.str "int"), (.int b)]), (.tup [(.str "int"), (.int a)]), (.int 0)])])])
theorem due3_ok {a b : Int} (ha : a.natAbs < 10 ^ 60) (hb : b.natAbs < 10 ^ 60) : SOk (due3 a b) := Sk.mono (Sks.tup (Sks.cons (sk_by (n := 5000) (k := 3) (by decide +kernel)) (Sks.cons (Sk.mono (Sks.tup (Sks.cons (sk_by (n := 5000) (k := 2) (by decide +kernel)) (Sks.cons (sk_by (n := 5000) (k := 2) (by decide +kernel)) (Sks.cons (Sk.mono (Sks.tup (Sks.cons (sk_by (n := 5000) (k := 1) (by decide +kernel)) (Sks.cons (Sk.mono (Sks.tup (Sks.cons (sk_by (n := 5000) (k := 0) (by decide +kernel)) (Sks.cons (sk_int 0 ha) .nil))) (Nat.le_refl _) (by decide)) (Sks.cons (Sk.mono (Sks.tup (Sks.cons (sk_by (n := 5000) (k := 0) (by decide +kernel)) (Sks.cons (sk_int 0 hb) .nil))) (Nat.le_refl _) (by decide)) (Sks.cons (sk_by (n := 5000) (k := 1) (by decide +kernel)) .nil))))) (Nat.le_refl _) (by decide)) (Sks.cons (Sk.mono (Sks.tup (Sks.cons (sk_by (n := 5000) (k := 1) (by decide +kernel)) (Sks.cons (Sk.mono (Sks.tup (Sks.cons (sk_by (n := 5000) (k := 0) (by decide +kernel)) (Sks.cons (sk_int 0 hb) .nil))) (Nat.le_refl _) (by decide)) (Sks.cons (Sk.mono (Sks.tup (Sks.cons (sk_by (n := 5000) (k := 0) (by decide +kernel)) (Sks.cons (sk_int 0 ha) .nil))) (Nat.le_refl _) (by decide)) (Sks.cons (sk_by (n := 5000) (k := 1) (by decide +kernel)) .nil))))) (Nat.le_refl _) (by decide)) .nil))))) (Nat.le_refl _) (by decide)) .nil))) (by decide) (by decide)
def ask4 (a b : Int) : D := (.tup [(.str "case"), (.tup [(.str "cons"), (.tup [(.str "int"), (.int a)]), (.tup [(.str "nil"), (.str "int")])]), (.tup [(.str "int"), (.int b)]), (.str "x"), (.str "y"), (.tup [(.str "var"), (.str "x")])])
def due4 (a b : Int) : D := (.tup [(.tup []), (.tup [(.str "make"), (.tup [(.int 0)]), (.tup [(.str "case"), (.tup [(.str "cons"), (.tup [(.str "int"), (.int a)]), (.tup [(.str "nil"), (.str "int")]), (.int 0)]), (.tup [(.str "int"), (.int b)]), (.str "x"), (.str "y"), (.tup [(.str "var"), (.str "x")]), (.int 0)])])])
theorem due4_ok {a b : Int} (ha : a.natAbs < 10 ^ 60) (hb : b.natAbs < 10 ^ 60) : SOk (due4 a b) := Sk.mono (Sks.tup (Sks.cons (sk_by (n := 5000) (k := 4) (by decide +kernel)) (Sks.cons (Sk.mono (Sks.tup (Sks.cons (sk_by (n := 5000) (k := 3) (by decide +kernel)) (Sks.cons (sk_by (n := 5000) (k := 3) (by decide +kernel)) (Sks.cons (Sk.mono (Sks.tup (Sks.cons (sk_by (n := 5000) (k := 2) (by decide +kernel)) (Sks.cons (Sk.mono (Sks.tup (Sks.cons (sk_by (n := 5000) (k := 1) (by decide +kernel)) (Sks.cons (Sk.mono (Sks.tup (Sks.cons (sk_by (n := 5000) (k := 0) (by decide +kernel)) (Sks.cons (sk_int 0 ha) .nil))) (Nat.le_refl _) (by decide)) (Sks.cons (sk_by (n := 5000) (k := 1) (by decide +kernel)) (Sks.cons (sk_by (n := 5000) (k := 1) (by decide +kernel)) .nil))))) (Nat.le_refl _) (by decide)) (Sks.cons (Sk.mono (Sks.tup (Sks.cons (sk_by (n := 5000) (k := 0) (by decide +kernel)) (Sks.cons (sk_int 0 hb) .nil))) (Nat.le_refl _) (by decide)) (Sks.cons (sk_by (n := 5000) (k := 2) (by decide +kernel)) (Sks.cons (sk_by (n := 5000) (k := 2) (by decide +kernel)) (Sks.cons (sk_by (n := 5000) (k := 2) (by decide +kernel)) (Sks.cons (sk_by (n := 5000) (k := 2) (by decide +kernel)) .nil)))))))) (Nat.le_refl _) (by decide)) .nil)))) (Nat.le_refl _) (by decide)) .nil))) (by decide) (by decide)
def ask5 (a b : Int) : D := (.tup [(.str "let"), (.str "p"), (.tup [(.str "pair"), (.tup [(.str "int"), (.int a)]), (.tup [(.str "int"), (.int b)])]), (.tup [(.str "let"), (.str "f"), (.tup [(.str "fun"), (.str "x"), (.str "int"), (.tup [(.str "split"), (.str "a"), (.str "b"), (.tup [(.str "var"), (.str "p")]), (.tup [(.str "var"), (.str "a")])])]), (.tup [(.str "use"), (.tup [(.str "var"), (.str "f")]), (.tup [(.str "int"), (.int b)])])])])
def due5 (a b : Int) : D := (.tup [(.tup []), (.tup [(.str "make"), (.tup [(.int 0)]), (.tup [(.str "let"), (.str "p"), (.tup [(.str "pair"), (.tup [(.str "int"), (.int a)]), (.tup [(.str "int"), (.int b)]), (.int 0)]), (.tup [(.str "make"), (.tup [(.int 1)]), (.tup [(.str "let"), (.str "f"), (.tup [(.str "fun"), (.str "x"), (.str "int"), (.tup [(.str "split"), (.str "a"), (.str "b"), (.tup [(.str "var"), (.str "p")]), (.tup [(.str "var"), (.str "a")]), (.int 0)]), (.int 1)]), (.tup [(.str "use"), (.tup [(.str "var"), (.str "f")]), (.tup [(.str "int"), (.int b)]), (.int 1)])])])])])])
theorem due5_ok {a b : Int} (ha : a.natAbs < 10 ^ 60) (hb : b.natAbs < 10 ^ 60) : SOk (due5 a b) := Sk.mono (Sks.tup (Sks.cons (sk_by (n := 5000) (k := 7) (by decide +kernel)) (Sks.cons (Sk.mono (Sks.tup (Sks.cons (sk_by (n := 5000) (k := 6) (by decide +kernel)) (Sks.cons (sk_by (n := 5000) (k := 6) (by decide +kernel)) (Sks.cons (Sk.mono (Sks.tup (Sks.cons (sk_by (n := 5000) (k := 5) (by decide +kernel)) (Sks.cons (sk_by (n := 5000) (k := 5) (by decide +kernel)) (Sks.cons (Sk.mono (Sks.tup (Sks.cons (sk_by (n := 5000) (k := 1) (by decide +kernel)) (Sks.cons (Sk.mono (Sks.tup (Sks.cons (sk_by (n := 5000) (k := 0) (by decide +kernel)) (Sks.cons (sk_int 0 ha) .nil))) (Nat.le_refl _) (by decide)) (Sks.cons (Sk.mono (Sks.tup (Sks.cons (sk_by (n := 5000) (k := 0) (by decide +kernel)) (Sks.cons (sk_int 0 hb) .nil))) (Nat.le_refl _) (by decide)) (Sks.cons (sk_by (n := 5000) (k := 1) (by decide +kernel)) .nil))))) (Nat.le_refl _) (by decide)) (Sks.cons (Sk.mono (Sks.tup (Sks.cons (sk_by (n := 5000) (k := 4) (by decide +kernel)) (Sks.cons (sk_by (n := 5000) (k := 4) (by decide +kernel)) (Sks.cons (Sk.mono (Sks.tup (Sks.cons (sk_by (n := 5000) (k := 3) (by decide +kernel)) (Sks.cons (sk_by (n := 5000) (k := 3) (by decide +kernel)) (Sks.cons (sk_by (n := 5000) (k := 3) (by decide +kernel)) (Sks.cons (Sk.mono (Sks.tup (Sks.cons (sk_by (n := 5000) (k := 1) (by decide +kernel)) (Sks.cons (sk_by (n := 5000) (k := 1) (by decide +kernel)) (Sks.cons (Sk.mono (Sks.tup (Sks.cons (sk_by (n := 5000) (k := 0) (by decide +kernel)) (Sks.cons (sk_int 0 hb) .nil))) (Nat.le_refl _) (by decide)) (Sks.cons (sk_by (n := 5000) (k := 1) (by decide +kernel)) .nil))))) (Nat.le_refl _) (by decide)) .nil))))) (Nat.le_refl _) (by decide)) .nil)))) (Nat.le_refl _) (by decide)) .nil))))) (Nat.le_refl _) (by decide)) .nil)))) (Nat.le_refl _) (by decide)) .nil))) (by decide) (by decide)
def ask6 (a b : Int) : D := (.tup [(.str "let"), (.str "f"), (.tup [(.str "fun"), (.str "x"), (.str "int"), (.tup [(.str "pair"), (.tup [(.str "var"), (.str "x")]), (.tup [(.str "int"), (.int a)])])]), (.tup [(.str "int"), (.int b)])])
def due6 (a b : Int) : D := (.tup [(.tup []), (.tup [(.str "make"), (.tup [(.int 0)]), (.tup [(.str "let"), (.str "f"), (.tup [(.str "fun"), (.str "x"), (.str "int"), (.tup [(.str "pair"), (.tup [(.str "var"), (.str "x")]), (.tup [(.str "int"), (.int a)]), (.int 1)]), (.int 0)]), (.tup [(.str "int"), (.int b)])])])])
theorem due6_ok {a b : Int} (ha : a.natAbs < 10 ^ 60) (hb : b.natAbs < 10 ^ 60) : SOk (due6 a b) := Sk.mono (Sks.tup (Sks.cons (sk_by (n := 5000) (k := 5) (by decide +kernel)) (Sks.cons (Sk.mono (Sks.tup (Sks.cons (sk_by (n := 5000) (k := 4) (by decide +kernel)) (Sks.cons (sk_by (n := 5000) (k := 4) (by decide +kernel)) (Sks.cons (Sk.mono (Sks.tup (Sks.cons (sk_by (n := 5000) (k := 3) (by decide +kernel)) (Sks.cons (sk_by (n := 5000) (k := 3) (by decide +kernel)) (Sks.cons (Sk.mono (Sks.tup (Sks.cons (sk_by (n := 5000) (k := 2) (by decide +kernel)) (Sks.cons (sk_by (n := 5000) (k := 2) (by decide +kernel)) (Sks.cons (sk_by (n := 5000) (k := 2) (by decide +kernel)) (Sks.cons (Sk.mono (Sks.tup (Sks.cons (sk_by (n := 5000) (k := 1) (by decide +kernel)) (Sks.cons (sk_by (n := 5000) (k := 1) (by decide +kernel)) (Sks.cons (Sk.mono (Sks.tup (Sks.cons (sk_by (n := 5000) (k := 0) (by decide +kernel)) (Sks.cons (sk_int 0 ha) .nil))) (Nat.le_refl _) (by decide)) (Sks.cons (sk_by (n := 5000) (k := 1) (by decide +kernel)) .nil))))) (Nat.le_refl _) (by decide)) (Sks.cons (sk_by (n := 5000) (k := 2) (by decide +kernel)) .nil)))))) (Nat.le_refl _) (by decide)) (Sks.cons (Sk.mono (Sks.tup (Sks.cons (sk_by (n := 5000) (k := 0) (by decide +kernel)) (Sks.cons (sk_int 0 hb) .nil))) (Nat.le_refl _) (by decide)) .nil))))) (Nat.le_refl _) (by decide)) .nil)))) (Nat.le_refl _) (by decide)) .nil))) (by decide) (by decide)
def ask7 (a b : Int) : D := (.tup [(.str "split"), (.str "f"), (.str "n"), (.tup [(.str "read"), (.tup [(.str "open"), (.tup [(.str "int"), (.int a)])])]), (.tup [(.str "after"), (.tup [(.str "close"), (.tup [(.str "var"), (.str "f")])]), (.tup [(.str "var"), (.str "n")])])])
def due7 (a b : Int) : D := (.tup [(.tup []), (.tup [(.str "make"), (.tup [(.int 0)]), (.tup [(.str "split"), (.str "f"), (.str "n"), (.tup [(.str "read"), (.tup [(.str "open"), (.tup [(.str "int"), (.int a)])]), (.int 0)]), (.tup [(.str "after"), (.tup [(.str "close"), (.tup [(.str "var"), (.str "f")])]), (.tup [(.str "var"), (.str "n")])]), (.int 0)])])])
theorem due7_ok {a b : Int} (ha : a.natAbs < 10 ^ 60) (hb : b.natAbs < 10 ^ 60) : SOk (due7 a b) := Sk.mono (Sks.tup (Sks.cons (sk_by (n := 5000) (k := 5) (by decide +kernel)) (Sks.cons (Sk.mono (Sks.tup (Sks.cons (sk_by (n := 5000) (k := 4) (by decide +kernel)) (Sks.cons (sk_by (n := 5000) (k := 4) (by decide +kernel)) (Sks.cons (Sk.mono (Sks.tup (Sks.cons (sk_by (n := 5000) (k := 3) (by decide +kernel)) (Sks.cons (sk_by (n := 5000) (k := 3) (by decide +kernel)) (Sks.cons (sk_by (n := 5000) (k := 3) (by decide +kernel)) (Sks.cons (Sk.mono (Sks.tup (Sks.cons (sk_by (n := 5000) (k := 2) (by decide +kernel)) (Sks.cons (Sk.mono (Sks.tup (Sks.cons (sk_by (n := 5000) (k := 1) (by decide +kernel)) (Sks.cons (Sk.mono (Sks.tup (Sks.cons (sk_by (n := 5000) (k := 0) (by decide +kernel)) (Sks.cons (sk_int 0 ha) .nil))) (Nat.le_refl _) (by decide)) .nil))) (Nat.le_refl _) (by decide)) (Sks.cons (sk_by (n := 5000) (k := 2) (by decide +kernel)) .nil)))) (Nat.le_refl _) (by decide)) (Sks.cons (sk_by (n := 5000) (k := 3) (by decide +kernel)) (Sks.cons (sk_by (n := 5000) (k := 3) (by decide +kernel)) .nil))))))) (Nat.le_refl _) (by decide)) .nil)))) (Nat.le_refl _) (by decide)) .nil))) (by decide) (by decide)
def ask8 (a b : Int) : D := (.tup [(.str "nil"), (.str "int")])
def due8 (a b : Int) : D := (.tup [(.tup []), (.tup [(.str "nil"), (.str "int")])])
theorem due8_ok {a b : Int} (ha : a.natAbs < 10 ^ 60) (hb : b.natAbs < 10 ^ 60) : SOk (due8 a b) := sk_by (d := (.tup [(.tup []), (.tup [(.str "nil"), (.str "int")])])) (by decide +kernel)
def ask9 (a b : Int) : D := (.tup [(.str "cons"), (.tup [(.str "pair"), (.tup [(.str "int"), (.int a)]), (.tup [(.str "int"), (.int b)])]), (.tup [(.str "nil"), (.tup [(.str "pair"), (.str "int"), (.str "int")])])])
def due9 (a b : Int) : D := (.tup [(.tup [(.int 0), (.int 1)]), (.tup [(.str "cons"), (.tup [(.str "pair"), (.tup [(.str "int"), (.int a)]), (.tup [(.str "int"), (.int b)]), (.int 0)]), (.tup [(.str "nil"), (.tup [(.str "pair"), (.str "int"), (.str "int")])]), (.int 1)])])
theorem due9_ok {a b : Int} (ha : a.natAbs < 10 ^ 60) (hb : b.natAbs < 10 ^ 60) : SOk (due9 a b) := Sk.mono (Sks.tup (Sks.cons (sk_by (n := 5000) (k := 3) (by decide +kernel)) (Sks.cons (Sk.mono (Sks.tup (Sks.cons (sk_by (n := 5000) (k := 2) (by decide +kernel)) (Sks.cons (Sk.mono (Sks.tup (Sks.cons (sk_by (n := 5000) (k := 1) (by decide +kernel)) (Sks.cons (Sk.mono (Sks.tup (Sks.cons (sk_by (n := 5000) (k := 0) (by decide +kernel)) (Sks.cons (sk_int 0 ha) .nil))) (Nat.le_refl _) (by decide)) (Sks.cons (Sk.mono (Sks.tup (Sks.cons (sk_by (n := 5000) (k := 0) (by decide +kernel)) (Sks.cons (sk_int 0 hb) .nil))) (Nat.le_refl _) (by decide)) (Sks.cons (sk_by (n := 5000) (k := 1) (by decide +kernel)) .nil))))) (Nat.le_refl _) (by decide)) (Sks.cons (sk_by (n := 5000) (k := 2) (by decide +kernel)) (Sks.cons (sk_by (n := 5000) (k := 2) (by decide +kernel)) .nil))))) (Nat.le_refl _) (by decide)) .nil))) (by decide) (by decide)
def ask10 (a b : Int) : D := (.tup [(.str "split"), (.str "x"), (.str "y"), (.tup [(.str "pair"), (.tup [(.str "pair"), (.tup [(.str "int"), (.int a)]), (.tup [(.str "int"), (.int b)])]), (.tup [(.str "int"), (.int a)])]), (.tup [(.str "split"), (.str "a"), (.str "b"), (.tup [(.str "var"), (.str "x")]), (.tup [(.str "var"), (.str "a")])])])
def due10 (a b : Int) : D := (.tup [(.tup []), (.tup [(.str "make"), (.tup [(.int 0), (.int 1)]), (.tup [(.str "split"), (.str "x"), (.str "y"), (.tup [(.str "pair"), (.tup [(.str "pair"), (.tup [(.str "int"), (.int a)]), (.tup [(.str "int"), (.int b)]), (.int 1)]), (.tup [(.str "int"), (.int a)]), (.int 0)]), (.tup [(.str "split"), (.str "a"), (.str "b"), (.tup [(.str "var"), (.str "x")]), (.tup [(.str "var"), (.str "a")]), (.int 1)]), (.int 0)])])])
theorem due10_ok {a b : Int} (ha : a.natAbs < 10 ^ 60) (hb : b.natAbs < 10 ^ 60) : SOk (due10 a b) := Sk.mono (Sks.tup (Sks.cons (sk_by (n := 5000) (k := 5) (by decide +kernel)) (Sks.cons (Sk.mono (Sks.tup (Sks.cons (sk_by (n := 5000) (k := 4) (by decide +kernel)) (Sks.cons (sk_by (n := 5000) (k := 4) (by decide +kernel)) (Sks.cons (Sk.mono (Sks.tup (Sks.cons (sk_by (n := 5000) (k := 3) (by decide +kernel)) (Sks.cons (sk_by (n := 5000) (k := 3) (by decide +kernel)) (Sks.cons (sk_by (n := 5000) (k := 3) (by decide +kernel)) (Sks.cons (Sk.mono (Sks.tup (Sks.cons (sk_by (n := 5000) (k := 2) (by decide +kernel)) (Sks.cons (Sk.mono (Sks.tup (Sks.cons (sk_by (n := 5000) (k := 1) (by decide +kernel)) (Sks.cons (Sk.mono (Sks.tup (Sks.cons (sk_by (n := 5000) (k := 0) (by decide +kernel)) (Sks.cons (sk_int 0 ha) .nil))) (Nat.le_refl _) (by decide)) (Sks.cons (Sk.mono (Sks.tup (Sks.cons (sk_by (n := 5000) (k := 0) (by decide +kernel)) (Sks.cons (sk_int 0 hb) .nil))) (Nat.le_refl _) (by decide)) (Sks.cons (sk_by (n := 5000) (k := 1) (by decide +kernel)) .nil))))) (Nat.le_refl _) (by decide)) (Sks.cons (Sk.mono (Sks.tup (Sks.cons (sk_by (n := 5000) (k := 0) (by decide +kernel)) (Sks.cons (sk_int 0 ha) .nil))) (Nat.le_refl _) (by decide)) (Sks.cons (sk_by (n := 5000) (k := 2) (by decide +kernel)) .nil))))) (Nat.le_refl _) (by decide)) (Sks.cons (sk_by (n := 5000) (k := 3) (by decide +kernel)) (Sks.cons (sk_by (n := 5000) (k := 3) (by decide +kernel)) .nil))))))) (Nat.le_refl _) (by decide)) .nil)))) (Nat.le_refl _) (by decide)) .nil))) (by decide) (by decide)
def ask11 (a b : Int) : D := (.tup [(.str "try"), (.tup [(.str "split"), (.str "x"), (.str "y"), (.tup [(.str "pair"), (.tup [(.str "int"), (.int a)]), (.tup [(.str "int"), (.int b)])]), (.tup [(.str "raise"), (.str "int"), (.tup [(.str "var"), (.str "x")])])]), (.str "e"), (.tup [(.str "var"), (.str "e")])])
def due11 (a b : Int) : D := (.tup [(.tup []), (.tup [(.str "try"), (.tup [(.str "make"), (.tup [(.int 0)]), (.tup [(.str "split"), (.str "x"), (.str "y"), (.tup [(.str "pair"), (.tup [(.str "int"), (.int a)]), (.tup [(.str "int"), (.int b)]), (.int 0)]), (.tup [(.str "raise"), (.str "int"), (.tup [(.str "var"), (.str "x")])]), (.int 0)])]), (.str "e"), (.tup [(.str "var"), (.str "e")])])])
theorem due11_ok {a b : Int} (ha : a.natAbs < 10 ^ 60) (hb : b.natAbs < 10 ^ 60) : SOk (due11 a b) := Sk.mono (Sks.tup (Sks.cons (sk_by (n := 5000) (k := 5) (by decide +kernel)) (Sks.cons (Sk.mono (Sks.tup (Sks.cons (sk_by (n := 5000) (k := 4) (by decide +kernel)) (Sks.cons (Sk.mono (Sks.tup (Sks.cons (sk_by (n := 5000) (k := 3) (by decide +kernel)) (Sks.cons (sk_by (n := 5000) (k := 3) (by decide +kernel)) (Sks.cons (Sk.mono (Sks.tup (Sks.cons (sk_by (n := 5000) (k := 2) (by decide +kernel)) (Sks.cons (sk_by (n := 5000) (k := 2) (by decide +kernel)) (Sks.cons (sk_by (n := 5000) (k := 2) (by decide +kernel)) (Sks.cons (Sk.mono (Sks.tup (Sks.cons (sk_by (n := 5000) (k := 1) (by decide +kernel)) (Sks.cons (Sk.mono (Sks.tup (Sks.cons (sk_by (n := 5000) (k := 0) (by decide +kernel)) (Sks.cons (sk_int 0 ha) .nil))) (Nat.le_refl _) (by decide)) (Sks.cons (Sk.mono (Sks.tup (Sks.cons (sk_by (n := 5000) (k := 0) (by decide +kernel)) (Sks.cons (sk_int 0 hb) .nil))) (Nat.le_refl _) (by decide)) (Sks.cons (sk_by (n := 5000) (k := 1) (by decide +kernel)) .nil))))) (Nat.le_refl _) (by decide)) (Sks.cons (sk_by (n := 5000) (k := 2) (by decide +kernel)) (Sks.cons (sk_by (n := 5000) (k := 2) (by decide +kernel)) .nil))))))) (Nat.le_refl _) (by decide)) .nil)))) (Nat.le_refl _) (by decide)) (Sks.cons (sk_by (n := 5000) (k := 4) (by decide +kernel)) (Sks.cons (sk_by (n := 5000) (k := 4) (by decide +kernel)) .nil))))) (Nat.le_refl _) (by decide)) .nil))) (by decide) (by decide)
def rows (a b : Int) : List D := [.tup [ask0 a b, due0 a b], .tup [ask1 a b, due1 a b], .tup [ask2 a b, due2 a b], .tup [ask3 a b, due3 a b], .tup [ask4 a b, due4 a b], .tup [ask5 a b, due5 a b], .tup [ask6 a b, due6 a b], .tup [ask7 a b, due7 a b], .tup [ask8 a b, due8 a b], .tup [ask9 a b, due9 a b], .tup [ask10 a b, due10 a b], .tup [ask11 a b, due11 a b]]

/-- an answer and the store's next number -/
def okv : Ev.R D → Option (D × Nat)
  | .ok d s => some (d, s.nx)
  | _ => none
theorem okv_is {r : Ev.R D} {d : D} {n : Nat} (h : okv r = some (d, n)) : ∃ s, r = .ok d s ∧ s.nx = n := by
  cases r with
  | ok d' s => cases h; exact ⟨s, rfl, rfl⟩
  | ex _ _ => cases h
  | no => cases h
theorem rows_ok (n : Nat) (a b : Int) (s : Sto) : runF fns gv 100 (n + 3) 25 [.tup [.str "int", .int a], .tup [.str "int", .int b]] s = .ok (.lst (rows a b)) s := by kernel_rfl
theorem r0 (a b : Int) (o : List (Nat × Ob)) : okv (runF fns gv 100 60 21 [.tup [], ask0 a b] ⟨1, o⟩) = some (due0 a b, 44) := by kernel_rfl
theorem r1 (a b : Int) (o : List (Nat × Ob)) : okv (runF fns gv 100 60 21 [.tup [], ask1 a b] ⟨44, o⟩) = some (due1 a b, 105) := by kernel_rfl
theorem r2 (a b : Int) (o : List (Nat × Ob)) : okv (runF fns gv 100 60 21 [.tup [], ask2 a b] ⟨105, o⟩) = some (due2 a b, 178) := by kernel_rfl
theorem r3 (a b : Int) (o : List (Nat × Ob)) : okv (runF fns gv 100 60 21 [.tup [], ask3 a b] ⟨178, o⟩) = some (due3 a b, 289) := by kernel_rfl
theorem r4 (a b : Int) (o : List (Nat × Ob)) : okv (runF fns gv 100 60 21 [.tup [], ask4 a b] ⟨289, o⟩) = some (due4 a b, 360) := by kernel_rfl
theorem r5 (a b : Int) (o : List (Nat × Ob)) : okv (runF fns gv 100 60 21 [.tup [], ask5 a b] ⟨360, o⟩) = some (due5 a b, 543) := by kernel_rfl
theorem r6 (a b : Int) (o : List (Nat × Ob)) : okv (runF fns gv 100 60 21 [.tup [], ask6 a b] ⟨543, o⟩) = some (due6 a b, 632) := by kernel_rfl
theorem r7 (a b : Int) (o : List (Nat × Ob)) : okv (runF fns gv 100 60 21 [.tup [], ask7 a b] ⟨632, o⟩) = some (due7 a b, 733) := by kernel_rfl
theorem r8 (a b : Int) (o : List (Nat × Ob)) : okv (runF fns gv 100 60 21 [.tup [], ask8 a b] ⟨733, o⟩) = some (due8 a b, 750) := by kernel_rfl
theorem r9 (a b : Int) (o : List (Nat × Ob)) : okv (runF fns gv 100 60 21 [.tup [], ask9 a b] ⟨750, o⟩) = some (due9 a b, 821) := by kernel_rfl
theorem r10 (a b : Int) (o : List (Nat × Ob)) : okv (runF fns gv 100 60 21 [.tup [], ask10 a b] ⟨821, o⟩) = some (due10 a b, 934) := by kernel_rfl
theorem r11 (a b : Int) (o : List (Nat × Ob)) : okv (runF fns gv 100 60 21 [.tup [], ask11 a b] ⟨934, o⟩) = some (due11 a b, 1037) := by kernel_rfl
end K27

set_option Elab.async false
set_option linter.all false
set_option maxRecDepth 100000
set_option maxHeartbeats 0
namespace K27
open PySem PySem.Spec PyProof.Rows L2 Ev
/-! ### the law -/
theorem rolls : Rolls fns 23 := ⟨_, _, _, _, _, _, rfl, by decide, by decide, by decide, by decide, by decide, by decide⟩
theorem same_ne {d : D} (h : SOk d) (s : Sto) (Q : D → Sto → Prop) : (wp (blt .repr [d]) s fun x s' => wp (blt .repr [d]) s' fun y s' => wp (opC .ne x y) s' Q) ↔ Q (.bl false) s := by
  rw [repr_ne h h]
  obtain ⟨p, h1, _⟩ := h.ok
  have e : eqS d d = true := by unfold eqS; rw [h1]; simp
  rw [e]; rfl
def bodyF : Sms := match f_law.body with
  | .cons _ (.cons (.fr _ _ b) _) => b
  | r => r
theorem wp_to {α : Type} {m : Ev.M α} {s s' : Sto} {a : α} (e : m s = .ok a s') {Q : α → Sto → Prop} : wp m s Q ↔ Q a s' := by
  constructor
  · rintro ⟨b, s2, e2, q⟩
    rw [e] at e2
    cases e2
    exact q
  · exact fun q => ⟨a, s', e, q⟩
theorem row_step {ask due x y : D} {k k' : Nat} (h : ∀ o, okv (runF fns gv 100 60 21 [.tup [], ask] ⟨k, o⟩) = some (due, k')) (ok : SOk due) {s : Sto} (hs : s.nx = k) {N B C : En → Sto → Prop} {T : D → Sto → Prop}
    (hN : ∀ s', s'.nx = k' → N [.val x, .val y, .val ask, .val due] s') : Wn (exs ⟨runF fns gv 100 60, gv, 100⟩ bodyF [.val x, .val y, .val ask, .val due] s) N T B C := by
  obtain ⟨n, o⟩ := s
  have hs : n = k := hs
  subst hs
  obtain ⟨s', e, h2⟩ := okv_is (h o)
  have p := fun Q => wp_to (Q := Q) e
  unfold bodyF f_law
  simp [p, same_ne ok]
  exact hN s' h2
def kk (j : Nat) : Nat := [1, 44, 105, 178, 289, 360, 543, 632, 733, 750, 821, 934, 1037].getD j 0
theorem step (a b : Int) (ba : a.natAbs < 10 ^ 60) (bb : b.natAbs < 10 ^ 60) {x : D} {xs : List D} {u v p q : Sl} {s : Sto} {T : D → Sto → Prop} {B : En → Sto → Prop} (j : Nat) (hj : j ≤ 12) (hy : x :: xs = (rows a b).drop j) (hn : s.nx = kk j) {y z : D} (hu : u = .val y) (hv : v = .val z) :
    ∃ e1, (Tn.tp (.cons (.nm 2) (.cons (.nm 3) .nil))).set x [u, v, p, q] = some e1 ∧ Wn (exs ⟨runF fns gv 100 60, gv, 100⟩ bodyF e1 s) (fun e s => ∃ j, j ≤ 12 ∧ xs = (rows a b).drop j ∧ s.nx = kk j ∧ ∃ x y, e = [u, v, x, y]) T B (fun e s => ∃ j, j ≤ 12 ∧ xs = (rows a b).drop j ∧ s.nx = kk j ∧ ∃ x y, e = [u, v, x, y]) := by
  subst hu hv
  exact match j, hj, hy, hn with
      | 0, _, hy, hn => by
        have hy : x :: xs = .tup [ask0 a b, due0 a b] :: (rows a b).drop 1 := hy
        obtain ⟨rfl, rfl⟩ := List.cons.inj hy
        exact ⟨_, rfl, row_step (r0 a b) (due0_ok ba bb) hn fun s' h => ⟨1, by decide, rfl, h, _, _, rfl⟩⟩
      | 1, _, hy, hn => by
        have hy : x :: xs = .tup [ask1 a b, due1 a b] :: (rows a b).drop 2 := hy
        obtain ⟨rfl, rfl⟩ := List.cons.inj hy
        exact ⟨_, rfl, row_step (r1 a b) (due1_ok ba bb) hn fun s' h => ⟨2, by decide, rfl, h, _, _, rfl⟩⟩
      | 2, _, hy, hn => by
        have hy : x :: xs = .tup [ask2 a b, due2 a b] :: (rows a b).drop 3 := hy
        obtain ⟨rfl, rfl⟩ := List.cons.inj hy
        exact ⟨_, rfl, row_step (r2 a b) (due2_ok ba bb) hn fun s' h => ⟨3, by decide, rfl, h, _, _, rfl⟩⟩
      | 3, _, hy, hn => by
        have hy : x :: xs = .tup [ask3 a b, due3 a b] :: (rows a b).drop 4 := hy
        obtain ⟨rfl, rfl⟩ := List.cons.inj hy
        exact ⟨_, rfl, row_step (r3 a b) (due3_ok ba bb) hn fun s' h => ⟨4, by decide, rfl, h, _, _, rfl⟩⟩
      | 4, _, hy, hn => by
        have hy : x :: xs = .tup [ask4 a b, due4 a b] :: (rows a b).drop 5 := hy
        obtain ⟨rfl, rfl⟩ := List.cons.inj hy
        exact ⟨_, rfl, row_step (r4 a b) (due4_ok ba bb) hn fun s' h => ⟨5, by decide, rfl, h, _, _, rfl⟩⟩
      | 5, _, hy, hn => by
        have hy : x :: xs = .tup [ask5 a b, due5 a b] :: (rows a b).drop 6 := hy
        obtain ⟨rfl, rfl⟩ := List.cons.inj hy
        exact ⟨_, rfl, row_step (r5 a b) (due5_ok ba bb) hn fun s' h => ⟨6, by decide, rfl, h, _, _, rfl⟩⟩
      | 6, _, hy, hn => by
        have hy : x :: xs = .tup [ask6 a b, due6 a b] :: (rows a b).drop 7 := hy
        obtain ⟨rfl, rfl⟩ := List.cons.inj hy
        exact ⟨_, rfl, row_step (r6 a b) (due6_ok ba bb) hn fun s' h => ⟨7, by decide, rfl, h, _, _, rfl⟩⟩
      | 7, _, hy, hn => by
        have hy : x :: xs = .tup [ask7 a b, due7 a b] :: (rows a b).drop 8 := hy
        obtain ⟨rfl, rfl⟩ := List.cons.inj hy
        exact ⟨_, rfl, row_step (r7 a b) (due7_ok ba bb) hn fun s' h => ⟨8, by decide, rfl, h, _, _, rfl⟩⟩
      | 8, _, hy, hn => by
        have hy : x :: xs = .tup [ask8 a b, due8 a b] :: (rows a b).drop 9 := hy
        obtain ⟨rfl, rfl⟩ := List.cons.inj hy
        exact ⟨_, rfl, row_step (r8 a b) (due8_ok ba bb) hn fun s' h => ⟨9, by decide, rfl, h, _, _, rfl⟩⟩
      | 9, _, hy, hn => by
        have hy : x :: xs = .tup [ask9 a b, due9 a b] :: (rows a b).drop 10 := hy
        obtain ⟨rfl, rfl⟩ := List.cons.inj hy
        exact ⟨_, rfl, row_step (r9 a b) (due9_ok ba bb) hn fun s' h => ⟨10, by decide, rfl, h, _, _, rfl⟩⟩
      | 10, _, hy, hn => by
        have hy : x :: xs = .tup [ask10 a b, due10 a b] :: (rows a b).drop 11 := hy
        obtain ⟨rfl, rfl⟩ := List.cons.inj hy
        exact ⟨_, rfl, row_step (r10 a b) (due10_ok ba bb) hn fun s' h => ⟨11, by decide, rfl, h, _, _, rfl⟩⟩
      | 11, _, hy, hn => by
        have hy : x :: xs = .tup [ask11 a b, due11 a b] :: (rows a b).drop 12 := hy
        obtain ⟨rfl, rfl⟩ := List.cons.inj hy
        exact ⟨_, rfl, row_step (r11 a b) (due11_ok ba bb) hn fun s' h => ⟨12, by decide, rfl, h, _, _, rfl⟩⟩
      | 12, _, hy, _ => by cases hy
      | n + 13, h, _, _ => absurd h (by omega)
theorem goal (ns : List Int) (h : ns.length ≤ 63) : ∃ s', runF fns gv 100 61 26 [.lst (ns.map D.int)] ⟨0, []⟩ = .ok (.bl true) s' := by
  suffices k : wp (runF fns gv 100 61 26 [.lst (ns.map D.int)]) ⟨0, []⟩ fun d _ => d = .bl true by
    obtain ⟨d, s', e, rfl⟩ := k
    exact ⟨s', e⟩
  refine wp_run (fn := f_law) (n := 60) rfl rfl ?_
  show Wn (exs _ (.cons _ _) (.val (.lst (ns.map D.int)) :: List.replicate 3 .no) ⟨0, []⟩) _ _ _ _
  rw [wn_cons]
  simp only [x_asg, x_nm, ev_call, evs_cons, evs_nil, ev_var, rdv_zero, wn_thns, wp_bnd, wp_ret, set_succ, set_zero, List.replicate]
  refine (cup_ok (n := 59) (i := 22) rfl (by decide +kernel) (by decide +kernel) (by decide +kernel) (by decide +kernel) h).mono fun d s1 ⟨e1, hc, hx, _⟩ => ?_
  subst e1
  simp only [set_succ, set_zero, wn_nx]
  refine wn_then (fun e s => ∃ a b, e = [.val (.lst (ns.map D.int)), .val (.ref 0), a, b]) ?_ ?_
  · simp
    refine (rolls.roll (n := 59) (many := 1000) hc (by decide +kernel)).mono fun r s2 ⟨⟨a, er, ha⟩, hc, f2⟩ => ?_
    subst er
    simp [wp_mkT]
    refine (rolls.roll (n := 59) (many := 1000) hc (by decide +kernel)).mono fun r s3 ⟨⟨b, er, hb⟩, hc, f3⟩ => ?_
    subst er
    have hr := fun Q => wp_is (Q := Q) (rows_ok 57 (a : Int) (b : Int) s3)
    have hi : ∀ Q, wp (items (.lst (rows (a : Int) (b : Int)))) s3 Q ↔ Q (rows (a : Int) (b : Int)) s3 := fun Q => wp_to rfl
    rw [hr, hi]
    have hn : s3.nx = kk 0 := by rw [f3.1, f2.1, hx]; rfl
    have ba : (a : Int).natAbs < 10 ^ 60 := by omega
    have bb : (b : Int).natAbs < 10 ^ 60 := by omega
    clear hr hi
    obtain ⟨ys, hy⟩ : ∃ ys, ys = rows (a : Int) (b : Int) := ⟨_, rfl⟩
    rw [← hy]
    exact wn_for (fun ys e s => ∃ j, j ≤ 12 ∧ ys = (rows (a : Int) (b : Int)).drop j ∧ s.nx = kk j ∧ ∃ x y, e = [.val (.lst (ns.map D.int)), .val (.ref 0), x, y]) (fun e s ⟨j, _, _, _, x, y, e1⟩ => ⟨x, y, e1⟩) (fun x xs e s ⟨j, hj, hy, hn, u, v, e1⟩ => by subst e1; exact step a b ba bb j hj hy hn rfl rfl) ⟨0, by decide, hy, hn, _, _, rfl⟩
  · rintro e s ⟨a, b, rfl⟩
    exact wn_t (by kernel_rfl) fun _ => rfl
end K27

open PySem PySem.W PySem.Calls PyProof.Rows
theorem PySem.Challenge.cw_arenaplaces_k27_written_asks_holds : PySem.Challenge.rw_arenaplaces_k27_written_asks.Holds := by
  w_on; o_law
  refine HandSHeadRun.head_any (r := K27.R) (q := K27.qv) (H := Ev.hookP 6 K27.dfs K27.cls K27.gls K27.bns) (ob := Ev.obsP 6 K27.dfs K27.cls K27.gls K27.bns) (M := 4000) (loose := K27.names) (d := HandSHeadRun.topDef K27.R.prog 49) (kwd := []) Ev.obsP_eq
    (by kernel_rfl) (fun s => by kernel_rfl) K27.run (by kernel_rfl) (by kernel_rfl) (by kernel_rfl) (by rfl) (by first | assumption | decide +kernel) (by decide +kernel) ⟨rfl, rfl, rfl, rfl, rfl, by decide +kernel⟩ ?hw ?hc
  case hw => w_witness2
  case hc =>
    exact Ev.walk_ev (l := PySem.Challenge.rw_arenaplaces_k27_written_asks) (n := 63) (k := 61) (li := 26) (fuel := 100) (x := "script") (lf := K27.d_law) rfl (by decide) (by kernel_rfl) ⟨rfl, by decide, by decide⟩ rfl rfl (by kernel_rfl) rfl K27.okAll K27.okCls K27.binds K27.goal
