import PyProof.Rows.All
import Wide.All
import OpenK.AllK
import Wide.FinOn
import PySem.Challenge.RW_windowtable_k08_functions_exact
import HandS.ForMost
import HandS.Exc
import HandS.WordsExc
import PyProof.ReprLen
import PyProof.Claim2
import HandS.StrMore
import KE.DataCmp
import HandS.AnyAll
import HandS.Lambda
import HandS.TupAny
import HandS.Deep
import HandS.Style
import HandS.IsInst
import HandS.NoneIn
import HandS.TupMul
import HandS.SortInts
import KE.KDictPairs
import HandS.More
import KE.KExcSuper
import KE.KExcIs
import HandS.ExcIs
import PyProof.FString
import HandS.ExcInit
import HandS.ExcField
import HandS.HeadHook1
import HandS.SetFor
import HandS.Strs
import HandS.RevRange
import HandS.Zip
import HandS.ExcOwn
import HandS.FStr
import HandS.SetKeys
import KE.GoesNew
import PyProof.GenCompD
import KE.SortKeyHeap
import KE.SortData
import HandS.SortKw
import HandS.Nested
import KE.DataMinKey
import HandS.DictComp
import HandS.Small
import HandS.TryOnly
import PyProof.ExcBaseAll.ValueError
import PyProof.SetRoads
import KE.KStateDown
import HandS.Head0
import HandS.Head1
import HandS.Head2
import HandS.HeadEnd
import HandS.HeadHook2
import HandS.HeadWalk
import HandS.HeadHook4
set_option Elab.async false
set_option linter.all false
set_option maxRecDepth 100000
set_option maxHeartbeats 4000000
/-! DI0: plain data, the core text, what it computes. -/
namespace DI
open PySem L2
/-- plain data. ro: a list that is only read; obj: the n-th object of the store -/
inductive D where
  | non | bl (b : Bool) | int (i : Int) | str (x : Str)
  | tup (xs : List D) | lst (xs : List D) | ro (xs : List D)
  | dic (ks : List Key) (vs : List D)
  | obj (n : Nat)
  deriving Inhabited
mutual
def D.beq : D → D → Bool
  | .non, .non => true
  | .bl a, .bl b => decide (a = b)
  | .int a, .int b => decide (a = b)
  | .str a, .str b => decide (a = b)
  | .tup a, .tup b => D.beqs a b
  | .lst a, .lst b => D.beqs a b
  | .ro a, .ro b => D.beqs a b
  | .dic k a, .dic l b => decide (k = l) && D.beqs a b
  | .obj a, .obj b => decide (a = b)
  | _, _ => false
def D.beqs : List D → List D → Bool
  | [], [] => true
  | a :: r, b :: t => D.beq a b && D.beqs r t
  | _, _ => false
end
mutual
theorem D.beq_self : ∀ a : D, D.beq a a = true
  | .non => rfl
  | .bl _ => by simp [D.beq]
  | .int _ => by simp [D.beq]
  | .str _ => by simp [D.beq]
  | .tup a => by simpa [D.beq] using D.beqs_self a
  | .lst a => by simpa [D.beq] using D.beqs_self a
  | .ro a => by simpa [D.beq] using D.beqs_self a
  | .dic k a => by simpa [D.beq] using D.beqs_self a
  | .obj _ => by simp [D.beq]
theorem D.beqs_self : ∀ a : List D, D.beqs a a = true
  | [] => rfl
  | a :: r => by simp [D.beqs, D.beq_self a, D.beqs_self r]
end
mutual
theorem D.beq_eq : ∀ {a b : D}, D.beq a b = true → a = b
  | .non, .non, _ => rfl
  | .bl _, .bl _, h => by simpa [D.beq] using h
  | .int _, .int _, h => by simpa [D.beq] using h
  | .str _, .str _, h => by simpa [D.beq] using h
  | .tup a, .tup b, h => congrArg D.tup (D.beqs_eq h)
  | .lst a, .lst b, h => congrArg D.lst (D.beqs_eq h)
  | .ro a, .ro b, h => congrArg D.ro (D.beqs_eq h)
  | .dic k a, .dic l b, h => by
    have h' : (decide (k = l) && D.beqs a b) = true := h
    rw [Bool.and_eq_true, decide_eq_true_eq] at h'
    rw [h'.1, D.beqs_eq h'.2]
  | .obj _, .obj _, h => by simpa [D.beq] using h
theorem D.beqs_eq : ∀ {a b : List D}, D.beqs a b = true → a = b
  | [], [], _ => rfl
  | a :: r, b :: t, h => by
    have h' : (D.beq a b && D.beqs r t) = true := h
    rw [Bool.and_eq_true] at h'
    rw [D.beq_eq h'.1, D.beqs_eq h'.2]
end
instance : DecidableEq D := fun a b => if h : D.beq a b = true then isTrue (D.beq_eq h) else isFalse fun e => h (e ▸ D.beq_self a)
/-- an object that may change -/
inductive Ob where
  | lst (xs : List D)
  | dic (kvs : List (Key × D))
  | ins (c : Nat) (fs : List (Str × D))
  deriving Inhabited, DecidableEq
abbrev Store := List Ob
/-- an exception: its class by number, its fields -/
structure Xc where
  c : Nat
  fs : List (Str × D)
  deriving Inhabited
/-- a slot: nothing known, a value, an object that no one else holds, the exception at hand -/
inductive Sl where
  | un | val (d : D) | own (o : Ob) | exc (x : Xc)
  deriving Inhabited
abbrev Ev := List Sl
inductive R (α : Type) where
  | ok (a : α) (S : Store)
  | err (x : Xc) (S : Store)
  | bad
  deriving Inhabited
def R.bind {α β : Type} (r : R α) (f : α → Store → R β) : R β :=
  match r with
  | .ok a S => f a S
  | .err x S => .err x S
  | .bad => .bad
@[simp] theorem R.bind_ok {α β : Type} (a : α) (S : Store) (f : α → Store → R β) : (R.ok a S).bind f = f a S := rfl
@[simp] theorem R.bind_err {α β : Type} (x : Xc) (S : Store) (f : α → Store → R β) : (R.err x S : R α).bind f = .err x S := rfl
@[simp] theorem R.bind_bad {α β : Type} (f : α → Store → R β) : (R.bad : R α).bind f = .bad := rfl
/-- a partial operation's answer -/
def opt {α : Type} (o : Option α) (S : Store) : R α := match o with
  | some a => .ok a S
  | none => .bad
@[simp] theorem opt_some {α : Type} (a : α) (S : Store) : opt (some a) S = .ok a S := rfl
@[simp] theorem opt_none {α : Type} (S : Store) : opt (none : Option α) S = .bad := rfl
/-! ### the core text -/
inductive Bop where | add | sub | mul | fdiv | mod | pow
  deriving DecidableEq
inductive Cop where | eq | ne | lt | le | gt | ge | isin | notin | is | isnot
  deriving DecidableEq
inductive Bi where | len | int | str | tup | lst | dic | set | sorted | sum | min | max | repr
  deriving DecidableEq
inductive Bm where | app | ext | idx | get | pop | ins | upd | join | split | cnt | rep | stw
  deriving DecidableEq
inductive Bk where | srt | mn | mx
  deriving DecidableEq
inductive Ty where | int | str | bool | lst
  deriving DecidableEq
inductive Pat where | nm (i : Nat) | tp (ps : List Nat)
mutual
inductive Ex where
  | var (i : Nat)
  | cst (d : D)
  | glob (k : Nat)
  | tup (es : Exs)
  | lst (es : Exs)
  | dnew
  | bin (op : Bop) (a b : Ex)
  | neg (a : Ex)
  | cmp (op : Cop) (a b : Ex)
  | chn (o p : Cop) (a b c : Ex)
  | bnd (es : Exs)
  | bor (es : Exs)
  | bnt (a : Ex)
  | ife (t : Tx) (a b : Ex)
  | idx (a i : Ex)
  | slc (a : Ex) (lo hi : Exs)
  | rev (a : Ex)
  | fld (a : Ex) (f : Str)
  | call (f : Nat) (es : Exs)
  | mk (c : Nat) (es : Exs)
  | meth (f : Str) (a : Ex) (es : Exs)
  | bi (b : Bi) (a : Ex)
  | bi2 (b : Bi) (a c : Ex)
  | isi (a : Ex) (t : Ty)
  | isx (i : Nat) (c : Nat)
  | xfl (i : Nat) (f : Str)
  | bm (m : Bm) (a : Ex) (es : Exs)
  | lc (e : Ex) (p : Pat) (it : Itx)
  | lcf (e : Ex) (p : Pat) (it : Itx) (c : Tx)
  /-- sorted(set(a)), a a new list of ints -/
  | srs (a : Ex)
  /-- sorted(a, key=lambda x: x[0]), a's items tuples with an int ahead -/
  | srk (a : Ex)
  /-- {ke: ve for p in it} -/
  | dcp (ke ve : Ex) (p : Pat) (it : Itx)
  /-- isinstance(e, ValueError), e the exception at hand -/
  | isv (i : Nat)
  /-- f'..': texts and what is shown -/
  | fst (es : Exs)
  /-- 'z'.index(a) -/
  | sidx (z : Str) (a : Ex)
  /-- any(e for p in it): e asks only -/
  | anyg (e : Ex) (p : Pat) (it : Itx)
  | allg (e : Ex) (p : Pat) (it : Itx)
  /-- sorted, min, max of a by key=lambda x: b; in b the slot 0 is x, behind it the captured ones -/
  | byl (m : Bk) (a : Ex) (js : List Nat) (b : Ex)
  /-- .. by key=f, f a def -/
  | byf (m : Bk) (a : Ex) (f : Nat)
  /-- min, max(a, key=lambda x: b), a a list that no one changes -/
  | bst (mx : Bool) (a : Ex) (js : List Nat) (b : Ex)
  /-- len(set(a)) -/
  | lset (a : Ex)
  /-- {'x': v, ..} -/
  | dct (ks : List Str) (vs : Exs)
inductive Exs where
  | nil
  | cons (a : Ex) (r : Exs)
inductive Tx where
  | val (e : Ex)
  | and (ts : Txs)
  | or (ts : Txs)
  | not (a : Tx)
inductive Txs where
  | nil
  | cons (a : Tx) (r : Txs)
inductive Itx where
  | of (e : Ex)
  | rng (es : Exs)
  | enm (e : Ex)
  | zip (a b : Ex)
  | rrg (e : Ex)
  | itm (e : Ex)
end
mutual
inductive Sm where
  | set (p : Pat) (e : Ex)
  | own (i : Nat) (e : Ex)
  | sto (i : Nat) (e : Ex)
  | frz (i : Nat)
  | kil (is : List Nat)
  | exp (e : Ex)
  | mut (j : Nat) (m : Bm) (es : Exs)
  | sub (a i e : Ex)
  | subo (j : Nat) (i e : Ex)
  | del (a i : Ex)
  | delo (j : Nat) (i : Ex)
  | std (j : Nat) (k v : Ex)
  | mutv (i j : Nat) (m : Bm) (es : Exs)
  | fset (a : Ex) (f : Str) (e : Ex)
  | fsto (a : Ex) (f : Str) (e : Ex)
  | aug (i : Nat) (op : Bop) (e : Ex)
  | faug (a : Ex) (f : Str) (op : Bop) (e : Ex)
  | ret (e : Ex)
  | reto (i : Nat)
  | ifs (t : Tx) (a b : Bl)
  | loop (p : Pat) (it : Itx) (b : Bl)
  /-- for p in it: o.setdefault(k, []).append(v); o the own dict in slot j, empty at first -/
  | grp (j : Nat) (p : Pat) (it : Itx) (k v : Ex)
  | whl (t : Tx) (b : Bl)
  | rai (c : Nat) (es : Exs)
  | tri (b : Bl) (c : Nat) (i : Nat) (h : Bl)
  /-- without a name -/
  | trn (b : Bl) (c : Nat) (h : Bl)
  /-- x = set(e); if len(x) > 1: b -- e a list of ints -/
  | slen (i : Nat) (e : Ex) (b : Bl)
  /-- never come to -/
  | bot
inductive Bl where
  | nil
  | cons (s : Sm) (r : Bl)
end
/-! ### operations on data -/
/-- the largest list, text, tuple that is made -/
def lim : Nat := 100000
mutual
def toPy : D → PyData
  | .non => .none
  | .bl b => .bool b
  | .int i => .int i
  | .str x => .str x
  | .tup xs => .tuple (toPys xs)
  | .lst xs => .list (toPys xs)
  | .ro xs => .list (toPys xs)
  | .dic _ _ => .none
  | .obj _ => .none
def toPys : List D → List PyData
  | [] => []
  | x :: r => toPy x :: toPys r
end
mutual
/-- data that may be compared, shown: no dict, no object -/
def pl : D → Bool
  | .non | .bl _ | .int _ => true
  | .str x => PyData.strOk x
  | .tup xs | .lst xs | .ro xs => pls xs
  | .dic _ _ | .obj _ => false
def pls : List D → Bool
  | [] => true
  | x :: r => pl x && pls r
end
def keyD : D → Option Key
  | .int i => some (.inl i)
  | .str x => some (.inr x)
  | _ => none
def dKey : Key → D
  | .inl i => .int i
  | .inr x => .str x
def look {α : Type} (k : Key) : List Key → List α → Option α
  | a :: ks, v :: vs => if a = k then some v else look k ks vs
  | _, _ => none
def lookP {α : Type} (k : Key) : List (Key × α) → Option α
  | (a, v) :: r => if a = k then some v else lookP k r
  | [] => none
def putP {α : Type} (k : Key) (v : α) (l : List (Key × α)) : List (Key × α) :=
  if (l.any fun p => decide (p.1 = k)) = true then l.map (fun p => if p.1 = k then (p.1, v) else p) else l ++ [(k, v)]
def dropP {α : Type} (k : Key) (l : List (Key × α)) : List (Key × α) := l.filter fun p => decide (p.1 ≠ k)
def pairD : D → Option (Key × D)
  | .tup [a, v] => (keyD a).map fun k => (k, v)
  | _ => none
def pairsD : List D → Option (List (Key × D))
  | [] => some []
  | x :: r => match pairD x, pairsD r with
    | some p, some q => some (p :: q)
    | _, _ => none
def mergeP (l : List (Key × D)) : List (Key × D) → List (Key × D)
  | [] => l
  | (k, v) :: r => mergeP (putP k v l) r
/-- the object behind a place of the store, as it stands -/
def view (S : Store) : D → D
  | .obj n => match S[n]? with
    | some (.lst xs) => .lst xs
    | some (.dic kvs) => .dic (kvs.map (·.1)) (kvs.map (·.2))
    | _ => .obj n
  | d => d
def Ob.toD : Ob → D
  | .lst xs => .lst xs
  | .dic kvs => .dic (kvs.map (·.1)) (kvs.map (·.2))
  | .ins _ _ => .non
/-- a list's or tuple's items -/
def seqD : D → Option (List D)
  | .tup xs | .lst xs | .ro xs => some xs
  | _ => none
def seqD2 : D → Option (List D)
  | .tup xs | .lst xs => some xs
  | _ => none
def lstD : D → Option (List D)
  | .lst xs => some xs
  | _ => none
def truth : D → Option Bool
  | .non => some false
  | .bl b => some b
  | .int i => some (i != 0)
  | .str x => if x.length ≤ lim then some (x.length != 0) else none
  | .tup xs | .lst xs | .ro xs => some (!xs.isEmpty)
  | .dic ks _ => some (!ks.isEmpty)
  | .obj _ => none
def two64 : Int := 18446744073709551616
def binD : Bop → D → D → Option D
  | .add, .int a, .int b => some (.int (a + b))
  | .add, .str a, .str b => if a.length + b.length ≤ lim then some (.str (a ++ b)) else none
  | .add, .tup a, .tup b => if a.length + b.length ≤ lim then some (.tup (a ++ b)) else none
  | .add, .lst a, .lst b => if a.length + b.length ≤ lim then some (.lst (a ++ b)) else none
  | .sub, .int a, .int b => some (.int (a - b))
  | .mul, .int a, .int b => if (-two64 < a ∧ a < two64) ∨ (-two64 < b ∧ b < two64) then some (.int (a * b)) else none
  | .mul, .lst xs, .int k => if -two64 / 4 < k ∧ k < two64 / 4 ∧ xs.length * k.toNat ≤ lim then some (.lst (List.replicate k.toNat xs).flatten) else none
  | .mul, .tup xs, .int k => if xs ≠ [] ∧ 2 ≤ k ∧ k ≤ 1000 ∧ xs.length ≤ 100 then some (.tup (List.replicate k.toNat xs).flatten) else none
  | .fdiv, .int a, .int b => if 0 < b ∧ b < 1073741824 then some (.int (a / b)) else none
  | .mod, .int a, .int b => if 0 < b then some (.int (a % b)) else none
  | .pow, .int a, .int b => if 0 ≤ b ∧ b ≤ 1000 ∧ -two64 < a ∧ a < two64 then some (.int (a ^ b.toNat)) else none
  | _, _, _ => none
def eqD (a b : D) : Option Bool :=
  if pl a && pl b && decide ((toPy a).depth ≤ 60) && decide ((toPy b).depth ≤ 60) then some (PyData.eqv (toPy a) (toPy b)) else none
def flat : D → Bool
  | .non | .bl _ | .int _ | .str _ => true
  | _ => false
def inD (a b : D) : Option Bool := match a, b with
  | .str x, .str z => match x.cps.toList with
    | [c] => some (decide (c ∈ z.cps.toList))
    | _ => none
  | a, .dic ks vs => (keyD a).map fun k => (look k ks vs).isSome
  | a, .tup xs | a, .lst xs | a, .ro xs =>
    if pl a && pls xs && decide ((toPy a).depth ≤ 60) && decide (PyData.depthAll (toPys xs) ≤ 60) then some ((toPys xs).any fun z => PyData.eqv z (toPy a)) else none
  | _, _ => none
def isD (a b : D) : Option Bool := match b, a with
  | .non, .non => some true
  | .non, .obj _ => none
  | .non, _ => some false
  | .bl b, .bl a => some (a == b)
  | _, _ => none
/-- texts, tuples of alike items -/
def ltD (a b : D) : Option Bool := if pl a && pl b && decide ((toPy a).depth ≤ 60) && decide ((toPy b).depth ≤ 60) && PySem.W.alike (toPy a) (toPy b) then some (PySem.W.dataLt (toPy a) (toPy b)) else none
def cmpD : Cop → D → D → Option D
  | .eq, a, b => (eqD a b).map .bl
  | .ne, a, b => (eqD a b).map fun k => .bl (!k)
  | .lt, .int a, .int b => some (.bl (decide (a < b)))
  | .le, .int a, .int b => some (.bl (decide (a ≤ b)))
  | .gt, .int a, .int b => some (.bl (decide (b < a)))
  | .ge, .int a, .int b => some (.bl (decide (b ≤ a)))
  | .lt, .str x, .str y => (ltD (.str x) (.str y)).map .bl
  | .lt, .tup x, .tup y => (ltD (.tup x) (.tup y)).map .bl
  | .gt, .str x, .str y => (ltD (.str y) (.str x)).map .bl
  | .gt, .tup x, .tup y => (ltD (.tup y) (.tup x)).map .bl
  | .isin, a, b => (inD a b).map .bl
  | .notin, a, b => (inD a b).map fun k => .bl (!k)
  | .is, a, b => (isD a b).map .bl
  | .isnot, a, b => (isD a b).map fun k => .bl (!k)
  | _, _, _ => none
def idxD (a i : D) : Option D := match a, i with
  | .tup xs, .int i | .lst xs, .int i | .ro xs, .int i => atI xs i
  | .str x, .int i => if x.length ≤ lim then (atI x.cps.toList i).map fun c => .str ⟨#[c]⟩ else none
  | .dic ks vs, k => (keyD k).bind fun k => look k ks vs
  | _, _ => none
def cut {α : Type} (xs : List α) (lo hi : Option Int) : List α := (xs.drop (HT.sIx xs.length 0 lo)).take (HT.sIx xs.length xs.length hi - HT.sIx xs.length 0 lo)
def slcD (a : D) (lo hi : Option Int) : Option D := match a with
  | .lst xs => some (.lst (cut xs lo hi))
  | .tup xs => some (.tup (cut xs lo hi))
  | .str x => if x.length ≤ lim then some (.str ⟨(cut x.cps.toList lo hi).toArray⟩) else none
  | _ => none
def revD (a : D) : Option D := match a with
  | .lst xs => some (.lst xs.reverse)
  | .tup xs => some (.tup xs.reverse)
  | _ => none
/-- where a text stands in another one -/
def sidxD (z : Str) : D → Option D
  | .str x => (Txt.index0 z x).map fun k => .int (k : Nat)
  | _ => none
def partD : List D → Option (Option Int)
  | [] => some none
  | [.int i] => some (some i)
  | _ => none
def tyD : D → Ty → Option Bool
  | .non, _ => some false
  | .bl _, .int | .bl _, .bool => some true
  | .bl _, _ => some false
  | .int _, t => some (t == .int)
  | .str _, t => some (t == .str)
  | .tup _, _ => some false
  | .lst _, t | .ro _, t => some (t == .lst)
  | _, _ => none
def intsD : List D → Option (List Int)
  | [] => some []
  | .int i :: r => (intsD r).map (i :: ·)
  | _ :: _ => none
def isort (l : List Int) : List Int := l.mergeSort (fun a b => decide (a ≤ b))
def intKs : List Key → Option (List Int)
  | [] => some []
  | .inl i :: r => (intKs r).map (i :: ·)
  | .inr _ :: _ => none
/-- each once -/
def ddI : List Int → List Int
  | [] => []
  | a :: r => if a ∈ r then ddI r else a :: ddI r
theorem ddI_mem (k : Int) : ∀ l : List Int, k ∈ ddI l ↔ k ∈ l
  | [] => Iff.rfl
  | a :: r => by
    have ih := ddI_mem k r
    unfold ddI
    split
    · rw [ih, List.mem_cons]
      exact ⟨.inr, fun h => h.elim (fun e => e ▸ (by assumption)) id⟩
    · rw [List.mem_cons, List.mem_cons, ih]
theorem ddI_nodup : ∀ l : List Int, (ddI l).Nodup
  | [] => List.nodup_nil
  | a :: r => by
    have ih := ddI_nodup r
    unfold ddI
    split
    · exact ih
    · rename_i h
      exact List.nodup_cons.2 ⟨fun z => h ((ddI_mem a r).1 z), ih⟩
def srsD : D → Option D
  | .lst xs => (intsD xs).bind fun ns => if ns.length ≤ 60 then some (.lst ((isort (ddI ns)).map .int)) else none
  | _ => none
/-- how many there are -/
def setN : D → Option Nat
  | .lst xs => (intsD xs).bind fun ns => if ns.length ≤ 60 then some (ddI ns).length else none
  | _ => none
/-- an item's key: the int ahead in it -/
def keyI : D → Option Int
  | .tup (.int i :: _) => some i
  | _ => none
def keyLe (a b : D) : Bool := decide ((keyI a).getD 0 ≤ (keyI b).getD 0)
def sortK (xs : List D) : List D := xs.mergeSort keyLe
def srkL (xs : List D) : Option D := if xs.all (fun d => (keyI d).isSome) && decide (xs.length ≤ lim) then some (.lst (sortK xs)) else none
def srkD : D → Option D
  | .lst xs => srkL xs
  | .tup xs => srkL xs
  | .ro xs => srkL xs
  | _ => none
/-- keys that can be put in order -/
def keysOk (ks : List D) : Bool := ks.all (fun k => pl k && decide ((toPy k).depth ≤ 60)) && ks.all (fun a => ks.all fun b => PySem.W.alike (toPy a) (toPy b)) && (ks.all keyT || ks.all keyF)
where
  keyT : D → Bool
    | .tup (_ :: _) => true
    | _ => false
  keyF : D → Bool
    | .int _ | .str _ => true
    | _ => false
def ltK (a b : D) : Bool := PySem.W.dataLt (toPy a) (toPy b)
def sortBy (xs ks : List D) : List D := ((xs.zip ks).mergeSort fun a b => !ltK b.2 a.2).map (·.1)
/-- the first one whose key no other's goes ahead of -/
def bestF (lt : D → D → Bool) : D → D → List (D × D) → D
  | x, _, [] => x
  | x, k, (y, l) :: r => if lt l k then bestF lt y l r else bestF lt x k r
def bestBy (lt : D → D → Bool) : List (D × D) → Option D
  | [] => none
  | (x, k) :: r => some (bestF lt x k r)
instance keyMem (k : Key) (l : List Key) : Decidable (k ∈ l) := decidable_of_iff (l.any (fun z => decide (z = k)) = true) (by simp)
/-- how many unlike keys there are beside those seen -/
def ndF : List Key → List Key → Nat
  | _, [] => 0
  | seen, k :: r => if k ∈ seen then ndF seen r else ndF (k :: seen) r + 1
theorem ndF_le : ∀ (seen ks : List Key), ndF seen ks ≤ ks.length
  | _, [] => Nat.le_refl _
  | seen, k :: r => by
    unfold ndF
    have h1 := ndF_le seen r
    have h2 := ndF_le (k :: seen) r
    rw [List.length_cons]
    split <;> omega
def keysD : List D → Option (List Key)
  | [] => some []
  | d :: ds => (keyD d).bind fun k => (keysD ds).map (k :: ·)
def lsetD : D → Option D
  | .lst xs => (keysD xs).bind fun ks => if ks.length ≤ 60 then some (.int (ndF [] ks : Nat)) else none
  | _ => none
def gtK (a b : D) : Bool := ltK b a
def bstD (mx : Bool) (xs ks : List D) : Option D := if keysOk ks && decide (xs.length ≤ lim) then bestBy (if mx then gtK else ltK) (xs.zip ks) else none
def byD (m : Bk) (xs ks : List D) : Option D := if keysOk ks && decide (xs.length ≤ lim) then match m with
  | .srt => some (.lst (sortBy xs ks))
  | .mn => bestBy ltK (xs.zip ks)
  | .mx => bestBy gtK (xs.zip ks)
  else none
/-- the keys: f leaves the store as it is -/
def keysL (S : Store) (f : D → Store → R D) : List D → Option (List D)
  | [] => some []
  | d :: r => match f d S with
    | .ok k S1 => if S1 = S then (keysL S f r).map (k :: ·) else none
    | _ => none
/-- a slot as a lambda captures it -/
def capS (ρ : Ev) (j : Nat) : Sl := match ρ[j]? with
  | some (.val d) => .val d
  | some (.own o) => .own o
  | _ => .un
def lamE (ρ : Ev) (js : List Nat) (d : D) : Ev := .val d :: js.map (capS ρ)
def biD (b : Bi) (a : D) : Option D := match b, a with
  | .len, .str x => if x.length ≤ lim then some (.int x.length) else none
  | .len, .dic ks _ => some (.int ks.length)
  | .len, a => (seqD a).map fun xs => .int xs.length
  | .int, .int i => some (.int i)
  | .int, .bl k => some (.int (if k then 1 else 0))
  | .tup, .tup xs => some (.tup xs)
  | .tup, .lst xs => some (.tup xs)
  | .lst, .tup xs => some (.lst xs)
  | .lst, .lst xs => some (.lst xs)
  | .lst, .dic ks _ => some (.lst (ks.map dKey))
  | .dic, .dic ks vs => some (.dic ks vs)
  | .dic, a => (seqD2 a).bind fun xs => (pairsD xs).map fun ps => let r := mergeP [] ps; .dic (r.map (·.1)) (r.map (·.2))
  | .sorted, .lst xs => (intsD xs).map fun ns => .lst ((isort ns).map .int)
  | .sorted, .dic ks _ => (intKs ks).bind fun ns => if ns.length ≤ 60 then some (.lst ((isort ns).map .int)) else none
  | .sum, .lst xs => (intsD xs).map fun ns => .int ns.sum
  | .repr, a => if pl a && (toPy a).showable && decide ((toPy a).depth ≤ 60) && decide ((toPy a).shown.length ≤ lim) then some (.str (toPy a).shown) else none
  | _, _ => none
def bi2D (b : Bi) (a c : D) : Option D := match b, a, c with
  | .min, .int i, .int j => some (.int (if j < i then j else i))
  | .max, .int i, .int j => some (.int (if j > i then j else i))
  | _, _, _ => none
def place {α : Type} (p : α → Bool) : List α → Option Nat
  | [] => none
  | x :: r => if p x then some 0 else (place p r).map (· + 1)
/-- what a method is asked of -/
def mOk (m : Bm) (d : D) : Bool := match m, d with
  | .app, .lst _ | .ext, .lst _ | .idx, .lst _ | .pop, .lst _ | .ins, .lst _ => true
  | .get, .dic _ _ => true
  | _, _ => false
/-- it changes its object -/
def Bm.ch : Bm → Bool
  | .app | .ext | .pop | .ins => true
  | _ => false
/-- methods that only read -/
def bmD (m : Bm) (a : D) (es : List D) : Option D := match m, a, es with
  | .idx, .lst xs, [y] => if pl y && pls xs && decide ((toPy y).depth ≤ 60) && decide (PyData.depthAll (toPys xs) ≤ 60) then (place (fun z => PyData.eqv z (toPy y)) (toPys xs)).map fun (j : Nat) => D.int (j : Int) else none
  | .get, .dic ks vs, [k] => (keyD k).map fun k => (look k ks vs).getD .non
  | .get, .dic ks vs, [k, d] => (keyD k).map fun k => (look k ks vs).getD d
  | _, _, _ => none
/-- methods that change a list or dict: what it answers, what it is then -/
def bmM (m : Bm) (o : Ob) (es : List D) : Option (D × Ob) := match m, o, es with
  | .app, .lst xs, [y] => if xs.length < lim then some (.non, .lst (xs ++ [y])) else none
  | .ext, .lst xs, [.lst ys] => if xs.length + ys.length ≤ lim then some (.non, .lst (xs ++ ys)) else none
  | .ins, .lst xs, [.int i, y] => if xs.length < lim ∧ 0 ≤ i ∧ i ≤ xs.length then some (.non, .lst (xs.take i.toNat ++ y :: xs.drop i.toNat)) else none
  | .pop, .lst xs, [] => (xs[xs.length - 1]?).map fun y => (y, .lst xs.dropLast)
  | .pop, .lst xs, [.int i] => if 0 ≤ i ∧ i < xs.length then (xs[i.toNat]?).map fun y => (y, .lst (xs.eraseIdx i.toNat)) else none
  | _, _, _ => none
def subM (o : Ob) (i e : D) : Option Ob := match o, i with
  | .lst xs, .int i => (ixN xs.length i).map fun j => .lst (xs.set j e)
  | .dic kvs, k => (keyD k).bind fun k => if kvs.length < lim then some (.dic (putP k e kvs)) else none
  | _, _ => none
def delM (o : Ob) (i : D) : Option Ob := match o with
  | .dic kvs => (keyD i).bind fun k => if (lookP k kvs).isSome then some (.dic (dropP k kvs)) else none
  | _ => none
def obOf : D → Option Ob
  | .lst xs => some (.lst xs)
  | .dic ks vs => if ks.length = vs.length then some (.dic (ks.zip vs)) else none
  | _ => none
def putS (f : Str) (v : D) : List (Str × D) → List (Str × D)
  | (g, u) :: r => if g = f then (g, v) :: r else (g, u) :: putS f v r
  | [] => [(f, v)]
def bindNs : List Nat → List D → Ev → Option Ev
  | [], [], ρ => some ρ
  | i :: r, d :: ds, ρ => if i < ρ.length then bindNs r ds (ρ.set i (.val d)) else none
  | _, _, _ => none
def bindP (p : Pat) (d : D) (ρ : Ev) : Option Ev := match p, d with
  | .nm i, d => if i < ρ.length then some (ρ.set i (.val d)) else none
  | .tp is, .tup ds => bindNs is ds ρ
  | .tp _, _ => none
def Pat.slots : Pat → List Nat
  | .nm i => [i]
  | .tp is => is
def kill (is : List Nat) (ρ : Ev) : Ev := is.foldl (fun ρ i => ρ.set i .un) ρ
def rngN (a : Int) : Nat → Int → List D
  | 0, _ => []
  | n + 1, c => .int a :: rngN (a + c) n c
def two62 : Int := 4611686018427387904
def small62 (i : Int) : Bool := decide (-two62 ≤ i) && decide (i < two62)
def rngD : List D → Option (List D)
  | [.int b] => if small62 b then some (rngN 0 b.toNat 1) else none
  | [.int a, .int b] => if small62 a && small62 b then some (rngN a (b - a).toNat 1) else none
  | [.int a, .int b, .int (-1)] => if small62 a && small62 b then some (rngN a (a - b).toNat (-1)) else none
  | _ => none
def enumD (k : Nat) : List D → List D
  | [] => []
  | x :: r => .tup [.int k, x] :: enumD (k + 1) r
def zipD : List D → List D → List D
  | x :: r, y :: t => .tup [x, y] :: zipD r t
  | _, _ => []
def signs (x : Str) : List D := x.cps.toList.map fun c => .str ⟨#[c]⟩
def itemsD : D → Option (List D)
  | .dic ks vs => some (zipD (ks.map dKey) vs)
  | _ => none
/-- what a walk over a value yields -/
def walkD : D → Option (List D)
  | .tup xs | .lst xs | .ro xs => some xs
  | .str x => some (signs x)
  | _ => none
/-! ### what the text computes. cl: the program's defs, mk: the making of an instance (its __init__) -/
inductive RS where
  | nx (ρ : Ev) (S : Store)
  | rt (d : D) (S : Store)
  | er (x : Xc) (ρ : Ev) (S : Store)
  | bad
structure Cl where
  fn : Nat → List D → Store → R D
  new : Nat → List D → Store → R D
  me : Nat → Str → Option Nat
  xmk : Nat → List D → Option (List (Str × D))
  sub : Nat → Nat → Bool
  gl : Nat → Option D
/-- a place of the store that is walked still holds the list -/
def srcOk (S : Store) (src : Option Nat) (ds : List D) : Bool := match src with
  | none => true
  | some n => match S[n]? with
    | some (.lst xs) => decide (xs = ds)
    | _ => false
@[simp] theorem srcOk_none (S : Store) (ds : List D) : srcOk S none ds = true := rfl
/-- a comprehension's list. w: what is walked -/
def lcL (f : D → Store → R (Option D)) (w : List D × Option Nat) : List D → Store → R (List D)
  | [], S => if srcOk S w.2 w.1 then .ok [] S else .bad
  | d :: r, S => if srcOk S w.2 w.1 then match f d S with
    | .ok o S => (lcL f w r S).bind fun xs S => match o with
      | some x => .ok (x :: xs) S
      | none => .ok xs S
    | _ => .bad
    else .bad
/-- the loop of a dict's comprehension -/
def dcL (f : D → Store → R (Key × D)) (w : List D × Option Nat) : List D → Store → List (Key × D) → R (List (Key × D))
  | [], S, l => if srcOk S w.2 w.1 = true then .ok l S else .bad
  | d :: ds, S, l => if srcOk S w.2 w.1 = true ∧ l.length < lim then match f d S with
      | .ok kv S' => dcL f w ds S' (putP kv.1 kv.2 l)
      | _ => .bad
    else .bad
def ofD (S : Store) (x : D) : Option (List D × Option Nat) := match x with
  | .obj n => match S[n]? with
    | some (.lst xs) => some (xs, some n)
    | _ => none
  | x => (walkD x).map fun xs => (xs, none)
def own? (ρ : Ev) : Ex → Option D
  | .var i => match ρ[i]? with
    | some (.own o) => some o.toD
    | _ => none
  | _ => none
/-- as it stands: an own object may be looked at -/
def bw (e : Ex) (ρ : Ev) (S : Store) (r : R D) : R D := match own? ρ e with
  | some d => .ok d S
  | none => r
/-- an own object is walked -/
def srcOwn (ρ : Ev) : Itx → Bool
  | .of e | .enm e | .itm e => (own? ρ e).isSome
  | .zip a b => (own? ρ a).isSome || (own? ρ b).isSome
  | _ => false
/-- acc and x's text -/
def joinT (acc : Str) : D → Option Str
  | .str y => if y.length ≤ 1000000 ∧ (acc ++ y).length ≤ 1000000 then some (acc ++ y) else none
  | .int i => if i.natAbs.log2 < 1920 ∧ (acc ++ (toString i : Str)).length ≤ 1000000 then some (acc ++ (toString i : Str)) else none
  | _ => none
/-! ### what only asks -/
def cmpQ : Cop → D → D → Option Bool
  | .isin, .str x, .str z => match x.cps.toList with
    | [c] => some (decide (c ∈ z.cps.toList))
    | _ => none
  | .notin, .str x, .str z => match x.cps.toList with
    | [c] => some (!decide (c ∈ z.cps.toList))
    | _ => none
  | .lt, .int a, .int b => some (decide (a < b))
  | _, _, _ => none
def idxQ : D → D → Option D
  | .tup xs, .int i => if 0 ≤ i ∧ i < xs.length ∧ xs.length ≤ lim then xs[i.toNat]? else none
  | _, _ => none
def isiQ : D → Ty → Option Bool
  | .str _, .str => some true
  | .int _, .str | .non, .str => some false
  | _, _ => none
def evQ (cl : Cl) : Ex → Ev → Option D
  | .var i, ρ => match ρ[i]? with
    | some (.val d) => some d
    | _ => none
  | .cst d, _ => some d
  | .glob k, _ => cl.gl k
  | .cmp op a b, ρ => (evQ cl a ρ).bind fun x => (evQ cl b ρ).bind fun y => (cmpQ op x y).map .bl
  | .idx a i, ρ => (evQ cl a ρ).bind fun x => (evQ cl i ρ).bind fun y => idxQ x y
  | .isi a t, ρ => (evQ cl a ρ).bind fun x => (isiQ x t).map .bl
  | _, _ => none
/-- the truths of the items -/
def qL (f : D → Option D) : List D → Option (List Bool)
  | [] => some []
  | d :: r => match f d, qL f r with
    | some (.bl b), some bs => some (b :: bs)
    | _, _ => none
mutual
def ev (cl : Cl) : Ex → Ev → Store → R D
  | .var i, ρ, S => match ρ[i]? with
    | some (.val d) => .ok d S
    | _ => .bad
  | .cst d, _, S => .ok d S
  | .glob k, _, S => opt (cl.gl k) S
  | .tup es, ρ, S => (evs cl es ρ S).bind fun ds S => if ds.length ≤ lim then .ok (.tup ds) S else .bad
  | .lst es, ρ, S => (evs cl es ρ S).bind fun ds S => if ds.length ≤ lim then .ok (.lst ds) S else .bad
  | .dnew, _, S => .ok (.dic [] []) S
  | .bin op a b, ρ, S => (bw a ρ S (ev cl a ρ S)).bind fun x S => (bw b ρ S (ev cl b ρ S)).bind fun y S => opt (binD op (view S x) (view S y)) S
  | .neg a, ρ, S => (ev cl a ρ S).bind fun x S => match x with
    | .int i => .ok (.int (-i)) S
    | _ => .bad
  | .cmp op a b, ρ, S => (bw a ρ S (ev cl a ρ S)).bind fun x S => (bw b ρ S (ev cl b ρ S)).bind fun y S => opt (cmpD op (view S x) (view S y)) S
  | .chn o p a b c, ρ, S => (ev cl a ρ S).bind fun x S => (ev cl b ρ S).bind fun y S => (opt (cmpD o x y) S).bind fun k S => match k with
    | .bl true => (ev cl c ρ S).bind fun z S => opt (cmpD p y z) S
    | .bl false => .ok (.bl false) S
    | _ => .bad
  | .bnd es, ρ, S => evAnd cl es ρ S
  | .bor es, ρ, S => evOr cl es ρ S
  | .bnt a, ρ, S => (ev cl a ρ S).bind fun x S => match x with
    | .bl k => .ok (.bl (!k)) S
    | _ => .bad
  | .ife t a b, ρ, S => (evT cl t ρ S).bind fun k S => if k then ev cl a ρ S else ev cl b ρ S
  | .idx a i, ρ, S => (bw a ρ S (ev cl a ρ S)).bind fun x S => (ev cl i ρ S).bind fun y S => opt (idxD (view S x) y) S
  | .slc a lo hi, ρ, S => (bw a ρ S (ev cl a ρ S)).bind fun x S => ((evs cl lo ρ S).bind fun l S => opt (partD l) S).bind fun l S => ((evs cl hi ρ S).bind fun h S => opt (partD h) S).bind fun h S => opt (slcD (view S x) l h) S
  | .rev a, ρ, S => (bw a ρ S (ev cl a ρ S)).bind fun x S => opt (revD (view S x)) S
  | .fld a f, ρ, S => (ev cl a ρ S).bind fun x S => match x with
    | .obj n => match S[n]? with
      | some (.ins _ fs) => opt (fs.lookup f) S
      | _ => .bad
    | _ => .bad
  | .call f es, ρ, S => (evs cl es ρ S).bind fun ds S => cl.fn f ds S
  | .mk c es, ρ, S => (evs cl es ρ S).bind fun ds S => cl.new c ds S
  | .meth m a es, ρ, S => (ev cl a ρ S).bind fun x S => (evs cl es ρ S).bind fun ds S => match x with
    | .obj n => match S[n]? with
      | some (.ins c fs) => match fs.lookup m, cl.me c m with
        | none, some f => cl.fn f (.obj n :: ds) S
        | _, _ => .bad
      | _ => .bad
    | _ => .bad
  | .bi b a, ρ, S => (bw a ρ S (ev cl a ρ S)).bind fun x S => opt (biD b (view S x)) S
  | .bi2 b a c, ρ, S => (ev cl a ρ S).bind fun x S => (ev cl c ρ S).bind fun y S => opt (bi2D b x y) S
  | .isi a t, ρ, S => (bw a ρ S (ev cl a ρ S)).bind fun x S => opt ((tyD (view S x) t).map .bl) S
  | .isx i c, ρ, S => match ρ[i]? with
    | some (.exc x) => .ok (.bl (cl.sub x.c c)) S
    | _ => .bad
  | .xfl i f, ρ, S => match ρ[i]? with
    | some (.exc x) => opt (x.fs.lookup f) S
    | _ => .bad
  | .bm m a es, ρ, S => (bw a ρ S (ev cl a ρ S)).bind fun x S => if mOk m (view S x) then (evs cl es ρ S).bind fun ds S => if m.ch then match x with
      | .obj n => match S[n]? with
        | some o => match bmM m o ds with
          | some (d, o') => .ok d (S.set n o')
          | none => .bad
        | none => .bad
      | _ => .bad
    else opt (bmD m (view S x) ds) S
    else .bad
  | .lc e p it, ρ, S => (evI cl it ρ S).bind fun w S => (lcL (fun d S => match bindP p d (kill p.slots ρ) with
      | some ρ' => (ev cl e ρ' S).bind fun x S => .ok (some x) S
      | none => .bad) w w.1 S).bind fun xs S => if xs.length ≤ lim then .ok (.lst xs) S else .bad
  | .lcf e p it c, ρ, S => (evI cl it ρ S).bind fun w S => (lcL (fun d S => match bindP p d (kill p.slots ρ) with
      | some ρ' => (evT cl c ρ' S).bind fun k S => if k then (ev cl e ρ' S).bind fun x S => .ok (some x) S else .ok none S
      | none => .bad) w w.1 S).bind fun xs S => if xs.length ≤ lim then .ok (.lst xs) S else .bad
  | .srs a, ρ, S => (ev cl a ρ S).bind fun x S => opt (srsD x) S
  | .srk a, ρ, S => (bw a ρ S (ev cl a ρ S)).bind fun x S => opt (srkD (view S x)) S
  | .dcp ke ve p it, ρ, S => (evI cl it ρ S).bind fun w S => (dcL (fun d S => match bindP p d (kill p.slots ρ) with
      | some ρ' => (ev cl ke ρ' S).bind fun x S => match keyD x with
        | some k => (ev cl ve ρ' S).bind fun v S => .ok (k, v) S
        | none => .bad
      | none => .bad) w w.1 S []).bind fun l S => .ok (Ob.dic l).toD S
  | .isv i, ρ, S => match ρ[i]? with
    | some (.exc _) => .ok (.bl true) S
    | _ => .bad
  | .fst es, ρ, S => evJ cl es Str.empty ρ S
  | .sidx z a, ρ, S => (ev cl a ρ S).bind fun x S => opt (sidxD z x) S
  | .anyg e p it, ρ, S => (evI cl it ρ S).bind fun w S => match w.2 with
    | none => opt ((qL (fun d => (bindP p d (kill p.slots ρ)).bind fun ρ' => evQ cl e ρ') w.1).map fun bs => D.bl (bs.any id)) S
    | some _ => .bad
  | .allg e p it, ρ, S => (evI cl it ρ S).bind fun w S => match w.2 with
    | none => opt ((qL (fun d => (bindP p d (kill p.slots ρ)).bind fun ρ' => evQ cl e ρ') w.1).map fun bs => D.bl (bs.all id)) S
    | some _ => .bad
  | .byl m a js b, ρ, S => (bw a ρ S (ev cl a ρ S)).bind fun x S => opt ((seqD (view S x)).bind fun xs => (keysL S (fun d S => ev cl b (lamE ρ js d) S) xs).bind fun ks => byD m xs ks) S
  | .byf m a f, ρ, S => (bw a ρ S (ev cl a ρ S)).bind fun x S => opt ((seqD (view S x)).bind fun xs => (keysL S (fun d S => cl.fn f [d] S) xs).bind fun ks => byD m xs ks) S
  | .bst mx a js b, ρ, S => (ev cl a ρ S).bind fun x S => opt ((lstD x).bind fun xs => (keysL S (fun d S => ev cl b (lamE ρ js d) S) xs).bind fun ks => bstD mx xs ks) S
  | .lset a, ρ, S => (bw a ρ S (ev cl a ρ S)).bind fun x S => opt (lsetD (view S x)) S
  | .dct ks vs, ρ, S => (evs cl vs ρ S).bind fun ds S => opt (if ks.length = ds.length ∧ ks.length ≤ 15 ∧ ks.Nodup then some (.dic (ks.map Sum.inr) ds) else none) S
/-- texts one behind the other -/
def evJ (cl : Cl) : Exs → Str → Ev → Store → R D
  | .nil, acc, _, S => .ok (.str acc) S
  | .cons a r, acc, ρ, S => (ev cl a ρ S).bind fun x S => (opt (joinT acc x) S).bind fun acc S => evJ cl r acc ρ S
def evs (cl : Cl) : Exs → Ev → Store → R (List D)
  | .nil, _, S => .ok [] S
  | .cons a r, ρ, S => (ev cl a ρ S).bind fun x S => (evs cl r ρ S).bind fun xs S => .ok (x :: xs) S
/-- a and b and ..: all but the last True or False -/
def evAnd (cl : Cl) : Exs → Ev → Store → R D
  | .nil, _, _ => .bad
  | .cons a r, ρ, S => (ev cl a ρ S).bind fun x S => match r with
    | .nil => .ok x S
    | _ => match x with
      | .bl true => evAnd cl r ρ S
      | .bl false => .ok (.bl false) S
      | _ => .bad
def evOr (cl : Cl) : Exs → Ev → Store → R D
  | .nil, _, _ => .bad
  | .cons a r, ρ, S => (ev cl a ρ S).bind fun x S => match r with
    | .nil => .ok x S
    | _ => match x with
      | .bl true => .ok (.bl true) S
      | .bl false => evOr cl r ρ S
      | _ => .bad
/-- as a test -/
def evT (cl : Cl) : Tx → Ev → Store → R Bool
  | .and ts, ρ, S => evTA cl ts ρ S
  | .or ts, ρ, S => evTO cl ts ρ S
  | .not a, ρ, S => (evT cl a ρ S).bind fun k S => .ok (!k) S
  | .val e, ρ, S => (bw e ρ S (ev cl e ρ S)).bind fun x S => opt (truth (view S x)) S
def evTA (cl : Cl) : Txs → Ev → Store → R Bool
  | .nil, _, S => .bad
  | .cons a r, ρ, S => (evT cl a ρ S).bind fun k S => match r with
    | .nil => .ok k S
    | _ => if k then evTA cl r ρ S else .ok false S
def evTO (cl : Cl) : Txs → Ev → Store → R Bool
  | .nil, _, S => .bad
  | .cons a r, ρ, S => (evT cl a ρ S).bind fun k S => match r with
    | .nil => .ok k S
    | _ => if k then .ok true S else evTO cl r ρ S
/-- the items of a walk, and the place of the store that is walked -/
def evI (cl : Cl) : Itx → Ev → Store → R (List D × Option Nat)
  | .of e, ρ, S => (bw e ρ S (ev cl e ρ S)).bind fun x S => opt (ofD S x) S
  | .rng es, ρ, S => (evs cl es ρ S).bind fun ds S => opt ((rngD ds).map fun xs => (xs, none)) S
  | .enm e, ρ, S => (bw e ρ S (ev cl e ρ S)).bind fun x S => opt ((seqD x).map fun xs => (enumD 0 xs, none)) S
  | .zip a b, ρ, S => (bw a ρ S (ev cl a ρ S)).bind fun x S => (bw b ρ S (ev cl b ρ S)).bind fun y S => opt ((seqD x).bind fun xs => (seqD y).map fun ys => (zipD xs ys, none)) S
  | .rrg e, ρ, S => (ev cl e ρ S).bind fun x S => match x with
    | .int b => if small62 b then .ok (rngN (b - 1) b.toNat (-1), none) S else .bad
    | _ => .bad
  | .itm e, ρ, S => (bw e ρ S (ev cl e ρ S)).bind fun x S => opt ((itemsD x).map fun xs => (xs, none)) S
end
def RS.of {α : Type} (ρ : Ev) (r : R α) (f : α → Store → RS) : RS := match r with
  | .ok a S => f a S
  | .err x S => .er x ρ S
  | .bad => .bad
@[simp] theorem RS.of_ok {α : Type} (ρ : Ev) (a : α) (S : Store) (f : α → Store → RS) : RS.of ρ (.ok a S) f = f a S := rfl
@[simp] theorem RS.of_err {α : Type} (ρ : Ev) (x : Xc) (S : Store) (f : α → Store → RS) : RS.of ρ (.err x S : R α) f = .er x ρ S := rfl
@[simp] theorem RS.of_bad {α : Type} (ρ : Ev) (f : α → Store → RS) : RS.of ρ (.bad : R α) f = .bad := rfl
def RS.opt {α : Type} (o : Option α) (f : α → RS) : RS := match o with
  | some a => f a
  | none => .bad
@[simp] theorem RS.opt_some {α : Type} (a : α) (f : α → RS) : RS.opt (some a) f = f a := rfl
@[simp] theorem RS.opt_none {α : Type} (f : α → RS) : RS.opt (none : Option α) f = .bad := rfl
def RS.seq (r : RS) (f : Ev → Store → RS) : RS := match r with
  | .nx ρ S => f ρ S
  | r => r
@[simp] theorem RS.seq_nx (ρ : Ev) (S : Store) (f : Ev → Store → RS) : (RS.nx ρ S).seq f = f ρ S := rfl
@[simp] theorem RS.seq_rt (d : D) (S : Store) (f : Ev → Store → RS) : (RS.rt d S).seq f = .rt d S := rfl
@[simp] theorem RS.seq_er (x : Xc) (ρ : Ev) (S : Store) (f : Ev → Store → RS) : (RS.er x ρ S).seq f = .er x ρ S := rfl
@[simp] theorem RS.seq_bad (f : Ev → Store → RS) : RS.bad.seq f = .bad := rfl
/-- a for over items -/
def forL (f : D → Ev → Store → RS) (w : List D × Option Nat) : List D → Ev → Store → RS
  | [], ρ, S => if srcOk S w.2 w.1 then .nx ρ S else .bad
  | d :: r, ρ, S => if srcOk S w.2 w.1 then (f d ρ S).seq fun ρ S => forL f w r ρ S else .bad
/-- a while, so many turns at most -/
def whR (t : Ev → Store → R Bool) (b : Ev → Store → RS) : Nat → Ev → Store → RS
  | 0, _, _ => .bad
  | n + 1, ρ, S => RS.of ρ (t ρ S) fun k S => if k then (b ρ S).seq fun ρ S => whR t b n ρ S else .nx ρ S
def wmax : Nat := 1000000
def ownAt (ρ : Ev) (j : Nat) : Option Ob := match ρ[j]? with
  | some (.own o) => some o
  | _ => none
/-- no exception at hand -/
def noX (ρ : Ev) : Ev := ρ.map fun s => match s with
  | .exc _ => .un
  | s => s
def isDic : Ob → Bool
  | .dic _ => true
  | _ => false
def isLst : Ob → Bool
  | .lst _ => true
  | _ => false
def stdM (o : Ob) (k v : D) : Option Ob := match o with
  | .dic kvs => (keyD k).bind fun k => match lookP k kvs with
    | some (.lst xs) => if xs.length < lim then some (.dic (putP k (.lst (xs ++ [v])) kvs)) else none
    | some _ => none
    | none => if kvs.length < lim then some (.dic (putP k (.lst [v]) kvs)) else none
  | _ => none
/-- v goes to the group of k -/
def pushK (k : Key) (v : D) : List (Key × D) → Option (List (Key × D))
  | [] => some [(k, .lst [v])]
  | (a, d) :: r => if a = k then match d with
      | .lst xs => if xs.length < lim then some ((a, .lst (xs ++ [v])) :: r) else none
      | _ => none
    else (pushK k v r).map ((a, d) :: ·)
/-- the groups of a walk -/
def grpL (f : D → Ev → Store → R (Ev × Key × D)) (w : List D × Option Nat) : List D → Ev → Store → List (Key × D) → R (Ev × List (Key × D))
  | [], ρ, S, l => if srcOk S w.2 w.1 then .ok (ρ, l) S else .bad
  | d :: r, ρ, S, l => if srcOk S w.2 w.1 then (f d ρ S).bind fun q S => if l.length < lim then match pushK q.2.1 q.2.2 l with
      | some l => grpL f w r q.1 S l
      | none => .bad
    else .bad
    else .bad
def grpF (ek ev : Ev → Store → R D) (p : Pat) (d : D) (ρ : Ev) (S : Store) : R (Ev × Key × D) := match bindP p d ρ with
  | some ρ => (ek ρ S).bind fun kd S => match keyD kd with
    | some k => (ev ρ S).bind fun vd S => .ok (ρ, k, vd) S
    | none => .bad
  | none => .bad
def noErr {α : Type} : R α → R α
  | .err _ _ => .bad
  | r => r
mutual
def exS (cl : Cl) : Sm → Ev → Store → RS
  | .set p e, ρ, S => RS.of ρ (ev cl e ρ S) fun d S => RS.opt (bindP p d ρ) fun ρ => .nx ρ S
  | .own i e, ρ, S => RS.of ρ (ev cl e ρ S) fun d S => RS.opt (obOf d) fun o => if i < ρ.length then .nx (ρ.set i (.own o)) S else .bad
  | .sto i e, ρ, S => RS.of ρ (ev cl e ρ S) fun d S => RS.opt (obOf d) fun o => if i < ρ.length then .nx (ρ.set i (.val (.obj S.length))) (S ++ [o]) else .bad
  | .frz i, ρ, S => match ownAt ρ i with
    | some o => .nx (ρ.set i (.val o.toD)) S
    | none => .nx ρ S
  | .kil is, ρ, S => .nx (kill is ρ) S
  | .exp e, ρ, S => RS.of ρ (ev cl e ρ S) fun _ S => .nx ρ S
  | .mut j m es, ρ, S => RS.opt (ownAt ρ j) fun o => if isLst o then RS.of ρ (evs cl es ρ S) fun ds S => RS.opt (bmM m o ds) fun p => .nx (ρ.set j (.own p.2)) S else .bad
  | .mutv i j m es, ρ, S => RS.opt (ownAt ρ j) fun o => if isLst o ∧ i < ρ.length ∧ i ≠ j then RS.of ρ (evs cl es ρ S) fun ds S => RS.opt (bmM m o ds) fun p => .nx ((ρ.set j (.own p.2)).set i (.val p.1)) S else .bad
  | .sub a i e, ρ, S => RS.of ρ (ev cl e ρ S) fun d S => RS.of ρ (ev cl a ρ S) fun x S => RS.of ρ (ev cl i ρ S) fun k S => match x with
    | .obj n => RS.opt (S[n]?) fun o => RS.opt (subM o k d) fun o' => .nx ρ (S.set n o')
    | _ => .bad
  | .subo j i e, ρ, S => RS.of ρ (ev cl e ρ S) fun d S => RS.opt (ownAt ρ j) fun o => RS.of ρ (ev cl i ρ S) fun k S => RS.opt (subM o k d) fun o' => .nx (ρ.set j (.own o')) S
  | .del a i, ρ, S => RS.of ρ (ev cl a ρ S) fun x S => RS.of ρ (ev cl i ρ S) fun k S => match x with
    | .obj n => RS.opt (S[n]?) fun o => RS.opt (delM o k) fun o' => .nx ρ (S.set n o')
    | _ => .bad
  | .delo j i, ρ, S => RS.opt (ownAt ρ j) fun o => if isDic o = true then RS.of ρ (ev cl i ρ S) fun k S => RS.opt (delM o k) fun o' => .nx (ρ.set j (.own o')) S else .bad
  | .std j k v, ρ, S => RS.opt (ownAt ρ j) fun o => RS.of ρ (ev cl k ρ S) fun k S => RS.of ρ (ev cl v ρ S) fun v S => RS.opt (stdM o k v) fun o' => .nx (ρ.set j (.own o')) S
  | .fset a f e, ρ, S => RS.of ρ (ev cl e ρ S) fun d S => RS.of ρ (ev cl a ρ S) fun x S => match x with
    | .obj n => RS.opt (S[n]?) fun o => match o with
      | .ins c fs => if fs.length < 900 then .nx ρ (S.set n (.ins c (putS f d fs))) else .bad
      | _ => .bad
    | _ => .bad
  | .fsto a f e, ρ, S => RS.of ρ (ev cl e ρ S) fun d S => RS.of ρ (ev cl a ρ S) fun x S => RS.opt (obOf d) fun b => match x with
    | .obj n => RS.opt (S[n]?) fun o => match o with
      | .ins c fs => if fs.length < 900 then .nx ρ (S.set n (.ins c (putS f (.obj S.length) fs)) ++ [b]) else .bad
      | _ => .bad
    | _ => .bad
  | .aug i op e, ρ, S => match ρ[i]? with
    | some (.val x) => RS.of ρ (ev cl e ρ S) fun y S => RS.opt (binD op x y) fun z => .nx (ρ.set i (.val z)) S
    | _ => .bad
  | .faug a f op e, ρ, S => RS.of ρ (ev cl a ρ S) fun x S => match x with
    | .obj n => RS.opt (S[n]?) fun o => match o with
      | .ins c fs => RS.opt (fs.lookup f) fun v => RS.of ρ (ev cl e ρ S) fun y S => RS.opt (S[n]?) fun o => match o with
        | .ins c fs => RS.opt (binD op v y) fun z => if fs.length < 900 then .nx ρ (S.set n (.ins c (putS f z fs))) else .bad
        | _ => .bad
      | _ => .bad
    | _ => .bad
  | .ret e, ρ, S => RS.of ρ (ev cl e ρ S) fun d S => .rt d S
  | .reto i, ρ, S => RS.opt (ownAt ρ i) fun o => .rt o.toD S
  | .ifs t a b, ρ, S => RS.of ρ (evT cl t ρ S) fun k S => if k then exB cl a ρ S else exB cl b ρ S
  | .loop p it b, ρ, S => if srcOwn ρ it then .bad else RS.of ρ (evI cl it ρ S) fun w S => forL (fun d ρ S => RS.opt (bindP p d ρ) fun ρ => exB cl b ρ S) w w.1 ρ S
  | .grp j p it k v, ρ, S => if srcOwn (ρ.set j .un) it then .bad else match ownAt ρ j with
    | some (.dic []) => RS.of ρ (noErr (evI cl it (ρ.set j .un) S)) fun w S => RS.of ρ (noErr (grpL (grpF (ev cl k) (ev cl v) p) w w.1 (ρ.set j .un) S [])) fun q S => .nx (q.1.set j (.own (.dic q.2))) S
    | _ => .bad
  | .whl t b, ρ, S => whR (fun ρ S => evT cl t ρ S) (fun ρ S => exB cl b ρ S) wmax ρ S
  | .rai c es, ρ, S => RS.of ρ (evs cl es ρ S) fun ds S => RS.opt (cl.xmk c ds) fun fs => .er ⟨c, fs⟩ ρ S
  | .tri b c i h, ρ, S => match exB cl b ρ S with
    | .er x ρ S => if cl.sub x.c c then match exB cl h (ρ.set i (.exc x)) S with
        | .nx ρ S => .nx (noX (ρ.set i .un)) S
        | .rt d S => .rt d S
        | _ => .bad
      else .er x ρ S
    | r => r
  | .trn b c h, ρ, S => match exB cl b ρ S with
    | .er x ρ S => if cl.sub x.c c then match exB cl h ρ S with
        | .nx ρ S => .nx (noX ρ) S
        | .rt d S => .rt d S
        | _ => .bad
      else .er x ρ S
    | r => r
  | .slen i e b, ρ, S => RS.of ρ (ev cl e ρ S) fun x S => RS.opt (setN x) fun n => if ρ.length ≤ i then .bad else if 1 < n then exB cl b (ρ.set i .un) S else .nx (ρ.set i .un) S
  | .bot, _, _ => .bad
def exB (cl : Cl) : Bl → Ev → Store → RS
  | .nil, ρ, S => .nx ρ S
  | .cons s r, ρ, S => (exS cl s ρ S).seq fun ρ S => exB cl r ρ S
end
/-! ### the whole program -/
structure Fn where
  /-- slots, parameters -/
  n : Nat
  ps : Nat
  body : Bl
  /-- it neither takes nor hands back objects of the store: it runs in a store of its own -/
  iso : Bool
  /-- it hands back a new list or dict -/
  fr : Bool
structure Ci where
  /-- __init__ -/
  init : Nat
  ms : List (Str × Nat)
structure Xi where
  /-- how many arguments; the fields by the arguments' numbers; the classes above it, itself too -/
  ps : Nat
  fs : List (Str × Nat)
  up : List Nat
structure Prog where
  fns : List Fn
  cls : List Ci
  xcs : List Xi
  gls : List D
  /-- the file of the main text -/
  fl : Str := ""
  /-- the names of the constants -/
  gn : List Str := []
mutual
/-- no object of the store within -/
def nob : D → Bool
  | .non | .bl _ | .int _ | .str _ => true
  | .tup xs | .lst xs | .ro xs => nobs xs
  | .dic _ vs => nobs vs
  | .obj _ => false
def nobs : List D → Bool
  | [] => true
  | x :: r => nob x && nobs r
end
def fin (r : RS) : R D := match r with
  | .nx _ S => .ok .non S
  | .rt d S => .ok d S
  | .er x _ S => .err x S
  | .bad => .bad
@[simp] theorem fin_nx (ρ : Ev) (S : Store) : fin (.nx ρ S) = .ok .non S := rfl
@[simp] theorem fin_rt (d : D) (S : Store) : fin (.rt d S) = .ok d S := rfl
@[simp] theorem fin_er (x : Xc) (ρ : Ev) (S : Store) : fin (.er x ρ S) = .err x S := rfl
@[simp] theorem fin_bad : fin .bad = .bad := rfl
/-- out of a store of its own -/
def isoR (S : Store) (r : R D) : R D := match r with
  | .ok d _ => if nob d then .ok d S else .bad
  | .err x _ => if nobs (x.fs.map (·.2)) then .err x S else .bad
  | .bad => .bad
def st0 (n : Nat) (ds : List D) : Ev := ds.map .val ++ List.replicate (n - ds.length) .un
def runFn (cl : Cl) (F : Fn) (ds : List D) (S : Store) : R D :=
  if ds.length = F.ps then
    if F.iso then if nobs ds then isoR S (fin (exB cl F.body (st0 F.n ds) [])) else .bad
    else fin (exB cl F.body (st0 F.n ds) S)
  else .bad
def pickA (ds : List D) : List (Str × Nat) → Option (List (Str × D))
  | [] => some []
  | (f, i) :: r => match ds[i]?, pickA ds r with
    | some d, some q => some ((f, d) :: q)
    | _, _ => none
def Prog.me (P : Prog) (c : Nat) (m : Str) : Option Nat := (P.cls[c]?).bind fun C => C.ms.lookup m
/-- what an exception may be told: a text -/
def txtD : D → Bool
  | .str y => decide (y.length ≤ 1000000)
  | .int i => decide (i.natAbs.log2 < 1920) && decide ((toString i : Str).length ≤ 1000000)
  | _ => false
def Prog.xmk (P : Prog) (c : Nat) (ds : List D) : Option (List (Str × D)) := (P.xcs[c]?).bind fun x => if ds.length = x.ps ∧ nobs ds ∧ ds.all txtD then pickA ds x.fs else none
def Prog.sub (P : Prog) (a b : Nat) : Bool := match P.xcs[a]? with
  | some x => x.up.contains b
  | none => false
def run (P : Prog) : Nat → Cl
  | 0 => ⟨fun _ _ _ => .bad, fun _ _ _ => .bad, P.me, P.xmk, P.sub, fun k => P.gls[k]?⟩
  | n + 1 =>
    { fn := fun f ds S => match P.fns[f]? with
        | some F => runFn (run P n) F ds S
        | none => .bad
      new := fun c ds S => match P.cls[c]? with
        | some C => match P.fns[C.init]? with
          | some F => if F.iso then .bad else (runFn (run P n) F (.obj S.length :: ds) (S ++ [.ins c []])).bind fun d S' => match d with
            | .non => .ok (.obj S.length) S'
            | _ => .bad
          | none => .bad
        | none => .bad
      me := P.me
      xmk := P.xmk
      sub := P.sub
      gl := fun k => P.gls[k]? }
end DI
set_option Elab.async false
set_option linter.all false
set_option maxRecDepth 100000
set_option maxHeartbeats 4000000
/-! DI1: how plain data lies in the abstract heap. -/
namespace DI
open PySem PySem.Spec PyProof.Rows L2
/-- what is fixed through the law: the written part, where the classes stand -/
structure Gx where
  P : PySem.Program
  w : PySem.World
  K : PySem.W.Frag
  mg : Str → Option Value
  base : Heap
  ca : Nat → Addr
  /-- so many classes -/
  nc : Nat
  xa : Nat → Addr
  /-- so many exceptions -/
  nx : Nat
  fa : Nat → Addr
  /-- tables of code objects: where; the name of the lambdas that it tells (none: of generator expressions) -/
  tb : List (Addr × Option Str)
/-- where the store's objects lie, and what is frozen -/
structure Wd where
  n : Nat
  A : Nat → Addr
  F : Hp
def Exh (F H : Hp) : Prop := ∀ a o, F a = some o → H a = some o
theorem Exh.refl (F : Hp) : Exh F F := fun _ _ h => h
theorem Exh.trans {F G H : Hp} (a : Exh F G) (b : Exh G H) : Exh F H := fun x o h => b x o (a x o h)
theorem Exh.rd {F H : Hp} {a : Addr} {u : HO} (e : Exh F H) (h : Rd F a u) : Rd H a u := by
  rcases h with h | ⟨o, h⟩
  · exact Or.inl (e a _ h)
  · exact Or.inr ⟨o, e a _ h⟩
theorem Exh.sqt {K : PySem.W.Frag} {F H : Hp} {a : Addr} {xs : List V} (e : Exh F H) (h : SqT K F a xs) : SqT K H a xs := by
  rcases h with h | h
  · exact Or.inl (e.rd h)
  · exact Or.inr h
theorem Exh.sql {K : PySem.W.Frag} {F H : Hp} {a : Addr} {xs : List V} (e : Exh F H) (h : SqL K F a xs) : SqL K H a xs := by
  rcases h with h | h
  · exact Or.inl (e.rd h)
  · exact Or.inr h
theorem Exh.new {F : Hp} {p : Addr} {o : HO} (h : F p = none) : Exh F (upd F p o) := fun a u e => by
  rw [upd_ne (ne_of_none e h)]
  exact e
/-- a tuple that is known to have no dict of its own -/
def TupAt (K : PySem.W.Frag) (F : Hp) (a : Addr) (vs : List V) : Prop :=
  (∃ o : Obj, F a = some (.frz o (.tup vs)) ∧ o.dict = none) ∨
    ∃ (o : Obj) (its : Array Value) (n : Nat), K.lookup a = some o ∧ o.cls = .type "tuple" ∧ o.dict = none ∧ o.data = .seq its n ∧ its.size ≤ sizeLine ∧ Vals vs its.toList
theorem TupAt.sqt {K : PySem.W.Frag} {F : Hp} {a : Addr} {vs : List V} (h : TupAt K F a vs) : SqT K F a vs := by
  rcases h with ⟨o, h, _⟩ | ⟨o, its, n, h1, h2, _, h3, h4, h5⟩
  · exact .inl (.inr ⟨o, h⟩)
  · exact .inr ⟨o, its, n, h1, h2, h3, h4, h5⟩
theorem Exh.tupAt {K : PySem.W.Frag} {F H : Hp} {a : Addr} {xs : List V} (e : Exh F H) (h : TupAt K F a xs) : TupAt K H a xs := by
  rcases h with ⟨o, h, q⟩ | h
  · exact .inl ⟨o, e _ _ h, q⟩
  · exact .inr h
section
variable (G : Gx)
mutual
/-- v is the data d, where W's frozen objects stand -/
def Rep (W : Wd) : D → V → Prop
  | .non, v => v = .non
  | .bl b, v => v = .bl b
  | .int i, v => v = .int i
  | .str x, v => v = .str x
  | .tup xs, v => ∃ a vs, v = .ref a ∧ TupAt G.K W.F a vs ∧ Reps W xs vs
  | .lst xs, v => ∃ a vs, v = .ref a ∧ W.F a = some (.lst vs) ∧ Reps W xs vs
  | .ro xs, v => ∃ a vs, v = .ref a ∧ SqL G.K W.F a vs ∧ Reps W xs vs
  | .dic ks ds, v => ∃ a vs, v = .ref a ∧ ks.length = ds.length ∧ W.F a = some (.dK (ks.zip vs)) ∧ Reps W ds vs
  | .obj n, v => v = .ref (W.A n) ∧ n < W.n
def Reps (W : Wd) : List D → List V → Prop
  | [], vs => vs = []
  | d :: ds, vs => ∃ v us, vs = v :: us ∧ Rep W d v ∧ Reps W ds us
end
def KRep (W : Wd) : List (Key × D) → List (Key × V) → Prop
  | [], us => us = []
  | (k, d) :: r, us => ∃ v t, us = (k, v) :: t ∧ Rep G W d v ∧ KRep W r t
def FRep (W : Wd) : List (Str × D) → List (Str × V) → Prop
  | [], us => us = []
  | (k, d) :: r, us => ∃ v t, us = (k, v) :: t ∧ Rep G W d v ∧ FRep W r t
/-- at a the object o stands -/
def ObAt (W : Wd) (H : Hp) (a : Addr) : Ob → Prop
  | .lst xs => ∃ vs, H a = some (.lst vs) ∧ Reps G W xs vs
  | .dic kvs => ∃ us, H a = some (.dK us) ∧ KRep G W kvs us
  | .ins c fs => ∃ dx us, H a = some (.ins (G.ca c) dx us) ∧ FRep G W fs us ∧ c < G.nc
end
/-- W' knows what W knows -/
structure Wle (W W' : Wd) : Prop where
  n : W.n ≤ W'.n
  A : ∀ k, k < W.n → W'.A k = W.A k
  F : Exh W.F W'.F
theorem Wle.refl (W : Wd) : Wle W W := ⟨Nat.le_refl _, fun _ _ => rfl, Exh.refl _⟩
theorem Wle.trans {W W1 W2 : Wd} (a : Wle W W1) (b : Wle W1 W2) : Wle W W2 :=
  ⟨Nat.le_trans a.n b.n, fun k h => (b.A k (Nat.lt_of_lt_of_le h a.n)).trans (a.A k h), a.F.trans b.F⟩
section
variable {G : Gx} {W W' : Wd}
mutual
theorem Rep.le (w : Wle W W') : ∀ {d : D} {v : V}, Rep G W d v → Rep G W' d v
  | .non, _, h => h
  | .bl _, _, h => h
  | .int _, _, h => h
  | .str _, _, h => h
  | .tup xs, v, h => by
    obtain ⟨a, vs, e, q, r⟩ := h
    exact ⟨a, vs, e, w.F.tupAt q, Reps.le w r⟩
  | .lst xs, v, h => by
    obtain ⟨a, vs, e, q, r⟩ := h
    exact ⟨a, vs, e, w.F _ _ q, Reps.le w r⟩
  | .ro xs, v, h => by
    obtain ⟨a, vs, e, q, r⟩ := h
    exact ⟨a, vs, e, w.F.sql q, Reps.le w r⟩
  | .dic ks ds, v, h => by
    obtain ⟨a, vs, e, l, q, r⟩ := h
    exact ⟨a, vs, e, l, w.F _ _ q, Reps.le w r⟩
  | .obj n, v, h => by
    obtain ⟨e, l⟩ := h
    exact ⟨by rw [e, w.A n l], Nat.lt_of_lt_of_le l w.n⟩
theorem Reps.le (w : Wle W W') : ∀ {ds : List D} {vs : List V}, Reps G W ds vs → Reps G W' ds vs
  | [], _, h => h
  | d :: ds, vs, h => by
    obtain ⟨v, us, e, r, t⟩ := h
    exact ⟨v, us, e, Rep.le w r, Reps.le w t⟩
end
theorem KRep.le (w : Wle W W') : ∀ {l : List (Key × D)} {us : List (Key × V)}, KRep G W l us → KRep G W' l us
  | [], _, h => h
  | (k, d) :: r, us, h => by
    obtain ⟨v, t, e, q, r'⟩ := h
    exact ⟨v, t, e, q.le w, KRep.le w r'⟩
theorem FRep.le (w : Wle W W') : ∀ {l : List (Str × D)} {us : List (Str × V)}, FRep G W l us → FRep G W' l us
  | [], _, h => h
  | (k, d) :: r, us, h => by
    obtain ⟨v, t, e, q, r'⟩ := h
    exact ⟨v, t, e, q.le w, FRep.le w r'⟩
theorem ObAt.le {H : Hp} {a : Addr} {o : Ob} (w : Wle W W') (h : ObAt G W H a o) : ObAt G W' H a o := by
  cases o with
  | lst xs => obtain ⟨vs, e, r⟩ := h; exact ⟨vs, e, r.le w⟩
  | dic kvs => obtain ⟨us, e, r⟩ := h; exact ⟨us, e, r.le w⟩
  | ins c fs => obtain ⟨dx, us, e, r, l⟩ := h; exact ⟨dx, us, e, r.le w, l⟩
theorem ObAt.mv {H H' : Hp} {a : Addr} {o : Ob} (h : ObAt G W H a o) (e : ∀ u, H a = some u → (∀ ps, u ≠ .tbl ps) → H' a = some u) : ObAt G W H' a o := by
  cases o with
  | lst xs => obtain ⟨vs, q, r⟩ := h; exact ⟨vs, e _ q (fun _ z => by cases z), r⟩
  | dic kvs => obtain ⟨us, q, r⟩ := h; exact ⟨us, e _ q (fun _ z => by cases z), r⟩
  | ins c fs => obtain ⟨dx, us, q, r⟩ := h; exact ⟨dx, us, e _ q (fun _ z => by cases z), r⟩
theorem ObAt.some {H : Hp} {a : Addr} {o : Ob} (h : ObAt G W H a o) : H a ≠ none := by
  cases o with
  | lst xs => obtain ⟨vs, q, r⟩ := h; rw [q]; simp
  | dic kvs => obtain ⟨us, q, r⟩ := h; rw [q]; simp
  | ins c fs => obtain ⟨dx, us, q, r⟩ := h; rw [q]; simp
theorem Reps.length : ∀ {ds : List D} {vs : List V}, Reps G W ds vs → vs.length = ds.length
  | [], _, h => by
    have h' : _ = [] := h
    rw [h']; rfl
  | d :: ds, vs, h => by
    obtain ⟨v, us, e, r, t⟩ := h
    rw [e, List.length_cons, List.length_cons, Reps.length t]
theorem Reps.get : ∀ {ds : List D} {vs : List V} {i : Nat} {d : D}, Reps G W ds vs → ds[i]? = some d → ∃ v, vs[i]? = some v ∧ Rep G W d v
  | [], _, i, d, h, e => by simp at e
  | x :: ds, vs, 0, d, h, e => by
    obtain ⟨v, us, ev, r, t⟩ := h
    simp at e
    subst e
    exact ⟨v, by rw [ev]; rfl, r⟩
  | x :: ds, vs, i + 1, d, h, e => by
    obtain ⟨v, us, ev, r, t⟩ := h
    obtain ⟨u, q1, q2⟩ := Reps.get (i := i) (d := d) t (by simpa using e)
    exact ⟨u, by rw [ev]; simpa using q1, q2⟩
theorem Reps.append : ∀ {ds es : List D} {vs us : List V}, Reps G W ds vs → Reps G W es us → Reps G W (ds ++ es) (vs ++ us)
  | [], es, vs, us, h, q => by
    have h' : vs = [] := h
    rw [h']; exact q
  | d :: ds, es, vs, us, h, q => by
    obtain ⟨v, t, e, r, h2⟩ := h
    exact ⟨v, t ++ us, by rw [e]; rfl, r, Reps.append h2 q⟩
theorem Reps.rep {ds : List D} {vs : List V} (h : Reps G W ds vs) : ∀ n : Nat, Reps G W (List.replicate n ds).flatten (List.replicate n vs).flatten
  | 0 => rfl
  | n + 1 => by
    rw [List.replicate_succ, List.replicate_succ, List.flatten_cons, List.flatten_cons]
    exact h.append (Reps.rep h n)
theorem Reps.one {d : D} {v : V} (h : Rep G W d v) : Reps G W [d] [v] := ⟨v, [], rfl, h, rfl⟩
theorem Reps.take : ∀ {ds : List D} {vs : List V} (n : Nat), Reps G W ds vs → Reps G W (ds.take n) (vs.take n)
  | _, vs, 0, _ => by simp [Reps]
  | [], vs, n + 1, h => by
    have h' : vs = [] := h
    rw [h']; simp [Reps]
  | d :: ds, vs, n + 1, h => by
    obtain ⟨v, us, e, r, t⟩ := h
    rw [e]
    exact ⟨v, us.take n, by simp, r, Reps.take n t⟩
theorem Reps.drop : ∀ {ds : List D} {vs : List V} (n : Nat), Reps G W ds vs → Reps G W (ds.drop n) (vs.drop n)
  | _, vs, 0, h => h
  | [], vs, n + 1, h => by
    have h' : vs = [] := h
    rw [h']; simp [Reps]
  | d :: ds, vs, n + 1, h => by
    obtain ⟨v, us, e, r, t⟩ := h
    rw [e]
    exact Reps.drop n t
theorem Reps.set : ∀ {ds : List D} {vs : List V} {d : D} {v : V} (i : Nat), Reps G W ds vs → Rep G W d v → Reps G W (ds.set i d) (vs.set i v)
  | [], vs, d, v, i, h, q => by
    have h' : vs = [] := h
    rw [h']; simp [Reps]
  | x :: ds, vs, d, v, 0, h, q => by
    obtain ⟨u, us, e, r, t⟩ := h
    rw [e]
    exact ⟨v, us, rfl, q, t⟩
  | x :: ds, vs, d, v, i + 1, h, q => by
    obtain ⟨u, us, e, r, t⟩ := h
    rw [e]
    exact ⟨u, us.set i v, rfl, r, Reps.set i t q⟩
theorem Reps.eraseIdx : ∀ {ds : List D} {vs : List V} (i : Nat), Reps G W ds vs → Reps G W (ds.eraseIdx i) (vs.eraseIdx i)
  | [], vs, i, h => by
    have h' : vs = [] := h
    rw [h']; simp [Reps]
  | x :: ds, vs, 0, h => by
    obtain ⟨u, us, e, r, t⟩ := h
    rw [e]
    exact t
  | x :: ds, vs, i + 1, h => by
    obtain ⟨u, us, e, r, t⟩ := h
    rw [e]
    exact ⟨u, us.eraseIdx i, rfl, r, Reps.eraseIdx i t⟩
theorem Reps.reverse : ∀ {ds : List D} {vs : List V}, Reps G W ds vs → Reps G W ds.reverse vs.reverse
  | [], vs, h => by
    have h' : vs = [] := h
    rw [h']; simp [Reps]
  | d :: ds, vs, h => by
    obtain ⟨v, us, e, r, t⟩ := h
    rw [e, List.reverse_cons, List.reverse_cons]
    exact (Reps.reverse t).append (Reps.one r)
theorem Reps.dropLast {ds : List D} {vs : List V} (h : Reps G W ds vs) : Reps G W ds.dropLast vs.dropLast := by
  rw [List.dropLast_eq_take, List.dropLast_eq_take, h.length]
  exact h.take _
theorem Reps.cons {d : D} {v : V} {ds : List D} {vs : List V} (h : Rep G W d v) (t : Reps G W ds vs) : Reps G W (d :: ds) (v :: vs) := ⟨v, vs, rfl, h, t⟩
end
/-! ### the relation of store and heap, and how both go on -/
/-- no table, no code object -/
def Pln (o : Option HO) : Prop := (∀ ps, o ≠ some (.tbl ps)) ∧ ∀ c q, o ≠ some (LamX.CodeO c q)
theorem Pln.lst {vs : List V} : Pln (some (.lst vs)) := ⟨fun _ z => (by cases z), fun _ _ z => (by unfold LamX.CodeO at z; cases z)⟩
theorem Pln.dK {vs : List (Key × V)} : Pln (some (.dK vs)) := ⟨fun _ z => (by cases z), fun _ _ z => (by unfold LamX.CodeO at z; cases z)⟩
theorem ObAt.pln {G : Gx} {W : Wd} {H : Hp} {a : Addr} {o : Ob} (h : ObAt G W H a o) : Pln (H a) := by
  cases o with
  | lst xs => obtain ⟨vs, q, r⟩ := h; rw [q]; exact .lst
  | dic kvs => obtain ⟨us, q, r⟩ := h; rw [q]; exact .dK
  | ins c fs => obtain ⟨dx, us, q, r⟩ := h; rw [q]; exact ⟨fun _ z => (by cases z), fun _ _ z => (by unfold LamX.CodeO at z; cases z)⟩
/-- the table t stands, as it is wanted -/
def TabOk (H : Hp) (t : Addr × Option Str) : Prop := match t.2 with
  | none => GxR.TabG H t.1
  | some q => LamX.TabS H t.1 q
theorem TabOk.tbl {H : Hp} {t : Addr × Option Str} (h : TabOk H t) : ∃ ps, H t.1 = some (.tbl ps) := by
  obtain ⟨P, q⟩ := t
  cases q with
  | none => exact ⟨_, h.choose_spec.1⟩
  | some q => exact ⟨_, h.choose_spec.1⟩
theorem TabOk.mv {H H' : Hp} {t : Addr × Option Str} (h : TabOk H t) (h1 : ∀ ps, H t.1 = some (.tbl ps) → H' t.1 = some (.tbl ps)) (h2 : ∀ c q, H c = some (LamX.CodeO c q) → H' c = some (LamX.CodeO c q)) : TabOk H' t := by
  obtain ⟨P, q⟩ := t
  cases q with
  | none =>
    obtain ⟨ps, e, r⟩ := h
    exact ⟨ps, h1 ps e, r⟩
  | some q =>
    obtain ⟨ps, e, r, m⟩ := h
    refine ⟨ps, h1 ps e, r, fun pos cv hc => ?_⟩
    obtain ⟨c, e1, e2⟩ := m pos cv hc
    exact ⟨c, e1, h2 c q e2⟩
/-- one address is written that was none of them -/
theorem TabOk.upd {H : Hp} {t : Addr × Option Str} {p : Addr} {u : HO} (h : TabOk H t) (n : H p = none ∨ Pln (H p)) : TabOk (upd H p u) t := by
  have n' : Pln (H p) := by
    rcases n with n | n
    · rw [n]; exact ⟨fun _ z => (by cases z), fun _ _ z => (by cases z)⟩
    · exact n
  refine h.mv (fun ps e => ?_) fun c q e => ?_
  · rw [upd_ne (fun z => n'.1 ps (by rw [← z]; exact e))]; exact e
  · rw [upd_ne (fun z => n'.2 c q (by rw [← z]; exact e))]; exact e
section
variable (G : Gx)
structure Sim (W : Wd) (S : Store) (H : Hp) : Prop where
  len : W.n = S.length
  fz : Exh W.F H
  ob : ∀ n o, S[n]? = some o → ObAt G W H (W.A n) o
  nf : ∀ n, n < W.n → W.F (W.A n) = none
  inj : ∀ m n, m < W.n → n < W.n → W.A m = W.A n → m = n
  tb : ∀ t ∈ G.tb, TabOk H t
  tf : ∀ t ∈ G.tb, W.F t.1 = none
end
structure Stp (W : Wd) (H : Hp) (W' : Wd) (H' : Hp) : Prop where
  le : Wle W W'
  keep : ∀ a o, H a = some o → (∀ k, k < W.n → a ≠ W.A k) → (∀ ps, o ≠ .tbl ps) → H' a = some o
  nF : ∀ a, W'.F a ≠ none → W.F a ≠ none ∨ H a = none
  nA : ∀ k, W.n ≤ k → k < W'.n → H (W'.A k) = none
  dom : ∀ a, H a ≠ none → H' a ≠ none
theorem Stp.refl (W : Wd) (H : Hp) : Stp W H W H := ⟨.refl W, fun _ _ h _ _ => h, fun _ h => .inl h, fun k h1 h2 => absurd h2 (Nat.not_lt.mpr h1), fun _ h => h⟩
theorem Stp.trans {W W1 W2 : Wd} {H H1 H2 : Hp} (a : Stp W H W1 H1) (b : Stp W1 H1 W2 H2) : Stp W H W2 H2 where
  le := a.le.trans b.le
  keep := fun x o h hn ht => b.keep x o (a.keep x o h hn ht) (fun k hk e => by
    by_cases hl : k < W.n
    · exact hn k hl (by rw [e, a.le.A k hl])
    · have := a.nA k (Nat.not_lt.mp hl) hk
      rw [← e, h] at this
      cases this) ht
  nF := fun x h => by
    rcases b.nF x h with q | q
    · exact a.nF x q
    · refine .inr ?_
      cases e : H x with
      | none => rfl
      | some o => exact absurd q (a.dom x (by rw [e]; simp))
  nA := fun k h1 h2 => by
    by_cases hl : k < W1.n
    · rw [b.le.A k hl]; exact a.nA k h1 hl
    · have q := b.nA k (Nat.not_lt.mp hl) h2
      cases e : H (W2.A k) with
      | none => rfl
      | some o => exact absurd q (a.dom _ (by rw [e]; simp))
  dom := fun x h => b.dom x (a.dom x h)
section
variable {G : Gx} {W W' : Wd} {H H' : Hp} {S : Store}
/-- a new object that nothing speaks of yet -/
theorem Stp.push {p : Addr} {o : HO} (h : H p = none) : Stp W H W (upd H p o) where
  le := .refl W
  keep := fun a u e _ _ => by rw [upd_ne (ne_of_none e h)]; exact e
  nF := fun a h => .inl h
  nA := fun k h1 h2 => absurd h2 (Nat.not_lt.mpr h1)
  dom := fun a e => by
    by_cases q : a = p
    · subst q; exact absurd h e
    · rw [upd_ne q]; exact e
theorem Sim.push {p : Addr} {o : HO} (s : Sim G W S H) (h : H p = none) : Sim G W S (upd H p o) where
  len := s.len
  fz := s.fz.trans (.new h)
  ob := fun n u e => (s.ob n u e).mv fun x hx _ => by rw [upd_ne (ne_of_none hx h)]; exact hx
  nf := s.nf
  inj := s.inj
  tb := fun t ht => (s.tb t ht).upd (.inl h)
  tf := s.tf
/-- the same object, frozen -/
def Wd.fz (W : Wd) (p : Addr) (o : HO) : Wd := ⟨W.n, W.A, upd W.F p o⟩
theorem Wle.fz {p : Addr} {o : HO} (h : W.F p = none) : Wle W (W.fz p o) := ⟨Nat.le_refl _, fun _ _ => rfl, .new h⟩
theorem Sim.fzn {p : Addr} {o : HO} (s : Sim G W S H) (h : H p = some o) (ho : ∀ ps, o ≠ .tbl ps) (hF : W.F p = none) (hA : ∀ k, k < W.n → p ≠ W.A k) : Sim G (W.fz p o) S H where
  len := s.len
  fz := fun a u e => by
    by_cases q : a = p
    · subst q
      have e' : upd W.F a o a = some u := e
      rw [upd_same] at e'
      rw [h]; exact e'
    · have e' : upd W.F p o a = some u := e
      rw [upd_ne q] at e'
      exact s.fz a u e'
  ob := fun n u e => (s.ob n u e).le (.fz hF)
  nf := fun n hn => by
    show upd W.F p o (W.A n) = none
    rw [upd_ne (fun e => hA n hn e.symm)]
    exact s.nf n hn
  inj := s.inj
  tb := s.tb
  tf := fun t ht => by
    show upd W.F p o t.1 = none
    obtain ⟨ps, e⟩ := (s.tb t ht).tbl
    rw [upd_ne (fun z => ho ps (by rw [z, h] at e; exact Option.some.inj e))]
    exact s.tf t ht
/-- a step that ends by freezing what was not there at its beginning -/
theorem Stp.fzn {p : Addr} {o : HO} (s : Stp W H W' H') (h : H p = none) (hF : W'.F p = none) : Stp W H (W'.fz p o) H' where
  le := s.le.trans (.fz hF)
  keep := s.keep
  nF := fun a e => by
    by_cases q : a = p
    · subst q; exact .inr h
    · have e' : upd W'.F p o a ≠ none := e
      rw [upd_ne q] at e'
      exact s.nF a e'
  nA := s.nA
  dom := s.dom
/-- a new object of the store -/
def Wd.alloc (W : Wd) (p : Addr) : Wd := ⟨W.n + 1, fun k => if k = W.n then p else W.A k, W.F⟩
theorem Wle.alloc (W : Wd) (p : Addr) : Wle W (W.alloc p) := ⟨Nat.le_succ _, fun k h => if_neg (Nat.ne_of_lt h), Exh.refl _⟩
theorem Wd.alloc_at (W : Wd) (p : Addr) : (W.alloc p).A W.n = p := if_pos rfl
theorem Sim.alloc {p : Addr} {o : Ob} (s : Sim G W S H) (h : ObAt G W H p o) (hF : W.F p = none) (hA : ∀ k, k < W.n → p ≠ W.A k) : Sim G (W.alloc p) (S ++ [o]) H where
  len := by
    show W.n + 1 = _
    rw [s.len, List.length_append]; rfl
  fz := s.fz
  ob := fun n u e => by
    by_cases q : n < S.length
    · rw [List.getElem?_append_left q] at e
      have := (s.ob n u e).le (Wle.alloc W p)
      rw [(Wle.alloc W p).A n (by rw [s.len]; exact q)]
      exact this
    · have q' : n = S.length := by
        have hl := (List.getElem?_eq_some_iff.mp e).1
        rw [List.length_append, List.length_singleton] at hl
        omega
      subst q'
      rw [List.getElem?_append_right (Nat.le_refl _), Nat.sub_self] at e
      simp at e
      subst e
      rw [← s.len, Wd.alloc_at]
      exact h.le (Wle.alloc W p)
  nf := fun n hn => by
    show W.F _ = none
    by_cases q : n = W.n
    · subst q; rw [Wd.alloc_at]; exact hF
    · have hn' : n < W.n + 1 := hn
      have l : n < W.n := by omega
      rw [(Wle.alloc W p).A n l]; exact s.nf n l
  inj := fun m n hm hn e => by
    have hm' : m < W.n + 1 := hm
    have hn' : n < W.n + 1 := hn
    by_cases q : m = W.n
    · by_cases r : n = W.n
      · rw [q, r]
      · have l : n < W.n := by omega
        rw [q, Wd.alloc_at, (Wle.alloc W p).A n l] at e
        exact absurd e (hA n l)
    · have l : m < W.n := by omega
      by_cases r : n = W.n
      · rw [r, Wd.alloc_at, (Wle.alloc W p).A m l] at e
        exact absurd e.symm (hA m l)
      · have l2 : n < W.n := by omega
        rw [(Wle.alloc W p).A m l, (Wle.alloc W p).A n l2] at e
        exact s.inj m n l l2 e
  tb := s.tb
  tf := s.tf
theorem Stp.alloc {p : Addr} (s : Stp W H W' H') (h : H p = none) : Stp W H (W'.alloc p) H' where
  le := s.le.trans (.alloc W' p)
  keep := s.keep
  nF := s.nF
  nA := fun k h1 h2 => by
    have h2' : k < W'.n + 1 := h2
    by_cases q : k = W'.n
    · subst q; rw [Wd.alloc_at]; exact h
    · have l : k < W'.n := by omega
      rw [(Wle.alloc W' p).A k l]; exact s.nA k h1 l
  dom := s.dom
/-- an object of the store is changed -/
theorem Sim.set {n : Nat} {o : Ob} {u : HO} (s : Sim G W S H) (hn : n < W.n) (h : ObAt G W (upd H (W.A n) u) (W.A n) o) : Sim G W (S.set n o) (upd H (W.A n) u) where
  len := by rw [List.length_set]; exact s.len
  fz := fun a x e => by
    rw [upd_ne (fun q => by rw [q, s.nf n hn] at e; cases e)]
    exact s.fz a x e
  ob := fun m x e => by
    by_cases q : m = n
    · subst q
      have hl : m < S.length := by rw [← s.len]; exact hn
      rw [List.getElem?_set_self hl] at e
      cases e
      exact h
    · rw [List.getElem?_set_ne (fun z => q z.symm)] at e
      have hm : m < W.n := by rw [s.len]; exact (List.getElem?_eq_some_iff.mp e).1
      exact (s.ob m x e).mv fun y hy _ => by rw [upd_ne (fun z => q (s.inj m n hm hn z))]; exact hy
  nf := s.nf
  inj := s.inj
  tb := fun t ht => (s.tb t ht).upd (.inr (s.ob n _ (List.getElem?_eq_getElem (by rw [← s.len]; exact hn))).pln)
  tf := s.tf
theorem Stp.set {n : Nat} {u : HO} (hn : n < W.n) (hs : H (W.A n) ≠ none) : Stp W H W (upd H (W.A n) u) where
  le := .refl W
  keep := fun a o e hA _ => by rw [upd_ne (hA n hn)]; exact e
  nF := fun a h => .inl h
  nA := fun k h1 h2 => absurd h2 (Nat.not_lt.mpr h1)
  dom := fun a e => by
    by_cases q : a = W.A n
    · subst q; rw [upd_same]; simp
    · rw [upd_ne q]; exact e
/-- an object that no one else speaks of is changed -/
theorem Sim.other {p : Addr} {u : HO} (s : Sim G W S H) (hF : W.F p = none) (hA : ∀ k, k < W.n → p ≠ W.A k) (hP : Pln (H p)) : Sim G W S (upd H p u) where
  len := s.len
  fz := fun a x e => by
    rw [upd_ne (fun q => by rw [q, hF] at e; cases e)]
    exact s.fz a x e
  ob := fun m x e => by
    have hm : m < W.n := by rw [s.len]; exact (List.getElem?_eq_some_iff.mp e).1
    exact (s.ob m x e).mv fun y hy _ => by rw [upd_ne (fun z => hA m hm z.symm)]; exact hy
  nf := s.nf
  inj := s.inj
  tb := fun t ht => (s.tb t ht).upd (.inr hP)
  tf := s.tf
theorem Stp.other {p : Addr} {u : HO} (s : Stp W H W' H') (h : H p = none) (hs : H' p ≠ none) : Stp W H W' (upd H' p u) where
  le := s.le
  keep := fun a o e hA ht => by rw [upd_ne (ne_of_none e h)]; exact s.keep a o e hA ht
  nF := s.nF
  nA := s.nA
  dom := fun a e => by
    by_cases q : a = p
    · subst q; rw [upd_same]; simp
    · rw [upd_ne q]; exact s.dom a e
end
end DI
set_option Elab.async false
set_option linter.all false
set_option maxRecDepth 100000
set_option maxHeartbeats 4000000
/-! DI2: operations on values, by their data. -/
namespace DI
open PySem PySem.Spec PyProof.Rows L2
section
variable (G : Gx)
/-- v is d now: frozen, or an object that stands in H -/
def VRep (W : Wd) (H : Hp) (d : D) (v : V) : Prop := Rep G W d v ∨ ∃ p o, v = .ref p ∧ obOf d = some o ∧ ObAt G W H p o
/-- .. apart from the store's objects -/
def BRep (W : Wd) (H : Hp) (d : D) (v : V) : Prop := Rep G W d v ∨ ∃ p o, v = .ref p ∧ obOf d = some o ∧ ObAt G W H p o ∧ ∀ k, k < W.n → p ≠ W.A k
/-- a new object -/
def Fresh (W : Wd) (H0 H : Hp) (d : D) (v : V) : Prop := ∃ p o, v = .ref p ∧ obOf d = some o ∧ ObAt G W H p o ∧ W.F p = none ∧ (∀ k, k < W.n → p ≠ W.A k) ∧ H0 p = none
def PostV (fr : Bool) (W : Wd) (H0 H : Hp) (d : D) (v : V) : Prop := if (fr && (obOf d).isSome) = true then Fresh G W H0 H d v else Rep G W d v
end
section
variable {G : Gx} {W W' : Wd} {H H' H0 : Hp} {S S' : Store} {d : D} {v : V} {fr : Bool}
theorem PostV.of_rep (h : Rep G W d v) (e : fr = false ∨ obOf d = none) : PostV G fr W H0 H d v := by
  unfold PostV
  rw [if_neg]
  · exact h
  · rcases e with e | e <;> simp [e]
theorem PostV.of_fresh (h : Fresh G W H0 H d v) : PostV G true W H0 H d v := by
  unfold PostV
  obtain ⟨p, o, e, q, r⟩ := h
  rw [if_pos (by simp [q])]
  exact ⟨p, o, e, q, r⟩
theorem BRep.rep (h : Rep G W d v) : BRep G W H d v := .inl h
theorem PostV.b (h : PostV G fr W H0 H d v) : BRep G W H d v := by
  unfold PostV at h
  split at h
  · obtain ⟨p, o, e, q, r, _, n, _⟩ := h
    exact .inr ⟨p, o, e, q, r, n⟩
  · exact .inl h
theorem BRep.vr (h : BRep G W H d v) : VRep G W H d v := by
  rcases h with h | ⟨p, o, e, q, r, _⟩
  · exact .inl h
  · exact .inr ⟨p, o, e, q, r⟩
theorem BRep.mv (h : BRep G W H d v) (s : Stp W H W' H') : BRep G W' H' d v := by
  rcases h with h | ⟨p, o, e, q, r, n⟩
  · exact .inl (h.le s.le)
  · refine .inr ⟨p, o, e, q, (r.mv fun u hu ht => s.keep p u hu n ht).le s.le, fun k hk z => ?_⟩
    by_cases hl : k < W.n
    · exact n k hl (by rw [z, s.le.A k hl])
    · have := s.nA k (Nat.not_lt.mp hl) hk
      rw [← z] at this
      exact r.some this
theorem obOf_lst (xs : List D) : obOf (.lst xs) = some (.lst xs) := rfl
theorem zip_fst_snd {α β : Type} : ∀ l : List (α × β), (l.map (·.1)).zip (l.map (·.2)) = l
  | [] => rfl
  | (a, b) :: r => by simp [zip_fst_snd r]
theorem obOf_toD_dic (kvs : List (Key × D)) : obOf (Ob.dic kvs).toD = some (.dic kvs) := by
  show (if (kvs.map (·.1)).length = (kvs.map (·.2)).length then some (Ob.dic _) else none) = _
  rw [if_pos (by simp), zip_fst_snd]
theorem view_lst {S : Store} {n : Nat} {xs : List D} (e : S[n]? = some (.lst xs)) : view S (.obj n) = .lst xs := by
  unfold view
  simp only [e]
theorem view_dic {S : Store} {n : Nat} {kvs : List (Key × D)} (e : S[n]? = some (.dic kvs)) : view S (.obj n) = (Ob.dic kvs).toD := by
  unfold view
  simp only [e, Ob.toD]
theorem view_none {S : Store} {n : Nat} (e : S[n]? = none) : view S (.obj n) = .obj n := by
  unfold view
  simp only [e]
theorem view_ins {S : Store} {n c : Nat} {fs : List (Str × D)} (e : S[n]? = some (.ins c fs)) : view S (.obj n) = .obj n := by
  unfold view
  simp only [e]
/-- what a place of the store shows -/
theorem BRep.view (h : BRep G W H d v) (s : Sim G W S H) : VRep G W H (view S d) v := by
  cases d with
  | obj n =>
    rcases h with h | ⟨p, o, e, q, _⟩
    · have h0 := h
      obtain ⟨e, hn⟩ := h
      cases q : S[n]? with
      | none => rw [view_none q]; exact .inl h0
      | some o =>
        have a := s.ob n o q
        cases o with
        | lst xs => rw [view_lst q]; exact .inr ⟨_, _, e, rfl, a⟩
        | dic kvs => rw [view_dic q]; exact .inr ⟨_, .dic kvs, e, obOf_toD_dic kvs, a⟩
        | ins c fs => rw [view_ins q]; exact .inl h0
    · cases q
  | _ => exact h.vr
theorem VRep.lst {xs : List D} (h : VRep G W H (.lst xs) v) (f : Exh W.F H) : ∃ p vs, v = .ref p ∧ H p = some (.lst vs) ∧ Reps G W xs vs := by
  rcases h with h | ⟨p, o, e, q, r⟩
  · obtain ⟨a, vs, e, q, r⟩ := h
    exact ⟨a, vs, e, f _ _ q, r⟩
  · cases q
    obtain ⟨vs, q, r⟩ := r
    exact ⟨p, vs, e, q, r⟩
theorem VRep.tup {xs : List D} (h : VRep G W H (.tup xs) v) (f : Exh W.F H) : ∃ p vs, v = .ref p ∧ TupAt G.K H p vs ∧ Reps G W xs vs := by
  rcases h with h | ⟨p, o, e, q, r⟩
  · obtain ⟨a, vs, e, q, r⟩ := h
    exact ⟨a, vs, e, f.tupAt q, r⟩
  · cases q
theorem VRep.ro {xs : List D} (h : VRep G W H (.ro xs) v) (f : Exh W.F H) : ∃ p vs, v = .ref p ∧ SqL G.K H p vs ∧ Reps G W xs vs := by
  rcases h with h | ⟨p, o, e, q, r⟩
  · obtain ⟨a, vs, e, q, r⟩ := h
    exact ⟨a, vs, e, f.sql q, r⟩
  · cases q
theorem krep_zip : ∀ {ks : List Key} {ds : List D} {vs : List V}, Reps G W ds vs → KRep G W (ks.zip ds) (ks.zip vs)
  | [], ds, vs, h => by simp [KRep]
  | k :: ks, [], vs, h => by
    have h' : vs = [] := h
    rw [h']; simp [KRep]
  | k :: ks, d :: ds, vs, h => by
    obtain ⟨v, us, e, r, t⟩ := h
    rw [e]
    exact ⟨v, ks.zip us, rfl, r, krep_zip t⟩
theorem VRep.dic {ks : List Key} {ds : List D} (h : VRep G W H (.dic ks ds) v) (f : Exh W.F H) : ∃ p us, v = .ref p ∧ H p = some (.dK us) ∧ KRep G W (ks.zip ds) us ∧ ks.length = ds.length := by
  rcases h with h | ⟨p, o, e, q, r⟩
  · obtain ⟨a, vs, e, l, q, r⟩ := h
    exact ⟨a, _, e, f _ _ q, krep_zip r, l⟩
  · have q' : (if ks.length = ds.length then some (Ob.dic (ks.zip ds)) else none) = some o := q
    split at q'
    · rename_i l
      cases q'
      obtain ⟨us, q, r⟩ := r
      exact ⟨p, us, e, q, r, l⟩
    · cases q'
theorem VRep.int {i : Int} (h : VRep G W H (.int i) v) : v = .int i := by
  rcases h with h | ⟨p, o, e, q, r⟩
  · exact h
  · cases q
theorem VRep.str {x : Str} (h : VRep G W H (.str x) v) : v = .str x := by
  rcases h with h | ⟨p, o, e, q, r⟩
  · exact h
  · cases q
theorem VRep.bl {b : Bool} (h : VRep G W H (.bl b) v) : v = .bl b := by
  rcases h with h | ⟨p, o, e, q, r⟩
  · exact h
  · cases q
theorem VRep.non (h : VRep G W H .non v) : v = .non := by
  rcases h with h | ⟨p, o, e, q, r⟩
  · exact h
  · cases q
theorem VRep.obj {n : Nat} (h : VRep G W H (.obj n) v) : v = .ref (W.A n) ∧ n < W.n := by
  rcases h with h | ⟨p, o, e, q, r⟩
  · exact h
  · cases q
/-- a list's or tuple's items -/
theorem VRep.seq {xs : List D} (h : VRep G W H d v) (f : Exh W.F H) (e : seqD d = some xs) : ∃ p vs, v = .ref p ∧ (SqL G.K H p vs ∨ SqT G.K H p vs) ∧ Reps G W xs vs := by
  cases d with
  | tup ys => cases e; obtain ⟨p, vs, a, b, c⟩ := h.tup f; exact ⟨p, vs, a, .inr b.sqt, c⟩
  | lst ys => cases e; obtain ⟨p, vs, a, b, c⟩ := h.lst f; exact ⟨p, vs, a, .inl (.of b), c⟩
  | ro ys => cases e; obtain ⟨p, vs, a, b, c⟩ := h.ro f; exact ⟨p, vs, a, .inl b, c⟩
  | _ => cases e
/-! ### new objects -/
theorem lim_le {n : Nat} (h : n ≤ lim) : n ≤ sizeLine := Nat.le_trans h (by decide)
theorem lim_lt {n : Nat} (h : n < lim) : n < sizeLine := Nat.lt_of_lt_of_le h (by decide)
/-- what an answer must serve -/
def Ans (G : Gx) (W : Wd) (S : Store) (H : Hp) (d : D) (Q : VK) : Prop := ∀ W' H' v, Stp W H W' H' → Sim G W' S H' → PostV G true W' H H' d v → Q v H'
theorem Ans.flat {Q : VK} (a : Ans G W S H d Q) (s : Sim G W S H) (h : Rep G W d v) (e : obOf d = none) : Q v H := a W H v (.refl _ _) s (.of_rep h (.inr e))
theorem Ans.lst {xs : List D} {vs : List V} {Q : VK} (a : Ans G W S H (.lst xs) Q) (s : Sim G W S H) (r : Reps G W xs vs) {p : Addr} (hp : H p = none) : Q (.ref p) (upd H p (.lst vs)) := by
  have hF : W.F p = none := by
    cases e : W.F p with
    | none => rfl
    | some o => rw [s.fz p o e] at hp; cases hp
  have hA : ∀ k, k < W.n → p ≠ W.A k := fun k hk e => by
    rw [s.len] at hk
    have := (s.ob k _ (List.getElem?_eq_getElem hk)).some
    rw [← e] at this
    exact this hp
  exact a W _ _ (.push hp) (s.push hp) (.of_fresh ⟨p, .lst xs, rfl, rfl, ⟨vs, upd_same, r⟩, hF, hA, hp⟩)
theorem Ans.dic {kvs : List (Key × D)} {us : List (Key × V)} {Q : VK} (a : Ans G W S H (Ob.dic kvs).toD Q) (s : Sim G W S H) (r : KRep G W kvs us) {p : Addr} (hp : H p = none) : Q (.ref p) (upd H p (.dK us)) := by
  have hF : W.F p = none := by
    cases e : W.F p with
    | none => rfl
    | some o => rw [s.fz p o e] at hp; cases hp
  have hA : ∀ k, k < W.n → p ≠ W.A k := fun k hk e => by
    rw [s.len] at hk
    have := (s.ob k _ (List.getElem?_eq_getElem hk)).some
    rw [← e] at this
    exact this hp
  exact a W _ _ (.push hp) (s.push hp) (.of_fresh ⟨p, .dic kvs, rfl, obOf_toD_dic kvs, ⟨us, upd_same, r⟩, hF, hA, hp⟩)
theorem Ans.tup {xs : List D} {vs : List V} {Q : VK} (a : Ans G W S H (.tup xs) Q) (s : Sim G W S H) (r : Reps G W xs vs) {p : Addr} {o : Obj} (hp : H p = none) (ho : o.dict = none) : Q (.ref p) (upd H p (.frz o (.tup vs))) := by
  have hF : W.F p = none := by
    cases e : W.F p with
    | none => rfl
    | some o => rw [s.fz p o e] at hp; cases hp
  have hA : ∀ k, k < W.n → p ≠ W.A k := fun k hk e => by
    rw [s.len] at hk
    have := (s.ob k _ (List.getElem?_eq_getElem hk)).some
    rw [← e] at this
    exact this hp
  have st : Stp W H W (upd H p (.frz o (.tup vs))) := .push hp
  exact a (W.fz p (.frz o (.tup vs))) _ _ (st.fzn hp hF) ((s.push hp).fzn upd_same (fun _ z => by cases z) hF hA)
    (.of_rep ⟨p, vs, rfl, .inl ⟨o, upd_same, ho⟩, r.le (.fz hF)⟩ (.inr rfl))
end
/-- a new tuple, by its object -/
theorem laidT {X : Cx} {pins : List (Addr × Obj)} {σ : L2.St} {H : Hp} {s : Shared} {h' : Heap} {t' : Nat} {a : Addr} {vs : List V} {its : List Value} {o : Obj} (I : Inv X pins σ H s) (k : ∀ b u, s.heap.get? b = some u → h'.get? b = some u) (hp : s.heap.objs.size ≤ a)
    (r : Vals vs its) (hz : vs.length ≤ sizeLine) (e : h'.get? a = some o) (hc : o.cls = .type "tuple") (hd : ∃ n, o.data = .seq its.toArray n) : Inv X pins σ (upd H a (.frz o (.tup vs))) { s with heap := h', toks := t' } :=
  I.laid (o := .frz o (.tup vs)) k hp ⟨e, hz, its, r, o, e, hc, hd⟩
/-! ### plain data and the kit's own -/
section
variable {G : Gx} {W : Wd} {H : Hp} {d : D} {v : V}
mutual
theorem Rep.dp (f : Exh W.F H) : ∀ {d : D} {v : V}, Rep G W d v → pl d = true → Dp G.K H v (toPy d)
  | .non, _, h, _ => by
    have h' : _ = V.non := h
    rw [h']; exact .non
  | .bl b, _, h, _ => by
    have h' : _ = V.bl b := h
    rw [h']; exact .bl b
  | .int i, _, h, _ => by
    have h' : _ = V.int i := h
    rw [h']; exact .int i
  | .str x, _, h, _ => by
    have h' : _ = V.str x := h
    rw [h']; exact .str x
  | .tup xs, _, h, p => by
    obtain ⟨a, vs, e, q, r⟩ := h
    rw [e]; exact .tup (f.sqt q.sqt) (Reps.dp f r p)
  | .lst xs, _, h, p => by
    obtain ⟨a, vs, e, q, r⟩ := h
    rw [e]; exact .lst (.of (f _ _ q)) (Reps.dp f r p)
  | .ro xs, _, h, p => by
    obtain ⟨a, vs, e, q, r⟩ := h
    rw [e]; exact .lst (f.sql q) (Reps.dp f r p)
theorem Reps.dp (f : Exh W.F H) : ∀ {ds : List D} {vs : List V}, Reps G W ds vs → pls ds = true → DpAll G.K H vs (toPys ds)
  | [], vs, h, _ => by
    have h' : vs = [] := h
    rw [h']; exact .nil
  | d :: ds, vs, h, p => by
    obtain ⟨v, us, e, r, t⟩ := h
    have p' : (pl d && pls ds) = true := p
    rw [Bool.and_eq_true] at p'
    rw [e]
    exact .cons (Rep.dp f r p'.1) (Reps.dp f t p'.2)
end
theorem VRep.dp (h : VRep G W H d v) (f : Exh W.F H) (p : pl d = true) : Dp G.K H v (toPy d) := by
  rcases h with h | ⟨a, o, e, q, r⟩
  · exact h.dp f p
  · cases d with
    | lst xs =>
      cases q
      obtain ⟨vs, q, r⟩ := r
      rw [e]
      exact .lst (.of q) (r.dp f p)
    | dic ks ds => cases p
    | _ => cases q
mutual
theorem pl_lay : ∀ {d : D}, pl d = true → (toPy d).canLay0 = true
  | .non, _ => by simp [toPy, PyData.canLay0]
  | .bl _, _ => by simp [toPy, PyData.canLay0]
  | .int _, _ => by simp [toPy, PyData.canLay0]
  | .str x, h => by
    have h' : PyData.strOk x = true := h
    simp [toPy, PyData.canLay0, h']
  | .tup xs, h => by
    show PyData.canLay0 (.tuple _) = true
    simp only [PyData.canLay0]
    exact pls_lay h
  | .lst xs, h => by
    show PyData.canLay0 (.list _) = true
    simp only [PyData.canLay0]
    exact pls_lay h
  | .ro xs, h => by
    show PyData.canLay0 (.list _) = true
    simp only [PyData.canLay0]
    exact pls_lay h
theorem pls_lay : ∀ {ds : List D}, pls ds = true → PyData.canLayAll0 (toPys ds) = true
  | [], _ => rfl
  | d :: ds, h => by
    have p' : (pl d && pls ds) = true := h
    rw [Bool.and_eq_true] at p'
    show PyData.canLayAll0 (toPy d :: toPys ds) = true
    simp only [PyData.canLayAll0, Bool.and_eq_true]
    exact ⟨pl_lay p'.1, pls_lay p'.2⟩
end
theorem shaped_of {d : D} (h : pl d = true) (l : (toPy d).depth ≤ 60) : SeqAt.shaped (toPy d) = true := by
  unfold SeqAt.shaped
  rw [Bool.and_eq_true]
  exact ⟨pl_lay h, decide_eq_true (Nat.le_trans l (by decide))⟩
end
end DI
set_option Elab.async false
set_option linter.all false
set_option maxRecDepth 100000
set_option maxHeartbeats 4000000
/-! DI3: the rules of operators, subscripts, built-ins by data. -/
namespace DI
open PySem PySem.Spec PyProof.Rows L2
def Bop.ast : Bop → Operator
  | .add => .Add | .sub => .Sub | .mul => .Mult | .fdiv => .FloorDiv | .mod => .Mod | .pow => .Pow
def Cop.ast : Cop → CmpOp
  | .eq => .Eq | .ne => .NotEq | .lt => .Lt | .le => .LtE | .gt => .Gt | .ge => .GtE | .isin => .In | .notin => .NotIn | .is => .Is | .isnot => .IsNot
section
variable {G : Gx} {X : Cx}
theorem two64_eq : two64 = 2 ^ 64 := by decide
/-- t + u, the sum's object known -/
def rCatF (K : PySem.W.Frag) : R2 := fun x y H Q => ∃ a b xs ys, x = .ref a ∧ y = .ref b ∧ SqT K H a xs ∧ SqT K H b ys ∧ xs.length + ys.length ≤ sizeLine ∧
  (xs = [] → Q (.ref b) H) ∧ (xs ≠ [] → ys = [] → Q (.ref a) H) ∧ (xs ≠ [] → ys ≠ [] → ∀ p o, H p = none → o.dict = none → Q (.ref p) (upd H p (.frz o (.tup (xs ++ ys)))))
theorem op_catF : OpR X (binaryOp .Add) (rCatF X.K) := by
  intro pins s σ H x y v u Q I rx ry h
  obtain ⟨a, b, xs, ys, rfl, rfl, ha, hb, hz, q0, q1, q2⟩ := h
  cases rx
  cases ry
  obtain ⟨its, r1, p1, _⟩ := I.tuple ha
  obtain ⟨its2, r2, p2, _⟩ := I.tuple hb
  by_cases hx : xs = []
  · subst hx
    cases r1
    exact cat_tup0 p1 p2 ⟨.ref b, H, I, rfl, q0 rfl⟩
  · refine HT.cat_tup p1 p2 (fun z => hx (r1.nil_iff.mp z)) (fun z => ⟨.ref a, H, I, rfl, q1 hx (r2.nil_iff.mp z)⟩) (fun z => ?_) (by rw [← r1.length, ← r2.length]; exact hz)
    exact ⟨.ref s.heap.objs.size, _, laidT (t' := s.toks) I (fun b ob q => Heap.get?_push_of_some _ q) (Nat.le_refl _) (r1.append r2) (by rw [List.length_append]; exact hz) (Heap.get?_push_size _ rfl) rfl ⟨0, rfl⟩, rfl,
      q2 hx (fun w => z (r2.nil_iff.mpr w)) _ _ (I.hok.fresh (Nat.le_refl _)) rfl⟩
/-- t * k, the new tuple's object known -/
def rRepTF (K : PySem.W.Frag) : R2 := fun x y H Q => ∃ a k ys, x = .ref a ∧ y = .int k ∧ SqT K H a ys ∧ ys ≠ [] ∧ 2 ≤ k ∧ k ≤ 1000 ∧ ys.length ≤ 100 ∧ ∀ p o, H p = none → o.dict = none → Q (.ref p) (upd H p (.frz o (.tup (List.replicate k.toNat ys).flatten)))
theorem op_repTF : OpR X (binaryOp .Mult) (rRepTF X.K) := by
  intro pins s σ H x y v u Q I rx ry h
  obtain ⟨a, k, ys, rfl, rfl, hT, hne, k2, k3, hz, q⟩ := h
  cases rx
  obtain ⟨tk, rfl⟩ := ry
  obtain ⟨its, r, ⟨⟨cls, dd, dat, sl⟩, ho, hc, n, hd⟩, _⟩ := I.tuple hT
  simp only at hc hd
  subst hc hd
  have le : its.length = ys.length := r.length.symm
  have nn : its ≠ [] := fun e => hne (List.eq_nil_of_length_eq_zero (by rw [← le, e]; rfl))
  have em : its.toArray.isEmpty = false := by
    cases its with
    | nil => exact absurd rfl nn
    | cons _ _ => rfl
  have sz : its.toArray.size = ys.length := by rw [List.size_toArray, le]
  have small : ((its.toArray.size : Nat) : Int) * k ≤ 100000 := by
    rw [sz]
    have : ((ys.length : Nat) : Int) * k ≤ 100 * k := Int.mul_le_mul_of_nonneg_right (by omega) (by omega)
    omega
  have fl : ∀ zs : List Value, zs.length = ys.length → (List.replicate k.toNat zs).flatten.length ≤ sizeLine := fun zs e => by
    rw [PyProof.Rows.lm_len_rep_flat, e, sizeLine_eq]
    have : k.toNat * ys.length ≤ 1000 * 100 := Nat.mul_le_mul (by omega) hz
    omega
  have flv : (List.replicate k.toNat ys).flatten.length ≤ sizeLine := by
    rw [PyProof.Rows.lm_len_rep_flat, sizeLine_eq]
    have : k.toNat * ys.length ≤ 1000 * 100 := Nat.mul_le_mul (by omega) hz
    omega
  have d0 : (decide (k < -(2 ^ 63)) || decide (k ≥ 2 ^ 63)) = false := by
    rw [Bool.or_eq_false_iff]
    exact ⟨decide_eq_false (by omega), decide_eq_false (by omega)⟩
  have d1 : (its.toArray.isEmpty || k == 1) = false := by
    rw [em, Bool.false_or]
    exact beq_eq_false_iff_ne.mpr (by omega)
  have d2 : (decide (k ≤ 0) || its.toArray.isEmpty) = false := by
    rw [em, Bool.or_false]
    exact decide_eq_false (by omega)
  have d3 : Builtin.Tuple.tupleTooMany (((its.toArray.size : Nat) : Int) * k) = false := by
    unfold Builtin.Tuple.tupleTooMany
    rw [sizeLine_eq]
    exact decide_eq_false (by omega)
  have road := tuple_mulW a its.toArray n dd sl k tk d0 d1 d2 (by omega) d3 (by rw [size_rep, List.size_toArray]; exact fl its le)
  refine wpAny_binaryOp_repeat_ref (U := "int") (T := "tuple") (by decide) ⟨_, ho, rfl⟩ (fun z => typeIs_int z k tk) noFill_tuple_mul F.fills_int_mul F.slot_int_rmul repeat_tuple F.slot_int_index.lookup
    (call_meets F.slot_int_rmul (typeIs_int s k tk) F.entry_int_rmul (F.args_int_rmul_2 _ _) (int_rmul_tuple k tk a its.toArray n dd sl) ⟨ho, rfl, ⟨_, ho, rfl⟩, ?_⟩)
  refine call_meets F.slot_tuple_mul ⟨_, ho, rfl⟩ F.entry_tuple_mul (F.args_tuple_mul_2 _ _) road ⟨ho, ?_⟩
  rw [size_rep]
  exact ⟨.ref s.heap.objs.size, _, laidT (t' := s.toks) I (fun b ob q => Heap.get?_push_of_some _ q) (Nat.le_refl _) (r.rep k.toNat) flv (Heap.get?_push_size _ rfl) rfl ⟨0, rfl⟩, rfl,
    q _ _ (I.hok.fresh (Nat.le_refl _)) rfl⟩
def rBin (G : Gx) (op : Bop) : R2 := fun x y H Q => ∃ W S a b d, Sim G W S H ∧ VRep G W H a x ∧ VRep G W H b y ∧ binD op a b = some d ∧ Ans G W S H d Q
theorem op_bin {op : Bop} (hK : G.K = X.K) : OpR X (binaryOp op.ast) (rBin G op) := by
  intro pins s σ H x y v u Q I rx ry h
  obtain ⟨W, S, a, b, d, sim, ra, rb, e, ans⟩ := h
  unfold binD at e
  split at e
  · cases e
    rw [ra.int] at rx; rw [rb.int] at ry
    exact op_add pins s σ H _ _ v u Q I rx ry ⟨_, _, rfl, rfl, ans.flat sim rfl rfl⟩
  · split at e
    · cases e
      rename_i hl
      rw [ra.str] at rx; rw [rb.str] at ry
      exact op_add_str pins s σ H _ _ v u Q I rx ry ⟨_, _, rfl, rfl, lim_le hl, ans.flat sim rfl rfl⟩
    · cases e
  · split at e
    · cases e
      rename_i xs ys hl
      obtain ⟨p, vs, e1, h1, r1⟩ := ra.tup sim.fz
      obtain ⟨q, us, e2, h2, r2⟩ := rb.tup sim.fz
      rw [e1] at rx; rw [e2] at ry
      have h1 := h1.sqt
      have h2 := h2.sqt
      rw [hK] at h1 h2
      have l1 := r1.length
      have l2 := r2.length
      refine op_catF pins s σ H _ _ v u Q I rx ry ⟨p, q, vs, us, rfl, rfl, h1, h2, ?_, fun z => ?_, fun _ z => ?_, fun _ _ t o ht ho => ?_⟩
      · rw [l1, l2]; exact lim_le hl
      · have hx : xs = [] := List.length_eq_zero_iff.mp (by rw [← l1, z]; rfl)
        subst hx
        rw [← e2]
        rcases rb with rb | ⟨_, _, _, w, _⟩
        · exact ans.flat sim rb rfl
        · cases w
      · have hx : ys = [] := List.length_eq_zero_iff.mp (by rw [← l2, z]; rfl)
        subst hx
        rw [List.append_nil] at ans
        rw [← e1]
        rcases ra with ra | ⟨_, _, _, w, _⟩
        · exact ans.flat sim ra rfl
        · cases w
      · exact ans.tup sim (r1.append r2) ht ho
    · cases e
  · split at e
    · cases e
      rename_i xs ys hl
      obtain ⟨p, vs, e1, h1, r1⟩ := ra.lst sim.fz
      obtain ⟨q, us, e2, h2, r2⟩ := rb.lst sim.fz
      rw [e1] at rx; rw [e2] at ry
      refine op_cat pins s σ H _ _ v u Q I rx ry ⟨p, q, vs, us, rfl, rfl, h1, h2, ?_, fun t ht => ?_⟩
      · rw [r1.length, r2.length]; exact lim_le hl
      · exact ans.lst sim (r1.append r2) ht
    · cases e
  · cases e
    rw [ra.int] at rx; rw [rb.int] at ry
    exact op_sub pins s σ H _ _ v u Q I rx ry ⟨_, _, rfl, rfl, ans.flat sim rfl rfl⟩
  · split at e
    · cases e
      rename_i hl
      rw [two64_eq] at hl
      rw [ra.int] at rx; rw [rb.int] at ry
      exact op_mul pins s σ H _ _ v u Q I rx ry ⟨_, _, rfl, rfl, hl, ans.flat sim rfl rfl⟩
    · cases e
  · split at e
    · cases e
      rename_i xs k hl
      obtain ⟨p, vs, e1, h1, r1⟩ := ra.lst sim.fz
      rw [e1] at rx; rw [rb.int] at ry
      have two : two64 / 4 = 2 ^ 62 := by decide
      have two' : -two64 / 4 = -(2 ^ 62) := by decide
      refine op_rep pins s σ H _ _ v u Q I rx ry ⟨p, k, vs, rfl, rfl, h1, by omega, by omega, ?_, fun t ht => ?_⟩
      · rw [r1.length]; exact lim_le hl.2.2
      · exact ans.lst sim (r1.rep k.toNat) ht
    · cases e
  · split at e
    · cases e
      rename_i xs k hl
      obtain ⟨p, vs, e1, h1, r1⟩ := ra.tup sim.fz
      rw [e1] at rx; rw [rb.int] at ry
      have h1 := h1.sqt
      rw [hK] at h1
      have l1 := r1.length
      refine op_repTF pins s σ H _ _ v u Q I rx ry ⟨p, k, vs, rfl, rfl, h1, fun z => hl.1 (List.length_eq_zero_iff.mp (by rw [← l1, z]; rfl)), hl.2.1, hl.2.2.1, by omega, fun t o ht ho => ?_⟩
      exact ans.tup sim (r1.rep k.toNat) ht ho
    · cases e
  · split at e
    · cases e
      rename_i hl
      rw [ra.int] at rx; rw [rb.int] at ry
      exact op_fdiv pins s σ H _ _ v u Q I rx ry ⟨_, _, rfl, rfl, hl, ans.flat sim rfl rfl⟩
    · cases e
  · split at e
    · cases e
      rename_i hl
      rw [ra.int] at rx; rw [rb.int] at ry
      exact op_mod pins s σ H _ _ v u Q I rx ry ⟨_, _, rfl, rfl, hl, ans.flat sim rfl rfl⟩
    · cases e
  · split at e
    · cases e
      rename_i i j hl
      rw [two64_eq] at hl
      rw [ra.int] at rx; rw [rb.int] at ry
      refine op_pow pins s σ H _ _ v u Q I rx ry ⟨_, _, rfl, rfl, ⟨hl.1, by omega, ?_⟩, ans.flat sim rfl rfl⟩
      have := hl.2.2
      omega
    · cases e
  · cases e
/-! ### comparisons -/
theorem scal_of {W : Wd} {H : Hp} {a : D} {x : V} (h : VRep G W H a x) (f : flat a = true) : flatV x = true := by
  cases a with
  | non => rw [h.non]; rfl
  | bl b => rw [h.bl]; rfl
  | int i => rw [h.int]; rfl
  | str z => rw [h.str]; rfl
  | _ => cases f
theorem dpl {W : Wd} {H : Hp} {a : D} {x : V} (hK : G.K = X.K) (h : VRep G W H a x) (f : Exh W.F H) (p : pl a = true) : Dp X.K H x (toPy a) := by
  rw [← hK]; exact h.dp f p
theorem shaped_list {ds : List PyData} (h : PyData.canLayAll0 ds = true) (l : PyData.depthAll ds ≤ 60) : SeqAt.shaped (.list ds) = true := by
  unfold SeqAt.shaped
  rw [Bool.and_eq_true]
  refine ⟨by simpa [PyData.canLay0] using h, decide_eq_true ?_⟩
  simp only [PyData.depth]
  omega
theorem shaped_tuple {ds : List PyData} (h : PyData.canLayAll0 ds = true) (l : PyData.depthAll ds ≤ 60) : SeqAt.shaped (.tuple ds) = true := by
  unfold SeqAt.shaped
  rw [Bool.and_eq_true]
  refine ⟨by simpa [PyData.canLay0] using h, decide_eq_true ?_⟩
  simp only [PyData.depth]
  omega
/-- x in t, t a tuple of data -/
theorem op_inDT (neg : Bool) (hu : X.A.units + 65 < cLine) : OpR X (compareOp (if neg then .NotIn else .In)) (fun x y H Q => ∃ d ds, Dp X.K H x d ∧ Dp X.K H y (.tuple ds) ∧ SeqAt.shaped d = true ∧ SeqAt.shaped (.tuple ds) = true ∧ Q (.bl (if neg then !(ds.any fun z => PyData.eqv z d) else ds.any fun z => PyData.eqv z d)) H) := by
  intro pins s σ H x y v u Q I rx ry h
  obtain ⟨d, ds, hd, he, sd, se, q⟩ := h
  obtain ⟨as, r1⟩ := Dp.reads I d x v hd rx
  obtain ⟨bs, r2⟩ := Dp.reads I (.tuple ds) y u he ry
  cases neg with
  | false => exact SeqAt.in_tuple_reads r2 r1 (SeqAt.canLay_of_shaped se) (SeqAt.canLay_of_shaped sd) (room_in_shaped sd hu) ⟨.bl _, H, I, rfl, q⟩
  | true => exact SeqAt.notIn_tuple_reads r2 r1 (SeqAt.canLay_of_shaped se) (SeqAt.canLay_of_shaped sd) (room_in_shaped sd hu) ⟨.bl _, H, I, rfl, q⟩
theorem look_zip {α : Type} (k : Key) : ∀ (ks : List Key) (ds : List α), look k ks ds = lookP k (ks.zip ds)
  | [], ds => by simp [look, lookP]
  | a :: ks, [] => by simp [look, lookP]
  | a :: ks, d :: ds => by simp only [look, List.zip_cons_cons, lookP, look_zip k ks ds]
theorem look_rep {W : Wd} (k : Key) : ∀ {kvs : List (Key × D)} {us : List (Key × V)}, KRep G W kvs us → (lookP k kvs = none ∧ valV us k = none) ∨ ∃ d v, lookP k kvs = some d ∧ valV us k = some v ∧ Rep G W d v
  | [], us, h => by
    have h' : us = [] := h
    rw [h']; exact .inl ⟨rfl, rfl⟩
  | (a, d) :: r, us, h => by
    obtain ⟨v, t, e, q, r'⟩ := h
    rw [e]
    by_cases z : a = k
    · exact .inr ⟨d, v, by simp [lookP, z], valV_pos z, q⟩
    · rw [valV_neg z]
      simp only [lookP, if_neg z]
      exact look_rep k r'
theorem keyD_rep {W : Wd} {H : Hp} {a : D} {x : V} {k : Key} (h : VRep G W H a x) (e : keyD a = some k) : x = kV k := by
  cases a with
  | int i => cases e; exact h.int
  | str z => cases e; exact h.str
  | _ => cases e
def rCmp (G : Gx) (op : Cop) : R2 := fun x y H Q => ∃ W S a b k, Sim G W S H ∧ VRep G W H a x ∧ VRep G W H b y ∧ cmpD op a b = some (.bl k) ∧ Q (.bl k) H
theorem cmpD_bl {op : Cop} {a b d : D} (h : cmpD op a b = some d) : ∃ k, d = .bl k := by
  unfold cmpD at h
  split at h
  all_goals first
    | (obtain ⟨k, _, e⟩ := Option.map_eq_some_iff.mp h; exact ⟨_, e.symm⟩)
    | (cases h; exact ⟨_, rfl⟩)
    | cases h
theorem eqD_of {a b : D} {k : Bool} (h : eqD a b = some k) : (pl a = true ∧ pl b = true ∧ (toPy a).depth ≤ 60 ∧ (toPy b).depth ≤ 60) ∧ k = PyData.eqv (toPy a) (toPy b) := by
  unfold eqD at h
  split at h
  · rename_i c
    simp only [Bool.and_eq_true, decide_eq_true_eq] at c
    cases h
    exact ⟨⟨c.1.1.1, c.1.1.2, c.1.2, c.2⟩, rfl⟩
  · cases h
/-- in, not in -/
theorem in_ok (neg : Bool) (hK : G.K = X.K) (hu : X.A.units + 100 < cLine) {pins : List (Addr × Obj)} {s : Shared} {σ : L2.St} {H : Hp} {x y : V} {v u : Value} {Q : VK} {W : Wd} {S : Store} {a b : D} {k : Bool}
    (I : Inv X pins σ H s) (rx : RelV x v) (ry : RelV y u) (sim : Sim G W S H) (ra : VRep G W H a x) (rb : VRep G W H b y) (e : inD a b = some k) (q : Q (.bl (if neg then !k else k)) H) :
    wpAny (model X.prog X.w) X.A (compareOp (if neg then .NotIn else .In) v u) (EP X pins σ Q) X.xe s := by
  have seqs : ∀ {xs : List D}, pl a = true → pls xs = true → (toPy a).depth ≤ 60 → PyData.depthAll (toPys xs) ≤ 60 → k = ((toPys xs).any fun z => PyData.eqv z (toPy a)) → (toPy b = .list (toPys xs) ∨ toPy b = .tuple (toPys xs)) → pl b = true →
      wpAny (model X.prog X.w) X.A (compareOp (if neg then .NotIn else .In) v u) (EP X pins σ Q) X.xe s := by
    intro xs h1 h2 h3 h4 hk hb hpb
    subst hk
    have da := dpl hK ra sim.fz h1
    have db := dpl hK rb sim.fz hpb
    rcases hb with hb | hb
    · rw [hb] at db
      cases neg with
      | false => exact op_inD (by omega) pins s σ H x y v u Q I rx ry ⟨_, _, da, db, shaped_of h1 h3, shaped_list (pls_lay h2) h4, q⟩
      | true => exact op_notInD (by omega) pins s σ H x y v u Q I rx ry ⟨_, _, da, db, shaped_of h1 h3, shaped_list (pls_lay h2) h4, q⟩
    · rw [hb] at db
      exact op_inDT neg (by omega) pins s σ H x y v u Q I rx ry ⟨_, _, da, db, shaped_of h1 h3, shaped_tuple (pls_lay h2) h4, q⟩
  have cond : ∀ {xs : List D}, (if (pl a && pls xs && decide ((toPy a).depth ≤ 60) && decide (PyData.depthAll (toPys xs) ≤ 60)) = true then some ((toPys xs).any fun z => PyData.eqv z (toPy a)) else none) = some k →
      pl a = true ∧ pls xs = true ∧ (toPy a).depth ≤ 60 ∧ PyData.depthAll (toPys xs) ≤ 60 ∧ k = ((toPys xs).any fun z => PyData.eqv z (toPy a)) := by
    intro xs h
    split at h
    · rename_i c
      simp only [Bool.and_eq_true, decide_eq_true_eq] at c
      cases h
      exact ⟨c.1.1.1, c.1.1.2, c.1.2, c.2, rfl⟩
    · cases h
  unfold inD at e
  split at e
  · split at e
    · rename_i zx zz zl c hc
      cases e
      have hx : x = .str ⟨#[c]⟩ := by
        rw [ra.str]
        congr 1
        cases zx with
        | mk cps =>
          have : cps.toList = [c] := hc
          congr 1
          exact Array.toList_inj.mp (by rw [this])
      subst hx
      have hy := rb.str
      subst hy
      cases neg with
      | false => exact op_in_sign pins s σ H _ _ v u Q I rx ry ⟨c, _, rfl, rfl, q⟩
      | true => exact op_notIn_sign pins s σ H _ _ v u Q I rx ry ⟨c, _, rfl, rfl, q⟩
    · cases e
  · rename_i ks ds
    obtain ⟨key, hk, e⟩ := Option.map_eq_some_iff.mp e
    have hx := keyD_rep ra hk
    subst hx
    obtain ⟨p, us, ey, hp, kr, _⟩ := rb.dic sim.fz
    subst ey
    obtain rfl : u = Value.ref p := ry
    rw [look_zip] at e
    have hs : (valV us key).isSome = k := by
      rcases look_rep key kr with ⟨z1, z2⟩ | ⟨d, w, z1, z2, _⟩
      · rw [z1] at e; rw [z2]; exact e
      · rw [z1] at e; rw [z2]; exact e
    cases neg with
    | false => exact d_in (by omega) I (DGet.k hp) rx fun s' I' => ⟨.bl _, H, I', rfl, by rw [hs]; exact q⟩
    | true => exact d_notIn (by omega) I (DGet.k hp) rx fun s' I' => ⟨.bl _, H, I', rfl, by rw [hs]; exact q⟩
  · obtain ⟨h1, h2, h3, h4, h5⟩ := cond e
    exact seqs h1 h2 h3 h4 h5 (.inr (by simp [toPy])) h2
  · obtain ⟨h1, h2, h3, h4, h5⟩ := cond e
    exact seqs h1 h2 h3 h4 h5 (.inl (by simp [toPy])) h2
  · obtain ⟨h1, h2, h3, h4, h5⟩ := cond e
    exact seqs h1 h2 h3 h4 h5 (.inl (by simp [toPy])) h2
  · cases e
/-- is, is not -/
theorem is_ok (neg : Bool) {pins : List (Addr × Obj)} {s : Shared} {σ : L2.St} {H : Hp} {x y : V} {v u : Value} {Q : VK} {W : Wd} {S : Store} {a b : D} {k : Bool}
    (I : Inv X pins σ H s) (rx : RelV x v) (ry : RelV y u) (ra : VRep G W H a x) (rb : VRep G W H b y) (e : isD a b = some k) (q : Q (.bl (if neg then !k else k)) H) :
    wpAny (model X.prog X.w) X.A (compareOp (if neg then .IsNot else .Is) v u) (EP X pins σ Q) X.xe s := by
  have nn : ∀ {z : Bool}, y = .non → decide (x = V.non) = z → z = k → wpAny (model X.prog X.w) X.A (compareOp (if neg then .IsNot else .Is) v u) (EP X pins σ Q) X.xe s := by
    intro z hy hz hk
    subst hk
    subst hz
    cases neg with
    | false => exact op_isN pins s σ H x y v u Q I rx ry ⟨hy, q⟩
    | true => exact op_notN pins s σ H x y v u Q I rx ry ⟨hy, q⟩
  unfold isD at e
  split at e
  · cases e; exact nn rb.non (by rw [ra.non]; rfl) rfl
  · cases e
  · cases e
    rename_i hna hno
    refine nn (z := false) rb.non (decide_eq_false fun z => ?_) rfl
    subst z
    rcases ra with ra | ⟨_, _, z, _⟩
    · cases a with
      | non => exact hna rfl
      | obj n => exact hno n rfl
      | bl _ => cases ra
      | int _ => cases ra
      | str _ => cases ra
      | tup _ => obtain ⟨_, _, z, _⟩ := ra; cases z
      | lst _ => obtain ⟨_, _, z, _⟩ := ra; cases z
      | ro _ => obtain ⟨_, _, z, _⟩ := ra; cases z
      | dic _ _ => obtain ⟨_, _, z, _⟩ := ra; cases z
    · cases z
  · cases e
    rename_i b a
    have hx := ra.bl
    have hy := rb.bl
    subst hx hy
    have hd : decide (a = b) = (a == b) := by cases a <;> cases b <;> rfl
    cases neg with
    | false => exact op_isBl pins s σ H _ _ v u Q I rx ry ⟨a, b, rfl, rfl, by rw [hd]; exact q⟩
    | true => exact op_notBl pins s σ H _ _ v u Q I rx ry ⟨a, b, rfl, rfl, by rw [hd]; exact q⟩
  · cases e
theorem ltD_of {a b : D} {k : Bool} (h : ltD a b = some k) : (pl a = true ∧ pl b = true ∧ (toPy a).depth ≤ 60 ∧ (toPy b).depth ≤ 60 ∧ PySem.W.alike (toPy a) (toPy b) = true) ∧ k = PySem.W.dataLt (toPy a) (toPy b) := by
  unfold ltD at h
  split at h
  · rename_i c
    simp only [Bool.and_eq_true, decide_eq_true_eq] at c
    cases h
    exact ⟨⟨c.1.1.1.1, c.1.1.1.2, c.1.1.2, c.1.2, c.2⟩, rfl⟩
  · cases h
/-- a < b; a > b -/
theorem lt_ok (gt : Bool) (hK : G.K = X.K) (hu : X.A.units + 100 < cLine) {pins : List (Addr × Obj)} {s : Shared} {σ : L2.St} {H : Hp} {x y : V} {v u : Value} {Q : VK} (I : Inv X pins σ H s) (rx : RelV x v) (ry : RelV y u) {W : Wd} {S : Store} {a b : D} {k : Bool} (sim : Sim G W S H) (ra : VRep G W H a x) (rb : VRep G W H b y) (hn : (if gt then b else a) ≠ .non)
    (h : (if gt then ltD b a else ltD a b) = some k) (q : Q (.bl k) H) : wpAny (model X.prog X.w) X.A (compareOp (if gt then .Gt else .Lt) v u) (EP X pins σ Q) X.xe s := by
  have np : ∀ d : D, pl d = true → d ≠ .non → toPy d ≠ .none := fun d h n => by cases d <;> first | exact absurd rfl n | (intro z; cases z; done) | cases h
  cases gt with
  | false =>
    obtain ⟨⟨h1, h2, h3, h4, h5⟩, rfl⟩ := ltD_of (show ltD a b = some k from h)
    obtain ⟨as, r1⟩ := Dp.reads I _ x v (dpl hK ra sim.fz h1) rx
    obtain ⟨bs, r2⟩ := Dp.reads I _ y u (dpl hK rb sim.fz h2) ry
    exact PySem.W.lt_data r1 r2 h5 (np a h1 hn) (by have : min (toPy a).depth (toPy b).depth ≤ 60 := Nat.le_trans (Nat.min_le_left _ _) h3; omega) ⟨.bl _, H, I, rfl, q⟩
  | true =>
    obtain ⟨⟨h1, h2, h3, h4, h5⟩, rfl⟩ := ltD_of (show ltD b a = some k from h)
    obtain ⟨as, r1⟩ := Dp.reads I _ x v (dpl hK ra sim.fz h2) rx
    obtain ⟨bs, r2⟩ := Dp.reads I _ y u (dpl hK rb sim.fz h1) ry
    exact PySem.W.gt_data r1 r2 (by rw [PySem.W.alike_comm]; exact h5) (fun z => by rw [z] at h5; cases hb : toPy b with
      | none => exact np b h1 hn hb
      | _ => rw [hb] at h5; cases h5) (by have : min (toPy a).depth (toPy b).depth ≤ 60 := Nat.le_trans (Nat.min_le_left _ _) h4; omega) ⟨.bl _, H, I, rfl, q⟩
theorem op_cmp {op : Cop} (hK : G.K = X.K) (hu : X.A.units + 100 < cLine) : OpR X (compareOp op.ast) (rCmp G op) := by
  intro pins s σ H x y v u Q I rx ry h
  obtain ⟨W, S, a, b, k, sim, ra, rb, e, q⟩ := h
  unfold cmpD at e
  split at e
  · obtain ⟨k', h, e'⟩ := Option.map_eq_some_iff.mp e
    cases e'
    obtain ⟨⟨h1, h2, h3, h4⟩, hk⟩ := eqD_of h
    subst hk
    exact op_eqD (by omega) pins s σ H x y v u Q I rx ry ⟨_, _, dpl hK ra sim.fz h1, dpl hK rb sim.fz h2, shaped_of h1 h3, shaped_of h2 h4, q⟩
  · obtain ⟨k', h, e'⟩ := Option.map_eq_some_iff.mp e
    cases e'
    obtain ⟨⟨h1, h2, h3, h4⟩, hk⟩ := eqD_of h
    subst hk
    exact op_neD (by omega) pins s σ H x y v u Q I rx ry ⟨_, _, dpl hK ra sim.fz h1, dpl hK rb sim.fz h2, shaped_of h1 h3, shaped_of h2 h4, q⟩
  · cases e
    rw [ra.int] at rx; rw [rb.int] at ry
    exact op_lt pins s σ H _ _ v u Q I rx ry ⟨_, _, rfl, rfl, q⟩
  · cases e
    rw [ra.int] at rx; rw [rb.int] at ry
    exact op_le pins s σ H _ _ v u Q I rx ry ⟨_, _, rfl, rfl, q⟩
  · cases e
    rw [ra.int] at rx; rw [rb.int] at ry
    exact op_gt pins s σ H _ _ v u Q I rx ry ⟨_, _, rfl, rfl, q⟩
  · cases e
    rw [ra.int] at rx; rw [rb.int] at ry
    exact op_ge pins s σ H _ _ v u Q I rx ry ⟨_, _, rfl, rfl, q⟩
  · obtain ⟨k', h, e'⟩ := Option.map_eq_some_iff.mp e
    cases e'
    exact lt_ok false hK hu I rx ry sim ra rb (by intro z; cases z) h q
  · obtain ⟨k', h, e'⟩ := Option.map_eq_some_iff.mp e
    cases e'
    exact lt_ok false hK hu I rx ry sim ra rb (by intro z; cases z) h q
  · obtain ⟨k', h, e'⟩ := Option.map_eq_some_iff.mp e
    cases e'
    exact lt_ok true hK hu I rx ry sim ra rb (by intro z; cases z) h q
  · obtain ⟨k', h, e'⟩ := Option.map_eq_some_iff.mp e
    cases e'
    exact lt_ok true hK hu I rx ry sim ra rb (by intro z; cases z) h q
  · obtain ⟨k', h, e'⟩ := Option.map_eq_some_iff.mp e
    cases e'
    exact in_ok false hK hu I rx ry sim ra rb h q
  · obtain ⟨k', h, e'⟩ := Option.map_eq_some_iff.mp e
    cases e'
    exact in_ok true hK hu I rx ry sim ra rb h q
  · obtain ⟨k', h, e'⟩ := Option.map_eq_some_iff.mp e
    cases e'
    exact is_ok (S := S) false I rx ry ra rb h q
  · obtain ⟨k', h, e'⟩ := Option.map_eq_some_iff.mp e
    cases e'
    exact is_ok (S := S) true I rx ry ra rb h q
  · cases e
end
end DI
set_option Elab.async false
set_option linter.all false
set_option maxRecDepth 100000
set_option maxHeartbeats 4000000
/-! DI4: subscripts, built-ins, methods by data. -/
namespace DI
open PySem PySem.Spec PyProof.Rows L2
section
variable {G : Gx} {X : Cx}
/-! ### subscripts -/
theorem atI_rep {W : Wd} {xs : List D} {vs : List V} {i : Int} {d : D} (r : Reps G W xs vs) (h : atI xs i = some d) : ∃ v, atI vs i = some v ∧ Rep G W d v := by
  unfold atI at h ⊢
  rw [r.length]
  obtain ⟨j, h1, h2⟩ := Option.bind_eq_some_iff.mp h
  obtain ⟨v, q1, q2⟩ := r.get h2
  exact ⟨v, by rw [h1]; exact q1, q2⟩
theorem ans_rep {W : Wd} {S : Store} {H : Hp} {d : D} {v : V} {Q : VK} (q : ∀ v, Rep G W d v → Q v H) (h : Rep G W d v) : Q v H := q v h
/-- what stands in a sequence or dict is handed out as it is: nothing new is made -/
def rIxD (G : Gx) : R2 := fun x y H Q => ∃ W S a b d, Sim G W S H ∧ VRep G W H a x ∧ VRep G W H b y ∧ idxD a b = some d ∧ ∀ v, Rep G W d v → Q v H
theorem ix_dict (hu : X.A.units + 1 < cLine) : IxR X (fun x y H Q => ∃ (a : Addr) (v : V), x = .ref a ∧ DGet H a y (some v) ∧ Q v H) := by
  intro value slice pins s σ H x y v u Q I rx ry h hs
  obtain ⟨a, z, rfl, g, q⟩ := h
  obtain rfl : v = Value.ref a := rx
  exact tail_any (dict_typeIs I g) PySem.F.slot_dict_getitem.lookup (d_getItem hu I g ry fun w' s3 I3 rw' => ⟨z, H, I3, rw', q⟩) hs
theorem ix_ok (hK : G.K = X.K) (hu : X.A.units + 100 < cLine) : IxR X (rIxD G) := by
  intro value slice pins s σ H x y v u Q I rx ry h hs
  obtain ⟨W, S, a, b, d, sim, ra, rb, e, q⟩ := h
  unfold idxD at e
  split at e
  · obtain ⟨p, vs, ex, h1, r⟩ := ra.tup sim.fz
    obtain ⟨w, e1, e2⟩ := atI_rep r e
    have hy := rb.int
    have h1 := h1.sqt
    rw [hK] at h1
    exact ix_tup value slice pins s σ H x y v u Q I rx ry ⟨p, vs, _, w, ex, hy, h1, e1, q w e2⟩ hs
  · obtain ⟨p, vs, ex, h1, r⟩ := ra.lst sim.fz
    obtain ⟨w, e1, e2⟩ := atI_rep r e
    exact ix_list value slice pins s σ H x y v u Q I rx ry ⟨p, vs, _, w, ex, rb.int, .of h1, e1, q w e2⟩ hs
  · obtain ⟨p, vs, ex, h1, r⟩ := ra.ro sim.fz
    obtain ⟨w, e1, e2⟩ := atI_rep r e
    rw [hK] at h1
    exact ix_list value slice pins s σ H x y v u Q I rx ry ⟨p, vs, _, w, ex, rb.int, h1, e1, q w e2⟩ hs
  · split at e
    · rename_i hl
      obtain ⟨c, e1, e2⟩ := Option.map_eq_some_iff.mp e
      subst e2
      exact ix_str value slice pins s σ H x y v u Q I rx ry ⟨_, _, c, ra.str, rb.int, lim_le hl, e1, q _ rfl⟩ hs
    · cases e
  · obtain ⟨k, e1, e2⟩ := Option.bind_eq_some_iff.mp e
    have hy := keyD_rep rb e1
    obtain ⟨p, us, ex, hp, kr, _⟩ := ra.dic sim.fz
    rw [look_zip] at e2
    rcases look_rep k kr with ⟨z1, z2⟩ | ⟨d', w, z1, z2, z3⟩
    · rw [z1] at e2; cases e2
    · rw [z1] at e2; cases e2
      subst hy
      exact ix_dict (by omega) value slice pins s σ H x _ v u Q I rx ry ⟨p, w, ex, by rw [← z2]; exact DGet.k hp, q w z3⟩ hs
  · cases e
theorem cut_rep {W : Wd} {xs : List D} {vs : List V} (lo hi : Option Int) (r : Reps G W xs vs) : Reps G W (cut xs lo hi) (cutV vs lo hi) := by
  unfold cut cutV
  rw [r.length]
  exact (r.drop _).take _
/-- t[lo:hi], the part's object known -/
theorem sl_tupF : SlR X (fun x lo hi H Q => ∃ a xs, x = .ref a ∧ SqT X.K H a xs ∧ (HT.sIx xs.length 0 lo = 0 ∧ HT.sIx xs.length xs.length hi = xs.length → Q (.ref a) H) ∧
    (¬ (HT.sIx xs.length 0 lo = 0 ∧ HT.sIx xs.length xs.length hi = xs.length) → ∀ p o, H p = none → o.dict = none → Q (.ref p) (upd H p (.frz o (.tup (cutV xs lo hi)))))) := by
  intro pins s σ H x v vl vu lo hi sl Q I rx hs pl pu h
  obtain ⟨a, xs, rfl, hx, q1, q2⟩ := h
  by_cases hw : HT.sIx xs.length 0 lo = 0 ∧ HT.sIx xs.length xs.length hi = xs.length
  · exact sl_tupA pins s σ H _ v vl vu lo hi sl Q I rx hs pl pu ⟨a, xs, rfl, hx, q1, fun z => absurd hw z⟩
  · cases rx
    obtain ⟨its, r, ht, hz⟩ := I.tuple hx
    have hlen : its.toArray.size = xs.length := by rw [List.size_toArray]; exact r.length.symm
    refine ⟨"tuple", _, PyProof.Rows.slot_tuple_getitem.lookup, ht.typeIs, ?_⟩
    refine HT.getItem_tuple_cut ht hs pl pu (by rw [hlen]; exact hw) ?_ (by rw [hlen]; exact hz)
    rw [hlen]
    exact ⟨.ref s.heap.objs.size, _, laidT (t' := s.toks) I (fun b ob q => Heap.get?_push_of_some _ q) (Nat.le_refl _) ((r.drop (HT.sIx xs.length 0 lo)).take (HT.sIx xs.length xs.length hi - HT.sIx xs.length 0 lo)) (Nat.le_trans (cutV_length xs lo hi) hz) (Heap.get?_push_size _ rfl) rfl ⟨0, rfl⟩, rfl,
      q2 hw _ _ (I.hok.fresh (Nat.le_refl _)) rfl⟩
def rSlD (G : Gx) : V → Option Int → Option Int → Hp → VK → Prop := fun x lo hi H Q => ∃ W S a d, Sim G W S H ∧ VRep G W H a x ∧ slcD a lo hi = some d ∧ Ans G W S H d Q
theorem sl_ok (hK : G.K = X.K) : SlR X (rSlD G) := by
  intro pins s σ H x v vl vu lo hi sl Q I rx hs pl pu h
  obtain ⟨W, S, a, d, sim, ra, e, ans⟩ := h
  unfold slcD at e
  split at e
  · cases e
    obtain ⟨p, vs, ex, h1, r⟩ := ra.lst sim.fz
    exact sl_list pins s σ H x v vl vu lo hi sl Q I rx hs pl pu ⟨p, vs, ex, .of h1, fun t ht => ans.lst sim (cut_rep lo hi r) ht⟩
  · cases e
    rename_i xs
    obtain ⟨p, vs, ex, h1, r⟩ := ra.tup sim.fz
    have h2 := h1.sqt
    rw [hK] at h2
    refine sl_tupF pins s σ H x v vl vu lo hi sl Q I rx hs pl pu ⟨p, vs, ex, h2, fun z => ?_, fun _ t o ht ho => ans.tup sim (cut_rep lo hi r) ht ho⟩
    have ec : cut xs lo hi = xs := by
      unfold cut
      rw [r.length] at z
      rw [z.1, z.2]
      simp
    rw [ec] at ans
    rcases ra with ra | ⟨_, _, _, z, _⟩
    · rw [← ex]; exact ans.flat sim ra rfl
    · cases z
  · split at e
    · rename_i hl
      cases e
      exact sl_str pins s σ H x v vl vu lo hi sl Q I rx hs pl pu ⟨_, ra.str, lim_le hl, by
        refine ans.flat sim ?_ rfl
        show V.str _ = V.str _
        unfold cutS cut
        simp [Str.length]⟩
    · cases e
  · cases e
/-! ### lists of pairs, dicts -/
theorem krep_keys {W : Wd} : ∀ {kvs : List (Key × D)} {us : List (Key × V)}, KRep G W kvs us → us.map (·.1) = kvs.map (·.1)
  | [], us, h => by
    have h' : us = [] := h
    rw [h']; rfl
  | (k, d) :: r, us, h => by
    obtain ⟨v, t, e, q, r'⟩ := h
    rw [e, List.map_cons, List.map_cons, krep_keys r']
theorem krep_len {W : Wd} {kvs : List (Key × D)} {us : List (Key × V)} (h : KRep G W kvs us) : us.length = kvs.length := by
  have := congrArg List.length (krep_keys h)
  simpa using this
theorem krep_any {W : Wd} (k : Key) : ∀ {kvs : List (Key × D)} {us : List (Key × V)}, KRep G W kvs us → (us.any fun p => decide (p.1 = k)) = (kvs.any fun p => decide (p.1 = k))
  | [], us, h => by
    have h' : us = [] := h
    rw [h']; rfl
  | (a, d) :: r, us, h => by
    obtain ⟨v, t, e, q, r'⟩ := h
    rw [e, List.any_cons, List.any_cons, krep_any k r']
theorem krep_map {W : Wd} {k : Key} {d : D} {v : V} (q : Rep G W d v) : ∀ {kvs : List (Key × D)} {us : List (Key × V)}, KRep G W kvs us →
    KRep G W (kvs.map fun p => if p.1 = k then (p.1, d) else p) (us.map fun p => if p.1 = k then (p.1, v) else p)
  | [], us, h => by
    have h' : us = [] := h
    rw [h']; exact rfl
  | (a, x) :: r, us, h => by
    obtain ⟨u, t, e, qx, r'⟩ := h
    rw [e, List.map_cons, List.map_cons]
    by_cases z : a = k
    · simp only [if_pos z]
      exact ⟨v, _, rfl, q, krep_map q r'⟩
    · simp only [if_neg z]
      exact ⟨u, _, rfl, qx, krep_map q r'⟩
theorem krep_app {W : Wd} {k : Key} {d : D} {v : V} (q : Rep G W d v) : ∀ {kvs : List (Key × D)} {us : List (Key × V)}, KRep G W kvs us → KRep G W (kvs ++ [(k, d)]) (us ++ [(k, v)])
  | [], us, h => by
    have h' : us = [] := h
    rw [h']; exact ⟨v, [], rfl, q, rfl⟩
  | (a, x) :: r, us, h => by
    obtain ⟨u, t, e, qx, r'⟩ := h
    rw [e]
    exact ⟨u, _, rfl, qx, krep_app q r'⟩
theorem krep_put {W : Wd} {k : Key} {d : D} {v : V} {kvs : List (Key × D)} {us : List (Key × V)} (h : KRep G W kvs us) (q : Rep G W d v) : KRep G W (putP k d kvs) (putK us k v) := by
  unfold putP putK
  rw [krep_any k h]
  split
  · exact krep_map q h
  · exact krep_app q h
theorem krep_drop {W : Wd} {k : Key} : ∀ {kvs : List (Key × D)} {us : List (Key × V)}, KRep G W kvs us → KRep G W (dropP k kvs) (dropK us k)
  | [], us, h => by
    have h' : us = [] := h
    rw [h']; exact rfl
  | (a, x) :: r, us, h => by
    obtain ⟨u, t, e, qx, r'⟩ := h
    rw [e]
    unfold dropP dropK
    by_cases z : a = k
    · simp only [List.filter_cons, z, ne_eq, not_true_eq_false, decide_false, Bool.false_eq_true, if_false]
      exact krep_drop r'
    · simp only [List.filter_cons, z, ne_eq, not_false_eq_true, decide_true, if_true]
      exact ⟨u, _, rfl, qx, krep_drop r'⟩
theorem krep_merge {W : Wd} : ∀ {more : List (Key × D)} {ms : List (Key × V)} {kvs : List (Key × D)} {us : List (Key × V)}, KRep G W more ms → KRep G W kvs us → KRep G W (mergeP kvs more) (mergeK us ms)
  | [], ms, kvs, us, h, q => by
    have h' : ms = [] := h
    rw [h']; exact q
  | (k, d) :: r, ms, kvs, us, h, q => by
    obtain ⟨v, t, e, x, r'⟩ := h
    rw [e]
    exact krep_merge (more := r) (ms := t) r' (krep_put q x)
theorem pairD_of {d : D} {k : Key} {x : D} (h : pairD d = some (k, x)) : ∃ a, d = .tup [a, x] ∧ keyD a = some k := by
  unfold pairD at h
  split at h
  · obtain ⟨k', h1, h2⟩ := Option.map_eq_some_iff.mp h
    cases h2
    exact ⟨_, rfl, h1⟩
  · cases h
/-- a row of pairs, as it lies -/
theorem pairs_lie {W : Wd} {S : Store} {pins : List (Addr × Obj)} {σ : L2.St} {H : Hp} {s : Shared} (hK : G.K = X.K) (I : Inv X pins σ H s) (f : Exh W.F H) : ∀ {xs : List D} {vs : List V} {kvs : List (Key × D)}, Reps G W xs vs → pairsD xs = some kvs →
    ∃ (as : List Addr) (us : List (Key × V)) (prs : List (Key × Value)) (ps : List (Value × Value)), vs = as.map V.ref ∧ KRep G W kvs us ∧ KV us prs ∧ as.length = ps.length ∧ prs.length = ps.length ∧
      ∀ (j : Nat) (k v : Value), ps[j]? = some (k, v) → ∃ (b : Addr) (key : Key), as[j]? = some b ∧ IsTup s.heap b #[k, v] ∧ prs[j]? = some (key, v) ∧ keyIs key k = true
  | [], vs, kvs, h, e => by
    cases e
    have h' : vs = [] := h
    exact ⟨[], [], [], [], by rw [h']; rfl, rfl, .nil, rfl, rfl, fun j k v z => by simp at z⟩
  | d :: xs, vs, kvs, h, e => by
    obtain ⟨v, us, ev, r, t⟩ := h
    unfold pairsD at e
    split at e
    · rename_i p q hp hq
      cases e
      obtain ⟨k, x⟩ := p
      obtain ⟨a, hd, hk⟩ := pairD_of hp
      subst hd
      obtain ⟨b, ws, eb, ht, rw'⟩ := r
      obtain ⟨w1, t1, e1, r1, rw2⟩ := rw'
      obtain ⟨w2, t2, e2, r2, rw3⟩ := rw2
      have e3 : t2 = [] := rw3
      subst e3
      subst e2
      have hw1 := keyD_rep (H := H) (.inl r1) hk
      obtain ⟨as, us', prs, ps, q1, q2, q3, q4, q5, q6⟩ := pairs_lie (S := S) hK I f t hq
      have ht' := (f.tupAt ht).sqt
      rw [hK] at ht'
      obtain ⟨its, rv, hit, _⟩ := I.tuple ht'
      rw [e1] at rv
      obtain ⟨u1, u2, ei, ru, ry⟩ := vals2 rv
      subst ei
      rw [hw1] at ru
      refine ⟨b :: as, (k, w2) :: us', (k, u2) :: prs, (u1, u2) :: ps, by rw [ev, eb, q1]; rfl, ⟨w2, us', rfl, r2, q2⟩, .cons ⟨rfl, ry⟩ q3, by simp [q4], by simp [q5], fun j k' v' z => ?_⟩
      cases j with
      | zero =>
        simp at z
        obtain ⟨z1, z2⟩ := z
        subst z1 z2
        exact ⟨b, k, rfl, hit, rfl, kV_is (P := X.prog) (w := X.w) ru⟩
      | succ j => exact q6 j k' v' (by simpa using z)
    · cases e
theorem plain_tuple {a : Addr} {vs : List V} {pins : List (Addr × Obj)} {σ : L2.St} {H : Hp} {s : Shared} (I : Inv X pins σ H s) (h : TupAt X.K H a vs) : ∃ its : List Value, Vals vs its ∧ PlainSeq "tuple" s.heap a its.toArray ∧ vs.length ≤ sizeLine := by
  rcases h with ⟨o, h, q⟩ | ⟨o, its, n, h1, h2, h3, h4, h5, h6⟩
  · obtain ⟨e, hz, its, r, o', e', hc, n, hd⟩ := (show ObjOk X.prog X.w H s.heap a (.frz o (.tup vs)) from I.hok a _ h)
    rw [e] at e'
    cases e'
    exact ⟨its, r, ⟨o, n, e, hc, q, hd⟩, hz⟩
  · refine ⟨its.toList, h6, ⟨o, n, I.kIn _ _ h1, h2, h3, by simpa using h4⟩, ?_⟩
    rw [h6.length]
    simpa using h5
/-- dict(xs), xs a list or tuple of pairs -/
theorem dict_pairs {pins : List (Addr × Obj)} {s : Shared} {σ : L2.St} {H : Hp} {x : V} {u : Value} {Q : VK} {W : Wd} {S : Store} {a : D} {xs : List D} {kvs : List (Key × D)} (hK : G.K = X.K) (hc : X.calm = true)
    (I : Inv X pins σ H s) (rx : RelV x u) (sim : Sim G W S H) (ra : VRep G W H a x) (e : seqD2 a = some xs) (hp : pairsD xs = some kvs) (ans : Ans G W S H (Ob.dic (mergeP [] kvs)).toD Q) :
    wpAny (model X.prog X.w) X.A (call (.type "dict") [u]) (EP X pins σ Q) X.xe s := by
  have main : ∀ {T : String} {p : Addr} {vs : List V} {its : List Value}, x = .ref p → Reps G W xs vs → Vals vs its → PlainSeq T s.heap p its.toArray → vs.length ≤ sizeLine → (T = "list" ∨ T = "tuple") →
      wpAny (model X.prog X.w) X.A (call (.type "dict") [u]) (EP X pins σ Q) X.xe s := by
    intro T p vs its ex r rv pl hz hT
    subst ex
    obtain rfl : u = Value.ref p := rx
    obtain ⟨as, us, prs, ps, q1, q2, q3, q4, q5, q6⟩ := pairs_lie (S := S) hK I sim.fz r hp
    subst q1
    have ei := refs_at rv
    subst ei
    have hlen : ps.length ≤ sizeLine := by rw [List.length_map] at hz; omega
    have hm : (s.heap.objs.size == sysModules) = false := beq_eq_false_iff_ne.mpr (Nat.ne_of_gt I.big)
    have items : PairItems s.heap (as.map Value.ref).toArray (fun j => as.getD j 0) ps := by
      refine ⟨by simp [q4], fun j k v z => ?_⟩
      obtain ⟨b, key, h1, h2, _, _⟩ := q6 j k v z
      have hg : as.getD j 0 = b := by rw [List.getD_eq_getElem?_getD, h1]; rfl
      exact ⟨by simp [h1, hg], .inl (by show s.heap.IsTuple (as.getD j 0) #[k, v]; rw [hg]; exact h2)⟩
    have have_ : PairsHave (mixKind X.prog X.w) ps.length (PairRel ps) prs := ⟨q5, fun j k v z => by
      obtain ⟨b, key, _, _, h3, h4⟩ := q6 j k v z
      exact ⟨key, h3, h4⟩⟩
    have fin : ∀ (h' : Heap) (tk : Tok), h'.DictOf (mixKind X.prog X.w) s.heap.objs.size (merged [] prs) → (∀ b o, s.heap.get? b = some o → h'.get? b = some o) → EP X pins σ Q (.ref s.heap.objs.size) { s with heap := h', toks := tk } := fun h' tk hd k => by
      have hz2 : (mergeK [] us).length ≤ sizeLine := by
        refine Nat.le_trans (length_mergeK us []) ?_
        rw [List.length_nil, Nat.zero_add, q3.length, q5]
        exact hlen
      exact ⟨.ref s.heap.objs.size, upd H s.heap.objs.size (.dK (mergeK [] us)), I.laid (t' := tk) k (Nat.le_refl _) (show ObjOk X.prog X.w _ _ _ (.dK (mergeK [] us)) from ⟨hz2, hm, merged [] prs, KV.merge q3 .nil, hd⟩), rfl,
        ans.dic sim (krep_merge q2 rfl) (I.hok.fresh (Nat.le_refl _))⟩
    rcases hT with rfl | rfl
    · exact PySem.call_dict_pairs (PairArg.list p (as.map Value.ref).toArray (fun j => as.getD j 0) ps) (I.ok.hd hc) ⟨pl, items⟩ have_ hlen fun h' tk hd k => fin h' tk hd fun b o e => k b o (by simp) e
    · exact PySem.call_dict_pairs (PairArg.tuple p (as.map Value.ref).toArray (fun j => as.getD j 0) ps) (I.ok.hd hc) ⟨pl, items⟩ have_ hlen fun h' tk hd k => fin h' tk hd fun b o e => k b o (by simp) e
  cases a with
  | tup ys =>
    cases e
    obtain ⟨p, vs, ex, h1, r⟩ := ra.tup sim.fz
    rw [hK] at h1
    obtain ⟨its, rv, pl, hz⟩ := plain_tuple I h1
    exact main ex r rv pl hz (.inr rfl)
  | lst ys =>
    cases e
    obtain ⟨p, vs, ex, h1, r⟩ := ra.lst sim.fz
    obtain ⟨hz, its, n, rv, ho⟩ := (show ObjOk X.prog X.w H s.heap p (.lst vs) from I.hok p _ h1)
    exact main ex r rv ⟨_, n, ho, rfl, rfl, rfl⟩ hz (.inl rfl)
  | _ => cases e
/-! ### built-ins of one argument -/
def Bi.fn : Bi → Value
  | .len => .builtin "len" | .int => .type "int" | .str => .type "str" | .tup => .type "tuple" | .lst => .type "list" | .dic => .type "dict" | .set => .type "set"
  | .sorted => .builtin "sorted" | .sum => .builtin "sum" | .min => .builtin "min" | .max => .builtin "max" | .repr => .builtin "repr"
theorem ints_rep {W : Wd} : ∀ {xs : List D} {vs : List V} {ns : List Int}, Reps G W xs vs → intsD xs = some ns → vs = ns.map V.int
  | [], vs, ns, h, e => by
    cases e
    exact h
  | d :: xs, vs, ns, h, e => by
    obtain ⟨v, us, ev, r, t⟩ := h
    cases d with
    | int i =>
      obtain ⟨ms, h1, h2⟩ := Option.map_eq_some_iff.mp (show (intsD xs).map (i :: ·) = some ns from e)
      subst h2
      have r' : v = .int i := r
      rw [ev, r', ints_rep t h1]
      rfl
    | _ => cases e
theorem ints_reps {W : Wd} : ∀ (ns : List Int), Reps G W (ns.map D.int) (ns.map V.int)
  | [] => rfl
  | n :: ns => ⟨_, _, rfl, rfl, ints_reps ns⟩
theorem isort_eq {ns ms : List Int} (p : ms.Perm ns) (h : ms.Pairwise (· ≤ ·)) : ms = isort ns := by
  have h2 : (isort ns).Pairwise (· ≤ ·) := by
    have := List.pairwise_mergeSort (le := fun a b : Int => decide (a ≤ b)) (fun a b c h1 h2 => by simp only [decide_eq_true_eq] at *; omega) (fun a b => by simp only [Bool.or_eq_true, decide_eq_true_eq]; omega) ns
    exact this.imp fun h => by simpa using h
  exact List.Perm.eq_of_pairwise (fun a b _ _ h1 h2 => Int.le_antisymm h1 h2) h h2 (p.trans (List.mergeSort_perm ns _).symm)
theorem keys_reps {W : Wd} : ∀ (ks : List Key), Reps G W (ks.map dKey) (ks.map kV)
  | [] => rfl
  | k :: ks => ⟨_, _, rfl, by cases k <;> rfl, keys_reps ks⟩
def rBi (G : Gx) (b : Bi) : List V → Hp → VK → Prop := fun xs H Q => ∃ W S a d x, xs = [x] ∧ Sim G W S H ∧ VRep G W H a x ∧ biD b a = some d ∧ Ans G W S H d Q
theorem tuple_list (hK : G.K = X.K) {pins : List (Addr × Obj)} {s : Shared} {σ : L2.St} {H : Hp} {p : Addr} {ys : List V} {Q : VK} (I : Inv X pins σ H s) (hq : SqL X.K H p ys)
    (q : ∀ l o, H l = none → o.dict = none → Q (.ref l) (upd H l (.frz o (.tup ys)))) : wpAny (model X.prog X.w) X.A (call (.type "tuple") [.ref p]) (EP X pins σ Q) X.xe s := by
  obtain ⟨its, r', pl, hz⟩ := I.list hq
  have hlen := r'.length
  refine call_tuple_list pl.isList (fun h' kp => ?_) (by simp only [List.size_toArray] <;> omega)
  have I1 : Inv X pins σ H { s with heap := h' } := I.kept (t' := s.toks) kp
  have I2 := laidT (t' := s.toks) (a := h'.objs.size) (o := { cls := .type "tuple", data := .seq its.toArray }) I1 (h' := h'.push { cls := .type "tuple", data := .seq its.toArray }) (fun b o e => Heap.get?_push_of_some _ e) (Nat.le_refl _) r' hz (Heap.get?_push_size _ rfl) rfl ⟨0, rfl⟩
  exact ⟨.ref h'.objs.size, _, I2, rfl, q _ _ (I1.hok.fresh (Nat.le_refl _)) rfl⟩
theorem shown_sz {d : PyData} (h : d.shown.length ≤ lim) : d.shown.length ≤ sizeLine := lim_le h
theorem repr_ok (hK : G.K = X.K) (hg : X.A.guards = some []) (hu : X.A.units + 100 < cLine) {pins : List (Addr × Obj)} {s : Shared} {σ : L2.St} {H : Hp} {x : V} {u : Value} {Q : VK} {W : Wd} {S : Store} {a : D}
    (I : Inv X pins σ H s) (rx : RelV x u) (sim : Sim G W S H) (ra : VRep G W H a x) (hp : pl a = true) (hs : (toPy a).showable = true) (hd : (toPy a).depth ≤ 60) (hz : (toPy a).shown.length ≤ lim) (q : Q (.str (toPy a).shown) H) :
    wpAny (model X.prog X.w) X.A (call (.builtin "repr") [u]) (EP X pins σ Q) X.xe s := by
  have dp := dpl hK ra sim.fz hp
  have viaRef : ∀ {p : Addr}, x = .ref p → wpAny (model X.prog X.w) X.A (call (.builtin "repr") [u]) (EP X pins σ Q) X.xe s := by
    intro p ex
    subst ex
    obtain rfl : u = Value.ref p := rx
    obtain ⟨as, r⟩ := Dp.reads I _ _ _ dp rfl
    refine repr_of_reads' r hs (PyData.noDict_hsm (PyData.hasDict_of_canLay _ (pl_lay hp))) hg (by omega) (fun _ _ e => e) (fun h' t tk k => ?_) (shown_sz hz)
    exact ⟨.str (toPy a).shown, H, I.kept (t' := tk) k, ⟨t, rfl⟩, q⟩
  cases a with
  | non =>
    have hx := ra.non
    subst hx
    obtain rfl : u = Value.none := rx
    exact PySem.P.repr_of_none ⟨.str "None", H, I.tok _, ⟨_, rfl⟩, by simpa [toPy, PyData.shown] using q⟩
  | bl b =>
    have hx := ra.bl
    subst hx
    obtain rfl : u = Value.bool b := rx
    exact PySem.P.repr_of_bool ⟨.str (if b then "True" else "False"), H, I.tok _, ⟨_, rfl⟩, by simpa [toPy, PyData.shown] using q⟩
  | int i =>
    have hx := ra.int
    subst hx
    obtain ⟨t, rfl⟩ := rx
    refine PySem.P.repr_of_int (by simpa [toPy, PyData.showable] using hs) ⟨.str (toString i), H, I.tok _, ⟨_, rfl⟩, by simpa [toPy, PyData.shown] using q⟩
  | str z =>
    have hx := ra.str
    subst hx
    obtain ⟨t, rfl⟩ := rx
    refine PySem.P.repr_of_str ⟨.str (reprText z), H, I.tok _, ⟨_, rfl⟩, by simpa [toPy, PyData.shown] using q⟩ ?_
    have := shown_sz hz
    simpa [toPy, PyData.shown] using this
  | tup xs => obtain ⟨p, vs, ex, _⟩ := ra.tup sim.fz; exact viaRef ex
  | lst xs => obtain ⟨p, vs, ex, _⟩ := ra.lst sim.fz; exact viaRef ex
  | ro xs => obtain ⟨p, vs, ex, _⟩ := ra.ro sim.fz; exact viaRef ex
  | dic _ _ => cases hp
  | obj _ => cases hp
theorem intKs_eq : ∀ {ks : List Key} {ns : List Int}, intKs ks = some ns → ks = ns.map Sum.inl
  | [], ns, h => by cases h; rfl
  | .inl i :: r, ns, h => by
    obtain ⟨ms, e, q⟩ := Option.map_eq_some_iff.mp (show (intKs r).map (i :: ·) = some ns from h)
    subst q
    rw [intKs_eq e]
    rfl
  | .inr _ :: _, _, h => by cases h
/-- what may be called within an except suite too -/
def Bi.suits : Bi → Bool
  | .int | .repr | .len => true
  | _ => false
theorem call_bi {b : Bi} (hK : G.K = X.K) (hc : b.suits = false → X.calm = true) (hg : X.A.guards = some []) (hu : X.A.units + 100 < cLine) : CallR X b.fn (rBi G b) := by
  intro pins s σ H xs us Q I r h
  obtain ⟨W, S, a, d, x, ex, sim, ra, e, ans⟩ := h
  subst ex
  obtain ⟨u, eu, rx⟩ := vals1 r
  subst eu
  have seqr : ∀ {ys : List D}, seqD a = some ys → ∃ p vs, x = .ref p ∧ (SqL X.K H p vs ∨ SqT X.K H p vs) ∧ Reps G W ys vs := fun e => by
    have := ra.seq sim.fz e
    rw [hK] at this
    exact this
  unfold biD at e
  split at e
  · split at e
    · rename_i hl
      cases e
      exact call_len_str pins s σ H _ _ Q I (.cons rx .nil) ⟨_, by rw [ra.str], lim_le hl, ans.flat sim rfl rfl⟩
    · cases e
  · cases e
    obtain ⟨p, us, ex, hp, kr, l⟩ := ra.dic sim.fz
    have hl := krep_len kr
    rw [List.length_zip] at hl
    rw [ex] at rx
    exact call_lenD pins s σ H _ _ Q I (.cons rx .nil) ⟨p, us, rfl, hp, by rw [hl, l, Nat.min_self, ← l]; exact ans.flat sim rfl rfl⟩
  · obtain ⟨ys, h1, h2⟩ := Option.map_eq_some_iff.mp e
    subst h2
    obtain ⟨p, vs, ex, h3, h4⟩ := seqr h1
    exact call_len_seq pins s σ H _ _ Q I (.cons rx .nil) ⟨p, vs, by rw [ex], h3, by rw [h4.length]; exact ans.flat sim rfl rfl⟩
  · cases e
    exact call_int1 pins s σ H _ _ Q I (.cons rx .nil) (.inl ⟨_, by rw [ra.int], ans.flat sim rfl rfl⟩)
  · cases e
    exact call_int1 pins s σ H _ _ Q I (.cons rx .nil) (.inr ⟨_, by rw [ra.bl], ans.flat sim rfl rfl⟩)
  · cases e
    obtain ⟨p, vs, ex, h1, r1⟩ := ra.tup sim.fz
    have h2 := h1.sqt
    rw [hK] at h2
    refine call_tuple_of pins s σ H _ _ Q I (.cons rx .nil) ⟨p, vs, by rw [ex], .inr ⟨h2, ?_⟩⟩
    rw [← ex]
    rcases ra with ra | ⟨_, _, _, z, _⟩
    · exact ans.flat sim ra rfl
    · cases z
  · cases e
    obtain ⟨p, vs, ex, h1, r1⟩ := ra.lst sim.fz
    subst ex
    obtain rfl : u = Value.ref p := rx
    exact tuple_list hK I (.of h1) fun l o hl ho => ans.tup sim r1 hl ho
  · cases e
    obtain ⟨p, vs, ex, h1, r1⟩ := seqr rfl
    exact call_list_of pins s σ H _ _ Q I (.cons rx .nil) ⟨p, vs, by rw [ex], h1, fun l hl => ans.lst sim r1 hl⟩
  · cases e
    obtain ⟨p, vs, ex, h1, r1⟩ := seqr rfl
    exact call_list_of pins s σ H _ _ Q I (.cons rx .nil) ⟨p, vs, by rw [ex], h1, fun l hl => ans.lst sim r1 hl⟩
  · cases e
    rename_i ks ds
    obtain ⟨p, us, ex, hp, kr, ll⟩ := ra.dic sim.fz
    refine call_listD (hc rfl) pins s σ H _ _ Q I (.cons rx .nil) ⟨p, us, by rw [ex], .inl hp, fun l hl => ?_⟩
    have e1 : (us.map fun kv => kV kv.1) = ks.map kV := by
      have := congrArg (List.map kV) (krep_keys kr)
      rw [List.map_map, List.map_fst_zip (Nat.le_of_eq ll)] at this
      exact this
    rw [e1]
    exact ans.lst sim (keys_reps ks) hl
  · cases e
    rename_i ks ds
    obtain ⟨p, us, ex, hp, kr, ll⟩ := ra.dic sim.fz
    refine call_dictD pins s σ H _ _ Q I (.cons rx .nil) ⟨p, us, by rw [ex], .inl hp, fun l hl => ?_⟩
    have e1 : D.dic ks ds = (Ob.dic (ks.zip ds)).toD := by
      show _ = D.dic _ _
      rw [List.map_fst_zip (Nat.le_of_eq ll), List.map_snd_zip (Nat.le_of_eq ll.symm)]
    rw [e1] at ans
    exact ans.dic sim kr hl
  · obtain ⟨ys, h1, h2⟩ := Option.bind_eq_some_iff.mp e
    obtain ⟨kvs, h3, h4⟩ := Option.map_eq_some_iff.mp h2
    subst h4
    exact dict_pairs hK (hc rfl) I rx sim ra h1 h3 ans
  · obtain ⟨ns, h1, h2⟩ := Option.map_eq_some_iff.mp e
    subst h2
    obtain ⟨p, vs, ex, h3, r1⟩ := ra.lst sim.fz
    have := ints_rep r1 h1
    subst this
    refine cr_sortedI pins s σ H _ _ Q I (.cons rx .nil) ⟨p, ns, by rw [ex], .of h3, fun ms l hp hs hl => ?_⟩
    rw [isort_eq hp hs]
    exact ans.lst sim (ints_reps _) hl
  · obtain ⟨ns, h1, h2⟩ := Option.bind_eq_some_iff.mp e
    split at h2
    · cases h2
      obtain ⟨p, us, ex, hp, kr, ll⟩ := ra.dic sim.fz
      refine call_sortedDI (hc rfl) pins s σ H _ _ Q I (.cons rx .nil) ⟨p, us, ns, by rw [ex], .inl hp, ?_, by omega, fun ms l hpm hs hl => ?_⟩
      · have e1 := krep_keys kr
        rw [List.map_fst_zip (Nat.le_of_eq ll)] at e1
        rw [e1, intKs_eq h1]
      · rw [isort_eq hpm hs]
        exact ans.lst sim (ints_reps _) hl
    · cases h2
  · obtain ⟨ns, h1, h2⟩ := Option.map_eq_some_iff.mp e
    subst h2
    obtain ⟨p, vs, ex, h3, r1⟩ := ra.lst sim.fz
    have := ints_rep r1 h1
    subst this
    exact cr_sum (hc rfl) pins s σ H _ _ Q I (.cons rx .nil) ⟨p, ns, by rw [ex], .of h3, ans.flat sim rfl rfl⟩
  · split at e
    · rename_i c
      cases e
      simp only [Bool.and_eq_true, decide_eq_true_eq] at c
      exact repr_ok hK hg hu I rx sim ra c.1.1.1 c.1.1.2 c.1.2 c.2 (ans.flat sim rfl rfl)
    · cases e
  · cases e
/-! ### two arguments, isinstance -/
def rBi2 (G : Gx) (b : Bi) : List V → Hp → VK → Prop := fun xs H Q => ∃ W S a c d x y, xs = [x, y] ∧ Sim G W S H ∧ VRep G W H a x ∧ VRep G W H c y ∧ bi2D b a c = some d ∧ Ans G W S H d Q
theorem call_bi2 {b : Bi} (hc : X.calm = true) : CallR X b.fn (rBi2 G b) := by
  intro pins s σ H xs us Q I r h
  obtain ⟨W, S, a, c, d, x, y, ex, sim, ra, rc, e, ans⟩ := h
  subst ex
  unfold bi2D at e
  split at e
  · cases e
    rw [ra.int, rc.int] at r
    exact call_min2 hc pins s σ H _ us Q I r ⟨_, _, rfl, ans.flat sim rfl rfl⟩
  · cases e
    rw [ra.int, rc.int] at r
    exact call_max2 hc pins s σ H _ us Q I r ⟨_, _, rfl, ans.flat sim rfl rfl⟩
  · cases e
def Ty.name : Ty → String
  | .int => "int" | .str => "str" | .bool => "bool" | .lst => "list"
theorem ty_seq {pins : List (Addr × Obj)} {σ : L2.St} {H : Hp} {s : Shared} {p : Addr} {vs : List V} (h : TupAt X.K H p vs) : TyX X.K H (.ref p) (.type "tuple") := by
  rcases h with ⟨o, h, _⟩ | ⟨o, its, n, h1, h2, _⟩
  · exact .fTuple h
  · exact .kTuple h1 h2
theorem ty_lst {H : Hp} {p : Addr} {vs : List V} (h : SqL X.K H p vs) : TyX X.K H (.ref p) (.type "list") := by
  rcases h with (h | ⟨o, h⟩) | ⟨o, its, n, h1, h2, _⟩
  · exact .base (.lst h)
  · exact .base (.frz h)
  · exact .kList h1 h2
theorem call_ty (hK : G.K = X.K) {t : Ty} : CallR X (.builtin "isinstance") (fun xs H Q => ∃ W S a k x, xs = [x, .ty t.name] ∧ Sim G W S H ∧ VRep G W H a x ∧ tyD a t = some k ∧ Q (.bl k) H) := by
  intro pins s σ H xs us Q I r h
  obtain ⟨W, S, a, k, x, ex, sim, ra, e, q⟩ := h
  subst ex
  have go : ∀ {n : String}, TyX X.K H x (.type n) → kitB n t.name = some k → wpAny (model X.prog X.w) X.A (call (.builtin "isinstance") us) (EP X pins σ Q) X.xe s := fun ty hk =>
    call_isi pins s σ H _ us Q I r ⟨x, .ty t.name, _, _, k, rfl, .ty _, ty, kit_ty hk, q⟩
  unfold tyD at e
  split at e
  · cases e
    rw [ra.non] at go
    exact go (.base .non) (by cases t <;> decide +kernel)
  · cases e
    rw [ra.bl] at go
    exact go (.base (.bl _)) (by decide +kernel)
  · cases e
    rw [ra.bl] at go
    exact go (.base (.bl _)) (by decide +kernel)
  · rename_i h1 h2
    cases e
    rw [ra.bl] at go
    cases t with
    | int => exact absurd rfl h1
    | bool => exact absurd rfl h2
    | str => exact go (.base (.bl _)) (by decide +kernel)
    | lst => exact go (.base (.bl _)) (by decide +kernel)
  · cases e
    rw [ra.int] at go
    exact go (.base (.int _)) (by cases t <;> decide +kernel)
  · cases e
    rw [ra.str] at go
    exact go (.base (.str _)) (by cases t <;> decide +kernel)
  · cases e
    obtain ⟨p, vs, ex, h1, r1⟩ := ra.tup sim.fz
    rw [hK] at h1
    rw [ex] at go
    exact go (ty_seq (pins := pins) (σ := σ) (s := s) h1) (by cases t <;> decide +kernel)
  · cases e
    obtain ⟨p, vs, ex, h1, r1⟩ := ra.lst sim.fz
    rw [ex] at go
    exact go (ty_lst (.of h1)) (by cases t <;> decide +kernel)
  · cases e
    obtain ⟨p, vs, ex, h1, r1⟩ := ra.ro sim.fz
    rw [hK] at h1
    rw [ex] at go
    exact go (ty_lst h1) (by cases t <;> decide +kernel)
  · cases e
/-! ### truth -/
theorem empty_len {α β : Type} {l : List α} {m : List β} (h : l.length = m.length) : l.isEmpty = m.isEmpty := by
  cases l <;> cases m <;> simp_all
theorem truth_ok (hK : G.K = X.K) {pins : List (Addr × Obj)} {s : Shared} {σ : L2.St} {H : Hp} {x : V} {u : Value} {Q : Bool → Hp → Prop} {W : Wd} {S : Store} {a : D} {k : Bool}
    (I : Inv X pins σ H s) (rx : RelV x u) (sim : Sim G W S H) (ra : VRep G W H a x) (e : truth a = some k) (q : Q k H) : wpAny (model X.prog X.w) X.A (truthy u) (TP X pins σ Q) X.xe s := by
  refine tru_ok pins s σ H x u Q I rx ⟨k, ?_, q⟩
  unfold truth at e
  split at e
  · cases e; rw [ra.non]; rfl
  · cases e; rw [ra.bl]; rfl
  · cases e; rw [ra.int]; rfl
  · split at e
    · rename_i hl
      cases e
      rw [ra.str]
      refine ⟨lim_le hl, ?_⟩
      show _ = ((_ : Int) != 0)
      rw [Bool.eq_iff_iff]
      simp
    · cases e
  · cases e
    obtain ⟨p, vs, ex, h1, r1⟩ := ra.tup sim.fz
    have h1 := h1.sqt
    rw [hK] at h1
    rw [ex]
    refine .inr (.inl ⟨vs, h1, ?_⟩)
    rw [empty_len r1.length]
  · cases e
    obtain ⟨p, vs, ex, h1, r1⟩ := ra.lst sim.fz
    rw [ex]
    refine .inl ⟨vs, .of h1, ?_⟩
    rw [empty_len r1.length]
  · cases e
    obtain ⟨p, vs, ex, h1, r1⟩ := ra.ro sim.fz
    rw [hK] at h1
    rw [ex]
    refine .inl ⟨vs, h1, ?_⟩
    rw [empty_len r1.length]
  · cases e
    rename_i ks ds
    obtain ⟨p, us, ex, hp, kr, l⟩ := ra.dic sim.fz
    rw [ex]
    refine .inr (.inr ⟨us, hp, ?_⟩)
    rw [empty_len (m := ks) (show us.length = _ from (krep_len kr).trans (by rw [List.length_zip, ← l, Nat.min_self]))]
  · cases e
/-! ### methods -/
theorem place_spec {α : Type} (p : α → Bool) : ∀ {xs : List α} {j : Nat}, place p xs = some j → ∃ z, xs[j]? = some z ∧ p z = true ∧ ∀ (m : Nat) (z' : α), m < j → xs[m]? = some z' → p z' = false
  | [], j, h => by cases h
  | x :: xs, j, h => by
    unfold place at h
    by_cases c : p x = true
    · rw [if_pos c] at h
      cases h
      exact ⟨x, rfl, c, fun m z' hm _ => absurd hm (Nat.not_lt_zero _)⟩
    · rw [if_neg c] at h
      obtain ⟨k, h1, h2⟩ := Option.map_eq_some_iff.mp h
      subst h2
      obtain ⟨z, q1, q2, q3⟩ := place_spec p h1
      refine ⟨z, by simpa using q1, q2, fun m z' hm e => ?_⟩
      cases m with
      | zero =>
        simp at e
        subst e
        simpa using c
      | succ m => exact q3 m z' (by omega) (by simpa using e)
theorem reps_one {W : Wd} {d : D} {xs : List V} (h : Reps G W [d] xs) : ∃ v, xs = [v] ∧ Rep G W d v := by
  obtain ⟨v, us, e, r, t⟩ := h
  have t' : us = [] := t
  exact ⟨v, by rw [e, t'], r⟩
theorem reps_two {W : Wd} {d e : D} {xs : List V} (h : Reps G W [d, e] xs) : ∃ v u, xs = [v, u] ∧ Rep G W d v ∧ Rep G W e u := by
  obtain ⟨v, us, q, r, t⟩ := h
  obtain ⟨u, e2, r2⟩ := reps_one t
  exact ⟨v, u, by rw [q, e2], r, r2⟩
/-- methods that only read: the built-in's id by the receiver -/
def rBmD (G : Gx) (m : Bm) : V → List V → Hp → VK → Prop := fun x xs H Q => ∃ W S a ds d, Sim G W S H ∧ VRep G W H a x ∧ Reps G W ds xs ∧ bmD m a ds = some d ∧ ∀ v, Rep G W d v → Q v H
theorem mt_idx (hK : G.K = X.K) (hu : X.A.units + 100 < cLine) : MtR X "list.index" (fun x xs H Q => ∃ W S as ds d, Sim G W S H ∧ VRep G W H (.lst as) x ∧ Reps G W ds xs ∧ bmD .idx (.lst as) ds = some d ∧ ∀ v, Rep G W d v → Q v H) := by
  intro pins s σ H x xs v us Q I rx rs h
  obtain ⟨W, S, as, ds, d, sim, ra, rd, e, q⟩ := h
  unfold bmD at e
  split at e
  · rename_i xs' y heq
    cases heq
    split at e
    · rename_i c
      simp only [Bool.and_eq_true, decide_eq_true_eq] at c
      obtain ⟨j, h1, h2⟩ := Option.map_eq_some_iff.mp e
      subst h2
      obtain ⟨w, ew, rw'⟩ := reps_one rd
      obtain ⟨z, z1, z2, z3⟩ := place_spec _ h1
      have dl := dpl hK ra sim.fz (show pl (.lst as) = true from c.1.1.2)
      obtain ⟨p, vs, ex, hp, _⟩ := ra.lst sim.fz
      have hl : toPy (.lst as) = .list (toPys as) := by simp [toPy]
      rw [hl, ex] at dl
      exact mt_indexD (by omega) pins s σ H x xs v us Q I rx rs ⟨p, w, _, _, j, z, ex, ew, dl, dpl hK (.inl rw') sim.fz c.1.1.1, shaped_list (pls_lay c.1.1.2) c.2, shaped_of c.1.1.1 c.1.2, z1, z2, z3, q _ rfl⟩
    · cases e
  all_goals first
    | (rename_i heq; cases heq; done)
    | (cases e; done)
    | skip
theorem mt_get (hu : X.A.units + 100 < cLine) : MtR X "dict.get" (fun x xs H Q => ∃ W S ks vs ds d, Sim G W S H ∧ VRep G W H (.dic ks vs) x ∧ Reps G W ds xs ∧ bmD .get (.dic ks vs) ds = some d ∧ ∀ v, Rep G W d v → Q v H) := by
  intro pins s σ H x xs v us Q I rx rs h
  obtain ⟨W, S, ks, vs, ds, d, sim, ra, rd, e, q⟩ := h
  obtain ⟨p, uu, ex, hp, kr, _⟩ := ra.dic sim.fz
  subst ex
  obtain rfl : v = Value.ref p := rx
  unfold bmD at e
  split at e
  all_goals first
    | (rename_i heq; cases heq; done)
    | (cases e; done)
    | skip
  · rename_i ks' vs' k heq
    cases heq
    obtain ⟨key, h1, h2⟩ := Option.map_eq_some_iff.mp e
    subst h2
    obtain ⟨w, ew, rw'⟩ := reps_one rd
    subst ew
    obtain ⟨u1, eu, r1⟩ := vals1 rs
    subst eu
    have hk := keyD_rep (H := H) (.inl rw') h1
    subst hk
    refine d_get1 (by omega) I (DGet.k hp) r1 fun w' s3 I3 rw' => ⟨_, H, I3, rw', ?_⟩
    rw [look_zip] at q
    rcases look_rep key kr with ⟨z1, z2⟩ | ⟨d', w, z1, z2, z3⟩
    · rw [z1] at q; rw [z2]; exact q _ rfl
    · rw [z1] at q; rw [z2]; exact q _ z3
  · rename_i ks' vs' k dd heq
    cases heq
    obtain ⟨key, h1, h2⟩ := Option.map_eq_some_iff.mp e
    subst h2
    obtain ⟨w, w2, ew, rw', rw2⟩ := reps_two rd
    subst ew
    obtain ⟨u1, u2, eu, r1, r2⟩ := vals2 rs
    subst eu
    have hk := keyD_rep (H := H) (.inl rw') h1
    subst hk
    refine d_get2 (by omega) I (DGet.k hp) r1 r2 fun w' s3 I3 rw' => ⟨_, H, I3, rw', ?_⟩
    rw [look_zip] at q
    rcases look_rep key kr with ⟨z1, z2⟩ | ⟨d', w, z1, z2, z3⟩
    · rw [z1] at q; rw [z2]; exact q _ rw2
    · rw [z1] at q; rw [z2]; exact q _ z3
/-- methods that change a list -/
def Bm.lid : Bm → String
  | .app => "list.append" | .ext => "list.extend" | .ins => "list.insert" | .pop => "list.pop" | _ => ""
def rBmM (G : Gx) (m : Bm) : V → List V → Hp → VK → Prop := fun x xs H Q => ∃ W p as ds d o', x = .ref p ∧ Exh W.F H ∧ ObAt G W H p (.lst as) ∧ Reps G W ds xs ∧ bmM m (.lst as) ds = some (d, o') ∧ ∀ v u, Rep G W d v → ObAt G W (upd H p u) p o' → (∃ xs', u = .lst xs') → Q v (upd H p u)
theorem mt_ch {m : Bm} (hK : G.K = X.K) : MtR X m.lid (rBmM G m) := by
  intro pins s σ H x xs v us Q I rx rs h
  obtain ⟨W, p, as, ds, d, o', ex, fz, ra, rd, e, q⟩ := h
  obtain ⟨vs, hp, rv⟩ := ra
  have hl := rv.length
  unfold bmM at e
  split at e
  all_goals first
    | (rename_i heq; cases heq; done)
    | (cases e; done)
    | skip
  · rename_i heq
    cases heq
    split at e
    · rename_i c
      cases e
      obtain ⟨w, ew, rw'⟩ := reps_one rd
      exact mt_append pins s σ H x xs v us Q I rx rs ⟨p, vs, w, ex, ew, hp, by rw [hl]; exact lim_lt c, q _ _ rfl ⟨_, upd_same, rv.append (.one rw')⟩ ⟨_, rfl⟩⟩
    · cases e
  · rename_i heq
    cases heq
    split at e
    · rename_i c
      cases e
      obtain ⟨w, ew, rw'⟩ := reps_one rd
      obtain ⟨b, zs, eb, hb, rz⟩ := rw'
      exact mt_extend pins s σ H x xs v us Q I rx rs ⟨p, b, vs, zs, ex, by rw [ew, eb], hp, fz _ _ hb, by rw [hl, rz.length]; exact lim_le c, q _ _ rfl ⟨_, upd_same, rv.append rz⟩ ⟨_, rfl⟩⟩
    · cases e
  · rename_i heq
    cases heq
    split at e
    · rename_i i y c
      cases e
      obtain ⟨w, w2, ew, rw', rw2⟩ := reps_two rd
      have hw : w = .int i := rw'
      subst hw
      refine mt_insert pins s σ H x xs v us Q I rx rs ⟨p, vs, i, w2, ex, ew, hp, by rw [hl]; exact lim_lt c.1, c.2.1, ?_, q _ _ rfl ⟨_, upd_same, ?_⟩ ⟨_, rfl⟩⟩
      · have := c.1
        have h3 := c.2.2
        have : (lim : Int) < 2 ^ 63 := by decide
        omega
      · rw [List.append_assoc]
        exact (rv.take _).append (.cons rw2 (rv.drop _))
    · cases e
  · rename_i heq
    cases heq
    obtain ⟨y, h1, h2⟩ := Option.map_eq_some_iff.mp e
    cases h2
    have e0 : xs = [] := rd
    obtain ⟨w, q1, q2⟩ := rv.get h1
    exact mt_pop pins s σ H x xs v us Q I rx rs ⟨p, vs, w, ex, e0, hp, by rw [hl]; exact q1, q _ _ q2 ⟨_, upd_same, rv.dropLast⟩ ⟨_, rfl⟩⟩
  · rename_i heq
    cases heq
    split at e
    · rename_i i c
      obtain ⟨y, h1, h2⟩ := Option.map_eq_some_iff.mp e
      cases h2
      obtain ⟨w, ew, rw'⟩ := reps_one rd
      have hw : w = .int i := rw'
      subst hw
      obtain ⟨w2, q1, q2⟩ := rv.get h1
      have hz : vs.length ≤ sizeLine := (show ObjOk X.prog X.w H s.heap p (.lst vs) from I.hok p _ hp).1
      have hs := line63
      refine mt_popAt pins s σ H x xs v us Q I rx rs ⟨p, vs, i, i.toNat, w2, ex, ew, hp, by omega, by omega, ?_, q1, q _ _ q2 ⟨_, upd_same, rv.eraseIdx _⟩ ⟨_, rfl⟩⟩
      exact seqIndex_of c.1 (by rw [hl]; exact c.2)
    · cases e
end
end DI
set_option Elab.async false
set_option linter.all false
set_option maxRecDepth 100000
set_option maxHeartbeats 4000000
/-! DX: an own exception whose __init__ says super().__init__(text) and self.f = f. -/
namespace DX
open PySem PySem.W PySem.Spec PySem.Calls PyProof.Rows
/-- the text of super().__init__: pre, then the argument -/
structure Xi (P : Program) (K : Frag) (C fI : Addr) (F pre : Str) (fd : FuncData) (cc cda : Addr) : Prop where
  ini : findIn K (.ref C) "__init__" = some (some (.ref fI))
  ti : typeIn K (.ref fI) = some (.type "function")
  lk : ∃ oc od osl, K.lookup fI = some ⟨oc, od, .func fd, osl⟩
  body : ∃ p0 p1 p2 p3 p4 p5 p6 p7 p8 p9 p10 p11 p12 q1, fd.body = .stmts [.Expr (.Call (.Attribute (.Call (.Name "super" p0) [] [] p1) "__init__" p2) [.JoinedStr [.Constant (.str pre) q1 p3, .FormattedValue (.Name F p4) (-1) none p5] p6] [] p7) p8, .Assign [.Attribute (.Name "self" p9) F p10] (.Name F p11) p12] ∧ (p2.endLine == p7.line) = true
  cl : fd.closure = [(("__class__" : Str), cc)]
  cd : fd.code = .ref cda
  gl : fd.globals = mainGlobals
  bl : fd.builtins = builtinsNs
  hcd : codeIn K (.ref cda) fd.qualname = true
  bd : ∀ us : List Value, us.length = 2 → bindArgs fd ⟨us, []⟩ = pure ([("self" : Str), F].zip us)
  cell : ∃ a b c, K.lookup cc = some ⟨a, b, .cell (some (.ref C)), c⟩
  code : ∃ ccl cdd vs ccs file tf, K.lookup cda = some ⟨ccl, cdd, .fields vs, ccs⟩ ∧ vs[2]? = some (.str file tf) ∧ ((P.main.file : Str) == file) = true
  top : (P.main.scope.names.lookup ("super" : Str)).isSome = false
  sup : ks_superIn K C C "__init__" = some (some (.builtin "ValueError.__init__"))
  subB : subIn K (.ref C) (.type "ValueError") = some true
  opq : nsIn K cStatics "thirdparty.any" = some none
  nm : nsIn K mainGlobals "super" = some none
  mro : mroIn K C (.ref C) = some true
  fno : findIn K (.ref C) F = some none
  par : ∃ ar, (fd.params.posonlyargs ++ fd.params.args).head? = some ar ∧ ar.arg = "self"
  ksu : fd.scope.names.lookup ("super" : Str) = some .globalImplicit
  kcl : fd.scope.names.lookup ("__class__" : Str) = some .free
  kse : fd.scope.names.lookup ("self" : Str) = some .local
  kF : fd.scope.names.lookup F = some .local
  ksl : F ≠ ("self" : Str)
  kdb : (F == ("__debug__" : Str)) = false
  kc : ∀ x ∈ fd.scope.names, x.2 ≠ .cell
  co : fd.scope.isCoroutine = false
  gen : fd.scope.isGenerator = false
  kd : fd.scope.kind = .function
section
variable {P : Program} {w : World} {A : Around} {R : Result → Shared → Prop} {hp : Heap} {g : Array GenState} {d : Drawn} {t : Nat} {os : OsState} {K : Frag} {mg : Str → Option Value} {C fI x t0 cc cda : Addr} {F pre : Str} {fd : FuncData} {u : Value}
theorem str_e (s : Str) : Str.empty ++ s = s := by
  cases s with | _ c => show Str.mk _ = _; congr 1; simp [Str.empty]
/-- the text is one -/
def TxtU (pre : Str) (u : Value) : Prop := pre.length ≤ sizeLine ∧ ((∃ y tk, u = .str y tk ∧ y.length ≤ sizeLine ∧ (pre ++ y).length ≤ sizeLine) ∨ ∃ i tk, u = .int i tk ∧ i.natAbs.log2 < 1920 ∧ (pre ++ toString i).length ≤ sizeLine)
theorem joined {E : Value → Shared → Prop} {s : Shared} {env : Env} {m : Str → Option Value} {Q : Value → Shared → Prop} {p3 p4 p5 p6 : Pos} {q1 : Nat} (hk : env.scope.kind = .function) (hl : env.kindOf F = some .local) (hd : (F == ("__debug__" : Str)) = false) (hn : s.heap.Ns env.locals m) (hv : m F = some u) (ht : TxtU pre u)
    (h : ∀ y tk t', Q (.str y tk) { s with toks := t' }) : wpAny (model P w) A (eval (.JoinedStr [.Constant (.str pre) q1 p3, .FormattedValue (.Name F p4) (-1) none p5] p6) env) Q E s := by
  refine wpAny_JoinedStr ?_
  have e0 : evalEach [.Constant (.str pre) q1 p3, .FormattedValue (.Name F p4) (-1) none p5] env = [eval (.Constant (.str pre) q1 p3) env, eval (.FormattedValue (.Name F p4) (-1) none p5) env] := by first | rfl | simp [evalEach]
  rw [e0]
  obtain ⟨hp, ht⟩ := ht
  have e1 : Str.empty ++ pre = pre := str_e pre
  refine wpAny_Constant_str ⟨pre, _, rfl, by rw [e1]; exact hp, ?_⟩
  refine wpAny_FormattedValue_plain (wpAny_Name (wpAny_loadName_local hk hl hn hv ?_) hd)
  rw [e1]
  rcases ht with ⟨y, tk, rfl, hy, hz⟩ | ⟨i, tk, rfl, hy, hz⟩
  · exact wpAny_formatField_str ⟨y, _, rfl, hz, hz, h _ _ _⟩ ⟨y, _, rfl, hz, hz, h _ _ _⟩ hy
  · exact wpAny_formatField_int hy ⟨_, _, rfl, hz, hz, h _ _ _⟩
/-- the method-wrapper is called -/
theorem call_mw {E : Value → Shared → Prop} {s : Shared} {nm q : Str} {N : Addr} {bs bm : List Value} {hdct : Bool} {sn : List Str} {sub : List Value} {ab : Bool} {col : Option Bool} {dd : Option Addr} {k0 k1 k2 k3 k5 : Option Value} {m : Addr} {rest : List Value} {Q : Value → Shared → Prop}
    (hC : s.heap.get? C = some (excClassObj nm q C N bs bm hdct sn sub ab col dd k0 k1 k2 k3 k5 "ValueError.__new__")) (he : s.heap.get? x = some (HandSPX.excO C t0)) (hu : s.heap.get? m = some (kxs_mw "ValueError.__init__" x)) (hz : rest.length ≤ sizeLine)
    (h : ∀ h' t1, (∀ b o, b ≠ x → s.heap.get? b = some o → h'.get? b = some o) → h'.get? x = some (HandSPX.excO C t1) → Q .none { s with heap := h' }) :
    wpAny (model P w) A (call (.ref m) rest) Q E s := by
  obtain ⟨hh, g, d, tk, os⟩ := s
  refine wpAny_call (codeAny_of_tree ?_)
  show wpAny _ A.in1 (callAny (.ref m) ⟨rest, []⟩) _ _ _
  simp only [callAny]
  refine wpAny_bind (wpAny_load hu ?_)
  simp only [kxs_mw, show (Value.type "method-wrapper" == Value.type "method" || Value.type "method-wrapper" == Value.type "builtin_function_or_method" || Value.type "method-wrapper" == Value.type "method-wrapper") = true by decide, if_true]
  refine KFB.if_so (by decide) ?_
  refine wpAny_bind (check_bound_init F.excBase_ValueError.toExcCallFacts hC he rfl ?_)
  refine wpAny_bind (wpAny_pure (wpAny_pure ?_))
  refine ⟨plainId_quiet F.excBase_ValueError.init.plain _, codeAny_builtin F.excBase_ValueError.initEntry ?_⟩
  exact exc_init_tree (cls := .ref C) (t0 := t0) (dv := none) (c2 := .none) (c3 := .none) (b4 := .bool false) he hz fun h' k e' _ => h h' _ k e'
theorem init_raw {mb : Str → Option Value} (X : Xi P K C fI F pre fd cc cda) (T : L2.OexC K C) (hr : A.depth < recursionLimit) (KX : K.In hp) (hg : hp.Ns mainGlobals mg) (hb : hp.Ns builtinsNs mb) (hbb : ∀ x : Str, x ≠ "__name__" → mb x = bootBuiltins x) (hlim : hp.NoLimit)
    (he : hp.get? x = some (HandSPX.excO C t0)) (ht : TxtU pre u) (hxK : K.lookup x = none)
    (hq : ∀ h' t1 tk dx, (∀ b o, b ≠ x → hp.get? b = some o → h'.get? b = some o) → hp.objs.size ≤ dx → dx ≠ x → h'.get? x = some ({ cls := .ref C, dict := some dx, data := .fields #[.ref t1, .none, .none, .none, .bool false, .none] } : Obj) →
      h'.Ns1 dx (fun y => if y = F then some u else none) → R (.ok (.ret .none)) ⟨h', g, d, tk, os⟩) :
    codeAny (model P w) A (.call (.ref fI) ⟨[.ref x, u], []⟩) R ⟨hp, g, d, t, os⟩ := by
  obtain ⟨oc, od, osl, lk⟩ := X.lk
  obtain ⟨p0, p1, p2, p3, p4, p5, p6, p7, p8, p9, p10, p11, p12, q1, hbody, hline⟩ := X.body
  obtain ⟨ar, ha1, ha2⟩ := X.par
  obtain ⟨ccl, cdd, vs, ccs, file, tf, hcode, hvs, hfile⟩ := X.code
  obtain ⟨c1, c2, c3, hcell⟩ := X.cell
  obtain ⟨nm, q, N, bs, bm, sn, sub, ab, col, dd, k0, k1, k2, k3, k5, hC, hbm⟩ := T.cls
  have hcl : PySem.W.clsIn K C = some { name := nm, bases := bs, mro := .ref C :: bm, ns := N, qualname := q, hasDict := true, slotNames := sn, subclasses := sub, abstract := ab, collection := col, hasDel := false } := by unfold PySem.W.clsIn; rw [hC] <;> rfl
  have hxC : x ≠ C := fun e => by
    have z := KX _ _ hC
    rw [← e, he] at z
    cases z
  refine ks_codeAny_call_defAt (fd := fd) (binds := [(("self" : Str), .ref x), (F, u)]) hr (KX _ _ lk) rfl hlim (by rw [X.cd]; exact codeRec_of KX X.hcd) hbody (BindsTo.of_eq (X.bd [.ref x, u] rfl)) X.kc (fun y hy => ?_) (fun h1 hn1 kk1 => ?_) X.co X.gen X.kd
  · rcases List.mem_cons.mp hy with rfl | hy
    · exact X.kse
    · rcases List.mem_cons.mp hy with rfl | hy
      · exact X.kF
      · cases hy
  have mF : (List.reverse [(("self" : Str), Value.ref x), (F, u)]).lookup F = some u := by simp [List.lookup]
  have mS : (List.reverse [(("self" : Str), Value.ref x), (F, u)]).lookup ("self" : Str) = some (Value.ref x) := by
    have : (("self" : Str) == F) = false := by
      have := X.ksl
      simp only [beq_eq_false_iff_ne, ne_eq]
      exact fun e => this e.symm
    simp [List.lookup, this]
  have eK : (callEnv fd hp.objs.size fI).kindOf F = some .local := X.kF
  have K1 := KX.keeps kk1
  refine ks_wpAt_execs_cons (ks_wpAt_Expr_any ?_ ?hi ?hs)
  case hi => show (fd.scope.kind == .module && _) = false; rw [X.kd]; rfl
  case hs => rfl
  refine ks_wpAt_MethodCall (pl := do return (← importBound (.Call (.Name "super" p0) [] [] p1) (callEnv fd hp.objs.size fI)).getD true) ?_ ?he
  case he =>
    rw [arm_eval_Call]
    unfold methodCall methodCallPos calleeOf
    rw [hline]
    rfl
  refine (ks_wpAt_super_base (env := callEnv fd hp.objs.size fI) X.ksu X.kcl rfl rfl (s := ⟨h1, g, d, _, os⟩) (K1 _ _ lk) rfl ha1 X.cd (K1 _ _ hcode) rfl hvs hfile X.top ?_)
  refine ks_loadName_global X.kd X.ksu (loadGlobal_builtin (env := callEnv fd hp.objs.size fI) (by show h1.Ns fd.globals mg; rw [X.gl]; exact hg.keeps kk1) (mg_none_of KX hg X.nm) (by show h1.Ns fd.builtins mb; rw [X.bl]; exact hb.keeps kk1) (hbb _ (by decide)) ⟨rfl, ?_⟩)
  refine wpAny_loadName_free X.kd X.kcl (c := cc) (by show fd.closure.lookup ("__class__" : Str) = some cc; rw [X.cl]; simp [List.lookup]) ⟨_, K1 _ _ hcell, rfl⟩ ?_
  rw [ha2]
  refine wpAny_loadName_local X.kd X.kse hn1 mS ?_
  refine ks_wpAny_isType_cls (K1 _ _ hC) rfl ⟨rfl, ?_⟩
  refine ks_wpAny_call_super (K1 _ _ hC) rfl (kk1 _ _ he) rfl (fun c e => by cases e) (looks_mroIn K1 X.mro) (fun h2 e2 k2 => ?_)
  have K2 := K1.keeps k2
  have I2 : InstAt h2 x (HandSPX.excO C t0) C none := ⟨k2 _ _ (kk1 _ _ he), rfl, rfl, trivial⟩
  have hm : alongIn K "__init__" (((Value.ref C :: bm).dropWhile (· != .ref C)).drop 1) = some (some (.builtin "ValueError.__init__")) := by
    have z := X.sup
    unfold ks_superIn at z
    rw [hcl] at z
    exact z
  refine kxs_getMethod kxs_ValueError e2 (looks_opaque K2 X.opq) (l₀ := .ref C :: bm) (fun A Q E s k q => wpAny_bind ((looks_clsIn K2 hcl) A _ E s k (wpAny_pure q))) rfl K2 hm (I2.type.andThen (looks_subIn K2 X.subB)) hxC (by decide) ?_
  have k3 : ∀ b o, h2.get? b = some o → (h2.push (kxs_mw "ValueError.__init__" x)).get? b = some o := fun b o e => Heap.get?_push_of_some _ e
  refine kxs_callWith (i := "ValueError.__init__") (x := x) (by rfl) ?_
  refine evalArgs_plain (spliced_cons ?_)
  refine joined (p3 := p3) (p4 := p4) (p5 := p5) (p6 := p6) (q1 := q1) (m := fun y => (List.reverse [(("self" : Str), Value.ref x), (F, u)]).lookup y) X.kd eK X.kdb ((hn1.keeps k2).keeps k3) mF ht fun y tk t' => ?_
  refine wpAny_pure ⟨Heap.get?_push_at rfl rfl, ?_⟩
  have kk3 : ∀ b o, hp.get? b = some o → (h2.push (kxs_mw "ValueError.__init__" x)).get? b = some o := fun b o e => k3 _ _ (k2 _ _ (kk1 _ _ e))
  have hn3 := (hn1.keeps k2).keeps k3
  have hL : hp.objs.size ≠ x := fun e => by
    have z := Heap.lt_size he
    rw [e] at z
    exact absurd z (Nat.lt_irrefl _)
  refine call_mw (s := ⟨h2.push (kxs_mw "ValueError.__init__" x), g, d, _, os⟩) (kk3 _ _ (KX _ _ hC)) (kk3 _ _ he) (Heap.get?_push_at rfl rfl) (by rw [sizeLine_eq]; show 1 ≤ _; omega) fun h4 t4 k4 e4 => ?_
  have hn4 : h4.Ns hp.objs.size (fun y => (List.reverse [(("self" : Str), Value.ref x), (F, u)]).lookup y) := by
    obtain ⟨o, es, ep, ho, r⟩ := hn3
    exact ⟨o, es, ep, k4 _ _ hL ho, r⟩
  have K4 : K.In h4 := fun b o e => k4 b o (fun z => by
    rw [z, hxK] at e
    cases e) (kk3 _ _ (KX _ _ e))
  show PySem.wpAt _ _ _ _ _ _ _
  refine wpAt_of_wpAny (wpAny_execs_cons (plainObj_wpAny_Assign_Attribute ?_ ?hs2))
  case hs2 => rfl
  refine wpAny_Name (wpAny_loadName_local X.kd eK hn4 mF ?_) X.kdb
  refine wpAny_Name (wpAny_loadName_local X.kd X.kse hn4 mS ?_) (by decide)
  refine PySem.W.set_plain K4 (ox := HandSPX.excO C t4) (od := none) ⟨e4, rfl, rfl, trivial⟩ T.sa ?_
  refine PySem.HandSPX.exc_osa K4 e4 hcl (show PySem.HandSPX.refsVE (.ref C :: bm) = true from hbm) rfl X.fno (fun h' tk' dx k dn dne hx hn => ?_)
  have old : ∀ b o, b ≠ x → hp.get? b = some o → h4.get? b = some o := fun b o n e => k4 b o n (kk3 _ _ e)
  refine wpAny_execs_nil (hq h' t4 tk' dx (fun b o n e => k b o n (old b o n e)) ?_ dne hx hn)
  obtain ⟨o, _, _, ho, _⟩ := hn4
  exact Nat.le_trans (Nat.le_of_lt (Heap.lt_size ho)) dn
end
end DX
namespace L2
open PySem PySem.Spec PyProof.Rows
/-- the argument shows itself in the text -/
def TxtV (pre : Str) (v : V) : Prop := pre.length ≤ sizeLine ∧ ((∃ y : Str, v = .str y ∧ y.length ≤ sizeLine ∧ (pre ++ y).length ≤ sizeLine) ∨ ∃ i : Int, v = .int i ∧ i.natAbs.log2 < 1920 ∧ (pre ++ toString i).length ≤ sizeLine)
theorem TxtV.to {pre : Str} {v : V} {u : Value} (h : TxtV pre v) (r : RelV v u) : DX.TxtU pre u := by
  obtain ⟨a, h⟩ := h
  rcases h with ⟨y, rfl, h1, h2⟩ | ⟨i, rfl, h1, h2⟩
  · obtain ⟨t, rfl⟩ := r
    exact ⟨a, .inl ⟨y, t, rfl, h1, h2⟩⟩
  · obtain ⟨t, rfl⟩ := r
    exact ⟨a, .inr ⟨i, t, rfl, h1, h2⟩⟩
/-- C(e), C's own __init__ saying super().__init__(pre and e) and self.F = e -/
def tMkXi (C : Addr) (F pre : Str) (ta : TA) : St → Hp → XK → Prop := fun σ H Q => ta σ H fun vs H1 => ∃ v, vs = [v] ∧ TxtV pre v ∧ ∀ d, H1 d = none → Q (.ref C) (some d) (upd H1 d (.xd [(F, v)]))
section
variable {X : Cx} {e : Expr} {ta : TA} {p pos : Pos} {x : Str} {C fI cc cda : Addr} {F pre : Str} {fd : FuncData}
theorem pmk_xi (T : OexC X.K C) (XI : DX.Xi X.prog X.K C fI F pre fd cc cda) (hr : X.A.depth + 1 < recursionLimit) (hg : Gl X x) (hm : X.mg x = some (.ref C)) (ha : PA X [e] ta)
    (hdb : (x == ("__debug__" : Str)) = false := by decide) (he : starEach [e] X.env = (false, eval e X.env) :: starEach [] X.env := by rfl) :
    PMk X (.Call (.Name x p) [e] [] pos) (tMkXi C F pre ta) := by
  intro pins s σ H Q I h
  obtain ⟨nm, q, N, bs, bm, sn, sub, ab, col, dd, k0, k1, k2, k3, k5, hC, hbm⟩ := T.cls
  refine wpAny_Call_Name_kw (ld_glob I hg hm ?_ hdb)
  refine PySem.W.callWith_K (h₀ := X.base) I.ok.mod.kin T.kC (thn (ha.run pos pins s σ H _ I h) fun us s1 ⟨vs, H1, I1, r1, hz⟩ => ⟨I1.kIn, ?_⟩) he (by rfl)
  obtain ⟨v, rfl, tx, q1⟩ := hz
  obtain ⟨u, rfl, rv⟩ : ∃ u, us = [u] ∧ RelV v u := by
    cases r1 with
    | cons r rest =>
      cases rest
      exact ⟨_, rfl, r⟩
  show wpAny _ _ (call (.ref C) [u]) _ _ _
  obtain ⟨hp, g, dr, tk, os⟩ := s1
  have hsz : hp.objs.size ≤ hp.objs.size + 1 := Nat.le_succ _
  have hn : H1 (hp.objs.size + 1) = none := I1.hok.fresh hsz
  have kk : ∀ b o, hp.get? b = some o → ((hp.push (PySem.W.kdv_tup [u])).push (PySem.HandSPX.excO C hp.objs.size)).get? b = some o := fun b o e => Heap.get?_push_of_some _ (Heap.get?_push_of_some _ e)
  have hget : ((hp.push (PySem.W.kdv_tup [u])).push (PySem.HandSPX.excO C hp.objs.size)).get? (hp.objs.size + 1) = some (PySem.HandSPX.excO C hp.objs.size) := by heap_get
  have I2 : Inv X pins σ (upd H1 (hp.objs.size + 1) (exo (hp.objs.size + 1) C none)) ⟨(hp.push (PySem.W.kdv_tup [u])).push (PySem.HandSPX.excO C hp.objs.size), g, dr, tk, os⟩ :=
    I1.laid (t' := tk) (a := hp.objs.size + 1) (o := exo (hp.objs.size + 1) C none) (h' := (hp.push (PySem.W.kdv_tup [u])).push (PySem.HandSPX.excO C hp.objs.size)) kk hsz (exo_ok hget)
  obtain ⟨mb, bn, bb⟩ := I1.mod.blt
  have xK : X.K.lookup (hp.objs.size + 1) = none := by
    cases hz : X.K.lookup (hp.objs.size + 1) with
    | none => rfl
    | some o =>
      have y := Heap.lt_size (I1.kIn _ _ hz)
      exact absurd y (Nat.not_lt.mpr (Nat.le_succ _))
  refine wpAny_call (PySem.HandSPX.call_own PySem.F.excBase_ValueError (fun Y => PySem.HandSPX.refsVE_contains Y bm hbm) (I1.kIn _ _ hC) (PySem.W.looks_findIn I1.kIn XI.ini) (fun self => PySem.W.bind_fn I1.kIn self XI.ti) (by rw [sizeLine_eq]; show 1 ≤ _; omega)
    (DX.init_raw (mg := X.mg) (mb := mb) XI T ?_ I2.kIn ((I1.mod.glob.keeps I1.bk).keeps kk) ((bn.keeps I1.bk).keeps kk) bb ((I1.mod.nolimit.keeps I1.bk).keeps kk) hget (tx.to rv) xK fun h' t1 t2 dx k hd hne hx hns => ?_))
  · rw [make_depth]; omega
  · have hc1 : upd H1 (hp.objs.size + 1) (exo (hp.objs.size + 1) C none) (hp.objs.size + 1) = some (exo (hp.objs.size + 1) C none) := upd_same
    have hsz2 : ((hp.push (PySem.W.kdv_tup [u])).push (PySem.HandSPX.excO C hp.objs.size)).objs.size ≤ dx := hd
    have hlt : hp.objs.size ≤ dx := Nat.le_trans (by simp [Heap.push]; omega) hsz2
    have nd1 : H1 dx = none := I1.hok.fresh hlt
    have hnd : upd H1 (hp.objs.size + 1) (exo (hp.objs.size + 1) C none) dx = none := by rw [upd_ne hne]; exact nd1
    have nd : ∀ {b : Addr} {o : Obj}, ((hp.push (PySem.W.kdv_tup [u])).push (PySem.HandSPX.excO C hp.objs.size)).get? b = some o → b ≠ dx := fun {b o} q => Nat.ne_of_lt (Nat.lt_of_lt_of_le (Heap.lt_size q) hd)
    generalize hH : upd H1 (hp.objs.size + 1) (exo (hp.objs.size + 1) C none) = H2 at I2 hc1 hnd
    generalize hP : (hp.push (PySem.W.kdv_tup [u])).push (PySem.HandSPX.excO C hp.objs.size) = hp2 at *
    have na : ∀ {b : Addr}, H2 b = none → b ≠ hp.objs.size + 1 := fun {b} n z => by
      rw [z, hc1] at n
      cases n
    have Un1 : Un (frs X.stack) [] H2 (upd (upd H2 dx (exd dx [(F, v)])) (hp.objs.size + 1) (exo (hp.objs.size + 1) C (some dx))) hp2 h' := {
      keep := fun b o q n _ _ => k b o (na n) q
      slot := fun b o q n _ _ => ⟨o.slots, k b o (na n) q⟩
      free := fun b o q n _ => by rw [upd_ne (na n), upd_ne (nd q)]; exact n
      there := fun b o q _ => by
        by_cases hb : b = hp.objs.size + 1
        · exact ⟨_, by rw [hb]; exact hx⟩
        · exact ⟨o, k b o hb q⟩
      tups := fun b xs q => by rw [upd_ne (at_ne hc1 q exo_tup), upd_ne (ne_of_none q hnd)]; exact q
      frzs := fun b o v q => by rw [upd_ne (at_ne hc1 q exo_frz), upd_ne (ne_of_none q hnd)]; exact q
      tbls := fun b ps q => ⟨#[], by rw [upd_ne (at_ne hc1 q exo_tbl), upd_ne (ne_of_none q hnd), q]; simp⟩ }
    have hok2 : HOk X.prog X.w (upd (upd H2 dx (exd dx [(F, v)])) (hp.objs.size + 1) (exo (hp.objs.size + 1) C (some dx))) h' := fun b o q => by
      by_cases hb : b = hp.objs.size + 1
      · subst hb
        rw [upd_same] at q
        cases q
        exact exo_ok hx
      · rw [upd_ne hb] at q
        by_cases hd : b = dx
        · subst hd
          rw [upd_same] at q
          cases q
          exact exd_ok hns (relO_put (fs := []) rv fun g => True.intro)
        · rw [upd_ne hd] at q
          exact (I2.hok b o q).stay (fun c v hc z => k c v (by
              rcases hc with hc | hc
              · rw [hc]
                exact hb
              · exact at_ne hc1 hc exo_own) z)
            (fun c hc => by rw [upd_ne (at_ne hc1 hc exo_own), upd_ne (ne_of_none hc hnd)]; exact hc) (fun c xs hc => by rw [upd_ne (at_ne hc1 hc exo_tup), upd_ne (ne_of_none hc hnd)]; exact hc)
    have ea : upd (upd H2 dx (exd dx [(F, v)])) (hp.objs.size + 1) (exo (hp.objs.size + 1) C (some dx)) (hp.objs.size + 1) = some (exo (hp.objs.size + 1) C (some dx)) := upd_same
    have ed : upd (upd H2 dx (exd dx [(F, v)])) (hp.objs.size + 1) (exo (hp.objs.size + 1) C (some dx)) dx = some (exd dx [(F, v)]) := by rw [upd_ne hne, upd_same]
    have eq : upd (del (upd (upd H2 dx (exd dx [(F, v)])) (hp.objs.size + 1) (exo (hp.objs.size + 1) C (some dx))) (hp.objs.size + 1)) dx (.xd [(F, v)]) = upd H1 dx (.xd [(F, v)]) := by
      funext b
      by_cases hb : b = dx
      · rw [hb, upd_same, upd_same]
      · rw [upd_ne hb, upd_ne hb]
        by_cases hc : b = hp.objs.size + 1
        · rw [hc, del_same]; exact hn.symm
        · rw [del_ne hc, upd_ne hc, upd_ne hb, ← hH, upd_ne hc]
    refine ⟨rfl, mk_end (raises_own T.exC T.tyC) I1 hsz kk (by rw [hH]; exact Un1) hok2 rfl I2.bare ea ed nd1 ?_⟩
    rw [eq]
    exact q1 dx nd1
end
end L2
namespace L2
open PySem PySem.Spec PyProof.Rows
/-- isinstance(e, c), e the exception at hand, which has a dict -/
theorem call_isD {X : Cx} {a D p : Addr} {us : List (Str × V)} {oe : Obj} {pn : List (Addr × Obj)} (C : ExcC X.K D) (hz : Zc (.ref D) (some p) oe) (hf : ∃ vs, oe.data = .fields vs) :
    CallR (X.suite a ((a, oe) :: pn)) (.builtin "isinstance") (fun xs H Q => H p = some (.xd us) ∧ rIsE X.K D a xs H Q) := by
  intro pins s σ H xs ws Q I r h
  obtain ⟨hp, c, cv, b, rfl, hcv, e, q⟩ := h
  cases r with
  | cons rx rr =>
    cases rr with
    | cons rt rr =>
      cases rr
      cases rx
      have ec := hcv _ rt
      subst ec
      obtain ⟨hget, _⟩ := I.pin (a, oe) (List.mem_append.mpr (.inl List.mem_cons_self))
      obtain ⟨vs, hv⟩ := hf
      have hx : ObjOk X.prog X.w H s.heap p (.xd us) := I.hok p _ hp
      obtain ⟨mA, hns, hr⟩ := hx
      obtain ⟨od, ho, hl⟩ := lookIn_ns hns
      have J : PySem.W.InstAt s.heap a oe D (some od) := by
        obtain ⟨oc, od', oda, osl⟩ := oe
        obtain ⟨h1, h2⟩ := hz
        dsimp only at h1 h2 hv
        subst h1 h2 hv
        exact ⟨hget, rfl, rfl, ho⟩
      have hcl : (PySem.W.clsIn X.K D).isSome = true := by
        obtain ⟨cd, hc, _⟩ := PySem.W.any_some C.hd
        rw [hc]; rfl
      exact PySem.W.kia_one (PySem.W.kitx_exc hcl C.hg C.hk C.hs C.ha C.hn C.ht C.hm) I.kIn J e (fun z => nomatch z) fun tk => ⟨.bl b, H, I.kept (t' := tk) fun _ _ z => z, rfl, q⟩
end L2
set_option Elab.async false
set_option linter.all false
set_option maxRecDepth 100000
set_option maxHeartbeats 4000000
/-! DX2: the check of such a class. -/
namespace DX
open PySem PySem.W PySem.Spec PySem.Calls PyProof.Rows
def sLine (p2 p7 : Pos) : Bool := p2.endLine == p7.line
/-- the text of __init__: what goes ahead in the message -/
def bodyX (F : Str) : FuncBody → Option Str
  | .stmts [.Expr (.Call (.Attribute (.Call (.Name s _) [] [] _) n p2) [.JoinedStr [.Constant (.str pre) _ _, .FormattedValue (.Name g _) c none _] _] [] p7) _, .Assign [.Attribute (.Name se _) f _] (.Name g2 _) _] =>
    if s = "super" ∧ n = "__init__" ∧ g = F ∧ c = -1 ∧ se = "self" ∧ f = F ∧ g2 = F ∧ sLine p2 p7 = true ∧ pre.length ≤ 1000 then some pre else none
  | _ => none
theorem bodyX_ok {F pre : Str} {b : FuncBody} (h : bodyX F b = some pre) : pre.length ≤ 1000 ∧ ∃ p0 p1 p2 p3 p4 p5 p6 p7 p8 p9 p10 p11 p12 q1, b = .stmts [.Expr (.Call (.Attribute (.Call (.Name "super" p0) [] [] p1) "__init__" p2) [.JoinedStr [.Constant (.str pre) q1 p3, .FormattedValue (.Name F p4) (-1) none p5] p6] [] p7) p8, .Assign [.Attribute (.Name "self" p9) F p10] (.Name F p11) p12] ∧ (p2.endLine == p7.line) = true := by
  unfold bodyX at h
  split at h
  · split at h
    · rename_i q
      obtain ⟨rfl, rfl, rfl, rfl, rfl, rfl, rfl, hl, hz⟩ := q
      cases h
      exact ⟨hz, _, _, _, _, _, _, _, _, _, _, _, _, _, _, rfl, hl⟩
    · cases h
  · cases h
def parX (F : Str) : Arguments → Bool
  | ⟨[], [a, b], none, [], [], none, []⟩ => decide (a.arg = "self") && decide (b.arg = F)
  | _ => false
def nonV : Value → Bool
  | .none => true
  | _ => false
theorem bindX {F : Str} {fd : FuncData} (hF : F ∈ (["reason", "number", "token", "place"] : List Str)) (hp : parX F fd.params = true) (hd : nonV fd.defaults = true) : ∀ us : List Value, us.length = 2 → bindArgs fd ⟨us, []⟩ = pure ([("self" : Str), F].zip us) := by
  intro us hl
  match us, hl with
  | [a, b], _ =>
    obtain ⟨nm, qn, ps, bd, sc, gl, cl, df, kd, doc, pm, an, cd, ct, bl⟩ := fd
    unfold parX at hp
    dsimp only at hp hd
    split at hp
    · rename_i x y
      rw [Bool.and_eq_true, decide_eq_true_eq, decide_eq_true_eq] at hp
      obtain ⟨x1, x2, x3⟩ := x
      obtain ⟨y1, y2, y3⟩ := y
      dsimp only at hp
      obtain ⟨rfl, rfl⟩ := hp
      cases df <;> first | cases hd | skip
      simp only [List.mem_cons, List.not_mem_nil, or_false] at hF
      rcases hF with rfl | rfl | rfl | rfl <;> rfl
    · cases hp
def oexB (K : Frag) (C : Addr) : Bool := (match K.lookup C with
  | some ⟨.type "type", _, .cls cd, sl⟩ => (match cd.mro, sl.toList with
    | .ref C' :: bm, [_, _, _, _, some (.builtin n), _] => decide (C' = C) && decide (n = "ValueError.__new__") && !cd.hasDel && cd.hasDict && HandSPX.refsVE bm
    | _, _ => false)
  | _ => false) && He.eqO (findIn K (.ref C) "__setattr__") (some (some (.builtin "object.__setattr__"))) && decide (subIn K (.ref C) (.type "BaseException") = some true) && decide (typeIn K (.ref C) = some (.type "type")) && keepIn K (.ref C)
theorem oexB_ok {K : Frag} {C : Addr} (h : oexB K C = true) : L2.OexC K C := by
  unfold oexB at h
  simp only [Bool.and_eq_true] at h
  obtain ⟨⟨⟨⟨h1, h2⟩, h3⟩, h4⟩, h5⟩ := h
  refine ⟨?_, He.eqO_ok h2, of_decide_eq_true h3, of_decide_eq_true h4, h5⟩
  split at h1
  · rename_i dd cd sl ho
    split at h1
    · rename_i C' bm k0 k1 k2 k3 n k5 hm hs
      simp only [Bool.and_eq_true, decide_eq_true_eq, Bool.not_eq_true'] at h1
      obtain ⟨⟨⟨⟨rfl, rfl⟩, hdel⟩, hdi⟩, hr⟩ := h1
      obtain ⟨nm, bs, mro, ns, qn, hd, sn, sub, ab, col, del⟩ := cd
      dsimp only at hm hdel hdi
      subst hm hdel hdi
      have hsl : sl = #[k0, k1, k2, k3, some (.builtin "ValueError.__new__"), k5] := by
        obtain ⟨l⟩ := sl
        simp only at hs
        rw [hs]
      subst hsl
      exact ⟨nm, qn, ns, bs, bm, sn, sub, ab, col, dd, k0, k1, k2, k3, k5, ho, hr⟩
    · cases h1
  · cases h1
def cellX (K : Frag) (cc C : Addr) : Bool := match K.lookup cc with
  | some ⟨_, _, .cell (some (.ref C')), _⟩ => decide (C' = C)
  | _ => false
def codeX (K : Frag) (cda : Addr) (fl : Str) : Bool := match K.lookup cda with
  | some ⟨_, _, .fields (vs : Array Value), _⟩ => (match (vs[2]? : Option Value) with
    | some (.str file _) => fl == file
    | _ => false)
  | _ => false
def scX (F : Str) (sc : Scope) : Bool := decide (sc.names.lookup ("super" : Str) = some .globalImplicit) && decide (sc.names.lookup ("__class__" : Str) = some .free) && decide (sc.names.lookup ("self" : Str) = some .local) && decide (sc.names.lookup F = some .local) &&
  sc.names.all (fun x => decide (x.2 ≠ .cell)) && !sc.isCoroutine && !sc.isGenerator && decide (sc.kind = .function)
def fnX1 (K : Frag) (fl : Str) (C : Addr) (F : Str) (fd : FuncData) : Bool := (bodyX F fd.body).isSome && parX F fd.params && nonV fd.defaults && scX F fd.scope && decide (fd.globals = mainGlobals) && decide (fd.builtins = builtinsNs) && (match fd.closure, fd.code with
  | [(n, cc)], .ref cda => decide (n = "__class__") && cellX K cc C && codeX K cda fl && codeIn K (.ref cda) fd.qualname
  | _, _ => false)
def clsX (K : Frag) (C : Addr) (F : Str) : Bool := He.eqO (ks_superIn K C C "__init__") (some (some (.builtin "ValueError.__init__"))) && decide (subIn K (.ref C) (.type "ValueError") = some true) && He.eqO (nsIn K cStatics "thirdparty.any") (some none) && He.eqO (nsIn K mainGlobals "super") (some none) &&
  decide (mroIn K C (.ref C) = some true) && He.eqO (findIn K (.ref C) F) (some none)
def xiB (K : Frag) (fl : Str) (C : Addr) (F : Str) : Bool := oexB K C && clsX K C F && (match findIn K (.ref C) "__init__" with
  | some (some (.ref fI)) => decide (typeIn K (.ref fI) = some (.type "function")) && (match K.lookup fI with
    | some ⟨_, _, .func fd, _⟩ => fnX1 K fl C F fd
    | _ => false)
  | _ => false)
theorem xiB_ok {P : Program} {K : Frag} {fl F : Str} {C : Addr} (h : xiB K fl C F = true) (hF : F ∈ (["reason", "number", "token", "place"] : List Str)) (hfl : P.main.file = fl) (ht : (P.main.scope.names.lookup ("super" : Str)).isSome = false) :
    ∃ fI pre fd cc cda, L2.OexC K C ∧ Xi P K C fI F pre fd cc cda ∧ pre.length ≤ 1000 := by
  subst hfl
  unfold xiB at h
  simp only [Bool.and_eq_true] at h
  obtain ⟨⟨h1, h2⟩, h3⟩ := h
  have T := oexB_ok h1
  unfold clsX at h2
  simp only [Bool.and_eq_true, decide_eq_true_eq] at h2
  obtain ⟨⟨⟨⟨⟨s1, s2⟩, s3⟩, s4⟩, s5⟩, s6⟩ := h2
  split at h3
  · rename_i fI hi
    rw [Bool.and_eq_true, decide_eq_true_eq] at h3
    obtain ⟨t1, h3⟩ := h3
    split at h3
    · rename_i oc od fd osl lk
      unfold fnX1 at h3
      simp only [Bool.and_eq_true, decide_eq_true_eq] at h3
      obtain ⟨⟨⟨⟨⟨⟨f1, f2⟩, f3⟩, f4⟩, f5⟩, f6⟩, f7⟩ := h3
      obtain ⟨pre, hb⟩ := Option.isSome_iff_exists.mp f1
      obtain ⟨hz, hbody⟩ := bodyX_ok hb
      split at f7
      · rename_i n cc cda hcl hcd
        simp only [Bool.and_eq_true, decide_eq_true_eq] at f7
        obtain ⟨⟨⟨rfl, g1⟩, g2⟩, g3⟩ := f7
        unfold scX at f4
        simp only [Bool.and_eq_true, decide_eq_true_eq, Bool.not_eq_true'] at f4
        obtain ⟨⟨⟨⟨⟨⟨⟨c1, c2⟩, c3⟩, c4⟩, c5⟩, c6⟩, c7⟩, c8⟩ := f4
        refine ⟨fI, pre, fd, cc, cda, T, ?_, hz⟩
        exact {
          ini := hi
          ti := t1
          lk := ⟨_, _, _, lk⟩
          body := hbody
          cl := hcl
          cd := hcd
          gl := f5
          bl := f6
          hcd := g3
          bd := bindX hF f2 f3
          cell := by
            unfold cellX at g1
            split at g1
            · rename_i C' _ e
              obtain rfl := of_decide_eq_true g1
              exact ⟨_, _, _, e⟩
            · cases g1
          code := by
            unfold codeX at g2
            split at g2
            · rename_i vs _ e
              split at g2
              · rename_i file tf e2
                exact ⟨_, _, _, _, _, _, e, e2, g2⟩
              · cases g2
            · cases g2
          top := ht
          sup := He.eqO_ok s1
          subB := s2
          opq := He.eqO_ok s3
          nm := He.eqO_ok s4
          mro := s5
          fno := He.eqO_ok s6
          par := by
            unfold parX at f2
            split at f2
            · rename_i a b e
              rw [Bool.and_eq_true, decide_eq_true_eq] at f2
              rw [e]
              exact ⟨a, rfl, f2.1⟩
            · cases f2
          ksu := c1
          kcl := c2
          kse := c3
          kF := c4
          ksl := fun e => by rw [e] at hF; revert hF; decide
          kdb := by
            simp only [List.mem_cons, List.not_mem_nil, or_false] at hF
            rcases hF with rfl | rfl | rfl | rfl <;> decide
          kc := fun x hx => of_decide_eq_true (List.all_eq_true.mp c5 x hx)
          co := c6
          gen := c7
          kd := c8 }
      · cases f7
    · cases h3
  · cases h3
end DX
set_option Elab.async false
set_option linter.all false
set_option maxRecDepth 100000
set_option maxHeartbeats 4000000
/-! DX3: an own exception whose __init__ has two parameters. -/
namespace DX
open PySem PySem.W PySem.Spec PySem.Calls PyProof.Rows
/-- an __init__ of two parameters: its text shows both, it stores both -/
structure Xi2 (P : Program) (K : Frag) (C fI : Addr) (F F2 pre mid : Str) (fd : FuncData) (cc cda : Addr) : Prop where
  ini : findIn K (.ref C) "__init__" = some (some (.ref fI))
  ti : typeIn K (.ref fI) = some (.type "function")
  lk : ∃ oc od osl, K.lookup fI = some ⟨oc, od, .func fd, osl⟩
  body : ∃ p0 p1 p2 p3 p4 p5 p6 p7 p8 p9 p10 p11 p12 q1 r3 r4 r5 r9 r10 r11 r12 q2, fd.body = .stmts [.Expr (.Call (.Attribute (.Call (.Name "super" p0) [] [] p1) "__init__" p2) [.JoinedStr [.Constant (.str pre) q1 p3, .FormattedValue (.Name F p4) (-1) none p5, .Constant (.str mid) q2 r3, .FormattedValue (.Name F2 r4) (-1) none r5] p6] [] p7) p8, .Assign [.Attribute (.Name "self" p9) F p10] (.Name F p11) p12, .Assign [.Attribute (.Name "self" r9) F2 r10] (.Name F2 r11) r12] ∧ (p2.endLine == p7.line) = true
  cl : fd.closure = [(("__class__" : Str), cc)]
  cd : fd.code = .ref cda
  gl : fd.globals = mainGlobals
  bl : fd.builtins = builtinsNs
  hcd : codeIn K (.ref cda) fd.qualname = true
  bd : ∀ us : List Value, us.length = 3 → bindArgs fd ⟨us, []⟩ = pure ([("self" : Str), F, F2].zip us)
  cell : ∃ a b c, K.lookup cc = some ⟨a, b, .cell (some (.ref C)), c⟩
  code : ∃ ccl cdd vs ccs file tf, K.lookup cda = some ⟨ccl, cdd, .fields vs, ccs⟩ ∧ vs[2]? = some (.str file tf) ∧ ((P.main.file : Str) == file) = true
  top : (P.main.scope.names.lookup ("super" : Str)).isSome = false
  sup : ks_superIn K C C "__init__" = some (some (.builtin "ValueError.__init__"))
  subB : subIn K (.ref C) (.type "ValueError") = some true
  opq : nsIn K cStatics "thirdparty.any" = some none
  nm : nsIn K mainGlobals "super" = some none
  mro : mroIn K C (.ref C) = some true
  fno : findIn K (.ref C) F = some none
  fno2 : findIn K (.ref C) F2 = some none
  par : ∃ ar, (fd.params.posonlyargs ++ fd.params.args).head? = some ar ∧ ar.arg = "self"
  ksu : fd.scope.names.lookup ("super" : Str) = some .globalImplicit
  kcl : fd.scope.names.lookup ("__class__" : Str) = some .free
  kse : fd.scope.names.lookup ("self" : Str) = some .local
  kF : fd.scope.names.lookup F = some .local
  kF2 : fd.scope.names.lookup F2 = some .local
  kne : F2 ≠ F
  ksl : F ≠ ("self" : Str)
  ksl2 : F2 ≠ ("self" : Str)
  kdb2 : (F2 == ("__debug__" : Str)) = false
  kdb : (F == ("__debug__" : Str)) = false
  kc : ∀ x ∈ fd.scope.names, x.2 ≠ .cell
  co : fd.scope.isCoroutine = false
  gen : fd.scope.isGenerator = false
  kd : fd.scope.kind = .function
section
variable {P : Program} {w : World} {A : Around} {R : Result → Shared → Prop} {hp : Heap} {g : Array GenState} {d : Drawn} {t : Nat} {os : OsState} {K : Frag} {mg : Str → Option Value} {C fI x t0 cc cda : Addr} {F F2 pre mid : Str} {fd : FuncData} {u u2 : Value}
/-- a text or an int, short -/
def Shw (u : Value) (y : Str) : Prop := y.length ≤ 1000000 ∧ ((∃ tk, u = .str y tk) ∨ ∃ (i : Int) (tk : Tok), u = .int i tk ∧ i.natAbs.log2 < 1920 ∧ y = (toString i : Str))
theorem shown1 {E : Value → Shared → Prop} {s : Shared} {env : Env} {m : Str → Option Value} {Q : Value → Shared → Prop} {p4 p5 : Pos} {y : Str} (hk : env.scope.kind = .function) (hl : env.kindOf F = some .local) (hd : (F == ("__debug__" : Str)) = false) (hn : s.heap.Ns env.locals m) (hv : m F = some u) (ht : Shw u y)
    (h : ∀ tk t', Q (.str y tk) { s with toks := t' }) : wpAny (model P w) A (eval (.FormattedValue (.Name F p4) (-1) none p5) env) Q E s := by
  refine wpAny_FormattedValue_plain (wpAny_Name (wpAny_loadName_local hk hl hn hv ?_) hd)
  obtain ⟨hy, ht⟩ := ht
  rcases ht with ⟨tk, rfl⟩ | ⟨i, tk, rfl, hz, rfl⟩
  · exact wpAny_formatField_str (h _ _) (h _ _) (by rw [sizeLine_eq]; omega)
  · exact wpAny_formatField_int hz (h _ _)
theorem joined2 {E : Value → Shared → Prop} {s : Shared} {env : Env} {m : Str → Option Value} {Q : Value → Shared → Prop} {p3 p4 p5 p6 r3 r4 r5 : Pos} {q1 q2 : Nat} {y y2 : Str} (hk : env.scope.kind = .function) (hl : env.kindOf F = some .local) (hd : (F == ("__debug__" : Str)) = false) (hl2 : env.kindOf F2 = some .local) (hd2 : (F2 == ("__debug__" : Str)) = false)
    (hn : s.heap.Ns env.locals m) (hv : m F = some u) (hv2 : m F2 = some u2) (ht : Shw u y) (ht2 : Shw u2 y2) (hp : pre.length ≤ 1000) (hm : mid.length ≤ 1000)
    (h : ∀ z tk t', Q (.str z tk) { s with toks := t' }) : wpAny (model P w) A (eval (.JoinedStr [.Constant (.str pre) q1 p3, .FormattedValue (.Name F p4) (-1) none p5, .Constant (.str mid) q2 r3, .FormattedValue (.Name F2 r4) (-1) none r5] p6) env) Q E s := by
  refine wpAny_JoinedStr ?_
  have e0 : evalEach [.Constant (.str pre) q1 p3, .FormattedValue (.Name F p4) (-1) none p5, .Constant (.str mid) q2 r3, .FormattedValue (.Name F2 r4) (-1) none r5] env = [eval (.Constant (.str pre) q1 p3) env, eval (.FormattedValue (.Name F p4) (-1) none p5) env, eval (.Constant (.str mid) q2 r3) env, eval (.FormattedValue (.Name F2 r4) (-1) none r5) env] := by first | rfl | simp [evalEach]
  rw [e0]
  have h1 := ht.1
  have h2 := ht2.1
  refine wpAny_Constant_str ⟨pre, _, rfl, by rw [str_e, sizeLine_eq]; omega, ?_⟩
  refine shown1 hk hl hd hn hv ht fun tk t1 => ⟨y, _, rfl, by rw [str_e, strLen_append, sizeLine_eq]; omega, ?_⟩
  refine wpAny_Constant_str ⟨mid, _, rfl, by rw [str_e, strLen_append, strLen_append, sizeLine_eq]; omega, ?_⟩
  refine shown1 hk hl2 hd2 hn hv2 ht2 fun tk t1 => ⟨y2, _, rfl, by rw [str_e, strLen_append, strLen_append, strLen_append, sizeLine_eq]; omega, ?_⟩
  exact ⟨by rw [str_e, strLen_append, strLen_append, strLen_append, sizeLine_eq]; omega, h _ _ _⟩
theorem init_raw2 {mb : Str → Option Value} (X : Xi2 P K C fI F F2 pre mid fd cc cda) (T : L2.OexC K C) (hr : A.depth < recursionLimit) (KX : K.In hp) (hg : hp.Ns mainGlobals mg) (hb : hp.Ns builtinsNs mb) (hbb : ∀ x : Str, x ≠ "__name__" → mb x = bootBuiltins x) (hlim : hp.NoLimit)
    (he : hp.get? x = some (HandSPX.excO C t0)) {y y2 : Str} (ht : Shw u y) (ht2 : Shw u2 y2) (hpre : pre.length ≤ 1000) (hmid : mid.length ≤ 1000) (hxK : K.lookup x = none)
    (hq : ∀ h' t1 tk dx, (∀ b o, b ≠ x → hp.get? b = some o → h'.get? b = some o) → hp.objs.size ≤ dx → dx ≠ x → h'.get? x = some ({ cls := .ref C, dict := some dx, data := .fields #[.ref t1, .none, .none, .none, .bool false, .none] } : Obj) →
      h'.Ns1 dx (fun y => if y = F2 then some u2 else if y = F then some u else none) → R (.ok (.ret .none)) ⟨h', g, d, tk, os⟩) :
    codeAny (model P w) A (.call (.ref fI) ⟨[.ref x, u, u2], []⟩) R ⟨hp, g, d, t, os⟩ := by
  obtain ⟨oc, od, osl, lk⟩ := X.lk
  obtain ⟨p0, p1, p2, p3, p4, p5, p6, p7, p8, p9, p10, p11, p12, q1, r3, r4, r5, r9, r10, r11, r12, q2, hbody, hline⟩ := X.body
  obtain ⟨ar, ha1, ha2⟩ := X.par
  obtain ⟨ccl, cdd, vs, ccs, file, tf, hcode, hvs, hfile⟩ := X.code
  obtain ⟨c1, c2, c3, hcell⟩ := X.cell
  obtain ⟨nm, q, N, bs, bm, sn, sub, ab, col, dd, k0, k1, k2, k3, k5, hC, hbm⟩ := T.cls
  have hcl : PySem.W.clsIn K C = some { name := nm, bases := bs, mro := .ref C :: bm, ns := N, qualname := q, hasDict := true, slotNames := sn, subclasses := sub, abstract := ab, collection := col, hasDel := false } := by unfold PySem.W.clsIn; rw [hC] <;> rfl
  have hxC : x ≠ C := fun e => by
    have z := KX _ _ hC
    rw [← e, he] at z
    cases z
  refine ks_codeAny_call_defAt (fd := fd) (binds := [(("self" : Str), .ref x), (F, u), (F2, u2)]) hr (KX _ _ lk) rfl hlim (by rw [X.cd]; exact codeRec_of KX X.hcd) hbody (BindsTo.of_eq (X.bd [.ref x, u, u2] rfl)) X.kc (fun y hy => ?_) (fun h1 hn1 kk1 => ?_) X.co X.gen X.kd
  · rcases List.mem_cons.mp hy with rfl | hy
    · exact X.kse
    · rcases List.mem_cons.mp hy with rfl | hy
      · exact X.kF
      · rcases List.mem_cons.mp hy with rfl | hy
        · exact X.kF2
        · cases hy
  have n1 : (F == F2) = false := by simpa using fun e => X.kne e.symm
  have n2 : (("self" : Str) == F) = false := by simpa using fun e => X.ksl e.symm
  have n3 : (("self" : Str) == F2) = false := by simpa using fun e => X.ksl2 e.symm
  have mF : (List.reverse [(("self" : Str), Value.ref x), (F, u), (F2, u2)]).lookup F = some u := by simp [List.lookup, n1]
  have mF2 : (List.reverse [(("self" : Str), Value.ref x), (F, u), (F2, u2)]).lookup F2 = some u2 := by simp [List.lookup]
  have mS : (List.reverse [(("self" : Str), Value.ref x), (F, u), (F2, u2)]).lookup ("self" : Str) = some (Value.ref x) := by simp [List.lookup, n2, n3]
  have eK2 : (callEnv fd hp.objs.size fI).kindOf F2 = some .local := X.kF2
  have eK : (callEnv fd hp.objs.size fI).kindOf F = some .local := X.kF
  have K1 := KX.keeps kk1
  refine ks_wpAt_execs_cons (ks_wpAt_Expr_any ?_ ?hi ?hs)
  case hi => show (fd.scope.kind == .module && _) = false; rw [X.kd]; rfl
  case hs => rfl
  refine ks_wpAt_MethodCall (pl := do return (← importBound (.Call (.Name "super" p0) [] [] p1) (callEnv fd hp.objs.size fI)).getD true) ?_ ?he
  case he =>
    rw [arm_eval_Call]
    unfold methodCall methodCallPos calleeOf
    rw [hline]
    rfl
  refine (ks_wpAt_super_base (env := callEnv fd hp.objs.size fI) X.ksu X.kcl rfl rfl (s := ⟨h1, g, d, _, os⟩) (K1 _ _ lk) rfl ha1 X.cd (K1 _ _ hcode) rfl hvs hfile X.top ?_)
  refine ks_loadName_global X.kd X.ksu (loadGlobal_builtin (env := callEnv fd hp.objs.size fI) (by show h1.Ns fd.globals mg; rw [X.gl]; exact hg.keeps kk1) (mg_none_of KX hg X.nm) (by show h1.Ns fd.builtins mb; rw [X.bl]; exact hb.keeps kk1) (hbb _ (by decide)) ⟨rfl, ?_⟩)
  refine wpAny_loadName_free X.kd X.kcl (c := cc) (by show fd.closure.lookup ("__class__" : Str) = some cc; rw [X.cl]; simp [List.lookup]) ⟨_, K1 _ _ hcell, rfl⟩ ?_
  rw [ha2]
  refine wpAny_loadName_local X.kd X.kse hn1 mS ?_
  refine ks_wpAny_isType_cls (K1 _ _ hC) rfl ⟨rfl, ?_⟩
  refine ks_wpAny_call_super (K1 _ _ hC) rfl (kk1 _ _ he) rfl (fun c e => by cases e) (looks_mroIn K1 X.mro) (fun h2 e2 k2 => ?_)
  have K2 := K1.keeps k2
  have I2 : InstAt h2 x (HandSPX.excO C t0) C none := ⟨k2 _ _ (kk1 _ _ he), rfl, rfl, trivial⟩
  have hm : alongIn K "__init__" (((Value.ref C :: bm).dropWhile (· != .ref C)).drop 1) = some (some (.builtin "ValueError.__init__")) := by
    have z := X.sup
    unfold ks_superIn at z
    rw [hcl] at z
    exact z
  refine kxs_getMethod kxs_ValueError e2 (looks_opaque K2 X.opq) (l₀ := .ref C :: bm) (fun A Q E s k q => wpAny_bind ((looks_clsIn K2 hcl) A _ E s k (wpAny_pure q))) rfl K2 hm (I2.type.andThen (looks_subIn K2 X.subB)) hxC (by decide) ?_
  have k3 : ∀ b o, h2.get? b = some o → (h2.push (kxs_mw "ValueError.__init__" x)).get? b = some o := fun b o e => Heap.get?_push_of_some _ e
  refine kxs_callWith (i := "ValueError.__init__") (x := x) (by rfl) ?_
  refine evalArgs_plain (spliced_cons ?_)
  refine joined2 (p3 := p3) (p4 := p4) (p5 := p5) (p6 := p6) (q1 := q1) (q2 := q2) (r3 := r3) (r4 := r4) (r5 := r5) (F := F) (F2 := F2) (pre := pre) (mid := mid) (u := u) (u2 := u2) (m := fun y => (List.reverse [(("self" : Str), Value.ref x), (F, u), (F2, u2)]).lookup y) X.kd eK X.kdb eK2 X.kdb2 ((hn1.keeps k2).keeps k3) mF mF2 ht ht2 hpre hmid fun z tk t' => ?_
  refine wpAny_pure ⟨Heap.get?_push_at rfl rfl, ?_⟩
  have kk3 : ∀ b o, hp.get? b = some o → (h2.push (kxs_mw "ValueError.__init__" x)).get? b = some o := fun b o e => k3 _ _ (k2 _ _ (kk1 _ _ e))
  have hn3 := (hn1.keeps k2).keeps k3
  have hL : hp.objs.size ≠ x := fun e => by
    have z := Heap.lt_size he
    rw [e] at z
    exact absurd z (Nat.lt_irrefl _)
  refine call_mw (s := ⟨h2.push (kxs_mw "ValueError.__init__" x), g, d, _, os⟩) (kk3 _ _ (KX _ _ hC)) (kk3 _ _ he) (Heap.get?_push_at rfl rfl) (by rw [sizeLine_eq]; show 1 ≤ _; omega) fun h4 t4 k4 e4 => ?_
  have hn4 : h4.Ns hp.objs.size (fun y => (List.reverse [(("self" : Str), Value.ref x), (F, u), (F2, u2)]).lookup y) := by
    obtain ⟨o, es, ep, ho, r⟩ := hn3
    exact ⟨o, es, ep, k4 _ _ hL ho, r⟩
  have K4 : K.In h4 := fun b o e => k4 b o (fun z => by
    rw [z, hxK] at e
    cases e) (kk3 _ _ (KX _ _ e))
  show PySem.wpAt _ _ _ _ _ _ _
  refine wpAt_of_wpAny (wpAny_execs_cons (plainObj_wpAny_Assign_Attribute ?_ ?hs2))
  case hs2 => rfl
  refine wpAny_Name (wpAny_loadName_local X.kd eK hn4 mF ?_) X.kdb
  refine wpAny_Name (wpAny_loadName_local X.kd X.kse hn4 mS ?_) (by decide)
  refine PySem.W.set_plain K4 (ox := HandSPX.excO C t4) (od := none) ⟨e4, rfl, rfl, trivial⟩ T.sa ?_
  refine PySem.HandSPX.exc_osa K4 e4 hcl (show PySem.HandSPX.refsVE (.ref C :: bm) = true from hbm) rfl X.fno (fun h' tk' dx k dn dne hx hn => ?_)
  have old : ∀ b o, b ≠ x → hp.get? b = some o → h4.get? b = some o := fun b o n e => k4 b o n (kk3 _ _ e)
  have hs0 : hp.objs.size ≤ dx := by
    obtain ⟨o, _, _, ho, _⟩ := hn4
    exact Nat.le_trans (Nat.le_of_lt (Heap.lt_size ho)) dn
  have hn5 : h'.Ns hp.objs.size (fun y => (List.reverse [(("self" : Str), Value.ref x), (F, u), (F2, u2)]).lookup y) := by
    obtain ⟨o, es, ep, ho, r⟩ := hn4
    exact ⟨o, es, ep, k _ _ hL ho, r⟩
  have K5 : K.In h' := fun b o e => k b o (fun z => by
    rw [z, hxK] at e
    cases e) (K4 b o e)
  refine wpAny_execs_cons (plainObj_wpAny_Assign_Attribute ?_ ?hs3)
  case hs3 => rfl
  refine wpAny_Name (wpAny_loadName_local X.kd eK2 hn5 mF2 ?_) X.kdb2
  refine wpAny_Name (wpAny_loadName_local X.kd X.kse hn5 mS ?_) (by decide)
  obtain ⟨oD, esD, epD, hoD, rD⟩ := id hn
  refine PySem.W.set_plain K5 (od := some oD) ⟨hx, rfl, rfl, hoD⟩ T.sa ?_
  refine PySem.OEX.osa_old K5 hx hn (Within.cons F u Within.nil) (by show 1 ≤ 1000; omega) hcl (show PySem.HandSPX.refsVE (.ref C :: bm) = true from hbm) rfl X.fno2 (fun h6 tk6 k6 hn6 => ?_)
  exact wpAny_execs_nil (hq h6 t4 tk6 dx (fun b o n e => k6 b o (fun z => by
    have y := Heap.lt_size e
    rw [z] at y
    exact absurd y (Nat.not_lt.mpr hs0)) (k b o n (old b o n e))) hs0 dne (k6 x _ (fun z => dne z.symm) hx) hn6)
end
end DX
namespace L2
open PySem PySem.Spec PyProof.Rows
/-- what shows itself in the text -/
def ShV (v : V) : Prop := (∃ y : Str, v = .str y ∧ y.length ≤ 1000000) ∨ ∃ i : Int, v = .int i ∧ i.natAbs.log2 < 1920 ∧ (toString i : Str).length ≤ 1000000
theorem ShV.to {v : V} {u : Value} (h : ShV v) (r : RelV v u) : ∃ y, DX.Shw u y := by
  rcases h with ⟨y, rfl, hy⟩ | ⟨i, rfl, hi, hz⟩
  · obtain ⟨t, rfl⟩ := r
    exact ⟨y, hy, .inl ⟨t, rfl⟩⟩
  · obtain ⟨t, rfl⟩ := r
    exact ⟨_, hz, .inr ⟨i, t, rfl, hi, rfl⟩⟩
/-- C(e1, e2), C's own __init__ showing both in the text and storing both -/
def tMkX2 (C : Addr) (F F2 : Str) (ta : TA) : St → Hp → XK → Prop := fun σ H Q => ta σ H fun vs H1 => ∃ v v2, vs = [v, v2] ∧ ShV v ∧ ShV v2 ∧ ∀ d, H1 d = none → Q (.ref C) (some d) (upd H1 d (.xd [(F2, v2), (F, v)]))
section
variable {X : Cx} {e f : Expr} {ta : TA} {p pos : Pos} {x : Str} {C fI cc cda : Addr} {F F2 pre mid : Str} {fd : FuncData}
theorem pmk_x2 (T : OexC X.K C) (XI : DX.Xi2 X.prog X.K C fI F F2 pre mid fd cc cda) (hpre : pre.length ≤ 1000) (hmid : mid.length ≤ 1000) (hr : X.A.depth + 1 < recursionLimit) (hg : Gl X x) (hm : X.mg x = some (.ref C)) (ha : PA X [e, f] ta)
    (hdb : (x == ("__debug__" : Str)) = false := by decide) (hpl : (backTo pos (starEach [f] X.env)).any (·.1) = false := by rfl) (he : starEach [e, f] X.env = (false, eval e X.env) :: starEach [f] X.env := by rfl) :
    PMk X (.Call (.Name x p) [e, f] [] pos) (tMkX2 C F F2 ta) := by
  intro pins s σ H Q I h
  obtain ⟨nm, q, N, bs, bm, sn, sub, ab, col, dd, k0, k1, k2, k3, k5, hC, hbm⟩ := T.cls
  refine wpAny_Call_Name_kw (ld_glob I hg hm ?_ hdb)
  refine PySem.W.callWith_K (h₀ := X.base) I.ok.mod.kin T.kC (thn (ha.run pos pins s σ H _ I h) fun us s1 ⟨vs, H1, I1, r1, hz⟩ => ⟨I1.kIn, ?_⟩) he hpl
  obtain ⟨v, v2, rfl, tx, tx2, q1⟩ := hz
  obtain ⟨u, u2, rfl, rv, rv2⟩ : ∃ u u2, us = [u, u2] ∧ RelV v u ∧ RelV v2 u2 := by
    cases r1 with
    | cons r rest =>
      cases rest with
      | cons r2 rest =>
        cases rest
        exact ⟨_, _, rfl, r, r2⟩
  obtain ⟨y, sy⟩ := tx.to rv
  obtain ⟨y2, sy2⟩ := tx2.to rv2
  show wpAny _ _ (call (.ref C) [u, u2]) _ _ _
  obtain ⟨hp, g, dr, tk, os⟩ := s1
  have hsz : hp.objs.size ≤ hp.objs.size + 1 := Nat.le_succ _
  have hn : H1 (hp.objs.size + 1) = none := I1.hok.fresh hsz
  have kk : ∀ b o, hp.get? b = some o → ((hp.push (PySem.W.kdv_tup [u, u2])).push (PySem.HandSPX.excO C hp.objs.size)).get? b = some o := fun b o e => Heap.get?_push_of_some _ (Heap.get?_push_of_some _ e)
  have hget : ((hp.push (PySem.W.kdv_tup [u, u2])).push (PySem.HandSPX.excO C hp.objs.size)).get? (hp.objs.size + 1) = some (PySem.HandSPX.excO C hp.objs.size) := by heap_get
  have I2 : Inv X pins σ (upd H1 (hp.objs.size + 1) (exo (hp.objs.size + 1) C none)) ⟨(hp.push (PySem.W.kdv_tup [u, u2])).push (PySem.HandSPX.excO C hp.objs.size), g, dr, tk, os⟩ :=
    I1.laid (t' := tk) (a := hp.objs.size + 1) (o := exo (hp.objs.size + 1) C none) (h' := (hp.push (PySem.W.kdv_tup [u, u2])).push (PySem.HandSPX.excO C hp.objs.size)) kk hsz (exo_ok hget)
  obtain ⟨mb, bn, bb⟩ := I1.mod.blt
  have xK : X.K.lookup (hp.objs.size + 1) = none := by
    cases hz : X.K.lookup (hp.objs.size + 1) with
    | none => rfl
    | some o =>
      have y := Heap.lt_size (I1.kIn _ _ hz)
      exact absurd y (Nat.not_lt.mpr (Nat.le_succ _))
  refine wpAny_call (PySem.HandSPX.call_own PySem.F.excBase_ValueError (fun Y => PySem.HandSPX.refsVE_contains Y bm hbm) (I1.kIn _ _ hC) (PySem.W.looks_findIn I1.kIn XI.ini) (fun self => PySem.W.bind_fn I1.kIn self XI.ti) (by rw [sizeLine_eq]; show 2 ≤ _; omega)
    (DX.init_raw2 (mg := X.mg) (mb := mb) XI T ?_ I2.kIn ((I1.mod.glob.keeps I1.bk).keeps kk) ((bn.keeps I1.bk).keeps kk) bb ((I1.mod.nolimit.keeps I1.bk).keeps kk) hget sy sy2 hpre hmid xK fun h' t1 t2 dx k hd hne hx hns => ?_))
  · rw [make_depth]; omega
  · have hc1 : upd H1 (hp.objs.size + 1) (exo (hp.objs.size + 1) C none) (hp.objs.size + 1) = some (exo (hp.objs.size + 1) C none) := upd_same
    have hsz2 : ((hp.push (PySem.W.kdv_tup [u, u2])).push (PySem.HandSPX.excO C hp.objs.size)).objs.size ≤ dx := hd
    have hlt : hp.objs.size ≤ dx := Nat.le_trans (by simp [Heap.push]; omega) hsz2
    have nd1 : H1 dx = none := I1.hok.fresh hlt
    have hnd : upd H1 (hp.objs.size + 1) (exo (hp.objs.size + 1) C none) dx = none := by rw [upd_ne hne]; exact nd1
    have nd : ∀ {b : Addr} {o : Obj}, ((hp.push (PySem.W.kdv_tup [u, u2])).push (PySem.HandSPX.excO C hp.objs.size)).get? b = some o → b ≠ dx := fun {b o} q => Nat.ne_of_lt (Nat.lt_of_lt_of_le (Heap.lt_size q) hd)
    generalize hH : upd H1 (hp.objs.size + 1) (exo (hp.objs.size + 1) C none) = H2 at I2 hc1 hnd
    generalize hP : (hp.push (PySem.W.kdv_tup [u, u2])).push (PySem.HandSPX.excO C hp.objs.size) = hp2 at *
    have na : ∀ {b : Addr}, H2 b = none → b ≠ hp.objs.size + 1 := fun {b} n z => by
      rw [z, hc1] at n
      cases n
    have Un1 : Un (frs X.stack) [] H2 (upd (upd H2 dx (exd dx [(F2, v2), (F, v)])) (hp.objs.size + 1) (exo (hp.objs.size + 1) C (some dx))) hp2 h' := {
      keep := fun b o q n _ _ => k b o (na n) q
      slot := fun b o q n _ _ => ⟨o.slots, k b o (na n) q⟩
      free := fun b o q n _ => by rw [upd_ne (na n), upd_ne (nd q)]; exact n
      there := fun b o q _ => by
        by_cases hb : b = hp.objs.size + 1
        · exact ⟨_, by rw [hb]; exact hx⟩
        · exact ⟨o, k b o hb q⟩
      tups := fun b xs q => by rw [upd_ne (at_ne hc1 q exo_tup), upd_ne (ne_of_none q hnd)]; exact q
      frzs := fun b o v q => by rw [upd_ne (at_ne hc1 q exo_frz), upd_ne (ne_of_none q hnd)]; exact q
      tbls := fun b ps q => ⟨#[], by rw [upd_ne (at_ne hc1 q exo_tbl), upd_ne (ne_of_none q hnd), q]; simp⟩ }
    have hok2 : HOk X.prog X.w (upd (upd H2 dx (exd dx [(F2, v2), (F, v)])) (hp.objs.size + 1) (exo (hp.objs.size + 1) C (some dx))) h' := fun b o q => by
      by_cases hb : b = hp.objs.size + 1
      · subst hb
        rw [upd_same] at q
        cases q
        exact exo_ok hx
      · rw [upd_ne hb] at q
        by_cases hd : b = dx
        · subst hd
          rw [upd_same] at q
          cases q
          exact exd_ok hns (relO_put (fs := [(F, v)]) rv2 (relO_put (fs := []) rv fun g => True.intro))
        · rw [upd_ne hd] at q
          exact (I2.hok b o q).stay (fun c v hc z => k c v (by
              rcases hc with hc | hc
              · rw [hc]
                exact hb
              · exact at_ne hc1 hc exo_own) z)
            (fun c hc => by rw [upd_ne (at_ne hc1 hc exo_own), upd_ne (ne_of_none hc hnd)]; exact hc) (fun c xs hc => by rw [upd_ne (at_ne hc1 hc exo_tup), upd_ne (ne_of_none hc hnd)]; exact hc)
    have ea : upd (upd H2 dx (exd dx [(F2, v2), (F, v)])) (hp.objs.size + 1) (exo (hp.objs.size + 1) C (some dx)) (hp.objs.size + 1) = some (exo (hp.objs.size + 1) C (some dx)) := upd_same
    have ed : upd (upd H2 dx (exd dx [(F2, v2), (F, v)])) (hp.objs.size + 1) (exo (hp.objs.size + 1) C (some dx)) dx = some (exd dx [(F2, v2), (F, v)]) := by rw [upd_ne hne, upd_same]
    have eq : upd (del (upd (upd H2 dx (exd dx [(F2, v2), (F, v)])) (hp.objs.size + 1) (exo (hp.objs.size + 1) C (some dx))) (hp.objs.size + 1)) dx (.xd [(F2, v2), (F, v)]) = upd H1 dx (.xd [(F2, v2), (F, v)]) := by
      funext b
      by_cases hb : b = dx
      · rw [hb, upd_same, upd_same]
      · rw [upd_ne hb, upd_ne hb]
        by_cases hc : b = hp.objs.size + 1
        · rw [hc, del_same]; exact hn.symm
        · rw [del_ne hc, upd_ne hc, upd_ne hb, ← hH, upd_ne hc]
    refine ⟨rfl, mk_end (raises_own T.exC T.tyC) I1 hsz kk (by rw [hH]; exact Un1) hok2 rfl I2.bare ea ed nd1 ?_⟩
    rw [eq]
    exact q1 dx nd1
end
end L2
set_option Elab.async false
set_option linter.all false
set_option maxRecDepth 100000
set_option maxHeartbeats 4000000
/-! DX4: the check of a class with an __init__ of two parameters. -/
namespace DX
open PySem PySem.W PySem.Spec PySem.Calls PyProof.Rows
/-- the text of an __init__ of two -/
def bodyX2 (F F2 : Str) : FuncBody → Option (Str × Str)
  | .stmts [.Expr (.Call (.Attribute (.Call (.Name s _) [] [] _) n p2) [.JoinedStr [.Constant (.str pre) _ _, .FormattedValue (.Name g _) c none _, .Constant (.str mid) _ _, .FormattedValue (.Name h _) c2 none _] _] [] p7) _, .Assign [.Attribute (.Name se _) f _] (.Name g2 _) _, .Assign [.Attribute (.Name te _) f2 _] (.Name h2 _) _] =>
    if s = "super" ∧ n = "__init__" ∧ g = F ∧ c = -1 ∧ se = "self" ∧ f = F ∧ g2 = F ∧ h = F2 ∧ c2 = -1 ∧ te = "self" ∧ f2 = F2 ∧ h2 = F2 ∧ sLine p2 p7 = true ∧ pre.length ≤ 1000 ∧ mid.length ≤ 1000 then some (pre, mid) else none
  | _ => none
theorem bodyX2_ok {F F2 pre mid : Str} {b : FuncBody} (h : bodyX2 F F2 b = some (pre, mid)) : pre.length ≤ 1000 ∧ mid.length ≤ 1000 ∧ ∃ p0 p1 p2 p3 p4 p5 p6 p7 p8 p9 p10 p11 p12 q1 r3 r4 r5 r9 r10 r11 r12 q2, b = .stmts [.Expr (.Call (.Attribute (.Call (.Name "super" p0) [] [] p1) "__init__" p2) [.JoinedStr [.Constant (.str pre) q1 p3, .FormattedValue (.Name F p4) (-1) none p5, .Constant (.str mid) q2 r3, .FormattedValue (.Name F2 r4) (-1) none r5] p6] [] p7) p8, .Assign [.Attribute (.Name "self" p9) F p10] (.Name F p11) p12, .Assign [.Attribute (.Name "self" r9) F2 r10] (.Name F2 r11) r12] ∧ (p2.endLine == p7.line) = true := by
  unfold bodyX2 at h
  split at h
  · split at h
    · rename_i q
      obtain ⟨rfl, rfl, rfl, rfl, rfl, rfl, rfl, rfl, rfl, rfl, rfl, rfl, hl, hz, hz2⟩ := q
      cases h
      exact ⟨hz, hz2, _, _, _, _, _, _, _, _, _, _, _, _, _, _, _, _, _, _, _, _, _, _, rfl, hl⟩
    · cases h
  · cases h
def parX2 (F F2 : Str) : Arguments → Bool
  | ⟨[], [a, b, c], none, [], [], none, []⟩ => decide (a.arg = "self") && decide (b.arg = F) && decide (c.arg = F2)
  | _ => false
theorem bindX2 {F F2 : Str} {fd : FuncData} (hF : F ∈ (["reason", "number", "token", "place"] : List Str)) (hF2 : F2 ∈ (["reason", "number", "token", "place"] : List Str)) (hne : F2 ≠ F) (hp : parX2 F F2 fd.params = true) (hd : nonV fd.defaults = true) : ∀ us : List Value, us.length = 3 → bindArgs fd ⟨us, []⟩ = pure ([("self" : Str), F, F2].zip us) := by
  intro us hl
  match us, hl with
  | [a, b, c], _ =>
    obtain ⟨nm, qn, ps, bd, sc, gl, cl, df, kd, doc, pm, an, cd, ct, bl⟩ := fd
    unfold parX2 at hp
    dsimp only at hp hd
    split at hp
    · rename_i x y z
      rw [Bool.and_eq_true, Bool.and_eq_true, decide_eq_true_eq, decide_eq_true_eq, decide_eq_true_eq] at hp
      obtain ⟨x1, x2, x3⟩ := x
      obtain ⟨y1, y2, y3⟩ := y
      obtain ⟨z1, z2, z3⟩ := z
      dsimp only at hp
      obtain ⟨⟨rfl, rfl⟩, rfl⟩ := hp
      cases df <;> first | cases hd | skip
      simp only [List.mem_cons, List.not_mem_nil, or_false] at hF hF2
      rcases hF with rfl | rfl | rfl | rfl <;> rcases hF2 with rfl | rfl | rfl | rfl <;> first | exact absurd rfl hne | rfl
    · cases hp
def fnX2 (K : Frag) (fl : Str) (C : Addr) (F F2 : Str) (fd : FuncData) : Bool := (bodyX2 F F2 fd.body).isSome && parX2 F F2 fd.params && nonV fd.defaults && scX F fd.scope && decide (fd.scope.names.lookup F2 = some .local) && decide (fd.globals = mainGlobals) && decide (fd.builtins = builtinsNs) && (match fd.closure, fd.code with
  | [(n, cc)], .ref cda => decide (n = "__class__") && cellX K cc C && codeX K cda fl && codeIn K (.ref cda) fd.qualname
  | _, _ => false)
def xiB2 (K : Frag) (fl : Str) (C : Addr) (F F2 : Str) : Bool := oexB K C && clsX K C F && He.eqO (findIn K (.ref C) F2) (some none) && (match findIn K (.ref C) "__init__" with
  | some (some (.ref fI)) => decide (typeIn K (.ref fI) = some (.type "function")) && (match K.lookup fI with
    | some ⟨_, _, .func fd, _⟩ => fnX2 K fl C F F2 fd
    | _ => false)
  | _ => false)
theorem xiB2_ok {P : Program} {K : Frag} {fl F F2 : Str} {C : Addr} (h : xiB2 K fl C F F2 = true) (hF2 : F2 ∈ (["reason", "number", "token", "place"] : List Str)) (hne : F2 ≠ F) (hF : F ∈ (["reason", "number", "token", "place"] : List Str)) (hfl : P.main.file = fl) (ht : (P.main.scope.names.lookup ("super" : Str)).isSome = false) :
    ∃ fI pre mid fd cc cda, L2.OexC K C ∧ Xi2 P K C fI F F2 pre mid fd cc cda ∧ pre.length ≤ 1000 ∧ mid.length ≤ 1000 := by
  subst hfl
  unfold xiB2 at h
  simp only [Bool.and_eq_true] at h
  obtain ⟨⟨⟨h1, h2⟩, hf2⟩, h3⟩ := h
  have T := oexB_ok h1
  unfold clsX at h2
  simp only [Bool.and_eq_true, decide_eq_true_eq] at h2
  obtain ⟨⟨⟨⟨⟨s1, s2⟩, s3⟩, s4⟩, s5⟩, s6⟩ := h2
  split at h3
  · rename_i fI hi
    rw [Bool.and_eq_true, decide_eq_true_eq] at h3
    obtain ⟨t1, h3⟩ := h3
    split at h3
    · rename_i oc od fd osl lk
      unfold fnX2 at h3
      simp only [Bool.and_eq_true, decide_eq_true_eq] at h3
      obtain ⟨⟨⟨⟨⟨⟨⟨f1, f2⟩, f3⟩, f4⟩, f4b⟩, f5⟩, f6⟩, f7⟩ := h3
      obtain ⟨⟨pre, mid⟩, hb⟩ := Option.isSome_iff_exists.mp f1
      obtain ⟨hz, hz2, hbody⟩ := bodyX2_ok hb
      split at f7
      · rename_i n cc cda hcl hcd
        simp only [Bool.and_eq_true, decide_eq_true_eq] at f7
        obtain ⟨⟨⟨rfl, g1⟩, g2⟩, g3⟩ := f7
        unfold scX at f4
        simp only [Bool.and_eq_true, decide_eq_true_eq, Bool.not_eq_true'] at f4
        obtain ⟨⟨⟨⟨⟨⟨⟨c1, c2⟩, c3⟩, c4⟩, c5⟩, c6⟩, c7⟩, c8⟩ := f4
        refine ⟨fI, pre, mid, fd, cc, cda, T, ?_, hz, hz2⟩
        exact {
          ini := hi
          ti := t1
          lk := ⟨_, _, _, lk⟩
          body := hbody
          cl := hcl
          cd := hcd
          gl := f5
          bl := f6
          hcd := g3
          bd := bindX2 hF hF2 hne f2 f3
          cell := by
            unfold cellX at g1
            split at g1
            · rename_i C' _ e
              obtain rfl := of_decide_eq_true g1
              exact ⟨_, _, _, e⟩
            · cases g1
          code := by
            unfold codeX at g2
            split at g2
            · rename_i vs _ e
              split at g2
              · rename_i file tf e2
                exact ⟨_, _, _, _, _, _, e, e2, g2⟩
              · cases g2
            · cases g2
          top := ht
          sup := He.eqO_ok s1
          subB := s2
          opq := He.eqO_ok s3
          nm := He.eqO_ok s4
          mro := s5
          fno := He.eqO_ok s6
          fno2 := He.eqO_ok hf2
          par := by
            unfold parX2 at f2
            split at f2
            · rename_i a b c e
              rw [Bool.and_eq_true, Bool.and_eq_true, decide_eq_true_eq] at f2
              rw [e]
              exact ⟨a, rfl, f2.1.1⟩
            · cases f2
          ksu := c1
          kcl := c2
          kse := c3
          kF := c4
          kF2 := f4b
          kne := hne
          ksl2 := fun e => by rw [e] at hF2; revert hF2; decide
          kdb2 := by
            simp only [List.mem_cons, List.not_mem_nil, or_false] at hF2
            rcases hF2 with rfl | rfl | rfl | rfl <;> decide
          ksl := fun e => by rw [e] at hF; revert hF; decide
          kdb := by
            simp only [List.mem_cons, List.not_mem_nil, or_false] at hF
            rcases hF with rfl | rfl | rfl | rfl <;> decide
          kc := fun x hx => of_decide_eq_true (List.all_eq_true.mp c5 x hx)
          co := c6
          gen := c7
          kd := c8 }
      · cases f7
    · cases h3
  · cases h3
end DX
set_option Elab.async false
set_option linter.all false
set_option maxRecDepth 100000
set_option maxHeartbeats 4000000
/-! DV: t[::-1] of tuples and lists. -/
namespace L2
open PySem PySem.Spec PyProof.Rows HT
section
variable {prog : Program} {w : World} {A : Around} {E : Value → Shared → Prop} {s : Shared}
theorem places_back (n : Nat) : Builtin.Slice.slicePlaces ((n : Int) - 1) (-1) (-1) = n := by
  have e0 : ¬ ((-1 : Int) > 0) := by omega
  have e1 : (-(-1 : Int)) = 1 := by omega
  unfold Builtin.Slice.slicePlaces
  rw [if_neg e0, e1]
  split <;> omega
theorem applied_back {sl : Addr} {vl vu vs : Value} {n : Nat} {Q : Int × Int × Nat → Shared → Prop} (hs : s.heap.IsSliceOf sl vl vu vs) (pl : IsPart vl none) (pu : IsPart vu none) (ps : IsPart vs (some (-1)))
    (h : Q ((n : Int) - 1, -1, n) s) : wpAny (model prog w) A (Builtin.Slice.sliceApplied (.ref sl) (pure (n : Int))) Q E s := by
  obtain ⟨o1, ho1, hc1, hd1⟩ := id hs
  unfold Builtin.Slice.sliceApplied Builtin.Slice.sliceFields
  refine wpAny_bind (wpAny_bind (wpAny_field ho1 hd1 (x := vl) rfl (wpAny_bind (wpAny_field ho1 hd1 (x := vu) rfl (wpAny_bind (wpAny_field ho1 hd1 (x := vs) rfl (wpAny_pure ?_)))))))
  refine wpAny_bind (slicePart_ ps ?_)
  show wpAny _ _ (if ((-1 : Int) == 0) = true then _ else _) _ _ s
  rw [if_neg (by decide)]
  refine wpAny_bind (slicePart_ pl (wpAny_bind (slicePart_ pu (wpAny_bind (wpAny_pure ?_)))))
  show wpAny _ _ (pure ((n : Int) - 1, (-1 : Int), Builtin.Slice.slicePlaces ((n : Int) - 1) (-1) (-1))) _ _ s
  rw [places_back]
  exact wpAny_pure h
theorem fm_same {α : Type} {f g : Nat → Option α} : ∀ {l : List Nat}, (∀ m ∈ l, f m = g m) → l.filterMap f = l.filterMap g
  | [], _ => rfl
  | a :: r, h => by
    rw [List.filterMap_cons, List.filterMap_cons, h a List.mem_cons_self, fm_same fun m hm => h m (List.mem_cons_of_mem _ hm)]
theorem fm_all {α : Type} : ∀ (ys : List α), (List.range ys.length).filterMap (fun m => ys[m]?) = ys
  | [] => rfl
  | y :: ys => by
    rw [List.length_cons, List.range_succ_eq_map, List.filterMap_cons, List.filterMap_map]
    show y :: (List.range ys.length).filterMap (fun m => (y :: ys)[m + 1]?) = y :: ys
    congr 1
    exact (fm_same fun m _ => List.getElem?_cons_succ).trans (fm_all ys)
theorem pick_back (xs : Array Value) : ((List.range xs.size).filterMap fun (m : Nat) => xs[((xs.size : Int) - 1 + (m : Int) * (-1)).toNat]?).toArray = xs.toList.reverse.toArray := by
  congr 1
  obtain ⟨l⟩ := xs
  have key : (List.range l.length).filterMap (fun (m : Nat) => l.toArray[((l.length : Int) - 1 + (m : Int) * (-1)).toNat]?) = (List.range l.length).filterMap fun m => l.reverse[m]? := by
    refine fm_same fun m hm => ?_
    have hm2 := List.mem_range.mp hm
    rw [List.getElem?_toArray, List.getElem?_reverse hm2]
    congr 1
    omega
  show (List.range l.length).filterMap (fun (m : Nat) => l.toArray[((l.length : Int) - 1 + (m : Int) * (-1)).toNat]?) = l.reverse
  rw [key]
  have := fm_all l.reverse
  rw [List.length_reverse] at this
  exact this
theorem getItem_tuple_back {t sl : Addr} {items : Array Value} {vl vu vs : Value} {Q : Value → Shared → Prop} (ht : IsTup s.heap t items) (hs : s.heap.IsSliceOf sl vl vu vs) (pl : IsPart vl none) (pu : IsPart vu none) (ps : IsPart vs (some (-1)))
    (h : Q (.ref s.heap.objs.size) { s with heap := s.heap.push { cls := .type "tuple", data := .seq items.toList.reverse.toArray } }) (hsz : items.size ≤ sizeLine) : wpAny (model prog w) A (getItem (.ref t) (.ref sl)) Q E s := by
  have fits : sizeOk (.seq items.toList.reverse.toArray) := by
    show items.toList.reverse.toArray.size ≤ sizeLine
    simpa using hsz
  obtain ⟨o1, ho1, hc1, hd1⟩ := id hs
  have hT1 : s.TypeIs (.ref sl) "slice" := ⟨o1, ho1, hc1⟩
  unfold getItem
  try with_reducible refine wpAny_holding ?_
  first | refine wpAny_bind (wpAny_pure ?_) | skip
  refine wpAny_bind (wpAny_sequenceKey ht.typeIs (by decide) ?_)
  refine wpAny_bind (wpAny_callSpecial?_slot (name := Str.ofString "__getitem__") ht.typeIs PyProof.Rows.slot_tuple_getitem (wpAny_call_entry PyProof.Rows.slot_tuple_getitem ht.typeIs entry_tuple_getitem ?_ (args_tuple_getitem _ _)))
  show wpAny _ _ (Builtin.Tuple.tupleItemsOf (.ref t) >>= _) _ _ s
  refine wpAny_bind (tupleItemsOf_ ht (wpAny_bind (wpAny_typeOf hT1 ?_)))
  rw [if_pos (by decide)]
  refine wpAny_bind (applied_back hs pl pu ps ?_)
  have hno : ¬ ((((items.size : Int) - 1) == 0 && (-1 : Int) == 1 && items.size == items.size) = true) := by
    rw [show ((-1 : Int) == 1) = false by decide]
    simp
  show wpAny _ _ (if (((items.size : Int) - 1) == 0 && (-1 : Int) == 1 && items.size == items.size) = true then _ else _) _ _ s
  rw [if_neg hno, pick_back]
  first
    | exact wpAny_bind (m := Builtin.Tuple.tupleExact _) (wpAny_newObj_type (wpAny_pure ⟨_, rfl, wpAny_pure h⟩) fits)
    | exact wpAny_bind (m := Builtin.Tuple.tupleExact _) (wpAny_newObj_type (wpAny_bind (wpAny_pure (wpAny_pure ⟨_, rfl, wpAny_pure h⟩))) fits)
    | exact wpAny_bind (wpAny_bind (m := Builtin.Tuple.tupleExact _) (wpAny_newObj_type (wpAny_pure (wpAny_pure ⟨_, rfl, wpAny_pure h⟩)) fits))
    | exact wpAny_bind (wpAny_bind (m := Builtin.Tuple.tupleExact _) (wpAny_newObj_type (wpAny_pure ⟨_, rfl, wpAny_pure h⟩) fits))
end
section
variable {X : Cx}
/-- a[::-1] of a list or a tuple -/
def tBack (K : PySem.W.Frag) (te : TE) : TE := fun σ H Q => te σ H fun x H1 => ∃ a xs, x = .ref a ∧ ((SqL K H1 a xs ∧ ∀ p, H1 p = none → Q (.ref p) (upd H1 p (.lst xs.reverse))) ∨ (SqT K H1 a xs ∧ ∀ p o, H1 p = none → o.dict = none → Q (.ref p) (upd H1 p (.frz o (.tup xs.reverse)))))
theorem pe_back {e : Expr} {te : TE} {k : Nat} {p1 p2 p3 pos : Pos} (he : PE X e te) : PE X (.Subscript e (.Slice none none (some (.UnaryOp .USub (.Constant (.int 1) k p1) p2)) p3) pos) (tBack X.K te) := by
  refine ⟨fun pins s σ H Q I h => ?_⟩
  refine Subscript_ (thn (he.run pins s σ H _ I h) fun v s1 ⟨x, H1, I1, r1, q1⟩ => ?_)
  obtain ⟨a, xs, ex, hx⟩ := q1
  subst ex
  cases r1
  have step : PO X (some (.UnaryOp .USub (.Constant (.int 1) k p1) p2)) (tPart (tUn (rU fun i => .int (-i)) (tC (.int 1)))) := po_some (pe_un un_neg pe_int)
  refine wpAny_Slice (thn (po_none.run pins s1 σ H1 (fun o H2 => o = none ∧ H2 = H1) I1 ⟨rfl, rfl⟩) fun vl s2 ⟨l, H2, I2, pl, el, e2⟩ => ?_)
  subst el e2
  refine thn (po_none.run pins s2 σ H2 (fun o H3 => o = none ∧ H3 = H2) I2 ⟨rfl, rfl⟩) fun vu s3 ⟨u, H3, I3, pu, eu, e3⟩ => ?_
  subst eu e3
  refine thn (step.run pins s3 σ H3 (fun o H4 => o = some (-1) ∧ H4 = H3) I3 ⟨1, rfl, -1, rfl, rfl, rfl⟩) fun vs s4 ⟨o, H4, I4, ps, eo, e4⟩ => ?_
  subst eo e4
  have I5 : Inv X pins σ H4 { s4 with heap := s4.heap.push { cls := .type "slice", data := .fields #[vl, vu, vs] } } := I4.kept (t' := s4.toks) fun b ob q => Heap.get?_push_of_some _ q
  show wpAny (model X.prog X.w) X.A (subscriptTail e (.Slice none none (some (.UnaryOp .USub (.Constant (.int 1) k p1) p2)) p3) (.ref a) (.ref s4.heap.objs.size)) (EP X pins σ Q) X.xe { s4 with heap := s4.heap.push { cls := .type "slice", data := .fields #[vl, vu, vs] } }
  rcases hx with ⟨hx, q⟩ | ⟨hx, q⟩
  · obtain ⟨its, r, ht, hz⟩ := I5.list hx
    have hlen := r.length
    refine tail_any (ops := [.ref a, .ref s4.heap.objs.size]) ht.isList.typeIs (PySem.slot_list_getitem.lookup) ?_ (by with_unfolding_all rfl)
    refine wpAny_getItem_list_slice ht.isList (Heap.IsSliceOf.new _ vl vu vs) pl pu ps (by decide) ?_ (by rw [List.size_toArray]; omega)
    rw [PySem.W.krv_pick]
    exact ⟨.ref _, _, I5.laid (t' := s4.toks) (o := .lst xs.reverse) (fun b ob q => Heap.get?_push_of_some _ q) (Nat.le_refl _) ⟨by rw [List.length_reverse]; exact hz, _, 0, r.reverse, Heap.get?_push_size _ rfl⟩, rfl, q _ (I5.hok.fresh (Nat.le_refl _))⟩
  · obtain ⟨its, r, ht, hz⟩ := I5.tuple hx
    have hlen := r.length
    refine tail_any (ops := [.ref a, .ref s4.heap.objs.size]) ht.typeIs (PyProof.Rows.slot_tuple_getitem.lookup) ?_ (by with_unfolding_all rfl)
    refine getItem_tuple_back ht (Heap.IsSliceOf.new _ vl vu vs) pl pu ps ?_ (by rw [List.size_toArray]; omega)
    exact ⟨.ref _, _, DI.laidT (t' := s4.toks) I5 (fun b ob q => Heap.get?_push_of_some _ q) (Nat.le_refl _) (by simpa using r.reverse) (by rw [List.length_reverse]; exact hz) (Heap.get?_push_size _ rfl) rfl ⟨0, rfl⟩, rfl, q _ _ (I5.hok.fresh (Nat.le_refl _)) rfl⟩
end
end L2
set_option Elab.async false
set_option linter.all false
set_option maxRecDepth 100000
set_option maxHeartbeats 4000000
/-! DS: sorted(set(xs)) of a list of ints. -/
namespace DI
open PySem PySem.Spec PyProof.Rows L2
/-- a set as it is made -/
abbrev nS (w : World) : Obj := { cls := .type "set", dict := none, data := .set #[] 0 (.fresh 0 0 (!w.params.followText "set-order")) }
section
variable {P : Program} {w : World} {A : Around} {E : Value → Shared → Prop} {s : Shared}
abbrev memS (ns : List Int) : Int → Bool := fun j => decide (j ∈ ns)
set_option maxHeartbeats 6000000 in
theorem set_of_lst {p : Addr} {vs : Array Value} (ns : List Int) {Q : Value → Shared → Prop} (quiet : A.handled = none) (isl : s.heap.IsList p vs) (its : IntsAre vs.toList ns) (few : ns.length + 1 < scanBound)
    (fin : ∀ (hp : Heap) (tk c : Nat), SetR w hp s.heap.objs.size (memS ns) c → c ≤ ns.length → (∀ b o, s.heap.get? b = some o → hp.get? b = some o) → Q (.ref s.heap.objs.size) { s with heap := hp, toks := tk }) :
    wpAny (model P w) A (call (.type "set") [.ref p]) Q E s := by
  have eqn : vs.size = ns.length := by have := IntsAre.length its; rwa [Array.length_toList] at this
  obtain ⟨_, tl, hmro⟩ := F.called_set.mro
  have a1 := F.called_set.made
  have a2 := F.called_set.sub
  refine wpAny_call (codeAny_of_tree ?_)
  show wpAny _ _ (callAny (.type "set") _) _ _ _
  refine wpAny_pure ⟨Code.quiet_builtin _ (by decide +kernel), codeAny_builtin F.entry_type_call ?_⟩
  rw [Around.under_plain (weight_type_call_type "set" [.ref p] []) rfl]
  have a3 := F.called_set.notType
  have a4 := F.called_set.canCreate
  have a5 := F.typeCall_set_1 (.ref p)
  repeat (any_goals (first | assumption | wp_step))
  refine codeAny_mono (code_set_led1 (.ref p) (E := E) (Q₁ := fun ob z => ob = .ref s.heap.objs.size ∧ z = { s with heap := s.heap.push (nS w) }) ⟨rfl, rfl⟩) fun r1 z1 g1 => ?_
  rcases r1 with e | fl
  · exact g1
  cases fl with
  | ret ob =>
    obtain ⟨rfl, rfl⟩ := g1
    have b1 : (s.heap.push (nS w)).get? s.heap.objs.size = some (nS w) := Heap.get?_push_size _ rfl
    have b2 : Shared.TypeIs { s with heap := s.heap.push (nS w) } (.ref s.heap.objs.size) "set" := ⟨_, b1, rfl⟩
    have b3 := F.called_set.init.lookup
    have b4 := F.called_set.init.bind (.ref s.heap.objs.size)
    repeat (any_goals (first | assumption | wp_step))
    refine codeAny_mono (codeAny_call_builtin (R := wants (fun r2 z2 => r2 = .none ∧ ∃ hp tk c, z2 = { s with heap := hp, toks := tk } ∧ SetR w hp s.heap.objs.size (memS ns) c ∧ c ≤ ns.length ∧
        (∀ b o, s.heap.get? b = some o → hp.get? b = some o)) E) F.called_set.init.plain F.entry_set_init (check_set_init_1 b2 ?_)) fun r2 z2 g2 => ?_
    · obtain ⟨ob, c1, c2, n0, c3⟩ := isl
      obtain ⟨k1, k2, k3, k4⟩ := ob
      simp only at c2 c3
      subst c2; subst c3
      have c4 : (s.heap.push (nS w)).get? p = some { cls := .type "list", dict := k2, data := .seq vs n0, slots := k4 } := Heap.get?_push_of_some _ c1
      have c5 := F.sub_list_set
      have c6 := F.sub_list_frozenset
      have c7 : (Value.type "list" == Value.type "dict") = false := by decide
      have c8 : (s.heap.push (nS w)).IsList p vs := ⟨_, c4, rfl, n0, rfl⟩
      unfold Builtin.«set.__init__» noKeywords Builtin.Frozenset.updateFrom
      generalize hPI : pyIter = PI
      wp_walk
      subst hPI
      refine wpAny_pyIter_list c8 ?_
      refine wpAny_bind (wpAny_runValue ?_)
      have d1 : p < s.heap.objs.size := Heap.lt_size c1
      have d2 : A.in1.in1.in1.handled = none := by simp [quiet]
      have d3 : (s.heap.push (nS w)).objs.size = s.heap.objs.size + 1 := Heap.size_push ..
      have d4 : p ≠ (s.heap.push (nS w)).objs.size := by rw [d3]; exact Nat.ne_of_lt (Nat.lt_succ_of_lt d1)
      have d5 : s.heap.objs.size ∉ [(s.heap.push (nS w)).objs.size, p] := by
        rw [d3]
        intro z
        rcases List.mem_cons.1 z with z | z
        · exact Nat.ne_of_lt (Nat.lt_succ_self _) z
        · exact Nat.ne_of_gt d1 (List.mem_singleton.1 z)
      have d6 : ∀ (i : Nat) (v : Value), vs[i]? = some v → ∃ k t, ns[i]? = some k ∧ v = .int k t := fun i v hv => by
        have hi : i < ns.length := by rw [← eqn]; exact (Array.getElem?_eq_some_iff.mp hv).1
        obtain ⟨t, e⟩ := PyProof.Rows.IntsAre.int_at its i v (by rw [Array.getElem?_toList]; exact hv)
        exact ⟨ns[i], t, List.getElem?_eq_getElem hi, by rw [e, List.getD_eq_getElem?_getD, List.getElem?_eq_getElem hi] <;> rfl⟩
      refine set_update_ints ((Walks.list d2 _ p d4 vs).toS) s.heap.objs.size d5 ns eqn few d6 (vs.size - 0) 0 _ (by omega) (Nat.zero_le _) ⟨⟨_, Heap.get?_push_size _ rfl, rfl, rfl⟩, (c8.push _)⟩ ?_ ?_
      · exact ⟨0, Nat.le_refl 0, setR_new_at (Heap.get?_push_of_some _ b1)⟩
      · intro z3 c9 mv few2 R2
        obtain ⟨hp, g3, dr, tk, os⟩ := z3
        have e1 : g3 = s.gens := mv.gens
        have e2 : dr = s.drawn := mv.drawn
        have e3 : os = s.os := mv.os
        subst e1; subst e2; subst e3
        show wpAny _ _ _ _ _ _
        refine wpAny_pure ?_
        show wpAny _ _ (ret Value.none) _ _ _
        rw [eqn] at few2
        refine wpAny_pure ⟨rfl, hp, tk, c9, rfl, R2, few2, fun b o e => ?_⟩
        have f1 : b < s.heap.objs.size := Heap.lt_size e
        refine mv.heap b o (fun z => ?_) (Heap.get?_push_of_some _ (Heap.get?_push_of_some _ e))
        rcases List.mem_cons.1 z with z | z
        · exact Nat.ne_of_lt f1 z
        · have := List.mem_singleton.1 z
          rw [this, d3] at f1
          exact absurd f1 (Nat.not_lt.mpr (Nat.le_succ _))
    · rcases r2 with e | fl2
      · exact g2
      cases fl2 with
      | ret r3 =>
        obtain ⟨rfl, hp, tk, c, rfl, R2, few2, old⟩ := g2
        repeat (any_goals (first | assumption | wp_step))
        exact fin _ _ _ R2 few2 old
      | _ => exact g2.elim
  | _ => exact g1.elim
end
section
variable {X : Cx}
/-- set(xs), xs a list of ints -/
def rSetI (X : Cx) : List V → Hp → VK → Prop := fun xs H Q => ∃ (l : Addr) (ns : List Int), xs = [V.ref l] ∧ SqL X.K H l (ns.map V.int) ∧ ns.length ≤ 60 ∧ ∀ (a : Addr) (n : Nat), n ≤ ns.length → H a = none → Q (.ref a) (upd H a (SetO X.w a (memS ns) n))
theorem cr_setI (hc : X.calm = true) : CallR X (.type "set") (rSetI X) := by
  intro pins s σ H xs us Q I r h
  obtain ⟨l, ns, rfl, hl, hf, q⟩ := h
  rw [Vals.ref1 r]
  obtain ⟨its, rv, pl, hz⟩ := I.list hl
  have hn : H s.heap.objs.size = none := I.hok.fresh (Nat.le_refl _)
  have hi := ints_of_vals rv
  refine set_of_lst (P := X.prog) (w := X.w) ns (I.ok.hd hc) pl.isList (by simpa using hi) (by unfold scanBound; omega) fun h' tk c R fw old => ?_
  exact ⟨.ref s.heap.objs.size, upd H s.heap.objs.size (SetO X.w s.heap.objs.size (memS ns) c), I.laid (t' := tk) old (Nat.le_refl _) (setO_new R), rfl, q _ c fw hn⟩
theorem srs_eq {ns ms : List Int} (h : ms.Pairwise (· < ·)) (m : ∀ k : Int, k ∈ ms ↔ memS ns k = true) : ms = isort (ddI ns) := by
  refine isort_eq ?_ (h.imp fun h => Int.le_of_lt h)
  have nd1 : ms.Nodup := h.imp fun h => Int.ne_of_lt h
  have nd2 : (ddI ns).Nodup := ddI_nodup ns
  refine (List.perm_ext_iff_of_nodup nd1 nd2).2 fun k => ?_
  rw [m k, ddI_mem]
  simp
end
end DI
set_option Elab.async false
set_option linter.all false
set_option maxRecDepth 100000
set_option maxHeartbeats 4000000
/-! DI5: what is promised of the text of an expression; the steps. -/
namespace DI
open PySem PySem.Spec PyProof.Rows L2
/-! ### results -/
def RP {α : Type} (r : R α) (P : α → Store → Prop) (E : Xc → Store → Prop) : Prop := match r with
  | .ok a S => P a S
  | .err x S => E x S
  | .bad => False
theorem RP.bind {α β : Type} {r : R α} {f : α → Store → R β} {P : β → Store → Prop} {E : Xc → Store → Prop} (h : RP (r.bind f) P E) : RP r (fun a S => RP (f a S) P E) E := by
  cases r <;> exact h
theorem RP.imp {α : Type} {r : R α} {P P' : α → Store → Prop} {E E' : Xc → Store → Prop} (h : RP r P E) (p : ∀ a S, P a S → P' a S) (e : ∀ x S, E x S → E' x S) : RP r P' E' := by
  cases r with
  | ok a S => exact p a S h
  | err x S => exact e x S h
  | bad => exact h
theorem RP.opt {α : Type} {o : Option α} {S : Store} {P : α → Store → Prop} {E : Xc → Store → Prop} (h : RP (opt o S) P E) : ∃ a, o = some a ∧ P a S := by
  cases o with
  | none => exact False.elim h
  | some a => exact ⟨a, rfl, h⟩
/-! ### the setting -/
/-- names by numbers -/
structure Tb where
  fn : List (Str × Nat)
  fr : List Bool
  cl : List (Str × Nat)
  xc : List (Str × Nat)
  gl : List (Str × Nat)
  /-- exception classes of one parameter -/
  x1 : List Nat
  /-- of two -/
  x2 : List Nat
/-- an exception x of class and dict -/
def XRep (G : Gx) (W : Wd) (x : Xc) (cls : Value) (d : Option Addr) : Prop :=
  cls = .ref (G.xa x.c) ∧ x.c < G.nx ∧ ((x.fs = [] ∧ d = none) ∨ ∃ p us, x.fs ≠ [] ∧ d = some p ∧ W.F p = some (.xd us) ∧ FRep G W x.fs us)
theorem XRep.le {G : Gx} {W W' : Wd} {x : Xc} {cls : Value} {d : Option Addr} (w : Wle W W') (h : XRep G W x cls d) : XRep G W' x cls d := by
  obtain ⟨a, l, b⟩ := h
  refine ⟨a, l, ?_⟩
  rcases b with b | ⟨p, us, n, e, q, r⟩
  · exact .inl b
  · exact .inr ⟨p, us, n, e, w.F _ _ q, r.le w⟩
/-- what is fixed while a body runs -/
structure Ct where
  G : Gx
  T : Tb
  cl : Cl
  /-- the heap at the entry -/
  W0 : Wd
  H0 : Hp
  /-- the def hands back new objects -/
  rf : Bool
  /-- the exception at hand: where it is, its class, its dict -/
  ea : Option (Addr × Value × Option Addr)
  wx : WX
  /-- so many calls deep may it go -/
  lv : Nat
/-- the slots -/
structure Eok (C : Ct) (W : Wd) (H : Hp) (ρ : Ev) (σ : L2.St) : Prop where
  len : ρ.length = σ.length
  val : ∀ (i : Nat) (d : D), ρ[i]? = some (.val d) → ∃ v, σ[i]? = some (some v) ∧ Rep C.G W d v
  own : ∀ (i : Nat) (o : Ob), ρ[i]? = some (.own o) → ∃ p, σ[i]? = some (some (.ref p)) ∧ ObAt C.G W H p o ∧ W.F p = none ∧ (∀ k, k < W.n → p ≠ W.A k) ∧ C.H0 p = none ∧ obOf o.toD = some o
  dis : ∀ (i j : Nat) (o o' : Ob) (p : Addr), ρ[i]? = some (.own o) → ρ[j]? = some (.own o') → σ[i]? = some (some (.ref p)) → σ[j]? = some (some (.ref p)) → i = j
  exc : ∀ (i : Nat) (x : Xc), ρ[i]? = some (.exc x) → ∃ a cls d, C.ea = some (a, cls, d) ∧ σ[i]? = some (some (.ref a)) ∧ XRep C.G W x cls d
theorem Eok.mv {C : Ct} {W W' : Wd} {H H' : Hp} {ρ : Ev} {σ : L2.St} (e : Eok C W H ρ σ) (s : Stp W H W' H') : Eok C W' H' ρ σ where
  len := e.len
  val := fun i d h => let ⟨v, a, b⟩ := e.val i d h; ⟨v, a, b.le s.le⟩
  own := fun i o h => by
    obtain ⟨p, a, b, c, d, f⟩ := e.own i o h
    refine ⟨p, a, (b.mv fun u hu ht => s.keep p u hu d ht).le s.le, ?_, fun k hk z => ?_, f⟩
    · cases q : W'.F p with
      | none => rfl
      | some u =>
        rcases s.nF p (by rw [q]; simp) with z | z
        · exact absurd c z
        · exact absurd z b.some
    · by_cases hl : k < W.n
      · exact d k hl (by rw [z, s.le.A k hl])
      · have := s.nA k (Nat.not_lt.mp hl) hk
        rw [← z] at this
        exact b.some this
  dis := e.dis
  exc := fun i x h => let ⟨a, cls, d, e1, e2, e3⟩ := e.exc i x h; ⟨a, cls, d, e1, e2, e3.le s.le⟩
abbrev ErrK (C : Ct) (σ : L2.St) (W : Wd) (H : Hp) : Xc → Store → Prop := fun x S' => ∀ W' H' cls d, Stp W H W' H' → Sim C.G W' S' H' → XRep C.G W' x cls d → C.wx cls d σ H'
theorem ErrK.mv {C : Ct} {σ : L2.St} {W W' : Wd} {H H' : Hp} {x : Xc} {S : Store} (h : ErrK C σ W H x S) (s : Stp W H W' H') : ErrK C σ W' H' x S := fun W2 H2 cls d st => h W2 H2 cls d (s.trans st)
/-- a reading by what the text computes -/
def tG (C : Ct) {α β : Type} (r : Ev → Store → R α) (Pv : Wd → Hp → Hp → α → β → Prop) : L2.St → Hp → (β → Hp → Prop) → Prop := fun σ H Q =>
  ∃ W S ρ, Sim C.G W S H ∧ Eok C W H ρ σ ∧ RP (r ρ S) (fun a S' => ∀ W' H' v, Stp W H W' H' → Sim C.G W' S' H' → Pv W' H H' a v → Q v H') (ErrK C σ W H)
section
variable {C : Ct} {α β γ : Type} {r : Ev → Store → R α} {Pv : Wd → Hp → Hp → α → β → Prop} {W : Wd} {S : Store} {ρ : Ev} {σ : L2.St} {H : Hp}
theorem tG.bind {f : α → Store → R γ} {P : γ → Store → Prop} {K : β → Hp → Prop} (sim : Sim C.G W S H) (eok : Eok C W H ρ σ) (h : RP ((r ρ S).bind f) P (ErrK C σ W H))
    (k : ∀ W1 S1 H1 a v, Stp W H W1 H1 → Sim C.G W1 S1 H1 → Eok C W1 H1 ρ σ → Pv W1 H H1 a v → RP (f a S1) P (ErrK C σ W1 H1) → K v H1) : tG C r Pv σ H K :=
  ⟨W, S, ρ, sim, eok, h.bind.imp (fun a S1 q W1 H1 v st s1 pv => k W1 S1 H1 a v st s1 (eok.mv st) pv (q.imp (fun _ _ z => z) fun _ _ z => z.mv st)) fun _ _ z => z⟩
end
theorem _root_.L2.PE.imp {X : Cx} {e : Expr} {t t' : TE} (h : PE X e t) (w : ∀ σ H Q, t' σ H Q → t σ H Q) : PE X e t' := ⟨fun pins s σ H Q I q => h.run pins s σ H Q I (w σ H Q q)⟩
theorem _root_.L2.PT.imp {X : Cx} {e : Expr} {t t' : TT} (h : PT X e t) (w : ∀ σ H Q, t' σ H Q → t σ H Q) : PT X e t' := ⟨fun pins s σ H Q I q => h.run pins s σ H Q I (w σ H Q q)⟩
theorem _root_.L2.PW.imp {X : Cx} {e : Expr} {t t' : TT} (h : PW X e t) (w : ∀ σ H Q, t' σ H Q → t σ H Q) : PW X e t' := ⟨fun wh pins s σ H Q I q => h.run wh pins s σ H Q I (w σ H Q q)⟩
theorem _root_.L2.PA.imp {X : Cx} {e : List Expr} {t t' : TA} (h : PA X e t) (w : ∀ σ H Q, t' σ H Q → t σ H Q) : PA X e t' := ⟨fun pos pins s σ H Q I q => h.run pos pins s σ H Q I (w σ H Q q)⟩
/-- an expression; one that is only looked at; a test; several -/
abbrev tE (C : Ct) (fr : Bool) (c : Ex) : TE := tG C (ev C.cl c) (PostV C.G fr)
abbrev PB (C : Ct) : Wd → Hp → Hp → D → V → Prop := fun W _ H d v => BRep C.G W H d v
abbrev tB (C : Ct) (c : Ex) : TE := tG C (fun ρ S => bw c ρ S (ev C.cl c ρ S)) (PB C)
abbrev tT (C : Ct) (c : Tx) : TT := tG C (evT C.cl c) (fun _ _ _ a b => a = b)
abbrev tA (C : Ct) (es : Exs) : TA := tG C (evs C.cl es) (fun W _ _ ds vs => Reps C.G W ds vs)
section
variable {C : Ct} {X : Cx} {e : Expr} {c : Ex}
/-- a new object, frozen at once -/
theorem Fresh.fz {G : Gx} {W W' : Wd} {H H' : Hp} {S : Store} {d : D} {v : V} (h : Fresh G W' H H' d v) (st : Stp W H W' H') (sim : Sim G W' S H') : ∃ p u, v = .ref p ∧ H' p = some u ∧ Stp W H (W'.fz p u) H' ∧ Sim G (W'.fz p u) S H' ∧ Rep G (W'.fz p u) d v := by
  obtain ⟨p, o, rfl, q, r, f, n, z⟩ := h
  cases d with
  | lst xs =>
    cases q
    obtain ⟨vs, e, rr⟩ := r
    exact ⟨p, .lst vs, rfl, e, st.fzn z f, sim.fzn e (fun _ z => by cases z) f n, p, vs, rfl, upd_same, rr.le (.fz f)⟩
  | dic ks ds =>
    have q' : (if ks.length = ds.length then some (Ob.dic (ks.zip ds)) else none) = some o := q
    split at q'
    · rename_i l
      cases q'
      obtain ⟨us, e, rr⟩ := r
      have key : ∀ {ks : List Key} {ds : List D} {us : List (Key × V)}, ks.length = ds.length → KRep G W' (ks.zip ds) us → ∃ vs, us = ks.zip vs ∧ Reps G W' ds vs := by
        intro ks
        induction ks with
        | nil =>
          intro ds us l h
          cases ds with
          | nil => exact ⟨[], h, rfl⟩
          | cons _ _ => cases l
        | cons k ks ih =>
          intro ds us l h
          cases ds with
          | nil => cases l
          | cons d ds =>
            obtain ⟨v, t, e, r, h⟩ := h
            obtain ⟨vs, e2, r2⟩ := ih (by simpa using l) h
            exact ⟨v :: vs, by rw [e, e2]; rfl, v, vs, rfl, r, r2⟩
      obtain ⟨vs, e2, r2⟩ := key l rr
      exact ⟨p, .dK us, rfl, e, st.fzn z f, sim.fzn e (fun _ z => by cases z) f n, p, vs, rfl, l, by rw [← e2]; exact upd_same, r2.le (.fz f)⟩
    · cases q'
  | _ => cases q
theorem _root_.L2.PE.weakD {fr : Bool} (h : PE X e (tE C fr c)) : PE X e (tE C false c) := by
  cases fr with
  | false => exact h
  | true =>
    refine h.imp fun σ H Q ⟨W, S, ρ, sim, eok, q⟩ => ⟨W, S, ρ, sim, eok, q.imp (fun d S' k W' H' v st s pv => ?_) fun _ _ z => z⟩
    unfold PostV at pv
    split at pv
    · obtain ⟨_, _, _, _, st2, s2, r2⟩ := pv.fz st s
      exact k _ H' v st2 s2 (.of_rep r2 (.inl rfl))
    · exact k W' H' v st s (.of_rep pv (.inl rfl))
/-- looked at: no own slot -/
theorem _root_.L2.PE.lookD {fr : Bool} (h : PE X e (tE C fr c)) (n : ∀ i, c ≠ .var i) : PE X e (tB C c) := by
  refine h.imp fun σ H Q ⟨W, S, ρ, sim, eok, q⟩ => ⟨W, S, ρ, sim, eok, ?_⟩
  have e : bw c ρ S (ev C.cl c ρ S) = ev C.cl c ρ S := by
    unfold bw own?
    cases c <;> first | rfl | exact absurd rfl (n _)
  dsimp only at q
  rw [e] at q
  exact q.imp (fun d S' k W' H' v st s pv => k W' H' v st s pv.b) fun _ _ z => z
end
/-! ### calls -/
def FnG (G : Gx) (k : Nat) (f : Addr) (sp : Sp) : Prop :=
  ∀ (A : Around) (outer : List Env) (s : Shared) (H : Hp) (us : List Value) (vs : List V) (Q : VK) (E : XK), Room k A → A.guards = some [] → Env0 G.P G.w G.K G.mg G.base A outer s H → Vals vs us → sp vs H Q E →
    codeAny (model G.P G.w) A (.call (.ref f) ⟨us, []⟩) (CR (L2.CX G.P G.w) outer G.P G.w H s Q E) s
/-- what a def promises: as its text computes -/
def fsp (G : Gx) (cl : Cl) (fr : Bool) (f : Nat) : Sp := fun vs H Q E => ∃ W S ds, Sim G W S H ∧ Reps G W ds vs ∧
  RP (cl.fn f ds S) (fun d S' => ∀ W' H' v, Stp W H W' H' → Sim G W' S' H' → PostV G fr W' H H' d v → Q v H') fun x S' => ∀ W' H' cls d, Stp W H W' H' → Sim G W' S' H' → XRep G W' x cls d → E cls d H'
def Tb.frf (T : Tb) (f : Nat) : Bool := (T.fr[f]?).getD false
/-- builtin names that the program does not write over -/
def bltN : List Str := ["len", "int", "str", "tuple", "list", "dict", "set", "sorted", "sum", "min", "max", "repr", "isinstance", "range", "enumerate", "zip", "reversed", "any", "all", "bool", "ValueError"]
/-- the names of the fields of exceptions -/
def fldN : List Str := ["reason", "number", "token", "place"]
/-- a constant's value, as it stands in K -/
def GlOk (G : Gx) (u : Value) (d : D) : Prop := ∃ v : V, RelV v u ∧ ∀ W, Rep G W d v
structure Gok (C : Ct) : Prop where
  bn : ∀ x ∈ bltN, C.G.mg x = none
  fn : ∀ x f, (x, f) ∈ C.T.fn → C.G.mg x = some (.ref (C.G.fa f)) ∧ PySem.W.keepIn C.G.K (.ref (C.G.fa f)) = true
  fok : ∀ f, FnG C.G (3 * C.lv) (C.G.fa f) (fsp C.G C.cl (C.T.frf f) f)
  xc : ∀ x c, (x, c) ∈ C.T.xc → C.G.mg x = some (.ref (C.G.xa c)) ∧ PySem.W.keepIn C.G.K (.ref (C.G.xa c)) = true ∧ c < C.G.nx
  xe : ∀ c, c < C.G.nx → c ∉ C.T.x1 → c ∉ C.T.x2 → PySem.W.excIn C.G.K (C.G.xa c) [.type "ValueError", .type "Exception", .type "BaseException", .type "object"] "ValueError.__new__" = true
  xi : ∀ c, c < C.G.nx → c ∈ C.T.x1 → ∃ F fI pre fd cc cda, OexC C.G.K (C.G.xa c) ∧ DX.Xi C.G.P C.G.K (C.G.xa c) fI F pre fd cc cda ∧ pre.length ≤ 1000 ∧ ∀ ds fs, C.cl.xmk c ds = some fs → ∃ d, ds = [d] ∧ txtD d = true ∧ fs = [(F, d)]
  x2 : ∀ c, c < C.G.nx → c ∈ C.T.x2 → ∃ F F2 fI pre mid fd cc cda, OexC C.G.K (C.G.xa c) ∧ DX.Xi2 C.G.P C.G.K (C.G.xa c) fI F F2 pre mid fd cc cda ∧ pre.length ≤ 1000 ∧ mid.length ≤ 1000 ∧ ∀ ds fs, C.cl.xmk c ds = some fs → ∃ d d2, ds = [d, d2] ∧ txtD d = true ∧ txtD d2 = true ∧ fs = [(F2, d2), (F, d)]
  xv : ∀ c, c < C.G.nx → PySem.W.kitOne C.G.K (.ref (C.G.xa c)) (.type "ValueError") = some true
  xn : ∀ c f, c < C.G.nx → f ∈ fldN → PySem.W.findIn C.G.K (.ref (C.G.xa c)) f = some none
  xk : ∀ c, c < C.G.nx → PySem.W.subIn C.G.K (.ref (C.G.xa c)) (.type "BaseException") = some true ∧ PySem.W.typeIn C.G.K (.ref (C.G.xa c)) = some (.type "type") ∧ ExcC C.G.K (C.G.xa c)
  xs : ∀ c e, c < C.G.nx → e < C.G.nx → PySem.W.exmOne C.G.K (.ref (C.G.xa c)) (.ref (C.G.xa e)) = some (C.cl.sub c e) ∧ PySem.W.kitOne C.G.K (.ref (C.G.xa c)) (.ref (C.G.xa e)) = some (C.cl.sub c e)
  xm : ∀ c fs, C.cl.xmk c [] = some fs → fs = []
  gl : ∀ x k, (x, k) ∈ C.T.gl → ∃ u d, C.G.mg x = some u ∧ C.cl.gl k = some d ∧ GlOk C.G u d
/-- what the checks know of a frame -/
structure Ck where
  N : List Str
  sc : Scope
  /-- names that may be stored -/
  wr : Str → Bool
  /-- not within an except suite -/
  calm : Bool
  /-- the def makes lambdas (true), generator expressions (false) -/
  inn : Option Bool
/-- a frame as the checks know it -/
structure Cok (C : Ct) (k : Ck) (X : Cx) : Prop where
  P : X.prog = C.G.P
  w : X.w = C.G.w
  K : X.K = C.G.K
  mg : X.mg = C.G.mg
  base : X.base = C.G.base
  hc : k.calm = true → X.calm = true
  gd : X.A.guards = some []
  N : X.N = k.N
  nd : X.N.Nodup
  sc : X.env.scope = k.sc
  wr : ∀ x, k.wr x = true → Loc X.env.scope x ∧ (X.fn x = true ∨ X.env.scope.names.lookup x = some .local)
  room : k.calm = true → Room (3 * C.lv + 1) X.A
  room2 : k.calm = true → k.inn = some true → Room (3 * C.lv + 2) X.A
  units : X.A.units + 100 < cLine
  ce : k.calm = true → C.ea = none
  tk : Takes X C.wx
  tb : ∀ b, k.inn = some b → ∃ c P, X.env.code = .ref c ∧ (P, if b = true then some (X.env.qual ++ "<lambda>") else none) ∈ C.G.tb ∧ (∀ t ∈ C.G.tb, t.1 = P → t.2 = if b = true then some (X.env.qual ++ "<lambda>") else none) ∧ GxR.TabB X.base X.mg c P
  ea : ∀ a cls d, C.ea = some (a, cls, d) → ∃ (X0 : Cx) (oe : Obj) (pn : List (Addr × Obj)), X = X0.suite a ((a, oe) :: pn) ∧ Zc cls d oe ∧ ∃ vs, oe.data = .fields vs
theorem run_g {C : Ct} {k : Ck} {X : Cx} {sp : Sp} {n : Nat} {f : Addr} {pins : List (Addr × Obj)} {σ : L2.St} {H : Hp} {s : Shared} {Q : VK} {us : List Value} {vs : List V} (c : Cok C k X) (hk : k.calm = true) (F : FnG C.G n f sp) (hn : n ≤ 3 * C.lv + 1)
    (I : Inv X pins σ H s) (r : Vals vs us) (h : sp vs H Q fun cls d H' => C.wx cls d σ H') : wpAny (model X.prog X.w) X.A (call (.ref f) us) (EP X pins σ Q) X.xe s := by
  refine wpAny_call ?_
  have e0 := I.env0
  rw [c.P, c.w, c.K, c.mg, c.base] at e0
  have hrun := F X.A X.stack s H us vs Q _ ((c.room hk).mono hn) c.gd e0 r h
  rw [c.P, c.w]
  refine codeAny_mono hrun fun r s' hq => ?_
  cases r with
  | error e =>
    refine c.tk e s' (XE.of_call (W := C.wx) (E := fun cls d H' => C.wx cls d σ H') I (fun _ _ _ z => z) ?_)
    rw [c.P, c.w]
    exact hq
  | ok fl =>
    cases fl with
    | ret u =>
      refine I.after ?_
      rw [c.P, c.w]
      exact hq
    | next => exact False.elim hq
    | brk => exact False.elim hq
    | cont => exact False.elim hq
/-! ### names -/
def visC (sc : Scope) (x : Str) : Bool := match sc.names.lookup x with
  | some .local | some .cell | some .free => true
  | _ => false
def glC (sc : Scope) (x : Str) : Bool := match sc.names.lookup x with
  | some .globalImplicit => true
  | _ => false
def nmOk (x : Str) : Bool := !(x == ("__debug__" : Str)) && !(x == ("__classdict__" : Str)) && !decide (x = "__name__")
def varC (k : Ck) (i : Nat) (x : Str) : Bool := decide (k.N[i]? = some x) && visC k.sc x && nmOk x
theorem visC_ok {sc : Scope} {x : Str} (h : visC sc x = true) : Vis sc x := by
  unfold visC at h
  split at h
  · exact .inl (by assumption)
  · exact .inr (.inl (by assumption))
  · exact .inr (.inr (by assumption))
  · cases h
theorem nmOk_ok {x : Str} (h : nmOk x = true) : (x == ("__debug__" : Str)) = false ∧ (x == ("__classdict__" : Str)) = false ∧ x ≠ "__name__" := by
  unfold nmOk at h
  simp only [Bool.and_eq_true, Bool.not_eq_true', decide_eq_false_iff_not] at h
  exact ⟨h.1.1, h.1.2, h.2⟩
section
variable {C : Ct} {k : Ck} {X : Cx} {i : Nat} {x : Str} {pos : Pos}
theorem glC_ok (c : Cok C k X) (h : glC k.sc x = true) : Gl X x := by
  unfold glC at h
  unfold Gl Env.kindOf
  rw [c.sc]
  split at h
  · assumption
  · cases h
theorem varC_ok (c : Cok C k X) (h : varC k i x = true) : X.N[i]? = some x ∧ Vis X.env.scope x ∧ (x == ("__debug__" : Str)) = false ∧ (x == ("__classdict__" : Str)) = false := by
  unfold varC at h
  simp only [Bool.and_eq_true, decide_eq_true_eq] at h
  have q := nmOk_ok h.2
  exact ⟨by rw [c.N]; exact h.1.1, by rw [c.sc]; exact visC_ok h.1.2, q.1, q.2.1⟩
theorem r_var (c : Cok C k X) (h : varC k i x = true) : PE X (.Name x pos) (tE C false (.var i)) := by
  obtain ⟨h1, h2, h3, h4⟩ := varC_ok c h
  refine (pe_var h1 h2 h3 h4).imp fun σ H Q ⟨W, S, ρ, sim, eok, q⟩ => ?_
  unfold ev at q
  split at q
  · rename_i d e
    obtain ⟨v, e1, r⟩ := eok.val _ _ e
    exact ⟨v, e1, q W H v (.refl _ _) sim (.of_rep r (.inl rfl))⟩
  · exact False.elim q
theorem r_varB (c : Cok C k X) (h : varC k i x = true) : PE X (.Name x pos) (tB C (.var i)) := by
  obtain ⟨h1, h2, h3, h4⟩ := varC_ok c h
  refine (pe_var h1 h2 h3 h4).imp fun σ H Q ⟨W, S, ρ, sim, eok, q⟩ => ?_
  dsimp only at q
  unfold bw own? ev at q
  dsimp only at q
  cases e : ρ[i]? with
  | none => simp only [e] at q; exact False.elim q
  | some sl =>
    simp only [e] at q
    cases sl with
    | own o =>
      obtain ⟨p, e1, r, f, n, _, z⟩ := eok.own _ _ e
      exact ⟨.ref p, e1, q W H _ (.refl _ _) sim (.inr ⟨p, o, rfl, z, r, n⟩)⟩
    | val d =>
      obtain ⟨v, e1, r⟩ := eok.val _ _ e
      exact ⟨v, e1, q W H v (.refl _ _) sim (.inl r)⟩
    | un => exact False.elim q
    | exc _ => exact False.elim q
end
end DI
set_option Elab.async false
set_option linter.all false
set_option maxRecDepth 100000
set_option maxHeartbeats 4000000
/-! DI6: the rules of expressions. -/
namespace DI
open PySem PySem.Spec PyProof.Rows L2
theorem RP.val {α : Type} {r : R α} {a : α} {S : Store} {P : α → Store → Prop} {E : Xc → Store → Prop} (e : r = .ok a S) (h : RP r P E) : P a S := by
  subst e; exact h
theorem PostV.old {G : Gx} {fr : Bool} {W W1 W' : Wd} {H H1 H' : Hp} {d : D} {v : V} (st : Stp W H W1 H1) (h : PostV G fr W' H1 H' d v) : PostV G fr W' H H' d v := by
  unfold PostV at h ⊢
  split
  · rename_i c
    rw [if_pos c] at h
    obtain ⟨p, o, e, q, r, f, n, z⟩ := h
    refine ⟨p, o, e, q, r, f, n, ?_⟩
    cases q' : H p with
    | none => rfl
    | some u => exact absurd z (st.dom p (by rw [q']; simp))
  · rename_i c
    rw [if_neg c] at h
    exact h
theorem PostV.rep {G : Gx} {W' : Wd} {H H' : Hp} {d : D} {v : V} (h : PostV G false W' H H' d v) : Rep G W' d v := h
section
variable {C : Ct} {k : Ck} {X : Cx} {pos : Pos} {a b d e : Expr} {ca cb cd : Ex} {es : List Expr} {cs : Exs}
/-! ### constants -/
def cstC : D → Const → Bool
  | .int i, .int j => decide (i = j)
  | .str x, .str y => decide (x = y)
  | .bl p, .bool q => p == q
  | .non, .none => true
  | _, _ => false
theorem r_cst {z : D} {w : Const} {j : Nat} (h : cstC z w = true) : PE X (.Constant w j pos) (tE C true (.cst z)) := by
  have flat : ∀ {v : V}, (∀ W, Rep C.G W z v) → obOf z = none → PE X (.Constant w j pos) (tC v) → PE X (.Constant w j pos) (tE C true (.cst z)) := fun {v} r n p =>
    p.imp fun σ H Q ⟨W, S, ρ, sim, eok, q⟩ => by
      unfold ev at q
      exact q W H v (.refl _ _) sim (.of_rep (r W) (.inr n))
  unfold cstC at h
  split at h
  · cases of_decide_eq_true h; exact flat (fun _ => rfl) rfl pe_int
  · cases of_decide_eq_true h; exact flat (fun _ => rfl) rfl pe_str
  · cases eq_of_beq h; exact flat (fun _ => rfl) rfl pe_bl
  · exact flat (fun _ => rfl) rfl pe_non
  · cases h
theorem r_glob {x : Str} {kk : Nat} (c : Cok C k X) (g : Gok C) (hx : glC k.sc x = true) (hn : nmOk x = true) (hm : (x, kk) ∈ C.T.gl) : PE X (.Name x pos) (tE C false (.glob kk)) := by
  obtain ⟨u, z, h1, h2, v, rv, hr⟩ := g.gl x kk hm
  have n' := nmOk_ok hn
  refine (pe_glob (v := v) (glC_ok c hx) (by rw [c.mg]; exact h1) rv n'.1).imp fun σ H Q ⟨W, S, ρ, sim, eok, q⟩ => ?_
  unfold ev at q
  rw [h2] at q
  exact q W H v (.refl _ _) sim (.of_rep (hr W) (.inl rfl))
/-! ### arguments, displays -/
def plainA : Expr → Bool
  | .Starred .. => false
  | _ => true
theorem star_of (h : plainA e = true) (env : Env) : starEach (e :: es) env = (false, eval e env) :: starEach es env := by
  cases e <;> first | rfl | cases h
theorem r_anil : PA X [] (tA C .nil) := pa_nil.imp fun σ H Q ⟨W, S, ρ, sim, eok, q⟩ => by
  unfold evs at q
  exact q W H [] (.refl _ _) sim rfl
theorem r_acons (hp : plainA a = true) (ha : PE X a (tE C false ca)) (hr : PA X es (tA C cs)) : PA X (a :: es) (tA C (.cons ca cs)) :=
  (pa_cons ha hr (star_of hp X.env)).imp fun σ H Q ⟨W, S, ρ, sim, eok, q⟩ => by
    unfold evs at q
    refine tG.bind sim eok q fun W1 S1 H1 x v st1 sim1 eok1 pv1 q1 => tG.bind sim1 eok1 q1 fun W2 S2 H2 xs vs st2 sim2 eok2 pv2 q2 => ?_
    exact q2 W2 H2 (v :: vs) (st1.trans st2) sim2 (Reps.cons (pv1.rep.le st2.le) pv2)
def tTupF (t : TA) : TE := fun σ H Q => t σ H fun xs H1 => xs.length ≤ sizeLine ∧ ∀ p (o : Obj), H1 p = none → o.dict = none → Q (.ref p) (upd H1 p (.frz o (.tup xs)))
theorem pe_tupF {t : TA} {j : Nat} (h : PA X es t) : PE X (.Tuple es j pos) (tTupF t) := by
  refine ⟨fun pins s σ H Q I hq => ?_⟩
  refine wpAny_Tuple_spliced (thn (h.run pos pins s σ H _ I hq) fun us s1 ⟨xs, H1, I1, r, z, q⟩ => ⟨by rw [← r.length]; exact z, ?_⟩)
  exact ⟨.ref s1.heap.objs.size, _, laidT (t' := s1.toks) I1 (fun b u e => Heap.get?_push_of_some _ e) (Nat.le_refl _) r z (Heap.get?_push_size _ rfl) rfl ⟨_, rfl⟩, rfl, q _ _ (I1.hok.fresh (Nat.le_refl _)) rfl⟩
theorem r_tup {j : Nat} (h : PA X es (tA C cs)) : PE X (.Tuple es j pos) (tE C true (.tup cs)) :=
  (pe_tupF h).imp fun σ H Q ⟨W, S, ρ, sim, eok, q⟩ => by
    unfold ev at q
    unfold tTupF
    refine tG.bind sim eok q fun W1 S1 H1 ds vs st1 sim1 eok1 pv1 q1 => ?_
    split at q1
    · rename_i hl
      have a : Ans C.G W1 S1 H1 (.tup ds) Q := fun W' H' v st s' pv => q1 W' H' v (st1.trans st) s' (pv.old st1)
      exact ⟨by rw [pv1.length]; exact lim_le hl, fun p o hp ho => a.tup sim1 pv1 hp ho⟩
    · exact False.elim q1
theorem r_lst (h : PA X es (tA C cs)) : PE X (.List es pos) (tE C true (.lst cs)) :=
  (pe_lst h).imp fun σ H Q ⟨W, S, ρ, sim, eok, q⟩ => by
    unfold ev at q
    unfold tLst
    refine tG.bind sim eok q fun W1 S1 H1 ds vs st1 sim1 eok1 pv1 q1 => ?_
    split at q1
    · rename_i hl
      have a : Ans C.G W1 S1 H1 (.lst ds) Q := fun W' H' v st s' pv => q1 W' H' v (st1.trans st) s' (pv.old st1)
      exact ⟨by rw [pv1.length]; exact lim_le hl, fun p hp => a.lst sim1 pv1 hp⟩
    · exact False.elim q1
theorem r_dnew : PE X (.Dict [] [] pos) (tE C true .dnew) :=
  pe_dnewK.imp fun σ H Q ⟨W, S, ρ, sim, eok, q⟩ => by
    unfold ev at q
    have a : Ans C.G W S H (Ob.dic []).toD Q := q
    exact fun p hp => a.dic sim rfl hp
/-! ### operators -/
theorem r_bin {op : Bop} (c : Cok C k X) (ha : PE X a (tB C ca)) (hb : PE X b (tB C cb)) : PE X (.BinOp a op.ast b pos) (tE C true (.bin op ca cb)) :=
  (pe_op (op_bin (G := C.G) c.K.symm) ha hb).imp fun σ H Q ⟨W, S, ρ, sim, eok, q⟩ => by
    unfold ev at q
    refine tG.bind sim eok q fun W1 S1 H1 x v st1 sim1 eok1 pv1 q1 => tG.bind sim1 eok1 q1 fun W2 S2 H2 y u st2 sim2 eok2 pv2 q2 => ?_
    obtain ⟨z, e, fin⟩ := q2.opt
    exact ⟨W2, S2, _, _, z, sim2, (pv1.mv st2).view sim2, pv2.view sim2, e, fun W' H' w st s' pv => fin W' H' w ((st1.trans st2).trans st) s' (pv.old (st1.trans st2))⟩
theorem r_neg (c : Cok C k X) (ha : PE X a (tE C false ca)) : PE X (.UnaryOp .USub a pos) (tE C true (.neg ca)) :=
  (pe_un un_neg ha).imp fun σ H Q ⟨W, S, ρ, sim, eok, q⟩ => by
    unfold ev at q
    refine tG.bind sim eok q fun W1 S1 H1 x v st1 sim1 eok1 pv1 q1 => ?_
    cases x with
    | int i => exact ⟨i, pv1.rep, q1 W1 H1 _ st1 sim1 (.of_rep rfl (.inr rfl))⟩
    | _ => exact False.elim q1
def plainB (op : Cop) : Expr → Bool
  | .Set .. => false
  | _ => true
theorem mark_of {op : Cop} (h : plainB op b = true) : behindInMarks op.ast b = false := by
  cases b <;> first | rfl | cases h
theorem r_cmp {op : Cop} (c : Cok C k X) (hp : plainB op b = true) (ha : PE X a (tB C ca)) (hb : PE X b (tB C cb)) : PE X (.Compare a [op.ast] [b] pos) (tE C true (.cmp op ca cb)) :=
  (pe_cmpR (op_cmp (G := C.G) c.K.symm c.units) ha hb (mark_of hp)).imp fun σ H Q ⟨W, S, ρ, sim, eok, q⟩ => by
    unfold ev at q
    refine tG.bind sim eok q fun W1 S1 H1 x v st1 sim1 eok1 pv1 q1 => tG.bind sim1 eok1 q1 fun W2 S2 H2 y u st2 sim2 eok2 pv2 q2 => ?_
    obtain ⟨z, e, fin⟩ := q2.opt
    obtain ⟨t, rfl⟩ := cmpD_bl e
    exact ⟨W2, S2, _, _, t, sim2, (pv1.mv st2).view sim2, pv2.view sim2, e, fin W2 H2 _ (st1.trans st2) sim2 (.of_rep rfl (.inr rfl))⟩
/-- a comparison as a test -/
theorem t_cmp {op : Cop} (c : Cok C k X) (hp : plainB op b = true) (ha : PE X a (tB C ca)) (hb : PE X b (tB C cb)) : PT X (.Compare a [op.ast] [b] pos) (tT C (.val (.cmp op ca cb))) :=
  (pt_cmpR (op_cmp (G := C.G) c.K.symm c.units) ha hb (mark_of hp)).imp fun σ H Q ⟨W, S, ρ, sim, eok, q⟩ => by
    unfold evT ev at q
    have q : RP (((bw ca ρ S (ev C.cl ca ρ S)).bind fun x S => (bw cb ρ S (ev C.cl cb ρ S)).bind fun y S => opt (cmpD op (view S x) (view S y)) S).bind fun x S => opt (truth (view S x)) S) _ _ := q
    refine tG.bind sim eok q.bind fun W1 S1 H1 x v st1 sim1 eok1 pv1 q1 => tG.bind sim1 eok1 q1 fun W2 S2 H2 y u st2 sim2 eok2 pv2 q2 => ?_
    obtain ⟨z, e, fin⟩ := q2.opt
    obtain ⟨t, rfl⟩ := cmpD_bl e
    obtain ⟨t', e', fin⟩ := fin.opt
    cases e'
    exact ⟨W2, S2, _, _, t, sim2, (pv1.mv st2).view sim2, pv2.view sim2, e, t, rfl, fin W2 H2 _ (st1.trans st2) sim2 rfl⟩
theorem r_chn {o p : Cop} (c : Cok C k X) (hp : plainB p d = true) (ha : PE X a (tE C false ca)) (hb : PE X b (tE C false cb)) (hd : PE X d (tE C false cd)) : PE X (.Compare a [o.ast, p.ast] [b, d] pos) (tE C true (.chn o p ca cb cd)) :=
  (pe_chain (op_cmp (G := C.G) c.K.symm c.units) (op_cmp (G := C.G) c.K.symm c.units) ha hb hd (mark_of hp)).imp fun σ H Q ⟨W, S, ρ, sim, eok, q⟩ => by
    unfold ev at q
    refine tG.bind sim eok q fun W1 S1 H1 x v st1 sim1 eok1 pv1 q1 => tG.bind sim1 eok1 q1 fun W2 S2 H2 y u st2 sim2 eok2 pv2 q2 => ?_
    obtain ⟨z, e, fin⟩ := q2.bind.opt
    obtain ⟨t, rfl⟩ := cmpD_bl e
    refine ⟨W2, S2, _, _, t, sim2, .inl (pv1.rep.le st2.le), .inl pv2.rep, e, t, rfl, ?_⟩
    cases t with
    | false => exact fin W2 H2 _ (st1.trans st2) sim2 (.of_rep rfl (.inr rfl))
    | true =>
      rw [if_pos rfl]
      refine tG.bind sim2 eok2 fin fun W3 S3 H3 z w st3 sim3 eok3 pv3 q3 => ?_
      obtain ⟨z2, e2, fin2⟩ := q3.opt
      obtain ⟨t2, rfl⟩ := cmpD_bl e2
      exact ⟨W3, S3, _, _, t2, sim3, .inl (pv2.rep.le st3.le), .inl pv3.rep, e2, fin2 W3 H3 _ ((st1.trans st2).trans st3) sim3 (.of_rep rfl (.inr rfl))⟩
theorem t_chn {o p : Cop} (c : Cok C k X) (hp : plainB p d = true) (ha : PE X a (tE C false ca)) (hb : PE X b (tE C false cb)) (hd : PE X d (tE C false cd)) : PT X (.Compare a [o.ast, p.ast] [b, d] pos) (tT C (.val (.chn o p ca cb cd))) :=
  (pt_chain (op_cmp (G := C.G) c.K.symm c.units) (op_cmp (G := C.G) c.K.symm c.units) ha hb hd (mark_of hp)).imp fun σ H Q ⟨W, S, ρ, sim, eok, q⟩ => by
    unfold evT ev at q
    have q : RP (((ev C.cl ca ρ S).bind fun x S => (ev C.cl cb ρ S).bind fun y S => (opt (cmpD o x y) S).bind fun k S => match k with
      | .bl true => (ev C.cl cd ρ S).bind fun z S => opt (cmpD p y z) S
      | .bl false => .ok (.bl false) S
      | _ => .bad).bind fun x S => opt (truth (view S x)) S) _ _ := q
    refine tG.bind sim eok q.bind fun W1 S1 H1 x v st1 sim1 eok1 pv1 q1 => tG.bind sim1 eok1 q1 fun W2 S2 H2 y u st2 sim2 eok2 pv2 q2 => ?_
    obtain ⟨z, e, fin⟩ := q2.bind.opt
    obtain ⟨t, rfl⟩ := cmpD_bl e
    refine ⟨W2, S2, _, _, t, sim2, .inl (pv1.rep.le st2.le), .inl pv2.rep, e, t, rfl, ?_⟩
    cases t with
    | false =>
      obtain ⟨t', e', fin⟩ := RP.opt (RP.val (α := D) (a := D.bl false) (S := S2) rfl fin)
      cases e'
      exact ⟨false, rfl, fin W2 H2 _ (st1.trans st2) sim2 rfl⟩
    | true =>
      rw [if_pos rfl]
      refine tG.bind sim2 eok2 fin fun W3 S3 H3 z w st3 sim3 eok3 pv3 q3 => ?_
      obtain ⟨z2, e2, fin2⟩ := q3.opt
      obtain ⟨t2, rfl⟩ := cmpD_bl e2
      obtain ⟨t', e', fin⟩ := fin2.opt
      cases e'
      exact ⟨W3, S3, _, _, t2, sim3, .inl (pv2.rep.le st3.le), .inl pv3.rep, e2, t2, rfl, fin W3 H3 _ ((st1.trans st2).trans st3) sim3 rfl⟩
/-! ### and, or, not, if -/
abbrev tAn (C : Ct) (cs : Exs) : TE := tG C (evAnd C.cl cs) (PostV C.G false)
abbrev tOn (C : Ct) (cs : Exs) : TE := tG C (evOr C.cl cs) (PostV C.G false)
theorem r_and1 (ha : PE X a (tE C false ca)) : PE X (.BoolOp .And [a] pos) (tAn C (.cons ca .nil)) :=
  (pe_one ha).imp fun σ H Q ⟨W, S, ρ, sim, eok, q⟩ => by
    unfold evAnd at q
    exact tG.bind sim eok q fun W1 S1 H1 x v st1 sim1 eok1 pv1 q1 => q1 W1 H1 v st1 sim1 pv1
theorem r_or1 (ha : PE X a (tE C false ca)) : PE X (.BoolOp .Or [a] pos) (tOn C (.cons ca .nil)) :=
  (pe_one ha).imp fun σ H Q ⟨W, S, ρ, sim, eok, q⟩ => by
    unfold evOr at q
    exact tG.bind sim eok q fun W1 S1 H1 x v st1 sim1 eok1 pv1 q1 => q1 W1 H1 v st1 sim1 pv1
theorem r_and2 (ha : PE X a (tE C false ca)) (hb : PE X (.BoolOp .And (b :: es) pos) (tAn C (.cons cb cs))) : PE X (.BoolOp .And (a :: b :: es) pos) (tAn C (.cons ca (.cons cb cs))) :=
  (pe_and ha hb).imp fun σ H Q ⟨W, S, ρ, sim, eok, q⟩ => by
    unfold evAnd at q
    refine tG.bind sim eok q fun W1 S1 H1 x v st1 sim1 eok1 pv1 q1 => ?_
    cases x with
    | bl t =>
      refine ⟨t, pv1.rep, ?_⟩
      cases t with
      | false => exact q1 W1 H1 _ st1 sim1 (.of_rep rfl (.inl rfl))
      | true =>
        rw [if_pos rfl]
        refine ⟨W1, S1, ρ, sim1, eok1, RP.imp q1 (fun d S' k W' H' v st s pv => k W' H' v (st1.trans st) s pv) fun _ _ z => z⟩
    | _ => exact False.elim q1
theorem r_or2 (ha : PE X a (tE C false ca)) (hb : PE X (.BoolOp .Or (b :: es) pos) (tOn C (.cons cb cs))) : PE X (.BoolOp .Or (a :: b :: es) pos) (tOn C (.cons ca (.cons cb cs))) :=
  (pe_or ha hb).imp fun σ H Q ⟨W, S, ρ, sim, eok, q⟩ => by
    unfold evOr at q
    refine tG.bind sim eok q fun W1 S1 H1 x v st1 sim1 eok1 pv1 q1 => ?_
    cases x with
    | bl t =>
      refine ⟨t, pv1.rep, ?_⟩
      cases t with
      | true => exact q1 W1 H1 _ st1 sim1 (.of_rep rfl (.inl rfl))
      | false =>
        rw [if_neg (by decide)]
        refine ⟨W1, S1, ρ, sim1, eok1, RP.imp q1 (fun d S' k W' H' v st s pv => k W' H' v (st1.trans st) s pv) fun _ _ z => z⟩
    | _ => exact False.elim q1
theorem r_bnd (h : PE X (.BoolOp .And es pos) (tAn C cs)) : PE X (.BoolOp .And es pos) (tE C false (.bnd cs)) :=
  h.imp fun σ H Q ⟨W, S, ρ, sim, eok, q⟩ => ⟨W, S, ρ, sim, eok, by unfold ev at q; exact q⟩
theorem r_bor (h : PE X (.BoolOp .Or es pos) (tOn C cs)) : PE X (.BoolOp .Or es pos) (tE C false (.bor cs)) :=
  h.imp fun σ H Q ⟨W, S, ρ, sim, eok, q⟩ => ⟨W, S, ρ, sim, eok, by unfold ev at q; exact q⟩
theorem r_bnt (ha : PE X a (tE C false ca)) : PE X (.UnaryOp .Not a pos) (tE C true (.bnt ca)) :=
  (pe_not ha).imp fun σ H Q ⟨W, S, ρ, sim, eok, q⟩ => by
    unfold ev at q
    refine tG.bind sim eok q fun W1 S1 H1 x v st1 sim1 eok1 pv1 q1 => ?_
    cases x with
    | bl t => exact ⟨t, pv1.rep, q1 W1 H1 _ st1 sim1 (.of_rep rfl (.inr rfl))⟩
    | _ => exact False.elim q1
theorem r_ife {t : Expr} {ct : Tx} {fr : Bool} (ht : PT X t (tT C ct)) (ha : PE X a (tE C fr ca)) (hb : PE X b (tE C fr cb)) : PE X (.IfExp t a b pos) (tE C fr (.ife ct ca cb)) :=
  (pe_ifExp ht ha hb).imp fun σ H Q ⟨W, S, ρ, sim, eok, q⟩ => by
    unfold ev at q
    unfold tIf
    refine tG.bind sim eok q fun W1 S1 H1 x v st1 sim1 eok1 pv1 q1 => ?_
    subst pv1
    cases x with
    | true => exact ⟨W1, S1, ρ, sim1, eok1, RP.imp q1 (fun d S' k W' H' v st s pv => k W' H' v (st1.trans st) s (pv.old st1)) fun _ _ z => z⟩
    | false => exact ⟨W1, S1, ρ, sim1, eok1, RP.imp q1 (fun d S' k W' H' v st s pv => k W' H' v (st1.trans st) s (pv.old st1)) fun _ _ z => z⟩
/-! ### tests -/
def plainT : Expr → Bool
  | .Name .. | .Call .. | .Subscript .. | .Attribute .. | .Constant .. => true
  | _ => false
theorem t_val (c : Cok C k X) (hp : plainT a = true) (ha : PE X a (tB C ca)) : PT X a (tT C (.val ca)) := by
  refine ⟨fun pins s σ H Q I ⟨W, S, ρ, sim, eok, q⟩ => ?_⟩
  unfold evT at q
  have he : ∀ whole, isTrue a X.env whole = (do let v ← whole; standAt a.pos; holding [v] (truthy v)) := by
    cases a <;> first | exact fun _ => rfl | cases hp
  refine isTrue_plain (thn (ha.run pins s σ H _ I (tG.bind sim eok q fun W1 S1 H1 x v st1 sim1 eok1 pv1 q1 => (show (fun (v : V) (H1 : Hp) => ∃ W1 S1 x, Stp W H W1 H1 ∧ Sim C.G W1 S1 H1 ∧ BRep C.G W1 H1 x v ∧ RP (opt (truth (view S1 x)) S1) (fun a S' => ∀ W' H' v, Stp W H W' H' → Sim C.G W' S' H' → a = v → Q v H') (ErrK C σ W1 H1)) v H1 from ⟨W1, S1, x, st1, sim1, pv1, q1⟩))) fun u s1 ⟨v, H1, I1, rv, W1, S1, x, st1, sim1, pv1, q1⟩ => ?_) (he _)
  obtain ⟨t, e, fin⟩ := q1.opt
  exact truth_ok (G := C.G) c.K.symm I1 rv sim1 (pv1.view sim1) e (fin W1 H1 t st1 sim1 rfl)
theorem t_not {ct : Tx} (h : PT X a (tT C ct)) : PT X (.UnaryOp .Not a pos) (tT C (.not ct)) :=
  (pt_not h).imp fun σ H Q ⟨W, S, ρ, sim, eok, q⟩ => by
    unfold evT at q
    unfold tNot
    exact tG.bind sim eok q fun W1 S1 H1 x v st1 sim1 eok1 pv1 q1 => q1 W1 H1 _ st1 sim1 (by rw [pv1])
abbrev tTA (C : Ct) (cs : Txs) : TT := tG C (evTA C.cl cs) (fun _ _ _ a b => a = b)
abbrev tTO (C : Ct) (cs : Txs) : TT := tG C (evTO C.cl cs) (fun _ _ _ a b => a = b)
theorem t_and1 {ct : Tx} (h : PT X a (tT C ct)) : PW X (.BoolOp .And [a] pos) (tTA C (.cons ct .nil)) :=
  (pw_and1 h).imp fun σ H Q ⟨W, S, ρ, sim, eok, q⟩ => by
    unfold evTA at q
    exact tG.bind sim eok q fun W1 S1 H1 x v st1 sim1 eok1 pv1 q1 => q1 W1 H1 _ st1 sim1 pv1
theorem t_or1 {ct : Tx} (h : PT X a (tT C ct)) : PW X (.BoolOp .Or [a] pos) (tTO C (.cons ct .nil)) :=
  (pw_or1 h).imp fun σ H Q ⟨W, S, ρ, sim, eok, q⟩ => by
    unfold evTO at q
    exact tG.bind sim eok q fun W1 S1 H1 x v st1 sim1 eok1 pv1 q1 => q1 W1 H1 _ st1 sim1 pv1
theorem t_and2 {ct cu : Tx} {cr : Txs} (h : PT X a (tT C ct)) (hb : PW X (.BoolOp .And (b :: es) pos) (tTA C (.cons cu cr))) : PW X (.BoolOp .And (a :: b :: es) pos) (tTA C (.cons ct (.cons cu cr))) :=
  (pw_and h hb).imp fun σ H Q ⟨W, S, ρ, sim, eok, q⟩ => by
    unfold evTA at q
    unfold tAnd
    refine tG.bind sim eok q fun W1 S1 H1 x v st1 sim1 eok1 pv1 q1 => ?_
    subst pv1
    cases x with
    | false => exact q1 W1 H1 _ st1 sim1 rfl
    | true => exact ⟨W1, S1, ρ, sim1, eok1, RP.imp q1 (fun d S' k W' H' v st s pv => k W' H' v (st1.trans st) s pv) fun _ _ z => z⟩
theorem t_or2 {ct cu : Tx} {cr : Txs} (h : PT X a (tT C ct)) (hb : PW X (.BoolOp .Or (b :: es) pos) (tTO C (.cons cu cr))) : PW X (.BoolOp .Or (a :: b :: es) pos) (tTO C (.cons ct (.cons cu cr))) :=
  (pw_or h hb).imp fun σ H Q ⟨W, S, ρ, sim, eok, q⟩ => by
    unfold evTO at q
    unfold tOr
    refine tG.bind sim eok q fun W1 S1 H1 x v st1 sim1 eok1 pv1 q1 => ?_
    subst pv1
    cases x with
    | true => exact q1 W1 H1 _ st1 sim1 rfl
    | false => exact ⟨W1, S1, ρ, sim1, eok1, RP.imp q1 (fun d S' k W' H' v st s pv => k W' H' v (st1.trans st) s pv) fun _ _ z => z⟩
theorem t_and {cr : Txs} (h : PW X (.BoolOp .And es pos) (tTA C cr)) : PT X (.BoolOp .And es pos) (tT C (.and cr)) :=
  h.pt.imp fun σ H Q ⟨W, S, ρ, sim, eok, q⟩ => ⟨W, S, ρ, sim, eok, by unfold evT at q; exact q⟩
theorem t_or {cr : Txs} (h : PW X (.BoolOp .Or es pos) (tTO C cr)) : PT X (.BoolOp .Or es pos) (tT C (.or cr)) :=
  h.pt.imp fun σ H Q ⟨W, S, ρ, sim, eok, q⟩ => ⟨W, S, ρ, sim, eok, by unfold evT at q; exact q⟩
/-! ### subscripts -/
def plainI : Expr → Bool
  | .Slice .. => false
  | _ => true
theorem plainI_ok (h : plainI b = true) : PlainIx b := by
  intro o i
  cases b <;> first | rfl | cases h
theorem r_idx (c : Cok C k X) (hp : plainI b = true) (ha : PE X a (tB C ca)) (hb : PE X b (tE C false cb)) : PE X (.Subscript a b pos) (tE C false (.idx ca cb)) :=
  (pe_ix (ix_ok (G := C.G) c.K.symm c.units) ha hb (plainI_ok hp)).imp fun σ H Q ⟨W, S, ρ, sim, eok, q⟩ => by
    unfold ev at q
    refine tG.bind sim eok q fun W1 S1 H1 x v st1 sim1 eok1 pv1 q1 => tG.bind sim1 eok1 q1 fun W2 S2 H2 y u st2 sim2 eok2 pv2 q2 => ?_
    obtain ⟨z, e, fin⟩ := q2.opt
    exact ⟨W2, S2, _, _, z, sim2, (pv1.mv st2).view sim2, .inl pv2.rep, e, fun w r => fin W2 H2 w (st1.trans st2) sim2 (.of_rep r (.inl rfl))⟩
/-- a slice's part -/
def tP (C : Ct) (cs : Exs) : TO := tG C (fun ρ S => (evs C.cl cs ρ S).bind fun l S => opt (partD l) S) (fun _ _ _ a b => a = b)
theorem p_none : PO X none (tP C .nil) := ⟨fun pins s σ H Q I ⟨W, S, ρ, sim, eok, q⟩ => po_none.run pins s σ H Q I (by
  dsimp only at q
  unfold evs at q
  exact (show RP (opt (partD []) S) _ _ from q) |> fun q => q W H none (.refl _ _) sim rfl)⟩
theorem p_some (ha : PE X a (tE C false ca)) : PO X (some a) (tP C (.cons ca .nil)) := by
  refine ⟨fun pins s σ H Q I ⟨W, S, ρ, sim, eok, q⟩ => (po_some ha).run pins s σ H Q I ?_⟩
  dsimp only at q
  unfold evs at q
  unfold tPart
  refine tG.bind sim eok q.bind fun W1 S1 H1 x v st1 sim1 eok1 pv1 q1 => ?_
  have q1 : RP (opt (partD [x]) S1) _ _ := RP.val (α := List D) (a := [x]) (S := S1) (by unfold evs; rfl) q1
  obtain ⟨o, e, fin⟩ := q1.opt
  cases x with
  | int i =>
    cases e
    exact ⟨i, pv1.rep, fin W1 H1 _ st1 sim1 rfl⟩
  | _ => cases e
theorem r_slc {lo hi : Option Expr} {cl ch : Exs} {p2 : Pos} (c : Cok C k X) (ha : PE X a (tB C ca)) (hl : PO X lo (tP C cl)) (hh : PO X hi (tP C ch)) : PE X (.Subscript a (.Slice lo hi none p2) pos) (tE C true (.slc ca cl ch)) :=
  (pe_slice (sl_ok (G := C.G) c.K.symm) ha hl hh).imp fun σ H Q ⟨W, S, ρ, sim, eok, q⟩ => by
    unfold ev at q
    unfold tSl
    refine tG.bind sim eok q fun W1 S1 H1 x v st1 sim1 eok1 pv1 q1 => tG.bind sim1 eok1 q1 fun W2 S2 H2 y u st2 sim2 eok2 pv2 q2 => tG.bind sim2 eok2 q2 fun W3 S3 H3 z w st3 sim3 eok3 pv3 q3 => ?_
    subst pv2
    subst pv3
    obtain ⟨d, e, fin⟩ := q3.opt
    exact ⟨W3, S3, _, d, sim3, (pv1.mv (st2.trans st3)).view sim3, e, fun W' H' w st s' pv => fin W' H' w (((st1.trans st2).trans st3).trans st) s' (pv.old ((st1.trans st2).trans st3))⟩
theorem r_rev {j : Nat} {p1 p2 p3 : Pos} (c : Cok C k X) (ha : PE X a (tB C ca)) : PE X (.Subscript a (.Slice none none (some (.UnaryOp .USub (.Constant (.int 1) j p1) p2)) p3) pos) (tE C true (.rev ca)) :=
  (pe_back ha).imp fun σ H Q ⟨W, S, ρ, sim, eok, q⟩ => by
    unfold ev at q
    unfold tBack
    refine tG.bind sim eok q fun W1 S1 H1 x v st1 sim1 eok1 pv1 q1 => ?_
    obtain ⟨d, e, fin⟩ := q1.opt
    have pv := pv1.view sim1
    generalize view S1 x = y at e pv
    cases y with
    | lst xs =>
      cases e
      obtain ⟨p, vs, e1, h1, r1⟩ := pv.lst sim1.fz
      have an : Ans C.G W1 S1 H1 (.lst xs.reverse) Q := fun W' H' w st s' pv => fin W' H' w (st1.trans st) s' (pv.old st1)
      exact ⟨p, vs, e1, .inl ⟨.of h1, fun t ht => an.lst sim1 r1.reverse ht⟩⟩
    | tup xs =>
      cases e
      obtain ⟨p, vs, e1, h1, r1⟩ := pv.tup sim1.fz
      have an : Ans C.G W1 S1 H1 (.tup xs.reverse) Q := fun W' H' w st s' pv => fin W' H' w (st1.trans st) s' (pv.old st1)
      have h2 := h1.sqt
      rw [← c.K] at h2
      exact ⟨p, vs, e1, .inr ⟨h2, fun t o ht ho => an.tup sim1 r1.reverse ht ho⟩⟩
    | _ => cases e
/-! ### calls -/
theorem noStar : ∀ {es : List Expr}, es.all plainA = true → ∀ (pos : Pos) (env : Env), (backTo pos (starEach es env)).any (·.1) = false
  | [], _, _, _ => rfl
  | e :: es, h, pos, env => by
    rw [List.all_cons, Bool.and_eq_true] at h
    rw [star_of h.1]
    show (false || (backTo pos (starEach es env)).any (·.1)) = false
    rw [noStar h.2, Bool.or_false]
theorem allFew : ∀ {es : List Expr}, es.all plainA = true → ∀ (pos : Pos) (env : Env), (backTo pos (starEach es env)).all (fun x => !x.1) = true
  | [], _, _, _ => rfl
  | e :: es, h, pos, env => by
    rw [List.all_cons, Bool.and_eq_true] at h
    rw [star_of h.1]
    show (true && (backTo pos (starEach es env)).all (fun x => !x.1)) = true
    rw [allFew h.2, Bool.and_true]
theorem r_call0 {x : Str} {p : Pos} {f : Nat} (c : Cok C k X) (hk : k.calm = true) (g : Gok C) (hx : glC k.sc x = true) (hn : nmOk x = true) (hf : (x, f) ∈ C.T.fn) :
    PE X (.Call (.Name x p) [] [] pos) (tE C (C.T.frf f) (.call f .nil)) := by
  refine ⟨fun pins s σ H Q I ⟨W, S, ρ, sim, eok, q⟩ => ?_⟩
  unfold ev evs at q
  obtain ⟨hm, hkp⟩ := g.fn x f hf
  refine wpAny_Call_Name_kw (ld_glob I (glC_ok c hx) (by rw [c.mg]; exact hm) ?_ (nmOk_ok hn).1)
  refine PySem.W.callWith_K0 I.kIn (by rw [c.K]; exact hkp) ?_
  exact run_g c hk (g.fok f) (Nat.le_succ _) I .nil ⟨W, S, [], sim, rfl, q⟩
theorem r_call {x : Str} {p : Pos} {f : Nat} (c : Cok C k X) (hk : k.calm = true) (g : Gok C) (hx : glC k.sc x = true) (hn : nmOk x = true) (hf : (x, f) ∈ C.T.fn) (hp : (a :: es).all plainA = true) (h : PA X (a :: es) (tA C cs)) :
    PE X (.Call (.Name x p) (a :: es) [] pos) (tE C (C.T.frf f) (.call f cs)) := by
  refine ⟨fun pins s σ H Q I ⟨W, S, ρ, sim, eok, q⟩ => ?_⟩
  unfold ev at q
  obtain ⟨hm, hkp⟩ := g.fn x f hf
  have arg : tA C cs σ H fun vs H1 => fsp C.G C.cl (C.T.frf f) f vs H1 Q fun cls d H' => C.wx cls d σ H' :=
    tG.bind sim eok q fun W1 S1 H1 ds vs st1 sim1 eok1 pv1 q1 => ⟨W1, S1, ds, sim1, pv1, q1.imp (fun d S' z W' H' v st s pv => z W' H' v (st1.trans st) s (pv.old st1)) fun _ _ z => z⟩
  refine wpAny_Call_Name_kw (ld_glob I (glC_ok c hx) (by rw [c.mg]; exact hm) ?_ (nmOk_ok hn).1)
  rw [List.all_cons, Bool.and_eq_true] at hp
  refine PySem.W.callWith_K (h₀ := X.base) I.ok.mod.kin (by rw [c.K]; exact hkp) (thn (h.run pos pins s σ H _ I arg) fun us s1 ⟨vs, H1, I1, r, q1⟩ => ⟨I1.kIn, ?_⟩) (star_of hp.1 _) (noStar hp.2 _ _)
  exact run_g c hk (g.fok f) (Nat.le_succ _) I1 r q1
/-! ### built-ins -/
def Bi.nm : Bi → Str
  | .len => "len" | .int => "int" | .str => "str" | .tup => "tuple" | .lst => "list" | .dic => "dict" | .set => "set" | .sorted => "sorted" | .sum => "sum" | .min => "min" | .max => "max" | .repr => "repr"
theorem Bi.boot (b : Bi) : bootBuiltins b.nm = some b.fn := by cases b <;> decide +kernel
theorem Bi.nmB (b : Bi) : b.nm ∈ bltN := by cases b <;> decide +kernel
theorem Bi.nmO (b : Bi) : nmOk b.nm = true := by cases b <;> decide +kernel
theorem pe_callV {fv : Value} {r : List V → Hp → VK → Prop} {x : Str} {p : Pos} {t : TA} (hc : CallR X fv r) (hv : (∃ i, fv = .builtin i) ∨ ∃ T, fv = .type T) (hg : Gl X x) (hm : X.mg x = none) (hb : bootBuiltins x = some fv) (hn : nmOk x = true) (hp : (a :: es).all plainA = true) (h : PA X (a :: es) t) :
    PE X (.Call (.Name x p) (a :: es) [] pos) (tCB r t) := by
  rw [List.all_cons, Bool.and_eq_true] at hp
  have n := nmOk_ok hn
  rcases hv with ⟨i, rfl⟩ | ⟨T, rfl⟩
  · exact pe_callB hc hg hm hb h n.2.2 n.1 (star_of hp.1 _) (noStar hp.2 _ _)
  · exact pe_callTy hc hg hm hb h n.2.2 n.1 (star_of hp.1 _) (noStar hp.2 _ _)
/-- one argument, looked at -/
theorem pa_one {t : TE} (hp : plainA a = true) (h : PE X a t) : PA X [a] (tCons t tNil) := pa_cons h pa_nil (star_of hp _)
theorem r_bi {bf : Bi} {p : Pos} (c : Cok C k X) (hk : bf.suits = false → k.calm = true) (g : Gok C) (hx : glC k.sc bf.nm = true) (hp : plainA a = true) (ha : PE X a (tB C ca)) : PE X (.Call (.Name bf.nm p) [a] [] pos) (tE C true (.bi bf ca)) :=
  (pe_callV (call_bi (G := C.G) (b := bf) c.K.symm (fun z => c.hc (hk z)) c.gd c.units) (by cases bf <;> first | exact .inl ⟨_, rfl⟩ | exact .inr ⟨_, rfl⟩) (glC_ok c hx) (by rw [c.mg]; exact g.bn _ bf.nmB) bf.boot bf.nmO (by rw [List.all_cons, hp]; rfl) (pa_one hp ha)).imp fun σ H Q ⟨W, S, ρ, sim, eok, q⟩ => by
    unfold ev at q
    unfold tCB tCons
    refine tG.bind sim eok q fun W1 S1 H1 x v st1 sim1 eok1 pv1 q1 => ?_
    obtain ⟨d, e, fin⟩ := q1.opt
    exact ⟨W1, S1, _, d, v, rfl, sim1, pv1.view sim1, e, fun W' H' w st s' pv => fin W' H' w (st1.trans st) s' (pv.old st1)⟩
theorem r_bi2 {bf : Bi} {p : Pos} (c : Cok C k X) (hk : k.calm = true) (g : Gok C) (hx : glC k.sc bf.nm = true) (hp : plainA a = true) (hp2 : plainA b = true) (ha : PE X a (tE C false ca)) (hb : PE X b (tE C false cb)) : PE X (.Call (.Name bf.nm p) [a, b] [] pos) (tE C true (.bi2 bf ca cb)) :=
  (pe_callV (call_bi2 (G := C.G) (b := bf) (c.hc hk)) (by cases bf <;> first | exact .inl ⟨_, rfl⟩ | exact .inr ⟨_, rfl⟩) (glC_ok c hx) (by rw [c.mg]; exact g.bn _ bf.nmB) bf.boot bf.nmO (by rw [List.all_cons, List.all_cons, hp, hp2]; rfl) (pa_cons ha (pa_one hp2 hb) (star_of hp _))).imp fun σ H Q ⟨W, S, ρ, sim, eok, q⟩ => by
    unfold ev at q
    unfold tCB tCons
    refine tG.bind sim eok q fun W1 S1 H1 x v st1 sim1 eok1 pv1 q1 => tG.bind sim1 eok1 q1 fun W2 S2 H2 y u st2 sim2 eok2 pv2 q2 => ?_
    obtain ⟨d, e, fin⟩ := q2.opt
    exact ⟨W2, S2, _, _, d, v, u, rfl, sim2, .inl (pv1.rep.le st2.le), .inl pv2.rep, e, fun W' H' w st s' pv => fin W' H' w ((st1.trans st2).trans st) s' (pv.old (st1.trans st2))⟩
def Ty.nm : Ty → Str
  | .int => "int" | .str => "str" | .bool => "bool" | .lst => "list"
theorem Ty.boot (t : Ty) : bootBuiltins t.nm = some (.type t.name) := by cases t <;> decide +kernel
theorem Ty.nmB (t : Ty) : t.nm ∈ bltN := by cases t <;> decide +kernel
theorem Ty.nmO (t : Ty) : nmOk t.nm = true := by cases t <;> decide +kernel
theorem r_isi {t : Ty} {p p2 : Pos} (c : Cok C k X) (g : Gok C) (hx : glC k.sc "isinstance" = true) (hy : glC k.sc t.nm = true) (hp : plainA a = true) (ha : PE X a (tB C ca)) :
    PE X (.Call (.Name "isinstance" p) [a, .Name t.nm p2] [] pos) (tE C true (.isi ca t)) :=
  (pe_callV (call_ty (G := C.G) (t := t) c.K.symm) (.inl ⟨_, rfl⟩) (glC_ok c hx) (by rw [c.mg]; exact g.bn _ (by decide +kernel)) (by decide +kernel) (by decide +kernel) (by rw [List.all_cons, hp]; rfl)
    (pa_cons ha (pa_one rfl (pe_bltn (v := .ty t.name) (glC_ok c hy) (by rw [c.mg]; exact g.bn _ t.nmB) t.boot rfl (nmOk_ok t.nmO).2.2 (nmOk_ok t.nmO).1)) (star_of hp _))).imp fun σ H Q ⟨W, S, ρ, sim, eok, q⟩ => by
    unfold ev at q
    unfold tCB tCons tC
    refine tG.bind sim eok q fun W1 S1 H1 x v st1 sim1 eok1 pv1 q1 => ?_
    obtain ⟨d, e, fin⟩ := q1.opt
    obtain ⟨k', e', rfl⟩ := Option.map_eq_some_iff.mp e
    exact ⟨W1, S1, _, k', v, rfl, sim1, pv1.view sim1, e', fin W1 H1 _ st1 sim1 (.of_rep rfl (.inr rfl))⟩
/-! ### methods -/
def Bm.nm : Bm → Str
  | .app => "append" | .ext => "extend" | .idx => "index" | .get => "get" | .pop => "pop" | .ins => "insert" | .upd => "update" | .join => "join" | .split => "split" | .cnt => "count" | .rep => "replace" | .stw => "startswith"
/-- the receiver's text: no super() -/
def plainO : Expr → Bool
  | .Name .. | .Subscript .. | .Attribute .. | .List .. | .ListComp .. => true
  | _ => false
theorem base_of (h : plainO a = true) (n : Str) (env : Env) : attributeBase a n env (eval a env) = eval a env := by
  cases a <;> first | rfl | cases h
theorem keys_nil (pos : Pos) (env : Env) : backToKw pos (keywordEach [] env) = [] := rfl
theorem few_of (h : es.all plainA = true) (l : es.length < 29) (pos : Pos) (env : Env) : ((backTo pos (starEach es env)).all (fun x => !x.1) && (backToKw pos (keywordEach [] env)).all (fun x => x.1.isSome)
      && decide (es.length + ([] : List Keyword).length + (if ([] : List Keyword).isEmpty then 0 else 1) < 30)) = true := by
  rw [allFew h, keys_nil]
  simp only [List.all_nil, Bool.and_true, Bool.true_and, List.length_nil, List.isEmpty_nil, if_true, Nat.add_zero, decide_eq_true_eq]
  omega
theorem pe_bmL {T id : String} {name : Str} {apos : Pos} {r : V → List V → Hp → VK → Prop} {to : TE} (pa : PlainAttrs T) (slot : Slot T name id) (hty : typeOf (.builtin id) = pure (.type "method_descriptor")) (hm : MtR X id r) (ho : PE X b to)
    (hb : plainO b = true) (hl : (apos.endLine == pos.line) = true) (hp : (a :: es).all plainA = true) (hn : (a :: es).length < 29) {t : TA} (h : PA X (a :: es) t) : PE X (.Call (.Attribute b name apos) (a :: es) [] pos) (tBM X.K T r to t) := by
  have hp' := hp
  rw [List.all_cons, Bool.and_eq_true] at hp'
  exact pe_bm pa slot hty hm ho h (base_of hb _ _) (few_of hp hn _ _) hl (star_of hp'.1 _) (noStar hp'.2 _ _)
theorem isL {W : Wd} {S : Store} {H : Hp} {x : D} {v : V} {m : Bm} (c : Cok C k X) (sim : Sim C.G W S H) (p : VRep C.G W H x v) (h : mOk m x = true) (hg : m ≠ .get) : tyV X.K "list" v H := by
  cases x with
  | lst xs =>
    obtain ⟨p, vs, e, h1, _⟩ := p.lst sim.fz
    rw [e]
    exact .inl ⟨rfl, vs, .of h1⟩
  | dic ks vs => cases m <;> first | exact absurd rfl hg | cases h
  | _ => cases m <;> cases h
theorem isDc {W : Wd} {S : Store} {H : Hp} {x : D} {v : V} (sim : Sim C.G W S H) (p : VRep C.G W H x v) (h : mOk .get x = true) : tyV X.K "dict" v H := by
  cases x with
  | dic ks vs =>
    obtain ⟨p, us, e, h1, _⟩ := p.dic sim.fz
    rw [e]
    exact .inr (.inr (.inl ⟨rfl, .inl ⟨us, h1⟩⟩))
  | _ => cases h
theorem bmD_idx {x d : D} {ds : List D} (h : bmD .idx x ds = some d) : ∃ as, x = .lst as := by
  unfold bmD at h
  split at h
  · exact ⟨_, rfl⟩
  all_goals first | (rename_i q _ _; cases q; done) | (cases h; done) | skip
  all_goals first | contradiction | skip
theorem bmD_get {x d : D} {ds : List D} (h : bmD .get x ds = some d) : ∃ ks vs, x = .dic ks vs := by
  unfold bmD at h
  split at h
  all_goals first | exact ⟨_, _, rfl⟩ | contradiction
theorem r_idxM {apos : Pos} (c : Cok C k X) (hb : plainO b = true) (hl : (apos.endLine == pos.line) = true) (hp : (a :: es).all plainA = true) (hn : (a :: es).length < 29) (ho : PE X b (tB C cb)) (h : PA X (a :: es) (tA C cs)) :
    PE X (.Call (.Attribute b (Bm.nm .idx) apos) (a :: es) [] pos) (tE C false (.bm .idx cb cs)) :=
  (pe_bmL F.plainAttrs_list F.slot_list_index F.type_list_index (mt_idx (G := C.G) c.K.symm c.units) ho hb hl hp hn h).imp fun σ H Q ⟨W, S, ρ, sim, eok, q⟩ => by
    unfold ev at q
    unfold tBM
    refine tG.bind sim eok q fun W1 S1 H1 x v st1 sim1 eok1 pv1 q1 => ?_
    split at q1
    · rename_i hm
      refine ⟨isL c sim1 (pv1.view sim1) hm (by decide), tG.bind sim1 eok1 q1 fun W2 S2 H2 ds vs st2 sim2 eok2 pv2 q2 => ?_⟩
      obtain ⟨d, e, fin⟩ := RP.opt q2
      obtain ⟨as, ea⟩ := bmD_idx e
      have pv := (pv1.mv st2).view sim2
      rw [ea] at pv e
      exact ⟨W2, S2, as, ds, d, sim2, pv, pv2, e, fun w r => fin W2 H2 w (st1.trans st2) sim2 (.of_rep r (.inl rfl))⟩
    · exact False.elim q1
theorem r_getM {apos : Pos} (c : Cok C k X) (hb : plainO b = true) (hl : (apos.endLine == pos.line) = true) (hp : (a :: es).all plainA = true) (hn : (a :: es).length < 29) (ho : PE X b (tB C cb)) (h : PA X (a :: es) (tA C cs)) :
    PE X (.Call (.Attribute b (Bm.nm .get) apos) (a :: es) [] pos) (tE C false (.bm .get cb cs)) :=
  (pe_bmL F.plainAttrs_dict F.slot_dict_get F.type_dict_get (mt_get (G := C.G) c.units) ho hb hl hp hn h).imp fun σ H Q ⟨W, S, ρ, sim, eok, q⟩ => by
    unfold ev at q
    unfold tBM
    refine tG.bind sim eok q fun W1 S1 H1 x v st1 sim1 eok1 pv1 q1 => ?_
    split at q1
    · rename_i hm
      refine ⟨isDc sim1 (pv1.view sim1) hm, tG.bind sim1 eok1 q1 fun W2 S2 H2 ds vs st2 sim2 eok2 pv2 q2 => ?_⟩
      obtain ⟨d, e, fin⟩ := RP.opt q2
      obtain ⟨ks, us, ea⟩ := bmD_get e
      have pv := (pv1.mv st2).view sim2
      rw [ea] at pv e
      exact ⟨W2, S2, ks, us, ds, d, sim2, pv, pv2, e, fun w r => fin W2 H2 w (st1.trans st2) sim2 (.of_rep r (.inl rfl))⟩
    · exact False.elim q1
theorem r_sidx {z : Str} {j : Nat} {p2 apos : Pos} (c : Cok C k X) (hk : k.calm = true) (hl : (apos.endLine == pos.line) = true) (hp : plainA a = true) (ha : PE X a (tE C false ca)) :
    PE X (.Call (.Attribute (.Constant (.str z) j p2) "index" apos) [a] [] pos) (tE C true (.sidx z ca)) :=
  (pe_bmS F.plainAttrs_str F.slot_str_index F.type_str_index (mt_indexX (c.hc hk) c.tk) (pe_str (x := z) (j := j) (pos := p2)) (pa_one hp ha) rfl (few_of (by rw [List.all_cons, hp]; rfl) (by show 1 < 29; decide) _ _) hl (star_of hp _) rfl).imp fun σ H Q ⟨W, S, ρ, sim, eok, q⟩ => by
    unfold ev at q
    unfold tBMS tC tCons tNil
    refine ⟨rfl, tG.bind sim eok q fun W1 S1 H1 x v st1 sim1 eok1 pv1 q1 => ?_⟩
    obtain ⟨d, e, fin⟩ := q1.opt
    cases x with
    | str y =>
      have e : (Txt.index0 z y).map (fun k => D.int ((k : Nat) : Int)) = some d := e
      obtain ⟨n, en, rfl⟩ := Option.map_eq_some_iff.mp e
      have pv : v = .str y := pv1.rep
      subst pv
      refine ⟨z, y, rfl, rfl, fun m em => ?_, fun z => by rw [en] at z; cases z⟩
      rw [en] at em
      cases em
      exact fin W1 H1 _ st1 sim1 (.of_rep rfl (.inr rfl))
    | _ => cases e
theorem bmM_lst {m : Bm} {o o' : Ob} {ds : List D} {d : D} (h : bmM m o ds = some (d, o')) : ∃ as, o = .lst as := by
  unfold bmM at h
  split at h
  all_goals first | exact ⟨_, rfl⟩ | contradiction
/-- an object of the store, changed by a method -/
theorem ch_end {m : Bm} {W W2 : Wd} {H H2 : Hp} {S2 : Store} {n : Nat} {v : V} {vs : List V} {ds : List D} {Q : VK} {E : Xc → Store → Prop} (st : Stp W H W2 H2) (sim2 : Sim C.G W2 S2 H2) (r : Rep C.G W2 (.obj n) v) (rs : Reps C.G W2 ds vs)
    (q : RP (match S2[n]? with
      | some o => match bmM m o ds with
        | some (d, o') => R.ok d (S2.set n o')
        | none => .bad
      | none => .bad) (fun d S' => ∀ W' H' w, Stp W H W' H' → Sim C.G W' S' H' → PostV C.G false W' H H' d w → Q w H') E) : rBmM C.G m v vs H2 Q := by
  obtain ⟨e, hn⟩ := r
  cases e1 : S2[n]? with
  | none => rw [e1] at q; exact False.elim q
  | some o =>
    rw [e1] at q
    dsimp only at q
    cases e2 : bmM m o ds with
    | none => rw [e2] at q; exact False.elim q
    | some z =>
      obtain ⟨d, o'⟩ := z
      rw [e2] at q
      dsimp only at q
      obtain ⟨as, rfl⟩ := bmM_lst e2
      have ob := sim2.ob n _ e1
      refine ⟨W2, W2.A n, as, ds, d, o', e, sim2.fz, ob, rs, e2, fun w u rw' ro _ => ?_⟩
      exact q W2 _ w (st.trans (.set hn ob.some)) (sim2.set hn ro) (.of_rep rw' (.inl rfl))
theorem Bm.chS {m : Bm} (h : m.ch = true) : Slot "list" m.nm m.lid ∧ typeOf (.builtin m.lid) = pure (.type "method_descriptor") := by
  cases m <;> first
    | exact ⟨F.slot_list_append, F.type_list_append⟩
    | exact ⟨F.slot_list_extend, F.type_list_extend⟩
    | exact ⟨F.slot_list_pop, F.type_list_pop⟩
    | exact ⟨F.slot_list_insert, F.type_list_insert⟩
    | cases h
theorem r_chM {m : Bm} {apos : Pos} (c : Cok C k X) (hc : m.ch = true) (hb : plainO b = true) (hl : (apos.endLine == pos.line) = true) (hp : (a :: es).all plainA = true) (hn : (a :: es).length < 29) (ho : PE X b (tB C cb)) (h : PA X (a :: es) (tA C cs)) :
    PE X (.Call (.Attribute b m.nm apos) (a :: es) [] pos) (tE C false (.bm m cb cs)) :=
  (pe_bmL F.plainAttrs_list (Bm.chS hc).1 (Bm.chS hc).2 (mt_ch (G := C.G) (m := m) c.K.symm) ho hb hl hp hn h).imp fun σ H Q ⟨W, S, ρ, sim, eok, q⟩ => by
    unfold ev at q
    unfold tBM
    refine tG.bind sim eok q fun W1 S1 H1 x v st1 sim1 eok1 pv1 q1 => ?_
    split at q1
    · rename_i hm
      refine ⟨isL c sim1 (pv1.view sim1) hm (fun e => by rw [e] at hc; cases hc), tG.bind sim1 eok1 q1 fun W2 S2 H2 ds vs st2 sim2 eok2 pv2 q2 => ?_⟩
      try rw [if_pos hc] at q2
      cases x with
      | obj n =>
        have r : Rep C.G W2 (.obj n) v := by
          rcases pv1.mv st2 with r | ⟨_, _, _, z, _⟩
          · exact r
          · cases z
        exact ch_end (st1.trans st2) sim2 r pv2 q2
      | _ => exact False.elim q2
    · exact False.elim q1
theorem r_chM0 {m : Bm} {apos : Pos} (c : Cok C k X) (hc : m.ch = true) (hb : plainO b = true) (hl : (apos.endLine == pos.line) = true) (ho : PE X b (tB C cb)) :
    PE X (.Call (.Attribute b m.nm apos) [] [] pos) (tE C false (.bm m cb .nil)) :=
  (pe_bm0 F.plainAttrs_list (Bm.chS hc).1 (Bm.chS hc).2 (mt_ch (G := C.G) (m := m) c.K.symm) ho (base_of hb _ _) hl).imp fun σ H Q ⟨W, S, ρ, sim, eok, q⟩ => by
    unfold ev at q
    unfold tBM0
    refine tG.bind sim eok q fun W1 S1 H1 x v st1 sim1 eok1 pv1 q1 => ?_
    split at q1
    · rename_i hm
      refine ⟨isL c sim1 (pv1.view sim1) hm (fun e => by rw [e] at hc; cases hc), ?_⟩
      unfold evs at q1
      have q1 := RP.bind q1
      have q2 := RP.val (α := List D) (a := []) (S := S1) rfl q1
      try rw [if_pos hc] at q2
      cases x with
      | obj n =>
        have r : Rep C.G W1 (.obj n) v := by
          rcases pv1 with r | ⟨_, _, _, z, _⟩
          · exact r
          · cases z
        exact ch_end (ds := []) (vs := []) st1 sim1 r rfl q2
      | _ => exact False.elim q2
    · exact False.elim q1
end
end DI
set_option Elab.async false
set_option linter.all false
set_option maxRecDepth 100000
set_option maxHeartbeats 4000000
/-! DF: f-strings. -/
namespace DI
open PySem PySem.Spec PyProof.Rows L2
/-- the parts of an f-string, as its core text has them -/
inductive FsOk (C : Ct) (X : Cx) : Exs → List Expr → Prop
  | nil : FsOk C X .nil []
  | txt {y : Str} {k : Nat} {p : Pos} {r : Exs} {xs : List Expr} (h : FsOk C X r xs) : FsOk C X (.cons (.cst (.str y)) r) (.Constant (.str y) k p :: xs)
  | fmt {a : Ex} {e : Expr} {p : Pos} {r : Exs} {xs : List Expr} (h1 : PE X e (tE C false a)) (h : FsOk C X r xs) : FsOk C X (.cons a r) (.FormattedValue e (-1) none p :: xs)
/-- from acc on -/
def tJ (C : Ct) (es : Exs) (acc : Str) : L2.St → Hp → (Str → Hp → Prop) → Prop := tG C (fun ρ S => evJ C.cl es acc ρ S) (fun _ _ _ d y => d = .str y)
theorem joins {C : Ct} {X : Cx} {es : Exs} {xs : List Expr} (h : FsOk C X es xs) : ∃ ts, PJ X xs ts ∧ ∀ (acc : Str) (σ : L2.St) (H : Hp) (Q : Str → Hp → Prop), tJ C es acc σ H Q → tJs ts acc σ H Q := by
  induction h with
  | nil =>
    refine ⟨[], .nil, fun acc σ H Q ⟨W, S, ρ, sim, eok, q⟩ => ?_⟩
    dsimp only at q
    unfold evJ at q
    exact q W H acc (.refl _ _) sim rfl
  | @txt y k p r xs h ih =>
    obtain ⟨ts, hp, k2⟩ := ih
    refine ⟨_ :: ts, .cons pe_str hp, fun acc σ H Q ⟨W, S, ρ, sim, eok, q⟩ => ?_⟩
    dsimp only at q
    unfold evJ at q
    unfold ev at q
    have q : RP ((opt (joinT acc (.str y)) S).bind fun acc S => evJ C.cl r acc ρ S) _ _ := q
    obtain ⟨z, e, q⟩ := q.bind.opt
    unfold joinT at e
    dsimp only at e
    split at e
    · rename_i hl
      cases e
      exact ⟨y, rfl, by rw [sizeLine_eq]; omega, k2 _ _ _ _ ⟨W, S, ρ, sim, eok, q⟩⟩
    · cases e
  | @fmt a e p r xs h1 h ih =>
    obtain ⟨ts, hp, k2⟩ := ih
    refine ⟨_ :: ts, .cons (pe_fmt h1) hp, fun acc σ H Q ⟨W, S, ρ, sim, eok, q⟩ => ?_⟩
    dsimp only at q
    unfold evJ at q
    unfold tJs tFmt
    refine tG.bind sim eok q fun W1 S1 H1 x v st1 sim1 eok1 pv1 q1 => ?_
    obtain ⟨z, ez, q1⟩ := q1.bind.opt
    have rv := pv1.rep
    unfold joinT at ez
    split at ez
    · rename_i y
      split at ez
      · rename_i hl
        cases ez
        refine .inl ⟨y, rv, by rw [sizeLine_eq]; omega, y, rfl, by rw [sizeLine_eq]; omega, k2 _ _ _ _ ⟨W1, S1, ρ, sim1, eok1, q1.imp (fun d S2 f W2 H2 y2 st s2 e2 => f W2 H2 y2 (st1.trans st) s2 e2) fun _ _ z => z⟩⟩
      · cases ez
    · rename_i i
      split at ez
      · rename_i hl
        cases ez
        refine .inr ⟨i, rv, hl.1, _, rfl, by rw [sizeLine_eq]; omega, k2 _ _ _ _ ⟨W1, S1, ρ, sim1, eok1, q1.imp (fun d S2 f W2 H2 y2 st s2 e2 => f W2 H2 y2 (st1.trans st) s2 e2) fun _ _ z => z⟩⟩
      · cases ez
    · cases ez
theorem r_fst {C : Ct} {X : Cx} {es : Exs} {v1 v2 : Expr} {rest : List Expr} {pos : Pos} (h : FsOk C X es (v1 :: v2 :: rest)) : PE X (.JoinedStr (v1 :: v2 :: rest) pos) (tE C true (.fst es)) := by
  obtain ⟨ts, hp, k⟩ := joins h
  refine (pe_joined hp).imp fun σ H Q ⟨W, S, ρ, sim, eok, q⟩ => k _ _ _ _ ⟨W, S, ρ, sim, eok, ?_⟩
  unfold ev at q
  exact q.imp (fun d S2 f W2 H2 y st s2 e => by subst e; exact f W2 H2 (.str y) st s2 (.of_rep rfl (.inr rfl))) fun _ _ z => z
end DI
set_option Elab.async false
set_option linter.all false
set_option maxRecDepth 100000
set_option maxHeartbeats 4000000
/-! DS2: the rule of sorted(set(a)). -/
namespace DI
open PySem PySem.Spec PyProof.Rows L2
section
variable {C : Ct} {k : Ck} {X : Cx} {a : Expr} {ca : Ex} {pos q0 p p2 : Pos}
theorem Ans.lay {G : Gx} {W : Wd} {S : Store} {H : Hp} {d : D} {Q : VK} {r : Addr} {u : HO} (h : Ans G W S H d Q) (n : H r = none) : Ans G W S (upd H r u) d Q :=
  fun W' H' w st s' pv => h W' H' w ((Stp.push (W := W) n).trans st) s' (pv.old (Stp.push (W := W) n))
theorem r_srs (c : Cok C k X) (hk : k.calm = true) (g : Gok C) (h1 : glC k.sc "sorted" = true) (h2 : glC k.sc "set" = true) (hp : plainA a = true) (ha : PE X a (tE C false ca)) :
    PE X (.Call (.Name "sorted" p) [.Call (.Name "set" p2) [a] [] q0] [] pos) (tE C true (.srs ca)) :=
  (pe_callV (cr_sortedSet (c.hc hk)) (.inl ⟨_, rfl⟩) (glC_ok c h1) (by rw [c.mg]; exact g.bn _ (by decide +kernel)) (by decide +kernel) (by decide +kernel) rfl
    (pa_one rfl (pe_callV (cr_setI (c.hc hk)) (.inr ⟨_, rfl⟩) (glC_ok c h2) (by rw [c.mg]; exact g.bn _ (by decide +kernel)) (by decide +kernel) (by decide +kernel) (by rw [List.all_cons, hp]; rfl) (pa_one hp ha)))).imp fun σ H Q ⟨W, S, ρ, sim, eok, q⟩ => by
    unfold ev at q
    unfold tCB tCons tNil
    refine tG.bind sim eok q fun W1 S1 H1 x v st1 sim1 eok1 pv1 q1 => ?_
    obtain ⟨d, e, fin⟩ := q1.opt
    unfold srsD at e
    split at e
    · rename_i xs
      obtain ⟨ns, e1, e2⟩ := Option.bind_eq_some_iff.mp e
      split at e2
      · rename_i hl
        cases e2
        obtain ⟨l, vs, ev', hF, r1⟩ := pv1.rep
        have := ints_rep r1 e1
        subst this
        have sq : SqL X.K H1 l (ns.map V.int) := .inl (.inl (sim1.fz _ _ hF))
        have an : Ans C.G W1 S1 H1 (.lst ((isort (ddI ns)).map .int)) Q := fun W' H' w st s' pv => fin W' H' w (st1.trans st) s' (pv.old st1)
        refine ⟨l, ns, by rw [ev'], sq, hl, fun b n hn hb => ?_⟩
        refine ⟨b, memS ns, n, rfl, upd_same, by omega, fun ms r pw mem len hr => ?_⟩
        rw [srs_eq pw mem]
        exact (an.lay hb).lst (sim1.push hb) (ints_reps _) hr
      · cases e2
    · cases e
end
end DI
set_option Elab.async false
set_option linter.all false
set_option maxRecDepth 100000
set_option maxHeartbeats 4000000
/-! DS3: len(set(xs)) of ints and texts. -/
namespace DI
open PySem PySem.Spec PyProof.Rows L2
section
variable {P : Program} {w : World} {A : Around} {E : Value → Shared → Prop} {s : Shared}
theorem setOf_cong {h : Heap} {a : Addr} {S S' : Key → Bool} {n : Nat} (R : h.SetOf (mixKind P w) a S n) (e : ∀ k, S' k = S k) : h.SetOf (mixKind P w) a S' n := by
  have : S' = S := funext e
  rw [this]
  exact R
/-- the loop of set(xs): c keys are there, those of seen -/
theorem set_keys_loop {I : Addr} {fp wr : List Addr} {G : Array GenState → Array GenState → Prop} {n : Nat} {Pv : Nat → Value → Prop} {St : Nat → Shared → Prop} {R : Result → Shared → Prop}
    (W : WalksS P w A.in1 I fp wr G n Pv St) (Z : Addr) (out : Z ∉ fp) (ks : List Key) (hn : n = ks.length) (few : ks.length + 1 < scanBound) (hval : ∀ i v, Pv i v → ∃ k, ks[i]? = some k ∧ RelV (kV k) v) (fin : ∀ s' c, Moved (Z :: wr) G s s' → c = ndF [] ks → (∃ S, s'.heap.SetOf (mixKind P w) Z S c) → R (.ok (.ret .none)) s') :
    ∀ (r i : Nat) (t : Shared) (seen : List Key) (c : Nat), n - i = r → i ≤ n → St i t → Moved (Z :: wr) G s t → t.heap.SetOf (mixKind P w) Z (fun j => decide (j ∈ seen)) c → c ≤ i → c + ndF seen (ks.drop i) = ndF [] ks →
      codeAny (model P w) A (.builtin "set.update.loop" ⟨[.ref Z, .ref I], []⟩) R t := by
  have outw : Z ∉ wr := fun h => out (W.sub _ h)
  have inw : ∀ b ∈ wr, b ∈ Z :: wr := fun b hb => List.mem_cons_of_mem _ hb
  intro r
  induction r with
  | zero =>
    intro i t seen c hr hi st mv hS hc tot
    have hin : i = n := by omega
    subst hin
    refine codeAny_builtin F.entry_set_update_loop ?_
    rw [Around.under_plainId F.plain_set_update_loop _]
    show wpAny _ A.in1 (pyNext (.ref I) >>= _) _ _ t
    refine wpAny_bind (W.done t _ _ st fun t2 m2 => ?_)
    show wpAny _ A.in1 (ret Value.none) _ _ t2
    rw [List.drop_of_length_le (by omega)] at tot
    have tot : c + 0 = ndF [] ks := tot
    exact wpAny_pure (fin t2 c (Moved.trans W.gtrans mv (m2.mono inw)) (by omega) ⟨_, setOf_at hS fun o e => m2.heap Z o outw e⟩)
  | succ r ih =>
    intro i t seen c hr hi st mv hS hc tot
    have hlt : i < n := by omega
    refine codeAny_builtin F.entry_set_update_loop ?_
    rw [Around.under_plainId F.plain_set_update_loop _]
    show wpAny _ A.in1 (pyNext (.ref I) >>= _) _ _ t
    refine wpAny_bind (W.item i t _ _ hlt st fun v t2 hP st2 m2 => ?_)
    obtain ⟨k, ek, rk⟩ := hval i v hP
    have hS2 := setOf_at hS fun o e => m2.heap Z o outw e
    show wpAny _ A.in1 (holding [v] (setAdd Z v) >>= _) _ _ t2
    refine wpAny_bind (wpAny_holding ?_)
    unfold setAdd
    refine wpAny_holding ?_
    refine wpAny_bind ((mixKind P w).pyHash (k := k) (kV_is rk) ?_)
    refine wpAny_setAddHashed_of (knd := mixKind P w) (s := { t2 with toks := t2.toks + 1 }) (kV_is rk) (key_scan rk) hS2 (by omega) fun h3 sb hS3 => ?_
    have dr : ks.drop i = k :: ks.drop (i + 1) := by
      obtain ⟨h1, h2⟩ := List.getElem?_eq_some_iff.mp ek
      rw [List.drop_eq_getElem_cons h1, h2]
    rw [dr] at tot
    have m3 : Moved (Z :: wr) G s { t2 with heap := h3, toks := t2.toks + 1 } := Moved.trans W.gtrans mv ((m2.mono inw).then_heap (Nat.le_succ _) fun b o hb e => (by
      rw [sb.2 b (fun h : b = Z => hb (by rw [h]; exact List.mem_cons_self))]; exact e))
    have st3 : St (i + 1) { t2 with heap := h3, toks := t2.toks + 1 } := W.frame _ t2 _ _ st2 (Nat.le_succ _) fun b hb o e => (by
      rw [sb.2 b (fun h : b = Z => out (by rw [← h]; exact hb))]; exact e)
    by_cases hk : k ∈ seen
    · have tot : c + (if k ∈ seen then ndF seen (ks.drop (i + 1)) else ndF (k :: seen) (ks.drop (i + 1)) + 1) = ndF [] ks := tot
      rw [if_pos hk] at tot
      rw [if_pos (by simpa using hk)] at hS3
      refine wpAny_pure ⟨plainId_quiet F.plain_set_update_loop _, ih (i + 1) _ seen c (by omega) hlt st3 m3 (setOf_cong hS3 fun j => ?_) (by omega) tot⟩
      by_cases hj : j = k
      · subst hj; simp [hk]
      · simp [hj]
    · have tot : c + (if k ∈ seen then ndF seen (ks.drop (i + 1)) else ndF (k :: seen) (ks.drop (i + 1)) + 1) = ndF [] ks := tot
      rw [if_neg hk] at tot
      rw [if_neg (by simpa using hk)] at hS3
      refine wpAny_pure ⟨plainId_quiet F.plain_set_update_loop _, ih (i + 1) _ (k :: seen) (c + 1) (by omega) hlt st3 m3 (setOf_cong hS3 fun j => ?_) (by omega) (by omega)⟩
      by_cases hj : j = k
      · subst hj; simp [hk]
      · simp [hj]
set_option maxHeartbeats 6000000 in
/-- set(xs), xs a list of ints and texts -/
theorem set_of_keys {p : Addr} {vs : Array Value} (ks : List Key) {Q : Value → Shared → Prop} (quiet : A.handled = none) (isl : s.heap.IsList p vs) (its : ∀ (i : Nat) (v : Value), vs[i]? = some v → ∃ k, ks[i]? = some k ∧ RelV (kV k) v) (eqn : vs.size = ks.length) (few : ks.length + 1 < scanBound)
    (fin : ∀ (hp : Heap) (tk : Nat), (∃ S, hp.SetOf (mixKind P w) s.heap.objs.size S (ndF [] ks)) → (∀ b o, s.heap.get? b = some o → hp.get? b = some o) → Q (.ref s.heap.objs.size) { s with heap := hp, toks := tk }) :
    wpAny (model P w) A (call (.type "set") [.ref p]) Q E s := by
  obtain ⟨_, tl, hmro⟩ := F.called_set.mro
  have a1 := F.called_set.made
  have a2 := F.called_set.sub
  refine wpAny_call (codeAny_of_tree ?_)
  show wpAny _ _ (callAny (.type "set") _) _ _ _
  refine wpAny_pure ⟨Code.quiet_builtin _ (by decide +kernel), codeAny_builtin F.entry_type_call ?_⟩
  rw [Around.under_plain (weight_type_call_type "set" [.ref p] []) rfl]
  have a3 := F.called_set.notType
  have a4 := F.called_set.canCreate
  have a5 := F.typeCall_set_1 (.ref p)
  repeat (any_goals (first | assumption | wp_step))
  refine codeAny_mono (code_set_led1 (.ref p) (E := E) (Q₁ := fun ob z => ob = .ref s.heap.objs.size ∧ z = { s with heap := s.heap.push (nS w) }) ⟨rfl, rfl⟩) fun r1 z1 g1 => ?_
  rcases r1 with e | fl
  · exact g1
  cases fl with
  | ret ob =>
    obtain ⟨rfl, rfl⟩ := g1
    have b1 : (s.heap.push (nS w)).get? s.heap.objs.size = some (nS w) := Heap.get?_push_size _ rfl
    have b2 : Shared.TypeIs { s with heap := s.heap.push (nS w) } (.ref s.heap.objs.size) "set" := ⟨_, b1, rfl⟩
    have b3 := F.called_set.init.lookup
    have b4 := F.called_set.init.bind (.ref s.heap.objs.size)
    repeat (any_goals (first | assumption | wp_step))
    refine codeAny_mono (codeAny_call_builtin (R := wants (fun r2 z2 => r2 = .none ∧ ∃ hp tk, z2 = { s with heap := hp, toks := tk } ∧ (∃ S, hp.SetOf (mixKind P w) s.heap.objs.size S (ndF [] ks)) ∧
        (∀ b o, s.heap.get? b = some o → hp.get? b = some o)) E) F.called_set.init.plain F.entry_set_init (check_set_init_1 b2 ?_)) fun r2 z2 g2 => ?_
    · obtain ⟨ob, c1, c2, n0, c3⟩ := isl
      obtain ⟨k1, k2, k3, k4⟩ := ob
      simp only at c2 c3
      subst c2; subst c3
      have c4 : (s.heap.push (nS w)).get? p = some { cls := .type "list", dict := k2, data := .seq vs n0, slots := k4 } := Heap.get?_push_of_some _ c1
      have c5 := F.sub_list_set
      have c6 := F.sub_list_frozenset
      have c7 : (Value.type "list" == Value.type "dict") = false := by decide
      have c8 : (s.heap.push (nS w)).IsList p vs := ⟨_, c4, rfl, n0, rfl⟩
      unfold Builtin.«set.__init__» noKeywords Builtin.Frozenset.updateFrom
      generalize hPI : pyIter = PI
      wp_walk
      subst hPI
      refine wpAny_pyIter_list c8 ?_
      refine wpAny_bind (wpAny_runValue ?_)
      have d1 : p < s.heap.objs.size := Heap.lt_size c1
      have d2 : A.in1.in1.in1.handled = none := by simp [quiet]
      have d3 : (s.heap.push (nS w)).objs.size = s.heap.objs.size + 1 := Heap.size_push ..
      have d4 : p ≠ (s.heap.push (nS w)).objs.size := by rw [d3]; exact Nat.ne_of_lt (Nat.lt_succ_of_lt d1)
      have d5 : s.heap.objs.size ∉ [(s.heap.push (nS w)).objs.size, p] := by
        rw [d3]
        intro z
        rcases List.mem_cons.1 z with z | z
        · exact Nat.ne_of_lt (Nat.lt_succ_self _) z
        · exact Nat.ne_of_gt d1 (List.mem_singleton.1 z)
      have new : ((s.heap.push (nS w)).push { cls := .type "list_iterator", data := .fields #[.ref p, .int 0 0] }).SetOf (mixKind P w) s.heap.objs.size (fun j => decide (j ∈ ([] : List Key))) 0 :=
        ⟨_, #[], 0, _, Heap.get?_push_of_some _ b1, ⟨rfl, rfl, rfl⟩, rfl, (fun e he => by simp at he), (fun k => by simp), (by decide), (by rfl), rfl⟩
      have Wk := (Walks.list (prog := P) (w := w) (A := A.in1.in1.in1) d2 _ p d4 vs).toS
      refine set_keys_loop (s := { s with heap := (s.heap.push (nS w)).push { cls := .type "list_iterator", data := .fields #[.ref p, .int 0 0] } }) Wk s.heap.objs.size d5 ks eqn few its (fun z3 c9 mv ec R2 => ?_) (vs.size - 0) 0 _ [] 0 (by omega) (Nat.zero_le _) ⟨⟨_, Heap.get?_push_size _ rfl, rfl, rfl⟩, (c8.push _)⟩ (Moved.refl Wk.grefl) new (Nat.le_refl _) (by rw [List.drop_zero]; exact Nat.zero_add _)
      obtain ⟨hp, g3, dr, tk, os⟩ := z3
      have e1 : g3 = s.gens := mv.gens
      have e2 : dr = s.drawn := mv.drawn
      have e3 : os = s.os := mv.os
      subst e1; subst e2; subst e3
      show wpAny _ _ _ _ _ _
      refine wpAny_pure ?_
      show wpAny _ _ (ret Value.none) _ _ _
      subst ec
      refine wpAny_pure ⟨rfl, hp, tk, rfl, R2, fun b o e => ?_⟩
      have f1 : b < s.heap.objs.size := Heap.lt_size e
      refine mv.heap b o (fun z => ?_) (Heap.get?_push_of_some _ (Heap.get?_push_of_some _ e))
      rcases List.mem_cons.1 z with z | z
      · exact Nat.ne_of_lt f1 z
      · have := List.mem_singleton.1 z
        rw [this, d3] at f1
        exact absurd f1 (Nat.not_lt.mpr (Nat.le_succ _))
    · rcases r2 with e | fl2
      · exact g2
      cases fl2 with
      | ret r3 =>
        obtain ⟨rfl, hp, tk, rfl, R2, old⟩ := g2
        repeat (any_goals (first | assumption | wp_step))
        exact fin _ _ R2 old
      | _ => exact g2.elim
  | _ => exact g1.elim
end
theorem keysD_rep {G : Gx} {W : Wd} : ∀ {xs : List D} {ks : List Key} {vs : List V}, keysD xs = some ks → Reps G W xs vs → vs = ks.map kV
  | [], ks, vs, h, r => by
    cases h
    exact r
  | d :: ds, ks, vs, h, r => by
    obtain ⟨v, t, rfl, r1, r2⟩ := r
    have h : ((keyD d).bind fun k => (keysD ds).map (k :: ·)) = some ks := h
    obtain ⟨k, e1, h⟩ := Option.bind_eq_some_iff.mp h
    obtain ⟨l, e2, rfl⟩ := Option.map_eq_some_iff.mp h
    rw [keysD_rep e2 r2]
    cases d with
    | int i => cases e1; have r1 : v = .int i := r1; rw [r1]; rfl
    | str x => cases e1; have r1 : v = .str x := r1; rw [r1]; rfl
    | _ => cases e1
section
variable {C : Ct} {k : Ck} {X : Cx} {a : Expr} {ca : Ex} {pos q0 p p2 : Pos}
theorem r_lset (c : Cok C k X) (hk : k.calm = true) (g : Gok C) (h1 : glC k.sc "len" = true) (h2 : glC k.sc "set" = true) (hp : plainA a = true) (ha : PE X a (tB C ca)) :
    PE X (.Call (.Name "len" p) [.Call (.Name "set" p2) [a] [] q0] [] pos) (tE C true (.lset ca)) := by
  refine ⟨fun pins s σ H Q I ⟨W, S, ρ, sim, eok, q⟩ => ?_⟩
  unfold ev at q
  have arg : tB C ca σ H fun v H1 => ∃ (l : Addr) (ks : List Key), v = .ref l ∧ SqL X.K H1 l (ks.map kV) ∧ ks.length ≤ 60 ∧ Q (.int (ndF [] ks : Nat)) H1 := by
    refine tG.bind sim eok q fun W1 S1 H1 y v st1 sim1 eok1 pv1 q1 => ?_
    obtain ⟨d, e, fin⟩ := q1.opt
    have vr := pv1.view sim1
    generalize view S1 y = yy at e vr
    unfold lsetD at e
    split at e
    · rename_i xs
      obtain ⟨ks, e1, e2⟩ := Option.bind_eq_some_iff.mp e
      split at e2
      · rename_i hl
        cases e2
        obtain ⟨l, vs, ev', hF, r1⟩ := vr.lst sim1.fz
        rw [keysD_rep e1 r1] at hF
        exact ⟨l, ks, ev', .of hF, hl, fin W1 H1 _ st1 sim1 (.of_rep rfl (.inr rfl))⟩
      · cases e2
    · cases e
  refine Call_ (ld_blt I (glC_ok c h1) (by rw [c.mg]; exact g.bn _ (by decide +kernel)) boot_len ?_)
  refine PyProof.Rows.callWith_builtin1 (PyProof.Rows.args_cons ?_ rfl) rfl rfl
  refine Call_ (ld_blt I (glC_ok c h2) (by rw [c.mg]; exact g.bn _ (by decide +kernel)) boot_set ?_)
  refine PyProof.Rows.callWith_type1 (PyProof.Rows.args_cons (thn (ha.run pins s σ H _ I arg) fun v s1 ⟨x, H1, I1, r1, q1⟩ => PyProof.Rows.args_nil ?_) (by rw [star_of hp])) (by rw [star_of hp]) rfl
  obtain ⟨l, ks, rfl, hq, hl, q1⟩ := q1
  cases r1
  obtain ⟨its, r, pl, hz⟩ := I1.list hq
  have hlen : its.toArray.size = ks.length := by rw [List.size_toArray, ← r.length, List.length_map]
  refine set_of_keys (P := X.prog) (w := X.w) ks (I1.ok.hd (c.hc hk)) pl.isList (fun i v hv => ?_) hlen (by unfold scanBound; omega) fun h' tk hS old => ?_
  · have hv : its[i]? = some v := by simpa using hv
    have hi : i < ks.length := by
      have := (List.getElem?_eq_some_iff.mp hv).1
      rw [← r.length, List.length_map] at this
      exact this
    obtain ⟨u, eu, ru⟩ := r.get (i := i) (x := kV ks[i]) (by rw [List.getElem?_map, List.getElem?_eq_getElem hi]; rfl)
    rw [hv] at eu
    cases eu
    exact ⟨ks[i], List.getElem?_eq_getElem hi, ru⟩
  refine PyProof.Rows.args_nil ?_
  obtain ⟨S', o, es, ep, t, ho, hex, hd, _, _, _, hf, hn⟩ := hS
  have I2 : Inv X pins σ H1 { s1 with heap := h', toks := tk } := I1.kept old
  have nd := ndF_le [] ks
  exact call_len_set ho hex hd hf (by rw [hn]; omega) ⟨.int (ndF [] ks : Nat), H1, I2.tok _, ⟨_, by rw [hn]⟩, q1⟩
end
end DI
set_option Elab.async false
set_option linter.all false
set_option maxRecDepth 100000
set_option maxHeartbeats 4000000
/-! DI7: what is walked. -/
namespace PySem
namespace DIE
open Sem (wp)
/-- the object that enumerate makes over the iterator at a -/
def enO (a : Addr) : Obj := { cls := .type "enumerate", data := .fields #[.none, .bool false, .ref a, rawInt 0, .none, .none] }
theorem en1_meets {v : Value} {ob : Obj} {Z : Heap → Prop} (B : Begins v ob Z) :
    Meets (Builtin.«enumerate.__new__» ⟨[.type "enumerate", v], []⟩) (fun _ R s => Z s.heap ∧ R (.ok (.ret (.ref (s.heap.push ob).objs.size))) { s with heap := (s.heap.push ob).push (enO s.heap.objs.size) }) :=
  .of_wp fun prog w A R s ⟨z, fin⟩ => by
    obtain ⟨hp, g, d, tk, os⟩ := s
    have sub := sub_enumerate
    have turn : ∀ {A' : Around} {E P : Value → Shared → Prop}, P (.ref hp.objs.size) ⟨hp.push ob, g, d, tk, os⟩ → wpAny (model prog w) A' (pyIter v) P E ⟨hp, g, d, tk, os⟩ := fun {A' E P} p => B.iter prog w A' E ⟨hp, g, d, tk, os⟩ P z p
    wp_walk using turn
    refine wpAny_stack_any fun below => wpAny_pure ?_
    split
    · rename_i cc _ _ _ _ _
      cases (cc == Value.type "enumerate") <;> (wp_walk using turn; exact ⟨_, rfl, fin⟩)
    · wp_walk using turn
      exact ⟨_, rfl, fin⟩
/-- enumerate(v) -/
theorem en1_call {M : Program} {w : World} {A : Around} {E Q : Value → Shared → Prop} {s : Shared} {v : Value} {ob : Obj} {Z : Heap → Prop} (B : Begins v ob Z) (z : Z s.heap)
    (fin : ∀ h2, h2.get? (s.heap.objs.size + 1) = some (enO s.heap.objs.size) → h2.get? s.heap.objs.size = some ob → (∀ b o, s.heap.get? b = some o → h2.get? b = some o) → Q (.ref (s.heap.objs.size + 1)) { s with heap := h2 }) :
    wpAny (model M w) A (call (.type "enumerate") [v]) Q E s := by
  have sz : (s.heap.push ob).objs.size = s.heap.objs.size + 1 := Heap.size_push ..
  refine callType_new F.called_enumerate (by decide) (F.typeCall_enumerate_1 _) (F.newCall_enumerate_1 _) (fun x => F.args_object_init_2 x _) F.entry_enumerate_new (en1_meets B) ⟨z, ?_⟩
  have at1 : ((s.heap.push ob).push (enO s.heap.objs.size)).get? (s.heap.objs.size + 1) = some (enO s.heap.objs.size) := by
    have q := Heap.get?_push_size (s.heap.push ob) (o := enO s.heap.objs.size) rfl
    rwa [sz] at q
  show _ ∧ _
  rw [sz]
  exact ⟨⟨_, at1, rfl⟩, fin _ at1 (Heap.get?_push_of_some _ (Heap.get?_push_size _ B.free)) fun b o e => Heap.get?_push_of_some _ (Heap.get?_push_of_some _ e)⟩
end DIE
end PySem
namespace DI
open PySem PySem.Spec PyProof.Rows L2
/-- the tuple at a, item by item in new pairs -/
def IteT (K : PySem.W.Frag) (a : Addr) : It :=
  ⟨fun i H => ∃ (xs : List V) (x : V), SqT K H a xs ∧ xs[i]? = some x,
    fun i H v H' => ∃ t x, v = .ref t ∧ H t = none ∧ H' = upd H t (.tup [.int (i : Nat), x]) ∧ ∀ xs, SqT K H a xs → xs[i]? = some x,
    fun i H => ∃ xs : List V, SqT K H a xs ∧ xs.length ≤ i⟩
theorem draws_over {P : Program} {w : World} {A : Around} (hh : A.handled = none) (it a : Addr) (items : Array Value) (i : Nat) (hi : items.size ≤ i) :
    Draws P w A it [it, a] i (fun _ _ => True) (fun j h => j = i ∧ h.IsTupleIter it a j ∧ h.IsTuple a items) where
  live := fun _ _ st => let ⟨o, ho, _⟩ := st.2.1; ⟨o, ho⟩
  frame := fun _ _ _ st k => ⟨st.1, st.2.1.at fun o e => k it (by simp) o e, st.2.2.at fun o e => k a (by simp) o e⟩
  item := fun j s Q E hj st _ => absurd st.1 (Nat.ne_of_lt hj)
  done := fun s Q E st hE => wpAny_nextOf_tuple_end hh st.2.1 st.2.2 (by simp [hi]) hE
theorem turn_enT {P : Program} {w : World} {K : PySem.W.Frag} {elts : List Expr} {kk : Nat} {tpos : Pos} (a e it : Addr) (h1 : e ≠ it) (h2 : e ≠ a) (h3 : a ≠ it) :
    Turn P w K (.Tuple elts kk tpos) (IteT K a) [e, it] e (fun i h => (∃ old, IsEnum h e it ((0 : Int) + (i : Nat)) old) ∧ h.IsTupleIter it a i) where
  mem := by simp
  obj := fun i h st b hb => by
    obtain ⟨⟨old, he⟩, o, ho, _, hd⟩ := st
    rcases (show b = e ∨ b = it by simpa using hb) with rfl | rfl
    · exact ⟨_, he, fun v q => nomatch q⟩
    · exact ⟨o, ho, fun v q => by rw [hd] at q; cases q⟩
  keep := fun i h h' st k => ⟨st.1.imp fun old he => k e (by simp) _ he, st.2.at fun o q => k it (by simp) o q⟩
  item := by
    intro X hP hw hK hc i pins s σ H E I hf st hg
    subst hP hw hK
    obtain ⟨xs, x, hq, hx⟩ := hg
    obtain ⟨its, rv, p, hz⟩ := I.tuple hq
    obtain ⟨u, hu, ru⟩ := rv.get hx
    have hl := rv.length
    have il : i < its.toArray.size := by
      have := (List.getElem?_eq_some_iff.mp hu).1
      simpa using this
    have D := Draws.tuple (prog := X.prog) (w := X.w) (A := X.A.in1) (I.ok.hd hc) it a h3 its.toArray
    have G := GoesN.enumFrom (elts := elts) (x1 := kk) (pos := tpos) 0 D e h1 (by simp [h1, h2]) (by simp)
    refine G.goes i s _ E il ⟨st.1, st.2, p⟩ fun v h' tk hY st' hk htk => ?_
    obtain ⟨T, t, z, rfl, hT, hzz, hTup⟩ := hY
    have ez : z = u := by
      have q : its[i]? = some z := by simpa using hzz
      rw [hu] at q
      exact (Option.some.inj q).symm
    subst ez
    have new : ObjOk X.prog X.w (upd H T (.tup [.int (i : Nat), x])) h' T (.tup [.int (i : Nat), x]) :=
      ⟨by show 2 ≤ sizeLine; decide, [.int ((0 : Int) + (i : Nat)) t, z], .cons ⟨t, by rw [Int.zero_add]⟩ (.cons ru .nil), hTup⟩
    have I1 := I.turnedNew (t' := tk) (ch := [e, it]) hk hf hT new
    refine ⟨.ref T, _, I1, rfl, ⟨T, x, rfl, I.hok.fresh hT, rfl, fun ys hy => by rw [I.tuple_inj hy hq]; exact hx⟩, ⟨st'.1, st'.2.1⟩, fun b hb => ?_⟩
    obtain ⟨ob, eb, _⟩ : ∃ ob, s.heap.get? b = some ob ∧ True := by
      rcases (show b = e ∨ b = it by simpa using hb) with rfl | rfl
      · obtain ⟨old, he⟩ := st.1; exact ⟨_, he, trivial⟩
      · obtain ⟨o, ho, _⟩ := st.2; exact ⟨o, ho, trivial⟩
    rw [upd_ne (Nat.ne_of_lt (Nat.lt_of_lt_of_le (Heap.lt_size eb) hT))]
    exact (hf b hb).1
  done := by
    intro X hP hw hK hc i pins s σ H E I hf st hg
    subst hP hw hK
    obtain ⟨xs, hq, hx⟩ := hg
    obtain ⟨its, rv, p, hz⟩ := I.tuple hq
    have hl := rv.length
    have D := draws_over (P := X.prog) (w := X.w) (A := X.A.in1) (I.ok.hd hc) it a its.toArray i (by simp; omega)
    have G := GoesN.enumFrom (elts := elts) (x1 := kk) (pos := tpos) 0 D e h1 (by simp [h1, h2]) (by simp)
    exact G.stops s _ E ⟨st.1, rfl, st.2, p⟩ fun h' tk hk htk => I.turnedL (t' := tk) (ch := [e, it]) hk hf
  self := fun A i s Q E st h => let ⟨⟨_, he⟩, _⟩ := st; wpAny_pyIter_enum he h
/-! ### what is promised of an iterator -/
def OwnA (σ : L2.St) (ρ : Ev) (p : Addr) : Prop := ∃ (i : Nat) (o : Ob), ρ[i]? = some (.own o) ∧ σ[i]? = some (some (.ref p))
/-- what a turn yields, for its target -/
def YRep (G : Gx) (W : Wd) (H : Hp) (p : Pat) (d : D) (x : V) : Prop := match p with
  | .nm _ => Rep G W d x
  | .tp _ => ∀ ds, d = .tup ds → ∃ a xs, x = .ref a ∧ SqT G.K H a xs ∧ Reps G W ds xs
theorem YRep.of {G : Gx} {W : Wd} {H : Hp} {p : Pat} {d : D} {x : V} (f : Exh W.F H) (h : Rep G W d x) : YRep G W H p d x := by
  cases p with
  | nm i => exact h
  | tp is =>
    intro ds e
    subst e
    obtain ⟨a, vs, e, t, r⟩ := h
    exact ⟨a, vs, e, f.sqt t.sqt, r⟩
def ItOk (C : Ct) (p : Pat) (zs : Addr → Prop) (W' : Wd) (H' : Hp) (w : List D × Option Nat) (J : It) : Prop :=
  ∀ W1 S1 H1, Wle W' W1 → Sim C.G W1 S1 H1 → srcOk S1 w.2 w.1 = true → (∀ a o, zs a → H' a = some o → H1 a = some o) →
    (∀ (i : Nat) (d : D), w.1[i]? = some d → J.go i H1 ∧ ∀ x H2, J.yld i H1 x H2 → ∃ W2, Stp W1 H1 W2 H2 ∧ Sim C.G W2 S1 H2 ∧ YRep C.G W2 H2 p d x) ∧ J.stop w.1.length H1
abbrev ItP (C : Ct) (p : Pat) (it : Itx) (σ : L2.St) (ρ : Ev) : Wd → Hp → List D × Option Nat → It → Prop := fun W' H' w J => ItOk C p (fun a => srcOwn ρ it = true ∧ OwnA σ ρ a) W' H' w J
def tI (C : Ct) (p : Pat) (it : Itx) : TI := fun σ H R => ∃ W S ρ, Sim C.G W S H ∧ Eok C W H ρ σ ∧
  RP (evI C.cl it ρ S) (fun w S' => ∀ W' H' J, Stp W H W' H' → Sim C.G W' S' H' → ItP C p it σ ρ W' H' w J → R J H') (ErrK C σ W H)
theorem _root_.L2.PI.imp {X : Cx} {tg e : Expr} {t t' : TI} (h : PI X tg e t) (w : ∀ σ H Q, t' σ H Q → t σ H Q) : PI X tg e t' := ⟨fun pins s σ H Q I q => h.run pins s σ H Q I (w σ H Q q)⟩
/-- a value that is walked: frozen, or an own object -/
def WRep (C : Ct) (σ : L2.St) (ρ : Ev) (c : Ex) (W : Wd) (H : Hp) (d : D) (v : V) : Prop :=
  Rep C.G W d v ∨ ((own? ρ c).isSome = true ∧ ∃ p o, v = .ref p ∧ OwnA σ ρ p ∧ obOf d = some o ∧ ObAt C.G W H p o)
def tW (C : Ct) (c : Ex) : TE := fun σ H Q => ∃ W S ρ, Sim C.G W S H ∧ Eok C W H ρ σ ∧
  RP (bw c ρ S (ev C.cl c ρ S)) (fun d S' => ∀ W' H' v, Stp W H W' H' → Sim C.G W' S' H' → WRep C σ ρ c W' H' d v → Q v H') (ErrK C σ W H)
section
variable {C : Ct} {k : Ck} {X : Cx} {pos : Pos} {a b d e tg : Expr} {ca cb cd : Ex} {es : List Expr} {cs : Exs} {pt : Pat}
theorem tW.bind {γ : Type} {f : D → Store → R γ} {P : γ → Store → Prop} {K : V → Hp → Prop} {W : Wd} {S : Store} {ρ : Ev} {σ : L2.St} {H : Hp} (sim : Sim C.G W S H) (eok : Eok C W H ρ σ) (h : RP ((bw ca ρ S (ev C.cl ca ρ S)).bind f) P (ErrK C σ W H))
    (k : ∀ W1 S1 H1 d v, Stp W H W1 H1 → Sim C.G W1 S1 H1 → Eok C W1 H1 ρ σ → WRep C σ ρ ca W1 H1 d v → RP (f d S1) P (ErrK C σ W1 H1) → K v H1) : tW C ca σ H K :=
  ⟨W, S, ρ, sim, eok, h.bind.imp (fun a S1 q W1 H1 v st s1 pv => k W1 S1 H1 a v st s1 (eok.mv st) pv (q.imp (fun _ _ z => z) fun _ _ z => z.mv st)) fun _ _ z => z⟩
theorem w_var {i : Nat} {x : Str} (c : Cok C k X) (h : varC k i x = true) : PE X (.Name x pos) (tW C (.var i)) := by
  obtain ⟨h1, h2, h3, h4⟩ := varC_ok c h
  refine (pe_var h1 h2 h3 h4).imp fun σ H Q ⟨W, S, ρ, sim, eok, q⟩ => ?_
  unfold bw own? ev at q
  dsimp only at q
  cases e : ρ[i]? with
  | none => simp only [e] at q; exact False.elim q
  | some sl =>
    simp only [e] at q
    cases sl with
    | own o =>
      obtain ⟨p, e1, r, f, n, _, z⟩ := eok.own _ _ e
      exact ⟨.ref p, e1, q W H _ (.refl _ _) sim (.inr ⟨by unfold own?; simp only [e]; rfl, p, o, rfl, ⟨i, o, e, e1⟩, z, r⟩)⟩
    | val d =>
      obtain ⟨v, e1, r⟩ := eok.val _ _ e
      exact ⟨v, e1, q W H v (.refl _ _) sim (.inl r)⟩
    | un => exact False.elim q
    | exc _ => exact False.elim q
theorem w_of (h : PE X e (tE C false ca)) (n : ∀ i, ca ≠ .var i) : PE X e (tW C ca) := by
  refine h.imp fun σ H Q ⟨W, S, ρ, sim, eok, q⟩ => ⟨W, S, ρ, sim, eok, ?_⟩
  have e : bw ca ρ S (ev C.cl ca ρ S) = ev C.cl ca ρ S := by
    unfold bw own?
    cases ca <;> first | rfl | exact absurd rfl (n _)
  rw [e] at q
  exact q.imp (fun d S' k W' H' v st s pv => k W' H' v st s (.inl pv)) fun _ _ z => z
/-- a list that stands, its items at each turn -/
theorem itl_ok {p : Pat} {zs : Addr → Prop} {W' : Wd} {H' : Hp} {xs : List D} {src : Option Nat} {a : Addr}
    (key : ∀ W1 S1 H1, Wle W' W1 → Sim C.G W1 S1 H1 → srcOk S1 src xs = true → (∀ a o, zs a → H' a = some o → H1 a = some o) → ∃ vs, SqL C.G.K H1 a vs ∧ Reps C.G W1 xs vs) : ItOk C p zs W' H' (xs, src) (Itl C.G.K a) := by
  intro W1 S1 H1 le sim ok hz
  obtain ⟨vs, h, r⟩ := key W1 S1 H1 le sim ok hz
  have l := r.length
  refine ⟨fun i d e => ?_, vs, h, by show vs.length ≤ xs.length; omega⟩
  obtain ⟨v, e2, rv⟩ := r.get e
  refine ⟨⟨vs, v, h, e2⟩, fun x H2 y => ?_⟩
  obtain ⟨rfl, y⟩ := y
  have := y vs h
  rw [e2] at this
  cases this
  exact ⟨W1, .refl _ _, sim, .of sim.fz rv⟩
theorem itt_ok {p : Pat} {zs : Addr → Prop} {W' : Wd} {H' : Hp} {xs : List D} {vs : List V} {a : Addr} (h : SqT C.G.K W'.F a vs) (r : Reps C.G W' xs vs) : ItOk C p zs W' H' (xs, none) (Itt C.G.K a) := by
  intro W1 S1 H1 le sim ok hz
  have h := (le.F.trans sim.fz).sqt h
  have r := r.le le
  have l := r.length
  refine ⟨fun i d e => ?_, vs, h, by show vs.length ≤ xs.length; omega⟩
  obtain ⟨v, e2, rv⟩ := r.get e
  refine ⟨⟨vs, v, h, e2⟩, fun x H2 y => ?_⟩
  obtain ⟨rfl, y⟩ := y
  have := y vs h
  rw [e2] at this
  cases this
  exact ⟨W1, .refl _ _, sim, .of sim.fz rv⟩
theorem rngN_get : ∀ {n : Nat} {a c : Int} {i : Nat} {d : D}, (rngN a n c)[i]? = some d → i < n ∧ d = .int (a + (i : Nat) * c)
  | 0, _, _, _, _, h => by simp [rngN] at h
  | n + 1, a, c, 0, d, h => by
    simp [rngN] at h
    exact ⟨Nat.succ_pos _, by rw [← h]; simp⟩
  | n + 1, a, c, i + 1, d, h => by
    obtain ⟨h1, h2⟩ := rngN_get (n := n) (a := a + c) (c := c) (i := i) (d := d) (by simpa [rngN] using h)
    refine ⟨Nat.succ_lt_succ h1, ?_⟩
    rw [h2]
    congr 1
    push_cast
    rw [Int.add_mul, Int.one_mul]
    omega
theorem rngN_len : ∀ (n : Nat) (a c : Int), (rngN a n c).length = n
  | 0, _, _ => rfl
  | n + 1, a, c => by simp [rngN, rngN_len n]
theorem itr_ok {p : Pat} {zs : Addr → Prop} {W' : Wd} {H' : Hp} {lo c : Int} {n : Nat} : ItOk C p zs W' H' (rngN lo n c, none) (Itc lo c n) := by
  intro W1 S1 H1 le sim ok hz
  refine ⟨fun i d e => ?_, ?_⟩
  · obtain ⟨h1, h2⟩ := rngN_get e
    refine ⟨h1, fun x H2 y => ?_⟩
    obtain ⟨rfl, rfl⟩ := y
    exact ⟨W1, .refl _ _, sim, .of sim.fz (by rw [h2]; exact rfl)⟩
  · show n ≤ (rngN lo n c).length
    rw [rngN_len]; exact Nat.le_refl _
theorem itr1_ok {p : Pat} {zs : Addr → Prop} {W' : Wd} {H' : Hp} {lo : Int} {n : Nat} : ItOk C p zs W' H' (rngN lo n 1, none) (Itr lo n) := by
  intro W1 S1 H1 le sim ok hz
  refine ⟨fun i d e => ?_, ?_⟩
  · obtain ⟨h1, h2⟩ := rngN_get e
    refine ⟨h1, fun x H2 y => ?_⟩
    obtain ⟨rfl, rfl⟩ := y
    exact ⟨W1, .refl _ _, sim, .of sim.fz (by rw [h2, Int.mul_one]; exact rfl)⟩
  · show n ≤ (rngN lo n 1).length
    rw [rngN_len]; exact Nat.le_refl _
theorem its_ok {p : Pat} {zs : Addr → Prop} {W' : Wd} {H' : Hp} {x : Str} : ItOk C p zs W' H' (signs x, none) (Its x) := by
  intro W1 S1 H1 le sim ok hz
  refine ⟨fun i d e => ?_, ?_⟩
  · unfold signs at e
    rw [List.getElem?_map] at e
    obtain ⟨cc, e1, rfl⟩ := Option.map_eq_some_iff.mp e
    have hl := (List.getElem?_eq_some_iff.mp e1).1
    refine ⟨(show i < x.cps.size by simpa using hl), fun v H2 y => ?_⟩
    obtain ⟨rfl, c2, e2, rfl⟩ := y
    have : c2 = cc := by
      have q : x.cps.toList[i]? = some c2 := by simpa using e2
      rw [e1] at q
      exact (Option.some.inj q).symm
    subst this
    exact ⟨W1, .refl _ _, sim, .of sim.fz rfl⟩
  · show x.cps.size ≤ (signs x).length
    unfold signs; simp
/-- where a list, a tuple or a text is walked -/
theorem pi_any (c : Cok C k X) {te : TE} (h : PE X e te) :
    PI X tg e (fun σ H R => te σ H fun x H1 => (∃ a xs, x = .ref a ∧ SqL C.G.K H1 a xs ∧ R (Itl C.G.K a) H1) ∨ (∃ a xs, x = .ref a ∧ SqT C.G.K H1 a xs ∧ R (Itt C.G.K a) H1) ∨ ∃ z, x = .str z ∧ R (Its z) H1) := by
  refine ⟨fun pins s σ H R I w => thn (h.run pins s σ H _ I w) fun v s1 ⟨x, H1, I1, rx, q⟩ => ?_⟩
  rw [← c.K] at q
  rcases q with ⟨a, xs, rfl, hq, q⟩ | ⟨a, xs, rfl, hq, q⟩ | ⟨z, rfl, q⟩
  · obtain rfl : v = Value.ref a := rx
    obtain ⟨its, _, pl, _⟩ := I1.list hq
    exact wpAny_pyIter_list pl.isList (pi_one (tk := s1.toks) I1 _ (turn_list a _) ⟨_, Heap.get?_push_size _ rfl, rfl, rfl⟩ q)
  · obtain rfl : v = Value.ref a := rx
    obtain ⟨its, _, pl, _⟩ := I1.tuple hq
    exact wpAny_pyIter_tuple (show s1.heap.IsTuple a its.toArray from pl) (pi_one (tk := s1.toks) I1 _ (turn_tuple a _) ⟨_, Heap.get?_push_size _ rfl, rfl, rfl⟩ q)
  · obtain ⟨t, rfl⟩ := rx
    cases low : z.cps.all (· < 128)
    · exact wpAny_pyIter_wide low (pi_one (tk := s1.toks) I1 _ (turn_str _ z t "str_iterator" (.inr rfl)) ⟨_, Heap.get?_push_size _ rfl, rfl, rfl⟩ q)
    · exact wpAny_pyIter_ascii low (pi_one (tk := s1.toks) I1 _ (turn_str _ z t "str_ascii_iterator" (.inl rfl)) ⟨_, Heap.get?_push_size _ rfl, rfl, rfl⟩ q)
/-- the list behind a walked value, as it stands at each turn -/
theorem wrep_lst {σ : L2.St} {ρ : Ev} {W : Wd} {H : Hp} {S : Store} {xs : List D} {v : V} {zs : Addr → Prop} (w : WRep C σ ρ ca W H (.lst xs) v) (sim : Sim C.G W S H) (hz : (own? ρ ca).isSome = true → ∀ p, OwnA σ ρ p → zs p) :
    ∃ a vs, v = .ref a ∧ SqL C.G.K H a vs ∧ ∀ (src : Option Nat) W1 S1 H1, Wle W W1 → Sim C.G W1 S1 H1 → srcOk S1 src xs = true → (∀ a o, zs a → H a = some o → H1 a = some o) → ∃ vs, SqL C.G.K H1 a vs ∧ Reps C.G W1 xs vs := by
  rcases w with w | ⟨ho, p, o, rfl, oa, eo, at_⟩
  · obtain ⟨a, vs, e, q, r⟩ := w
    exact ⟨a, vs, e, .of (sim.fz _ _ q), fun src W1 S1 H1 le s1 _ _ => ⟨vs, .of (s1.fz _ _ (le.F _ _ q)), r.le le⟩⟩
  · cases eo
    obtain ⟨vs, q, r⟩ := at_
    exact ⟨p, vs, rfl, .of q, fun src W1 S1 H1 le s1 _ z => ⟨vs, .of (z p _ (hz ho p oa) q), r.le le⟩⟩
theorem i_of (c : Cok C k X) (h : PE X e (tW C ca)) : PI X tg e (tI C pt (.of ca)) :=
  (pi_any c h).imp fun σ H R ⟨W, S, ρ, sim, eok, q⟩ => by
    unfold evI at q
    refine tW.bind sim eok q fun W1 S1 H1 x v st1 sim1 eok1 pv1 q1 => ?_
    obtain ⟨w, e, fin⟩ := q1.opt
    have hz : (own? ρ ca).isSome = true → ∀ p, OwnA σ ρ p → (fun a => srcOwn ρ (.of ca) = true ∧ OwnA σ ρ a) p := fun o p q => ⟨o, q⟩
    cases x with
    | lst xs =>
      cases e
      obtain ⟨a, vs, ev, hq, key⟩ := wrep_lst pv1 sim1 hz
      exact .inl ⟨a, vs, ev, hq, fin W1 H1 _ st1 sim1 (itl_ok (src := none) fun W1 S1 H1 le s ok z => key none W1 S1 H1 le s ok z)⟩
    | ro xs =>
      cases e
      rcases pv1 with r | ⟨_, _, _, _, _, z, _⟩
      · obtain ⟨a, vs, ev, hq, r⟩ := r
        exact .inl ⟨a, vs, ev, sim1.fz.sql hq, fin W1 H1 _ st1 sim1 (itl_ok (src := none) fun W1 S1 H1 le s _ _ => ⟨vs, (le.F.trans s.fz).sql hq, r.le le⟩)⟩
      · cases z
    | tup xs =>
      cases e
      rcases pv1 with r | ⟨_, _, _, _, _, z, _⟩
      · obtain ⟨a, vs, ev, hq, r⟩ := r
        exact .inr (.inl ⟨a, vs, ev, sim1.fz.sqt hq.sqt, fin W1 H1 _ st1 sim1 (itt_ok hq.sqt r)⟩)
      · cases z
    | str z =>
      cases e
      rcases pv1 with r | ⟨_, _, _, _, _, z, _⟩
      · exact .inr (.inr ⟨z, r, fin W1 H1 _ st1 sim1 its_ok⟩)
      · cases z
    | obj n =>
      rcases pv1 with r | ⟨_, _, _, _, _, z, _⟩
      · obtain ⟨ev, hn⟩ := r
        unfold ofD at e
        dsimp only at e
        cases e1 : S1[n]? with
        | none => rw [e1] at e; cases e
        | some o =>
          rw [e1] at e
          cases o with
          | lst xs =>
            cases e
            obtain ⟨vs, hv, r⟩ := sim1.ob n _ e1
            refine .inl ⟨_, vs, ev, .of hv, fin W1 H1 _ st1 sim1 (itl_ok (src := some n) fun W2 S2 H2 le s ok _ => ?_)⟩
            unfold srcOk at ok
            dsimp only at ok
            cases e2 : S2[n]? with
            | none => rw [e2] at ok; cases ok
            | some o2 =>
              rw [e2] at ok
              cases o2 with
              | lst ys =>
                have ok := of_decide_eq_true ok
                subst ok
                obtain ⟨us, hu, ru⟩ := s.ob n _ e2
                rw [le.A n hn] at hu
                exact ⟨us, .of hu, ru⟩
              | dic _ => cases ok
              | ins _ _ => cases ok
          | dic _ => cases e
          | ins _ _ => cases e
      · cases z
    | _ => cases e
theorem small62_of {i : Int} (h : small62 i = true) : -(2 ^ 62) ≤ i ∧ i < 2 ^ 62 := by
  unfold small62 two62 at h
  simp only [Bool.and_eq_true, decide_eq_true_eq] at h
  omega
theorem i_rng1 {p : Pos} (c : Cok C k X) (g : Gok C) (hx : glC k.sc "range" = true) (hp : plainA a = true) (ha : PE X a (tE C false ca)) : PI X tg (.Call (.Name "range" p) [a] [] pos) (tI C pt (.rng (.cons ca .nil))) :=
  (pi_range1 (glC_ok c hx) (by rw [c.mg]; exact g.bn _ (by decide +kernel)) (pa_one hp ha) (star_of hp _)).imp fun σ H R ⟨W, S, ρ, sim, eok, q⟩ => by
    unfold evI evs at q
    unfold iRng1 tCons
    refine tG.bind sim eok q.bind fun W1 S1 H1 x v st1 sim1 eok1 pv1 q1 => ?_
    have q1 := RP.val (α := List D) (a := [x]) (S := S1) (by unfold evs; rfl) q1
    obtain ⟨w, e, fin⟩ := q1.opt
    cases x with
    | int j =>
      have e : (if small62 j = true then some (rngN 0 j.toNat 1) else none).map (fun xs => (xs, (none : Option Nat))) = some w := e
      split at e
      · rename_i hs
        cases e
        have b := small62_of hs
        exact ⟨j, by rw [show v = V.int j from pv1.rep], b.1, b.2, fin W1 H1 _ st1 sim1 itr1_ok⟩
      · cases e
    | _ => cases e
theorem i_rng2 {p : Pos} (c : Cok C k X) (g : Gok C) (hx : glC k.sc "range" = true) (hp : plainA a = true) (hp2 : plainA b = true) (ha : PE X a (tE C false ca)) (hb : PE X b (tE C false cb)) :
    PI X tg (.Call (.Name "range" p) [a, b] [] pos) (tI C pt (.rng (.cons ca (.cons cb .nil)))) :=
  (pi_range2 (glC_ok c hx) (by rw [c.mg]; exact g.bn _ (by decide +kernel)) (pa_cons ha (pa_one hp2 hb) (star_of hp _)) (by rw [star_of hp, star_of hp2]; rfl) (by rw [star_of hp2]; rfl)).imp fun σ H R ⟨W, S, ρ, sim, eok, q⟩ => by
    unfold evI evs evs at q
    unfold iRng2 tCons
    refine tG.bind sim eok q.bind fun W1 S1 H1 x v st1 sim1 eok1 pv1 q1 => tG.bind sim1 eok1 q1.bind fun W2 S2 H2 y u st2 sim2 eok2 pv2 q2 => ?_
    have q2 := RP.val (α := List D) (a := [y]) (S := S2) (by unfold evs; rfl) q2
    have q2 := RP.val (α := List D) (a := [x, y]) (S := S2) rfl q2
    obtain ⟨w, e, fin⟩ := RP.opt q2
    cases x with
    | int i =>
      cases y with
      | int j =>
        have e : (if (small62 i && small62 j) = true then some (rngN i (j - i).toNat 1) else none).map (fun xs => (xs, (none : Option Nat))) = some w := e
        split at e
        · rename_i hs
          cases e
          rw [Bool.and_eq_true] at hs
          have b1 := small62_of hs.1
          have b2 := small62_of hs.2
          exact ⟨i, j, by rw [show v = V.int i from pv1.rep, show u = V.int j from pv2.rep], ⟨b1.1, b1.2, b2.1, b2.2⟩, fin W2 H2 _ (st1.trans st2) sim2 itr1_ok⟩
        · cases e
      | _ => cases e
    | _ => cases e
theorem i_rng3 {p : Pos} (c : Cok C k X) (g : Gok C) (hx : glC k.sc "range" = true) (hp : plainA a = true) (hp2 : plainA b = true) (hp3 : plainA d = true) (ha : PE X a (tE C false ca)) (hb : PE X b (tE C false cb)) (hd : PE X d (tE C false cd)) :
    PI X tg (.Call (.Name "range" p) [a, b, d] [] pos) (tI C pt (.rng (.cons ca (.cons cb (.cons cd .nil))))) :=
  (pi_range3 (glC_ok c hx) (by rw [c.mg]; exact g.bn _ (by decide +kernel)) (pa_cons ha (pa_cons hb (pa_one hp3 hd) (star_of hp2 _)) (star_of hp _)) (star_of hp _) (noStar (by simp [hp2, hp3]) _ _)).imp fun σ H R ⟨W, S, ρ, sim, eok, q⟩ => by
    unfold evI evs evs evs at q
    unfold iRng3 tCons
    refine tG.bind sim eok q.bind fun W1 S1 H1 x v st1 sim1 eok1 pv1 q1 => tG.bind sim1 eok1 q1.bind fun W2 S2 H2 y u st2 sim2 eok2 pv2 q2 => tG.bind sim2 eok2 q2.bind fun W3 S3 H3 z w st3 sim3 eok3 pv3 q3 => ?_
    have q3 := RP.val (α := List D) (a := [z]) (S := S3) (by unfold evs; rfl) q3
    have q3 := RP.val (α := List D) (a := [y, z]) (S := S3) rfl q3
    have q3 := RP.val (α := List D) (a := [x, y, z]) (S := S3) rfl q3
    obtain ⟨w', e, fin⟩ := RP.opt q3
    obtain ⟨xs, e1, rfl⟩ := Option.map_eq_some_iff.mp e
    have key : ∃ i j : Int, x = .int i ∧ y = .int j ∧ z = .int (-1) ∧ small62 i = true ∧ small62 j = true ∧ xs = rngN i (i - j).toNat (-1) := by
      unfold rngD at e1
      split at e1
      · rename_i h; cases h
      · rename_i h; cases h
      · rename_i i j h
        cases h
        split at e1
        · rename_i hs
          rw [Bool.and_eq_true] at hs
          exact ⟨i, j, rfl, rfl, rfl, hs.1, hs.2, (Option.some.inj e1).symm⟩
        · cases e1
      · cases e1
    obtain ⟨i, j, rfl, rfl, rfl, s1, s2, rfl⟩ := key
    have b1 := small62_of s1
    have b2 := small62_of s2
    exact ⟨i, j, -1, (i - j).toNat, by rw [show v = V.int i from pv1.rep, show u = V.int j from pv2.rep, show w = V.int (-1) from pv3.rep], .neg b1.1 b1.2 b2.1 b2.2, fin W3 H3 _ ((st1.trans st2).trans st3) sim3 itr_ok⟩
theorem i_rrg {p p2 pos2 : Pos} (c : Cok C k X) (g : Gok C) (hx : glC k.sc "range" = true) (hy : glC k.sc "reversed" = true) (hp : plainA a = true) (ha : PE X a (tE C false ca)) :
    PI X tg (.Call (.Name "reversed" p) [.Call (.Name "range" p2) [a] [] pos2] [] pos) (tI C pt (.rrg ca)) :=
  (pi_revR (glC_ok c hy) (by rw [c.mg]; exact g.bn _ (by decide +kernel)) (prg_1 (glC_ok c hx) (by rw [c.mg]; exact g.bn _ (by decide +kernel)) ha (star_of hp _))).imp fun σ H R ⟨W, S, ρ, sim, eok, q⟩ => by
    unfold evI at q
    unfold iRevR tRg1
    refine tG.bind sim eok q fun W1 S1 H1 x v st1 sim1 eok1 pv1 q1 => ?_
    cases x with
    | int b =>
      dsimp only at q1
      split at q1
      · rename_i hs
        have b2 := small62_of hs
        refine ⟨b, pv1.rep, by decide, by decide, b2.1, b2.2, q1 W1 H1 _ st1 sim1 ?_⟩
        rw [Int.sub_zero]
        intro W2 S2 H2 le s ok hz
        refine ⟨fun i d e => ?_, ?_⟩
        · obtain ⟨h1, h2⟩ := rngN_get e
          refine ⟨h1, fun y H3 yy => ?_⟩
          obtain ⟨rfl, rfl⟩ := yy
          refine ⟨W2, .refl _ _, s, .of s.fz ?_⟩
          rw [h2]
          show V.int _ = V.int _
          congr 1
          omega
        · show b.toNat ≤ (rngN (b - 1) b.toNat (-1)).length
          rw [rngN_len]; exact Nat.le_refl _
      · exact False.elim q1
    | _ => exact False.elim q1
/-- enumerate of a list, a tuple -/
theorem pi_enA {elts : List Expr} {kk : Nat} {p tpos : Pos} (c : Cok C k X) (g : Gok C) (hx : glC k.sc "enumerate" = true) (hp : plainA a = true) {te : TE} (h : PE X a te) :
    PI X (.Tuple elts kk tpos) (.Call (.Name "enumerate" p) [a] [] pos) (fun σ H R => te σ H fun x H1 => (∃ a xs, x = .ref a ∧ SqL C.G.K H1 a xs ∧ R (Ite C.G.K a) H1) ∨ (∃ a xs, x = .ref a ∧ SqT C.G.K H1 a xs ∧ R (IteT C.G.K a) H1)) := by
  refine ⟨fun pins s σ H R I w => ?_⟩
  refine Call_ (ld_blt I (glC_ok c hx) (by rw [c.mg]; exact g.bn _ (by decide +kernel)) PyProof.Rows.boot_enumerate (PyProof.Rows.callWith_type1 (one_arg h I w (fun v s1 x H1 I1 rx q => ?_) (star_of hp _)) (star_of hp _)))
  rw [← c.K] at q
  have lo : ∀ b, b ∈ [s1.heap.objs.size + 1, s1.heap.objs.size] → FpOk X pins H1 b := fun b hb => by
    have le : s1.heap.objs.size ≤ b := by
      rcases (show b = s1.heap.objs.size + 1 ∨ b = s1.heap.objs.size by simpa using hb) with z | z
      · rw [z]; exact Nat.le_succ _
      · rw [z]; exact Nat.le_refl _
    exact I1.fpOk le (I1.hok.fresh le)
  rcases q with ⟨a, xs, rfl, hq, q⟩ | ⟨a, xs, rfl, hq, q⟩
  · obtain rfl : v = Value.ref a := rx
    obtain ⟨its, _, pl, _⟩ := I1.list hq
    refine DIE.en1_call (begins_list a its.toArray) pl.isList fun h2 e1 e2 kp => wpAny_pyIter_enum e1 ?_
    exact ⟨_, _, _, _, H1, rfl, I1.kept (t' := s1.toks) kp, turn_enum a _ _, ⟨⟨_, e1⟩, ⟨_, e2, rfl, rfl⟩, Nat.succ_ne_self _⟩, lo, q⟩
  · obtain rfl : v = Value.ref a := rx
    obtain ⟨its, _, pl, _⟩ := I1.tuple hq
    have al : a < s1.heap.objs.size := let ⟨o, e, _⟩ := pl; Heap.lt_size e
    refine DIE.en1_call (begins_tuple a its.toArray) pl fun h2 e1 e2 kp => wpAny_pyIter_enum e1 ?_
    exact ⟨_, _, _, _, H1, rfl, I1.kept (t' := s1.toks) kp, turn_enT a _ _ (Nat.succ_ne_self _) (Nat.ne_of_gt (Nat.lt_succ_of_lt al)) (Nat.ne_of_lt al), ⟨⟨_, e1⟩, ⟨_, e2, rfl, rfl⟩⟩, lo, q⟩
theorem enumD_get : ∀ {xs : List D} {n i : Nat} {d : D}, (enumD n xs)[i]? = some d → ∃ x, xs[i]? = some x ∧ d = .tup [.int ((n + i : Nat) : Int), x]
  | [], _, _, _, h => by simp [enumD] at h
  | x :: xs, n, 0, d, h => by
    simp [enumD] at h
    exact ⟨x, rfl, by rw [← h]; simp⟩
  | x :: xs, n, i + 1, d, h => by
    obtain ⟨y, h1, h2⟩ := enumD_get (xs := xs) (n := n + 1) (i := i) (d := d) (by simpa [enumD] using h)
    exact ⟨y, by simpa using h1, by rw [h2]; congr 3; omega⟩
theorem enumD_len : ∀ (xs : List D) (n : Nat), (enumD n xs).length = xs.length
  | [], _ => rfl
  | x :: xs, n => by simp [enumD, enumD_len xs]
theorem enL_ok {is : List Nat} {zs : Addr → Prop} {W' : Wd} {H' : Hp} {xs : List D} {a : Addr}
    (key : ∀ W1 S1 H1, Wle W' W1 → Sim C.G W1 S1 H1 → (∀ a o, zs a → H' a = some o → H1 a = some o) → ∃ vs, SqL C.G.K H1 a vs ∧ Reps C.G W1 xs vs) : ItOk C (.tp is) zs W' H' (enumD 0 xs, none) (Ite C.G.K a) := by
  intro W1 S1 H1 le sim ok hz
  obtain ⟨vs, h, r⟩ := key W1 S1 H1 le sim hz
  have l := r.length
  refine ⟨fun i d e => ?_, vs, h, by show vs.length ≤ (enumD 0 xs).length; rw [enumD_len]; omega⟩
  obtain ⟨x, e1, rfl⟩ := enumD_get e
  obtain ⟨v, e2, rv⟩ := r.get e1
  refine ⟨⟨vs, v, h, e2⟩, fun y H2 yy => ?_⟩
  obtain ⟨t, z, rfl, ht, rfl, y⟩ := yy
  have := y vs h
  rw [e2] at this
  cases this
  refine ⟨W1, .push ht, sim.push ht, fun ds ed => ?_⟩
  cases ed
  exact ⟨t, _, rfl, .of upd_same, Reps.cons (by show V.int _ = V.int _; rw [Nat.zero_add]) (.one rv)⟩
theorem enT_ok {is : List Nat} {zs : Addr → Prop} {W' : Wd} {H' : Hp} {xs : List D} {vs : List V} {a : Addr} (h : SqT C.G.K W'.F a vs) (r : Reps C.G W' xs vs) : ItOk C (.tp is) zs W' H' (enumD 0 xs, none) (IteT C.G.K a) := by
  intro W1 S1 H1 le sim ok hz
  have h := (le.F.trans sim.fz).sqt h
  have r := r.le le
  have l := r.length
  refine ⟨fun i d e => ?_, vs, h, by show vs.length ≤ (enumD 0 xs).length; rw [enumD_len]; omega⟩
  obtain ⟨x, e1, rfl⟩ := enumD_get e
  obtain ⟨v, e2, rv⟩ := r.get e1
  refine ⟨⟨vs, v, h, e2⟩, fun y H2 yy => ?_⟩
  obtain ⟨t, z, rfl, ht, rfl, y⟩ := yy
  have := y vs h
  rw [e2] at this
  cases this
  refine ⟨W1, .push ht, sim.push ht, fun ds ed => ?_⟩
  cases ed
  exact ⟨t, _, rfl, .of upd_same, Reps.cons (by show V.int _ = V.int _; rw [Nat.zero_add]) (.one rv)⟩
/-- what enumerate and zip walk: no text -/
theorem i_enm {elts : List Expr} {kk : Nat} {p tpos : Pos} {is : List Nat} (c : Cok C k X) (g : Gok C) (hx : glC k.sc "enumerate" = true) (hp : plainA a = true) (h : PE X a (tW C ca)) :
    PI X (.Tuple elts kk tpos) (.Call (.Name "enumerate" p) [a] [] pos) (tI C (.tp is) (.enm ca)) :=
  (pi_enA c g hx hp h).imp fun σ H R ⟨W, S, ρ, sim, eok, q⟩ => by
    unfold evI at q
    refine tW.bind sim eok q fun W1 S1 H1 x v st1 sim1 eok1 pv1 q1 => ?_
    obtain ⟨w, e, fin⟩ := q1.opt
    obtain ⟨xs, e1, rfl⟩ := Option.map_eq_some_iff.mp e
    have hz : (own? ρ ca).isSome = true → ∀ p, OwnA σ ρ p → (fun a => srcOwn ρ (.enm ca) = true ∧ OwnA σ ρ a) p := fun o p q => ⟨o, q⟩
    cases x with
    | lst ys =>
      cases e1
      obtain ⟨a, vs, ev, hq, key⟩ := wrep_lst pv1 sim1 hz
      exact .inl ⟨a, vs, ev, hq, fin W1 H1 _ st1 sim1 (enL_ok fun W1 S1 H1 le s z => key none W1 S1 H1 le s rfl z)⟩
    | ro ys =>
      cases e1
      rcases pv1 with r | ⟨_, _, _, _, _, z, _⟩
      · obtain ⟨a, vs, ev, hq, r⟩ := r
        exact .inl ⟨a, vs, ev, sim1.fz.sql hq, fin W1 H1 _ st1 sim1 (enL_ok fun W1 S1 H1 le s _ => ⟨vs, (le.F.trans s.fz).sql hq, r.le le⟩)⟩
      · cases z
    | tup ys =>
      cases e1
      rcases pv1 with r | ⟨_, _, _, _, _, z, _⟩
      · obtain ⟨a, vs, ev, hq, r⟩ := r
        exact .inr ⟨a, vs, ev, sim1.fz.sqt hq.sqt, fin W1 H1 _ st1 sim1 (enT_ok hq.sqt r)⟩
      · cases z
    | _ => cases e1
end
end DI
set_option Elab.async false
set_option linter.all false
set_option maxRecDepth 100000
set_option maxHeartbeats 4000000
/-! DI8: targets, comprehensions. -/
namespace DI
open PySem PySem.Spec PyProof.Rows L2
/-! ### the slots change -/
theorem kill_get : ∀ (is : List Nat) (ρ : Ev) (j : Nat) (sl : Sl), (kill is ρ)[j]? = some sl → sl = .un ∨ (j ∉ is ∧ ρ[j]? = some sl)
  | [], ρ, j, sl, h => .inr ⟨by simp, h⟩
  | i :: is, ρ, j, sl, h => by
    rcases kill_get is (ρ.set i .un) j sl h with z | ⟨z1, z2⟩
    · exact .inl z
    · by_cases e : i = j
      · subst e
        by_cases l : i < ρ.length
        · rw [List.getElem?_set_self l] at z2
          exact .inl (Option.some.inj z2).symm
        · rw [List.getElem?_eq_none (by simpa using l)] at z2
          cases z2
      · rw [List.getElem?_set_ne e] at z2
        exact .inr ⟨by simp [z1, Ne.symm e], z2⟩
theorem kill_len : ∀ (is : List Nat) (ρ : Ev), (kill is ρ).length = ρ.length
  | [], _ => rfl
  | i :: is, ρ => (kill_len is (ρ.set i .un)).trans (by simp)
section
variable {C : Ct} {W : Wd} {H : Hp} {ρ : Ev} {σ σ' : L2.St}
/-- slots forgotten -/
theorem Eok.kill (e : Eok C W H ρ σ) (is : List Nat) (hl : σ'.length = σ.length) (h : ∀ (j : Nat), j ∉ is → σ'[j]? = σ[j]?) : Eok C W H (kill is ρ) σ' where
  len := by rw [kill_len, e.len, hl]
  val := fun i d q => by
    rcases kill_get is ρ i _ q with z | ⟨z1, z2⟩
    · cases z
    · rw [h i z1]; exact e.val i d z2
  own := fun i o q => by
    rcases kill_get is ρ i _ q with z | ⟨z1, z2⟩
    · cases z
    · rw [h i z1]; exact e.own i o z2
  dis := fun i j o o' p q1 q2 q3 q4 => by
    rcases kill_get is ρ i _ q1 with z | ⟨z1, z2⟩
    · cases z
    · rcases kill_get is ρ j _ q2 with y | ⟨y1, y2⟩
      · cases y
      · rw [h i z1] at q3
        rw [h j y1] at q4
        exact e.dis i j o o' p z2 y2 q3 q4
  exc := fun i x q => by
    rcases kill_get is ρ i _ q with z | ⟨z1, z2⟩
    · cases z
    · rw [h i z1]; exact e.exc i x z2
theorem set_get {α : Type} {l : List α} {i j : Nat} {a x : α} (h : (l.set i a)[j]? = some x) : (i = j ∧ x = a) ∨ (i ≠ j ∧ l[j]? = some x) := by
  by_cases e : i = j
  · subst e
    by_cases hl : i < l.length
    · rw [List.getElem?_set_self hl] at h
      exact .inl ⟨rfl, (Option.some.inj h).symm⟩
    · rw [List.getElem?_eq_none (by simpa using hl)] at h; cases h
  · rw [List.getElem?_set_ne e] at h
    exact .inr ⟨e, h⟩
/-- a slot gets a value -/
theorem Eok.set {i : Nat} {d : D} {v : V} (e : Eok C W H ρ σ) (hi : i < ρ.length) (r : Rep C.G W d v) : Eok C W H (ρ.set i (.val d)) (σ.set i (some v)) where
  len := by simpa using e.len
  val := fun j z q => by
    rcases set_get q with ⟨rfl, z⟩ | ⟨n, q⟩
    · cases z
      exact ⟨v, by rw [List.getElem?_set_self (by rw [← e.len]; exact hi)], r⟩
    · rw [List.getElem?_set_ne n]; exact e.val j z q
  own := fun j o q => by
    rcases set_get q with ⟨rfl, z⟩ | ⟨n, q⟩
    · cases z
    · rw [List.getElem?_set_ne n]; exact e.own j o q
  dis := fun j l o o' p q1 q2 q3 q4 => by
    rcases set_get q1 with ⟨rfl, z⟩ | ⟨n1, q1⟩
    · cases z
    · rcases set_get q2 with ⟨rfl, z⟩ | ⟨n2, q2⟩
      · cases z
      · rw [List.getElem?_set_ne n1] at q3
        rw [List.getElem?_set_ne n2] at q4
        exact e.dis j l o o' p q1 q2 q3 q4
  exc := fun j x q => by
    rcases set_get q with ⟨rfl, z⟩ | ⟨n, q⟩
    · cases z
    · rw [List.getElem?_set_ne n]; exact e.exc j x q
/-! ### targets -/
def gNs : List Nat → TGs
  | [] => gNil
  | i :: r => gCons (gName i) (gNs r)
def gP (K : PySem.W.Frag) : Pat → TG
  | .nm i => gName i
  | .tp is => gTup K is.length (gNs is)
/-- σ with the slots is changed only -/
theorem bindNs_ok : ∀ {is : List Nat} {ds : List D} {vs : List V} {ρ ρ' : Ev} {σ : L2.St} {Q : L2.St → Hp → Prop}, Eok C W H ρ σ → Reps C.G W ds vs → bindNs is ds ρ = some ρ' →
    (∀ σ', Eok C W H ρ' σ' → σ'.length = σ.length → (∀ (j : Nat), j ∉ is → σ'[j]? = σ[j]?) → Q σ' H) → gNs is vs σ H Q
  | [], ds, vs, ρ, ρ', σ, Q, e, r, h, fin => by
    cases ds with
    | nil =>
      cases h
      exact ⟨r, fin σ e rfl fun _ _ => rfl⟩
    | cons _ _ => cases h
  | i :: is, ds, vs, ρ, ρ', σ, Q, e, r, h, fin => by
    cases ds with
    | nil => cases h
    | cons d ds =>
      obtain ⟨v, us, rfl, rv, rr⟩ := r
      have h : (if i < ρ.length then bindNs is ds (ρ.set i (.val d)) else none) = some ρ' := h
      split at h
      · rename_i hi
        refine ⟨v, us, rfl, ?_⟩
        refine bindNs_ok (e.set hi rv) rr h fun σ' e' l' k' => fin σ' e' (by simpa using l') fun j hj => ?_
        have hj' : j ≠ i ∧ j ∉ is := by simpa using hj
        rw [k' j hj'.2, List.getElem?_set_ne (Ne.symm hj'.1)]
      · cases h
theorem bindP_ok {p : Pat} {d : D} {v : V} {ρ' : Ev} {K : PySem.W.Frag} {Q : L2.St → Hp → Prop} (hK : C.G.K = K) (e : Eok C W H ρ σ) (y : YRep C.G W H p d v) (h : bindP p d ρ = some ρ')
    (fin : ∀ σ', Eok C W H ρ' σ' → σ'.length = σ.length → (∀ (j : Nat), j ∉ p.slots → σ'[j]? = σ[j]?) → Q σ' H) : gP K p v σ H Q := by
  cases p with
  | nm i =>
    have h : (if i < ρ.length then some (ρ.set i (.val d)) else none) = some ρ' := h
    split at h
    · rename_i hi
      cases h
      refine fin _ (e.set hi y) (by simp) fun j hj => ?_
      have hj' : j ≠ i := by simpa [Pat.slots] using hj
      rw [List.getElem?_set_ne (Ne.symm hj')]
    · cases h
  | tp is =>
    cases d with
    | tup ds =>
      have h : bindNs is ds ρ = some ρ' := h
      obtain ⟨a, xs, rfl, hq, r⟩ := y ds rfl
      rw [hK] at hq
      have len : ∀ {is : List Nat} {ds : List D} {ρ : Ev}, bindNs is ds ρ = some ρ' → ds.length = is.length := by
        intro is
        induction is with
        | nil => intro ds ρ h; cases ds with
          | nil => rfl
          | cons _ _ => cases h
        | cons i is ih =>
          intro ds ρ h
          cases ds with
          | nil => cases h
          | cons d ds =>
            have h : (if i < ρ.length then bindNs is ds (ρ.set i (.val d)) else none) = some ρ' := h
            split at h
            · simp [ih h]
            · cases h
      exact ⟨a, xs, rfl, hq, r.length.trans (len h), bindNs_ok e r h fin⟩
    | _ => cases h
end
def wrC (k : Ck) (i : Nat) (x : Str) : Bool := decide (k.N[i]? = some x) && k.wr x
def nsC (k : Ck) : List Nat → List Expr → Bool
  | [], [] => true
  | i :: is, .Name x _ :: es => wrC k i x && nsC k is es
  | _, _ => false
def patC (k : Ck) : Pat → Expr → Bool
  | .nm i, .Name x _ => wrC k i x
  | .tp is, .Tuple es _ _ => k.calm && nsC k is es
  | _, _ => false
section
variable {C : Ct} {k : Ck} {X : Cx}
theorem g_name {i : Nat} {x : Str} {p : Pos} (c : Cok C k X) (h : wrC k i x = true) : PG X (.Name x p) (gName i) := by
  unfold wrC at h
  rw [Bool.and_eq_true, decide_eq_true_eq] at h
  have w := c.wr x h.2
  exact pg_name c.nd (by rw [c.N]; exact h.1) w.1 w.2
theorem ns_facts (c : Cok C k X) : ∀ {is : List Nat} {es : List Expr}, nsC k is es = true → PGs X es (gNs is) ∧ (assignEach es X.env).length = is.length ∧ (assignEach es X.env).findIdx? (·.1) = none
  | [], [], _ => ⟨pgs_nil, rfl, rfl⟩
  | [], e :: es, h => by cases h
  | i :: is, [], h => by cases h
  | i :: is, e :: es, h => by
    cases e with
    | Name x p =>
      have h : (wrC k i x && nsC k is es) = true := h
      rw [Bool.and_eq_true] at h
      obtain ⟨a1, a2, a3⟩ := ns_facts c h.2
      refine ⟨pgs_cons (g_name c h.1) a1, ?_, ?_⟩
      · show ((_ : Bool × _) :: assignEach es X.env).length = _
        simp [a2]
      · show ((false, _) :: assignEach es X.env).findIdx? (·.1) = none
        rw [List.findIdx?_cons]
        simp [a3]
    | _ => cases h
theorem g_pat {p : Pat} {e : Expr} (c : Cok C k X) (h : patC k p e = true) : PG X e (gP X.K p) := by
  cases p with
  | nm i => cases e with
    | Name x q => exact g_name c h
    | _ => cases h
  | tp is => cases e with
    | Tuple es j q =>
      obtain ⟨a1, a2, a3⟩ := ns_facts c (show nsC k is es = true by have h : (k.calm && nsC k is es) = true := h; rw [Bool.and_eq_true] at h; exact h.2)
      exact pg_tup (c.hc (by have h : (k.calm && nsC k is es) = true := h; rw [Bool.and_eq_true] at h; exact h.1)) a1 a2 a3
    | _ => cases h
end
/-! ### comprehensions -/
/-- an object that neither the store nor the frozen part speaks of -/
def Lone (G : Gx) (W : Wd) (H : Hp) (p : Addr) (o : Ob) : Prop := ObAt G W H p o ∧ W.F p = none ∧ ∀ k, k < W.n → p ≠ W.A k
theorem Lone.mv {G : Gx} {W W' : Wd} {H H' : Hp} {p : Addr} {o : Ob} (h : Lone G W H p o) (s : Stp W H W' H') : Lone G W' H' p o := by
  obtain ⟨b, f, a⟩ := h
  refine ⟨(b.mv fun u hu ht => s.keep p u hu a ht).le s.le, ?_, fun k hk z => ?_⟩
  · cases q : W'.F p with
    | none => rfl
    | some u =>
      rcases s.nF p (by rw [q]; simp) with z | z
      · exact absurd f z
      · exact absurd z b.some
  · by_cases hl : k < W.n
    · exact a k hl (by rw [z, s.le.A k hl])
    · have := s.nA k (Nat.not_lt.mp hl) hk
      rw [← z] at this
      exact b.some this
theorem lcL_err {f : D → Store → R (Option D)} {w : List D × Option Nat} : ∀ {l : List D} {S : Store}, (∃ xs S', lcL f w l S = .ok xs S') ∨ lcL f w l S = .bad
  | [], S => by
    unfold lcL
    split
    · exact .inl ⟨_, _, rfl⟩
    · exact .inr rfl
  | d :: r, S => by
    unfold lcL
    split
    · split
      · rename_i o S' e
        rcases lcL_err (f := f) (w := w) (l := r) (S := S') with ⟨xs, S2, e2⟩ | e2
        · rw [e2]
          cases o <;> exact .inl ⟨_, _, rfl⟩
        · rw [e2]; exact .inr rfl
      · exact .inr rfl
    · exact .inr rfl
theorem lcL_cons {f : D → Store → R (Option D)} {w : List D × Option Nat} {d : D} {r ys : List D} {S S' : Store} (h : lcL f w (d :: r) S = .ok ys S') :
    srcOk S w.2 w.1 = true ∧ ∃ o S1 zs, f d S = .ok o S1 ∧ lcL f w r S1 = .ok zs S' ∧ ys = o.toList ++ zs := by
  unfold lcL at h
  split at h
  · rename_i hs
    refine ⟨hs, ?_⟩
    split at h
    · rename_i o S1 e
      rcases lcL_err (f := f) (w := w) (l := r) (S := S1) with ⟨xs, S2, e2⟩ | e2
      · rw [e2] at h
        cases o with
        | none => cases h; exact ⟨none, S1, _, e, e2, rfl⟩
        | some x => cases h; exact ⟨some x, S1, _, e, e2, rfl⟩
      · rw [e2] at h; cases h
    · cases h
  · cases h
theorem lcL_nil {f : D → Store → R (Option D)} {w : List D × Option Nat} {ys : List D} {S S' : Store} (h : lcL f w [] S = .ok ys S') : srcOk S w.2 w.1 = true ∧ ys = [] ∧ S' = S := by
  unfold lcL at h
  split at h
  · rename_i hs; cases h; exact ⟨hs, rfl, rfl⟩
  · cases h
/-- the setting within a block: nothing may be raised -/
def Ct.nox (C : Ct) : Ct := { C with wx := fun _ _ _ _ => False }
theorem Eok.nox {C : Ct} {W : Wd} {H : Hp} {ρ : Ev} {σ : L2.St} (e : Eok C W H ρ σ) : Eok C.nox W H ρ σ := ⟨e.len, e.val, e.own, e.dis, e.exc⟩
def Ck.blk (k : Ck) (scope : Scope) : Ck := ⟨k.N, relS scope k.sc, fun x => match scope.names.lookup x with
  | some .local | some .cell => true
  | _ => false, k.calm, k.inn⟩
theorem Cok.blk {C : Ct} {k : Ck} {X : Cx} (c : Cok C k X) (hk : k.calm = true) {scope : Scope} (s : Shared) (H : Hp) (L : Addr) (cl : List (Str × Addr)) (fp : List Addr) : Cok C.nox (k.blk scope) (X.blk s H scope (compEnvC scope cl L X.env) fp) where
  P := c.P
  w := c.w
  K := c.K
  mg := c.mg
  base := c.base
  hc := c.hc
  gd := c.gd
  N := c.N
  nd := c.nd
  sc := by
    show relS scope X.env.scope = relS scope k.sc
    rw [c.sc]
  wr := fun x h => by
    have h : (match scope.names.lookup x with
      | some .local | some .cell => true
      | _ => false) = true := h
    have keep : ∀ {kd : NameKind}, kd ≠ .free → scope.names.lookup x = some kd → (relS scope X.env.scope).names.lookup x = some kd := fun n e => lookup_relS_keep n e
    split at h
    · rename_i e
      exact ⟨.inl (keep (by decide) e), .inr (keep (by decide) e)⟩
    · rename_i e
      exact ⟨.inr (keep (by decide) e), .inl (by show (scope.names.lookup x == some .cell) = true; rw [e]; rfl)⟩
    · cases h
  room := c.room
  room2 := c.room2
  units := c.units
  ce := c.ce
  ea := fun a cls d e => by
    rw [show C.nox.ea = none from c.ce hk] at e
    cases e
  tk := fun u s' ⟨_, _, _, _, _, _, _, _, _, _, _, _, _, _, _, _, z⟩ => z.elim
  tb := c.tb
theorem Gok.nox {C : Ct} (g : Gok C) : Gok C.nox := ⟨g.bn, g.fn, g.fok, g.xc, g.xe, g.xi, g.x2, g.xv, g.xn, g.xk, g.xs, g.xm, g.gl⟩
section
variable {C : Ct} {k : Ck} {X : Cx} {elt tg iter : Expr} {ce : Ex} {it : Itx} {pt : Pat} {scope : Scope} {own : List (Str × Nat)} {pos : Pos}
/-- the loop of a comprehension's block. tt, te: the tests', the element's readings; f: what a turn computes -/
theorem lc_end {σ : L2.St} {H : Hp} {Q : VK} {W : Wd} {S : Store} {ρ : Ev} {tt : TT} {te : TE} {f : D → Store → R (Option D)} {vs : List Nat} (hK : C.G.K = X.K) (hv : vs = pt.slots) (sim : Sim C.G W S H) (eok : Eok C W H ρ σ)
    (turn : ∀ W1 S1 H1 ρ' σ' d o S2 (K : Option V → Hp → Prop), Sim C.G W1 S1 H1 → Eok C W1 H1 ρ' σ' → bindP pt d (kill pt.slots ρ) = some ρ' → f d S1 = .ok o S2 →
      (∀ W2 H2 y, Stp W1 H1 W2 H2 → Sim C.G W2 S2 H2 → (match o, y with | none, none => True | some x, some v => Rep C.G W2 x v | _, _ => False) → K y H2) → tt σ' H1 fun b H3 => if b = true then te σ' H3 fun y H4 => K (some y) H4 else K none H3)
    (hb : ∀ d S1 o S2, f d S1 = .ok o S2 → ∃ ρ', bindP pt d (kill pt.slots ρ) = some ρ')
    (q : RP ((evI C.cl it ρ S).bind fun w S => (lcL f w w.1 S).bind fun xs S => if xs.length ≤ lim then .ok (.lst xs) S else .bad) (fun a S' => ∀ W' H' v, Stp W H W' H' → Sim C.G W' S' H' → PostV C.G true W' H H' a v → Q v H') (ErrK C σ W H)) :
    tLc (tI C pt it) (gP X.K pt) tt te vs σ H Q := by
  subst hv
  unfold tLc
  refine ⟨W, S, ρ, sim, eok, q.bind.imp (fun w S1 q1 W1 H1 J st1 sim1 itok => ?_) fun _ _ z => z⟩
  intro D hD
  rcases lcL_err (f := f) (w := w) (l := w.1) (S := S1) with ⟨xs, Sf, e⟩ | e
  · rw [e] at q1
    have q1 : RP (α := DI.D) (if xs.length ≤ lim then R.ok (DI.D.lst xs) Sf else .bad) _ _ := q1
    have hl : xs.length ≤ lim := by
      by_cases h : xs.length ≤ lim
      · exact h
      · rw [if_neg h] at q1; exact False.elim q1
    rw [if_pos hl] at q1
    have eok1 := eok.mv st1
    refine ⟨fun i m Hc => m = w.1.length - i ∧ i ≤ w.1.length ∧ ∃ W2 S2 ds ys, Stp W1 H1 W2 Hc ∧ Sim C.G W2 S2 Hc ∧ Lone C.G W2 Hc D (.lst ds) ∧ lcL f w (w.1.drop i) S2 = .ok ys Sf ∧ ds ++ ys = xs, ⟨w.1.length, rfl, Nat.zero_le _, W1, S1, [], xs, .push hD, sim1.push hD, ?_, e, rfl⟩, ?_⟩
    · refine ⟨⟨[], upd_same, rfl⟩, ?_, fun k hk z => ?_⟩
      · cases h : W1.F D with
        | none => rfl
        | some o => rw [sim1.fz D o h] at hD; cases hD
      · rw [sim1.len] at hk
        have := (sim1.ob k _ (List.getElem?_eq_getElem hk)).some
        rw [← z] at this
        exact this hD
    · rintro i m Hc ⟨rfl, hi, W2, S2, ds, ys, st2, sim2, lone, e2, eq⟩
      have hz : ∀ a o, srcOwn ρ it = true ∧ OwnA σ ρ a → H1 a = some o → Hc a = some o := fun a o ⟨_, j, ob, o1, o2⟩ h => by
        obtain ⟨p, p1, p2, _, p3, _⟩ := eok1.own j ob o1
        rw [o2] at p1
        cases p1
        refine st2.keep a o h p3 fun ps z => ?_
        subst z
        cases ob with
        | lst _ => obtain ⟨_, z, _⟩ := p2; rw [h] at z; cases z
        | dic _ => obtain ⟨_, z, _⟩ := p2; rw [h] at z; cases z
        | ins _ _ => obtain ⟨_, _, z, _⟩ := p2; rw [h] at z; cases z
      by_cases hlt : i < w.1.length
      · have ed : w.1.drop i = w.1[i] :: w.1.drop (i + 1) := List.drop_eq_getElem_cons hlt
        rw [ed] at e2
        obtain ⟨hs, o, S3, zs, ef, er, ey⟩ := lcL_cons e2
        obtain ⟨go, yl⟩ := (itok W2 S2 Hc st2.le sim2 hs hz).1 i w.1[i] (List.getElem?_eq_getElem hlt)
        refine .inr ⟨go, fun Hn => ∃ W3 S3 ds ys, Stp W1 H1 W3 Hn ∧ Sim C.G W3 S3 Hn ∧ Lone C.G W3 Hn D (.lst ds) ∧ lcL f w (w.1.drop (i + 1)) S3 = .ok ys Sf ∧ ds ++ ys = xs, fun Hn n => ⟨_, by omega, rfl, hlt, n⟩, fun x Hy y => ?_⟩
        obtain ⟨W3, st3, sim3, yr⟩ := yl x Hy y
        obtain ⟨ρ', eb⟩ := hb _ _ _ _ ef
        have eok3 := (eok1.mv (st2.trans st3)).kill (σ' := wipe σ pt.slots) pt.slots (wipe_length _ _) fun j hj => wipe_out hj
        refine bindP_ok hK eok3 yr eb fun σ2 e2' hl2 hj2 => ⟨?_, ?_⟩
        · refine List.ext_getElem? fun j => ?_
          by_cases hj : j ∈ pt.slots
          · have w0 : ∀ {τ : L2.St}, j < τ.length → (wipe τ pt.slots)[j]? = some none := fun {τ} hτ => by
              cases h : (wipe τ pt.slots)[j]? with
              | none => rw [List.getElem?_eq_none_iff, wipe_length] at h; omega
              | some z =>
                cases z with
                | none => rfl
                | some z => exact absurd hj (wipe_some h).2
            by_cases hτ : j < σ.length
            · rw [w0 (by rw [hl2, wipe_length]; exact hτ), w0 hτ]
            · rw [List.getElem?_eq_none (by rw [wipe_length, hl2, wipe_length]; omega), List.getElem?_eq_none (by rw [wipe_length]; omega)]
          · rw [wipe_out hj, wipe_out hj, hj2 j hj, wipe_out hj]
        · refine (turn W3 S2 Hy ρ' σ2 w.1[i] o S3 (fun y Hn => match y with
            | some y => ∃ acc, Hn D = some (.lst acc) ∧ acc.length < sizeLine ∧ ∃ W3 S3 ds ys, Stp W1 H1 W3 (upd Hn D (.lst (acc ++ [y]))) ∧ Sim C.G W3 S3 (upd Hn D (.lst (acc ++ [y]))) ∧ Lone C.G W3 (upd Hn D (.lst (acc ++ [y]))) D (.lst ds) ∧ lcL f w (w.1.drop (i + 1)) S3 = .ok ys Sf ∧ ds ++ ys = xs
            | none => ∃ W3 S3 ds ys, Stp W1 H1 W3 Hn ∧ Sim C.G W3 S3 Hn ∧ Lone C.G W3 Hn D (.lst ds) ∧ lcL f w (w.1.drop (i + 1)) S3 = .ok ys Sf ∧ ds ++ ys = xs) sim3 e2' eb ef fun W4 H4 y st4 sim4 oy => ?_)
          have lone4 := lone.mv (st3.trans st4)
          have stA := (st2.trans st3).trans st4
          cases o with
          | none =>
            cases y with
            | none => exact ⟨W4, S3, ds, zs, stA, sim4, lone4, er, by rw [← eq, ey]; rfl⟩
            | some _ => exact oy.elim
          | some x =>
            cases y with
            | none => exact oy.elim
            | some y =>
              obtain ⟨⟨acc, ha, ra⟩, lf, la⟩ := lone4
              have lac : acc.length < sizeLine := by
                rw [ra.length]
                have h2 : (ds ++ ys).length ≤ lim := by rw [eq]; exact hl
                rw [ey] at h2
                simp at h2
                exact lim_lt (by omega)
              refine ⟨acc, ha, lac, W4, S3, ds ++ [x], zs, stA.other hD (by rw [ha]; simp), sim4.other lf la (by rw [ha]; exact .lst), ⟨⟨_, upd_same, ra.append (.one oy)⟩, lf, la⟩, er, ?_⟩
              rw [← eq, ey]
              simp
      · have ei : i = w.1.length := by omega
        subst ei
        rw [List.drop_length] at e2
        obtain ⟨hs, rfl, rfl⟩ := lcL_nil e2
        rw [List.append_nil] at eq
        subst eq
        refine .inl ⟨(itok W2 Sf Hc st2.le sim2 hs hz).2, q1 W2 Hc _ (st1.trans st2) sim2 (.of_fresh ⟨D, .lst ds, rfl, rfl, lone.1, lone.2.1, lone.2.2, ?_⟩)⟩
        cases h : H D with
        | none => rfl
        | some o => exact absurd hD (st1.dom D (by rw [h]; simp))
  · rw [e] at q1
    exact False.elim q1
def plainS : Expr → Bool
  | .Set .. => false
  | _ => true
theorem folded_of (h : plainS iter = true) (env : Env) (x : Value) : foldedSetIterable iter env x = pure x := by
  cases iter <;> first | rfl | cases h
theorem lc_rd (hK : C.G.K = X.K) (ho : own.map (·.2) = pt.slots) {σ : L2.St} {H : Hp} {Q : VK} (h : tE C true (.lc ce pt it) σ H Q) : tLc (tI C pt it) (gP X.K pt) tYes (tE C.nox false ce) (own.map (·.2)) σ H Q := by
  obtain ⟨W, S, ρ, sim, eok, q⟩ := h
  unfold ev at q
  refine lc_end hK ho sim eok (fun W1 S1 H1 ρ' σ' d o S2 K sim1 eok1 eb ef fin => ?_) (fun d S1 o S2 ef => ?_) q
  · show (if true = true then tE C.nox false ce σ' H1 fun y H4 => K (some y) H4 else K none H1)
    rw [if_pos rfl]
    refine ⟨W1, S1, ρ', sim1, eok1.nox, ?_⟩
    try dsimp only at ef
    rw [eb] at ef
    dsimp only at ef
    show RP (ev C.cl ce ρ' S1) _ _
    cases e : ev C.cl ce ρ' S1 with
    | ok x S3 =>
      rw [e] at ef
      cases ef
      exact fun W' H' v st s pv => fin W' H' (some v) st s pv.rep
    | err x S3 => rw [e] at ef; cases ef
    | bad => rw [e] at ef; cases ef
  · try dsimp only at ef
    cases e : bindP pt d (kill pt.slots ρ) with
    | none => rw [e] at ef; cases ef
    | some ρ' => exact ⟨ρ', rfl⟩
theorem lcf_rd {ct : Tx} (hK : C.G.K = X.K) (ho : own.map (·.2) = pt.slots) {σ : L2.St} {H : Hp} {Q : VK} (h : tE C true (.lcf ce pt it ct) σ H Q) : tLc (tI C pt it) (gP X.K pt) (tT C.nox ct) (tE C.nox false ce) (own.map (·.2)) σ H Q := by
  obtain ⟨W, S, ρ, sim, eok, q⟩ := h
  unfold ev at q
  refine lc_end hK ho sim eok (fun W1 S1 H1 ρ' σ' d o S2 K sim1 eok1 eb ef fin => ?_) (fun d S1 o S2 ef => ?_) q
  · refine ⟨W1, S1, ρ', sim1, eok1.nox, ?_⟩
    try dsimp only at ef
    rw [eb] at ef
    dsimp only at ef
    show RP (evT C.cl ct ρ' S1) _ _
    cases e : evT C.cl ct ρ' S1 with
    | ok b S3 =>
      rw [e] at ef
      intro W2 H2 b' st2 sim2 eb'
      have eb' : b = b' := eb'
      subst eb'
      cases b with
      | false =>
        rw [if_neg (by decide)]
        cases ef
        exact fin W2 H2 none st2 sim2 trivial
      | true =>
        rw [if_pos rfl]
        have ef : (ev C.cl ce ρ' S3).bind (fun x S => R.ok (some x) S) = .ok o S2 := ef
        refine ⟨W2, S3, ρ', sim2, (eok1.mv st2).nox, ?_⟩
        show RP (ev C.cl ce ρ' S3) _ _
        cases e2 : ev C.cl ce ρ' S3 with
        | ok x S4 =>
          rw [e2] at ef
          cases ef
          exact fun W' H' v st s pv => fin W' H' (some v) (st2.trans st) s pv.rep
        | err x S4 => rw [e2] at ef; cases ef
        | bad => rw [e2] at ef; cases ef
    | err x S3 => rw [e] at ef; cases ef
    | bad => rw [e] at ef; cases ef
  · try dsimp only at ef
    cases e : bindP pt d (kill pt.slots ρ) with
    | none => rw [e] at ef; cases ef
    | some ρ' => exact ⟨ρ', rfl⟩
theorem r_lc (c : Cok C k X) (hk : k.calm = true) (hb : blkC k.N k.sc scope own = true) (ho : own.map (·.2) = pt.slots) (hi : PI X tg iter (tI C pt it)) (hp : patC (k.blk scope) pt tg = true) (hs : plainS iter = true)
    (he : ∀ Xb, Cok C.nox (k.blk scope) Xb → PE Xb elt (tE C.nox false ce)) : PE X (.ListComp elt [⟨tg, iter, [], 0⟩] scope pos) (tE C true (.lc ce pt it)) := by
  have ok : BlkOk X.N X.env.scope scope own := by rw [c.N, c.sc]; exact blkOk_by hb
  refine (pe_lc (own := own) (tt := tYes) (te := tE C.nox false ce) (g := gP X.K pt) (c.hc hk) c.nd hi ok (fun s H L cl fp => g_pat (c.blk hk s H L cl fp) hp) (fun _ _ _ _ _ => pts_nil) (fun s H L cl fp => he _ (c.blk hk s H L cl fp)) (folded_of hs X.env)).imp fun σ H Q h => ?_
  exact lc_rd c.K.symm ho h
theorem r_lcf {t : Expr} {ct : Tx} (c : Cok C k X) (hk : k.calm = true) (hb : blkC k.N k.sc scope own = true) (ho : own.map (·.2) = pt.slots) (hi : PI X tg iter (tI C pt it)) (hp : patC (k.blk scope) pt tg = true) (hs : plainS iter = true)
    (ht : ∀ Xb, Cok C.nox (k.blk scope) Xb → PT Xb t (tT C.nox ct)) (he : ∀ Xb, Cok C.nox (k.blk scope) Xb → PE Xb elt (tE C.nox false ce)) : PE X (.ListComp elt [⟨tg, iter, [t], 0⟩] scope pos) (tE C true (.lcf ce pt it ct)) := by
  have ok : BlkOk X.N X.env.scope scope own := by rw [c.N, c.sc]; exact blkOk_by hb
  refine (pe_lc (own := own) (tt := tT C.nox ct) (te := tE C.nox false ce) (g := gP X.K pt) (c.hc hk) c.nd hi ok (fun s H L cl fp => g_pat (c.blk hk s H L cl fp) hp) (fun s H L cl fp => pts_one (ht _ (c.blk hk s H L cl fp))) (fun s H L cl fp => he _ (c.blk hk s H L cl fp)) (folded_of hs X.env)).imp fun σ H Q h => ?_
  exact lcf_rd c.K.symm ho h
end
/-! ### the exception at hand -/
theorem r_isx {C : Ct} {k : Ck} {X : Cx} {i j : Nat} {n x : Str} {p p2 p3 pos : Pos} (c : Cok C k X) (g : Gok C) (hv : varC k i n = true) (hx : glC k.sc "isinstance" = true) (hy : glC k.sc x = true) (hn : nmOk x = true) (hm : (x, j) ∈ C.T.xc) :
    PE X (.Call (.Name "isinstance" p) [.Name n p2, .Name x p3] [] pos) (tE C true (.isx i j)) := by
  refine ⟨fun pins s σ H Q I ⟨W, S, ρ, sim, eok, q⟩ => ?_⟩
  unfold ev at q
  split at q
  · rename_i xc e
    obtain ⟨a, cls, d, ea, es, ecls, hl, hd⟩ := eok.exc _ _ e
    obtain ⟨X0, oe, pn, rfl, hz, hf⟩ := c.ea a cls d ea
    obtain ⟨m1, m2, m3⟩ := g.xc x j hm
    obtain ⟨v1, v2, v3, v4⟩ := varC_ok c hv
    have K : X0.K = C.G.K := c.K
    have E : ExcC X0.K (C.G.xa xc.c) := by rw [K]; exact (g.xk _ hl).2.2
    have n' := nmOk_ok hn
    subst ecls
    rcases hd with ⟨_, rfl⟩ | ⟨p, us, ne, rfl, hW, fr⟩
    · refine ((pe_callV (call_isE (X := X0) (a := a) (pn := pn) E hz hf) (.inl ⟨_, rfl⟩) (glC_ok c hx) (by rw [c.mg]; exact g.bn _ (by decide +kernel)) (by decide +kernel) (by decide +kernel) rfl
        (pa_cons (pe_var v1 v2 v3 v4) (pa_one rfl (pe_glob (v := .ref (C.G.xa j)) (glC_ok c hy) (by rw [c.mg]; exact m1) rfl n'.1)) rfl)).run pins s σ H Q I ?_)
      exact ⟨.ref a, es, _, .ref (C.G.xa j), _, rfl, fun u r => r, by rw [K]; exact (g.xs _ _ hl m3).2, q W H _ (.refl _ _) sim (.of_rep rfl (.inr rfl))⟩
    · refine ((pe_callV (call_isD (X := X0) (a := a) (pn := pn) (us := us) E hz hf) (.inl ⟨_, rfl⟩) (glC_ok c hx) (by rw [c.mg]; exact g.bn _ (by decide +kernel)) (by decide +kernel) (by decide +kernel) rfl
        (pa_cons (pe_var v1 v2 v3 v4) (pa_one rfl (pe_glob (v := .ref (C.G.xa j)) (glC_ok c hy) (by rw [c.mg]; exact m1) rfl n'.1)) rfl)).run pins s σ H Q I ?_)
      exact ⟨.ref a, es, sim.fz p _ hW, _, .ref (C.G.xa j), _, rfl, fun u r => r, by rw [K]; exact (g.xs _ _ hl m3).2, q W H _ (.refl _ _) sim (.of_rep rfl (.inr rfl))⟩
  · exact False.elim q
theorem r_isv {C : Ct} {k : Ck} {X : Cx} {i : Nat} {n : Str} {p p2 p3 pos : Pos} (c : Cok C k X) (g : Gok C) (hv : varC k i n = true) (hx : glC k.sc "isinstance" = true) (hy : glC k.sc "ValueError" = true) :
    PE X (.Call (.Name "isinstance" p) [.Name n p2, .Name "ValueError" p3] [] pos) (tE C true (.isv i)) := by
  refine ⟨fun pins s σ H Q I ⟨W, S, ρ, sim, eok, q⟩ => ?_⟩
  unfold ev at q
  split at q
  · rename_i xc e
    obtain ⟨a, cls, d, ea, es, ecls, hl, hd⟩ := eok.exc _ _ e
    obtain ⟨X0, oe, pn, rfl, hz, hf⟩ := c.ea a cls d ea
    obtain ⟨v1, v2, v3, v4⟩ := varC_ok c hv
    have K : X0.K = C.G.K := c.K
    have E : ExcC X0.K (C.G.xa xc.c) := by rw [K]; exact (g.xk _ hl).2.2
    subst ecls
    rcases hd with ⟨_, rfl⟩ | ⟨p, us, ne, rfl, hW, fr⟩
    · refine ((pe_callV (call_isE (X := X0) (a := a) (pn := pn) E hz hf) (.inl ⟨_, rfl⟩) (glC_ok c hx) (by rw [c.mg]; exact g.bn _ (by decide +kernel)) (by decide +kernel) (by decide +kernel) rfl
        (pa_cons (pe_var v1 v2 v3 v4) (pa_one rfl (pe_bltn (v := .ty "ValueError") (glC_ok c hy) (by rw [c.mg]; exact g.bn _ (by decide +kernel)) (u := .type "ValueError") (by decide +kernel) rfl (by decide +kernel) (by decide +kernel))) rfl)).run pins s σ H Q I ?_)
      exact ⟨.ref a, es, _, .type "ValueError", _, rfl, fun u r => r, by rw [K]; exact g.xv _ hl, q W H _ (.refl _ _) sim (.of_rep rfl (.inr rfl))⟩
    · refine ((pe_callV (call_isD (X := X0) (a := a) (pn := pn) (us := us) E hz hf) (.inl ⟨_, rfl⟩) (glC_ok c hx) (by rw [c.mg]; exact g.bn _ (by decide +kernel)) (by decide +kernel) (by decide +kernel) rfl
        (pa_cons (pe_var v1 v2 v3 v4) (pa_one rfl (pe_bltn (v := .ty "ValueError") (glC_ok c hy) (by rw [c.mg]; exact g.bn _ (by decide +kernel)) (u := .type "ValueError") (by decide +kernel) rfl (by decide +kernel) (by decide +kernel))) rfl)).run pins s σ H Q I ?_)
      exact ⟨.ref a, es, sim.fz p _ hW, _, .type "ValueError", _, rfl, fun u r => r, by rw [K]; exact g.xv _ hl, q W H _ (.refl _ _) sim (.of_rep rfl (.inr rfl))⟩
  · exact False.elim q
theorem FRep.look {G : Gx} {W : Wd} {f : Str} {d : D} : ∀ {fs : List (Str × D)} {us : List (Str × V)}, FRep G W fs us → fs.lookup f = some d → ∃ v, us.lookup f = some v ∧ Rep G W d v
  | [], us, _, h => by cases h
  | (k, e) :: r, us, h, q => by
    obtain ⟨v, t, rfl, rv, rt⟩ := h
    rw [lookup_putD] at q
    by_cases hk : f = k
    · rw [if_pos hk] at q
      cases q
      exact ⟨v, by rw [lookup_put, if_pos hk], rv⟩
    · rw [if_neg hk] at q
      obtain ⟨v', e', r'⟩ := FRep.look rt q
      exact ⟨v', by rw [lookup_put, if_neg hk]; exact e', r'⟩
where
  lookup_putD {f g : Str} {y : D} {fs : List (Str × D)} : ((g, y) :: fs).lookup f = if f = g then some y else fs.lookup f := by
    by_cases h : f = g
    · subst h
      simp [List.lookup]
    · have e : (f == g) = false := by simpa using h
      rw [if_neg h]
      simp [List.lookup, e]
theorem r_xfl {C : Ct} {k : Ck} {X : Cx} {i : Nat} {n f : Str} {p pos : Pos} (c : Cok C k X) (g : Gok C) (hv : varC k i n = true) (hf1 : f ∈ fldN) :
    PE X (.Attribute (.Name n p) f pos) (tE C false (.xfl i f)) := by
  refine ⟨fun pins s σ H Q I ⟨W, S, ρ, sim, eok, q⟩ => ?_⟩
  unfold ev at q
  split at q
  · rename_i xc e
    obtain ⟨a, cls, d, ea, es, ecls, hl, hd⟩ := eok.exc _ _ e
    obtain ⟨X0, oe, pn, rfl, hz, hf⟩ := c.ea a cls d ea
    obtain ⟨v1, v2, v3, v4⟩ := varC_ok c hv
    have K : X0.K = C.G.K := c.K
    have E : ExcC X0.K (C.G.xa xc.c) := by rw [K]; exact (g.xk _ hl).2.2
    subst ecls
    obtain ⟨dd, ed, q⟩ := RP.opt q
    rcases hd with ⟨e0, rfl⟩ | ⟨p', us, ne, rfl, hW, fr⟩
    · rw [e0] at ed
      cases ed
    · obtain ⟨v, ev', rv⟩ := FRep.look fr ed
      refine (pe_xf (X := X0) (a := a) (pn := pn) (d := some p') (cls := .ref (C.G.xa xc.c)) ⟨E.hg, E.hk, E.hs, E.hd⟩ (by rw [K]; exact g.xn _ _ hl hf1) hz hf (pe_var v1 v2 v3 v4)).run pins s σ H Q I ?_
      exact ⟨.ref a, es, rfl, rfl, p', us, v, rfl, sim.fz p' _ hW, ev', q W H v (.refl _ _) sim (.of_rep rv (.inl rfl))⟩
  · exact False.elim q
end DI
set_option Elab.async false
set_option linter.all false
set_option maxRecDepth 100000
set_option maxHeartbeats 4000000
/-! DA: the element of a generator expression: what is asked leaves all as it was. -/
namespace DI
open PySem PySem.Spec PyProof.Rows L2
theorem kp_trans {s s1 s2 : Shared} (a : Keeps s s1) (b : Keeps s1 s2) : Keeps s s2 := by
  obtain ⟨h1, t1, rfl, k1⟩ := a
  obtain ⟨h2, t2, rfl, k2⟩ := b
  exact ⟨h2, t2, rfl, fun x o e => k2 x o (k1 x o e)⟩
/-- while an element is asked: the generator's own names, and what stood when it was made (hb), but for P and wr -/
structure Qg (hb : Heap) (P : Addr) (wr : List Addr) (L : Addr) (loc : List (Str × Value)) (s : Shared) : Prop where
  ns : ∃ m, s.heap.Ns L m ∧ ∀ z ∈ loc, m z.1 = some z.2
  keep : ∀ b o, b ≠ P → b ∉ wr → hb.get? b = some o → s.heap.get? b = some o
section
variable {hb : Heap} {P : Addr} {wr : List Addr} {L : Addr} {loc : List (Str × Value)} {s s' : Shared}
theorem Qg.keeps (g : Qg hb P wr L loc s) (k : Keeps s s') : Qg hb P wr L loc s' := by
  obtain ⟨h', t, rfl, k⟩ := k
  obtain ⟨m, n, a⟩ := g.ns
  exact ⟨⟨m, n.at' fun o e => k _ o e, a⟩, fun b o h1 h2 e => k b o (g.keep b o h1 h2 e)⟩
end
/-- the element e is asked in env, so deep and with so many units at most; what it answers -/
def Qe (prog : Program) (w : World) (env : Env) (Dp Us : Nat) (G : Shared → Prop) (e : Expr) (R : Value → Prop) : Prop :=
  ∀ (A : Around) (E : Value → Shared → Prop) (s : Shared), A.handled = none → A.depth ≤ Dp → A.units ≤ Us → G s → wpAny (model prog w) A (eval e env) (fun y s' => R y ∧ Keeps s s') E s
section
variable {prog : Program} {w : World} {env : Env} {Dp Us : Nat} {hb : Heap} {P : Addr} {wr : List Addr} {loc : List (Str × Value)} {e a b : Expr} {R Ra Rb : Value → Prop}
theorem Qe.imp {G : Shared → Prop} (h : Qe prog w env Dp Us G e R) {R' : Value → Prop} (i : ∀ y, R y → R' y) : Qe prog w env Dp Us G e R' :=
  fun A E s h1 h2 h3 g => wpAny_mono (h A E s h1 h2 h3 g) (fun y s' q => ⟨i y q.1, q.2⟩) fun _ _ z => z
/-- a name of the generator's own -/
theorem q_loc {x : Str} {p : Pos} {v : Value} (hk : env.scope.kind = .function) (hl : env.scope.names.lookup x = some .local) (hz : (x, v) ∈ loc) (hd : (x == ("__debug__" : Str)) = false) : Qe prog w env Dp Us (Qg hb P wr env.locals loc) (.Name x p) (fun y => y = v) :=
  fun A E s h1 h2 h3 g => by
    obtain ⟨m, n, q⟩ := g.ns
    exact wpAny_Name (wpAny_loadName_local hk hl n (q _ hz) ⟨rfl, GxR.keeps_refl s⟩) hd
/-- a captured name -/
theorem q_free {x : Str} {p : Pos} {c : Addr} {v : Value} (hk : env.scope.kind = .function) (hl : env.scope.names.lookup x = some .free) (hc : env.cells.lookup x = some c) (hv : hb.IsCell c (some v)) (hP : c ≠ P) (hw : c ∉ wr) (hd : (x == ("__debug__" : Str)) = false) (hn : (x == ("__classdict__" : Str)) = false) :
    Qe prog w env Dp Us (Qg hb P wr env.locals loc) (.Name x p) (fun y => y = v) :=
  fun A E s h1 h2 h3 g => by
    obtain ⟨o, ho, hd'⟩ := hv
    exact wpAny_Name (wpAny_loadName_free hk hl hc ⟨o, g.keep c o hP hw ho, hd'⟩ ⟨rfl, GxR.keeps_refl s⟩ hn) hd
theorem ns_keep {a : Addr} {m : Str → Option Value} {s : Shared} (g : Qg hb P wr env.locals loc s) (h : hb.Ns a m) (hP : a ≠ P) (hw : a ∉ wr) : s.heap.Ns a m := h.at' fun o e => g.keep a o hP hw e
/-- a global name -/
theorem q_glob {x : Str} {p : Pos} {m : Str → Option Value} {v : Value} (hk : env.scope.kind = .function) (hl : env.scope.names.lookup x = some .globalImplicit) (hg : env.globals = mainGlobals) (hm : hb.Ns mainGlobals m) (hv : m x = some v) (hP : mainGlobals ≠ P) (hw : mainGlobals ∉ wr) (hd : (x == ("__debug__" : Str)) = false) :
    Qe prog w env Dp Us (Qg hb P wr env.locals loc) (.Name x p) (fun y => y = v) :=
  fun A E s h1 h2 h3 g => Calls.Name_function_global hk hl (Calls.loadGlobal_global (by rw [hg]; exact ns_keep g hm hP hw) hv ⟨rfl, GxR.keeps_refl s⟩) hd
/-- a built-in name -/
theorem q_blt {x : Str} {p : Pos} {m mb : Str → Option Value} {v : Value} (hk : env.scope.kind = .function) (hl : env.scope.names.lookup x = some .globalImplicit) (hg : env.globals = mainGlobals) (hm : hb.Ns mainGlobals m) (h0 : m x = none) (hP : mainGlobals ≠ P) (hw : mainGlobals ∉ wr)
    (hbn : env.builtins = builtinsNs) (hb2 : hb.Ns builtinsNs mb) (hv : mb x = some v) (hP2 : builtinsNs ≠ P) (hw2 : builtinsNs ∉ wr) (hd : (x == ("__debug__" : Str)) = false) :
    Qe prog w env Dp Us (Qg hb P wr env.locals loc) (.Name x p) (fun y => y = v) :=
  fun A E s h1 h2 h3 g => Calls.Name_function_global hk hl (Calls.loadGlobal_builtin (by rw [hg]; exact ns_keep g hm hP hw) h0 (by rw [hbn]; exact ns_keep g hb2 hP2 hw2) hv ⟨rfl, GxR.keeps_refl s⟩) hd
theorem q_int {i : Int} {j : Nat} {p : Pos} {G : Shared → Prop} : Qe prog w env Dp Us G (.Constant (.int i) j p) (fun y => ∃ t, y = .int i t) :=
  fun A E s _ _ _ _ => wpAny_Constant_int ⟨⟨_, rfl⟩, GxR.keeps_tok s _⟩
theorem q_str {x : Str} {j : Nat} {p : Pos} {G : Shared → Prop} : Qe prog w env Dp Us G (.Constant (.str x) j p) (fun y => ∃ t, y = .str x t) :=
  fun A E s _ _ _ _ => Calls.Constant_str ⟨⟨_, rfl⟩, GxR.keeps_tok s _⟩
/-- two that are compared -/
theorem q_cmp {op : CmpOp} {p : Pos} {G : Shared → Prop} (hG : ∀ s s', G s → Keeps s s' → G s') (hm : behindInMarks op b = false) (ha : Qe prog w env Dp Us G a Ra) (hb : Qe prog w env Dp Us G b Rb)
    (h : ∀ (A : Around) (E : Value → Shared → Prop) (s : Shared) (x y : Value), A.handled = none → A.units ≤ Us → G s → Ra x → Rb y → wpAny (model prog w) A (compareOp op x y) (fun z s' => R z ∧ Keeps s s') E s) :
    Qe prog w env Dp Us G (.Compare a [op] [b] p) R :=
  fun A E s h1 h2 h3 g => wpAny_Compare1 (wpAny_mono (ha A E s h1 h2 h3 g) (fun x s1 q1 => wpAny_mono (hb A E s1 h1 h2 h3 (hG _ _ g q1.2)) (fun y s2 q2 => wpAny_mono (h A E s2 x y h1 h3 (hG _ _ (hG _ _ g q1.2) q2.2) q1.1 q2.1) (fun z s3 q3 => ⟨q3.1, kp_trans q1.2 (kp_trans q2.2 q3.2)⟩) fun _ _ z => z) fun _ _ z => z) fun _ _ z => z) hm
/-- an item -/
theorem q_idx {p : Pos} {G : Shared → Prop} (hG : ∀ s s', G s → Keeps s s' → G s') (ha : Qe prog w env Dp Us G a Ra) (hb : Qe prog w env Dp Us G b Rb)
    (h : ∀ (A : Around) (E : Value → Shared → Prop) (s : Shared) (x y : Value), A.handled = none → A.units ≤ Us → G s → Ra x → Rb y → wpAny (model prog w) A (subscriptTail a b x y) (fun z s' => R z ∧ Keeps s s') E s) :
    Qe prog w env Dp Us G (.Subscript a b p) R :=
  fun A E s h1 h2 h3 g => Subscript_ (wpAny_mono (ha A E s h1 h2 h3 g) (fun x s1 q1 => wpAny_mono (hb A E s1 h1 h2 h3 (hG _ _ g q1.2)) (fun y s2 q2 => wpAny_mono (h A E s2 x y h1 h3 (hG _ _ (hG _ _ g q1.2) q2.2) q1.1 q2.1) (fun z s3 q3 => ⟨q3.1, kp_trans q1.2 (kp_trans q2.2 q3.2)⟩) fun _ _ z => z) fun _ _ z => z) fun _ _ z => z)
/-- a call of a built-in with two arguments -/
theorem q_call2 {x : Str} {p pos : Pos} {id : String} {G : Shared → Prop} (hG : ∀ s s', G s → Keeps s s' → G s') (hf : Qe prog w env Dp Us G (.Name x p) (fun y => y = .builtin id)) (pa : starEach [a, b] env = (false, eval a env) :: (false, eval b env) :: []) (pb : starEach [b] env = (false, eval b env) :: []) (ha : Qe prog w env Dp Us G a Ra) (hb : Qe prog w env Dp Us G b Rb)
    (h : ∀ (A : Around) (E : Value → Shared → Prop) (s : Shared) (x y : Value), A.handled = none → A.units ≤ Us → G s → Ra x → Rb y → wpAny (model prog w) A (call (.builtin id) [x, y]) (fun z s' => R z ∧ Keeps s s') E s) :
    Qe prog w env Dp Us G (.Call (.Name x p) [a, b] [] pos) R :=
  fun A E s h1 h2 h3 g => by
    refine wpAny_Call_Name_kw (wpAny_mono (hf A E s h1 h2 h3 g) (fun f s0 q0 => ?_) fun _ _ z => z)
    obtain ⟨rfl, q0⟩ := q0
    refine PyProof.Rows.callWith_builtin1 ?_ (by rw [pa, pb]) (by rw [pb]; rfl)
    rw [pa]
    show wpAny _ _ (spliced ((false, eval a env) :: (false, eval b env) :: [])) _ _ s0
    have g0 := hG _ _ g q0
    refine Calls.spliced_cons (wpAny_mono (ha A E s0 h1 h2 h3 g0) (fun u s1 q1 => ?_) fun _ _ z => z)
    have g1 := hG _ _ g0 q1.2
    refine Calls.spliced_cons (wpAny_mono (hb A E s1 h1 h2 h3 g1) (fun v s2 q2 => ?_) fun _ _ z => z)
    have g2 := hG _ _ g1 q2.2
    refine Calls.spliced_nil ?_
    exact wpAny_mono (h A E s2 u v h1 h3 g2 q1.1 q2.1) (fun z s3 q3 => ⟨q3.1, kp_trans q0 (kp_trans q1.2 (kp_trans q2.2 q3.2))⟩) fun _ _ z => z
end
end DI
set_option Elab.async false
set_option linter.all false
set_option maxRecDepth 100000
set_option maxHeartbeats 4000000
/-! DA2: the check of an element, and that it suffices. -/
namespace DI
open PySem PySem.Spec PyProof.Rows L2
/-- the generator's own names, by slots -/
def gloc (ls : List (Str × Nat)) (i : Nat) (x : Str) : Bool := fnMem0 x i ls
where fnMem0 (x : Str) (i : Nat) : List (Str × Nat) → Bool
  | [] => false
  | (y, g) :: r => (decide (g = i) && decide (y = x)) || fnMem0 x i r
theorem gloc_ok {x : Str} {i : Nat} : ∀ {ls : List (Str × Nat)}, gloc.fnMem0 x i ls = true → (x, i) ∈ ls
  | [], h => by cases h
  | (y, g) :: r, h => by
    have h : ((decide (g = i) && decide (y = x)) || gloc.fnMem0 x i r) = true := h
    rw [Bool.or_eq_true, Bool.and_eq_true, decide_eq_true_eq, decide_eq_true_eq] at h
    rcases h with ⟨rfl, rfl⟩ | h
    · exact List.mem_cons_self
    · exact List.mem_cons_of_mem _ (gloc_ok h)
def lcN (sc : Scope) (x : Str) : Bool := match sc.names.lookup x with
  | some .local => true
  | _ => false
def frN (sc : Scope) (x : Str) : Bool := match sc.names.lookup x with
  | some .free => true
  | _ => false
def cfN (sc : Scope) (x : Str) : Bool := match sc.names.lookup x with
  | some .cell | some .free => true
  | _ => false
def tyQ : Ty → Bool
  | .str => true
  | _ => false
/-- what is looked into -/
def plainVx : Expr → Bool
  | .Name .. => true
  | _ => false
/-- a written index -/
def plainX : Expr → Bool
  | .Name .. | .Constant .. => true
  | _ => false
/-- what only asks. sc: the generator's scope; ls: its own names -/
def ckQ (T : Tb) (sc : Scope) (ls : List (Str × Nat)) : Ex → Ck → Expr → Bool
  | .var i, k, e => match e with
    | .Name x _ => nmOk x && ((gloc ls i x && lcN sc x) || (!(ls.map (·.2)).contains i && decide (k.N[i]? = some x) && frN sc x && cfN k.sc x))
    | _ => false
  | .cst d, k, e => match e with
    | .Constant w _ _ => cstC d w && (match d with
      | .int _ | .str _ => true
      | _ => false)
    | _ => false
  | .glob j, k, e => match e with
    | .Name x _ => glC sc x && nmOk x && fnMemG x j T.gl
    | _ => false
  | .cmp op a b, k, e => match e with
    | .Compare x [o] [y] _ => opQ op o && plainB op y && ckQ T sc ls a k x && ckQ T sc ls b k y
    | _ => false
  | .idx a i, k, e => match e with
    | .Subscript x y _ => plainVx x && plainX y && ckQ T sc ls a k x && ckQ T sc ls i k y
    | _ => false
  | .isi a t, k, e => match e with
    | .Call (.Name x _) [y, .Name z _] [] _ => decide (x = "isinstance") && decide (z = t.nm) && glC sc "isinstance" && glC sc t.nm && tyQ t && plainA y && ckQ T sc ls a k y
    | _ => false
  | _, _, _ => false
where
  fnMemG (x : Str) (f : Nat) : List (Str × Nat) → Bool
  | [] => false
  | (y, g) :: r => (decide (g = f) && decide (y = x)) || fnMemG x f r
  opQ : Cop → CmpOp → Bool
  | .isin, .In | .notin, .NotIn | .lt, .Lt => true
  | _, _ => false
theorem fnMemG_ok {x : Str} {f : Nat} : ∀ {l : List (Str × Nat)}, ckQ.fnMemG x f l = true → (x, f) ∈ l
  | [], h => by cases h
  | (y, g) :: r, h => by
    have h : ((decide (g = f) && decide (y = x)) || ckQ.fnMemG x f r) = true := h
    rw [Bool.or_eq_true, Bool.and_eq_true, decide_eq_true_eq, decide_eq_true_eq] at h
    rcases h with ⟨rfl, rfl⟩ | h
    · exact List.mem_cons_self
    · exact List.mem_cons_of_mem _ (fnMemG_ok h)
/-- the setting of an element -/
structure Qk (C : Ct) (k : Ck) (X : Cx) (σ : L2.St) (H1 : Hp) (s1 : Shared) (W : Wd) (S : Store) (ρ : Ev) (P : Addr) (wr : List Addr) (sc : Scope) (ls : List (Str × Nat)) (env : Env) (loc : List (Str × Value)) (ρ' : Ev) (hb : Heap) : Prop where
  c : Cok C k X
  g : Gok C
  I : ∃ pins, Inv X pins σ H1 s1
  hb : ∀ b o, s1.heap.get? b = some o → hb.get? b = some o
  sim : Sim C.G W S H1
  eok : Eok C W H1 ρ σ
  kind : env.scope.kind = .function
  scp : env.scope = sc
  gl : env.globals = mainGlobals
  bt : env.builtins = builtinsNs
  cel : ∀ x, frN sc x = true → env.cells.lookup x = X.env.cells.lookup x
  /-- the table is none of what is asked -/
  tH : ∃ ps, H1 P = some (.tbl ps)
  tw : ∀ b ∈ wr, s1.heap.objs.size ≤ b
  loc : ∀ x i, (x, i) ∈ ls → ∀ d, ρ'[i]? = some (.val d) → ∃ v u, (x, u) ∈ loc ∧ RelV v u ∧ Rep C.G W d v
  old : ∀ i, i ∉ ls.map (·.2) → ∀ d, ρ'[i]? = some (.val d) → ρ[i]? = some (.val d)
section
variable {C : Ct} {k : Ck} {X : Cx} {σ : L2.St} {H1 : Hp} {s1 : Shared} {W : Wd} {S : Store} {ρ ρ' : Ev} {P : Addr} {wr : List Addr} {sc : Scope} {ls : List (Str × Nat)} {env : Env} {loc : List (Str × Value)} {hb : Heap}
abbrev RQ (C : Ct) (W : Wd) (d : D) : Value → Prop := fun y => ∃ v, RelV v y ∧ Rep C.G W d v
abbrev QeD (X : Cx) (env : Env) (hb : Heap) (P : Addr) (wr : List Addr) (loc : List (Str × Value)) (C : Ct) (W : Wd) (d : D) (e : Expr) : Prop := Qe X.prog X.w env (X.A.depth + 1) (X.A.units + 8) (Qg hb P wr env.locals loc) e (RQ C W d)
theorem Qk.tP (q : Qk C k X σ H1 s1 W S ρ P wr sc ls env loc ρ' hb) : ∃ ps, s1.heap.get? P = some { cls := .none, data := .fields ps } := by
  obtain ⟨ps, e⟩ := q.tH
  obtain ⟨pins, I⟩ := q.I
  exact ⟨ps, I.hok P _ e⟩
theorem Qk.ne (q : Qk C k X σ H1 s1 W S ρ P wr sc ls env loc ρ' hb) {b : Addr} {o : Obj} (h : s1.heap.get? b = some o) (n : ∀ ps, o.data ≠ .fields ps) : b ≠ P ∧ b ∉ wr := by
  obtain ⟨ps, e⟩ := q.tP
  refine ⟨fun z => ?_, fun z => Nat.lt_irrefl _ (Nat.lt_of_lt_of_le (Heap.lt_size h) (q.tw b z))⟩
  rw [z, e] at h
  cases h
  exact n ps rfl
theorem Qk.nsK (q : Qk C k X σ H1 s1 W S ρ P wr sc ls env loc ρ' hb) {a : Addr} {m : Str → Option Value} (h : s1.heap.Ns a m) : hb.Ns a m ∧ a ≠ P ∧ a ∉ wr := by
  obtain ⟨o, es, ep, e, d, r⟩ := h
  have := q.ne e (by rw [d]; exact fun _ z => nomatch z)
  exact ⟨⟨o, es, ep, q.hb _ _ e, d, r⟩, this⟩
theorem rv_flat {d : D} {v : V} {u : Value} (r : RelV v u) (h : Rep C.G W d v) : match d with
    | .int i => ∃ t, u = .int i t
    | .str x => ∃ t, u = .str x t
    | .non => u = .none
    | .bl b => u = .bool b
    | .tup _ => ∃ a, u = .ref a
    | _ => True := by
  cases d with
  | int i => have h : v = .int i := h; subst h; exact r
  | str x => have h : v = .str x := h; subst h; exact r
  | non => have h : v = .non := h; subst h; exact r
  | bl b => have h : v = .bl b := h; subst h; exact r
  | tup xs =>
    obtain ⟨a, vs, rfl, _⟩ := h
    exact ⟨a, r⟩
  | _ => trivial
theorem lt_x {prog : Program} {w : World} {A : Around} {E : Value → Shared → Prop} {s : Shared} {i j : Int} {t u : Tok} {Q : Value → Shared → Prop} (h : Q (.bool (decide (i < j))) s) : wpAny (model prog w) A (compareOp .Lt (.int i t) (.int j u)) Q E s := lt_int h
theorem in_x {prog : Program} {w : World} {A : Around} {E : Value → Shared → Prop} {s : Shared} {c : Nat} {z : Str} {t u : Tok} {Q : Value → Shared → Prop} (h : Q (.bool (decide (c ∈ z.cps.toList))) s) : wpAny (model prog w) A (compareOp .In (.str ⟨#[c]⟩ t) (.str z u)) Q E s := by
  refine PyProof.Rows.in_str ?_
  rw [PySem.StrLaws.found_one z c]
  exact h
theorem one_sign {x : Str} {c : Nat} (h : x.cps.toList = [c]) : x = ⟨#[c]⟩ := by
  obtain ⟨a⟩ := x
  have h : a.toList = [c] := h
  have : a = #[c] := by
    apply Array.ext'
    simpa using h
  rw [this]
end
end DI
set_option Elab.async false
set_option linter.all false
set_option maxRecDepth 100000
set_option maxHeartbeats 4000000
/-! DA3: what only asks, by its core text. -/
namespace DI
open PySem PySem.Spec PyProof.Rows L2
theorem clo_look {cells : List (Str × Addr)} {names : List (Str × NameKind)} {x : Str} {c : Addr} (h : names.lookup x = some .free) (hc : cells.lookup x = some c) : (cloFrom cells names []).lookup x = some c := by
  have h1 := cloFrom_has (cells := cells) (acc := []) (PySem.mem_of_lookup h)
  cases e : (cloFrom cells names []).lookup x with
  | none =>
    have : ∀ l : List (Str × Addr), l.lookup x = none → ∀ z, (x, z) ∉ l := by
      intro l
      induction l with
      | nil => intro _ z hz; cases hz
      | cons p r ih =>
        intro q z hz
        obtain ⟨y, w⟩ := p
        by_cases hy : x = y
        · subst hy; simp [List.lookup] at q
        · have e2 : (x == y) = false := by simpa using hy
          simp only [List.lookup, e2] at q
          rcases List.mem_cons.mp hz with hz | hz
          · cases hz; exact hy rfl
          · exact ih q z hz
    exact absurd h1 (this _ e _)
  | some c' =>
    have m := PySem.mem_of_lookup e
    rcases cloFrom_mem m with z | ⟨_, z⟩
    · cases z
    · rw [z, hc]; rfl
theorem frN_ok {sc : Scope} {x : Str} (h : frN sc x = true) : sc.names.lookup x = some .free := by
  unfold frN at h
  split at h
  · assumption
  · cases h
theorem lcN_ok {sc : Scope} {x : Str} (h : lcN sc x = true) : sc.names.lookup x = some .local := by
  unfold lcN at h
  split at h
  · assumption
  · cases h
theorem cfN_ok {sc : Scope} {x : Str} (h : cfN sc x = true) : sc.names.lookup x = some .cell ∨ sc.names.lookup x = some .free := by
  unfold cfN at h
  split at h
  · exact .inl (by assumption)
  · exact .inr (by assumption)
  · cases h
theorem glS_ok {sc : Scope} {x : Str} (h : glC sc x = true) : sc.names.lookup x = some .globalImplicit := by
  unfold glC at h
  split at h
  · assumption
  · cases h
section
variable {C : Ct} {k : Ck} {X : Cx} {σ : L2.St} {H1 : Hp} {s1 : Shared} {W : Wd} {S : Store} {ρ ρ' : Ev} {P : Addr} {wr : List Addr} {sc : Scope} {ls : List (Str × Nat)} {env : Env} {loc : List (Str × Value)} {hb : Heap}
theorem Qk.gm (q : Qk C k X σ H1 s1 W S ρ P wr sc ls env loc ρ' hb) : hb.Ns mainGlobals X.mg ∧ mainGlobals ≠ P ∧ mainGlobals ∉ wr := by
  obtain ⟨pins, I⟩ := q.I
  exact q.nsK (I.mod.glob.keeps I.bk)
theorem Qk.bb (q : Qk C k X σ H1 s1 W S ρ P wr sc ls env loc ρ' hb) : ∃ mb, hb.Ns builtinsNs mb ∧ builtinsNs ≠ P ∧ builtinsNs ∉ wr ∧ ∀ x : Str, x ≠ "__name__" → mb x = bootBuiltins x := by
  obtain ⟨pins, I⟩ := q.I
  obtain ⟨mb, h1, h2⟩ := I.mod.blt
  obtain ⟨a, b, c⟩ := q.nsK (h1.keeps I.bk)
  exact ⟨mb, a, b, c, h2⟩
theorem Qk.kin (q : Qk C k X σ H1 s1 W S ρ P wr sc ls env loc ρ' hb) {s : Shared} (g : Qg hb P wr env.locals loc s) : X.K.In s.heap := by
  obtain ⟨pins, I⟩ := q.I
  intro b o e
  have eb := I.mod.kin b o e
  have e1 := (I.bs b o eb).1
  refine g.keep b o (fun z => ?_) (fun z => Nat.lt_irrefl _ (Nat.lt_of_lt_of_le (Heap.lt_size e1) (q.tw b z))) (q.hb _ _ e1)
  obtain ⟨ps, e2⟩ := q.tH
  have e3 := (I.bs b o eb).2
  rw [z, e2] at e3
  cases e3
theorem q_builtin (q : Qk C k X σ H1 s1 W S ρ P wr sc ls env loc ρ' hb) {x : Str} {p : Pos} {v : Value} (h : glC sc x = true) (hm : x ∈ bltN) (hv : bootBuiltins x = some v) (hn : x ≠ "__name__") (hd : (x == ("__debug__" : Str)) = false) :
    Qe X.prog X.w env (X.A.depth + 1) (X.A.units + 8) (Qg hb P wr env.locals loc) (.Name x p) (fun y => y = v) := by
  obtain ⟨a, b, c⟩ := q.gm
  obtain ⟨mb, a2, b2, c2, e2⟩ := q.bb
  exact q_blt q.kind (by rw [q.scp]; exact glS_ok h) q.gl a (by rw [q.c.mg]; exact q.g.bn x hm) b c q.bt a2 ((e2 x hn).trans hv) b2 c2 hd
theorem plainX_ok {a b : Expr} (ha : plainVx a = true) (hb : plainX b = true) (t : Addr) (i : Int) (u : Tok) : subscripted b false (.ref t) (.int i u) = operate [.ref t, .int i u] (getItem (.ref t) (.int i u)) ∧ ∀ r, letTemporaryGo a (.ref t) r = pure () := by
  constructor
  · cases b <;> first | rfl | cases hb
  · intro r
    cases a <;> first | rfl | cases ha
theorem cmpQ_inv {op : Cop} {a b : D} {t : Bool} (h : cmpQ op a b = some t) : (∃ c z, op = .isin ∧ a = .str ⟨#[c]⟩ ∧ b = .str z ∧ t = decide (c ∈ z.cps.toList)) ∨ (∃ c z, op = .notin ∧ a = .str ⟨#[c]⟩ ∧ b = .str z ∧ t = !decide (c ∈ z.cps.toList)) ∨ ∃ i j, op = .lt ∧ a = .int i ∧ b = .int j ∧ t = decide (i < j) := by
  unfold cmpQ at h
  split at h
  · split at h
    · rename_i c ec
      cases h
      exact .inl ⟨c, _, rfl, by rw [one_sign ec], rfl, rfl⟩
    · cases h
  · split at h
    · rename_i c ec
      cases h
      exact .inr (.inl ⟨c, _, rfl, by rw [one_sign ec], rfl, rfl⟩)
    · cases h
  · cases h
    exact .inr (.inr ⟨_, _, rfl, rfl, rfl, rfl⟩)
  · cases h
theorem idxQ_inv {a b d : D} (h : idxQ a b = some d) : ∃ xs i, a = .tup xs ∧ b = .int i ∧ 0 ≤ i ∧ i < xs.length ∧ xs.length ≤ lim ∧ xs[i.toNat]? = some d := by
  unfold idxQ at h
  split at h
  · split at h
    · rename_i hj
      exact ⟨_, _, rfl, rfl, hj.1, hj.2.1, hj.2.2, h⟩
    · cases h
  · cases h
theorem qe_ok : ∀ (ce : Ex) {e : Expr} {d : D}, Qk C k X σ H1 s1 W S ρ P wr sc ls env loc ρ' hb → ckQ C.T sc ls ce k e = true → evQ C.cl ce ρ' = some d → QeD X env hb P wr loc C W d e
  | .var i, e, d, q, h, hv => by
    unfold ckQ at h
    split at h
    · rename_i x p
      rw [Bool.and_eq_true, Bool.or_eq_true] at h
      obtain ⟨hn, h⟩ := h
      have n := nmOk_ok hn
      have hv : (match ρ'[i]? with
        | some (.val d) => some d
        | _ => none) = some d := hv
      split at hv
      · rename_i d' ed
        cases hv
        rcases h with h | h
        · rw [Bool.and_eq_true] at h
          obtain ⟨v, u, m, r1, r2⟩ := q.loc x i (gloc_ok h.1) d ed
          exact (q_loc q.kind (by rw [q.scp]; exact lcN_ok h.2) m n.1).imp fun y ey => ⟨v, by rw [ey]; exact r1, r2⟩
        · simp only [Bool.and_eq_true, Bool.not_eq_true', decide_eq_true_eq] at h
          obtain ⟨⟨⟨h1, h2⟩, h3⟩, h4⟩ := h
          have ed' := q.old i (by simpa using h1) d ed
          obtain ⟨v, es, rv⟩ := q.eok.val i d ed'
          obtain ⟨pins, I⟩ := q.I
          obtain ⟨m, _, lk⟩ := I.loc
          have hcf := cfN_ok h4
          have vis : Vis X.env.scope x := by rw [q.c.sc]; exact .inr hcf
          obtain ⟨u, r1, hl⟩ := lk i x v (by rw [q.c.N]; exact h2) es vis
          rcases hl with ⟨z, _⟩ | ⟨_, cc, e1, e2⟩
          · exfalso
            unfold Env.kindOf at z
            rw [q.c.sc] at z
            rcases hcf with y | y <;> rw [y] at z <;> cases z
          · have e2' := e2
            obtain ⟨o, ho, hd⟩ := e2
            obtain ⟨np, nw⟩ := q.ne ho (by rw [hd]; exact fun _ z => nomatch z)
            exact (q_free q.kind (by rw [q.scp]; exact frN_ok h3) ((q.cel x h3).trans e1) ⟨o, q.hb _ _ ho, hd⟩ np nw n.1 n.2.1).imp fun y ey => ⟨v, by rw [ey]; exact r1, rv⟩
      · cases hv
    · cases h
  | .cst z, e, d, q, h, hv => by
    unfold ckQ at h
    have hv : some z = some d := hv
    cases hv
    split at h
    · rw [Bool.and_eq_true] at h
      obtain ⟨h1, h2⟩ := h
      rename_i w _ _
      cases z with
      | int i =>
        cases w with
        | int j =>
          cases of_decide_eq_true (show decide (i = j) = true from h1)
          exact q_int.imp fun y ⟨t, ey⟩ => ⟨.int i, ⟨t, ey⟩, rfl⟩
        | _ => cases h1
      | str x =>
        cases w with
        | str y =>
          cases of_decide_eq_true (show decide (x = y) = true from h1)
          exact q_str.imp fun y ⟨t, ey⟩ => ⟨.str x, ⟨t, ey⟩, rfl⟩
        | _ => cases h1
      | _ => cases h2
    · cases h
  | .glob j, e, d, q, h, hv => by
    unfold ckQ at h
    split at h
    · rename_i x p
      simp only [Bool.and_eq_true] at h
      obtain ⟨⟨h1, h2⟩, h3⟩ := h
      obtain ⟨u, z, e1, e2, v, r1, r2⟩ := q.g.gl x j (fnMemG_ok h3)
      have hv : C.cl.gl j = some d := hv
      rw [e2] at hv
      cases hv
      obtain ⟨a, b, c⟩ := q.gm
      have n := nmOk_ok h2
      exact (q_glob q.kind (by rw [q.scp]; exact glS_ok h1) q.gl a (by rw [q.c.mg]; exact e1) b c n.1).imp fun y ey => ⟨v, by rw [ey]; exact r1, r2 W⟩
    · cases h
  | .cmp op a b, e, d, q, h, hv => by
    unfold ckQ at h
    split at h
    · rename_i x o y p
      simp only [Bool.and_eq_true] at h
      obtain ⟨⟨⟨h1, h2⟩, h3⟩, h4⟩ := h
      have hv : ((evQ C.cl a ρ').bind fun x => (evQ C.cl b ρ').bind fun y => (cmpQ op x y).map D.bl) = some d := hv
      obtain ⟨dx, ex, hv⟩ := Option.bind_eq_some_iff.mp hv
      obtain ⟨dy, ey, hv⟩ := Option.bind_eq_some_iff.mp hv
      obtain ⟨t, et, rfl⟩ := Option.map_eq_some_iff.mp hv
      have qa := qe_ok a q h3 ex
      have qb := qe_ok b q h4 ey
      have hm : behindInMarks o y = false := by
        have : o = op.ast := by cases op <;> cases o <;> first | rfl | cases h1
        rw [this]; exact mark_of h2
      have iv := cmpQ_inv et
      refine q_cmp (fun s s' g kk => g.keeps kk) hm qa qb fun A E s u v hA hU hG ⟨v1, r1, p1⟩ ⟨v2, r2, p2⟩ => ?_
      rcases iv with ⟨c, z, rfl, rfl, rfl, rfl⟩ | ⟨c, z, rfl, rfl, rfl, rfl⟩ | ⟨i, j, rfl, rfl, rfl, rfl⟩
      · obtain ⟨t1, rfl⟩ := rv_flat (C := C) (W := W) r1 p1
        obtain ⟨t2, rfl⟩ := rv_flat (C := C) (W := W) r2 p2
        cases o <;> first | cases h1 | skip
        exact in_x ⟨⟨.bl _, rfl, rfl⟩, GxR.keeps_refl s⟩
      · obtain ⟨t1, rfl⟩ := rv_flat (C := C) (W := W) r1 p1
        obtain ⟨t2, rfl⟩ := rv_flat (C := C) (W := W) r2 p2
        cases o <;> first | cases h1 | skip
        refine PyProof.Rows.notIn_str ?_
        rw [PySem.StrLaws.found_one z c]
        exact ⟨⟨.bl _, rfl, rfl⟩, GxR.keeps_refl s⟩
      · obtain ⟨t1, rfl⟩ := rv_flat (C := C) (W := W) r1 p1
        obtain ⟨t2, rfl⟩ := rv_flat (C := C) (W := W) r2 p2
        cases o <;> first | cases h1 | skip
        exact lt_x ⟨⟨.bl _, rfl, rfl⟩, GxR.keeps_refl s⟩
    · cases h
  | .idx a i, e, d, q, h, hv => by
    unfold ckQ at h
    split at h
    · rename_i x y p
      simp only [Bool.and_eq_true] at h
      obtain ⟨⟨⟨h1, h2⟩, h3⟩, h4⟩ := h
      have hv : ((evQ C.cl a ρ').bind fun x => (evQ C.cl i ρ').bind fun y => idxQ x y) = some d := hv
      obtain ⟨dx, ex, hv⟩ := Option.bind_eq_some_iff.mp hv
      obtain ⟨dy, ey, hv⟩ := Option.bind_eq_some_iff.mp hv
      have qa := qe_ok a q h3 ex
      have qb := qe_ok i q h4 ey
      obtain ⟨xs, j, rfl, rfl, j0, jl, ll, jx⟩ := idxQ_inv hv
      refine q_idx (fun s s' g kk => g.keeps kk) qa qb fun A E s u v hA hU hG ⟨v1, r1, p1⟩ ⟨v2, r2, p2⟩ => ?_
      obtain ⟨t2, rfl⟩ := rv_flat (C := C) (W := W) r2 p2
      obtain ⟨t, vs, rfl, tu, rs⟩ := p1
      cases r1
      obtain ⟨pins, I⟩ := q.I
      have sq := (q.sim.fz.tupAt tu).sqt
      rw [← q.c.K] at sq
      obtain ⟨its, rv, ⟨o, g1, g2, n, g3⟩, hz⟩ := I.tuple sq
      obtain ⟨np, nw⟩ := q.ne g1 (by rw [g3]; exact fun _ z => nomatch z)
      have g1' := hG.keep _ _ np nw (q.hb _ _ g1)
      obtain ⟨vv, ev, rr⟩ := rs.get jx
      obtain ⟨uu, eu, ru⟩ := rv.get ev
      have lv := rv.length
      have lr := rs.length
      have px := plainX_ok h1 h2 t j t2
      unfold lim at ll
      have hlt : j.toNat < its.length := by omega
      refine item_tuple (j := j.toNat) (x := uu) ⟨o, g1', g2, n, g3⟩ (by omega) (by omega) (seqIndex_of j0 (by simp; omega)) (by simpa using eu) ⟨⟨vv, ru, rr⟩, GxR.keeps_refl s⟩ px.1 px.2
    · cases h
  | .isi a t, e, d, q, h, hv => by
    unfold ckQ at h
    split at h
    · rename_i x p y z p2 p3
      simp only [Bool.and_eq_true, decide_eq_true_eq] at h
      obtain ⟨⟨⟨⟨⟨⟨rfl, rfl⟩, h3⟩, h4⟩, h5⟩, h6⟩, h7⟩ := h
      have hv : ((evQ C.cl a ρ').bind fun x => (isiQ x t).map D.bl) = some d := hv
      obtain ⟨dx, ex, hv⟩ := Option.bind_eq_some_iff.mp hv
      obtain ⟨b, eb, rfl⟩ := Option.map_eq_some_iff.mp hv
      have qa := qe_ok a q h7 ex
      have f1 := q_builtin q (p := p) h3 (by decide +kernel) (v := .builtin "isinstance") (by decide +kernel) (by decide +kernel) (by decide +kernel)
      have f2 := q_builtin q (p := p2) h4 t.nmB t.boot (nmOk_ok t.nmO).2.2 (nmOk_ok t.nmO).1
      refine q_call2 (fun s s' g kk => g.keeps kk) f1 (by rw [star_of h6]; rfl) rfl qa f2 fun A E s u v hA hU hG ⟨v1, r1, p1⟩ r2 => ?_
      subst r2
      have ki := q.kin hG
      cases t with
      | str =>
        unfold isiQ at eb
        split at eb
        · obtain ⟨t1, rfl⟩ := rv_flat (C := C) (W := W) r1 p1
          cases eb
          exact PySem.W.kia_one PySem.W.kitx_str ki trivial (kit_ty (by decide +kernel)) (fun z => nomatch z) fun tk => ⟨⟨.bl _, rfl, rfl⟩, GxR.keeps_tok s tk⟩
        · obtain ⟨t1, rfl⟩ := rv_flat (C := C) (W := W) r1 p1
          cases eb
          exact PySem.W.kia_one PySem.W.kitx_int ki trivial (kit_ty (by decide +kernel)) (fun z => nomatch z) fun tk => ⟨⟨.bl _, rfl, rfl⟩, GxR.keeps_tok s tk⟩
        · obtain rfl := rv_flat (C := C) (W := W) r1 p1
          cases eb
          exact PySem.W.kia_one PySem.W.kitx_none ki trivial (kit_ty (by decide +kernel)) (fun z => nomatch z) fun tk => ⟨⟨.bl _, rfl, rfl⟩, GxR.keeps_tok s tk⟩
        · cases eb
      | _ => cases h5
    · cases h
  | .tup _, _, _, _, h, _ => by unfold ckQ at h; cases h
  | .lst _, _, _, _, h, _ => by unfold ckQ at h; cases h
  | .dnew, _, _, _, h, _ => by unfold ckQ at h; cases h
  | .bin .., _, _, _, h, _ => by unfold ckQ at h; cases h
  | .neg _, _, _, _, h, _ => by unfold ckQ at h; cases h
  | .chn .., _, _, _, h, _ => by unfold ckQ at h; cases h
  | .bnd _, _, _, _, h, _ => by unfold ckQ at h; cases h
  | .bor _, _, _, _, h, _ => by unfold ckQ at h; cases h
  | .bnt _, _, _, _, h, _ => by unfold ckQ at h; cases h
  | .ife .., _, _, _, h, _ => by unfold ckQ at h; cases h
  | .slc .., _, _, _, h, _ => by unfold ckQ at h; cases h
  | .rev _, _, _, _, h, _ => by unfold ckQ at h; cases h
  | .fld .., _, _, _, h, _ => by unfold ckQ at h; cases h
  | .call .., _, _, _, h, _ => by unfold ckQ at h; cases h
  | .mk .., _, _, _, h, _ => by unfold ckQ at h; cases h
  | .meth .., _, _, _, h, _ => by unfold ckQ at h; cases h
  | .bi .., _, _, _, h, _ => by unfold ckQ at h; cases h
  | .bi2 .., _, _, _, h, _ => by unfold ckQ at h; cases h
  | .isx .., _, _, _, h, _ => by unfold ckQ at h; cases h
  | .xfl .., _, _, _, h, _ => by unfold ckQ at h; cases h
  | .bm .., _, _, _, h, _ => by unfold ckQ at h; cases h
  | .lc .., _, _, _, h, _ => by unfold ckQ at h; cases h
  | .lcf .., _, _, _, h, _ => by unfold ckQ at h; cases h
  | .srs _, _, _, _, h, _ => by unfold ckQ at h; cases h
  | .srk _, _, _, _, h, _ => by unfold ckQ at h; cases h
  | .dcp .., _, _, _, h, _ => by unfold ckQ at h; cases h
  | .isv _, _, _, _, h, _ => by unfold ckQ at h; cases h
  | .fst _, _, _, _, h, _ => by unfold ckQ at h; cases h
  | .sidx .., _, _, _, h, _ => by unfold ckQ at h; cases h
  | .anyg .., _, _, _, h, _ => by unfold ckQ at h; cases h
  | .allg .., _, _, _, h, _ => by unfold ckQ at h; cases h
  | .byl .., _, _, _, h, _ => by unfold ckQ at h; cases h
  | .byf .., _, _, _, h, _ => by unfold ckQ at h; cases h
  | .bst .., _, _, _, h, _ => by unfold ckQ at h; cases h
  | .lset .., _, _, _, h, _ => by unfold ckQ at h; cases h
  | .dct .., _, _, _, h, _ => by unfold ckQ at h; cases h
end
end DI
set_option Elab.async false
set_option linter.all false
set_option maxRecDepth 100000
set_option maxHeartbeats 4000000
/-! DA4: any, all of a generator expression: one name, what is walked stands still. -/
namespace DI
open PySem PySem.Spec PyProof.Rows L2
/-- what is walked: its iterator, and the element at each turn -/
structure GIt (X : Cx) (s1 : Shared) (P : Addr) (sc : Scope) (x : Str) (elt : Expr) (n : Nat) (tr : Nat → Bool) (xv : Value) : Prop where
  it : ∀ (Q : Value → Shared → Prop) (E : Value → Shared → Prop),
    (∀ (J : Addr) (h2 : Heap) (tk : Nat) (fp wr : List Addr) (Pf : Nat → Value → Prop) (St : Nat → Heap → Prop), (∀ b o, s1.heap.get? b = some o → h2.get? b = some o) → s1.heap.objs.size ≤ h2.objs.size →
      (∀ B : Around, B.handled = none → Walks X.prog X.w B J fp wr n Pf St) → St 0 h2 → (∀ b ∈ fp, b < h2.objs.size ∧ b ≠ P) → (∀ b ∈ wr, s1.heap.objs.size ≤ b) →
      (∀ (L : Addr) (code : Value) (i : Nat) (v : Value), Pf i v → Qe X.prog X.w (genEnv sc (cloFrom X.env.cells sc.names []) L code builtinsNs X.env) (X.A.depth + 1) (X.A.units + 8) (Qg h2 P wr L [(x, v)]) elt fun y => y = .bool (tr i)) →
      Q (.ref J) { s1 with heap := h2, toks := tk }) → wpAny (model X.prog X.w) X.A (pyIter xv) Q E s1
/-- the generator, ready; n items with their truths -/
def GRd (X : Cx) (pins : List (Addr × Obj)) (σ : L2.St) (H1 : Hp) (P : Addr) (n : Nat) (tr : Nat → Bool) (g : Addr) (t : Shared) : Prop :=
  ∃ (fp wr : List Addr) (Gq : Array GenState → Array GenState → Prop) (F : Nat → Value → Prop) (St : Nat → Shared → Prop),
    WalksS X.prog X.w X.A.in1 g fp wr Gq n F St ∧ St 0 t ∧ TruthOf X.prog X.w X.A.in1 F tr ∧ ∀ t', Moved wr Gq t t' → ∃ H2, GxR.Tabbed P H1 H2 ∧ Inv X pins σ H2 t'
section
variable {X : Cx} {pins : List (Addr × Obj)} {σ : L2.St} {H : Hp} {s : Shared}
theorem gen_q {c P : Addr} {elt iter : Expr} {x : Str} {px gpos : Pos} {sc : Scope} {te : TE} {kk : Nat} {K : Value → Shared → Prop} {R : List Bool → Hp → Prop} (hr : Room kk X.A) (TB : GxR.TabB X.base X.mg c P) (hcode : X.env.code = .ref c) (S : GxR.GenS X.env sc x) (hi : PE X iter te)
    (hs : ∀ v, genFold iter X.env v = pure v) (I : Inv X pins σ H s)
    (h : te σ H fun v H1 => GxR.TabG H1 P ∧ ∀ pins xv s1, Inv X pins σ H1 s1 → RelV v xv → ∃ bs : List Bool, GIt X s1 P sc x elt bs.length (fun j => (bs[j]?).getD false) xv ∧ R bs H1)
    (fin : ∀ (bs : List Bool) H1 g t, R bs H1 → GRd X pins σ H1 P bs.length (fun j => (bs[j]?).getD false) g t → K (.ref g) t) :
    wpAny (model X.prog X.w) X.A (eval (.GeneratorExp elt [⟨.Name x px, iter, [], 0⟩] sc gpos) X.env) K X.xe s := by
  refine wpAny_GeneratorExp_walksQD hr.hd S.co (closure_ok S.free) S.cell S.dot S.loc S.kind (by have := hr.dp; omega) ?_ hs
  refine thn (hi.run pins s σ H _ I h) fun xv s1 ⟨v, H1, I1, r1, ⟨ps, hP, ht⟩, q1⟩ => ?_
  obtain ⟨bs, git, rb⟩ := q1 pins xv s1 I1 r1
  have fin := fun g t => fin bs H1 g t rb
  generalize (fun j : Nat => (bs[j]?).getD false) = tr at git fin
  generalize bs.length = n at git fin
  refine git.it _ _ fun J h2 tk0 fp wr Pf St old sz Wk st0 hfp hwr hel => ?_
  have Ps : s1.heap.get? P = some { cls := .none, data := .fields ps } := I1.hok P _ hP
  have Plt : P < s1.heap.objs.size := Heap.lt_size Ps
  have P2 : h2.get? P = some { cls := .none, data := .fields ps } := old _ _ Ps
  have code2 : PySem.W.CodeHd h2 c P := TB.code.keeps fun b u e => old b u (I1.bk b u e)
  have lim2 : h2.NoLimit := I1.nolimit.keeps old
  have stc : cStatics < s1.heap.objs.size := let ⟨_, z, _⟩ := I1.nolimit; z.lt
  have sP : cStatics ≠ P := fun e => by
    obtain ⟨_, z, _⟩ := I1.nolimit
    obtain ⟨o', es, ep, ho, hd, _⟩ := z
    rw [e, Ps] at ho
    cases ho
    cases hd
  obtain ⟨bm, ob, b1, b2, b3, b4, b5, b6, b7, b8⟩ := TB.bm
  refine ⟨lim2, ?_⟩
  have rest : ∀ (code : Value) (h3 : Heap) (tk : Nat) (more : Array Value), Heap.ExtBut P h2 h3 → h2.objs.size ≤ h3.objs.size → h3.get? P = some { cls := .none, data := .fields (ps ++ more) } → TriplesOk (ps ++ more).toList →
      wpAny (model X.prog X.w) X.A (builtinsFor X.env.globals X.env.builtins) (fun bi s4 =>
        ∃ Ia fp wr n₀ Pt St₀ pz F, Value.ref J = .ref Ia ∧ (∀ B : Around, B.handled = none → Walks X.prog X.w B Ia fp wr n₀ Pt St₀) ∧ St₀ 0 s4.heap ∧ (∀ b ∈ fp, b < s4.heap.objs.size) ∧ s4.heap.NoLimit ∧ cStatics ∉ wr ∧
          (∀ hf : Heap, (∀ b o, s4.heap.get? b = some o → hf.get? b = some o) →
            QuietGenD X.prog X.w (genEnv sc (cloFrom X.env.cells sc.names []) s4.heap.objs.size code bi X.env) x [] elt (List.range s4.heap.objs.size) wr Pt pz F hf (X.A.depth + 1) (X.A.units + 8)) ∧
          (∀ a h5 t5 gs, gs.bare = true → s4.heap.objs.size < a → h5.objs.size = a + 1 → (∀ b o, s4.heap.get? b = some o → h5.get? b = some o) →
            WalksS X.prog X.w X.A.in4 a (a :: s4.heap.objs.size :: List.range s4.heap.objs.size) (s4.heap.objs.size :: wr) (GenOnlyQ s4.gens.size) (passing pz n₀ 0).length
              (fun j y => ∃ i, (passing pz n₀ 0)[j]? = some i ∧ F i y) (GenAt X.prog X.w X.A.in4 a s4.gens.size s4.heap.objs.size (List.range s4.heap.objs.size) wr pz n₀ F) →
            GenAt X.prog X.w X.A.in4 a s4.gens.size s4.heap.objs.size (List.range s4.heap.objs.size) wr pz n₀ F 0 { s4 with gens := s4.gens.push gs, toks := t5, heap := h5 } →
            K (.ref a) { s4 with gens := s4.gens.push gs, toks := t5, heap := h5 })) X.xe { s1 with heap := h3, toks := tk } := by
    intro code h3 tk more hx hge hP3 ht3
    have keep3 : ∀ b u, b ≠ P → s1.heap.get? b = some u → h3.get? b = some u := fun b u nb e => hx b u nb (old b u e)
    refine wpAny_builtinsFor (m := X.mg) (by rw [I1.ok.glob]; exact ((I1.mod.glob.keeps I1.bk).keeps old).extBut hx TB.gP) b1 b2 (keep3 _ _ b4 (I1.bk _ _ b5)) b6 b7 b8 ?_
    refine ⟨J, fp, wr, n, Pf, St, (fun _ => true), (fun i y => y = .bool (tr i)), rfl, Wk, ?_, ?_, lim2.extBut hx sP, ?_, ?_, ?_⟩
    · exact (Wk X.A hr.hd).frame _ _ _ st0 fun b m u e => hx b u (hfp b m).2 e
    · exact fun b m => Nat.lt_of_lt_of_le (hfp b m).1 hge
    · exact fun m => Nat.lt_irrefl _ (Nat.lt_of_lt_of_le stc (hwr _ m))
    · intro hf hhf
      have good : ∀ (v : Value) (t : Shared) (m : Str → Option Value), t.heap.Ns h3.objs.size m → m x = some v → (∀ b ∈ List.range h3.objs.size, b ∉ wr → ∀ o, hf.get? b = some o → t.heap.get? b = some o) → Qg h2 P wr h3.objs.size [(x, v)] t := fun v t m hn hm hk =>
        ⟨⟨m, hn, fun z hz => by rw [List.mem_singleton.mp hz]; exact hm⟩, fun b o nb nw e => by
          have e3 := hx b o nb e
          exact hk b (List.mem_range.mpr (Heap.lt_size e3)) nw o (hhf b o e3)⟩
      refine ⟨fun B E' i v t m hB hD hU hPv hn hm hk => ?_, fun B E' i v t m hB hD hU hPv hp hn hm hk => ?_⟩
      · simp only [List.forIn_nil]
        exact wpAny_pure ⟨rfl, GxR.keeps_refl t⟩
      · exact hel h3.objs.size code i v hPv B E' t hB hD hU (good v t m hn hm hk)
    · intro g h5 t5 gs hgb hag hsz hk5 Wg hat
      simp only [GxR.passing_true, List.length_range] at Wg
      refine fin g _ ⟨_, _, _, _, _, Wg.in4_1, hat, ?_, fun t' hm => ?_⟩
      · rintro j y sj Qj Ej ⟨i, hij, rfl⟩ hQj
        obtain ⟨hj, ej⟩ := List.getElem?_eq_some_iff.mp hij
        rw [List.getElem_range] at ej
        subst ej
        exact wpAny_truthy_bool hQj
      · have nwr : ∀ b u, s1.heap.get? b = some u → b ∉ h3.objs.size :: wr := fun b u e m => by
          have hl := Heap.lt_size e
          rcases List.mem_cons.mp m with z | z
          · have : (h3.objs.size : Nat) < s1.heap.objs.size := by rw [z] at hl; exact hl
            omega
          · exact Nat.lt_irrefl _ (Nat.lt_of_lt_of_le hl (hwr b z))
        have Q2 := GxR.inv_tab (more := more) (h' := t'.heap) (g' := t'.gens) (d' := t'.drawn) (t' := t'.toks) I1 hP (fun b u nb e => hm.heap b u (nwr b u e) (hk5 b u (keep3 b u nb e))) (hm.heap P _ (nwr P _ Ps) (hk5 P _ hP3)) (AllBare.movedS (I1.bare.push hgb) hm)
        rw [GxR.sh_eta s1 t' hm.os] at Q2
        exact ⟨upd H1 P (.tbl (ps ++ more)), ⟨⟨ps ++ more, upd_same, ht3⟩, fun b nb => upd_ne nb⟩, Q2⟩
  cases hf : codeAmong gpos ps.toList with
  | none =>
    refine wpAny_genexprCodeX hcode (code2.code P2 ht) (code2.tab P2) hf fun c' h' tk hx hge hlt hco' _ htab' _ => ?_
    obtain ⟨o1, vs, f1, tf, fl, tg, inF, tx, tt, op, _, _, _, _, _, _, _, _, _, htr, _⟩ := hco'
    exact rest _ h' tk _ hx (Nat.le_trans hge (Nat.le_of_lt hlt)) htab'.2 htr
  | some cv =>
    refine wpAny_genexprCode_hit hcode (code2.code P2 ht) hf ?_
    exact rest cv h2 tk0 #[] (Heap.ExtBut.refl _ _) (Nat.le_refl _) (by rw [Array.append_empty]; exact P2) (by rw [Array.append_empty]; exact ht)
/-- the truths of n items -/
theorem trL_any (bs : List Bool) : (List.range bs.length).any (fun j => (bs[j]?).getD false) = bs.any id := by
  rw [Bool.eq_iff_iff, List.any_eq_true, List.any_eq_true]
  constructor
  · rintro ⟨j, hj, h⟩
    have hj' := List.mem_range.mp hj
    rw [List.getElem?_eq_getElem hj'] at h
    exact ⟨bs[j], List.getElem_mem hj', h⟩
  · rintro ⟨b, hb, h⟩
    obtain ⟨j, hj, rfl⟩ := List.getElem_of_mem hb
    exact ⟨j, List.mem_range.mpr hj, by rw [List.getElem?_eq_getElem hj]; exact h⟩
theorem trL_all (bs : List Bool) : (List.range bs.length).all (fun j => (bs[j]?).getD false) = bs.all id := by
  rw [Bool.eq_iff_iff, List.all_eq_true, List.all_eq_true]
  constructor
  · intro h b hb
    obtain ⟨j, hj, rfl⟩ := List.getElem_of_mem hb
    have := h j (List.mem_range.mpr hj)
    rw [List.getElem?_eq_getElem hj] at this
    exact this
  · intro h j hj
    have hj' := List.mem_range.mp hj
    rw [List.getElem?_eq_getElem hj']
    exact h _ (List.getElem_mem hj')
/-- any(..), all(..) -/
theorem pe_anyQ {fa : Bool} {c P : Addr} {elt iter : Expr} {x : Str} {px p pos gpos : Pos} {sc : Scope} {te : TE} {kk : Nat} (hr : Room kk X.A) (hg : Gl X (if fa then "all" else "any")) (hm : X.mg (if fa then "all" else "any") = none) (TB : GxR.TabB X.base X.mg c P) (hcode : X.env.code = .ref c) (S : X.Ok → GxR.GenS X.env sc x) (hi : PE X iter te)
    (hs : ∀ v, genFold iter X.env v = pure v) :
    PE X (.Call (.Name (if fa then "all" else "any") p) [.GeneratorExp elt [⟨.Name x px, iter, [], 0⟩] sc gpos] [] pos) (fun σ H Q => te σ H fun v H1 => GxR.TabG H1 P ∧ ∀ pins xv s1, Inv X pins σ H1 s1 → RelV v xv → ∃ bs : List Bool, GIt X s1 P sc x elt bs.length (fun j => (bs[j]?).getD false) xv ∧ ∀ H2, GxR.Tabbed P H1 H2 → Q (.bl (if fa then bs.all id else bs.any id)) H2) := by
  have he : starEach [.GeneratorExp elt [⟨.Name x px, iter, [], 0⟩] sc gpos] X.env = (false, eval (.GeneratorExp elt [⟨.Name x px, iter, [], 0⟩] sc gpos) X.env) :: starEach [] X.env := rfl
  refine ⟨fun pins s σ H Q I h => ?_⟩
  have tl : ∀ (bs : List Bool) (H1 : Hp) (g : Addr) (t : Shared), GRd X pins σ H1 P bs.length (fun j => (bs[j]?).getD false) g t → (∀ H2, GxR.Tabbed P H1 H2 → Q (.bl (if fa then bs.all id else bs.any id)) H2) →
      wpAny (model X.prog X.w) X.A (call (.builtin (if fa then "all" else "any")) [.ref g]) (EP X pins σ Q) X.xe t := fun bs H1 g t rd q => by
    obtain ⟨fp, wr, Gq, F, St, Wg, st, tru, inv⟩ := rd
    cases fa with
    | true =>
      refine call_all_walkS (Wg.self 0 _ _ _ st ⟨g, fp, wr, Gq, _, F, St, _, rfl, Wg, st, tru, fun s' hmv => ?_⟩)
      obtain ⟨H2, hT, J⟩ := inv s' hmv
      refine ⟨.bl _, H2, J, rfl, ?_⟩
      rw [trL_all]
      exact q H2 hT
    | false =>
      refine call_any_walkS (Wg.self 0 _ _ _ st ⟨g, fp, wr, Gq, _, F, St, _, rfl, Wg, st, tru, fun s' hmv => ?_⟩)
      obtain ⟨H2, hT, J⟩ := inv s' hmv
      refine ⟨.bl _, H2, J, rfl, ?_⟩
      rw [trL_any]
      exact q H2 hT
  have nb : bootBuiltins (if fa then "all" else "any") = some (.builtin (if fa then "all" else "any")) := by cases fa <;> decide +kernel
  refine wpAny_Call_Name_kw (ld_blt I hg hm nb ?_ (by cases fa <;> decide +kernel) (by cases fa <;> decide +kernel))
  refine PyProof.Rows.callWith_builtin1 ?_ he (by rfl)
  rw [he]
  show wpAny _ _ (spliced ((false, eval (.GeneratorExp elt [⟨.Name x px, iter, [], 0⟩] sc gpos) X.env) :: backTo pos (starEach [] X.env))) _ _ s
  refine Calls.spliced_cons (gen_q (R := fun bs H1 => ∀ H2, GxR.Tabbed P H1 H2 → Q (.bl (if fa then bs.all id else bs.any id)) H2) hr TB hcode (S I.ok) hi hs I h fun bs H1 g t rb rd => ?_)
  exact Calls.spliced_nil (tl bs H1 g t rd rb)
end
end DI
set_option Elab.async false
set_option linter.all false
set_option maxRecDepth 100000
set_option maxHeartbeats 4000000
/-! DA5: any(e for x in xs), all(..): the rule. -/
namespace DI
open PySem PySem.Spec PyProof.Rows L2
theorem qL_len {f : D → Option D} : ∀ {xs : List D} {bs : List Bool}, qL f xs = some bs → bs.length = xs.length
  | [], bs, h => by cases h; rfl
  | d :: r, bs, h => by
    have h : (match f d, qL f r with
      | some (.bl b), some bs => some (b :: bs)
      | _, _ => none) = some bs := h
    split at h
    · rename_i b cs e1 e2
      cases h
      simp [qL_len e2]
    · cases h
theorem qL_get {f : D → Option D} : ∀ {xs : List D} {bs : List Bool} {i : Nat} {d : D}, qL f xs = some bs → xs[i]? = some d → ∃ b, f d = some (.bl b) ∧ bs[i]? = some b
  | [], bs, i, d, h, e => by simp at e
  | x :: r, bs, i, d, h, e => by
    have h : (match f x, qL f r with
      | some (.bl b), some bs => some (b :: bs)
      | _, _ => none) = some bs := h
    split at h
    · rename_i b cs e1 e2
      cases h
      cases i with
      | zero =>
        simp at e
        subst e
        exact ⟨b, e1, rfl⟩
      | succ i =>
        obtain ⟨b', q1, q2⟩ := qL_get (i := i) e2 (by simpa using e)
        exact ⟨b', q1, by simpa using q2⟩
    · cases h
/-- the table of generator expressions has grown -/
theorem tab_sim {G : Gx} {W : Wd} {S : Store} {H1 H2 : Hp} {P : Addr} (sim : Sim G W S H1) (hm : (P, none) ∈ G.tb) (un : ∀ t ∈ G.tb, t.1 = P → t.2 = none) (h : GxR.Tabbed P H1 H2) : Sim G W S H2 ∧ Stp W H1 W H2 := by
  obtain ⟨tg, same⟩ := h
  have hP : ∃ ps, H1 P = some (.tbl ps) := by
    obtain ⟨ps, e, _⟩ := (show GxR.TabG H1 P from sim.tb _ hm)
    exact ⟨ps, e⟩
  obtain ⟨ps, hP⟩ := hP
  obtain ⟨qs, eP, tq⟩ := tg
  have nz : ∀ b u, H1 b = some u → (∀ q, u ≠ .tbl q) → H2 b = some u := fun b u e n => by
    rw [same b (fun z => by rw [z, hP] at e; exact n ps (Option.some.inj e).symm)]
    exact e
  refine ⟨⟨sim.len, fun b o e => ?_, fun n o e => (sim.ob n o e).mv fun u hu ht => nz _ u hu ht, sim.nf, sim.inj, fun t ht => ?_, sim.tf⟩, ⟨.refl W, fun b o e _ n => nz b o e n, fun b e => .inl e, fun j h1 h2 => absurd h2 (Nat.not_lt.mpr h1), fun b e => ?_⟩⟩
  · rw [same b (fun z => by rw [z, sim.tf _ hm] at e; cases e)]
    exact sim.fz b o e
  · by_cases z : t.1 = P
    · have t2 := un t ht z
      obtain ⟨t1, tt⟩ := t
      have z : t1 = P := z
      have t2 : tt = none := t2
      subst z t2
      exact ⟨qs, eP, tq⟩
    · refine (sim.tb t ht).mv (fun qs e => by rw [same _ z]; exact e) fun c q e => ?_
      exact nz c _ e (fun q z => by unfold LamX.CodeO at z; cases z)
  · by_cases z : b = P
    · rw [z, eP]; simp
    · rw [same b z]; exact e
theorem ofD_inv {S : Store} {x : D} {w : List D × Option Nat} (h : ofD S x = some w) : (∃ xs, walkD x = some xs ∧ w = (xs, none)) ∨ ∃ xs n, w = (xs, some n) := by
  unfold ofD at h
  split at h
  · split at h
    · cases h
      exact .inr ⟨_, _, rfl⟩
    · cases h
  · obtain ⟨xs, e1, e2⟩ := Option.map_eq_some_iff.mp h
    exact .inl ⟨xs, e1, e2.symm⟩
theorem WRep.vr {C : Ct} {σ : L2.St} {ρ : Ev} {ca : Ex} {W : Wd} {H : Hp} {d : D} {v : V} (h : WRep C σ ρ ca W H d v) : VRep C.G W H d v := by
  rcases h with h | ⟨_, p, o, e, _, q, r⟩
  · exact .inl h
  · exact .inr ⟨p, o, e, q, r⟩
/-- the generator's scope: one name of its own -/
def gsC (k : Ck) (sc : Scope) (x : Str) : Bool := kindG sc && !sc.isCoroutine && lcN sc ".0" && lcN sc x && sc.names.all fun y => match y.2 with
  | .cell => false
  | .free => cfN k.sc y.1
  | _ => true
where kindG (sc : Scope) : Bool := match sc.kind with
  | .function => true
  | _ => false
theorem gsC_ok {C : Ct} {k : Ck} {X : Cx} {sc : Scope} {x : Str} (c : Cok C k X) (h : gsC k sc x = true) (ok : X.Ok) : GxR.GenS X.env sc x := by
  unfold gsC at h
  simp only [Bool.and_eq_true, Bool.not_eq_true'] at h
  obtain ⟨⟨⟨⟨h1, h2⟩, h3⟩, h4⟩, h5⟩ := h
  refine ⟨?_, h2, fun y hy e => ?_, lcN_ok h3, lcN_ok h4, fun y hy e => ?_⟩
  · unfold gsC.kindG at h1
    split at h1
    · assumption
    · cases h1
  · have := List.all_eq_true.mp h5 y hy
    rw [e] at this
    cases this
  · have := List.all_eq_true.mp h5 y hy
    rw [e] at this
    refine ok.has y.1 ?_
    unfold Env.kindOf
    rw [c.sc]
    exact cfN_ok this
def plainG : Expr → Bool
  | .List .. | .Set .. => false
  | _ => true
theorem plainG_ok {iter : Expr} (h : plainG iter = true) (env : Env) (v : Value) : genFold iter env v = pure v := by
  cases iter <;> first | rfl | cases h
section
variable {C : Ct} {k : Ck} {X : Cx} {elt iter : Expr} {ce ca : Ex} {sc : Scope} {pos p px gpos : Pos}
/-- what is walked, and the truths of its items -/
theorem git_of {P : Addr} {W : Wd} {S : Store} {ρ : Ev} {σ : L2.St} {H1 : Hp} {x : Str} {i : Nat} {xs : List D} {bs : List Bool} {xv : Value} {v : V} {d : D} {s1 : Shared} {pins : List (Addr × Obj)} (c : Cok C k X) (g : Gok C) (hS : GxR.GenS X.env sc x) (hN : k.N[i]? = some x) (hq : ckQ C.T sc [(x, i)] ce k elt = true)
    (sim : Sim C.G W S H1) (eok : Eok C W H1 ρ σ) (hP : ∃ ps, H1 P = some (.tbl ps)) (hw : walkD d = some xs) (hb : qL (fun d => (bindP (.nm i) d (kill (Pat.nm i).slots ρ)).bind fun ρ' => evQ C.cl ce ρ') xs = some bs) (I : Inv X pins σ H1 s1) (r : RelV v xv) (pv : VRep C.G W H1 d v) :
    GIt X s1 P sc x elt bs.length (fun j => (bs[j]?).getD false) xv := by
  have hlen := qL_len hb
  obtain ⟨ps, hP⟩ := hP
  have Ps : s1.heap.get? P = some { cls := .none, data := .fields ps } := I.hok P _ hP
  have Plt : P < s1.heap.objs.size := Heap.lt_size Ps
  have elem : ∀ (h2 : Heap) (wr : List Addr) (L : Addr) (code : Value) (j : Nat) (u : Value) (dj : D), (∀ b o, s1.heap.get? b = some o → h2.get? b = some o) → (∀ b ∈ wr, s1.heap.objs.size ≤ b) → xs[j]? = some dj → (∃ vj, RelV vj u ∧ Rep C.G W dj vj) →
      Qe X.prog X.w (genEnv sc (cloFrom X.env.cells sc.names []) L code builtinsNs X.env) (X.A.depth + 1) (X.A.units + 8) (Qg h2 P wr L [(x, u)]) elt fun y => y = .bool ((bs[j]?).getD false) := fun h2 wr L code j u dj old hwr ej ⟨vj, rj, pj⟩ => by
    obtain ⟨b, ef, eb⟩ := qL_get hb ej
    obtain ⟨ρ', e1, e2⟩ := Option.bind_eq_some_iff.mp ef
    have q : Qk C k X σ H1 s1 W S ρ P wr sc [(x, i)] (genEnv sc (cloFrom X.env.cells sc.names []) L code builtinsNs X.env) [(x, u)] ρ' h2 := by
      have e1 : (if i < (ρ.set i .un).length then some ((ρ.set i .un).set i (.val dj)) else none) = some ρ' := e1
      split at e1
      · rename_i hi
        cases e1
        refine ⟨c, g, ⟨pins, I⟩, old, sim, eok, hS.kind, rfl, I.ok.glob, rfl, fun y hy => ?_, ⟨ps, hP⟩, hwr, fun y l m d' e => ?_, fun l hl d' e => ?_⟩
        · have f := frN_ok hy
          obtain ⟨cc, ec⟩ := hS.free (y, .free) (PySem.mem_of_lookup f) rfl
          show (cloFrom X.env.cells sc.names []).lookup y = _
          rw [clo_look f ec, ec]
        · obtain ⟨rfl, rfl⟩ : y = x ∧ l = i := by
            have := List.mem_singleton.mp m
            cases this
            exact ⟨rfl, rfl⟩
          rw [List.getElem?_set_self hi] at e
          cases e
          exact ⟨vj, u, List.mem_singleton.mpr rfl, rj, pj⟩
        · have nl : i ≠ l := fun z => hl (by rw [z]; simp)
          rw [List.getElem?_set_ne nl, List.getElem?_set_ne nl] at e
          exact e
      · cases e1
    have := qe_ok ce q hq e2
    refine this.imp fun y ⟨vb, rb, pb⟩ => ?_
    have pb : vb = .bl b := pb
    subst pb
    rw [eb]
    exact rb
  refine ⟨fun Q E fin => ?_⟩
  have sizes : ∀ (o : Obj), (s1.heap.push o).objs.size = s1.heap.objs.size + 1 := fun o => Heap.size_push ..
  have oldp : ∀ (o : Obj) b u, s1.heap.get? b = some u → (s1.heap.push o).get? b = some u := fun o b u e => Heap.get?_push_of_some _ e
  have one : ∀ (o : Obj), ∀ b ∈ [s1.heap.objs.size], s1.heap.objs.size ≤ b := fun o b m => by rw [List.mem_singleton.mp m]; exact Nat.le_refl _
  have two : ∀ (o : Obj) (a : Addr) (u : Obj), s1.heap.get? a = some u → (∀ qs, u.data ≠ .fields qs) → ∀ b ∈ [s1.heap.objs.size, a], b < (s1.heap.push o).objs.size ∧ b ≠ P := fun o a u e n b m => by
    have la := Heap.lt_size e
    rw [sizes]
    rcases List.mem_cons.mp m with rfl | m
    · exact ⟨Nat.lt_succ_self _, fun z => Nat.ne_of_lt Plt z.symm⟩
    · rw [List.mem_singleton.mp m]
      refine ⟨Nat.lt_succ_of_lt la, fun z => ?_⟩
      rw [z, Ps] at e
      cases e
      exact n ps rfl
  have sq : ∀ ys, seqD d = some ys → ys = xs → wpAny (model X.prog X.w) X.A (pyIter xv) Q E s1 := fun ys e ey => by
    subst ey
    obtain ⟨a, vs, rfl, hs, rs⟩ := pv.seq sim.fz e
    have r : xv = .ref a := r
    subst r
    rw [← c.K] at hs
    rcases hs with hs | hs
    · obtain ⟨its, rv, pl, hz⟩ := I.list hs
      have pl2 := pl.isList
      obtain ⟨o, g1, g2⟩ := pl2
      have hd : ∀ qs, o.data ≠ .fields qs := by
        obtain ⟨o', n', e', d1, d2, d3⟩ := pl
        rw [g1] at e'
        cases e'
        rw [d3]
        exact fun _ z => nomatch z
      refine wpAny_pyIter_list pl.isList ?_
      have ln : bs.length = its.toArray.size := by have := rv.length; have := rs.length; simp; omega
      rw [ln] at fin
      refine fin _ _ _ [s1.heap.objs.size, a] [s1.heap.objs.size] _ _ (oldp _) (by rw [sizes]; exact Nat.le_succ _) (fun B hB => Walks.list hB _ _ (Nat.ne_of_lt (Heap.lt_size g1)) its.toArray) ⟨⟨_, Heap.get?_push_size _ rfl, rfl, rfl⟩, pl.isList.push _⟩ (two _ a o g1 hd) (one default) fun L code j u hu => ?_
      have hj : j < its.length := by have := (Array.getElem?_eq_some_iff.mp hu).1; simpa using this
      have hx : j < ys.length := by have := rv.length; have := rs.length; omega
      obtain ⟨vj, ev, pj⟩ := rs.get (List.getElem?_eq_getElem hx)
      obtain ⟨uj, eu, rj⟩ := rv.get ev
      have : uj = u := by
        have h1 : its[j]? = some u := by simpa using hu
        rw [eu] at h1
        exact Option.some.inj h1
      subst this
      exact elem _ _ L code j uj _ (oldp _) (one default) (List.getElem?_eq_getElem hx) ⟨vj, rj, pj⟩
    · obtain ⟨its, rv, pl, hz⟩ := I.tuple hs
      obtain ⟨o, g1, g2, n, g3⟩ := id pl
      refine wpAny_pyIter_tuple (show s1.heap.IsTuple a its.toArray from pl) ?_
      have ln : bs.length = its.toArray.size := by have := rv.length; have := rs.length; simp; omega
      rw [ln] at fin
      refine fin _ _ _ [s1.heap.objs.size, a] [s1.heap.objs.size] _ _ (oldp _) (by rw [sizes]; exact Nat.le_succ _) (fun B hB => Walks.tuple hB _ _ (Nat.ne_of_lt (Heap.lt_size g1)) its.toArray) ⟨⟨_, Heap.get?_push_size _ rfl, rfl, rfl⟩, Heap.IsTuple.push (show s1.heap.IsTuple a its.toArray from pl) _⟩ (two _ a o g1 (by rw [g3]; exact fun _ z => nomatch z)) (one default) fun L code j u hu => ?_
      have hj : j < its.length := by have := (Array.getElem?_eq_some_iff.mp hu).1; simpa using this
      have hx : j < ys.length := by have := rv.length; have := rs.length; omega
      obtain ⟨vj, ev, pj⟩ := rs.get (List.getElem?_eq_getElem hx)
      obtain ⟨uj, eu, rj⟩ := rv.get ev
      have : uj = u := by
        have h1 : its[j]? = some u := by simpa using hu
        rw [eu] at h1
        exact Option.some.inj h1
      subst this
      exact elem _ _ L code j uj _ (oldp _) (one default) (List.getElem?_eq_getElem hx) ⟨vj, rj, pj⟩
  cases d with
  | tup ys => cases hw; exact sq _ rfl rfl
  | lst ys => cases hw; exact sq _ rfl rfl
  | ro ys => cases hw; exact sq _ rfl rfl
  | str z =>
    cases hw
    have ez := pv.str
    subst ez
    obtain ⟨t, rfl⟩ := (show ∃ t, xv = .str z t from r)
    refine wpAny_pyIter_str fun o St Wk st0 => ?_
    have ln : bs.length = z.cps.size := by
      rw [hlen]
      unfold signs
      simp
    rw [ln] at fin
    refine fin _ _ _ [s1.heap.objs.size] [s1.heap.objs.size] _ St (oldp o) (by rw [sizes]; exact Nat.le_succ _) Wk st0 (fun b m => ?_) (one o) fun L code j u hu => ?_
    · rw [List.mem_singleton.mp m, sizes]
      exact ⟨Nat.lt_succ_self _, fun z => Nat.ne_of_lt Plt z.symm⟩
    · obtain ⟨cc, t2, e2, rfl⟩ := hu
      have ex : (signs z)[j]? = some (.str ⟨#[cc]⟩) := by
        unfold signs
        rw [List.getElem?_map]
        have : z.cps.toList[j]? = some cc := by rw [Array.getElem?_toList]; exact e2
        rw [this]; rfl
      exact elem _ _ L code j _ _ (oldp o) (one o) ex ⟨.str ⟨#[cc]⟩, ⟨t2, rfl⟩, rfl⟩
  | _ => cases hw
theorem r_anyg {fa : Bool} {x : Str} {i : Nat} (c : Cok C k X) (hk : k.calm = true) (g : Gok C) (hx : glC k.sc (if fa then "all" else "any") = true) (hin : k.inn = some false) (hsc : gsC k sc x = true) (hN : k.N[i]? = some x) (ha : PE X iter (tW C ca)) (hq : ckQ C.T sc [(x, i)] ce k elt = true) (hs : plainG iter = true) :
    PE X (.Call (.Name (if fa then "all" else "any") p) [.GeneratorExp elt [⟨.Name x px, iter, [], 0⟩] sc gpos] [] pos) (tE C true (if fa then .allg ce (.nm i) (.of ca) else .anyg ce (.nm i) (.of ca))) := by
  obtain ⟨cd, P, ec, hm, un, TB⟩ := c.tb false hin
  have hm : (P, none) ∈ C.G.tb := hm
  have un : ∀ t ∈ C.G.tb, t.1 = P → t.2 = none := un
  refine (pe_anyQ (fa := fa) (c.room hk) (glC_ok c hx) (by rw [c.mg]; exact g.bn _ (by cases fa <;> decide +kernel)) TB ec (gsC_ok c hsc) ha (plainG_ok hs X.env)).imp fun σ H Q ⟨W, S, ρ, sim, eok, q⟩ => ?_
  have q2 : RP ((bw ca ρ S (ev C.cl ca ρ S)).bind fun y S => (opt (ofD S y) S).bind fun w S => match w.2 with
      | none => opt ((qL (fun d => (bindP (.nm i) d (kill (Pat.nm i).slots ρ)).bind fun ρ' => evQ C.cl ce ρ') w.1).map fun bs => D.bl (if fa then bs.all id else bs.any id)) S
      | some _ => .bad) (fun a S' => ∀ W' H' v, Stp W H W' H' → Sim C.G W' S' H' → PostV C.G true W' H H' a v → Q v H') (ErrK C σ W H) := by
    cases fa with
    | true =>
      have q : RP (ev C.cl (.allg ce (.nm i) (.of ca)) ρ S) _ _ := q
      unfold ev evI at q
      cases e : bw ca ρ S (ev C.cl ca ρ S) with
      | ok y S1 => rw [e] at q; exact q
      | err _ _ => rw [e] at q; exact q
      | bad => rw [e] at q; exact q
    | false =>
      have q : RP (ev C.cl (.anyg ce (.nm i) (.of ca)) ρ S) _ _ := q
      unfold ev evI at q
      cases e : bw ca ρ S (ev C.cl ca ρ S) with
      | ok y S1 => rw [e] at q; exact q
      | err _ _ => rw [e] at q; exact q
      | bad => rw [e] at q; exact q
  refine tW.bind sim eok q2 fun W1 S1 H1 d v st1 sim1 eok1 pv1 q1 => ?_
  refine ⟨sim1.tb _ hm, fun pins xv s1 I r => ?_⟩
  obtain ⟨w, ew, q1⟩ := q1.bind.opt
  have hw : ∃ xs, walkD d = some xs ∧ w = (xs, none) := by
    rcases ofD_inv ew with z | ⟨xs, n, rfl⟩
    · exact z
    · exact False.elim q1
  obtain ⟨xs, hw, rfl⟩ := hw
  obtain ⟨z, ez, fin⟩ := RP.opt q1
  obtain ⟨bs, eb, rfl⟩ := Option.map_eq_some_iff.mp ez
  obtain ⟨ps, hP, _⟩ := (show GxR.TabG H1 P from sim1.tb _ hm)
  refine ⟨bs, git_of c g (gsC_ok c hsc I.ok) hN hq sim1 eok1 ⟨ps, hP⟩ hw eb I r pv1.vr, fun H2 tb => ?_⟩
  obtain ⟨sim2, st2⟩ := tab_sim sim1 hm un tb
  exact fin W1 H2 _ (st1.trans st2) sim2 (.of_rep rfl (.inr rfl))
end
end DI
set_option Elab.async false
set_option linter.all false
set_option maxRecDepth 100000
set_option maxHeartbeats 4000000
/-! DK: sorted(xs, key=lambda x: x[0]). -/
namespace DI
open PySem PySem.Spec PyProof.Rows L2
/-! ### the lambda -/
def kindF (sc : Scope) : Bool := match sc.kind with
  | .function => true
  | _ => false
theorem kindF_ok {sc : Scope} (h : kindF sc = true) : sc.kind = .function := by
  unfold kindF at h
  split at h
  · assumption
  · cases h
abbrev klP (x : Str) (ap : Pos) : Arguments := ⟨[], [⟨x, none, ap⟩], none, [], [], none, []⟩
abbrev klB (x : Str) (j : Nat) (p1 p2 p3 : Pos) : Expr := .Subscript (.Name x p1) (.Constant (.int 0) j p2) p3
def klS (sc : Scope) (x : Str) : Bool := kindF sc && !sc.isCoroutine && !sc.isGenerator && (match sc.names.lookup x with
  | some .local => true
  | _ => false) && sc.names.all fun y => match y.2 with
  | .cell | .free => false
  | _ => true
theorem kl_bind {q x : Str} {ap : Pos} {body : Expr} {sc : Scope} {cl : List (Str × Addr)} {pm cv ctv v : Value} : bindArgs (PySem.W.kla_fn "<lambda>" q (klP x ap) body sc cl pm cv ctv) ⟨[v], []⟩ = pure [(x, v)] := by
  have e : ([(x, v)] : List (Str × Value)).lookup x = some v := by simp
  unfold bindArgs
  simp [seqItems?]
  rfl
theorem klS_facts {sc : Scope} {x : Str} (h : klS sc x = true) : sc.kind = .function ∧ sc.isCoroutine = false ∧ sc.isGenerator = false ∧ sc.names.lookup x = some .local ∧ (∀ y ∈ sc.names, y.2 ≠ .cell) ∧ ∀ y ∈ sc.names, y.2 ≠ .free := by
  unfold klS at h
  simp only [Bool.and_eq_true, Bool.not_eq_true'] at h
  obtain ⟨⟨⟨⟨h1, h2⟩, h3⟩, h4⟩, h5⟩ := h
  refine ⟨kindF_ok h1, h2, h3, ?_, fun y hy e => ?_, fun y hy e => ?_⟩
  · split at h4
    · assumption
    · cases h4
  · have := List.all_eq_true.mp h5 y hy
    rw [e] at this; cases this
  · have := List.all_eq_true.mp h5 y hy
    rw [e] at this; cases this
/-- f(t) for a tuple t whose first item is an int -/
theorem kl_turn {P : Program} {w : World} {A : Around} {s : Shared} {q x : Str} {ap p1 p2 p3 : Pos} {j : Nat} {sc : Scope} {f c' t : Addr} {pm ctv : Value} {items : Array Value} {n : Int} {u : Tok} (hx : klS sc x = true) (hd : (x == ("__debug__" : Str)) = false) (room : A.depth < recursionLimit)
    (hf : s.heap.get? f = some (PySem.W.kla_obj "<lambda>" q (klP x ap) (klB x j p1 p2 p3) sc [] pm c' ctv)) (hc : s.heap.CodeRec (.ref c') q) (lim : s.heap.NoLimit) (ht : IsTup s.heap t items) (h0 : items[0]? = some (.int n u)) :
    wpAny (model P w) A (call (.ref f) [.ref t]) (fun v s2 => v = .int n u ∧ ∃ h' tk, s2 = { s with heap := h', toks := tk } ∧ ∀ b o, s.heap.get? b = some o → h'.get? b = some o) (fun _ _ => False) s := by
  obtain ⟨k1, k2, k3, k4, k5, k6⟩ := klS_facts hx
  refine wpAny_call (PySem.W.kla_callFunE room hf rfl k2 k3 rfl hc ?_)
  rw [kl_bind]
  refine wpAny_pure (wpAny_newFunctionEnv k5 (fun y hy => ?_) (fun h1 ns sb => ⟨lim.fresh _ sb, ?_⟩) k1)
  · rw [List.mem_singleton.mp hy]; exact k4
  have old : ∀ b o, s.heap.get? b = some o → h1.get? b = some o := fun b o e => sb.extBut b o (Nat.ne_of_lt (Heap.lt_size e)) (Heap.get?_push_of_some _ e)
  refine PySem.W.kla_codeExpr ?_
  refine Subscript_ (wpAny_Name (wpAny_loadName_local k1 k4 ns (v := .ref t) ?_ ?_) hd)
  · simp
  refine wpAny_Constant_int ?_
  obtain ⟨o, ho, hcl, m, hdt⟩ := ht
  exact item_tuple (j := 0) ⟨o, old _ _ ho, hcl, m, hdt⟩ (by omega) (by omega) (by
    have : 0 < items.size := (Array.getElem?_eq_some_iff.mp h0).1
    have e0 : ((0 : Int) < (items.size : Int)) := by omega
    simp [seqIndex?]
    intro z; rw [z] at this; simp at this) h0 ⟨rfl, _, _, rfl, old⟩
end DI
namespace DI
open PySem PySem.Spec PyProof.Rows L2
/-- the function at f; its code object stands at c' -/
def FunK (f c' : Addr) (q x : Str) (ap : Pos) (j : Nat) (p1 p2 p3 : Pos) (sc : Scope) : HO := .ext fun h => ∃ pm ctv, h.get? f = some (PySem.W.kla_obj "<lambda>" q (klP x ap) (klB x j p1 p2 p3) sc [] pm c' ctv)
/-- a function was made from H to H1, perhaps its code object, which the table tells from then on -/
def Made (H : Hp) (P : Addr) (q : Str) (f c' : Addr) (u : HO) (H1 : Hp) : Prop :=
  H f = none ∧ f ≠ c' ∧ ((H c' = some (LamX.CodeO c' q) ∧ H1 = upd H f u) ∨ ∃ ps more, H P = some (.tbl ps) ∧ H c' = none ∧ H1 = upd (upd (upd H P (.tbl (ps ++ more))) c' (LamX.CodeO c' q)) f u) ∧ LamX.TabS H1 P q
theorem clo_nil {cells : List (Str × Addr)} {names : List (Str × NameKind)} (h : ∀ y ∈ names, y.2 ≠ .free) : cloFrom cells names [] = [] := by
  refine List.eq_nil_iff_forall_not_mem.mpr fun y hy => ?_
  rcases cloFrom_mem hy with z | ⟨z, _⟩
  · cases z
  · exact h _ z rfl
section
variable {X : Cx} {pins : List (Addr × Obj)} {σ : L2.St} {H : Hp} {s : Shared}
theorem kl_make {c P : Addr} {q x : Str} {ap p1 p2 p3 lp : Pos} {j : Nat} {sc : Scope} {E : Value → Shared → Prop} {Q : Value → Shared → Prop} (I : Inv X pins σ H s) (TB : GxR.TabB X.base X.mg c P) (hcode : X.env.code = .ref c) (hq : q = X.env.qual ++ "<lambda>") (hT : LamX.TabS H P q) (hx : klS sc x = true)
    (h : ∀ (f c' : Addr) (H1 : Hp) (s' : Shared), Inv X pins σ H1 s' → Made H P q f c' (FunK f c' q x ap j p1 p2 p3 sc) H1 → Q (.ref f) s') :
    wpAny (model X.prog X.w) X.A (eval (.Lambda (klP x ap) (klB x j p1 p2 p3) sc lp) X.env) Q E s := by
  obtain ⟨k1, k2, k3, k4, k5, k6⟩ := klS_facts hx
  have fr : ∀ y ∈ sc.names, y.2 = .free → ∃ c, X.env.cells.lookup y.1 = some c := fun y hy e => absurd e (k6 y hy)
  have nil := clo_nil (cells := X.env.cells) k6
  have all := hT
  obtain ⟨ps, hP, tr, known⟩ := hT
  have P0 : s.heap.get? P = some { cls := .none, data := .fields ps } := I.hok P _ hP
  refine PySem.W.kla_eval rfl ?_
  subst hq
  cases hc : codeAmong lp ps.toList with
  | none =>
    refine PySem.W.kla_makeFunction (mg := X.mg) (c := c) (P := P) (ps := ps) (closure_ok fr) I.ok.glob (I.mod.glob.keeps I.bk) hcode (TB.code.keeps I.bk) P0 tr hc TB.gP (TB.bm.keeps I.bk) fun c' ctv h' tk old ge lt rec tab => ?_
    obtain ⟨c2, oc, vs, t, e2, r1, r2, r3⟩ := rec
    cases e2
    rw [nil]
    have hs : s.heap.objs.size ≤ h'.objs.size := Nat.le_trans ge (Nat.le_of_lt lt)
    have n1 : H c' = none := I.hok.fresh ge
    have n2 : H h'.objs.size = none := I.hok.fresh hs
    have I1 := LamX.inv_table (q := X.env.qual ++ "<lambda>") (t' := tk) (more := #[rawInt lp.line, rawInt lp.col, .ref c']) (h' := h') I hP old tab ge ⟨oc, vs, t, r1, r2, r3⟩
    have I2 := I1.laid (h' := h'.push (PySem.W.kla_obj "<lambda>" (X.env.qual ++ "<lambda>") (klP x ap) (klB x j p1 p2 p3) sc [] ((X.mg "__name__").getD .none) c' ctv)) (a := h'.objs.size) (o := FunK h'.objs.size c' (X.env.qual ++ "<lambda>") x ap j p1 p2 p3 sc) (t' := tk) (fun b u e => Heap.get?_push_of_some _ e) (Nat.le_refl _)
      ⟨⟨_, _, Heap.get?_push_size _ rfl⟩, ⟨_, Heap.get?_push_size _ rfl⟩, fun h1 h2 ⟨pm, cv, e⟩ k => ⟨pm, cv, k _ e⟩⟩
    have fP : h'.objs.size ≠ P := fun z => by rw [z, hP] at n2; cases n2
    have cP : c' ≠ P := fun z => by rw [z, hP] at n1; cases n1
    have fc : h'.objs.size ≠ c' := Nat.ne_of_gt lt
    refine h h'.objs.size c' _ _ I2 ⟨n2, fc, .inr ⟨ps, _, hP, n1, rfl⟩, ⟨_, by rw [upd_ne fP.symm, upd_ne cP.symm, upd_same], ?_, fun pos cv hcv => ?_⟩⟩
    · rw [Array.toList_append]
      exact PySem.TriplesOk_snoc _ _ _ _ tr
    · rw [Array.toList_append] at hcv
      rcases LamX.among_app _ tr hcv with z | z
      · obtain ⟨c0, e1, e2⟩ := known pos cv z
        refine ⟨c0, e1, ?_⟩
        rw [upd_ne (fun z => by rw [z, n2] at e2; cases e2), upd_ne (fun z => by rw [z, n1] at e2; cases e2), upd_ne (fun z => by rw [z, hP] at e2; exact LamX.codeO_ne _ (Option.some.inj e2).symm)]
        exact e2
      · exact ⟨c', z, by rw [upd_ne fc.symm, upd_same]⟩
  | some cv =>
    obtain ⟨c', e, co⟩ := known lp cv hc
    subst e
    refine PySem.W.kla_makeFunctionHit (mg := X.mg) (c := c) (P := P) (ps := ps) (closure_ok fr) I.ok.glob (I.mod.glob.keeps I.bk) hcode (TB.code.keeps I.bk) P0 tr hc (TB.bm.keeps I.bk) fun ctv h' tk old sz => ?_
    rw [nil]
    have n2 : H h'.objs.size = none := I.hok.fresh sz
    have I2 := I.laid (h' := h'.push (PySem.W.kla_obj "<lambda>" (X.env.qual ++ "<lambda>") (klP x ap) (klB x j p1 p2 p3) sc [] ((X.mg "__name__").getD .none) c' ctv)) (a := h'.objs.size) (o := FunK h'.objs.size c' (X.env.qual ++ "<lambda>") x ap j p1 p2 p3 sc) (t' := tk) (fun b u e => Heap.get?_push_of_some _ (old b u e)) sz
      ⟨⟨_, _, Heap.get?_push_size _ rfl⟩, ⟨_, Heap.get?_push_size _ rfl⟩, fun h1 h2 ⟨pm, cv, e⟩ k => ⟨pm, cv, k _ e⟩⟩
    refine h h'.objs.size c' _ _ I2 ⟨n2, fun z => (by rw [z] at n2; rw [n2] at co; cases co), .inl ⟨co, rfl⟩, all.ext fun b o e => ?_⟩
    rw [upd_ne (ne_of_none e n2)]
    exact e
end
/-- the world as before -/
theorem Made.sim {G : Gx} {W : Wd} {S : Store} {H H1 : Hp} {P f c' : Addr} {q : Str} {u : HO} (s : Sim G W S H) (m : Made H P q f c' u H1) (ht : (P, some q) ∈ G.tb) (uu : ∀ t ∈ G.tb, t.1 = P → t.2 = some q) : Sim G W S H1 ∧ Stp W H W H1 := by
  obtain ⟨n1, n2, m, tab⟩ := m
  rcases m with ⟨n3, rfl⟩ | ⟨ps, more, hP, n3, rfl⟩
  · exact ⟨s.push n1, .push n1⟩
  · have nn : ∀ {a : Addr} {o : HO}, H a = some o → (∀ ps, o ≠ .tbl ps) → a ≠ f ∧ a ≠ c' ∧ a ≠ P := fun {a o} e h => ⟨fun z => (by rw [z, n1] at e; cases e), fun z => (by rw [z, n3] at e; cases e), fun z => (by rw [z, hP] at e; exact h ps (Option.some.inj e).symm)⟩
    have keep : ∀ {a : Addr} {o : HO}, H a = some o → (∀ ps, o ≠ .tbl ps) → upd (upd (upd H P (.tbl (ps ++ more))) c' (LamX.CodeO c' q)) f u a = some o := fun {a o} e h => by
      obtain ⟨a1, a2, a3⟩ := nn e h
      rw [upd_ne a1, upd_ne a2, upd_ne a3]; exact e
    refine ⟨⟨s.len, fun a o e => ?_, fun n o e => (s.ob n o e).mv fun v hv hn => keep hv hn, s.nf, s.inj, fun t h => ?_, s.tf⟩, ⟨.refl W, fun a o e _ h => keep e h, fun a h => .inl h, fun k h1 h2 => absurd h2 (Nat.not_lt.mpr h1), fun a h => ?_⟩⟩
    · have e' := s.fz a o e
      have aP : a ≠ P := fun z => by
        have := s.tf _ ht
        rw [z] at e; rw [this] at e; cases e
      rw [upd_ne (ne_of_none e' n1), upd_ne (ne_of_none e' n3), upd_ne aP]
      exact e'
    · by_cases hp : t.1 = P
      · obtain ⟨tP, tq⟩ := t
        have := uu _ h hp
        simp only at hp this
        subst hp this
        exact tab
      · refine (s.tb t h).mv (fun qs e => ?_) fun c p e => keep e (LamX.codeO_ne)
        rw [upd_ne (ne_of_none e n1), upd_ne (ne_of_none e n3), upd_ne hp]
        exact e
    · by_cases z1 : a = f
      · rw [z1, upd_same]; simp
      · rw [upd_ne z1]
        by_cases z2 : a = c'
        · rw [z2, upd_same]; simp
        · rw [upd_ne z2]
          by_cases z3 : a = P
          · rw [z3, upd_same]; simp
          · rw [upd_ne z3]; exact h
end DI
set_option Elab.async false
set_option linter.all false
set_option maxRecDepth 100000
set_option maxHeartbeats 4000000
/-! DK2: sorted of a list, a tuple by a key. -/
namespace DI
open PySem PySem.Spec PyProof.Rows L2
section
variable {P : Program} {w : World} {A : Around} {E : Value → Shared → Prop} {s : Shared}
/-- a list or tuple with these items -/
def SqAt (h : Heap) (a : Addr) (vs : List Value) : Prop := ∃ (T : String) (o : Obj) (n : Nat), (T = "list" ∨ T = "tuple") ∧ h.get? a = some o ∧ o.cls = .type T ∧ o.data = .seq vs.toArray n
/-- the heap with the items gathered -/
abbrev gat (h : Heap) (vs : List Value) : Heap := (h.push (seqObj "list" #[] 0)).update h.objs.size (Obj.mapSeq (· ++ vs.toArray))
theorem col_sq {l : Addr} {vs : List Value} {Q : List Value → Shared → Prop} (q : SqAt s.heap l vs) (few : vs.length ≤ sizeLine) (fin : Q vs { s with heap := gat s.heap vs }) : wpAny (model P w) A (collect (.ref l)) Q E s := by
  obtain ⟨T, o, n, hT, at0, oc, od⟩ := q
  have at1 : (s.heap.push (seqObj "list" #[] 0)).get? l = some o := Heap.get?_push_of_some _ at0
  have new : (s.heap.push (seqObj "list" #[] 0)).get? s.heap.objs.size = some (seqObj "list" #[] 0) := Heap.get?_push_size _ rfl
  have tt : (Builtin.List.listSameRef (.ref s.heap.objs.size) (.ref l) || (Value.type T == Value.type "list") || (Value.type T == Value.type "tuple")) = true := by
    rcases hT with e | e <;> subst e
    · rw [show (Value.type "list" == Value.type "list") = true from rfl]; simp
    · rw [show (Value.type "tuple" == Value.type "tuple") = true from rfl]; simp
  unfold collect
  refine wpAny_bind (wpAny_runValue (codeAny_builtin entry_proto_collect' ?_))
  show wpAny _ _ (newList [] >>= fun z => again (.builtin "list.__iadd__" ⟨[z, .ref l], []⟩)) _ _ s
  refine wpAny_bind (wpAny_newList (wpAny_pure ⟨Code.quiet_builtin _ (by decide +kernel), codeAny_builtin entry_list_iadd' ?_⟩))
  show wpAny _ _ (Builtin.List.listExtendWith (.ref s.heap.objs.size) (.ref l) (.ref s.heap.objs.size)) _ _ { s with heap := s.heap.push (seqObj "list" #[] 0) }
  unfold Builtin.List.listExtendWith
  refine wpAny_bind (wpAny_typeOf (T := T) ⟨o, at1, oc⟩ ?_)
  rw [if_pos tt]
  refine wpAny_bind (listItems_at at1 od ?_)
  refine wpAny_bind (listItems_at new rfl ?_)
  rw [if_neg (by simp)]
  refine wpAny_bind (listUpdate_at new rfl ?_ (Nat.zero_le _) ?_)
  · refine wpAny_pure ?_
    show wpAny (model P w) A (load s.heap.objs.size >>= fun z => match z.data with
        | .seq xs _ => pure xs.toList
        | _ => unsupported "internal:collect") Q E { s with heap := gat s.heap vs }
    refine wpAny_bind (wpAny_load (get?_update_seq new _) ?_)
    show wpAny _ _ (pure ((#[] : Array Value) ++ vs.toArray).toList) Q E _
    rw [show ((#[] : Array Value) ++ vs.toArray).toList = vs by simp]
    exact wpAny_pure fin
  · show (#[] ++ vs.toArray).size ≤ sizeLine + 1
    rw [Array.empty_append, List.size_toArray]
    omega
/-- sorted(xs, key=f): f's calls keep all that was there -/
theorem srt_key {β : Type} {l : Addr} {f : Addr} {vs : List Value} {bs : List β} {R : Value → β → Prop} {Q : Value → Shared → Prop} (k : β → PyData) (q : SqAt s.heap l vs) (e : PySem.W.EachIs R vs bs) (al : PySem.W.AllAlike (bs.map k)) (so : PySem.W.Sortable (bs.map k)) (few : bs.length ≤ sizeLine)
    (un : ∀ x, x ∈ bs → A.units + 2 + (k x).depth < cLine)
    (turn : ∀ (v : Value) (x : β), R v x → x ∈ bs → ∀ (h : Heap) (tk : Nat), (∀ b o, s.heap.get? b = some o → h.get? b = some o) →
      wpAny (model P w) A.in1.in1 (call (.ref f) [v]) (PySem.W.KeyPure (k x) { s with heap := h, toks := tk }) (fun _ _ => False) { s with heap := h, toks := tk })
    (fin : ∀ out c h' tk, (∀ b o, s.heap.get? b = some o → h'.get? b = some o) → h'.get? (s.heap.objs.size + 1) = some (seqObj "list" (List.toArray out) c) → PySem.W.EachIs R out (bs.mergeSort (PySem.W.dataLe false k)) →
      Q (.ref (s.heap.objs.size + 1)) { s with heap := h', toks := tk }) :
    wpAny (model P w) A (call (.builtin "sorted") [.ref l] [(Str.ofString "key", .ref f)]) Q E s := by
  have few' : vs.length ≤ sizeLine := by rw [e.length]; exact few
  have old : ∀ {g : Heap}, PySem.W.KeepsBut (s.heap.objs.size + 1) (PySem.W.copyHeap s.heap vs) g → ∀ b o, s.heap.get? b = some o → g.get? b = some o := fun {g} kp b o z =>
    kp b o (Nat.ne_of_lt (Nat.lt_succ_of_lt (Heap.lt_size z))) (PySem.W.copyHeap_old z)
  refine call_function_entry_kw kind_sorted plain_sorted entry_sorted (ksk_s1 _ _) ?_
  unfold Builtin.«sorted»
  refine wpAny_bind (m := checkCount "sorted" 1 1 _) (wpAny_pure ?_)
  refine wpAny_bind (col_sq q few' ?_)
  refine wpAny_bind (wpAny_newList ?_ few')
  have sz : (gat s.heap vs).objs.size = s.heap.objs.size + 1 := by rw [Heap.size_update, size_push']
  show wpAny _ _ _ _ _ { s with heap := PySem.W.copyHeap s.heap vs }
  rw [sz]
  refine wpAny_bind (wpAny_holding (wpAny_call_entry_kw slot_list_sort ⟨_, PySem.W.copyHeap_at s.heap vs, rfl⟩ entry_list_sort ?_ (ksk_l1 _ _)))
  show wpAny (model P w) A.in1.in1 (Builtin.«list.sort» ⟨[.ref (s.heap.objs.size + 1)], [(Str.ofString "key", .ref f)]⟩) _ _ _
  rw [ksk_t1]
  refine PySem.W.keyH_tree (kz := bs.map k) (s := { s with heap := PySem.W.copyHeap s.heap vs }) (PySem.W.copyHeap_at s.heap vs) (by rw [List.length_map]; exact e.length.symm) few' al so (fun d hd => ?_)
    (PySem.W.keyH_turns (s := { s with heap := PySem.W.copyHeap s.heap vs }) e fun v x r m h tk kp => turn v x r m h tk (old kp)) fun h' tk out c kp at_ ko => ⟨_, rfl, ?_⟩
  · obtain ⟨x, hx, rfl⟩ := List.mem_map.mp hd
    exact un x hx
  · exact wpAny_pure ⟨_, rfl, fin out c h' tk (old kp) at_ (PySem.W.keyedOut_each k ko e)⟩
end
end DI
namespace DI
open PySem PySem.Spec PyProof.Rows L2
section
variable {X : Cx}
/-- sorted(xs, key=f), f such a lambda, each item a tuple with an int ahead -/
def rSrk (K : PySem.W.Frag) (q x : Str) (ap : Pos) (j : Nat) (p1 p2 p3 : Pos) (sc : Scope) : List V → List V → Hp → VK → Prop := fun xs zs H Q => ∃ (l f c' : Addr) (ys : List (V × Int)), xs = [.ref l] ∧ zs = [.ref f] ∧ (SqL K H l (ys.map (·.1)) ∨ SqT K H l (ys.map (·.1))) ∧
  H f = some (FunK f c' q x ap j p1 p2 p3 sc) ∧ H c' = some (LamX.CodeO c' q) ∧ (∀ y ∈ ys, ∃ t ws, y.1 = .ref t ∧ SqT K H t (.int y.2 :: ws)) ∧
  ∀ p, H p = none → Q (.ref p) (upd H p (.lst ((ys.mergeSort fun a b => decide (a.2 ≤ b.2)).map (·.1))))
/-- an item as it stands -/
def ItK (h : Heap) (v : Value) (y : V × Int) : Prop := RelV y.1 v ∧ ∃ t items u, v = .ref t ∧ IsTup h t items ∧ items[0]? = some (.int y.2 u)
theorem itK_all {pins : List (Addr × Obj)} {σ : L2.St} {H : Hp} {s : Shared} (I : Inv X pins σ H s) : ∀ {ys : List (V × Int)} {vs : List Value}, (∀ y ∈ ys, ∃ t ws, y.1 = .ref t ∧ SqT X.K H t (.int y.2 :: ws)) → Vals (ys.map (·.1)) vs → PySem.W.EachIs (ItK s.heap) vs ys
  | [], vs, _, r => by
    cases r
    exact .nil
  | y :: ys, vs, h, r => by
    cases r with
    | cons r1 r2 =>
      refine .cons ⟨r1, ?_⟩ (itK_all I (fun z hz => h z (List.mem_cons_of_mem _ hz)) r2)
      obtain ⟨t, ws, e, sq⟩ := h y List.mem_cons_self
      obtain ⟨its, rv, ht, _⟩ := I.tuple sq
      have r1 : L2.RelV y.1 _ := r1
      rw [e] at r1
      cases r1
      cases rv with
      | cons a b =>
        obtain ⟨u, rfl⟩ := a
        exact ⟨t, _, u, rfl, ht, rfl⟩
theorem itK_vals {h : Heap} : ∀ {vs : List Value} {ys : List (V × Int)}, PySem.W.EachIs (ItK h) vs ys → Vals (ys.map (·.1)) vs
  | _, _, .nil => .nil
  | _, _, .cons a b => .cons a.1 (itK_vals b)
theorem cr_srk {q x : Str} {ap p1 p2 p3 : Pos} {j : Nat} {sc : Scope} (hx : klS sc x = true) (hd : (x == ("__debug__" : Str)) = false) (dp : X.A.depth < recursionLimit) (un : X.A.units + 100 < cLine) : CallRK X (.builtin "sorted") [Str.ofString "key"] (rSrk X.K q x ap j p1 p2 p3 sc) := by
  intro pins s σ H xs zs us ws Q I r rz h
  obtain ⟨l, f, c', ys, rfl, rfl, hs, hf, hc, hy, fin⟩ := h
  obtain rfl := Vals.ref1 r
  obtain rfl := Vals.ref1 rz
  obtain ⟨vs, rv, at_, few⟩ : ∃ vs : List Value, Vals (ys.map (·.1)) vs ∧ SqAt s.heap l vs ∧ ys.length ≤ sizeLine := by
    rcases hs with hs | hs
    · obtain ⟨its, rv, ⟨o, n, e, e2, _, e3⟩, hz⟩ := I.list hs
      exact ⟨its, rv, ⟨"list", o, n, .inl rfl, e, e2, e3⟩, by simpa using hz⟩
    · obtain ⟨its, rv, ⟨o, e, e2, n, e3⟩, hz⟩ := I.tuple hs
      exact ⟨its, rv, ⟨"tuple", o, n, .inr rfl, e, e2, e3⟩, by simpa using hz⟩
  obtain ⟨⟨pm, ctv, ef⟩, _, _⟩ := I.hok f _ hf
  obtain ⟨⟨oc, cv, t, e1, e2, e3⟩, _, _⟩ := I.hok c' _ hc
  show wpAny _ _ (call (.builtin "sorted") [.ref l] [(Str.ofString "key", .ref f)]) _ _ _
  refine srt_key (R := ItK s.heap) (fun y : V × Int => PyData.int y.2) at_ (itK_all I hy rv) (fun d hd d' hd' => ?_) (.others fun y => ⟨fun z => (by cases z), fun _ z => (by cases z)⟩) few (fun y _ => ?_) (fun v y hr _ h tk old => ?_) fun out c h' tk old at2 each => ?_
  · obtain ⟨y, _, rfl⟩ := List.mem_map.mp hd
    obtain ⟨y', _, rfl⟩ := List.mem_map.mp hd'
    rfl
  · have e : (PyData.int y.2).depth ≤ 1 := by first | exact Nat.le_refl _ | exact Nat.zero_le _ | simp [PyData.depth]
    show X.A.units + 2 + (PyData.int y.2).depth < cLine
    omega
  · obtain ⟨_, t2, items, u, rfl, ⟨o, g1, g2, g3⟩, h0⟩ := hr
    refine wpAny_mono (kl_turn (s := { s with heap := h, toks := tk }) hx hd dp (old _ _ ef) ⟨c', oc, cv, t, rfl, old _ _ e1, e2, e3⟩ (I.nolimit.keeps old) ⟨o, old _ _ g1, g2, g3⟩ h0) (fun v s2 ⟨ev, h2, tk2, es, k2⟩ => ?_) fun _ _ z => z
    subst ev
    exact ⟨h2, tk2, es, k2, .int _ _⟩
  · have ev := itK_vals each
    rw [PySem.W.dataLe_int] at ev
    have len : ((ys.mergeSort fun a b => decide (a.2 ≤ b.2)).map (·.1)).length ≤ sizeLine := by
      rw [List.length_map, List.length_mergeSort]; exact few
    exact ⟨.ref (s.heap.objs.size + 1), _, I.laid (t' := tk) (o := .lst ((ys.mergeSort fun a b => decide (a.2 ≤ b.2)).map (·.1))) old (Nat.le_succ _) ⟨len, _, c, ev, at2⟩, rfl, fin _ (I.hok.fresh (Nat.le_succ _))⟩
end
end DI
namespace DI
open PySem PySem.Spec PyProof.Rows L2
/-- what the making of the lambda asks, gives -/
def tKl (P : Addr) (q x : Str) (ap : Pos) (j : Nat) (p1 p2 p3 : Pos) (sc : Scope) : TE := fun _ H Q => LamX.TabS H P q ∧ ∀ f c' H1, Made H P q f c' (FunK f c' q x ap j p1 p2 p3 sc) H1 → Q (.ref f) H1
theorem Made.at_ {H H1 : Hp} {P f c' : Addr} {q : Str} {u : HO} (m : Made H P q f c' u H1) : H1 f = some u ∧ H1 c' = some (LamX.CodeO c' q) := by
  obtain ⟨n1, n2, m, _⟩ := m
  rcases m with ⟨n3, rfl⟩ | ⟨ps, more, hP, n3, rfl⟩
  · exact ⟨upd_same, by rw [upd_ne n2.symm]; exact n3⟩
  · exact ⟨upd_same, by rw [upd_ne n2.symm, upd_same]⟩
theorem keyI_some {d : D} (h : (keyI d).isSome = true) : ∃ i r, d = .tup (.int i :: r) := by
  unfold keyI at h
  split at h
  · exact ⟨_, _, rfl⟩
  · cases h
theorem reps_pairs {G : Gx} {W : Wd} : ∀ {l : List (D × V)}, (∀ z ∈ l, Rep G W z.1 z.2) → Reps G W (l.map (·.1)) (l.map (·.2))
  | [], _ => rfl
  | z :: r, h => ⟨z.2, r.map (·.2), rfl, h z List.mem_cons_self, reps_pairs fun y hy => h y (List.mem_cons_of_mem _ hy)⟩
theorem pairs_reps {G : Gx} {W : Wd} : ∀ {ds : List D} {vs : List V}, Reps G W ds vs → ∃ l : List (D × V), l.map (·.1) = ds ∧ l.map (·.2) = vs ∧ ∀ z ∈ l, Rep G W z.1 z.2
  | [], vs, h => ⟨[], rfl, (show vs = [] from h).symm, fun z hz => by cases hz⟩
  | d :: ds, vs, h => by
    obtain ⟨v, us, rfl, r, t⟩ := h
    obtain ⟨l, rfl, rfl, a⟩ := pairs_reps t
    exact ⟨(d, v) :: l, rfl, rfl, fun z hz => by
      rcases List.mem_cons.mp hz with rfl | hz
      · exact r
      · exact a z hz⟩
section
variable {C : Ct} {k : Ck} {X : Cx} {a : Expr} {ca : Ex} {pos p kp lp ap p1 p2 p3 : Pos} {x : Str} {j : Nat} {sc : Scope}
theorem r_srk (c : Cok C k X) (hk : k.calm = true) (g : Gok C) (h1 : glC k.sc "sorted" = true) (hp : plainA a = true) (hi : k.inn = some true) (hs : klS sc x = true) (hn : nmOk x = true) (ha : PE X a (tB C ca)) :
    PE X (.Call (.Name "sorted" p) [a] [⟨some "key", .Lambda (klP x ap) (klB x j p1 p2 p3) sc lp, kp⟩] pos) (tE C true (.srk ca)) := by
  obtain ⟨cd, P, ec, hm, un, TB⟩ := c.tb true hi
  have kl : PE X (.Lambda (klP x ap) (klB x j p1 p2 p3) sc lp) (tKl P (X.env.qual ++ "<lambda>") x ap j p1 p2 p3 sc) :=
    ⟨fun pins s σ H Q I h => kl_make I TB ec rfl h.1 hs fun f c' H1 s' I1 m => ⟨.ref f, H1, I1, rfl, h.2 f c' H1 m⟩⟩
  have dp : X.A.depth < recursionLimit := by have := (c.room hk).dp; omega
  refine (pe_callBK (cr_srk (q := X.env.qual ++ "<lambda>") (ap := ap) (p1 := p1) (p2 := p2) (p3 := p3) (j := j) hs (nmOk_ok hn).1 dp c.units) (glC_ok c h1) (by rw [c.mg]; exact g.bn _ (by decide +kernel)) (by decide +kernel) (pa_one hp ha) (pk_cons kl pk_nil) (by decide +kernel) (by decide +kernel) (by rw [star_of hp]; rfl) (noStar (by rw [List.all_cons, hp]; rfl) _ _)).imp fun σ H Q ⟨W, S, ρ, sim, eok, q⟩ => ?_
  unfold ev at q
  unfold tCKw tCons tNil
  refine tG.bind sim eok q fun W1 S1 H1 y v st1 sim1 eok1 pv1 q1 => ?_
  obtain ⟨d, e, fin⟩ := q1.opt
  refine ⟨sim1.tb _ hm, fun f c' H2 m => ?_⟩
  obtain ⟨sim2, st2⟩ := m.sim sim1 hm un
  have an : Ans C.G W1 S1 H2 d Q := fun W' H' w st s' pv => fin W' H' w ((st1.trans st2).trans st) s' (pv.old (st1.trans st2))
  obtain ⟨m1, m2⟩ := m.at_
  have core : ∀ (xs : List D) (l : Addr) (vs : List V), v = .ref l → (SqL X.K H2 l vs ∨ SqT X.K H2 l vs) → Reps C.G W1 xs vs → srkL xs = some d → rSrk X.K (X.env.qual ++ "<lambda>") x ap j p1 p2 p3 sc [v] [.ref f] H2 Q := by
    intro xs l vs ev sq rs e
    unfold srkL at e
    split at e
    · rename_i cnd
      rw [Bool.and_eq_true, decide_eq_true_eq] at cnd
      cases e
      obtain ⟨zs, rfl, rfl, rz⟩ := pairs_reps rs
      have key : ∀ z ∈ zs, ∃ i r, z.1 = .tup (.int i :: r) := fun z hz => keyI_some (List.all_eq_true.mp cnd.1 _ (List.mem_map_of_mem hz))
      refine ⟨l, f, c', zs.map fun z => (z.2, (keyI z.1).getD 0), by rw [ev], rfl, by rw [List.map_map]; exact sq, m1, m2, fun y hy => ?_, fun p hp => ?_⟩
      · obtain ⟨z, hz, rfl⟩ := List.mem_map.mp hy
        obtain ⟨i, r, e⟩ := key z hz
        have := rz z hz
        rw [e] at this
        obtain ⟨t, ws, e2, tu, u, us, rfl, e3, _⟩ := this
        have e3 : u = .int i := e3
        subst e3
        refine ⟨t, us, e2, ?_⟩
        have := (sim2.fz.tupAt tu).sqt
        rw [e, ← c.K] at *
        exact this
      · have hl : sortK (zs.map (·.1)) = ((zs.mergeSort fun a b => keyLe a.1 b.1).map (·.1)) := by
          unfold sortK
          exact (List.map_mergeSort (r := fun a b : D × V => keyLe a.1 b.1) (f := fun z : D × V => z.1) (fun a _ b _ => rfl)).symm
        have hv : ((zs.map fun z => (z.2, (keyI z.1).getD 0)).mergeSort fun a b => decide (a.2 ≤ b.2)).map (·.1) = (zs.mergeSort fun a b => keyLe a.1 b.1).map (·.2) := by
          rw [← List.map_mergeSort (r := fun a b : D × V => keyLe a.1 b.1) (f := fun z : D × V => (z.2, (keyI z.1).getD 0)) (fun a _ b _ => rfl), List.map_map]
          rfl
        rw [hv]
        refine an.lst sim2 ?_ hp
        rw [hl]
        exact reps_pairs fun z hz => rz z ((List.mergeSort_perm _ _).mem_iff.mp hz)
    · cases e
  have pv2 : VRep C.G W1 H2 (view S1 y) v := (pv1.mv st2).view sim2
  generalize view S1 y = yy at e pv2
  unfold srkD at e
  split at e
  · obtain ⟨l, vs, ev, h1, r⟩ := pv2.lst sim2.fz
    exact core _ l vs ev (.inl (.of h1)) r e
  · obtain ⟨l, vs, ev, h1, r⟩ := pv2.tup sim2.fz
    have h1 := h1.sqt
    rw [← c.K] at h1
    exact core _ l vs ev (.inr h1) r e
  · obtain ⟨l, vs, ev, h1, r⟩ := pv2.ro sim2.fz
    rw [← c.K] at h1
    exact core _ l vs ev (.inl h1) r e
  · cases e
end
end DI
set_option Elab.async false
set_option linter.all false
set_option maxRecDepth 100000
set_option maxHeartbeats 4000000
/-! DK3: sorted by a key, where the key's calls may do what they like with objects of their own. -/
namespace DI
open PySem PySem.Spec PyProof.Rows L2
/-- a record of ours: younger than the entry, none of the frame's -/
structure Ours (X : Cx) (a : Addr) : Prop where
  above : X.s_0.heap.objs.size ≤ a
  loc : a ≠ X.env.locals
  cel : ∀ x c, X.env.cells.lookup x = some c → c ≠ a
section
variable {X : Cx} {pins : List (Addr × Obj)} {σ : L2.St} {H : Hp} {s : Shared} {a : Addr} {u u' : Obj} {h' : Heap}
theorem Ours.fresh (I : Inv X pins σ H s) (h : s.heap.objs.size ≤ a) : Ours X a := by
  refine ⟨Nat.le_trans I.sz h, fun z => ?_, fun x c e z => ?_⟩
  · exact absurd (Nat.lt_of_lt_of_le I.lt h) (by rw [z]; exact Nat.lt_irrefl _)
  · obtain ⟨v, o, ho, _⟩ := I.cell x c e
    exact absurd (Nat.lt_of_lt_of_le (Heap.lt_size ho) h) (by rw [z]; exact Nat.lt_irrefl _)
theorem Ours.nofs (o : Ours X a) (ok : X.Ok) : a ∉ X.fs := fun hb => by
  obtain ⟨_, w, hw, _⟩ := ok.funs.mem hb
  exact absurd (Nat.lt_of_lt_of_le (Heap.lt_size hw) o.above) (Nat.lt_irrefl _)
theorem pins_fresh (I : Inv X pins σ H s) (h : s.heap.objs.size ≤ a) : ∀ p ∈ X.pn ++ pins, p.1 ≠ a := fun p hp z => by
  have e := (I.pin p hp).1
  rw [z] at e
  exact absurd (Nat.lt_of_lt_of_le (Heap.lt_size e) h) (Nat.lt_irrefl _)
theorem _root_.L2.Inv.pinD (I : Inv X pins σ H s) (o : Ours X a) (hn : H a = none) (e : s.heap.get? a = some u) (hd : ∀ v, u.data ≠ .cell v) : Inv X ((a, u) :: pins) σ H s :=
  I.pins_of fun p hp => by
    rcases List.mem_cons.mp hp with rfl | hp
    · exact ⟨e, hn, o.loc, o.nofs I.ok, hd⟩
    · exact I.pin p (List.mem_append_right _ hp)
theorem _root_.L2.Inv.unpin {p : Addr × Obj} (I : Inv X (p :: pins) σ H s) : Inv X pins σ H s :=
  I.pins_of fun q hq => I.pin q (List.mem_append_right _ (List.mem_cons_of_mem _ hq))
theorem _root_.L2.Inv.top {p : Addr × Obj} (I : Inv X (p :: pins) σ H s) : s.heap.get? p.1 = some p.2 ∧ H p.1 = none :=
  let q := I.pin p (List.mem_append_right _ List.mem_cons_self)
  ⟨q.1, q.2.1⟩
theorem _root_.L2.Inv.repin {t' : Nat} (I : Inv X ((a, u) :: pins) σ H s) (o : Ours X a) (hp : ∀ p ∈ X.pn ++ pins, p.1 ≠ a) (k : ∀ b w, b ≠ a → s.heap.get? b = some w → h'.get? b = some w) (e : h'.get? a = some u') (hd : ∀ v, u'.data ≠ .cell v) :
    Inv X ((a, u') :: pins) σ H { s with heap := h', toks := t' } :=
  (I.unpin.turned k I.top.2 o.loc (.inr o.above) o.cel hp).pinD o I.top.2 e hd
/-- a record of ours becomes one that is tracked -/
theorem _root_.L2.Inv.adopt {o : HO} (I : Inv X pins σ H s) (oa : Ours X a) (hn : H a = none) (hp : ∀ p ∈ X.pn ++ pins, p.1 ≠ a) (new : ObjOk X.prog X.w (upd H a o) s.heap a o) : Inv X pins σ (upd H a o) s := by
  have ne : ∀ b w, H b = some w → b ≠ a := fun b w e z => (by rw [z, hn] at e; cases e)
  have q := I.step (H' := upd H a o) (h' := s.heap) (g' := s.gens) (t' := s.toks) (d' := s.drawn) (ch := [a]) (fun b hb => by
      rw [List.mem_singleton.mp hb]
      exact ⟨.inr oa.above, oa.loc, oa.cel, hp⟩) (fun b w _ _ _ e _ => e) (fun b w _ _ _ e _ => ⟨w.slots, e⟩) (fun b w hc e n => by
      rw [upd_ne (fun z => hc (by rw [z]; exact List.mem_singleton.mpr rfl))]
      exact n) (fun b w _ e => ⟨w, e⟩) (fun b xs e => by rw [upd_ne (ne b _ e)]; exact e) (fun b w xs e => by rw [upd_ne (ne b _ e)]; exact e) (fun b ps e => ⟨#[], by rw [upd_ne (ne b _ e), e]; simp⟩) (fun m hm => hm) (fun b w e => by
      by_cases hb : b = a
      · subst hb
        rw [upd_same] at e
        cases e
        exact new
      · rw [upd_ne hb] at e
        exact (I.hok b w e).stay (fun c v _ q => q) (fun c q => by rw [upd_ne (ne c _ q)]; exact q) fun c xs q => by rw [upd_ne (ne c _ q)]; exact q) I.bare
  exact q
theorem _root_.L2.Inv.two {b : Addr} {t' : Nat} (I : Inv X pins σ H s) (oa : Ours X a) (ob : Ours X b) (ha : H a = none) (hb : H b = none) (pa : ∀ p ∈ X.pn ++ pins, p.1 ≠ a) (pb : ∀ p ∈ X.pn ++ pins, p.1 ≠ b)
    (k : ∀ c w, c ≠ a → c ≠ b → s.heap.get? c = some w → h'.get? c = some w) : Inv X pins σ H { s with heap := h', toks := t' } := by
  have nit : ∀ c w, H c = some w → c ≠ a ∧ c ≠ b := fun c w e => ⟨fun z => (by rw [z, ha] at e; cases e), fun z => (by rw [z, hb] at e; cases e)⟩
  have out : ∀ c : Addr, c ∉ [a, b] → c ≠ a ∧ c ≠ b := fun c h => ⟨fun z => h (by rw [z]; exact List.mem_cons_self), fun z => h (by rw [z]; simp)⟩
  refine I.step (g' := s.gens) (d' := s.drawn) (ch := [a, b]) (fun c hc => ?_) (fun c w _ _ hc e _ => k c w (out c hc).1 (out c hc).2 e) (fun c w _ _ hc e _ => ⟨w.slots, k c w (out c hc).1 (out c hc).2 e⟩) (fun _ _ _ _ n => n)
    (fun c w hc e => ⟨w, k c w (out c hc).1 (out c hc).2 e⟩) (fun _ _ e => e) (fun _ _ _ e => e) (fun c ps e => ⟨#[], by rw [e]; simp⟩) (fun m hm => ?_) (fun c w e => ?_) I.bare
  · rcases List.mem_cons.mp hc with rfl | hc
    · exact ⟨.inr oa.above, oa.loc, oa.cel, pa⟩
    · rw [List.mem_singleton.mp hc]
      exact ⟨.inr ob.above, ob.loc, ob.cel, pb⟩
  · obtain ⟨o, es, ep, ho, r⟩ := hm
    exact ⟨o, es, ep, k _ o (Ne.symm oa.loc) (Ne.symm ob.loc) ho, r⟩
  · refine (I.hok c w e).stay (fun d v hd q => ?_) (fun _ q => q) fun _ _ q => q
    rcases hd with z | z
    · rw [z] at q ⊢
      exact k c v (nit c w e).1 (nit c w e).2 q
    · exact k d v (nit d _ z).1 (nit d _ z).2 q
end
section
variable {X : Cx} {A : Around} {P : PySem.Fin → Shared → Prop} {E : Value → Shared → Prop} {pins : List (Addr × Obj)} {σ : L2.St} {H : Hp} {s : Shared} {a f : Addr} {vs : List Value} {kz : List PyData} {n : Nat} {J : Nat → List V → Hp → Prop}
/-- the list at a is sorted by f's answers: J j ks H' when j keys are there, ks -/
theorem keyT (I : Inv X pins σ H s) (oa : Ours X a) (na : H a = none) (pa : ∀ p ∈ X.pn ++ pins, p.1 ≠ a) (ho : s.heap.get? a = some (seqObj "list" vs.toArray n)) (hlen : kz.length = vs.length) (hZ : vs.length ≤ sizeLine) (hal : PySem.W.AllAlike kz) (hsk : PySem.W.Sortable kz)
    (hu : ∀ d, d ∈ kz → A.units + d.depth < cLine) (j0 : J 0 [] H)
    (turn : ∀ j u ks pins' H' s', vs[j]? = some u → J j ks H' → Inv X pins' σ H' s' → wpAny (model X.prog X.w) A (call (.ref f) [u]) (EP X pins' σ fun w H2 => J (j + 1) (ks ++ [w]) H2) (fun _ _ => False) s')
    (read : ∀ ks H' pins' s' us, J vs.length ks H' → Inv X pins' σ H' s' → Vals ks us → PySem.W.EachIs (fun v k => ∃ as, Reads s'.heap v k as) us kz)
    (fin : ∀ ks H' s' out c, J vs.length ks H' → Inv X pins σ H' s' → H' a = none → s'.heap.get? a = some (seqObj "list" (List.toArray out) c) → PySem.W.KeyedOut false kz vs out → P (.done (.ret .none)) s') :
    wpAny (model X.prog X.w) A (ksk_tree a (.ref f) false) P E s := by
  have s1 := Heap.SameBut.update s.heap a (Obj.mapSeq fun _ => (#[] : Array Value))
  obtain ⟨e1, ho1⟩ : ∃ e1, (s.heap.update a (Obj.mapSeq fun _ => (#[] : Array Value))).get? a = some (seqObj "list" #[] e1) := ⟨_, get?_update_seq ho fun _ => #[]⟩
  generalize hh1 : s.heap.update a (Obj.mapSeq fun _ => (#[] : Array Value)) = h1 at *
  generalize hh2 : h1.push (seqObj "tuple" vs.toArray 0) = h2
  have k2 : ∀ b o, h1.get? b = some o → h2.get? b = some o := fun b o e => by rw [← hh2]; exact Heap.get?_push_of_some _ e
  have Ia : Inv X pins σ H { s with heap := h1, toks := s.toks } := I.turned (fun b o hb e => (s1.2 b hb).trans e) na oa.loc (.inr oa.above) oa.cel pa
  have Ib : Inv X pins σ H { s with heap := h2, toks := s.toks } := Ia.kept k2
  have Ic : Inv X ((a, seqObj "list" #[] e1) :: pins) σ H { s with heap := h2, toks := s.toks } := Ib.pinD oa na (k2 _ _ ho1) fun _ z => by cases z
  have oS : Ours X h2.objs.size := Ours.fresh Ic (Nat.le_refl _)
  have nS : H h2.objs.size = none := Ic.hok.fresh (Nat.le_refl _)
  have pS := pins_fresh Ic (Nat.le_refl _)
  have Id : Inv X ((a, seqObj "list" #[] e1) :: pins) σ H { s with heap := h2.push (seqObj "list" #[] 0), toks := s.toks } := Ic.kept fun b o e => Heap.get?_push_of_some _ e
  have Ie : Inv X ((h2.objs.size, seqObj "list" #[] 0) :: (a, seqObj "list" #[] e1) :: pins) σ H { s with heap := h2.push (seqObj "list" #[] 0), toks := s.toks } :=
    Id.pinD oS nS (Heap.get?_push_size _ rfl) fun _ z => by cases z
  have aS : h2.objs.size ≠ a := fun z => by
    have := Heap.lt_size (k2 _ _ ho1)
    rw [z] at this
    exact Nat.lt_irrefl _ this
  unfold ksk_tree
  refine wpAny_bind (listItems_at ho rfl ?_)
  refine wpAny_bind (listUpdate_at ho rfl ?_ (by rw [List.size_toArray]; exact hZ) (Nat.zero_le _))
  rw [hh1]
  refine wpAny_bind (seqEpoch_at ho1 rfl ?_)
  refine wpAny_bind (wpAny_newTuple ?_ (by show vs.length ≤ _; exact hZ))
  refine wpAny_bind (wpAny_newList ?_ (Nat.zero_le _))
  refine wpAny_holding ?_
  dsimp only
  have hh2' : h1.push { cls := .type "tuple", data := .seq vs.toArray 0 } = h2 := hh2
  show wpAny _ _ (ksk_rest a (.ref f) false vs.toArray e1 (.ref (h1.push (seqObj "tuple" vs.toArray 0)).objs.size)) P E { s with heap := (h1.push (seqObj "tuple" vs.toArray 0)).push (seqObj "list" #[] 0) }
  rw [hh2]
  generalize h2.objs.size = kS at *
  unfold ksk_rest
  refine wpAny_bind (wpAny_rule ?_)
  rw [List.forIn_toArray]
  refine wpAny_bind (ksk_fold (fun i s' => ∃ H' kA e ks, Inv X ((kS, seqObj "list" kA e) :: (a, seqObj "list" #[] e1) :: pins) σ H' s' ∧ J i ks H' ∧ Vals ks kA.toList ∧ kA.size = i) vs 0 _ ⟨H, #[], 0, [], Ie, j0, .nil, rfl⟩ ?step ?done)
  case step =>
    rintro j x s' hx ⟨H', kA, e, ks, I2, jj, vk, hz⟩
    simp only [Nat.zero_add] at jj hz ⊢
    have hj : j < vs.length := (List.getElem?_eq_some_iff.mp hx).1
    refine wpAny_bind (wpAny_attempt (wpAny_mono (turn j x ks _ H' s' hx jj I2) (fun v s'' q => ?_) fun _ _ hF => hF.elim))
    obtain ⟨w, H2, I3, rw', j2⟩ := q
    obtain ⟨nk2, nn⟩ := I3.top
    have sm := Heap.SameBut.update s''.heap kS (Obj.mapSeq (·.push v))
    obtain ⟨c2, hc2⟩ : ∃ c2, (s''.heap.update kS (Obj.mapSeq (·.push v))).get? kS = some (seqObj "list" (kA.push v) c2) := ⟨_, get?_update_seq nk2 (·.push v)⟩
    dsimp only
    refine wpAny_bind (listUpdate_at nk2 rfl ?_ (by rw [hz]; omega) (by rw [Array.size_push, hz]; omega))
    refine wpAny_pure ⟨rfl, H2, kA.push v, c2, ks ++ [w], I3.repin (t' := s''.toks) oS pS (fun b o hb eb => (sm.2 b hb).trans eb) hc2 (fun _ z => by cases z), j2, ?_, by rw [Array.size_push, hz]⟩
    rw [Array.toList_push]
    exact vk.append (.cons rw' .nil)
  case done =>
    rintro s' ⟨H', kA, e, ks, I2, jj, vk, hz⟩
    simp only [Nat.zero_add] at jj hz
    obtain ⟨nk, nn⟩ := I2.top
    obtain ⟨nA, nn2⟩ := I2.unpin.top
    have rd := read ks H' _ s' _ jj I2 vk
    refine wpAny_bind (listItems_at nk rfl ?_)
    refine PySem.W.keyH_end (κ := PySem.W.dataKind s'.heap kz) (h₁ := PySem.W.hideAll s'.heap [kS]) (fun b o hb eb => PySem.W.of_hideAll [kS] eb) (PySem.W.hideAll_none [kS] (List.mem_singleton.mpr rfl)) nk nA aS (PySem.W.SortsAt.data (s := s') rd hal hsk hu) hz hZ fun h3 tk3 c k3 n3 => ?_
    refine fin ks H' _ _ c jj (I2.unpin.unpin.two (h' := h3) (t' := tk3) oa oS nn2 nn pa (fun p hp => ?_) fun b o hb hb2 eb => k3 b o hb (PySem.W.hideAll_get [kS] eb fun z => hb2 (List.mem_singleton.mp z))) nn2 n3 ⟨s'.heap, kA.toList, hal, rfl, rd⟩
    refine pS p ?_
    rcases List.mem_append.mp hp with hp | hp
    · exact List.mem_append_left _ hp
    · exact List.mem_append_right _ (List.mem_cons_of_mem _ hp)
end
end DI
set_option Elab.async false
set_option linter.all false
set_option maxRecDepth 100000
set_option maxHeartbeats 4000000
/-! DK4: a lambda that captures names: made, called. -/
namespace DI
open PySem PySem.Spec PyProof.Rows L2
/-- the function at f: a lambda of one parameter -/
def FunL (f c' : Addr) (q x : Str) (ap : Pos) (body : Expr) (sc : Scope) (cl : List (Str × Addr)) : HO := .ext fun h => ∃ pm ctv, h.get? f = some (PySem.W.kla_obj "<lambda>" q (klP x ap) body sc cl pm c' ctv)
abbrev lamF (q x : Str) (ap : Pos) (sc : Scope) (cl : List (Str × Addr)) (c' : Addr) : NdefX.NF := ⟨"<lambda>", q, klP x ap, [], sc, cl, c'⟩
section
variable {X : Cx} {pins : List (Addr × Obj)} {σ : L2.St} {H : Hp} {s : Shared}
theorem lam_make {c P : Addr} {q x : Str} {ap lp : Pos} {body : Expr} {sc : Scope} {E : Value → Shared → Prop} {Q : Value → Shared → Prop} (I : Inv X pins σ H s) (TB : GxR.TabB X.base X.mg c P) (hcode : X.env.code = .ref c) (hq : q = X.env.qual ++ "<lambda>") (hT : LamX.TabS H P q)
    (fr : ∀ y ∈ sc.names, y.2 = .free → ∃ c, X.env.cells.lookup y.1 = some c)
    (h : ∀ (f c' : Addr) (H1 : Hp) (s' : Shared), Inv X pins σ H1 s' → Made H P q f c' (FunL f c' q x ap body sc (cloFrom X.env.cells sc.names [])) H1 → Q (.ref f) s') :
    wpAny (model X.prog X.w) X.A (eval (.Lambda (klP x ap) body sc lp) X.env) Q E s := by
  have all := hT
  obtain ⟨ps, hP, tr, known⟩ := hT
  have P0 : s.heap.get? P = some { cls := .none, data := .fields ps } := I.hok P _ hP
  refine PySem.W.kla_eval rfl ?_
  subst hq
  cases hc : codeAmong lp ps.toList with
  | none =>
    refine PySem.W.kla_makeFunction (mg := X.mg) (c := c) (P := P) (ps := ps) (closure_ok fr) I.ok.glob (I.mod.glob.keeps I.bk) hcode (TB.code.keeps I.bk) P0 tr hc TB.gP (TB.bm.keeps I.bk) fun c' ctv h' tk old ge lt rec tab => ?_
    obtain ⟨c2, oc, vs, t, e2, r1, r2, r3⟩ := rec
    cases e2
    generalize hcl : cloFrom X.env.cells sc.names [] = cl at *
    have hs : s.heap.objs.size ≤ h'.objs.size := Nat.le_trans ge (Nat.le_of_lt lt)
    have n1 : H c' = none := I.hok.fresh ge
    have n2 : H h'.objs.size = none := I.hok.fresh hs
    have I1 := LamX.inv_table (q := X.env.qual ++ "<lambda>") (t' := tk) (more := #[rawInt lp.line, rawInt lp.col, .ref c']) (h' := h') I hP old tab ge ⟨oc, vs, t, r1, r2, r3⟩
    have I2 := I1.laid (h' := h'.push (PySem.W.kla_obj "<lambda>" (X.env.qual ++ "<lambda>") (klP x ap) body sc cl ((X.mg "__name__").getD .none) c' ctv)) (a := h'.objs.size) (o := FunL h'.objs.size c' (X.env.qual ++ "<lambda>") x ap body sc cl) (t' := tk) (fun b u e => Heap.get?_push_of_some _ e) (Nat.le_refl _)
      ⟨⟨_, _, Heap.get?_push_size _ rfl⟩, ⟨_, Heap.get?_push_size _ rfl⟩, fun h1 h2 ⟨pm, cv, e⟩ k => ⟨pm, cv, k _ e⟩⟩
    have fP : h'.objs.size ≠ P := fun z => by rw [z, hP] at n2; cases n2
    have cP : c' ≠ P := fun z => by rw [z, hP] at n1; cases n1
    have fc : h'.objs.size ≠ c' := Nat.ne_of_gt lt
    refine h h'.objs.size c' _ _ I2 ⟨n2, fc, .inr ⟨ps, _, hP, n1, rfl⟩, ⟨_, by rw [upd_ne fP.symm, upd_ne cP.symm, upd_same], ?_, fun pos cv hcv => ?_⟩⟩
    · rw [Array.toList_append]
      exact PySem.TriplesOk_snoc _ _ _ _ tr
    · rw [Array.toList_append] at hcv
      rcases LamX.among_app _ tr hcv with z | z
      · obtain ⟨c0, e1, e2⟩ := known pos cv z
        refine ⟨c0, e1, ?_⟩
        rw [upd_ne (fun z => by rw [z, n2] at e2; cases e2), upd_ne (fun z => by rw [z, n1] at e2; cases e2), upd_ne (fun z => by rw [z, hP] at e2; exact LamX.codeO_ne _ (Option.some.inj e2).symm)]
        exact e2
      · exact ⟨c', z, by rw [upd_ne fc.symm, upd_same]⟩
  | some cv =>
    obtain ⟨c', e, co⟩ := known lp cv hc
    subst e
    refine PySem.W.kla_makeFunctionHit (mg := X.mg) (c := c) (P := P) (ps := ps) (closure_ok fr) I.ok.glob (I.mod.glob.keeps I.bk) hcode (TB.code.keeps I.bk) P0 tr hc (TB.bm.keeps I.bk) fun ctv h' tk old sz => ?_
    generalize hcl : cloFrom X.env.cells sc.names [] = cl at *
    have n2 : H h'.objs.size = none := I.hok.fresh sz
    have I2 := I.laid (h' := h'.push (PySem.W.kla_obj "<lambda>" (X.env.qual ++ "<lambda>") (klP x ap) body sc cl ((X.mg "__name__").getD .none) c' ctv)) (a := h'.objs.size) (o := FunL h'.objs.size c' (X.env.qual ++ "<lambda>") x ap body sc cl) (t' := tk) (fun b u e => Heap.get?_push_of_some _ (old b u e)) sz
      ⟨⟨_, _, Heap.get?_push_size _ rfl⟩, ⟨_, Heap.get?_push_size _ rfl⟩, fun h1 h2 ⟨pm, cv, e⟩ k => ⟨pm, cv, k _ e⟩⟩
    refine h h'.objs.size c' _ _ I2 ⟨n2, fun z => (by rw [z] at n2; rw [n2] at co; cases co), .inl ⟨co, rfl⟩, all.ext fun b o e => ?_⟩
    rw [upd_ne (ne_of_none e n2)]
    exact e
/-- the lambda is called while its maker runs -/
theorem lam_call {A' : Around} {N fr : List Str} {f c' : Addr} {q x : Str} {ap : Pos} {body : Expr} {sc : Scope} {cl : List (Str × Addr)} {ws : List (Option V)} {v : V} {u : Value} {t : TE} {Q : VK} (I : Inv X pins σ H s) (hA : A'.frames = X.A.frames) (hh : A'.handled = none) (dp : A'.depth < recursionLimit)
    (S : NdefX.NScope N [x] fr sc) (hf : H f = some (FunL f c' q x ap body sc cl)) (hc : H c' = some (LamX.CodeO c' q)) (C : NdefX.CellsAt cl fr ws s.heap H) (r : RelV v u)
    (hb : PE (NdefX.ncx (L2.CX X.prog X.w) X.prog X.w X.K X.mg X.base N (lamF q x ap sc cl c') f A' X.stack s H fun _ _ _ => False) body t) (h : t (NdefX.startF N [v] ws) H Q) :
    wpAny (model X.prog X.w) A' (call (.ref f) [u]) (EP X pins σ Q) (fun _ _ => False) s := by
  have e0 := I.env0
  have e1 : Env0 X.prog X.w X.K X.mg X.base A' X.stack s H := ⟨hA.trans e0.frames, e0.mod, e0.bs, e0.bsz, e0.funs, e0.frf, e0.hok, e0.bare⟩
  obtain ⟨⟨pm, ctv, ho⟩, _, _⟩ := I.hok f _ hf
  have hcd : s.heap.CodeRec (.ref c') q := NdefX.codeO_at I.hok hc
  have lim : s.heap.NoLimit := I.nolimit
  refine wpAny_call (codeAny_mono (R := CR (L2.CX X.prog X.w) X.stack X.prog X.w H s Q fun _ _ _ => False) (PySem.W.kla_callFunE dp ho rfl S.co S.gen rfl hcd ?_) fun r s' hq => ?_)
  · rw [kl_bind]
    refine wpAny_pure (wpAny_newFunctionEnv S.nocell (fun y hy => ?_) (fun h1 ns sb => ⟨lim.fresh _ sb, ?_⟩) S.kind)
    · rw [List.mem_singleton.mp hy]
      exact S.par x List.mem_cons_self
    have kp : ∀ b o, s.heap.get? b = some o → h1.get? b = some o := fun b o e => sb.extBut b o (Nat.ne_of_lt (Heap.lt_size e)) (Heap.get?_push_of_some _ e)
    have I0 := NdefX.inv_startN (CX := L2.CX X.prog X.w) (F := lamF q x ap sc cl c') (f := f) (E := fun _ _ _ => False) (tk := s.toks + 1) (vs := [v]) (us := [u]) (ps := [x]) S hh e1 rfl (.cons r .nil) C ns kp
    refine PySem.W.kla_codeExpr ?_
    refine wpAny_mono (hb.run [] _ (NdefX.startF N [v] ws) H Q I0 h) (fun w s2 z => ?_) fun _ _ z => z
    obtain ⟨w', H', J, rv, q⟩ := z
    exact ⟨w', H', J.os, J.bare, J.base, J.hok, rv, q⟩
  · cases r with
    | error e =>
      obtain ⟨_, _, _, _, _, _, _, _, _, _, _, _, z⟩ := (show L2.CX X.prog X.w X.stack H s (fun _ _ _ => False) e s' from hq)
      first | exact z | exact z.elim | skip
    | ok fl =>
      cases fl with
      | ret u => exact I.after hq
      | next => exact False.elim hq
      | brk => exact False.elim hq
      | cont => exact False.elim hq
end
end DI
set_option Elab.async false
set_option linter.all false
set_option maxRecDepth 100000
set_option maxHeartbeats 4000000
/-! DK5: keys by what the text computes; sorted by them. -/
namespace DI
open PySem PySem.Spec PyProof.Rows L2
/-- f's calls give what g computes, in every later world of the store S -/
def KeyFn (C : Ct) (X : Cx) (σ : L2.St) (f : Addr) (W : Wd) (S : Store) (H : Hp) (g : D → Store → R D) : Prop :=
  ∀ (A' : Around) (pins : List (Addr × Obj)) (W' : Wd) (H' : Hp) (s : Shared) (d : D) (v : V) (u : Value) (k : D), A'.frames = X.A.frames → A'.handled = none → A'.guards = some [] → A'.depth ≤ X.A.depth → A'.units ≤ X.A.units + 4 → Inv X pins σ H' s → Stp W H W' H' → Sim C.G W' S H' → Rep C.G W' d v → RelV v u → g d S = .ok k S →
    wpAny (model X.prog X.w) A' (call (.ref f) [u]) (EP X pins σ fun w H2 => ∃ W2, Stp W' H' W2 H2 ∧ Sim C.G W2 S H2 ∧ Rep C.G W2 k w) (fun _ _ => False) s
theorem ext_out {G : Gx} {W : Wd} {S : Store} {H : Hp} {a : Addr} {p : Heap → Prop} (sim : Sim G W S H) (h : H a = some (.ext p)) : ∀ k, k < W.n → a ≠ W.A k := fun k hk z => by
  rw [sim.len] at hk
  have o := sim.ob k _ (List.getElem?_eq_getElem hk)
  rw [← z] at o
  cases e : S[k] with
  | lst xs =>
    rw [e] at o
    obtain ⟨_, q, _⟩ := o
    rw [h] at q; cases q
  | dic xs =>
    rw [e] at o
    obtain ⟨_, q, _⟩ := o
    rw [h] at q; cases q
  | ins c xs =>
    rw [e] at o
    obtain ⟨_, _, q, _⟩ := o
    rw [h] at q; cases q
theorem keysL_len {S : Store} {f : D → Store → R D} : ∀ {xs ks : List D}, keysL S f xs = some ks → ks.length = xs.length
  | [], ks, h => by cases h; rfl
  | d :: r, ks, h => by
    unfold keysL at h
    split at h
    · split at h
      · obtain ⟨l, e, rfl⟩ := Option.map_eq_some_iff.mp h
        simp [keysL_len e]
      · cases h
    · cases h
theorem keysL_get {S : Store} {f : D → Store → R D} : ∀ {xs ks : List D} {j : Nat} {d : D}, keysL S f xs = some ks → xs[j]? = some d → ∃ k, ks[j]? = some k ∧ f d S = .ok k S
  | [], ks, j, d, h, e => by simp at e
  | x :: r, ks, j, d, h, e => by
    unfold keysL at h
    split at h
    · rename_i k S1 e1
      split at h
      · rename_i es
        subst es
        obtain ⟨l, e2, rfl⟩ := Option.map_eq_some_iff.mp h
        cases j with
        | zero =>
          simp at e
          subst e
          exact ⟨k, rfl, e1⟩
        | succ j =>
          obtain ⟨k', q1, q2⟩ := keysL_get (j := j) e2 (by simpa using e)
          exact ⟨k', by simpa using q1, q2⟩
      · cases h
    · cases h
theorem keysOk_of {ks : List D} (h : keysOk ks = true) : (∀ k ∈ ks, pl k = true ∧ (toPy k).depth ≤ 60) ∧ PySem.W.AllAlike (ks.map toPy) ∧ PySem.W.Sortable (ks.map toPy) := by
  unfold keysOk at h
  simp only [Bool.and_eq_true, Bool.or_eq_true, List.all_eq_true, decide_eq_true_eq] at h
  obtain ⟨⟨h1, h2⟩, h3⟩ := h
  refine ⟨h1, fun d hd d' hd' => ?_, ?_⟩
  · obtain ⟨a, ha, rfl⟩ := List.mem_map.mp hd
    obtain ⟨b, hb, rfl⟩ := List.mem_map.mp hd'
    exact h2 a ha b hb
  · rcases h3 with h3 | h3
    · refine .inl fun d hd => ?_
      obtain ⟨a, ha, rfl⟩ := List.mem_map.mp hd
      have := h3 a ha
      unfold keysOk.keyT at this
      split at this
      · exact ⟨_, _, rfl⟩
      · cases this
    · refine .inr fun d hd => ?_
      obtain ⟨a, ha, rfl⟩ := List.mem_map.mp hd
      have := h3 a ha
      unfold keysOk.keyF at this
      split at this
      · exact ⟨fun z => (by cases z), fun _ z => (by cases z)⟩
      · exact ⟨fun z => (by cases z), fun _ z => (by cases z)⟩
      · cases this
theorem reps_snoc {G : Gx} {W : Wd} {ks : List D} {vs : List V} {k : D} {w : V} {j : Nat} (h : Reps G W (ks.take j) vs) (e : ks[j]? = some k) (r : Rep G W k w) : Reps G W (ks.take (j + 1)) (vs ++ [w]) := by
  rw [List.take_add_one, e]
  exact h.append (.one r)
section
variable {C : Ct} {k : Ck} {X : Cx} {pins : List (Addr × Obj)} {σ : L2.St} {H : Hp} {s : Shared} {W : Wd} {S : Store} {Q : VK} {l f : Addr} {g : D → Store → R D} {xs ks : List D} {vv : List V}
/-- keys that are there can be read -/
theorem keys_read {H' : Hp} {pins' : List (Addr × Obj)} {s' : Shared} {W' : Wd} {S' : Store} (hK : C.G.K = X.K) (I : Inv X pins' σ H' s') (sim : Sim C.G W' S' H') : ∀ {ks : List D} {kv : List V} {us : List Value}, (∀ k ∈ ks, pl k = true) → Reps C.G W' ks kv → Vals kv us → PySem.W.EachIs (fun v k => ∃ as, Reads s'.heap v k as) us (ks.map toPy)
  | [], kv, us, _, r, vk => by
    have r : kv = [] := r
    subst r
    cases vk
    exact .nil
  | k :: ks, kv, us, hp, r, vk => by
    obtain ⟨v, t, rfl, r1, r2⟩ := r
    cases vk with
    | cons a b =>
      have dp := Rep.dp sim.fz r1 (hp k List.mem_cons_self)
      rw [hK] at dp
      exact .cons (Dp.reads I _ v _ dp a) (keys_read hK I sim (fun z hz => hp z (List.mem_cons_of_mem _ hz)) r2 b)
theorem SqAt.of {vs : List Value} (I : Inv X pins σ H s) (sq : SqL X.K H l vv ∨ SqT X.K H l vv) : ∃ vs : List Value, Vals vv vs ∧ SqAt s.heap l vs ∧ vv.length ≤ sizeLine := by
  rcases sq with hs | hs
  · obtain ⟨its, rv, ⟨o, n, e, e2, _, e3⟩, hz⟩ := I.list hs
    exact ⟨its, rv, ⟨"list", o, n, .inl rfl, e, e2, e3⟩, hz⟩
  · obtain ⟨its, rv, ⟨o, e, e2, n, e3⟩, hz⟩ := I.tuple hs
    exact ⟨its, rv, ⟨"tuple", o, n, .inr rfl, e, e2, e3⟩, hz⟩
theorem each_vals {α : Type} {h : α → V} : ∀ {us : List Value} {bs : List α}, PySem.W.EachIs (fun u b => RelV (h b) u) us bs → Vals (bs.map h) us
  | _, _, .nil => .nil
  | _, _, .cons a b => .cons a (each_vals b)
theorem vals_each {α : Type} {h : α → V} : ∀ {us : List Value} {bs : List α}, Vals (bs.map h) us → PySem.W.EachIs (fun u b => RelV (h b) u) us bs
  | us, [], r => by cases r; exact .nil
  | us, b :: bs, r => by
    cases r with
    | cons a t => exact .cons a (vals_each t)
theorem zip_map_snd {α β : Type} : ∀ {as : List α} {bs : List β}, as.length = bs.length → (as.zip bs).map (·.2) = bs
  | [], [], _ => rfl
  | [], _ :: _, h => by simp at h
  | _ :: _, [], h => by simp at h
  | _ :: as, _ :: bs, h => by simp [zip_map_snd (as := as) (bs := bs) (by simpa using h)]
theorem zip_map_fst {α β : Type} : ∀ {as : List α} {bs : List β}, as.length = bs.length → (as.zip bs).map (·.1) = as
  | [], [], _ => rfl
  | [], _ :: _, h => by simp at h
  | _ :: _, [], h => by simp at h
  | _ :: as, _ :: bs, h => by simp [zip_map_fst (as := as) (bs := bs) (by simpa using h)]
/-- the data sorted, the values sorted alike -/
theorem sortBy_reps (rs : Reps C.G W xs vv) (hl : ks.length = xs.length) : Reps C.G W (sortBy xs ks) (((vv.zip ks).mergeSort (PySem.W.dataLe false fun b : V × D => toPy b.2)).map (·.1)) := by
  obtain ⟨zs, rfl, rfl, rz⟩ := pairs_reps rs
  have hl' : zs.length = ks.length := by rw [hl, List.length_map]
  have e1 : (zs.map (·.1)).zip ks = (zs.zip ks).map fun p => (p.1.1, p.2) := by
    rw [List.zip_map_left]; rfl
  have e2 : (zs.map (·.2)).zip ks = (zs.zip ks).map fun p => (p.1.2, p.2) := by
    rw [List.zip_map_left]; rfl
  have le : ∀ (h : D × V → D), ((zs.zip ks).map fun p => (h p.1, p.2)).mergeSort (fun a b => !ltK b.2 a.2) = ((zs.zip ks).mergeSort fun a b => !ltK b.2 a.2).map fun p => (h p.1, p.2) := fun h =>
    (List.map_mergeSort (r := fun a b : (D × V) × D => !ltK b.2 a.2) (f := fun p : (D × V) × D => (h p.1, p.2)) (fun a _ b _ => rfl)).symm
  have le2 : ((zs.zip ks).map fun p => (p.1.2, p.2)).mergeSort (PySem.W.dataLe false fun b : V × D => toPy b.2) = ((zs.zip ks).mergeSort fun a b => !ltK b.2 a.2).map fun p => (p.1.2, p.2) :=
    (List.map_mergeSort (r := fun a b : (D × V) × D => !ltK b.2 a.2) (f := fun p : (D × V) × D => (p.1.2, p.2)) (fun a _ b _ => rfl)).symm
  unfold sortBy
  rw [e1, e2, le (·.1), le2, List.map_map, List.map_map]
  have key : ∀ p ∈ (zs.zip ks).mergeSort (fun a b => !ltK b.2 a.2), Rep C.G W p.1.1 p.1.2 := fun p hp =>
    rz p.1 (List.of_mem_zip ((List.mergeSort_perm _ _).mem_iff.mp hp)).1
  generalize (zs.zip ks).mergeSort (fun a b => !ltK b.2 a.2) = q at key
  have := reps_pairs (G := C.G) (W := W) (l := q.map (·.1)) (fun z hz => by
    obtain ⟨p, hp, rfl⟩ := List.mem_map.mp hz
    exact key p hp)
  rw [List.map_map, List.map_map] at this
  exact this
theorem Ans.later {d : D} {W' : Wd} {H' : Hp} (an : Ans C.G W S H d Q) (st : Stp W H W' H') : Ans C.G W' S H' d Q := fun W2 H2 w st2 s2 pv => an W2 H2 w (st.trans st2) s2 (pv.old st)
/-- sorted(xs, key=f) -/
theorem by_srt (c : Cok C k X) (hk : k.calm = true) (I : Inv X pins σ H s) (kf : KeyFn C X σ f W S H g) (sim : Sim C.G W S H) (rs : Reps C.G W xs vv) (sq : SqL X.K H l vv ∨ SqT X.K H l vv) (ek : keysL S g xs = some ks) (ok : keysOk ks = true) (an : Ans C.G W S H (.lst (sortBy xs ks)) Q) :
    wpAny (model X.prog X.w) X.A (call (.builtin "sorted") [.ref l] [(Str.ofString "key", .ref f)]) (EP X pins σ Q) X.xe s := by
  obtain ⟨vs, rv, q, few⟩ := SqAt.of (vs := []) I sq
  obtain ⟨k1, al, so⟩ := keysOk_of ok
  have lv := rv.length
  have lr := rs.length
  have lk := keysL_len ek
  have few' : vs.length ≤ sizeLine := by omega
  refine call_function_entry_kw kind_sorted plain_sorted entry_sorted (ksk_s1 _ _) ?_
  unfold Builtin.«sorted»
  refine wpAny_bind (m := checkCount "sorted" 1 1 _) (wpAny_pure ?_)
  refine wpAny_bind (col_sq q few' ?_)
  refine wpAny_bind (wpAny_newList ?_ few')
  have sz : (gat s.heap vs).objs.size = s.heap.objs.size + 1 := by rw [Heap.size_update, size_push']
  show wpAny _ _ _ _ _ { s with heap := PySem.W.copyHeap s.heap vs }
  rw [sz]
  refine wpAny_bind (wpAny_holding (wpAny_call_entry_kw slot_list_sort ⟨_, PySem.W.copyHeap_at s.heap vs, rfl⟩ entry_list_sort ?_ (ksk_l1 _ _)))
  show wpAny (model X.prog X.w) X.A.in1.in1 (Builtin.«list.sort» ⟨[.ref (s.heap.objs.size + 1)], [(Str.ofString "key", .ref f)]⟩) _ _ _
  rw [ksk_t1]
  have room := c.room hk
  have Ic : Inv X pins σ H { s with heap := PySem.W.copyHeap s.heap vs, toks := s.toks } := I.kept fun b o e => PySem.W.copyHeap_old e
  have oa : Ours X (s.heap.objs.size + 1) := Ours.fresh I (Nat.le_succ _)
  have na : H (s.heap.objs.size + 1) = none := I.hok.fresh (Nat.le_succ _)
  have pa := pins_fresh I (a := s.heap.objs.size + 1) (Nat.le_succ _)
  refine keyT (kz := ks.map toPy) (J := fun j kv H' => ∃ W', Stp W H W' H' ∧ Sim C.G W' S H' ∧ Reps C.G W' (ks.take j) kv) Ic oa na pa (PySem.W.copyHeap_at s.heap vs) (by rw [List.length_map]; omega) few' al so (fun d hd => ?_) ⟨W, .refl _ _, sim, by rw [List.take_zero]; rfl⟩ ?_ ?_ ?_
  · obtain ⟨z, hz, rfl⟩ := List.mem_map.mp hd
    have := (k1 z hz).2
    have := c.units
    show X.A.units + 1 + 1 + (toPy z).depth < cLine
    omega
  · rintro j u kv pins' H' s' hx ⟨W', st, sim', rk⟩ I'
    have hj : j < vs.length := (List.getElem?_eq_some_iff.mp hx).1
    have ed : xs[j]? = some xs[j] := List.getElem?_eq_getElem (by omega)
    obtain ⟨v, ev, rp⟩ := rs.get ed
    obtain ⟨u', eu, ru⟩ := rv.get ev
    rw [hx] at eu
    cases eu
    obtain ⟨kd, e1, e2⟩ := keysL_get ek ed
    refine wpAny_mono (kf X.A.in1.in1 pins' W' H' s' _ v u kd rfl room.hd c.gd (Nat.le_refl _) (by show X.A.units + 1 + 1 ≤ _; omega) I' st sim' (rp.le st.le) ru e2) (fun u2 s2 z => ?_) fun _ _ z => z
    obtain ⟨w, H2, I2, r2, W2, st2, sim2, rp2⟩ := z
    exact ⟨w, H2, I2, r2, W2, st.trans st2, sim2, reps_snoc (Reps.le st2.le rk) e1 rp2⟩
  · rintro kv H' pins' s' us ⟨W', st, sim', rk⟩ I' vk
    rw [List.take_of_length_le (by omega)] at rk
    exact keys_read (us := us) (kv := kv) c.K.symm I' sim' (fun z hz => (k1 z hz).1) rk vk
  · rintro kv H' s' out c' ⟨W', st, sim', rk⟩ I' na' e ko
    have zl : vv.length = ks.length := by omega
    have ko' : PySem.W.KeyedOut false ((vv.zip ks).map fun b : V × D => toPy b.2) vs out := by
      have : (vv.zip ks).map (fun b : V × D => toPy b.2) = ks.map toPy := by
        have e := congrArg (List.map toPy) (zip_map_snd zl)
        rw [List.map_map] at e
        exact e
      rw [this]
      exact ko
    have eo := PySem.W.keyedOut_each (R := fun u b => RelV b.1 u) (fun b : V × D => toPy b.2) ko' (vals_each (by rw [zip_map_fst zl]; exact rv))
    have ov := each_vals eo
    have len : (((vv.zip ks).mergeSort (PySem.W.dataLe false fun b : V × D => toPy b.2)).map (·.1)).length ≤ sizeLine := by
      rw [List.length_map, List.length_mergeSort, List.length_zip]; omega
    refine ⟨.none, rfl, wpAny_pure ⟨_, rfl, .ref (s.heap.objs.size + 1), _, I'.adopt (o := .lst (((vv.zip ks).mergeSort (PySem.W.dataLe false fun b : V × D => toPy b.2)).map (·.1))) oa na' pa ⟨len, _, c', ov, e⟩, rfl, ?_⟩⟩
    exact (an.later st).lst sim' (sortBy_reps (Reps.le st.le rs) lk) na'
end
end DI
set_option Elab.async false
set_option linter.all false
set_option maxRecDepth 100000
set_option maxHeartbeats 4000000
/-! DK6: a lambda, a def as a key. -/
namespace DI
open PySem PySem.Spec PyProof.Rows L2
/-- the names that a lambda captures -/
def frees (sc : Scope) : List Str := (sc.names.filter fun y => match y.2 with
  | .free => true
  | _ => false).map (·.1)
def lamC (k : Ck) (sc : Scope) (x : Str) (js : List Nat) : Bool :=
  NdefX.nscB (x :: frees sc) [x] (frees sc) sc && decide (js.map (fun j => k.N[j]?) = (frees sc).map some) && decide js.Nodup && (frees sc).all (cfN k.sc) && nmOk x
theorem lamC_of {k : Ck} {sc : Scope} {x : Str} {js : List Nat} (h : lamC k sc x js = true) : NdefX.NScope (x :: frees sc) [x] (frees sc) sc ∧ js.map (fun j => k.N[j]?) = (frees sc).map some ∧ js.Nodup ∧ (∀ y ∈ sc.names, y.2 = .free → k.sc.names.lookup y.1 = some .cell ∨ k.sc.names.lookup y.1 = some .free) ∧ ∀ y ∈ frees sc, (y, NameKind.free) ∈ sc.names := by
  unfold lamC at h
  simp only [Bool.and_eq_true, decide_eq_true_eq] at h
  obtain ⟨⟨⟨⟨h1, h2⟩, h3⟩, h4⟩, h5⟩ := h
  refine ⟨NdefX.nscope_by h1, h2, h3, fun y hy e => ?_, fun y hy => ?_⟩
  · refine cfN_ok (List.all_eq_true.mp h4 y.1 ?_)
    unfold frees
    refine List.mem_map.mpr ⟨y, List.mem_filter.mpr ⟨hy, ?_⟩, rfl⟩
    rw [e]
  · unfold frees at hy
    obtain ⟨z, hz, rfl⟩ := List.mem_map.mp hy
    obtain ⟨z1, z2⟩ := List.mem_filter.mp hz
    have : z.2 = .free := by
      split at z2
      · assumption
      · cases z2
    rw [← this]
    exact z1
theorem startF_lam {N : List Str} {v : V} {ws : List (Option V)} (h : N.length = 1 + ws.length) : NdefX.startF N [v] ws = some v :: ws := by
  unfold NdefX.startF
  rw [h, show 1 + ws.length - [v].length - ws.length = 0 from by show 1 + ws.length - 1 - ws.length = 0; omega]
  simp
section
variable {C : Ct} {k : Ck} {X : Cx} {pins : List (Addr × Obj)} {σ : L2.St} {H : Hp} {s : Shared} {W : Wd} {S : Store}
theorem capS_val {ρ : Ev} {j : Nat} {d : D} (h : capS ρ j = .val d) : ρ[j]? = some (.val d) := by
  unfold capS at h
  split at h
  · rename_i e; cases h; exact e
  · cases h
  · cases h
theorem capS_own {ρ : Ev} {j : Nat} {o : Ob} (h : capS ρ j = .own o) : ρ[j]? = some (.own o) := by
  unfold capS at h
  split at h
  · cases h
  · rename_i e; cases h; exact e
  · cases h
theorem capS_exc {ρ : Ev} {j : Nat} {x : Xc} : capS ρ j ≠ .exc x := fun h => by
  unfold capS at h
  split at h <;> cases h
theorem lam_get {α : Type} {f : Nat → α} {js : List Nat} {i : Nat} {a : α} (h : (js.map f)[i]? = some a) : ∃ j, js[i]? = some j ∧ f j = a := by
  rw [List.getElem?_map] at h
  exact Option.map_eq_some_iff.mp h
/-- the lambda's slots -/
theorem lam_eok {ρ : Ev} {js : List Nat} {d : D} {v : V} (nd : js.Nodup) (e : Eok C W H ρ σ) (r : Rep C.G W d v) : Eok C.nox W H (lamE ρ js d) (some v :: js.map (NdefX.slotAt σ)) where
  len := by unfold lamE; simp
  val := fun i d' h => by
    unfold lamE at h
    cases i with
    | zero =>
      simp at h
      subst h
      exact ⟨v, rfl, r⟩
    | succ i =>
      obtain ⟨j, ej, h⟩ := lam_get (show (js.map (capS ρ))[i]? = some (.val d') by simpa using h)
      obtain ⟨w, e1, e2⟩ := e.val j d' (capS_val h)
      refine ⟨w, ?_, e2⟩
      rw [List.getElem?_cons_succ, List.getElem?_map, ej]
      show some (NdefX.slotAt σ j) = _
      rw [NdefX.slotAt_of e1]
  own := fun i o h => by
    unfold lamE at h
    cases i with
    | zero => simp at h
    | succ i =>
      obtain ⟨j, ej, h⟩ := lam_get (show (js.map (capS ρ))[i]? = some (.own o) by simpa using h)
      obtain ⟨p, e1, e2⟩ := e.own j o (capS_own h)
      refine ⟨p, ?_, e2⟩
      rw [List.getElem?_cons_succ, List.getElem?_map, ej]
      show some (NdefX.slotAt σ j) = _
      rw [NdefX.slotAt_of e1]
  dis := fun i j o o' p h1 h2 h3 h4 => by
    unfold lamE at h1 h2
    cases i with
    | zero => simp at h1
    | succ i =>
      cases j with
      | zero => simp at h2
      | succ j =>
        obtain ⟨a, ea, h1⟩ := lam_get (show (js.map (capS ρ))[i]? = some (.own o) by simpa using h1)
        obtain ⟨b, eb, h2⟩ := lam_get (show (js.map (capS ρ))[j]? = some (.own o') by simpa using h2)
        rw [List.getElem?_cons_succ, List.getElem?_map, ea] at h3
        rw [List.getElem?_cons_succ, List.getElem?_map, eb] at h4
        have s1 : NdefX.slotAt σ a = some (.ref p) := Option.some.inj h3
        have s2 : NdefX.slotAt σ b = some (.ref p) := Option.some.inj h4
        have := e.dis a b o o' p (capS_own h1) (capS_own h2) (NdefX.slotAt_some s1) (NdefX.slotAt_some s2)
        subst this
        obtain ⟨i1, i2⟩ := List.getElem?_eq_some_iff.mp ea
        obtain ⟨j1, j2⟩ := List.getElem?_eq_some_iff.mp eb
        have := (List.getElem_inj nd).mp (i2.trans j2.symm)
        rw [this]
  exc := fun i x h => by
    unfold lamE at h
    cases i with
    | zero => simp at h
    | succ i =>
      obtain ⟨j, ej, h⟩ := lam_get (show (js.map (capS ρ))[i]? = some (.exc x) by simpa using h)
      exact absurd h capS_exc
abbrev lamK (sc : Scope) (x : Str) : Ck := ⟨x :: frees sc, sc, fun _ => false, true, none⟩
theorem lam_cok {A' : Around} {f c' : Addr} {q x : Str} {ap : Pos} {sc : Scope} {cl : List (Str × Addr)} {fr : List Str} {H0 : Hp} (c : Cok C k X) (hk : k.calm = true) (hi : k.inn = some true) (a2 : A'.handled = none) (a3 : A'.guards = some []) (a4 : A'.depth ≤ X.A.depth) (a5 : A'.units ≤ X.A.units + 4) (Sc : NdefX.NScope (x :: frees sc) [x] fr sc) :
    Cok C.nox (lamK sc x) (NdefX.ncx (L2.CX X.prog X.w) X.prog X.w X.K X.mg X.base (x :: frees sc) (lamF q x ap sc cl c') f A' X.stack s H0 fun _ _ _ => False) where
  P := c.P
  w := c.w
  K := c.K
  mg := c.mg
  base := c.base
  hc := fun _ => rfl
  gd := a3
  N := rfl
  nd := Sc.nd
  sc := rfl
  wr := fun x h => by cases h
  room := fun _ => by
    have r := c.room2 hk hi
    have r1 := r.dp
    have r2 := r.un
    refine ⟨a2, ?_, ?_⟩
    · show A'.depth + 1 + 3 * (3 * C.lv + 1) + 5 < _
      omega
    · show A'.units + 3 + 16 * (3 * C.lv + 1) + 200 < _
      omega
  room2 := fun _ z => by cases z
  units := by
    have := (c.room2 hk hi).un
    show A'.units + 3 + 100 < _
    omega
  ce := fun _ => c.ce hk
  tk := fun u s' ⟨_, _, _, _, _, _, _, _, _, _, _, _, _, _, _, _, z⟩ => z.elim
  tb := fun b z => by cases z
  ea := fun a cls d e => by
    rw [show C.nox.ea = none from c.ce hk] at e
    cases e
theorem key_lam {ρ : Ev} {js : List Nat} {f c' : Addr} {q x : Str} {ap : Pos} {body : Expr} {sc : Scope} {cb : Ex} (ok : X.Ok) (c : Cok C k X) (hk : k.calm = true) (hi : k.inn = some true) (hs : lamC k sc x js = true) (eok : Eok C W H ρ σ) (sim : Sim C.G W S H)
    (hf : H f = some (FunL f c' q x ap body sc (cloFrom X.env.cells sc.names []))) (hc : H c' = some (LamX.CodeO c' q)) (pb : ∀ Xb, Cok C.nox (lamK sc x) Xb → PE Xb body (tE C.nox false cb)) :
    KeyFn C X σ f W S H fun d S => ev C.cl cb (lamE ρ js d) S := by
  intro A' pins W' H' s d v u kd a1 a2 a3 a4 a5 I st sim' rp ru e0
  have e : ev C.cl cb (lamE ρ js d) S = .ok kd S := e0
  obtain ⟨Sc, hjs, nd, hfree, hfr⟩ := lamC_of hs
  have dp : A'.depth < recursionLimit := by
    have := (c.room hk).dp
    omega
  have cap := NdefX.Caps.made (js := js) ok (by rw [c.sc]; exact hfree) hfr (by rw [c.N]; exact hjs)
  have jl : js.length = (frees sc).length := by simpa using congrArg List.length hjs
  refine lam_call I a1 a2 dp Sc (st.keep f _ hf (ext_out sim hf) fun _ z => by cases z) (st.keep c' _ hc (ext_out sim hc) fun _ z => by unfold LamX.CodeO at z; cases z) (NdefX.cells_of I cap) ru (pb _ (lam_cok c hk hi a2 a3 a4 a5 Sc)) ?_
  rw [startF_lam (by simp [jl]; omega)]
  refine ⟨W', S, lamE ρ js d, sim', lam_eok nd (eok.mv st) rp, ?_⟩
  show RP (ev C.cl cb (lamE ρ js d) S) _ _
  rw [e]
  exact fun W2 H2 w st2 sim2 pv => ⟨W2, st2, sim2, pv.rep⟩
/-- a def as a key -/
theorem key_def {fn : Nat} (c : Cok C k X) (hk : k.calm = true) (g : Gok C) (hfr : C.T.frf fn = false) : KeyFn C X σ (C.G.fa fn) W S H fun d S => C.cl.fn fn [d] S := by
  intro A' pins W' H' s d v u kd a1 a2 a3 a4 a5 I st sim' rp ru e0
  have e : C.cl.fn fn [d] S = .ok kd S := e0
  have e0 := I.env0
  have e1 : Env0 X.prog X.w X.K X.mg X.base A' X.stack s H' := ⟨a1.trans e0.frames, e0.mod, e0.bs, e0.bsz, e0.funs, e0.frf, e0.hok, e0.bare⟩
  rw [c.P, c.w, c.K, c.mg, c.base] at e1
  have r := c.room hk
  have room : Room (3 * C.lv) A' := ⟨a2, by have := r.dp; omega, by have := r.un; omega⟩
  refine wpAny_call ?_
  have hrun := g.fok fn A' X.stack s H' [u] [v] (fun w H2 => ∃ W2, Stp W' H' W2 H2 ∧ Sim C.G W2 S H2 ∧ Rep C.G W2 kd w) (fun _ _ _ => False) room a3 e1 (.cons ru .nil) ⟨W', S, [d], sim', .one rp, by
    rw [e, hfr]
    exact fun W2 H2 w st2 sim2 pv => ⟨W2, st2, sim2, pv.rep⟩⟩
  rw [c.P, c.w]
  refine codeAny_mono hrun fun r s' hq => ?_
  cases r with
  | error e =>
    obtain ⟨_, _, _, _, _, _, _, _, _, _, _, _, z⟩ := (show L2.CX C.G.P C.G.w X.stack H' s (fun _ _ _ => False) e s' from hq)
    first | exact z | exact z.elim | skip
  | ok fl =>
    cases fl with
    | ret u =>
      refine I.after ?_
      rw [c.P, c.w]
      exact hq
    | next => exact False.elim hq
    | brk => exact False.elim hq
    | cont => exact False.elim hq
end
def Bk.nm : Bk → Str
  | .srt => "sorted" | .mn => "min" | .mx => "max"
def Bk.id : Bk → String
  | .srt => "sorted" | .mn => "min" | .mx => "max"
theorem Bk.boot (m : Bk) : bootBuiltins m.nm = some (.builtin m.id) := by cases m <;> decide +kernel
theorem Bk.nmB (m : Bk) : m.nm ∈ bltN := by cases m <;> decide +kernel
theorem Bk.nmO (m : Bk) : nmOk m.nm = true := by cases m <;> decide +kernel
/-- the call with the keyword, as it stands -/
theorem pe_callW {X : Cx} {x : Str} {p pos : Pos} {e : Expr} {es : List Expr} {kws : List Keyword} {t tk : TA} {id : String} {ks : List Str} (hg : Gl X x) (hm : X.mg x = none) (hv : bootBuiltins x = some (.builtin id)) (ha : PA X (e :: es) t) (hk : PK X kws tk) (hn : x ≠ "__name__") (hdb : (x == ("__debug__" : Str)) = false)
    (he : backTo pos (starEach (e :: es) X.env) = (false, eval e X.env) :: backTo pos (starEach es X.env)) (hpl : (backTo pos (starEach (e :: es) X.env)).any (·.1) = false)
    (hall : (backToKw pos (keywordEach kws X.env)).all (·.1.isSome) = true) (hnone : (backToKw pos (keywordEach kws X.env)).any (·.1.isNone) = false) (hks : (backToKw pos (keywordEach kws X.env)).filterMap (·.1) = ks) :
    PE X (.Call (.Name x p) (e :: es) kws pos) (fun σ H Q => t σ H fun vs H1 => tk σ H1 fun zs H2 => ∀ pins s us ws, Inv X pins σ H2 s → Vals vs us → Vals zs ws → wpAny (model X.prog X.w) X.A (call (.builtin id) us (ks.zip ws)) (EP X pins σ Q) X.xe s) := by
  refine ⟨fun pins s σ H Q I h => wpAny_Call_Name_kw (ld_blt I hg hm hv ?_ hn hdb)⟩
  refine PyProof.Rows.callWith_kw (thn (ha.run pos pins s σ H _ I h) fun us s1 z => ?_) he hpl hall hnone
  obtain ⟨vs, H1, I1, r1, q1⟩ := z
  refine thn (hk.run pos pins s1 σ H1 _ I1 q1) fun ws s2 z => ?_
  obtain ⟨zs, H2, I2, r2, q2⟩ := z
  rw [hks]
  exact q2 pins s2 us ws I2 r1 r2
/-- what sorted, min, max give -/
def RunBy (C : Ct) (X : Cx) (m : Bk) : Prop := ∀ (pins : List (Addr × Obj)) (σ : L2.St) (H : Hp) (s : Shared) (W : Wd) (S : Store) (f l : Addr) (g : D → Store → R D) (xs ks : List D) (vv : List V) (d : D) (Q : VK),
  Inv X pins σ H s → KeyFn C X σ f W S H g → Sim C.G W S H → Reps C.G W xs vv → SqL X.K H l vv ∨ SqT X.K H l vv → keysL S g xs = some ks → byD m xs ks = some d → (∀ W' H' v, Stp W H W' H' → Sim C.G W' S H' → PostV C.G (decide (m = .srt)) W' H H' d v → Q v H') →
    wpAny (model X.prog X.w) X.A (call (.builtin m.id) [.ref l] [(Str.ofString "key", .ref f)]) (EP X pins σ Q) X.xe s
theorem run_srt {C : Ct} {k : Ck} {X : Cx} (c : Cok C k X) (hk : k.calm = true) : RunBy C X .srt := by
  intro pins σ H s W S f l g xs ks vv d Q I kf sim rs sq ek eb an
  unfold byD at eb
  split at eb
  · rename_i h
    rw [Bool.and_eq_true] at h
    cases eb
    exact by_srt c hk I kf sim rs sq ek h.1 an
  · cases eb
section
variable {C : Ct} {k : Ck} {X : Cx} {a : Expr} {ca cb : Ex} {pos p kp lp ap : Pos} {x : Str} {sc : Scope} {body : Expr} {m : Bk} {js : List Nat}
theorem seq_of {G : Gx} {K : PySem.W.Frag} {W : Wd} {H : Hp} {d : D} {v : V} {xs : List D} (hK : G.K = K) (h : VRep G W H d v) (f : Exh W.F H) (e : seqD d = some xs) : ∃ l vs, v = .ref l ∧ (SqL K H l vs ∨ SqT K H l vs) ∧ Reps G W xs vs := by
  subst hK
  exact h.seq f e
theorem r_byl (c : Cok C k X) (hk : k.calm = true) (g : Gok C) (rb : RunBy C X m) (h1 : glC k.sc m.nm = true) (hp : plainA a = true) (hi : k.inn = some true) (hs : lamC k sc x js = true) (ha : PE X a (tB C ca)) (pb : ∀ Xb, Cok C.nox (lamK sc x) Xb → PE Xb body (tE C.nox false cb)) :
    PE X (.Call (.Name m.nm p) [a] [⟨some "key", .Lambda (klP x ap) body sc lp, kp⟩] pos) (tE C (decide (m = .srt)) (.byl m ca js cb)) := by
  obtain ⟨cd, P, ec, hm, un, TB⟩ := c.tb true hi
  obtain ⟨Sc, hjs, nd, hfree, hfr⟩ := lamC_of hs
  have kl : PE X (.Lambda (klP x ap) body sc lp) (fun _ H Q => X.Ok → LamX.TabS H P (X.env.qual ++ "<lambda>") ∧ ∀ f c' H1, Made H P (X.env.qual ++ "<lambda>") f c' (FunL f c' (X.env.qual ++ "<lambda>") x ap body sc (cloFrom X.env.cells sc.names [])) H1 → Q (.ref f) H1) :=
    ⟨fun pins s σ H Q I h => lam_make I TB ec rfl (h I.ok).1 (fun y hy e => (by rw [← c.sc] at hfree; exact hfree y hy e : X.env.scope.names.lookup y.1 = some .cell ∨ X.env.scope.names.lookup y.1 = some .free).elim (fun z => I.ok.has _ (.inl z)) fun z => I.ok.has _ (.inr z)) fun f c' H1 s' I1 m => ⟨.ref f, H1, I1, rfl, (h I.ok).2 f c' H1 m⟩⟩
  refine (pe_callW (ks := [Str.ofString "key"]) (glC_ok c h1) (by rw [c.mg]; exact g.bn _ m.nmB) m.boot (pa_one hp ha) (pk_cons kl pk_nil) (nmOk_ok m.nmO).2.2 (nmOk_ok m.nmO).1 (by rw [star_of hp]; rfl) (noStar (by rw [List.all_cons, hp]; rfl) _ _) rfl rfl rfl).imp fun σ H Q ⟨W, S, ρ, sim, eok, q⟩ => ?_
  unfold ev at q
  unfold tCons tNil
  refine tG.bind sim eok q fun W1 S1 H1 y v st1 sim1 eok1 pv1 q1 => ?_
  obtain ⟨d, e, fin⟩ := q1.opt
  obtain ⟨xs, e1, e⟩ := Option.bind_eq_some_iff.mp e
  obtain ⟨ks, e2, e3⟩ := Option.bind_eq_some_iff.mp e
  refine fun ok => ⟨sim1.tb _ hm, fun f c' H2 md => ?_⟩
  obtain ⟨sim2, st2⟩ := md.sim sim1 hm un
  obtain ⟨m1, m2⟩ := md.at_
  intro pins s us ws I2 r1 r2
  obtain ⟨l, vv, rfl, sq, rs⟩ := seq_of c.K.symm ((pv1.mv st2).view sim2) sim2.fz e1
  obtain rfl := Vals.ref1 r1
  obtain rfl := Vals.ref1 r2
  exact rb pins σ H2 s W1 S1 f l _ xs ks vv d Q I2 (key_lam I2.ok c hk hi hs (eok1.mv st2) sim2 m1 m2 pb) sim2 rs sq e2 e3 fun W' H' w st s' pv => fin W' H' w ((st1.trans st2).trans st) s' (pv.old (st1.trans st2))
theorem r_byf {fn : Nat} {fx : Str} (c : Cok C k X) (hk : k.calm = true) (g : Gok C) (rb : RunBy C X m) (h1 : glC k.sc m.nm = true) (hp : plainA a = true) (h2 : glC k.sc fx = true) (hn : nmOk fx = true) (hf : (fx, fn) ∈ C.T.fn) (hfr : C.T.frf fn = false) (ha : PE X a (tB C ca)) :
    PE X (.Call (.Name m.nm p) [a] [⟨some "key", .Name fx lp, kp⟩] pos) (tE C (decide (m = .srt)) (.byf m ca fn)) := by
  have kl : PE X (.Name fx lp) (fun _ H Q => Q (.ref (C.G.fa fn)) H) :=
    ⟨fun pins s σ H Q I h => ld_glob I (glC_ok c h2) (by rw [c.mg]; exact (g.fn fx fn hf).1) ⟨.ref (C.G.fa fn), H, I, rfl, h⟩ (nmOk_ok hn).1⟩
  refine (pe_callW (ks := [Str.ofString "key"]) (glC_ok c h1) (by rw [c.mg]; exact g.bn _ m.nmB) m.boot (pa_one hp ha) (pk_cons kl pk_nil) (nmOk_ok m.nmO).2.2 (nmOk_ok m.nmO).1 (by rw [star_of hp]; rfl) (noStar (by rw [List.all_cons, hp]; rfl) _ _) rfl rfl rfl).imp fun σ H Q ⟨W, S, ρ, sim, eok, q⟩ => ?_
  unfold ev at q
  unfold tCons tNil
  refine tG.bind sim eok q fun W1 S1 H1 y v st1 sim1 eok1 pv1 q1 => ?_
  obtain ⟨d, e, fin⟩ := q1.opt
  obtain ⟨xs, e1, e⟩ := Option.bind_eq_some_iff.mp e
  obtain ⟨ks, e2, e3⟩ := Option.bind_eq_some_iff.mp e
  intro pins s us ws I2 r1 r2
  obtain ⟨l, vv, rfl, sq, rs⟩ := seq_of c.K.symm (pv1.view sim1) sim1.fz e1
  obtain rfl := Vals.ref1 r1
  obtain rfl := Vals.ref1 r2
  exact rb pins σ H1 s W1 S1 _ l _ xs ks vv d Q I2 (key_def c hk g hfr) sim1 rs sq e2 e3 fun W' H' w st s' pv => fin W' H' w (st1.trans st) s' (pv.old st1)
end
end DI
set_option Elab.async false
set_option linter.all false
set_option maxRecDepth 100000
set_option maxHeartbeats 4000000
/-! DK7: min, max by a key. -/
namespace DI
open PySem PySem.Spec PyProof.Rows L2
theorem _root_.L2.Inv.swap {X : Cx} {pins : List (Addr × Obj)} {σ : L2.St} {H : Hp} {s : Shared} {p q : Addr × Obj} (I : Inv X (p :: q :: pins) σ H s) : Inv X (q :: p :: pins) σ H s :=
  I.pins_of fun z hz => I.pin z (List.mem_append_right _ (by
    rcases List.mem_cons.mp hz with rfl | hz
    · exact List.mem_cons_of_mem _ List.mem_cons_self
    · rcases List.mem_cons.mp hz with rfl | hz
      · exact List.mem_cons_self
      · exact List.mem_cons_of_mem _ (List.mem_cons_of_mem _ hz)))
theorem nnK {ks : List D} {k : D} (ok : keysOk ks = true) (hk : k ∈ ks) : toPy k ≠ .none := fun z => by
  obtain ⟨_, _, so⟩ := keysOk_of ok
  rcases so with so | so
  · obtain ⟨x, r, e⟩ := so _ (List.mem_map_of_mem hk)
    rw [z] at e
    cases e
  · exact (so _ (List.mem_map_of_mem hk)).1 z
section
variable {C : Ct} {k : Ck} {X : Cx} {pins : List (Addr × Obj)} {σ : L2.St} {H : Hp} {s : Shared} {W : Wd} {S : Store} {Q : VK} {l f I Z : Addr} {g : D → Store → R D} {xs ks : List D} {vv : List V} {res : D} {kw : List (Str × Value)}
/-- min's loop: behind j + 1 items the best is db, its key kdb -/
theorem min_loop (c : Cok C k X) (hk : k.calm = true) (kf : KeyFn C X σ f W S H g) (rs : Reps C.G W xs vv) (fz : W.F l = some (.lst vv)) (ek : keysL S g xs = some ks) (ok : keysOk ks = true) (few : xs.length ≤ sizeLine) (oI : Ours X I) (oS : Ours X Z) (hIS : I ≠ Z) (hlI : l ≠ I) {P : Result → Shared → Prop}
    (pI : ∀ p ∈ X.pn ++ pins, p.1 ≠ I) (pS : ∀ p ∈ X.pn ++ pins, p.1 ≠ Z)
    (fin : ∀ W' H' s' w u, Inv X pins σ H' s' → Stp W H W' H' → Sim C.G W' S H' → RelV w u → Rep C.G W' res w → P (.ok (.ret u)) s') :
    ∀ (r j : Nat) (s : Shared) (W' : Wd) (H' : Hp) (vb kb : Value) (wb wk : V) (db kdb : D) (cc : Nat) (o : Obj), xs.length - (j + 1) = r → j + 1 ≤ xs.length → Inv X ((I, o) :: (Z, seqObj "list" #[vb, kb] cc) :: pins) σ H' s → Stp W H W' H' → Sim C.G W' S H' → s.heap.IsListIter I l (j + 1) →
      RelV wb vb → Rep C.G W' db wb → RelV wk kb → Rep C.G W' kdb wk → kdb ∈ ks → bestF ltK db kdb ((xs.zip ks).drop (j + 1)) = res → codeAny (model X.prog X.w) X.A (.builtin "min.loop" ⟨[.ref I, .ref f, .ref Z], kw⟩) P s := by
  have hname : (toString "min" ++ toString ".loop" : String) = "min.loop" := by decide
  have room := c.room hk
  have hh : X.A.in1.handled = none := room.hd
  obtain ⟨k1, al, _⟩ := keysOk_of ok
  have lk := keysL_len ek
  have lr := rs.length
  intro r
  induction r with
  | zero =>
    intro j s W' H' vb kb wb wk db kdb cc o hr hj I' st sim' hit rb pb rk pk hm hb
    have hin : j + 1 = xs.length := by omega
    obtain ⟨hI, nI⟩ := I'.top
    obtain ⟨hS, nS⟩ := I'.unpin.top
    obtain ⟨its, rv, ⟨ol, n, e1, e2, e3, e4⟩, _⟩ := I'.list (SqL.of (sim'.fz _ _ (st.le.F _ _ fz)))
    have hl : s.heap.IsList l its.toArray := ⟨ol, e1, e2, n, e4⟩
    have lv := rv.length
    have Wk := Walks.list (prog := X.prog) (w := X.w) (A := X.A.in1) hh I l hlI its.toArray
    refine codeAny_builtin F.entry_min_loop ?_
    rw [Around.under_plainId F.plain_min_loop _]
    show wpAny _ X.A.in1 (seqItems? (.ref Z) >>= _) _ _ s
    refine wpAny_bind (wpAny_seqItems hS rfl ?_)
    show wpAny _ X.A.in1 (tryCatch (pyNext (.ref I)) _ >>= _) _ _ s
    refine wpAny_bind (wpAny_tryCatch (Wk.done s _ _ ⟨by rw [List.size_toArray, ← lv, lr, ← hin]; exact hit, hl⟩ fun h2 tk hk2 => ?_))
    have hS2 := hk2 Z _ (by simpa using Ne.symm hIS) hS
    show wpAny _ X.A.in1 (updateSeq Z (fun _ => #[]) >>= _) _ _ _
    refine wpAny_bind ?_
    refine wpAny_updateSeq hS2 rfl (wpAny_bind (wpAny_letGo (wpAny_pure ?_)))
    have sm := Heap.SameBut.update h2 Z (Obj.mapSeq fun _ => (#[] : Array Value))
    refine fin W' H' _ wb vb (I'.unpin.unpin.two (t' := tk) oI oS nI nS pI pS fun b w hb hb2 e => (sm.2 b hb2).trans (hk2 b w (by simpa using hb) e)) st sim' rb ?_
    rw [List.drop_of_length_le (by rw [List.length_zip]; omega)] at hb
    rw [← hb]
    exact pb
  | succ r ih =>
    intro j s W' H' vb kb wb wk db kdb cc o hr hj I' st sim' hit rb pb rk pk hm hb
    have hlt : j + 1 < xs.length := by omega
    obtain ⟨hI, nI⟩ := I'.top
    obtain ⟨hS, nS⟩ := I'.unpin.top
    obtain ⟨its, rv, ⟨ol, n, e1, e2, e3, e4⟩, _⟩ := I'.list (SqL.of (sim'.fz _ _ (st.le.F _ _ fz)))
    have hl : s.heap.IsList l its.toArray := ⟨ol, e1, e2, n, e4⟩
    have lv := rv.length
    have Wk := Walks.list (prog := X.prog) (w := X.w) (A := X.A.in1) hh I l hlI its.toArray
    refine codeAny_builtin F.entry_min_loop ?_
    rw [Around.under_plainId F.plain_min_loop _]
    show wpAny _ X.A.in1 (seqItems? (.ref Z) >>= _) _ _ s
    refine wpAny_bind (wpAny_seqItems hS rfl ?_)
    show wpAny _ X.A.in1 (tryCatch (pyNext (.ref I)) _ >>= _) _ _ s
    refine wpAny_bind (wpAny_tryCatch (Wk.item (j + 1) s _ _ (by rw [List.size_toArray]; omega) ⟨hit, hl⟩ fun v h2 tk hP st2 hk2 => ?_))
    obtain ⟨o2, ho2, hoc, hod⟩ := id st2.1
    have ed : xs[j + 1]? = some xs[j + 1] := List.getElem?_eq_getElem hlt
    obtain ⟨w, ew, pw⟩ := rs.get ed
    obtain ⟨u, eu, ru⟩ := rv.get ew
    have hP : its[j + 1]? = some v := by simpa using hP
    rw [hP] at eu
    cases eu
    obtain ⟨kd, ek1, ek2⟩ := keysL_get ek ed
    have pI2 : ∀ p ∈ X.pn ++ (Z, seqObj "list" #[vb, kb] cc) :: pins, p.1 ≠ I := fun p hp => by
      rcases List.mem_append.mp hp with hp | hp
      · exact pI p (List.mem_append_left _ hp)
      · rcases List.mem_cons.mp hp with rfl | hp
        · exact Ne.symm hIS
        · exact pI p (List.mem_append_right _ hp)
    have I2 := I'.repin (t' := tk) oI pI2 (fun b w hb e => hk2 b w (by simpa using hb) e) ho2 fun z ez => by rw [hod] at ez; cases ez
    show wpAny _ X.A.in1 (tryCatch (holding [v] (call (.ref f) [v])) _ >>= _) _ _ _
    refine wpAny_bind (wpAny_tryCatch (wpAny_holding (wpAny_mono (kf X.A.in1 _ W' H' _ _ w v kd rfl hh c.gd (Nat.le_refl _) (by show X.A.units + 1 ≤ _; omega) I2 st sim' (pw.le st.le) ru ek2) (fun kx s3 q => ?_) fun _ _ hF => hF.elim)))
    obtain ⟨wx, H3, I3, rx, W3, st3, sim3, px⟩ := q
    obtain ⟨hI3, nI3⟩ := I3.top
    obtain ⟨hS3, nS3⟩ := I3.unpin.top
    have kin : kd ∈ ks := List.mem_of_getElem? ek1
    have dx := Rep.dp sim3.fz px (k1 kd kin).1
    have dk := Rep.dp sim3.fz (pk.le st3.le) (k1 kdb hm).1
    rw [← c.K] at dx dk
    obtain ⟨as1, rd1⟩ := Dp.reads I3 _ wx kx dx rx
    obtain ⟨as2, rd2⟩ := Dp.reads I3 _ wk kb dk rk
    have alk := al _ (List.mem_map_of_mem kin) _ (List.mem_map_of_mem hm)
    have nn : toPy kd ≠ .none := nnK ok kin
    have un := c.units
    have dep := (k1 kd kin).2
    show wpAny _ X.A.in1 (tryCatch (holding [v, kx] (richCompare .Lt kx kb >>= _)) _ >>= _) _ _ _
    refine wpAny_bind (wpAny_tryCatch (wpAny_holding (wpAny_bind (PySem.W.rcLt_alike (toPy kd) (toPy kdb) X.A.in1 s3 kx kb as1 as2 rd1 rd2 alk nn (by have := Nat.min_le_left (toPy kd).depth (toPy kdb).depth; show X.A.units + 1 + _ < _; omega) _ _ _ _ ?_))))
    refine wpAny_bind (wpAny_holding (wpAny_truthy_bool ?_))
    refine wpAny_bind (wpAny_letGo (wpAny_pure ?_))
    have ez : (xs.zip ks).drop (j + 1) = (xs[j + 1], kd) :: (xs.zip ks).drop (j + 1 + 1) := by
      have e : (xs.zip ks)[j + 1]? = some (xs[j + 1], kd) := by rw [List.getElem?_zip_eq_some]; exact ⟨ed, ek1⟩
      obtain ⟨h1, h2⟩ := List.getElem?_eq_some_iff.mp e
      rw [List.drop_eq_getElem_cons h1, h2]
    rw [ez] at hb
    unfold bestF at hb
    have hit3 : s3.heap.IsListIter I l (j + 1 + 1) := ⟨o2, hI3, hoc, hod⟩
    cases hbt : PySem.W.dataLt (toPy kd) (toPy kdb) with
    | true =>
      rw [if_pos (show ltK kd kdb = true from hbt)] at hb
      simp only [if_true]
      refine wpAny_bind ?_
      refine wpAny_updateSeq hS3 rfl (wpAny_bind (wpAny_letGo ?_))
      rw [hname]
      have sm := Heap.SameBut.update s3.heap Z (Obj.mapSeq fun _ => #[v, kx])
      obtain ⟨c2, hc2⟩ : ∃ c2, (s3.heap.update Z (Obj.mapSeq fun _ => #[v, kx])).get? Z = some (seqObj "list" #[v, kx] c2) := ⟨_, get?_update_seq hS3 fun _ => #[v, kx]⟩
      have pS2 : ∀ p ∈ X.pn ++ (I, o2) :: pins, p.1 ≠ Z := fun p hp => by
        rcases List.mem_append.mp hp with hp | hp
        · exact pS p (List.mem_append_left _ hp)
        · rcases List.mem_cons.mp hp with rfl | hp
          · exact hIS
          · exact pS p (List.mem_append_right _ hp)
      have I4 := (I3.swap.repin (t' := s3.toks) oS pS2 (fun b w hb e => (sm.2 b hb).trans e) hc2 fun z ez => by cases ez).swap
      exact wpAny_pure ⟨plainId_quiet F.plain_min_loop _, ih (j + 1) _ W3 H3 v kx w wx _ kd c2 o2 (by omega) hlt I4 (st.trans st3) sim3 ⟨o2, I4.top.1, hoc, hod⟩ ru (pw.le (st.trans st3).le) rx px kin hb⟩
    | false =>
      rw [if_neg (show ¬ ltK kd kdb = true from by rw [show ltK kd kdb = PySem.W.dataLt (toPy kd) (toPy kdb) from rfl, hbt]; simp)] at hb
      simp only [Bool.false_eq_true, if_false]
      refine wpAny_bind (wpAny_letGo ?_)
      rw [hname]
      exact wpAny_pure ⟨plainId_quiet F.plain_min_loop _, ih (j + 1) _ W3 H3 vb kb wb wk db kdb cc o2 (by omega) hlt I3 (st.trans st3) sim3 hit3 rb (pb.le st3.le) rk (pk.le st3.le) hm hb⟩
/-- min(xs, key=f) -/
theorem by_min {x : D} {kd : D} {zs : List (D × D)} (c : Cok C k X) (hk : k.calm = true) (I0 : Inv X pins σ H s) (kf : KeyFn C X σ f W S H g) (sim : Sim C.G W S H) (rs : Reps C.G W xs vv) (fz : W.F l = some (.lst vv)) (ek : keysL S g xs = some ks) (ok : keysOk ks = true) (few : xs.length ≤ sizeLine)
    (hz : xs.zip ks = (x, kd) :: zs) (fin : ∀ W' H' w, Stp W H W' H' → Sim C.G W' S H' → Rep C.G W' (bestF ltK x kd zs) w → Q w H') :
    wpAny (model X.prog X.w) X.A (call (.builtin "min") [.ref l] [(Str.ofString "key", .ref f)]) (EP X pins σ Q) X.xe s := by
  have hname : (toString "min" ++ toString ".loop" : String) = "min.loop" := by decide
  have room := c.room hk
  have hh : X.A.in1.handled = none := room.hd
  obtain ⟨its, rv, ⟨ol, n, e1, e2, e3, e4⟩, _⟩ := I0.list (SqL.of (sim.fz _ _ fz))
  have hl : s.heap.IsList l its.toArray := ⟨ol, e1, e2, n, e4⟩
  have lv := rv.length
  have lr := rs.length
  have lk := keysL_len ek
  have len : 0 < xs.length := by
    have := congrArg List.length hz
    rw [List.length_zip, List.length_cons] at this
    omega
  have ed : xs[0]? = some x ∧ ks[0]? = some kd := by
    have : (xs.zip ks)[0]? = some (x, kd) := by rw [hz]; rfl
    rwa [List.getElem?_zip_eq_some] at this
  refine PyProof.Rows.kmk_tree F.kind_min F.plain_min F.entry_min (PyProof.Rows.kmk_min_key _ _) ?_
  show wpAny _ X.A.in1 (Builtin.Builtins.bindParams "min" ["key", "default"] 0 ⟨[], [(Str.ofString "key", .ref f)]⟩ >>= _) _ _ s
  refine wpAny_bind (wpAny_of_eq (show Builtin.Builtins.bindParams "min" ["key", "default"] 0 ⟨[], [(Str.ofString "key", .ref f)]⟩ = pure [some (.ref f), none] from rfl) ?_)
  refine wpAny_bind (wpAny_pure ?_)
  refine wpAny_bind (wpAny_pyIter_list hl ?_)
  refine wpAny_bind (wpAny_newObj_type ?_)
  rw [hname]
  generalize hI : s.heap.objs.size = I
  generalize hh1 : s.heap.push { cls := .type "list_iterator", data := .fields #[.ref l, .int 0 0] } = h1
  have kI : ∀ b o, s.heap.get? b = some o → h1.get? b = some o := fun b o e => by rw [← hh1]; exact Heap.get?_push_of_some _ e
  have gI : h1.get? I = some { cls := .type "list_iterator", data := .fields #[.ref l, .int 0 0] } := by rw [← hh1, ← hI]; exact Heap.get?_push_size _ rfl
  have oI : Ours X I := Ours.fresh I0 (by rw [hI]; exact Nat.le_refl _)
  have nI : H I = none := I0.hok.fresh (by rw [hI]; exact Nat.le_refl _)
  have pI := pins_fresh I0 (a := I) (by rw [hI]; exact Nat.le_refl _)
  have hlI : l ≠ I := fun z => by rw [z, ← hI] at e1; exact Nat.lt_irrefl _ (Heap.lt_size e1)
  have I1 : Inv X ((I, { cls := .type "list_iterator", data := .fields #[.ref l, .int 0 0] }) :: pins) σ H { s with heap := h1, toks := s.toks } := (I0.kept kI).pinD oI nI gI fun _ z => by cases z
  generalize hZ : h1.objs.size = Z
  have oS : Ours X Z := Ours.fresh I1 (by rw [← hZ]; exact Nat.le_refl _)
  have nS : H Z = none := I1.hok.fresh (by rw [← hZ]; exact Nat.le_refl _)
  have pS1 := pins_fresh I1 (a := Z) (by rw [← hZ]; exact Nat.le_refl _)
  have pS : ∀ p ∈ X.pn ++ pins, p.1 ≠ Z := fun p hp => pS1 p (by
    rcases List.mem_append.mp hp with hp | hp
    · exact List.mem_append_left _ hp
    · exact List.mem_append_right _ (List.mem_cons_of_mem _ hp))
  have hIS : I ≠ Z := pS1 (I, _) (List.mem_append_right _ List.mem_cons_self)
  have I2 : Inv X ((I, { cls := .type "list_iterator", data := .fields #[.ref l, .int 0 0] }) :: (Z, seqObj "list" #[] 0) :: pins) σ H { s with heap := h1.push (seqObj "list" #[] 0), toks := s.toks } :=
    ((I1.kept fun b o e => Heap.get?_push_of_some _ e).pinD (u := seqObj "list" #[] 0) oS nS (by rw [← hZ]; exact Heap.get?_push_size _ rfl) fun _ z => by cases z).swap
  refine wpAny_pure ⟨plainId_quiet F.plain_min_loop _, ?_⟩
  show codeAny (model X.prog X.w) X.A (.builtin "min.loop" ⟨[.ref I, .ref f, .ref Z], _⟩) _ { s with heap := h1.push (seqObj "list" #[] 0), toks := s.toks }
  obtain ⟨hI2, _⟩ := I2.top
  obtain ⟨hS2, _⟩ := I2.unpin.top
  have hl2 : (h1.push (seqObj "list" #[] 0)).IsList l its.toArray := ⟨ol, Heap.get?_push_of_some _ (kI _ _ e1), e2, n, e4⟩
  have Wk := Walks.list (prog := X.prog) (w := X.w) (A := X.A.in1) hh I l hlI its.toArray
  refine codeAny_builtin F.entry_min_loop ?_
  rw [Around.under_plainId F.plain_min_loop _]
  show wpAny _ X.A.in1 (seqItems? (.ref Z) >>= _) _ _ _
  refine wpAny_bind (wpAny_seqItems hS2 rfl ?_)
  show wpAny _ X.A.in1 (tryCatch (pyNext (.ref I)) _ >>= _) _ _ _
  refine wpAny_bind (wpAny_tryCatch (Wk.item 0 _ _ _ (by rw [List.size_toArray]; omega) ⟨⟨_, hI2, rfl, rfl⟩, hl2⟩ fun v h2 tk hP st2 hk2 => ?_))
  obtain ⟨o2, ho2, hoc, hod⟩ := id st2.1
  obtain ⟨w, ew, pw⟩ := rs.get ed.1
  obtain ⟨u, eu, ru⟩ := rv.get ew
  have hP : its[0]? = some v := by simpa using hP
  rw [hP] at eu
  cases eu
  obtain ⟨kd', ek1, ek2⟩ := keysL_get ek ed.1
  rw [ed.2] at ek1
  cases ek1
  have pI2 : ∀ p ∈ X.pn ++ (Z, seqObj "list" #[] 0) :: pins, p.1 ≠ I := fun p hp => by
    rcases List.mem_append.mp hp with hp | hp
    · exact pI p (List.mem_append_left _ hp)
    · rcases List.mem_cons.mp hp with rfl | hp
      · exact Ne.symm hIS
      · exact pI p (List.mem_append_right _ hp)
  have I3 := I2.repin (t' := tk) oI pI2 (fun b w hb e => hk2 b w (by simpa using hb) e) ho2 fun z ez => by rw [hod] at ez; cases ez
  show wpAny _ X.A.in1 (tryCatch (holding [v] (call (.ref f) [v])) _ >>= _) _ _ _
  refine wpAny_bind (wpAny_tryCatch (wpAny_holding (wpAny_mono (kf X.A.in1 _ W H _ _ w v kd rfl hh c.gd (Nat.le_refl _) (by show X.A.units + 1 ≤ _; omega) I3 (.refl _ _) sim pw ru ek2) (fun kx s3 q => ?_) fun _ _ hF => hF.elim)))
  obtain ⟨wx, H3, I4, rx, W3, st3, sim3, px⟩ := q
  obtain ⟨hI4, nI4⟩ := I4.top
  obtain ⟨hS4, nS4⟩ := I4.unpin.top
  show wpAny _ X.A.in1 (updateSeq Z (fun _ => #[v, kx]) >>= _) _ _ _
  refine wpAny_bind ?_
  refine wpAny_updateSeq hS4 rfl ?_
  rw [hname]
  have sm := Heap.SameBut.update s3.heap Z (Obj.mapSeq fun _ => #[v, kx])
  obtain ⟨c2, hc2⟩ : ∃ c2, (s3.heap.update Z (Obj.mapSeq fun _ => #[v, kx])).get? Z = some (seqObj "list" #[v, kx] c2) := ⟨_, get?_update_seq hS4 fun _ => #[v, kx]⟩
  have pS2 : ∀ p ∈ X.pn ++ (I, o2) :: pins, p.1 ≠ Z := fun p hp => by
    rcases List.mem_append.mp hp with hp | hp
    · exact pS p (List.mem_append_left _ hp)
    · rcases List.mem_cons.mp hp with rfl | hp
      · exact hIS
      · exact pS p (List.mem_append_right _ hp)
  have I5 := (I4.swap.repin (t' := s3.toks) oS pS2 (fun b w hb e => (sm.2 b hb).trans e) hc2 fun z ez => by cases ez).swap
  refine wpAny_pure ⟨plainId_quiet F.plain_min_loop _, min_loop (res := bestF ltK x kd zs) c hk kf rs fz ek ok few oI oS hIS hlI pI pS (fun W' H' s' w u J st' sim' r p => ⟨w, H', J, r, fin W' H' w st' sim' p⟩) _ 0 _ W3 H3 v kx w wx x kd c2 o2 rfl (by omega) I5 st3 sim3 ⟨o2, I5.top.1, hoc, hod⟩ ru (pw.le st3.le) rx px (List.mem_of_getElem? ed.2) ?_⟩
  rw [hz]
  rfl
/-- max's loop: behind j + 1 items the best is db, its key kdb -/
theorem max_loop (c : Cok C k X) (hk : k.calm = true) (kf : KeyFn C X σ f W S H g) (rs : Reps C.G W xs vv) (fz : W.F l = some (.lst vv)) (ek : keysL S g xs = some ks) (ok : keysOk ks = true) (few : xs.length ≤ sizeLine) (oI : Ours X I) (oS : Ours X Z) (hIS : I ≠ Z) (hlI : l ≠ I) {P : Result → Shared → Prop}
    (pI : ∀ p ∈ X.pn ++ pins, p.1 ≠ I) (pS : ∀ p ∈ X.pn ++ pins, p.1 ≠ Z)
    (fin : ∀ W' H' s' w u, Inv X pins σ H' s' → Stp W H W' H' → Sim C.G W' S H' → RelV w u → Rep C.G W' res w → P (.ok (.ret u)) s') :
    ∀ (r j : Nat) (s : Shared) (W' : Wd) (H' : Hp) (vb kb : Value) (wb wk : V) (db kdb : D) (cc : Nat) (o : Obj), xs.length - (j + 1) = r → j + 1 ≤ xs.length → Inv X ((I, o) :: (Z, seqObj "list" #[vb, kb] cc) :: pins) σ H' s → Stp W H W' H' → Sim C.G W' S H' → s.heap.IsListIter I l (j + 1) →
      RelV wb vb → Rep C.G W' db wb → RelV wk kb → Rep C.G W' kdb wk → kdb ∈ ks → bestF gtK db kdb ((xs.zip ks).drop (j + 1)) = res → codeAny (model X.prog X.w) X.A (.builtin "max.loop" ⟨[.ref I, .ref f, .ref Z], kw⟩) P s := by
  have hname : (toString "max" ++ toString ".loop" : String) = "max.loop" := by decide
  have room := c.room hk
  have hh : X.A.in1.handled = none := room.hd
  obtain ⟨k1, al, _⟩ := keysOk_of ok
  have lk := keysL_len ek
  have lr := rs.length
  intro r
  induction r with
  | zero =>
    intro j s W' H' vb kb wb wk db kdb cc o hr hj I' st sim' hit rb pb rk pk hm hb
    have hin : j + 1 = xs.length := by omega
    obtain ⟨hI, nI⟩ := I'.top
    obtain ⟨hS, nS⟩ := I'.unpin.top
    obtain ⟨its, rv, ⟨ol, n, e1, e2, e3, e4⟩, _⟩ := I'.list (SqL.of (sim'.fz _ _ (st.le.F _ _ fz)))
    have hl : s.heap.IsList l its.toArray := ⟨ol, e1, e2, n, e4⟩
    have lv := rv.length
    have Wk := Walks.list (prog := X.prog) (w := X.w) (A := X.A.in1) hh I l hlI its.toArray
    refine codeAny_builtin F.entry_max_loop ?_
    rw [Around.under_plainId F.plain_max_loop _]
    show wpAny _ X.A.in1 (seqItems? (.ref Z) >>= _) _ _ s
    refine wpAny_bind (wpAny_seqItems hS rfl ?_)
    show wpAny _ X.A.in1 (tryCatch (pyNext (.ref I)) _ >>= _) _ _ s
    refine wpAny_bind (wpAny_tryCatch (Wk.done s _ _ ⟨by rw [List.size_toArray, ← lv, lr, ← hin]; exact hit, hl⟩ fun h2 tk hk2 => ?_))
    have hS2 := hk2 Z _ (by simpa using Ne.symm hIS) hS
    show wpAny _ X.A.in1 (updateSeq Z (fun _ => #[]) >>= _) _ _ _
    refine wpAny_bind ?_
    refine wpAny_updateSeq hS2 rfl (wpAny_bind (wpAny_letGo (wpAny_pure ?_)))
    have sm := Heap.SameBut.update h2 Z (Obj.mapSeq fun _ => (#[] : Array Value))
    refine fin W' H' _ wb vb (I'.unpin.unpin.two (t' := tk) oI oS nI nS pI pS fun b w hb hb2 e => (sm.2 b hb2).trans (hk2 b w (by simpa using hb) e)) st sim' rb ?_
    rw [List.drop_of_length_le (by rw [List.length_zip]; omega)] at hb
    rw [← hb]
    exact pb
  | succ r ih =>
    intro j s W' H' vb kb wb wk db kdb cc o hr hj I' st sim' hit rb pb rk pk hm hb
    have hlt : j + 1 < xs.length := by omega
    obtain ⟨hI, nI⟩ := I'.top
    obtain ⟨hS, nS⟩ := I'.unpin.top
    obtain ⟨its, rv, ⟨ol, n, e1, e2, e3, e4⟩, _⟩ := I'.list (SqL.of (sim'.fz _ _ (st.le.F _ _ fz)))
    have hl : s.heap.IsList l its.toArray := ⟨ol, e1, e2, n, e4⟩
    have lv := rv.length
    have Wk := Walks.list (prog := X.prog) (w := X.w) (A := X.A.in1) hh I l hlI its.toArray
    refine codeAny_builtin F.entry_max_loop ?_
    rw [Around.under_plainId F.plain_max_loop _]
    show wpAny _ X.A.in1 (seqItems? (.ref Z) >>= _) _ _ s
    refine wpAny_bind (wpAny_seqItems hS rfl ?_)
    show wpAny _ X.A.in1 (tryCatch (pyNext (.ref I)) _ >>= _) _ _ s
    refine wpAny_bind (wpAny_tryCatch (Wk.item (j + 1) s _ _ (by rw [List.size_toArray]; omega) ⟨hit, hl⟩ fun v h2 tk hP st2 hk2 => ?_))
    obtain ⟨o2, ho2, hoc, hod⟩ := id st2.1
    have ed : xs[j + 1]? = some xs[j + 1] := List.getElem?_eq_getElem hlt
    obtain ⟨w, ew, pw⟩ := rs.get ed
    obtain ⟨u, eu, ru⟩ := rv.get ew
    have hP : its[j + 1]? = some v := by simpa using hP
    rw [hP] at eu
    cases eu
    obtain ⟨kd, ek1, ek2⟩ := keysL_get ek ed
    have pI2 : ∀ p ∈ X.pn ++ (Z, seqObj "list" #[vb, kb] cc) :: pins, p.1 ≠ I := fun p hp => by
      rcases List.mem_append.mp hp with hp | hp
      · exact pI p (List.mem_append_left _ hp)
      · rcases List.mem_cons.mp hp with rfl | hp
        · exact Ne.symm hIS
        · exact pI p (List.mem_append_right _ hp)
    have I2 := I'.repin (t' := tk) oI pI2 (fun b w hb e => hk2 b w (by simpa using hb) e) ho2 fun z ez => by rw [hod] at ez; cases ez
    show wpAny _ X.A.in1 (tryCatch (holding [v] (call (.ref f) [v])) _ >>= _) _ _ _
    refine wpAny_bind (wpAny_tryCatch (wpAny_holding (wpAny_mono (kf X.A.in1 _ W' H' _ _ w v kd rfl hh c.gd (Nat.le_refl _) (by show X.A.units + 1 ≤ _; omega) I2 st sim' (pw.le st.le) ru ek2) (fun kx s3 q => ?_) fun _ _ hF => hF.elim)))
    obtain ⟨wx, H3, I3, rx, W3, st3, sim3, px⟩ := q
    obtain ⟨hI3, nI3⟩ := I3.top
    obtain ⟨hS3, nS3⟩ := I3.unpin.top
    have kin : kd ∈ ks := List.mem_of_getElem? ek1
    have dx := Rep.dp sim3.fz px (k1 kd kin).1
    have dk := Rep.dp sim3.fz (pk.le st3.le) (k1 kdb hm).1
    rw [← c.K] at dx dk
    obtain ⟨as1, rd1⟩ := Dp.reads I3 _ wx kx dx rx
    obtain ⟨as2, rd2⟩ := Dp.reads I3 _ wk kb dk rk
    have alk := al _ (List.mem_map_of_mem kin) _ (List.mem_map_of_mem hm)
    have nn : toPy kd ≠ .none := nnK ok kin
    have un := c.units
    have dep := (k1 kd kin).2
    show wpAny _ X.A.in1 (tryCatch (holding [v, kx] (richCompare .Gt kx kb >>= _)) _ >>= _) _ _ _
    refine wpAny_bind (wpAny_tryCatch (wpAny_holding (wpAny_bind (PySem.W.rcGt_alike (toPy kd) (toPy kdb) X.A.in1 s3 kx kb as1 as2 rd1 rd2 alk nn (by have := Nat.min_le_left (toPy kd).depth (toPy kdb).depth; show X.A.units + 1 + _ < _; omega) _ _ _ _ ?_))))
    refine wpAny_bind (wpAny_holding (wpAny_truthy_bool ?_))
    refine wpAny_bind (wpAny_letGo (wpAny_pure ?_))
    have ez : (xs.zip ks).drop (j + 1) = (xs[j + 1], kd) :: (xs.zip ks).drop (j + 1 + 1) := by
      have e : (xs.zip ks)[j + 1]? = some (xs[j + 1], kd) := by rw [List.getElem?_zip_eq_some]; exact ⟨ed, ek1⟩
      obtain ⟨h1, h2⟩ := List.getElem?_eq_some_iff.mp e
      rw [List.drop_eq_getElem_cons h1, h2]
    rw [ez] at hb
    unfold bestF at hb
    have hit3 : s3.heap.IsListIter I l (j + 1 + 1) := ⟨o2, hI3, hoc, hod⟩
    cases hbt : PySem.W.dataLt (toPy kdb) (toPy kd) with
    | true =>
      rw [if_pos (show gtK kd kdb = true from hbt)] at hb
      simp only [if_true]
      refine wpAny_bind ?_
      refine wpAny_updateSeq hS3 rfl (wpAny_bind (wpAny_letGo ?_))
      rw [hname]
      have sm := Heap.SameBut.update s3.heap Z (Obj.mapSeq fun _ => #[v, kx])
      obtain ⟨c2, hc2⟩ : ∃ c2, (s3.heap.update Z (Obj.mapSeq fun _ => #[v, kx])).get? Z = some (seqObj "list" #[v, kx] c2) := ⟨_, get?_update_seq hS3 fun _ => #[v, kx]⟩
      have pS2 : ∀ p ∈ X.pn ++ (I, o2) :: pins, p.1 ≠ Z := fun p hp => by
        rcases List.mem_append.mp hp with hp | hp
        · exact pS p (List.mem_append_left _ hp)
        · rcases List.mem_cons.mp hp with rfl | hp
          · exact hIS
          · exact pS p (List.mem_append_right _ hp)
      have I4 := (I3.swap.repin (t' := s3.toks) oS pS2 (fun b w hb e => (sm.2 b hb).trans e) hc2 fun z ez => by cases ez).swap
      exact wpAny_pure ⟨plainId_quiet F.plain_max_loop _, ih (j + 1) _ W3 H3 v kx w wx _ kd c2 o2 (by omega) hlt I4 (st.trans st3) sim3 ⟨o2, I4.top.1, hoc, hod⟩ ru (pw.le (st.trans st3).le) rx px kin hb⟩
    | false =>
      rw [if_neg (show ¬ gtK kd kdb = true from by rw [show gtK kd kdb = PySem.W.dataLt (toPy kdb) (toPy kd) from rfl, hbt]; simp)] at hb
      simp only [Bool.false_eq_true, if_false]
      refine wpAny_bind (wpAny_letGo ?_)
      rw [hname]
      exact wpAny_pure ⟨plainId_quiet F.plain_max_loop _, ih (j + 1) _ W3 H3 vb kb wb wk db kdb cc o2 (by omega) hlt I3 (st.trans st3) sim3 hit3 rb (pb.le st3.le) rk (pk.le st3.le) hm hb⟩
/-- max(xs, key=f) -/
theorem by_max {x : D} {kd : D} {zs : List (D × D)} (c : Cok C k X) (hk : k.calm = true) (I0 : Inv X pins σ H s) (kf : KeyFn C X σ f W S H g) (sim : Sim C.G W S H) (rs : Reps C.G W xs vv) (fz : W.F l = some (.lst vv)) (ek : keysL S g xs = some ks) (ok : keysOk ks = true) (few : xs.length ≤ sizeLine)
    (hz : xs.zip ks = (x, kd) :: zs) (fin : ∀ W' H' w, Stp W H W' H' → Sim C.G W' S H' → Rep C.G W' (bestF gtK x kd zs) w → Q w H') :
    wpAny (model X.prog X.w) X.A (call (.builtin "max") [.ref l] [(Str.ofString "key", .ref f)]) (EP X pins σ Q) X.xe s := by
  have hname : (toString "max" ++ toString ".loop" : String) = "max.loop" := by decide
  have room := c.room hk
  have hh : X.A.in1.handled = none := room.hd
  obtain ⟨its, rv, ⟨ol, n, e1, e2, e3, e4⟩, _⟩ := I0.list (SqL.of (sim.fz _ _ fz))
  have hl : s.heap.IsList l its.toArray := ⟨ol, e1, e2, n, e4⟩
  have lv := rv.length
  have lr := rs.length
  have lk := keysL_len ek
  have len : 0 < xs.length := by
    have := congrArg List.length hz
    rw [List.length_zip, List.length_cons] at this
    omega
  have ed : xs[0]? = some x ∧ ks[0]? = some kd := by
    have : (xs.zip ks)[0]? = some (x, kd) := by rw [hz]; rfl
    rwa [List.getElem?_zip_eq_some] at this
  refine PyProof.Rows.kmk_tree F.kind_max F.plain_max F.entry_max (PyProof.Rows.kmk_max_key _ _) ?_
  show wpAny _ X.A.in1 (Builtin.Builtins.bindParams "max" ["key", "default"] 0 ⟨[], [(Str.ofString "key", .ref f)]⟩ >>= _) _ _ s
  refine wpAny_bind (wpAny_of_eq (show Builtin.Builtins.bindParams "max" ["key", "default"] 0 ⟨[], [(Str.ofString "key", .ref f)]⟩ = pure [some (.ref f), none] from rfl) ?_)
  refine wpAny_bind (wpAny_pure ?_)
  refine wpAny_bind (wpAny_pyIter_list hl ?_)
  refine wpAny_bind (wpAny_newObj_type ?_)
  rw [hname]
  generalize hI : s.heap.objs.size = I
  generalize hh1 : s.heap.push { cls := .type "list_iterator", data := .fields #[.ref l, .int 0 0] } = h1
  have kI : ∀ b o, s.heap.get? b = some o → h1.get? b = some o := fun b o e => by rw [← hh1]; exact Heap.get?_push_of_some _ e
  have gI : h1.get? I = some { cls := .type "list_iterator", data := .fields #[.ref l, .int 0 0] } := by rw [← hh1, ← hI]; exact Heap.get?_push_size _ rfl
  have oI : Ours X I := Ours.fresh I0 (by rw [hI]; exact Nat.le_refl _)
  have nI : H I = none := I0.hok.fresh (by rw [hI]; exact Nat.le_refl _)
  have pI := pins_fresh I0 (a := I) (by rw [hI]; exact Nat.le_refl _)
  have hlI : l ≠ I := fun z => by rw [z, ← hI] at e1; exact Nat.lt_irrefl _ (Heap.lt_size e1)
  have I1 : Inv X ((I, { cls := .type "list_iterator", data := .fields #[.ref l, .int 0 0] }) :: pins) σ H { s with heap := h1, toks := s.toks } := (I0.kept kI).pinD oI nI gI fun _ z => by cases z
  generalize hZ : h1.objs.size = Z
  have oS : Ours X Z := Ours.fresh I1 (by rw [← hZ]; exact Nat.le_refl _)
  have nS : H Z = none := I1.hok.fresh (by rw [← hZ]; exact Nat.le_refl _)
  have pS1 := pins_fresh I1 (a := Z) (by rw [← hZ]; exact Nat.le_refl _)
  have pS : ∀ p ∈ X.pn ++ pins, p.1 ≠ Z := fun p hp => pS1 p (by
    rcases List.mem_append.mp hp with hp | hp
    · exact List.mem_append_left _ hp
    · exact List.mem_append_right _ (List.mem_cons_of_mem _ hp))
  have hIS : I ≠ Z := pS1 (I, _) (List.mem_append_right _ List.mem_cons_self)
  have I2 : Inv X ((I, { cls := .type "list_iterator", data := .fields #[.ref l, .int 0 0] }) :: (Z, seqObj "list" #[] 0) :: pins) σ H { s with heap := h1.push (seqObj "list" #[] 0), toks := s.toks } :=
    ((I1.kept fun b o e => Heap.get?_push_of_some _ e).pinD (u := seqObj "list" #[] 0) oS nS (by rw [← hZ]; exact Heap.get?_push_size _ rfl) fun _ z => by cases z).swap
  refine wpAny_pure ⟨plainId_quiet F.plain_max_loop _, ?_⟩
  show codeAny (model X.prog X.w) X.A (.builtin "max.loop" ⟨[.ref I, .ref f, .ref Z], _⟩) _ { s with heap := h1.push (seqObj "list" #[] 0), toks := s.toks }
  obtain ⟨hI2, _⟩ := I2.top
  obtain ⟨hS2, _⟩ := I2.unpin.top
  have hl2 : (h1.push (seqObj "list" #[] 0)).IsList l its.toArray := ⟨ol, Heap.get?_push_of_some _ (kI _ _ e1), e2, n, e4⟩
  have Wk := Walks.list (prog := X.prog) (w := X.w) (A := X.A.in1) hh I l hlI its.toArray
  refine codeAny_builtin F.entry_max_loop ?_
  rw [Around.under_plainId F.plain_max_loop _]
  show wpAny _ X.A.in1 (seqItems? (.ref Z) >>= _) _ _ _
  refine wpAny_bind (wpAny_seqItems hS2 rfl ?_)
  show wpAny _ X.A.in1 (tryCatch (pyNext (.ref I)) _ >>= _) _ _ _
  refine wpAny_bind (wpAny_tryCatch (Wk.item 0 _ _ _ (by rw [List.size_toArray]; omega) ⟨⟨_, hI2, rfl, rfl⟩, hl2⟩ fun v h2 tk hP st2 hk2 => ?_))
  obtain ⟨o2, ho2, hoc, hod⟩ := id st2.1
  obtain ⟨w, ew, pw⟩ := rs.get ed.1
  obtain ⟨u, eu, ru⟩ := rv.get ew
  have hP : its[0]? = some v := by simpa using hP
  rw [hP] at eu
  cases eu
  obtain ⟨kd', ek1, ek2⟩ := keysL_get ek ed.1
  rw [ed.2] at ek1
  cases ek1
  have pI2 : ∀ p ∈ X.pn ++ (Z, seqObj "list" #[] 0) :: pins, p.1 ≠ I := fun p hp => by
    rcases List.mem_append.mp hp with hp | hp
    · exact pI p (List.mem_append_left _ hp)
    · rcases List.mem_cons.mp hp with rfl | hp
      · exact Ne.symm hIS
      · exact pI p (List.mem_append_right _ hp)
  have I3 := I2.repin (t' := tk) oI pI2 (fun b w hb e => hk2 b w (by simpa using hb) e) ho2 fun z ez => by rw [hod] at ez; cases ez
  show wpAny _ X.A.in1 (tryCatch (holding [v] (call (.ref f) [v])) _ >>= _) _ _ _
  refine wpAny_bind (wpAny_tryCatch (wpAny_holding (wpAny_mono (kf X.A.in1 _ W H _ _ w v kd rfl hh c.gd (Nat.le_refl _) (by show X.A.units + 1 ≤ _; omega) I3 (.refl _ _) sim pw ru ek2) (fun kx s3 q => ?_) fun _ _ hF => hF.elim)))
  obtain ⟨wx, H3, I4, rx, W3, st3, sim3, px⟩ := q
  obtain ⟨hI4, nI4⟩ := I4.top
  obtain ⟨hS4, nS4⟩ := I4.unpin.top
  show wpAny _ X.A.in1 (updateSeq Z (fun _ => #[v, kx]) >>= _) _ _ _
  refine wpAny_bind ?_
  refine wpAny_updateSeq hS4 rfl ?_
  rw [hname]
  have sm := Heap.SameBut.update s3.heap Z (Obj.mapSeq fun _ => #[v, kx])
  obtain ⟨c2, hc2⟩ : ∃ c2, (s3.heap.update Z (Obj.mapSeq fun _ => #[v, kx])).get? Z = some (seqObj "list" #[v, kx] c2) := ⟨_, get?_update_seq hS4 fun _ => #[v, kx]⟩
  have pS2 : ∀ p ∈ X.pn ++ (I, o2) :: pins, p.1 ≠ Z := fun p hp => by
    rcases List.mem_append.mp hp with hp | hp
    · exact pS p (List.mem_append_left _ hp)
    · rcases List.mem_cons.mp hp with rfl | hp
      · exact hIS
      · exact pS p (List.mem_append_right _ hp)
  have I5 := (I4.swap.repin (t' := s3.toks) oS pS2 (fun b w hb e => (sm.2 b hb).trans e) hc2 fun z ez => by cases ez).swap
  refine wpAny_pure ⟨plainId_quiet F.plain_max_loop _, max_loop (res := bestF gtK x kd zs) c hk kf rs fz ek ok few oI oS hIS hlI pI pS (fun W' H' s' w u J st' sim' r p => ⟨w, H', J, r, fin W' H' w st' sim' p⟩) _ 0 _ W3 H3 v kx w wx x kd c2 o2 rfl (by omega) I5 st3 sim3 ⟨o2, I5.top.1, hoc, hod⟩ ru (pw.le st3.le) rx px (List.mem_of_getElem? ed.2) ?_⟩
  rw [hz]
  rfl
end
def bstN (mx : Bool) : Str := if mx then "max" else "min"
section
variable {C : Ct} {k : Ck} {X : Cx} {a : Expr} {ca cb : Ex} {pos p kp lp ap : Pos} {x : Str} {sc : Scope} {body : Expr} {mx : Bool} {js : List Nat}
theorem bst_run {pins : List (Addr × Obj)} {σ : L2.St} {H : Hp} {s : Shared} {W : Wd} {S : Store} {Q : VK} {l f : Addr} {g : D → Store → R D} {xs ks : List D} {vv : List V} {d : D} (c : Cok C k X) (hk : k.calm = true) (I : Inv X pins σ H s) (kf : KeyFn C X σ f W S H g) (sim : Sim C.G W S H) (rs : Reps C.G W xs vv) (fz : W.F l = some (.lst vv)) (ek : keysL S g xs = some ks) (e : bstD mx xs ks = some d)
    (fin : ∀ W' H' w, Stp W H W' H' → Sim C.G W' S H' → Rep C.G W' d w → Q w H') : wpAny (model X.prog X.w) X.A (call (.builtin (if mx then "max" else "min")) [.ref l] [(Str.ofString "key", .ref f)]) (EP X pins σ Q) X.xe s := by
  unfold bstD at e
  split at e
  · rename_i h
    rw [Bool.and_eq_true, decide_eq_true_eq] at h
    have few : xs.length ≤ sizeLine := Nat.le_trans h.2 (by unfold lim; decide)
    cases hz : xs.zip ks with
    | nil => rw [hz] at e; cases mx <;> cases e
    | cons z zs =>
      obtain ⟨x, kd⟩ := z
      rw [hz] at e
      cases mx with
      | false =>
        cases e
        exact by_min c hk I kf sim rs fz ek h.1 few hz fin
      | true =>
        cases e
        exact by_max c hk I kf sim rs fz ek h.1 few hz fin
  · cases e
theorem r_bst (c : Cok C k X) (hk : k.calm = true) (g : Gok C) (h1 : glC k.sc (bstN mx) = true) (hp : plainA a = true) (hi : k.inn = some true) (hs : lamC k sc x js = true) (ha : PE X a (tE C false ca)) (pb : ∀ Xb, Cok C.nox (lamK sc x) Xb → PE Xb body (tE C.nox false cb)) :
    PE X (.Call (.Name (bstN mx) p) [a] [⟨some "key", .Lambda (klP x ap) body sc lp, kp⟩] pos) (tE C false (.bst mx ca js cb)) := by
  obtain ⟨cd, P, ec, hm, un, TB⟩ := c.tb true hi
  obtain ⟨Sc, hjs, nd, hfree, hfr⟩ := lamC_of hs
  have kl : PE X (.Lambda (klP x ap) body sc lp) (fun _ H Q => X.Ok → LamX.TabS H P (X.env.qual ++ "<lambda>") ∧ ∀ f c' H1, Made H P (X.env.qual ++ "<lambda>") f c' (FunL f c' (X.env.qual ++ "<lambda>") x ap body sc (cloFrom X.env.cells sc.names [])) H1 → Q (.ref f) H1) :=
    ⟨fun pins s σ H Q I h => lam_make I TB ec rfl (h I.ok).1 (fun y hy e => (by rw [← c.sc] at hfree; exact hfree y hy e : X.env.scope.names.lookup y.1 = some .cell ∨ X.env.scope.names.lookup y.1 = some .free).elim (fun z => I.ok.has _ (.inl z)) fun z => I.ok.has _ (.inr z)) fun f c' H1 s' I1 m => ⟨.ref f, H1, I1, rfl, (h I.ok).2 f c' H1 m⟩⟩
  refine (pe_callW (ks := [Str.ofString "key"]) (id := if mx then "max" else "min") (glC_ok c h1) (by rw [c.mg]; exact g.bn _ (by cases mx <;> decide +kernel)) (by cases mx <;> decide +kernel) (pa_one hp ha) (pk_cons kl pk_nil) (by cases mx <;> decide +kernel) (by cases mx <;> decide +kernel) (by rw [star_of hp]; rfl) (noStar (by rw [List.all_cons, hp]; rfl) _ _) rfl rfl rfl).imp fun σ H Q ⟨W, S, ρ, sim, eok, q⟩ => ?_
  unfold ev at q
  unfold tCons tNil
  refine tG.bind sim eok q fun W1 S1 H1 y v st1 sim1 eok1 pv1 q1 => ?_
  obtain ⟨d, e, fin⟩ := q1.opt
  obtain ⟨xs, e1, e⟩ := Option.bind_eq_some_iff.mp e
  obtain ⟨ks, e2, e3⟩ := Option.bind_eq_some_iff.mp e
  refine fun ok => ⟨sim1.tb _ hm, fun f c' H2 md => ?_⟩
  obtain ⟨sim2, st2⟩ := md.sim sim1 hm un
  obtain ⟨m1, m2⟩ := md.at_
  intro pins s us ws I2 r1 r2
  have ey : y = .lst xs := by
    unfold lstD at e1
    split at e1
    · cases e1; rfl
    · cases e1
  subst ey
  obtain ⟨l, vv, rfl, fz, rs⟩ := pv1.rep
  obtain rfl := Vals.ref1 r1
  obtain rfl := Vals.ref1 r2
  exact bst_run c hk I2 (key_lam I2.ok c hk hi hs (eok1.mv st2) sim2 m1 m2 pb) sim2 rs fz e2 e3 fun W' H' w st s' pv => fin W' H' w ((st1.trans st2).trans st) s' (.of_rep pv (.inl rfl))
end
end DI
set_option Elab.async false
set_option linter.all false
set_option maxRecDepth 100000
set_option maxHeartbeats 4000000
/-! DC: {k: v for ..}. -/
namespace DI
open PySem PySem.Spec PyProof.Rows L2
theorem dcL_err {f : D → Store → R (Key × D)} {w : List D × Option Nat} : ∀ {l : List D} {S : Store} {a : List (Key × D)}, (∃ xs S', dcL f w l S a = .ok xs S') ∨ dcL f w l S a = .bad
  | [], S, a => by
    unfold dcL
    split
    · exact .inl ⟨_, _, rfl⟩
    · exact .inr rfl
  | d :: ds, S, a => by
    unfold dcL
    split
    · split
      · exact dcL_err
      · exact .inr rfl
    · exact .inr rfl
theorem dcL_cons {f : D → Store → R (Key × D)} {w : List D × Option Nat} {d : D} {ds : List D} {S S' : Store} {a z : List (Key × D)} (h : dcL f w (d :: ds) S a = .ok z S') : srcOk S w.2 w.1 = true ∧ a.length < lim ∧ ∃ kv S1, f d S = .ok kv S1 ∧ dcL f w ds S1 (putP kv.1 kv.2 a) = .ok z S' := by
  unfold dcL at h
  split at h
  · rename_i c
    split at h
    · rename_i kv S1 e
      exact ⟨c.1, c.2, kv, S1, e, h⟩
    · cases h
  · cases h
theorem dcL_nil {f : D → Store → R (Key × D)} {w : List D × Option Nat} {S S' : Store} {a z : List (Key × D)} (h : dcL f w [] S a = .ok z S') : srcOk S w.2 w.1 = true ∧ z = a ∧ S' = S := by
  unfold dcL at h
  split at h
  · rename_i hs; cases h; exact ⟨hs, rfl, rfl⟩
  · cases h
section
variable {C : Ct} {k : Ck} {X : Cx} {kx vx tg iter : Expr} {ke ve : Ex} {it : Itx} {pt : Pat} {scope : Scope} {own : List (Str × Nat)} {pos : Pos}
theorem dc_rd (hK : C.G.K = X.K) (ho : own.map (·.2) = pt.slots) {σ : L2.St} {H : Hp} {Q : VK} (h : tE C true (.dcp ke ve pt it) σ H Q) : tDc (tI C pt it) (gP X.K pt) tYes (tE C.nox false ke) (tE C.nox false ve) (own.map (·.2)) σ H Q := by
  obtain ⟨W, S, ρ, sim, eok, q⟩ := h
  unfold ev at q
  rw [ho]
  unfold tDc
  refine ⟨W, S, ρ, sim, eok, q.bind.imp (fun w S1 q1 W1 H1 J st1 sim1 itok => ?_) fun _ _ z => z⟩
  intro D hD
  generalize hf : (fun (d : DI.D) (S : Store) => match bindP pt d (kill pt.slots ρ) with
      | some ρ' => (ev C.cl ke ρ' S).bind fun x S => match keyD x with
        | some k => (ev C.cl ve ρ' S).bind fun v S => R.ok (k, v) S
        | none => .bad
      | none => .bad) = f at q1
  rcases dcL_err (f := f) (w := w) (l := w.1) (S := S1) (a := []) with ⟨xs, Sf, e⟩ | e
  · rw [e] at q1
    have q1 : RP (α := DI.D) (R.ok (Ob.dic xs).toD Sf) _ _ := q1
    have eok1 := eok.mv st1
    refine ⟨fun i m Hc => m = w.1.length - i ∧ i ≤ w.1.length ∧ ∃ W2 S2 ds, Stp W1 H1 W2 Hc ∧ Sim C.G W2 S2 Hc ∧ Lone C.G W2 Hc D (.dic ds) ∧ dcL f w (w.1.drop i) S2 ds = .ok xs Sf, ⟨w.1.length, rfl, Nat.zero_le _, W1, S1, [], .push hD, sim1.push hD, ?_, e⟩, ?_⟩
    · refine ⟨⟨[], upd_same, rfl⟩, ?_, fun k hk z => ?_⟩
      · cases h : W1.F D with
        | none => rfl
        | some o => rw [sim1.fz D o h] at hD; cases hD
      · rw [sim1.len] at hk
        have := (sim1.ob k _ (List.getElem?_eq_getElem hk)).some
        rw [← z] at this
        exact this hD
    · rintro i m Hc ⟨rfl, hi, W2, S2, ds, st2, sim2, lone, e2⟩
      have hz : ∀ a o, srcOwn ρ it = true ∧ OwnA σ ρ a → H1 a = some o → Hc a = some o := fun a o ⟨_, j, ob, o1, o2⟩ h => by
        obtain ⟨p, p1, p2, _, p3, _⟩ := eok1.own j ob o1
        rw [o2] at p1
        cases p1
        refine st2.keep a o h p3 fun ps z => ?_
        subst z
        exact p2.pln.1 ps h
      by_cases hlt : i < w.1.length
      · have ed : w.1.drop i = w.1[i] :: w.1.drop (i + 1) := List.drop_eq_getElem_cons hlt
        rw [ed] at e2
        obtain ⟨hs, hl, kv, S3, ef, er⟩ := dcL_cons e2
        obtain ⟨go, yl⟩ := (itok W2 S2 Hc st2.le sim2 hs hz).1 i w.1[i] (List.getElem?_eq_getElem hlt)
        refine .inr ⟨go, fun Hn => ∃ W3 S3 ds, Stp W1 H1 W3 Hn ∧ Sim C.G W3 S3 Hn ∧ Lone C.G W3 Hn D (.dic ds) ∧ dcL f w (w.1.drop (i + 1)) S3 ds = .ok xs Sf, fun Hn n => ⟨_, by omega, rfl, hlt, n⟩, fun x Hy y => ?_⟩
        obtain ⟨W3, st3, sim3, yr⟩ := yl x Hy y
        subst hf
        dsimp only at ef
        cases eb : bindP pt w.1[i] (kill pt.slots ρ) with
        | none => rw [eb] at ef; cases ef
        | some ρ' =>
          rw [eb] at ef
          dsimp only at ef
          have eok3 := (eok1.mv (st2.trans st3)).kill (σ' := wipe σ pt.slots) pt.slots (wipe_length _ _) fun j hj => wipe_out hj
          refine bindP_ok hK eok3 yr eb fun σ2 e2' hl2 hj2 => ⟨?_, ?_⟩
          · refine List.ext_getElem? fun j => ?_
            by_cases hj : j ∈ pt.slots
            · have w0 : ∀ {τ : L2.St}, j < τ.length → (wipe τ pt.slots)[j]? = some none := fun {τ} hτ => by
                cases h : (wipe τ pt.slots)[j]? with
                | none => rw [List.getElem?_eq_none_iff, wipe_length] at h; omega
                | some z =>
                  cases z with
                  | none => rfl
                  | some z => exact absurd hj (wipe_some h).2
              by_cases hτ : j < σ.length
              · rw [w0 (by rw [hl2, wipe_length]; exact hτ), w0 hτ]
              · rw [List.getElem?_eq_none (by rw [wipe_length, hl2, wipe_length]; omega), List.getElem?_eq_none (by rw [wipe_length]; omega)]
            · rw [wipe_out hj, wipe_out hj, hj2 j hj, wipe_out hj]
          · dsimp only [tYes]
            rw [if_pos (rfl : true = true)]
            cases e3 : ev C.cl ke ρ' S2 with
            | err x S4 => rw [e3] at ef; cases ef
            | bad => rw [e3] at ef; cases ef
            | ok xk S4 =>
              rw [e3] at ef
              have ef : (match keyD xk with
                | some k => (ev C.cl ve ρ' S4).bind fun v S => R.ok (k, v) S
                | none => .bad) = .ok kv S3 := ef
              cases e4 : keyD xk with
              | none => rw [e4] at ef; cases ef
              | some key =>
                rw [e4] at ef
                cases e5 : ev C.cl ve ρ' S4 with
                | err x S4 => simp only [e5] at ef; cases ef
                | bad => simp only [e5] at ef; cases ef
                | ok xv S5 =>
                  simp only [e5] at ef
                  cases ef
                  refine ⟨W3, S2, ρ', sim3, e2'.nox, ?_⟩
                  show RP (ev C.cl ke ρ' S2) _ _
                  rw [e3]
                  intro W4 H4 y st4 sim4 pv4
                  refine ⟨W4, S4, ρ', sim4, (e2'.mv st4).nox, ?_⟩
                  show RP (ev C.cl ve ρ' S4) _ _
                  rw [e5]
                  intro W5 H5 z st5 sim5 pv5
                  have stA := ((st2.trans st3).trans st4).trans st5
                  obtain ⟨⟨us, ha, ra⟩, lf, la⟩ := lone.mv ((st3.trans st4).trans st5)
                  have ky := keyD_rep (H := H4) (.inl pv4.rep) e4
                  refine ⟨us, key, ky, ha, by rw [krep_len ra]; exact lim_lt hl, W5, _, putP key xv ds, stA.other hD (by rw [ha]; simp), sim5.other lf la (by rw [ha]; exact .dK), ⟨⟨_, upd_same, krep_put ra pv5.rep⟩, lf, la⟩, er⟩
      · have ei : i = w.1.length := by omega
        subst ei
        rw [List.drop_length] at e2
        obtain ⟨hs, rfl, rfl⟩ := dcL_nil e2
        refine .inl ⟨(itok W2 Sf Hc st2.le sim2 hs hz).2, q1 W2 Hc _ (st1.trans st2) sim2 (.of_fresh ⟨D, _, rfl, obOf_toD_dic _, lone.1, lone.2.1, lone.2.2, ?_⟩)⟩
        cases h : H D with
        | none => rfl
        | some o => exact absurd hD (st1.dom D (by rw [h]; simp))
  · rw [e] at q1
    exact False.elim q1
theorem r_dcp (c : Cok C k X) (hk : k.calm = true) (hb : blkC k.N k.sc scope own = true) (ho : own.map (·.2) = pt.slots) (hi : PI X tg iter (tI C pt it)) (hp : patC (k.blk scope) pt tg = true) (hs : plainS iter = true)
    (h1 : ∀ Xb, Cok C.nox (k.blk scope) Xb → PE Xb kx (tE C.nox false ke)) (h2 : ∀ Xb, Cok C.nox (k.blk scope) Xb → PE Xb vx (tE C.nox false ve)) : PE X (.DictComp kx vx [⟨tg, iter, [], 0⟩] scope pos) (tE C true (.dcp ke ve pt it)) := by
  have ok : BlkOk X.N X.env.scope scope own := by rw [c.N, c.sc]; exact blkOk_by hb
  exact (pe_dc (own := own) (tt := tYes) (tk := tE C.nox false ke) (tv := tE C.nox false ve) (g := gP X.K pt) (c.hc hk) c.nd hi ok (fun s H L cl fp => g_pat (c.blk hk s H L cl fp) hp) (fun _ _ _ _ _ => pts_nil) (fun s H L cl fp => h1 _ (c.blk hk s H L cl fp)) (fun s H L cl fp => h2 _ (c.blk hk s H L cl fp)) (folded_of hs X.env)).imp fun σ H Q h =>
    dc_rd c.K.symm ho h
end
end DI
set_option Elab.async false
set_option linter.all false
set_option maxRecDepth 100000
set_option maxHeartbeats 4000000
/-! DK8: {'x': v, ..}. -/
namespace DI
open PySem PySem.Spec PyProof.Rows L2
/-- a display's text -/
inductive DctOk (C : Ct) (X : Cx) : List Str → Exs → List (Option Expr) → List Expr → Prop
  | nil : DctOk C X [] .nil [] []
  | cons {x : Str} {j : Nat} {p : Pos} {a : Ex} {e : Expr} {ks : List Str} {vs : Exs} {xs : List (Option Expr)} {es : List Expr} (h1 : PE X e (tE C false a)) (h : DctOk C X ks vs xs es) : DctOk C X (x :: ks) (.cons a vs) (some (.Constant (.str x) j p) :: xs) (e :: es)
theorem pairs_dct {C : Ct} {X : Cx} {pos : Pos} {ks : List Str} {vs : Exs} {xs : List (Option Expr)} {es : List Expr} (h : DctOk C X ks vs xs es) :
    xs.all (·.isSome) = true ∧ xs.length = es.length ∧ xs.length = ks.length ∧ ∃ trs, PPs X pos xs es trs ∧ ∀ σ H (Q : List (V × V) → Hp → Prop), tA C vs σ H (fun us H1 => us.length = ks.length → Q ((ks.map V.str).zip us) H1) → tPairs trs σ H Q := by
  induction h with
  | nil =>
    refine ⟨rfl, rfl, rfl, [], pps_nil, fun σ H Q ⟨W, S, ρ, sim, eok, q⟩ => ?_⟩
    dsimp only at q
    unfold evs at q
    exact q W H [] (.refl _ _) sim rfl rfl
  | @cons x j p a e ks vs xs es h1 h ih =>
    obtain ⟨i1, i2, i3, trs, hp, k2⟩ := ih
    refine ⟨by rw [List.all_cons, i1]; rfl, by simp [i2], by simp [i3], _ :: trs, pps_cons pe_str h1 hp, fun σ H Q ⟨W, S, ρ, sim, eok, q⟩ => ?_⟩
    dsimp only at q
    unfold evs at q
    unfold tPairs
    show tE C false a σ H _
    refine tG.bind sim eok q fun W1 S1 H1 d v st1 sim1 eok1 pv1 q1 => ?_
    have rv := pv1.rep
    refine k2 σ H1 _ ⟨W1, S1, ρ, sim1, eok1, q1.bind.imp (fun ds S2 z W2 H2 us st2 sim2 rs hl => ?_) fun _ _ z => z⟩
    exact z W2 H2 (v :: us) (st1.trans st2) sim2 (Reps.cons (rv.le st2.le) rs) (by simp [hl])
theorem zip_kv : ∀ (ks : List Str) (us : List V), (ks.map V.str).zip us = ((ks.map (Sum.inr : Str → Key)).zip us).map fun kv => (kV kv.1, kv.2)
  | [], _ => rfl
  | _ :: _, [] => rfl
  | k :: ks, u :: us => by
    show (V.str k, u) :: (ks.map V.str).zip us = (V.str k, u) :: _
    rw [zip_kv ks us]
    rfl
theorem nodup_inr : ∀ {ks : List Str}, ks.Nodup → (ks.map (Sum.inr : Str → Key)).Nodup
  | [], _ => List.nodup_nil
  | k :: ks, h => by
    have h := List.nodup_cons.mp h
    refine List.nodup_cons.mpr ⟨fun z => ?_, nodup_inr h.2⟩
    obtain ⟨y, hy, e⟩ := List.mem_map.mp z
    cases e
    exact h.1 hy
theorem putK_fr {kvs : List (Key × V)} {k : Key} {v : V} (h : k ∉ kvs.map (·.1)) : putK kvs k v = kvs ++ [(k, v)] := by
  unfold putK
  split
  · rename_i z
    exfalso
    apply h
    obtain ⟨p, hp, e⟩ := List.any_eq_true.mp z
    exact List.mem_map.mpr ⟨p, hp, by simpa using e⟩
  · rfl
theorem mergeK_new : ∀ {more kvs : List (Key × V)}, (more.map (·.1)).Nodup → (∀ k ∈ more.map (·.1), k ∉ kvs.map (·.1)) → mergeK kvs more = kvs ++ more
  | [], kvs, _, _ => by show kvs = kvs ++ []; simp
  | p :: r, kvs, nd, out => by
    show mergeK (putK kvs p.1 p.2) r = _
    rw [putK_fr (out p.1 List.mem_cons_self)]
    have nd2 := List.nodup_cons.mp nd
    rw [mergeK_new nd2.2 fun k hk => ?_]
    · simp
    · rw [List.map_append, List.mem_append]
      rintro (z | z)
      · exact out k (List.mem_cons_of_mem _ hk) z
      · have : k = p.1 := by simpa using z
        rw [this] at hk
        exact nd2.1 hk
theorem krep_strs {G : Gx} {W : Wd} : ∀ {ks : List Str} {ds : List D} {us : List V}, ks.length = ds.length → Reps G W ds us → KRep G W ((ks.map Sum.inr).zip ds) ((ks.map Sum.inr).zip us)
  | [], [], us, _, r => by
    have r : us = [] := r
    subst r
    rfl
  | [], _ :: _, _, h, _ => by cases h
  | _ :: _, [], _, h, _ => by cases h
  | k :: ks, d :: ds, us, h, r => by
    obtain ⟨v, t, rfl, r1, r2⟩ := r
    exact ⟨v, _, rfl, r1, krep_strs (by simpa using h) r2⟩
section
variable {C : Ct} {k : Ck} {X : Cx} {pos : Pos} {ks : List Str} {vs : Exs} {xs : List (Option Expr)} {es : List Expr}
theorem r_dct (h : DctOk C X ks vs xs es) (h0 : xs ≠ []) (h15 : xs.length ≤ 15) : PE X (.Dict xs es pos) (tE C true (.dct ks vs)) := by
  obtain ⟨h1, h2, h3, trs, hp, k2⟩ := pairs_dct (pos := pos) h
  refine (pe_disp hp h1 h2 h0 h15).imp fun σ H Q ⟨W, S, ρ, sim, eok, q⟩ p hH => ?_
  unfold ev at q
  have st0 : Stp W H W (upd H p (.dK [])) := .push hH
  have lone : Lone C.G W (upd H p (.dK [])) p (.dic []) := by
    refine ⟨⟨[], upd_same, rfl⟩, ?_, fun j hj z => ?_⟩
    · cases e : W.F p with
      | none => rfl
      | some o => rw [sim.fz p o e] at hH; cases hH
    · rw [sim.len] at hj
      have := (sim.ob j _ (List.getElem?_eq_getElem hj)).some
      rw [← z] at this
      exact this hH
  refine k2 σ _ _ ⟨W, S, ρ, sim.push hH, eok.mv st0, q.bind.imp (fun ds S2 z W2 H2 us st2 sim2 rs hl => ?_) fun x S2 z => z.mv st0⟩
  obtain ⟨d, e, fin⟩ := z.opt
  split at e
  · rename_i cnd
    cases e
    obtain ⟨⟨us0, ha, ra⟩, lf, la⟩ := lone.mv st2
    have ra : us0 = [] := ra
    subst ra
    refine ⟨ha, (ks.map Sum.inr).zip us, ?_, ?_, ?_⟩
    · exact zip_kv ks us
    · rw [List.length_zip, List.length_map]; omega
    · have nd : (((ks.map Sum.inr).zip us).map (·.1) : List Key).Nodup := by
        rw [zip_map_fst (by rw [List.length_map]; omega)]
        exact nodup_inr cnd.2.2
      rw [mergeK_new nd (fun _ _ z => by simp at z)]
      have en : ((ks.map Sum.inr).zip ds).map (·.1) = ks.map Sum.inr := zip_map_fst (as := ks.map (Sum.inr : Str → Key)) (bs := ds) (by rw [List.length_map]; exact cnd.1)
      have ev' : ((ks.map (Sum.inr : Str → Key)).zip ds).map (·.2) = ds := zip_map_snd (as := ks.map (Sum.inr : Str → Key)) (bs := ds) (by rw [List.length_map]; exact cnd.1)
      refine fin W2 _ _ ((st0.trans st2).other hH (by rw [ha]; simp)) (sim2.other lf la (by rw [ha]; exact .dK)) (.of_fresh ⟨p, .dic ((ks.map Sum.inr).zip ds), rfl, ?_, ⟨_, upd_same, krep_strs cnd.1 rs⟩, lf, la, hH⟩)
      show (if (ks.map Sum.inr).length = ds.length then some (Ob.dic ((ks.map Sum.inr).zip ds)) else none) = _
      rw [if_pos (by rw [List.length_map]; exact cnd.1)]
  · cases e
end
end DI
set_option Elab.async false
set_option linter.all false
set_option maxRecDepth 100000
set_option maxHeartbeats 4000000
/-! DT: for k, v in f(..).items(), f's result a new dict. -/
namespace DI
open PySem PySem.Spec PyProof.Rows L2
/-- the new dict is frozen -/
def tFz (td : TE) : TE := fun σ H Q => td σ H fun x H1 => ∃ d kvs, x = .ref d ∧ H1 d = some (.dK kvs) ∧ ∀ o, Q x (upd H1 d (.frz o (.dK kvs)))
section
variable {C : Ct} {k : Ck} {X : Cx} {e : Expr} {ca : Ex} {apos cpos tpos : Pos} {elts : List Expr} {kk : Nat} {td : TE}
theorem pe_fz (he : PE X e td) : PE X e (tFz td) := by
  refine ⟨fun pins s σ H Q I h => thn (he.run pins s σ H _ I h) fun u s1 ⟨x, H1, I1, rx, d, kvs, ex, hd, q⟩ => ?_⟩
  obtain ⟨o, ho⟩ : ∃ o, s1.heap.get? d = some o := by
    obtain ⟨_, _, _, _, o, _, _, h1, _⟩ := I1.hok d _ hd
    exact ⟨o, h1⟩
  exact ⟨x, _, I1.write (x := d) (e := d) (h' := s1.heap) (t' := s1.toks) (o := .frz o (.dK kvs)) (by rw [hd]; trivial) (.inl rfl) (fun _ _ _ h => h) ⟨o, ho⟩ ⟨ho, I1.hok d _ hd⟩, rx, q o⟩
theorem itemsD_get {ks : List Key} {ds : List D} {xs : List D} (h : itemsD (.dic ks ds) = some xs) : xs = (ks.zip ds).map fun p => .tup [dKey p.1, p.2] := by
  have z : ∀ (ks : List Key) (ds : List D), zipD (ks.map dKey) ds = (ks.zip ds).map fun p => .tup [dKey p.1, p.2] := by
    intro ks
    induction ks with
    | nil => intro ds; cases ds <;> rfl
    | cons k ks ih =>
      intro ds
      cases ds with
      | nil => rfl
      | cons d ds => show _ :: zipD (ks.map dKey) ds = _; rw [ih]; rfl
  unfold itemsD at h
  rw [← z]
  exact (Option.some.inj h).symm
theorem dKey_rep {G : Gx} {W : Wd} (k : Key) : Rep G W (dKey k) (kV k) := by
  cases k with
  | inl i => rfl
  | inr x => rfl
theorem krep_get {G : Gx} {W : Wd} : ∀ {kvs : List (Key × D)} {us : List (Key × V)} {i : Nat} {k : Key} {d : D}, KRep G W kvs us → kvs[i]? = some (k, d) → ∃ v, us[i]? = some (k, v) ∧ Rep G W d v
  | [], _, _, _, _, _, e => by simp at e
  | (k0, d0) :: r, us, 0, k, d, h, e => by
    obtain ⟨v, t, rfl, q, _⟩ := h
    simp at e
    obtain ⟨rfl, rfl⟩ := e
    exact ⟨v, rfl, q⟩
  | (k0, d0) :: r, us, i + 1, k, d, h, e => by
    obtain ⟨v, t, rfl, _, h'⟩ := h
    obtain ⟨u, e1, e2⟩ := krep_get (i := i) h' (by simpa using e)
    exact ⟨u, by simpa using e1, e2⟩
theorem i_itm {is : List Nat} (hb : attributeBase e "items" X.env (eval e X.env) = eval e X.env) (hl : (apos.endLine == cpos.line) = true) (nv : ∀ ρ, own? ρ ca = none) (h : PE X e (tE C true ca)) :
    PI X (.Tuple elts kk tpos) (.Call (.Attribute e "items" apos) [] [] cpos) (tI C (.tp is) (.itm ca)) :=
  (pi_items (pe_fz h) hb hl).imp fun σ H R ⟨W, S, ρ, sim, eok, q⟩ => by
    unfold evI at q
    have nb : bw ca ρ S (ev C.cl ca ρ S) = ev C.cl ca ρ S := by unfold bw; rw [nv ρ]
    rw [nb] at q
    unfold iItems tFz
    refine tG.bind sim eok q fun W1 S1 H1 x v st1 sim1 eok1 pv1 q1 => ?_
    obtain ⟨w, e1, fin⟩ := q1.opt
    obtain ⟨xs, e2, rfl⟩ := Option.map_eq_some_iff.mp e1
    clear e1
    have e1 := e2
    clear e2
    cases x with
    | dic ks ds =>
      have key : Fresh C.G W1 H H1 (.dic ks ds) v ∧ ks.length = ds.length := by
        unfold PostV at pv1
        split at pv1
        · refine ⟨pv1, ?_⟩
          obtain ⟨_, _, _, eo, _⟩ := pv1
          have eo : (if ks.length = ds.length then some (Ob.dic (ks.zip ds)) else none) = some _ := eo
          split at eo
          · assumption
          · cases eo
        · rename_i n
          obtain ⟨_, _, _, l, _⟩ := pv1
          exact absurd (show (true && (if ks.length = ds.length then some (Ob.dic (ks.zip ds)) else none).isSome) = true by rw [if_pos l]; rfl) n
      obtain ⟨⟨d, o, rfl, eo, at_, hF, hA, h0⟩, len⟩ := key
      have eo : (if ks.length = ds.length then some (Ob.dic (ks.zip ds)) else none) = some o := eo
      rw [if_pos len] at eo
      cases eo
      obtain ⟨us, hd, kr⟩ := at_
      have ex := itemsD_get e1
      subst ex
      refine ⟨d, us, rfl, hd, fun ob => ⟨d, ob, us, rfl, upd_same, ?_⟩⟩
      have sim2 : Sim C.G (W1.fz d (.frz ob (.dK us))) S1 (upd H1 d (.frz ob (.dK us))) := (sim1.other hF hA (by rw [hd]; exact .dK)).fzn upd_same (fun _ z => by cases z) hF hA
      have st2 : Stp W H (W1.fz d (.frz ob (.dK us))) (upd H1 d (.frz ob (.dK us))) := (st1.other h0 (by rw [hd]; simp)).fzn h0 hF
      refine fin _ _ _ st2 sim2 ?_
      intro W2 S2 H2 le s2 _ _
      have fz : H2 d = some (.frz ob (.dK us)) := s2.fz d _ (le.F d _ (by show upd W1.F d _ d = _; exact upd_same))
      have kr2 : KRep C.G W2 (ks.zip ds) us := (kr.le (.fz hF)).le le
      have ln : us.length = ((ks.zip ds).map fun p : Key × D => D.tup [dKey p.1, p.2]).length := by rw [List.length_map]; exact krep_len kr
      refine ⟨fun i y ey => ?_, fz, Nat.le_of_eq ln⟩
      obtain ⟨⟨k0, d0⟩, e2, rfl⟩ : ∃ p, (ks.zip ds)[i]? = some p ∧ y = .tup [dKey p.1, p.2] := by
        rw [List.getElem?_map] at ey
        obtain ⟨p, e2, e3⟩ := Option.map_eq_some_iff.mp ey
        exact ⟨p, e2, e3.symm⟩
      obtain ⟨v0, e3, rv⟩ := krep_get kr2 e2
      refine ⟨⟨fz, (List.getElem?_eq_some_iff.mp e3).1⟩, fun x H3 yy => ?_⟩
      obtain ⟨t, kx, vx, e4, rfl, ht, rfl⟩ := yy
      rw [e3] at e4
      cases e4
      refine ⟨W2, .push ht, s2.push ht, fun zs ez => ?_⟩
      cases ez
      exact ⟨t, _, rfl, .of upd_same, .cons (dKey_rep k0) (.one rv)⟩
    | _ => cases e1
end
end DI
set_option Elab.async false
set_option linter.all false
set_option maxRecDepth 100000
set_option maxHeartbeats 4000000
/-! DI9: the check of an expression's text, and that it suffices. -/
namespace DI
open PySem PySem.Spec PyProof.Rows L2
def Bop.same (op : Bop) (o : Operator) : Bool := match op, o with
  | .add, .Add | .sub, .Sub | .mul, .Mult | .fdiv, .FloorDiv | .mod, .Mod | .pow, .Pow => true
  | _, _ => false
theorem Bop.same_ok {op : Bop} {o : Operator} (h : op.same o = true) : o = op.ast := by
  cases op <;> cases o <;> first | rfl | cases h
def Cop.same (op : Cop) (o : CmpOp) : Bool := match op, o with
  | .eq, .Eq | .ne, .NotEq | .lt, .Lt | .le, .LtE | .gt, .Gt | .ge, .GtE | .isin, .In | .notin, .NotIn | .is, .Is | .isnot, .IsNot => true
  | _, _ => false
theorem Cop.same_ok {op : Cop} {o : CmpOp} (h : op.same o = true) : o = op.ast := by
  cases op <;> cases o <;> first | rfl | cases h
/-- the answer is a new object where it is a list or a dict -/
def freshC (T : Tb) : Ex → Bool
  | .var _ | .glob _ | .bnd _ | .bor _ | .idx .. | .fld .. | .mk .. | .meth .. | .bm .. | .xfl .. | .bst .. => false
  | .ife _ a b => freshC T a && freshC T b
  | .call f _ => T.frf f
  | .byl m .. | .byf m .. => decide (m = .srt)
  | _ => true
def ownL (N : List Str) (is : List Nat) : List (Str × Nat) := is.filterMap fun i => (N[i]?).map fun x => (x, i)
def isCmp : Ex → Bool
  | .cmp .. | .chn .. => true
  | _ => false
def fnMem (x : Str) (f : Nat) : List (Str × Nat) → Bool
  | [] => false
  | (y, g) :: r => (decide (g = f) && decide (y = x)) || fnMem x f r
theorem fnMem_ok {x : Str} {f : Nat} : ∀ {l : List (Str × Nat)}, fnMem x f l = true → (x, f) ∈ l
  | [], h => by cases h
  | (y, g) :: r, h => by
    have h : ((decide (g = f) && decide (y = x)) || fnMem x f r) = true := h
    rw [Bool.or_eq_true, Bool.and_eq_true, decide_eq_true_eq, decide_eq_true_eq] at h
    rcases h with ⟨rfl, rfl⟩ | h
    · exact List.mem_cons_self
    · exact List.mem_cons_of_mem _ (fnMem_ok h)
/-- a call of a def -/
def isCall : Expr → Ex → Bool
  | .Call _ (_ :: _) _ _, .call .. => true
  | _, _ => false
mutual
def ckE (T : Tb) : Ex → Ck → Expr → Bool
  | .var i, k, e => match e with
    | .Name x _ => varC k i x
    | _ => false
  | .cst d, k, e => match e with
    | .Constant w _ _ => cstC d w
    | _ => false
  | .glob j, k, e => match e with
    | .Name x _ => glC k.sc x && nmOk x && fnMem x j T.gl
    | _ => false
  | .tup es, k, e => match e with
    | .Tuple xs _ _ => ckEs T es k xs
    | _ => false
  | .lst es, k, e => match e with
    | .List xs _ => ckEs T es k xs
    | _ => false
  | .dnew, k, e => match e with
    | .Dict [] [] _ => true
    | _ => false
  | .bin op a b, k, e => match e with
    | .BinOp x o y _ => op.same o && ckE T a k x && ckE T b k y
    | _ => false
  | .neg a, k, e => match e with
    | .UnaryOp .USub x _ => ckE T a k x
    | _ => false
  | .cmp op a b, k, e => match e with
    | .Compare x [o] [y] _ => op.same o && plainB op y && ckE T a k x && ckE T b k y
    | _ => false
  | .chn o p a b c, k, e => match e with
    | .Compare x [o', p'] [y, z] _ => o.same o' && p.same p' && plainB p z && ckE T a k x && ckE T b k y && ckE T c k z
    | _ => false
  | .bnd es, k, e => match e with
    | .BoolOp .And (x :: xs) _ => ckEs T es k (x :: xs)
    | _ => false
  | .bor es, k, e => match e with
    | .BoolOp .Or (x :: xs) _ => ckEs T es k (x :: xs)
    | _ => false
  | .bnt a, k, e => match e with
    | .UnaryOp .Not x _ => ckE T a k x
    | _ => false
  | .ife t a b, k, e => match e with
    | .IfExp u x y _ => ckT T t k u && ckE T a k x && ckE T b k y
    | _ => false
  | .idx a i, k, e => match e with
    | .Subscript x y _ => plainI y && ckE T a k x && ckE T i k y
    | _ => false
  | .slc a lo hi, k, e => match e with
    | .Subscript x (.Slice l h none _) _ => ckE T a k x && ckP T lo k l && ckP T hi k h
    | _ => false
  | .rev a, k, e => match e with
    | .Subscript x (.Slice none none (some (.UnaryOp .USub (.Constant (.int 1) _ _) _)) _) _ => ckE T a k x
    | _ => false
  | .call f es, k, e => match e with
    | .Call (.Name x _) xs [] _ => k.calm && glC k.sc x && nmOk x && fnMem x f T.fn && ckEs T es k xs
    | _ => false
  | .bi b a, k, e => match e with
    | .Call (.Name x _) [y] [] _ => (b.suits || k.calm) && decide (x = b.nm) && glC k.sc b.nm && plainA y && ckE T a k y
    | _ => false
  | .bi2 b a c, k, e => match e with
    | .Call (.Name x _) [y, z] [] _ => k.calm && decide (x = b.nm) && glC k.sc b.nm && plainA y && plainA z && ckE T a k y && ckE T c k z
    | _ => false
  | .isi a t, k, e => match e with
    | .Call (.Name x _) [y, .Name z _] [] _ => decide (x = "isinstance") && decide (z = t.nm) && glC k.sc "isinstance" && glC k.sc t.nm && plainA y && ckE T a k y
    | _ => false
  | .bm m a es, k, e => match e with
    | .Call (.Attribute x n apos) xs [] pos => decide (n = m.nm) && plainO x && (apos.endLine == pos.line) && decide (xs.length < 29) && (m.ch || (match m, xs with
        | .idx, _ :: _ | .get, _ :: _ => true
        | _, _ => false)) && ckE T a k x && ckEs T es k xs
    | _ => false
  | .isx i j, k, e => match e with
    | .Call (.Name x _) [.Name n _, .Name y _] [] _ => decide (x = "isinstance") && varC k i n && glC k.sc "isinstance" && glC k.sc y && nmOk y && fnMem y j T.xc
    | _ => false
  | .isv i, k, e => match e with
    | .Call (.Name x _) [.Name n _, .Name y _] [] _ => decide (x = "isinstance") && decide (y = "ValueError") && varC k i n && glC k.sc "isinstance" && glC k.sc "ValueError"
    | _ => false
  | .fst es, k, e => match e with
    | .JoinedStr (x :: y :: xs) _ => ckFs T es k (x :: y :: xs)
    | _ => false
  | .xfl i f, k, e => match e with
    | .Attribute (.Name n _) f' _ => decide (f' = f) && varC k i n && decide (f ∈ fldN)
    | _ => false
  | .lc e p it, k, x => match x with
    | .ListComp y [⟨tg, iter, [], 0⟩] scope _ => k.calm && blkC k.N k.sc scope (ownL k.N p.slots) && decide ((ownL k.N p.slots).map (·.2) = p.slots) && patC (k.blk scope) p tg && plainS iter && ckI T it k p tg iter && ckE T e (k.blk scope) y
    | _ => false
  | .lcf e p it c, k, x => match x with
    | .ListComp y [⟨tg, iter, [t], 0⟩] scope _ => k.calm && blkC k.N k.sc scope (ownL k.N p.slots) && decide ((ownL k.N p.slots).map (·.2) = p.slots) && patC (k.blk scope) p tg && plainS iter && ckI T it k p tg iter && ckT T c (k.blk scope) t && ckE T e (k.blk scope) y
    | _ => false
  | .dcp a b p it, k, x => match x with
    | .DictComp y z [⟨tg, iter, [], 0⟩] scope _ => k.calm && blkC k.N k.sc scope (ownL k.N p.slots) && decide ((ownL k.N p.slots).map (·.2) = p.slots) && patC (k.blk scope) p tg && plainS iter && ckI T it k p tg iter && ckE T a (k.blk scope) y && ckE T b (k.blk scope) z
    | _ => false
  | .srs a, k, e => match e with
    | .Call (.Name x _) [.Call (.Name y _) [z] [] _] [] _ => k.calm && decide (x = "sorted") && decide (y = "set") && glC k.sc "sorted" && glC k.sc "set" && plainA z && ckE T a k z
    | _ => false
  | .srk a, k, e => match e with
    | .Call (.Name x _) [z] [⟨some kw, .Lambda ⟨[], [⟨y, none, _⟩], none, [], [], none, []⟩ (.Subscript (.Name y2 _) (.Constant (.int i) _ _) _) sc _, _⟩] _ =>
      k.calm && decide (x = "sorted") && decide (kw = "key") && decide (y2 = y) && decide (i = 0) && glC k.sc "sorted" && plainA z && decide (k.inn = some true) && klS sc y && nmOk y && ckE T a k z
    | _ => false
  | .byl m a js b, k, e => match e with
    | .Call (.Name x _) [z] [⟨some kw, .Lambda ⟨[], [⟨y, none, _⟩], none, [], [], none, []⟩ body sc _, _⟩] _ =>
      k.calm && decide (m = .srt) && decide (x = m.nm) && decide (kw = "key") && glC k.sc m.nm && plainA z && decide (k.inn = some true) && lamC k sc y js && ckE T a k z && ckE T b (lamK sc y) body
    | _ => false
  | .bst mx a js b, k, e => match e with
    | .Call (.Name x _) [z] [⟨some kw, .Lambda ⟨[], [⟨y, none, _⟩], none, [], [], none, []⟩ body sc _, _⟩] _ =>
      k.calm && decide (x = bstN mx) && decide (kw = "key") && glC k.sc (bstN mx) && plainA z && decide (k.inn = some true) && lamC k sc y js && ckE T a k z && ckE T b (lamK sc y) body
    | _ => false
  | .lset a, k, e => match e with
    | .Call (.Name x _) [.Call (.Name y _) [z] [] _] [] _ => k.calm && decide (x = "len") && decide (y = "set") && glC k.sc "len" && glC k.sc "set" && plainA z && ckE T a k z
    | _ => false
  | .dct ks vs, k, e => match e with
    | .Dict (x :: xs) es _ => decide (xs.length < 15) && ckDs T vs ks k (x :: xs) es
    | _ => false
  | .byf m a f, k, e => match e with
    | .Call (.Name x _) [z] [⟨some kw, .Name fx _, _⟩] _ =>
      k.calm && decide (m = .srt) && decide (x = m.nm) && decide (kw = "key") && glC k.sc m.nm && plainA z && glC k.sc fx && nmOk fx && fnMem fx f T.fn && !T.frf f && ckE T a k z
    | _ => false
  | .sidx z a, k, x => match x with
    | .Call (.Attribute (.Constant (.str z') _ _) n apos) [y] [] pos => k.calm && decide (z' = z) && decide (n = "index") && (apos.endLine == pos.line) && plainA y && ckE T a k y
    | _ => false
  | .anyg e (.nm i) (.of a), k, x => match x with
    | .Call (.Name n _) [.GeneratorExp elt [⟨.Name y _, iter, [], 0⟩] sc _] [] _ => k.calm && decide (n = "any") && glC k.sc "any" && decide (k.inn = some false) && gsC k sc y && decide (k.N[i]? = some y) && plainG iter && ckE T a k iter && ckQ T sc [(y, i)] e k elt
    | _ => false
  | .allg e (.nm i) (.of a), k, x => match x with
    | .Call (.Name n _) [.GeneratorExp elt [⟨.Name y _, iter, [], 0⟩] sc _] [] _ => k.calm && decide (n = "all") && glC k.sc "all" && decide (k.inn = some false) && gsC k sc y && decide (k.N[i]? = some y) && plainG iter && ckE T a k iter && ckQ T sc [(y, i)] e k elt
    | _ => false
  | _, _, _ => false
def ckFs (T : Tb) : Exs → Ck → List Expr → Bool
  | .nil, _, xs => xs.isEmpty
  | .cons a r, k, xs => match xs with
    | .Constant (.str y) _ _ :: ys => (match a with
      | .cst (.str z) => decide (z = y)
      | _ => false) && ckFs T r k ys
    | .FormattedValue e c none _ :: ys => decide (c = -1) && ckE T a k e && ckFs T r k ys
    | _ => false
def ckDs (T : Tb) : Exs → List Str → Ck → List (Option Expr) → List Expr → Bool
  | .nil, ks, _, xs, es => ks.isEmpty && xs.isEmpty && es.isEmpty
  | .cons a r, ks, k, xs, es => match ks, xs, es with
    | x :: ks, some (.Constant (.str y) _ _) :: xs, e :: es => decide (x = y) && ckE T a k e && ckDs T r ks k xs es
    | _, _, _ => false
def ckEs (T : Tb) : Exs → Ck → List Expr → Bool
  | .nil, _, xs => xs.isEmpty
  | .cons a r, k, xs => match xs with
    | x :: xs => plainA x && ckE T a k x && ckEs T r k xs
    | [] => false
def ckP (T : Tb) : Exs → Ck → Option Expr → Bool
  | .nil, _, o => o.isNone
  | .cons a r, k, o => match r, o with
    | .nil, some x => ckE T a k x
    | _, _ => false
def ckT (T : Tb) : Tx → Ck → Expr → Bool
  | .val e, k, x => (plainT x || isCmp e) && ckE T e k x
  | .and ts, k, x => match x with
    | .BoolOp .And (x :: xs) _ => ckTs T ts k (x :: xs)
    | _ => false
  | .or ts, k, x => match x with
    | .BoolOp .Or (x :: xs) _ => ckTs T ts k (x :: xs)
    | _ => false
  | .not a, k, x => match x with
    | .UnaryOp .Not y _ => ckT T a k y
    | _ => false
def ckTs (T : Tb) : Txs → Ck → List Expr → Bool
  | .nil, _, xs => xs.isEmpty
  | .cons a r, k, xs => match xs with
    | x :: xs => ckT T a k x && ckTs T r k xs
    | [] => false
def ckI (T : Tb) : Itx → Ck → Pat → Expr → Expr → Bool
  | .of e, k, _, _, x => ckE T e k x
  | .rng es, k, _, _, x => match x with
    | .Call (.Name n _) xs [] _ => decide (n = "range") && glC k.sc "range" && decide (0 < xs.length) && decide (xs.length < 4) && ckEs T es k xs
    | _ => false
  | .enm e, k, p, tg, x => match p, tg, x with
    | .tp _, .Tuple _ _ _, .Call (.Name n _) [y] [] _ => decide (n = "enumerate") && glC k.sc "enumerate" && plainA y && ckE T e k y
    | _, _, _ => false
  | .rrg e, k, _, _, x => match x with
    | .Call (.Name n _) [.Call (.Name m _) [y] [] _] [] _ => decide (n = "reversed") && decide (m = "range") && glC k.sc "range" && glC k.sc "reversed" && plainA y && ckE T e k y
    | _ => false
  | .itm e, k, p, tg, x => match p, tg, x with
    | .tp _, .Tuple _ _ _, .Call (.Attribute y n ap) [] [] cp => decide (n = "items") && (ap.endLine == cp.line) && isCall y e && freshC T e && ckE T e k y
    | _, _, _ => false
  | _, _, _, _, _ => false
end
theorem plains_of (T : Tb) : ∀ {es : Exs} {k : Ck} {xs : List Expr}, ckEs T es k xs = true → xs.all plainA = true
  | .nil, k, xs, h => by
    unfold ckEs at h
    cases xs with
    | nil => rfl
    | cons _ _ => cases h
  | .cons a r, k, xs, h => by
    cases xs with
    | nil => rfl
    | cons x xs =>
      unfold ckEs at h
      simp only [Bool.and_eq_true] at h
      simp only [List.all_cons, Bool.and_eq_true]
      exact ⟨h.1.1, plains_of T h.2⟩
theorem look_of {C : Ct} {k : Ck} {X : Cx} {e : Expr} {ce : Ex} (c : Cok C k X) (h : ckE C.T ce k e = true) (ih : PE X e (tE C (freshC C.T ce) ce)) : PE X e (tB C ce) := by
  cases ce with
  | var i =>
    unfold ckE at h
    split at h
    · exact r_varB c h
    · cases h
  | _ => exact ih.lookD (by intro i q; cases q)
theorem walk_of {C : Ct} {k : Ck} {X : Cx} {e : Expr} {ce : Ex} (c : Cok C k X) (h : ckE C.T ce k e = true) (ih : PE X e (tE C (freshC C.T ce) ce)) : PE X e (tW C ce) := by
  cases ce with
  | var i =>
    unfold ckE at h
    split at h
    · exact w_var c h
    · cases h
  | _ => exact w_of ih.weakD (by intro i q; cases q)
theorem same_fr {X : Cx} {C : Ct} {e : Expr} {c : Ex} {f : Bool} (h : PE X e (tE C f c)) {g : Bool} (q : g = true → f = true) : PE X e (tE C g c) := by
  cases g with
  | false => exact h.weakD
  | true => rw [← q rfl]; exact h
mutual
theorem ckE_ok : ∀ (ce : Ex) {C : Ct} {k : Ck} {X : Cx} {e : Expr}, Cok C k X → Gok C → ckE C.T ce k e = true → PE X e (tE C (freshC C.T ce) ce)
  | .var i, C, k, X, e, c, g, h => by
    unfold ckE at h
    split at h
    · exact r_var c h
    · cases h
  | .cst d, C, k, X, e, c, g, h => by
    unfold ckE at h
    split at h
    · exact r_cst h
    · cases h
  | .tup es, C, k, X, e, c, g, h => by
    unfold ckE at h
    split at h
    · exact r_tup (ckEs_ok es c g h)
    · cases h
  | .lst es, C, k, X, e, c, g, h => by
    unfold ckE at h
    split at h
    · exact r_lst (ckEs_ok es c g h)
    · cases h
  | .dnew, C, k, X, e, c, g, h => by
    unfold ckE at h
    split at h
    · exact r_dnew
    · cases h
  | .bin op a b, C, k, X, e, c, g, h => by
    unfold ckE at h
    split at h
    · simp only [Bool.and_eq_true] at h
      obtain ⟨⟨h1, h2⟩, h3⟩ := h
      rw [Bop.same_ok h1]
      exact r_bin c (look_of c h2 (ckE_ok a c g h2)) (look_of c h3 (ckE_ok b c g h3))
    · cases h
  | .neg a, C, k, X, e, c, g, h => by
    unfold ckE at h
    split at h
    · exact r_neg c (ckE_ok a c g h).weakD
    · cases h
  | .cmp op a b, C, k, X, e, c, g, h => by
    unfold ckE at h
    split at h
    · simp only [Bool.and_eq_true] at h
      obtain ⟨⟨⟨h1, h2⟩, h3⟩, h4⟩ := h
      rw [Cop.same_ok h1]
      exact r_cmp c h2 (look_of c h3 (ckE_ok a c g h3)) (look_of c h4 (ckE_ok b c g h4))
    · cases h
  | .chn o p a b d, C, k, X, e, c, g, h => by
    unfold ckE at h
    split at h
    · simp only [Bool.and_eq_true] at h
      obtain ⟨⟨⟨⟨⟨h1, h2⟩, h3⟩, h4⟩, h5⟩, h6⟩ := h
      rw [Cop.same_ok h1, Cop.same_ok h2]
      exact r_chn c h3 (ckE_ok a c g h4).weakD (ckE_ok b c g h5).weakD (ckE_ok d c g h6).weakD
    · cases h
  | .bnd es, C, k, X, e, c, g, h => by
    unfold ckE at h
    split at h
    · exact r_bnd (ckAnd_ok es c g h)
    · cases h
  | .bor es, C, k, X, e, c, g, h => by
    unfold ckE at h
    split at h
    · exact r_bor (ckOr_ok es c g h)
    · cases h
  | .bnt a, C, k, X, e, c, g, h => by
    unfold ckE at h
    split at h
    · exact r_bnt (ckE_ok a c g h).weakD
    · cases h
  | .ife t a b, C, k, X, e, c, g, h => by
    unfold ckE at h
    split at h
    · simp only [Bool.and_eq_true] at h
      obtain ⟨⟨h1, h2⟩, h3⟩ := h
      exact r_ife (ckT_ok t c g h1) (same_fr (ckE_ok a c g h2) fun q => by unfold freshC at q; rw [Bool.and_eq_true] at q; exact q.1) (same_fr (ckE_ok b c g h3) fun q => by unfold freshC at q; rw [Bool.and_eq_true] at q; exact q.2)
    · cases h
  | .idx a i, C, k, X, e, c, g, h => by
    unfold ckE at h
    split at h
    · simp only [Bool.and_eq_true] at h
      obtain ⟨⟨h1, h2⟩, h3⟩ := h
      exact r_idx c h1 (look_of c h2 (ckE_ok a c g h2)) (ckE_ok i c g h3).weakD
    · cases h
  | .slc a lo hi, C, k, X, e, c, g, h => by
    unfold ckE at h
    split at h
    · simp only [Bool.and_eq_true] at h
      obtain ⟨⟨h1, h2⟩, h3⟩ := h
      exact r_slc c (look_of c h1 (ckE_ok a c g h1)) (ckP_ok lo c g h2) (ckP_ok hi c g h3)
    · cases h
  | .rev a, C, k, X, e, c, g, h => by
    unfold ckE at h
    split at h
    · exact r_rev c (look_of c h (ckE_ok a c g h))
    · cases h
  | .call f es, C, k, X, e, c, g, h => by
    unfold ckE at h
    split at h
    · rename_i x p xs pos
      simp only [Bool.and_eq_true] at h
      obtain ⟨⟨⟨⟨hk, h1⟩, h2⟩, h3⟩, h4⟩ := h
      cases xs with
      | nil =>
        cases es with
        | nil => exact r_call0 c hk g h1 h2 (fnMem_ok h3)
        | cons _ _ => unfold ckEs at h4; cases h4
      | cons x xs => exact r_call c hk g h1 h2 (fnMem_ok h3) (plains_of C.T h4) (ckEs_ok es c g h4)
    · cases h
  | .bi b a, C, k, X, e, c, g, h => by
    unfold ckE at h
    split at h
    · simp only [Bool.and_eq_true, decide_eq_true_eq] at h
      obtain ⟨⟨⟨⟨hk, rfl⟩, h2⟩, h3⟩, h4⟩ := h
      exact r_bi c (fun z => by rw [z, Bool.false_or] at hk; exact hk) g h2 h3 (look_of c h4 (ckE_ok a c g h4))
    · cases h
  | .bi2 b a d, C, k, X, e, c, g, h => by
    unfold ckE at h
    split at h
    · simp only [Bool.and_eq_true, decide_eq_true_eq] at h
      obtain ⟨⟨⟨⟨⟨⟨hk, rfl⟩, h2⟩, h3⟩, h4⟩, h5⟩, h6⟩ := h
      exact r_bi2 c hk g h2 h3 h4 (ckE_ok a c g h5).weakD (ckE_ok d c g h6).weakD
    · cases h
  | .isi a t, C, k, X, e, c, g, h => by
    unfold ckE at h
    split at h
    · simp only [Bool.and_eq_true, decide_eq_true_eq] at h
      obtain ⟨⟨⟨⟨⟨rfl, rfl⟩, h3⟩, h4⟩, h5⟩, h6⟩ := h
      exact r_isi c g h3 h4 h5 (look_of c h6 (ckE_ok a c g h6))
    · cases h
  | .bm m a es, C, k, X, e, c, g, h => by
    unfold ckE at h
    split at h
    · rename_i x n apos xs pos
      simp only [Bool.and_eq_true, decide_eq_true_eq, Bool.or_eq_true] at h
      obtain ⟨⟨⟨⟨⟨⟨rfl, h2⟩, h3⟩, h4⟩, h5⟩, h6⟩, h7⟩ := h
      have ho := look_of c h6 (ckE_ok a c g h6)
      cases xs with
      | nil =>
        cases es with
        | nil =>
          rcases h5 with h5 | h5
          · exact r_chM0 c h5 h2 h3 ho
          · cases m <;> cases h5
        | cons _ _ => unfold ckEs at h7; cases h7
      | cons y ys =>
        have hp := plains_of C.T h7
        have hs := ckEs_ok es c g h7
        by_cases hm : m.ch = true
        · exact r_chM c hm h2 h3 hp h4 ho hs
        · rcases h5 with h5 | h5
          · exact absurd h5 hm
          · cases m with
            | idx => exact r_idxM c h2 h3 hp h4 ho hs
            | get => exact r_getM c h2 h3 hp h4 ho hs
            | _ => cases h5
    · cases h
  | .lc e p it, C, k, X, x, c, g, h => by
    unfold ckE at h
    split at h
    · simp only [Bool.and_eq_true, decide_eq_true_eq] at h
      obtain ⟨⟨⟨⟨⟨⟨hk, h1⟩, h2⟩, h3⟩, h4⟩, h5⟩, h6⟩ := h
      exact r_lc c hk h1 h2 (ckI_ok it c g h5) h3 h4 fun Xb cb => (ckE_ok e cb g.nox h6).weakD
    · cases h
  | .lcf e p it t, C, k, X, x, c, g, h => by
    unfold ckE at h
    split at h
    · simp only [Bool.and_eq_true, decide_eq_true_eq] at h
      obtain ⟨⟨⟨⟨⟨⟨⟨hk, h1⟩, h2⟩, h3⟩, h4⟩, h5⟩, h6⟩, h7⟩ := h
      exact r_lcf c hk h1 h2 (ckI_ok it c g h5) h3 h4 (fun Xb cb => ckT_ok t cb g.nox h6) fun Xb cb => (ckE_ok e cb g.nox h7).weakD
    · cases h
  | .dcp a b p it, C, k, X, x, c, g, h => by
    unfold ckE at h
    split at h
    · simp only [Bool.and_eq_true, decide_eq_true_eq] at h
      obtain ⟨⟨⟨⟨⟨⟨⟨hk, h1⟩, h2⟩, h3⟩, h4⟩, h5⟩, h6⟩, h7⟩ := h
      exact r_dcp c hk h1 h2 (ckI_ok it c g h5) h3 h4 (fun Xb cb => (ckE_ok a cb g.nox h6).weakD) fun Xb cb => (ckE_ok b cb g.nox h7).weakD
    · cases h
  | .srs a, C, k, X, e, c, g, h => by
    unfold ckE at h
    split at h
    · simp only [Bool.and_eq_true, decide_eq_true_eq] at h
      obtain ⟨⟨⟨⟨⟨⟨hk, rfl⟩, rfl⟩, h3⟩, h4⟩, h5⟩, h6⟩ := h
      exact r_srs c hk g h3 h4 h5 (ckE_ok a c g h6).weakD
    · cases h
  | .srk a, C, k, X, e, c, g, h => by
    unfold ckE at h
    split at h
    · simp only [Bool.and_eq_true, decide_eq_true_eq] at h
      obtain ⟨⟨⟨⟨⟨⟨⟨⟨⟨⟨hk, rfl⟩, rfl⟩, rfl⟩, rfl⟩, h1⟩, h2⟩, h3⟩, h4⟩, h5⟩, h6⟩ := h
      exact r_srk c hk g h1 h2 h3 h4 h5 (look_of c h6 (ckE_ok a c g h6))
    · cases h
  | .byl m a js b, C, k, X, e, c, g, h => by
    unfold ckE at h
    split at h
    · simp only [Bool.and_eq_true, decide_eq_true_eq] at h
      obtain ⟨⟨⟨⟨⟨⟨⟨⟨⟨hk, hm⟩, rfl⟩, rfl⟩, h1⟩, h2⟩, h3⟩, h4⟩, h5⟩, h6⟩ := h
      subst hm
      exact r_byl c hk g (run_srt c hk) h1 h2 h3 h4 (look_of c h5 (ckE_ok a c g h5)) fun Xb cb => (ckE_ok b cb g.nox h6).weakD
    · cases h
  | .bst mx a js b, C, k, X, e, c, g, h => by
    unfold ckE at h
    split at h
    · simp only [Bool.and_eq_true, decide_eq_true_eq] at h
      obtain ⟨⟨⟨⟨⟨⟨⟨⟨hk, rfl⟩, rfl⟩, h1⟩, h2⟩, h3⟩, h4⟩, h5⟩, h6⟩ := h
      exact r_bst c hk g h1 h2 h3 h4 (ckE_ok a c g h5).weakD fun Xb cb => (ckE_ok b cb g.nox h6).weakD
    · cases h
  | .lset a, C, k, X, e, c, g, h => by
    unfold ckE at h
    split at h
    · simp only [Bool.and_eq_true, decide_eq_true_eq] at h
      obtain ⟨⟨⟨⟨⟨⟨hk, rfl⟩, rfl⟩, h3⟩, h4⟩, h5⟩, h6⟩ := h
      exact r_lset c hk g h3 h4 h5 (look_of c h6 (ckE_ok a c g h6))
    · cases h
  | .dct ks vs, C, k, X, e, c, g, h => by
    unfold ckE at h
    split at h
    · rw [Bool.and_eq_true, decide_eq_true_eq] at h
      exact r_dct (ckDs_ok vs c g h.2) (by simp) (by rw [List.length_cons]; omega)
    · cases h
  | .byf m a f, C, k, X, e, c, g, h => by
    unfold ckE at h
    split at h
    · simp only [Bool.and_eq_true, decide_eq_true_eq, Bool.not_eq_true'] at h
      obtain ⟨⟨⟨⟨⟨⟨⟨⟨⟨⟨hk, hm⟩, rfl⟩, rfl⟩, h1⟩, h2⟩, h3⟩, h4⟩, h5⟩, h6⟩, h7⟩ := h
      subst hm
      exact r_byf c hk g (run_srt c hk) h1 h2 h3 h4 (fnMem_ok h5) h6 (look_of c h7 (ckE_ok a c g h7))
    · cases h
  | .glob j, C, k, X, e, c, g, h => by
    unfold ckE at h
    split at h
    · simp only [Bool.and_eq_true] at h
      exact r_glob c g h.1.1 h.1.2 (fnMem_ok h.2)
    · cases h
  | .fld .., C, k, X, e, c, g, h => by unfold ckE at h; cases h
  | .mk .., C, k, X, e, c, g, h => by unfold ckE at h; cases h
  | .meth .., C, k, X, e, c, g, h => by unfold ckE at h; cases h
  | .isx i j, C, k, X, e, c, g, h => by
    unfold ckE at h
    split at h
    · simp only [Bool.and_eq_true, decide_eq_true_eq] at h
      obtain ⟨⟨⟨⟨⟨rfl, h2⟩, h3⟩, h4⟩, h5⟩, h6⟩ := h
      exact r_isx c g h2 h3 h4 h5 (fnMem_ok h6)
    · cases h
  | .isv i, C, k, X, e, c, g, h => by
    unfold ckE at h
    split at h
    · simp only [Bool.and_eq_true, decide_eq_true_eq] at h
      obtain ⟨⟨⟨⟨rfl, rfl⟩, h2⟩, h3⟩, h4⟩ := h
      exact r_isv c g h2 h3 h4
    · cases h
  | .fst es, C, k, X, e, c, g, h => by
    unfold ckE at h
    split at h
    · exact r_fst (ckFs_ok es c g h)
    · cases h
  | .xfl i f, C, k, X, e, c, g, h => by
    unfold ckE at h
    split at h
    · simp only [Bool.and_eq_true, decide_eq_true_eq] at h
      obtain ⟨⟨rfl, h2⟩, h3⟩ := h
      exact r_xfl c g h2 h3
    · cases h
  | .sidx z a, C, k, X, x, c, g, h => by
    unfold ckE at h
    split at h
    · simp only [Bool.and_eq_true, decide_eq_true_eq] at h
      obtain ⟨⟨⟨⟨⟨hk, rfl⟩, rfl⟩, h3⟩, h4⟩, h5⟩ := h
      exact r_sidx c hk h3 h4 (ckE_ok a c g h5).weakD
    · cases h
  | .anyg e (.nm i) (.of a), C, k, X, x, c, g, h => by
    unfold ckE at h
    split at h
    · simp only [Bool.and_eq_true, decide_eq_true_eq] at h
      obtain ⟨⟨⟨⟨⟨⟨⟨⟨hk, rfl⟩, h2⟩, h3⟩, h4⟩, h5⟩, h6⟩, h7⟩, h8⟩ := h
      exact r_anyg (fa := false) c hk g h2 h3 h4 h5 (walk_of c h7 (ckE_ok a c g h7)) h8 h6
    · cases h
  | .anyg _ (.tp _) _, C, k, X, x, c, g, h => by unfold ckE at h; cases h
  | .anyg _ (.nm _) (.rng _), C, k, X, x, c, g, h => by unfold ckE at h; cases h
  | .anyg _ (.nm _) (.enm _), C, k, X, x, c, g, h => by unfold ckE at h; cases h
  | .anyg _ (.nm _) (.zip _ _), C, k, X, x, c, g, h => by unfold ckE at h; cases h
  | .anyg _ (.nm _) (.rrg _), C, k, X, x, c, g, h => by unfold ckE at h; cases h
  | .anyg _ (.nm _) (.itm _), C, k, X, x, c, g, h => by unfold ckE at h; cases h
  | .allg e (.nm i) (.of a), C, k, X, x, c, g, h => by
    unfold ckE at h
    split at h
    · simp only [Bool.and_eq_true, decide_eq_true_eq] at h
      obtain ⟨⟨⟨⟨⟨⟨⟨⟨hk, rfl⟩, h2⟩, h3⟩, h4⟩, h5⟩, h6⟩, h7⟩, h8⟩ := h
      exact r_anyg (fa := true) c hk g h2 h3 h4 h5 (walk_of c h7 (ckE_ok a c g h7)) h8 h6
    · cases h
  | .allg _ (.tp _) _, C, k, X, x, c, g, h => by unfold ckE at h; cases h
  | .allg _ (.nm _) (.rng _), C, k, X, x, c, g, h => by unfold ckE at h; cases h
  | .allg _ (.nm _) (.enm _), C, k, X, x, c, g, h => by unfold ckE at h; cases h
  | .allg _ (.nm _) (.zip _ _), C, k, X, x, c, g, h => by unfold ckE at h; cases h
  | .allg _ (.nm _) (.rrg _), C, k, X, x, c, g, h => by unfold ckE at h; cases h
  | .allg _ (.nm _) (.itm _), C, k, X, x, c, g, h => by unfold ckE at h; cases h
theorem ckFs_ok : ∀ (es : Exs) {C : Ct} {k : Ck} {X : Cx} {xs : List Expr}, Cok C k X → Gok C → ckFs C.T es k xs = true → FsOk C X es xs
  | .nil, C, k, X, xs, c, g, h => by
    unfold ckFs at h
    cases xs with
    | nil => exact .nil
    | cons _ _ => cases h
  | .cons a r, C, k, X, xs, c, g, h => by
    unfold ckFs at h
    split at h
    · rename_i y _ _ ys
      rw [Bool.and_eq_true] at h
      obtain ⟨h1, h2⟩ := h
      split at h1
      · obtain rfl := of_decide_eq_true h1
        exact .txt (ckFs_ok r c g h2)
      · cases h1
    · simp only [Bool.and_eq_true, decide_eq_true_eq] at h
      obtain ⟨⟨rfl, h1⟩, h2⟩ := h
      exact .fmt (ckE_ok a c g h1).weakD (ckFs_ok r c g h2)
    · cases h
theorem ckDs_ok : ∀ (es : Exs) {ks : List Str} {C : Ct} {k : Ck} {X : Cx} {xs : List (Option Expr)} {ys : List Expr}, Cok C k X → Gok C → ckDs C.T es ks k xs ys = true → DctOk C X ks es xs ys
  | .nil, ks, C, k, X, xs, ys, c, g, h => by
    unfold ckDs at h
    rw [Bool.and_eq_true, Bool.and_eq_true, List.isEmpty_iff, List.isEmpty_iff, List.isEmpty_iff] at h
    obtain ⟨⟨rfl, rfl⟩, rfl⟩ := h
    exact .nil
  | .cons a r, ks, C, k, X, xs, ys, c, g, h => by
    unfold ckDs at h
    split at h
    · rw [Bool.and_eq_true, Bool.and_eq_true, decide_eq_true_eq] at h
      obtain ⟨⟨rfl, h1⟩, h2⟩ := h
      exact .cons (ckE_ok a c g h1).weakD (ckDs_ok r c g h2)
    · cases h
theorem ckEs_ok : ∀ (es : Exs) {C : Ct} {k : Ck} {X : Cx} {xs : List Expr}, Cok C k X → Gok C → ckEs C.T es k xs = true → PA X xs (tA C es)
  | .nil, C, k, X, xs, c, g, h => by
    unfold ckEs at h
    cases xs with
    | nil => exact r_anil
    | cons _ _ => cases h
  | .cons a r, C, k, X, xs, c, g, h => by
    cases xs with
    | nil => unfold ckEs at h; cases h
    | cons x xs =>
      unfold ckEs at h
      simp only [Bool.and_eq_true] at h
      exact r_acons h.1.1 (ckE_ok a c g h.1.2).weakD (ckEs_ok r c g h.2)
theorem ckAnd_ok : ∀ (es : Exs) {C : Ct} {k : Ck} {X : Cx} {x : Expr} {xs : List Expr} {pos : Pos}, Cok C k X → Gok C → ckEs C.T es k (x :: xs) = true → PE X (.BoolOp .And (x :: xs) pos) (tAn C es)
  | .nil, C, k, X, x, xs, pos, c, g, h => by unfold ckEs at h; cases h
  | .cons a r, C, k, X, x, xs, pos, c, g, h => by
    unfold ckEs at h
    simp only [Bool.and_eq_true] at h
    have ha := (ckE_ok a c g h.1.2).weakD
    cases xs with
    | nil =>
      cases r with
      | nil => exact r_and1 ha
      | cons _ _ => have h2 := h.2; unfold ckEs at h2; cases h2
    | cons y ys =>
      cases r with
      | nil => have h2 := h.2; unfold ckEs at h2; cases h2
      | cons b r => exact r_and2 ha (ckAnd_ok (.cons b r) c g h.2)
theorem ckOr_ok : ∀ (es : Exs) {C : Ct} {k : Ck} {X : Cx} {x : Expr} {xs : List Expr} {pos : Pos}, Cok C k X → Gok C → ckEs C.T es k (x :: xs) = true → PE X (.BoolOp .Or (x :: xs) pos) (tOn C es)
  | .nil, C, k, X, x, xs, pos, c, g, h => by unfold ckEs at h; cases h
  | .cons a r, C, k, X, x, xs, pos, c, g, h => by
    unfold ckEs at h
    simp only [Bool.and_eq_true] at h
    have ha := (ckE_ok a c g h.1.2).weakD
    cases xs with
    | nil =>
      cases r with
      | nil => exact r_or1 ha
      | cons _ _ => have h2 := h.2; unfold ckEs at h2; cases h2
    | cons y ys =>
      cases r with
      | nil => have h2 := h.2; unfold ckEs at h2; cases h2
      | cons b r => exact r_or2 ha (ckOr_ok (.cons b r) c g h.2)
theorem ckP_ok : ∀ (es : Exs) {C : Ct} {k : Ck} {X : Cx} {o : Option Expr}, Cok C k X → Gok C → ckP C.T es k o = true → PO X o (tP C es)
  | .nil, C, k, X, o, c, g, h => by
    unfold ckP at h
    cases o with
    | none => exact p_none
    | some _ => cases h
  | .cons a r, C, k, X, o, c, g, h => by
    unfold ckP at h
    cases r with
    | nil => cases o with
      | none => cases h
      | some x => exact p_some (ckE_ok a c g h).weakD
    | cons _ _ => cases h
theorem ckT_ok : ∀ (ct : Tx) {C : Ct} {k : Ck} {X : Cx} {e : Expr}, Cok C k X → Gok C → ckT C.T ct k e = true → PT X e (tT C ct)
  | .val v, C, k, X, e, c, g, h => by
    unfold ckT at h
    rw [Bool.and_eq_true, Bool.or_eq_true] at h
    obtain ⟨hp, h⟩ := h
    cases v with
    | cmp op a b =>
      unfold ckE at h
      split at h
      · simp only [Bool.and_eq_true] at h
        obtain ⟨⟨⟨h1, h2⟩, h3⟩, h4⟩ := h
        rw [Cop.same_ok h1]
        exact t_cmp c h2 (look_of c h3 (ckE_ok a c g h3)) (look_of c h4 (ckE_ok b c g h4))
      · cases h
    | chn o p a b d =>
      unfold ckE at h
      split at h
      · simp only [Bool.and_eq_true] at h
        obtain ⟨⟨⟨⟨⟨h1, h2⟩, h3⟩, h4⟩, h5⟩, h6⟩ := h
        rw [Cop.same_ok h1, Cop.same_ok h2]
        exact t_chn c h3 (ckE_ok a c g h4).weakD (ckE_ok b c g h5).weakD (ckE_ok d c g h6).weakD
      · cases h
    | _ =>
      rcases hp with hp | hp
      · exact t_val c hp (look_of c h (ckE_ok _ c g h))
      · cases hp
  | .and ts, C, k, X, e, c, g, h => by
    unfold ckT at h
    split at h
    · exact t_and (ckTA_ok ts c g h)
    · cases h
  | .or ts, C, k, X, e, c, g, h => by
    unfold ckT at h
    split at h
    · exact t_or (ckTO_ok ts c g h)
    · cases h
  | .not a, C, k, X, e, c, g, h => by
    unfold ckT at h
    split at h
    · exact t_not (ckT_ok a c g h)
    · cases h
theorem ckTA_ok : ∀ (ts : Txs) {C : Ct} {k : Ck} {X : Cx} {x : Expr} {xs : List Expr} {pos : Pos}, Cok C k X → Gok C → ckTs C.T ts k (x :: xs) = true → PW X (.BoolOp .And (x :: xs) pos) (tTA C ts)
  | .nil, C, k, X, x, xs, pos, c, g, h => by unfold ckTs at h; cases h
  | .cons a r, C, k, X, x, xs, pos, c, g, h => by
    unfold ckTs at h
    rw [Bool.and_eq_true] at h
    have ha := ckT_ok a c g h.1
    cases xs with
    | nil =>
      cases r with
      | nil => exact t_and1 ha
      | cons _ _ => have h2 := h.2; unfold ckTs at h2; cases h2
    | cons y ys =>
      cases r with
      | nil => have h2 := h.2; unfold ckTs at h2; cases h2
      | cons b r => exact t_and2 ha (ckTA_ok (.cons b r) c g h.2)
theorem ckTO_ok : ∀ (ts : Txs) {C : Ct} {k : Ck} {X : Cx} {x : Expr} {xs : List Expr} {pos : Pos}, Cok C k X → Gok C → ckTs C.T ts k (x :: xs) = true → PW X (.BoolOp .Or (x :: xs) pos) (tTO C ts)
  | .nil, C, k, X, x, xs, pos, c, g, h => by unfold ckTs at h; cases h
  | .cons a r, C, k, X, x, xs, pos, c, g, h => by
    unfold ckTs at h
    rw [Bool.and_eq_true] at h
    have ha := ckT_ok a c g h.1
    cases xs with
    | nil =>
      cases r with
      | nil => exact t_or1 ha
      | cons _ _ => have h2 := h.2; unfold ckTs at h2; cases h2
    | cons y ys =>
      cases r with
      | nil => have h2 := h.2; unfold ckTs at h2; cases h2
      | cons b r => exact t_or2 ha (ckTO_ok (.cons b r) c g h.2)
theorem ckI_ok : ∀ (it : Itx) {C : Ct} {k : Ck} {X : Cx} {p : Pat} {tg e : Expr}, Cok C k X → Gok C → ckI C.T it k p tg e = true → PI X tg e (tI C p it)
  | .of a, C, k, X, p, tg, e, c, g, h => by
    unfold ckI at h
    exact i_of c (walk_of c h (ckE_ok a c g h))
  | .rng es, C, k, X, p, tg, e, c, g, h => by
    unfold ckI at h
    split at h
    · rename_i n p0 xs pos
      simp only [Bool.and_eq_true, decide_eq_true_eq] at h
      obtain ⟨⟨⟨⟨rfl, h2⟩, h3⟩, h4⟩, h5⟩ := h
      cases es with
      | nil =>
        unfold ckEs at h5
        cases xs with
        | nil => cases h3
        | cons _ _ => cases h5
      | cons a r =>
        cases xs with
        | nil => cases h3
        | cons x xs =>
          unfold ckEs at h5
          simp only [Bool.and_eq_true] at h5
          obtain ⟨⟨p1, q1⟩, h5⟩ := h5
          have e1 := (ckE_ok a c g q1).weakD
          cases r with
          | nil =>
            unfold ckEs at h5
            cases xs with
            | nil => exact i_rng1 c g h2 p1 e1
            | cons _ _ => cases h5
          | cons b r =>
            cases xs with
            | nil => unfold ckEs at h5; cases h5
            | cons y xs =>
              unfold ckEs at h5
              simp only [Bool.and_eq_true] at h5
              obtain ⟨⟨p2, q2⟩, h5⟩ := h5
              have e2 := (ckE_ok b c g q2).weakD
              cases r with
              | nil =>
                unfold ckEs at h5
                cases xs with
                | nil => exact i_rng2 c g h2 p1 p2 e1 e2
                | cons _ _ => cases h5
              | cons d r =>
                cases xs with
                | nil => unfold ckEs at h5; cases h5
                | cons z xs =>
                  unfold ckEs at h5
                  simp only [Bool.and_eq_true] at h5
                  obtain ⟨⟨p3, q3⟩, h5⟩ := h5
                  have e3 := (ckE_ok d c g q3).weakD
                  cases r with
                  | nil =>
                    unfold ckEs at h5
                    cases xs with
                    | nil => exact i_rng3 c g h2 p1 p2 p3 e1 e2 e3
                    | cons _ _ => cases h5
                  | cons _ _ =>
                    cases xs with
                    | nil => unfold ckEs at h5; cases h5
                    | cons _ _ => simp only [List.length_cons] at h4; omega
    · cases h
  | .enm a, C, k, X, p, tg, e, c, g, h => by
    unfold ckI at h
    split at h
    · simp only [Bool.and_eq_true, decide_eq_true_eq] at h
      obtain ⟨⟨⟨rfl, h2⟩, h3⟩, h4⟩ := h
      exact i_enm c g h2 h3 (walk_of c h4 (ckE_ok a c g h4))
    · cases h
  | .rrg a, C, k, X, p, tg, e, c, g, h => by
    unfold ckI at h
    split at h
    · simp only [Bool.and_eq_true, decide_eq_true_eq] at h
      obtain ⟨⟨⟨⟨⟨rfl, rfl⟩, h3⟩, h4⟩, h5⟩, h6⟩ := h
      exact i_rrg c g h3 h4 h5 (ckE_ok a c g h6).weakD
    · cases h
  | .zip .., C, k, X, p, tg, e, c, g, h => by unfold ckI at h; cases h
  | .itm a, C, k, X, p, tg, e, c, g, h => by
    unfold ckI at h
    split at h
    · rename_i y n ap cp
      simp only [Bool.and_eq_true, decide_eq_true_eq] at h
      obtain ⟨⟨⟨⟨rfl, h2⟩, h3⟩, h4⟩, h5⟩ := h
      have e5 := ckE_ok a c g h5
      rw [h4] at e5
      cases y with
      | Call f xs kws q =>
        cases xs with
        | nil => cases h3
        | cons z zs =>
          cases a with
          | call j es => exact i_itm (by cases f <;> rfl) h2 (fun _ => rfl) e5
          | _ => cases h3
      | _ => cases h3
    · cases h
end
end DI
set_option Elab.async false
set_option linter.all false
set_option maxRecDepth 100000
set_option maxHeartbeats 4000000
/-! DI10: the rules of statements. -/
namespace DI
open PySem PySem.Spec PyProof.Rows L2
/-- what a statement's answer must serve, from a world W on -/
def SRP (C : Ct) (W : Wd) (D : Ends) : RS → Prop
  | .nx ρ S => ∀ W' H' σ', Stp C.W0 C.H0 W' H' → Wle W W' → Sim C.G W' S H' → Eok C W' H' ρ σ' → D.nx σ' H'
  | .rt d S => ∀ W' H' v, Stp C.W0 C.H0 W' H' → Sim C.G W' S H' → PostV C.G C.rf W' C.H0 H' d v → D.rt v H'
  | .er x ρ S => ∀ W' H' cls d σ', Stp C.W0 C.H0 W' H' → Wle W W' → Sim C.G W' S H' → Eok C W' H' ρ σ' → XRep C.G W' x cls d → C.wx cls d σ' H'
  | .bad => False
theorem SRP.le {C : Ct} {W W1 : Wd} {D : Ends} {r : RS} (h : SRP C W D r) (w : Wle W W1) : SRP C W1 D r := by
  cases r with
  | nx ρ S => exact fun W' H' σ' st l => h W' H' σ' st (w.trans l)
  | rt d S => exact h
  | er x ρ S => exact fun W' H' cls d σ' st l => h W' H' cls d σ' st (w.trans l)
  | bad => exact h
def tS (C : Ct) (f : Ev → Store → RS) : TS := fun D σ H => ∃ W S ρ, Stp C.W0 C.H0 W H ∧ Sim C.G W S H ∧ Eok C W H ρ σ ∧ SRP C W D (f ρ S)
theorem SRP.seq {C : Ct} {W : Wd} {D : Ends} {r : RS} {f : Ev → Store → RS} (h : SRP C W D (r.seq f)) : SRP C W { D with nx := tS C f D } r := by
  cases r with
  | nx ρ S => exact fun W' H' σ' st l s e => ⟨W', S, ρ, st, s, e, SRP.le h l⟩
  | rt d S => exact h
  | er x ρ S => exact h
  | bad => exact h
theorem SRP.opt {C : Ct} {W : Wd} {D : Ends} {α : Type} {o : Option α} {f : α → RS} (h : SRP C W D (RS.opt o f)) : ∃ a, o = some a ∧ SRP C W D (f a) := by
  cases o with
  | none => exact False.elim h
  | some a => exact ⟨a, rfl, h⟩
section
variable {C : Ct} {α β : Type} {r : Ev → Store → R α} {Pv : Wd → Hp → Hp → α → β → Prop} {W : Wd} {S : Store} {ρ : Ev} {σ : L2.St} {H : Hp} {D : Ends}
theorem tG.of {f : α → Store → RS} {K : β → Hp → Prop} (st0 : Stp C.W0 C.H0 W H) (sim : Sim C.G W S H) (eok : Eok C W H ρ σ) (h : SRP C W D (RS.of ρ (r ρ S) f))
    (k : ∀ W1 S1 H1 a v, Stp W H W1 H1 → Stp C.W0 C.H0 W1 H1 → Sim C.G W1 S1 H1 → Eok C W1 H1 ρ σ → Pv W1 H H1 a v → SRP C W1 D (f a S1) → K v H1) : tG C r Pv σ H K := by
  refine ⟨W, S, ρ, sim, eok, ?_⟩
  cases e : r ρ S with
  | ok a S1 =>
    rw [e] at h
    exact fun W1 H1 v st s pv => k W1 S1 H1 a v st (st0.trans st) s (eok.mv st) pv (SRP.le h st.le)
  | err x S1 =>
    rw [e] at h
    exact fun W' H' cls d st s xr => h W' H' cls d σ (st0.trans st) st.le s (eok.mv st) xr
  | bad => rw [e] at h; exact h
theorem tW.of {ce : Ex} {f : DI.D → Store → RS} {K : V → Hp → Prop} (st0 : Stp C.W0 C.H0 W H) (sim : Sim C.G W S H) (eok : Eok C W H ρ σ) (h : SRP C W D (RS.of ρ (bw ce ρ S (ev C.cl ce ρ S)) f))
    (k : ∀ W1 S1 H1 a v, Stp W H W1 H1 → Stp C.W0 C.H0 W1 H1 → Sim C.G W1 S1 H1 → Eok C W1 H1 ρ σ → WRep C σ ρ ce W1 H1 a v → SRP C W1 D (f a S1) → K v H1) : tW C ce σ H K := by
  refine ⟨W, S, ρ, sim, eok, ?_⟩
  cases e : bw ce ρ S (ev C.cl ce ρ S) with
  | ok a S1 =>
    rw [e] at h
    exact fun W1 H1 v st s pv => k W1 S1 H1 a v st (st0.trans st) s (eok.mv st) pv (SRP.le h st.le)
  | err x S1 =>
    rw [e] at h
    exact fun W' H' cls d st s xr => h W' H' cls d σ (st0.trans st) st.le s (eok.mv st) xr
  | bad => rw [e] at h; exact h
end
theorem _root_.L2.PS.imp {X : Cx} {e : Stmt} {t t' : TS} (h : PS X e t) (w : ∀ D σ H, t' D σ H → t D σ H) : PS X e t' := ⟨fun pins s σ H D I q => h.run pins s σ H D I (w D σ H q)⟩
theorem _root_.L2.PSs.imp {X : Cx} {e : List Stmt} {t t' : TS} (h : PSs X e t) (w : ∀ D σ H, t' D σ H → t D σ H) : PSs X e t' := ⟨fun pins s σ H D I q => h.run pins s σ H D I (w D σ H q)⟩
/-! ### own objects -/
section
variable {C : Ct} {W : Wd} {H : Hp} {ρ : Ev} {σ : L2.St}
/-- a slot gets a new object of its own -/
theorem Eok.setOwn {i : Nat} {o : Ob} {p : Addr} (e : Eok C W H ρ σ) (hi : i < ρ.length) (l : Lone C.G W H p o) (h0 : C.H0 p = none) (ho : obOf o.toD = some o) (nw : ∀ (j : Nat) (o' : Ob), ρ[j]? = some (.own o') → σ[j]? ≠ some (some (.ref p))) :
    Eok C W H (ρ.set i (.own o)) (σ.set i (some (.ref p))) where
  len := by simpa using e.len
  val := fun j z q => by
    rcases set_get q with ⟨rfl, z⟩ | ⟨n, q⟩
    · cases z
    · rw [List.getElem?_set_ne n]; exact e.val j z q
  own := fun j o' q => by
    rcases set_get q with ⟨rfl, z⟩ | ⟨n, q⟩
    · cases z
      exact ⟨p, by rw [List.getElem?_set_self (by rw [← e.len]; exact hi)], l.1, l.2.1, l.2.2, h0, ho⟩
    · rw [List.getElem?_set_ne n]; exact e.own j o' q
  dis := fun j m o1 o2 p' q1 q2 q3 q4 => by
    rcases set_get q1 with ⟨rfl, z⟩ | ⟨n1, q1⟩
    · rcases set_get q2 with ⟨rfl, z2⟩ | ⟨n2, q2⟩
      · rfl
      · rw [List.getElem?_set_self (by rw [← e.len]; exact hi)] at q3
        cases q3
        rw [List.getElem?_set_ne n2] at q4
        exact absurd q4 (nw m o2 q2)
    · rcases set_get q2 with ⟨rfl, z2⟩ | ⟨n2, q2⟩
      · rw [List.getElem?_set_self (by rw [← e.len]; exact hi)] at q4
        cases q4
        rw [List.getElem?_set_ne n1] at q3
        exact absurd q3 (nw j o1 q1)
      · rw [List.getElem?_set_ne n1] at q3
        rw [List.getElem?_set_ne n2] at q4
        exact e.dis j m o1 o2 p' q1 q2 q3 q4
  exc := fun j x q => by
    rcases set_get q with ⟨rfl, z⟩ | ⟨n, q⟩
    · cases z
    · rw [List.getElem?_set_ne n]; exact e.exc j x q
/-- an own object is changed -/
theorem Eok.chOwn {j : Nat} {o o' : Ob} {p : Addr} {u : HO} (e : Eok C W H ρ σ) (h1 : ρ[j]? = some (.own o)) (h2 : σ[j]? = some (some (.ref p))) (at_ : ObAt C.G W (upd H p u) p o') (ho : obOf o'.toD = some o') : Eok C W (upd H p u) (ρ.set j (.own o')) σ where
  len := by simpa using e.len
  val := fun i z q => by
    rcases set_get q with ⟨rfl, z⟩ | ⟨n, q⟩
    · cases z
    · exact e.val i z q
  own := fun i o2 q => by
    obtain ⟨p', a, b, f, d, h0, _⟩ := e.own j o h1
    rw [h2] at a
    cases a
    rcases set_get q with ⟨rfl, z⟩ | ⟨n, q⟩
    · cases z
      exact ⟨p, h2, at_, f, d, h0, ho⟩
    · obtain ⟨p2, a2, b2, r2⟩ := e.own i o2 q
      refine ⟨p2, a2, b2.mv fun x hx _ => ?_, r2⟩
      rw [upd_ne fun z => n (e.dis i j o2 o p2 q h1 a2 (by rw [z]; exact h2)).symm]
      exact hx
  dis := fun i m o1 o2 p' q1 q2 q3 q4 => by
    rcases set_get q1 with ⟨rfl, z⟩ | ⟨n1, q1⟩
    · rcases set_get q2 with ⟨rfl, z2⟩ | ⟨n2, q2⟩
      · rfl
      · exact e.dis _ m o o2 p' h1 q2 q3 q4
    · rcases set_get q2 with ⟨rfl, z2⟩ | ⟨n2, q2⟩
      · exact e.dis i _ o1 o p' q1 h1 q3 q4
      · exact e.dis i m o1 o2 p' q1 q2 q3 q4
  exc := fun i x q => by
    rcases set_get q with ⟨rfl, z⟩ | ⟨n, q⟩
    · cases z
    · exact e.exc i x q
/-- an own object is frozen -/
theorem Eok.frz {j : Nat} {o : Ob} {p : Addr} {u : HO} (e : Eok C W H ρ σ) (h1 : ρ[j]? = some (.own o)) (h2 : σ[j]? = some (some (.ref p))) (hF : W.F p = none) (r : Rep C.G (W.fz p u) o.toD (.ref p)) : Eok C (W.fz p u) H (ρ.set j (.val o.toD)) σ where
  len := by simpa using e.len
  val := fun i z q => by
    rcases set_get q with ⟨rfl, z⟩ | ⟨n, q⟩
    · cases z; exact ⟨_, h2, r⟩
    · obtain ⟨v, a, b⟩ := e.val i z q
      exact ⟨v, a, b.le (.fz hF)⟩
  own := fun i o2 q => by
    rcases set_get q with ⟨rfl, z⟩ | ⟨n, q⟩
    · cases z
    · obtain ⟨p2, a2, b2, f2, r2⟩ := e.own i o2 q
      refine ⟨p2, a2, b2.le (.fz hF), ?_, r2⟩
      show upd W.F p u p2 = none
      rw [upd_ne fun z => n (e.dis i j o2 o p2 q h1 a2 (by rw [z]; exact h2)).symm]
      exact f2
  dis := fun i m o1 o2 p' q1 q2 q3 q4 => by
    rcases set_get q1 with ⟨rfl, z⟩ | ⟨n1, q1⟩
    · cases z
    · rcases set_get q2 with ⟨rfl, z2⟩ | ⟨n2, q2⟩
      · cases z2
      · exact e.dis i m o1 o2 p' q1 q2 q3 q4
  exc := fun i x q => by
    rcases set_get q with ⟨rfl, z⟩ | ⟨n, q⟩
    · cases z
    · obtain ⟨a, cls, d, e1, e2, e3⟩ := e.exc i x q
      exact ⟨a, cls, d, e1, e2, e3.le (.fz hF)⟩
theorem ownAt_some {j : Nat} {o : Ob} (h : ownAt ρ j = some o) : ρ[j]? = some (.own o) := by
  unfold ownAt at h
  split at h
  · rename_i e; cases h; exact e
  · cases h
theorem obOf_ins {d : D} {c : Nat} {fs : List (Str × D)} (h : obOf d = some (.ins c fs)) : False := by
  cases d with
  | dic ks vs =>
    have h : (if ks.length = vs.length then some (Ob.dic (ks.zip vs)) else none) = _ := h
    split at h
    · cases h
    · cases h
  | _ => cases h
theorem obOf_back {d : D} {o : Ob} (h : obOf d = some o) : obOf o.toD = some o := by
  cases o with
  | lst xs => rfl
  | dic kvs => exact obOf_toD_dic kvs
  | ins c fs => exact (obOf_ins h).elim
theorem obOf_toD {d : D} {o : Ob} (h : obOf d = some o) : o.toD = d := by
  cases d with
  | lst xs => cases h; rfl
  | dic ks vs =>
    have h : (if ks.length = vs.length then some (Ob.dic (ks.zip vs)) else none) = some o := h
    split at h
    · rename_i l
      cases h
      show D.dic _ _ = _
      rw [List.map_fst_zip (Nat.le_of_eq l), List.map_snd_zip (Nat.le_of_eq l.symm)]
    · cases h
  | _ => cases h
end
/-! ### blocks -/
section
variable {C : Ct} {k : Ck} {X : Cx} {st : Stmt} {sts : List Stmt} {s : Sm} {r : Bl}
theorem s_nil : PSs X [] (tS C (exB C.cl .nil)) := pss_nil.imp fun D σ H ⟨W, S, ρ, st0, sim, eok, q⟩ => by
  unfold exB at q
  exact q W H σ st0 (.refl _) sim eok
theorem s_cons (h : PS X st (tS C (exS C.cl s))) (hr : PSs X sts (tS C (exB C.cl r))) : PSs X (st :: sts) (tS C (exB C.cl (.cons s r))) :=
  (pss_cons h hr).imp fun D σ H ⟨W, S, ρ, st0, sim, eok, q⟩ => by
    unfold exB at q
    exact ⟨W, S, ρ, st0, sim, eok, q.seq⟩
theorem s_kil {is : List Nat} (hr : PSs X sts (tS C (exB C.cl r))) : PSs X sts (tS C (exB C.cl (.cons (.kil is) r))) :=
  hr.imp fun D σ H ⟨W, S, ρ, st0, sim, eok, q⟩ => by
    unfold exB exS at q
    exact ⟨W, S, kill is ρ, st0, sim, eok.kill is rfl fun _ _ => rfl, q⟩
theorem s_frz {i : Nat} (hr : PSs X sts (tS C (exB C.cl r))) : PSs X sts (tS C (exB C.cl (.cons (.frz i) r))) :=
  hr.imp fun D σ H ⟨W, S, ρ, st0, sim, eok, q⟩ => by
    unfold exB exS at q
    cases e : ownAt ρ i with
    | none =>
      rw [e] at q
      exact ⟨W, S, ρ, st0, sim, eok, q⟩
    | some o =>
      rw [e] at q
      have e := ownAt_some e
      obtain ⟨p, a, b, f, d, h0, ho⟩ := eok.own i o e
      obtain ⟨p', u, ep, hu, st1, s1, r1⟩ := Fresh.fz (W := C.W0) (H := C.H0) ⟨p, o, rfl, ho, b, f, d, h0⟩ st0 sim
      cases ep
      exact ⟨_, S, _, st1, s1, eok.frz e a f r1, SRP.le q (.fz f)⟩
/-! ### plain statements -/
variable {a b e v : Expr} {ca cb ce : Ex} {es : List Expr} {cs : Exs} {pos : Pos}
theorem s_if {t : Expr} {ct : Tx} {x y : List Stmt} {bx by' : Bl} (ht : PT X t (tT C ct)) (hx : PSs X x (tS C (exB C.cl bx))) (hy : PSs X y (tS C (exB C.cl by'))) : PS X (.If t x y pos) (tS C (exS C.cl (.ifs ct bx by'))) :=
  (ps_if ht hx hy).imp fun D σ H ⟨W, S, ρ, st0, sim, eok, q⟩ => by
    unfold exS at q
    unfold tIfS
    refine tG.of st0 sim eok q fun W1 S1 H1 z w st st1 sim1 eok1 pv q1 => ?_
    subst pv
    cases z with
    | true => exact ⟨W1, S1, ρ, st1, sim1, eok1, q1⟩
    | false => exact ⟨W1, S1, ρ, st1, sim1, eok1, q1⟩
def plainV : Expr → Bool
  | .ListComp .. | .SetComp .. | .DictComp .. => false
  | _ => true
theorem sw_plain (h : plainV v = true) (t : Option Expr) (l : Nat) (env : Env) : swapsWith v t l env = pure false := by
  cases v <;> first | rfl | cases h
theorem s_exp {f : Bool} (h : PE X v (tE C f ce)) (hp : plainV v = true) : PS X (.Expr v pos) (tS C (exS C.cl (.exp ce))) :=
  (ps_expr h (sw_plain hp _ _ _)).imp fun D σ H ⟨W, S, ρ, st0, sim, eok, q⟩ => by
    unfold exS at q
    unfold tDrop
    exact tG.of st0 sim eok q fun W1 S1 H1 z w st st1 sim1 eok1 pv q1 => q1 W1 H1 σ st1 (.refl _) sim1 eok1
theorem s_ret (h : PE X v (tE C C.rf ce)) : PS X (.Return (some v) pos) (tS C (exS C.cl (.ret ce))) :=
  (ps_ret h).imp fun D σ H ⟨W, S, ρ, st0, sim, eok, q⟩ => by
    unfold exS at q
    unfold tRet
    exact tG.of st0 sim eok q fun W1 S1 H1 z w st st1 sim1 eok1 pv q1 => q1 W1 H1 w st1 sim1 (pv.old st0)
theorem s_retN : PS X (.Return none pos) (tS C (exS C.cl (.ret (.cst .non)))) :=
  ps_retN.imp fun D σ H ⟨W, S, ρ, st0, sim, eok, q⟩ => by
    unfold exS ev at q
    exact q W H _ st0 sim (.of_rep rfl (.inr rfl))
theorem s_reto {i : Nat} {x : Str} {p : Pos} (c : Cok C k X) (h : varC k i x = true) (hr : C.rf = true) : PS X (.Return (some (.Name x p)) pos) (tS C (exS C.cl (.reto i))) := by
  obtain ⟨h1, h2, h3, h4⟩ := varC_ok c h
  refine (ps_ret (pe_var h1 h2 h3 h4)).imp fun D σ H ⟨W, S, ρ, st0, sim, eok, q⟩ => ?_
  unfold exS at q
  obtain ⟨o, e, q⟩ := q.opt
  obtain ⟨p, a, b, f, d, h0, ho⟩ := eok.own i o (ownAt_some e)
  refine ⟨_, a, q W H _ st0 sim ?_⟩
  rw [hr]
  exact .of_fresh ⟨p, o, rfl, ho, b, f, d, h0⟩
/-! ### a name is set -/
/-- name = [..] on one line -/
def lcLine (sc : Scope) (x : Str) (py : Pos) : Expr → Bool
  | .ListComp _ _ scope pos => (py.line == pos.line) && (sc.names.lookup x == some .local) && !(scope.names.any fun (n, k) => n == x && (k == .local || k == .cell))
  | _ => false
def isLC : Expr → Bool
  | .ListComp .. => true
  | _ => false
theorem sw_line {x : Str} {py : Pos} {l : Nat} (c : Cok C k X) (h : plainV v = true ∨ isLC v = true) (hl : lcLine k.sc x py v = false) : swapsWith v (some (.Name x py)) l X.env = pure false := by
  cases v with
  | ListComp elt gens scope vp =>
    have e : swapsWith (.ListComp elt gens scope vp) (some (.Name x py)) l X.env = pure (X.env.blockKind == .function && X.env.kindOf x == some .local && py.line == vp.line && !(scope.names.any fun (n, k) => n == x && (k == .local || k == .cell))) := rfl
    rw [e]
    have hl : ((py.line == vp.line) && (k.sc.names.lookup x == some .local) && !(scope.names.any fun (n, k) => n == x && (k == .local || k == .cell))) = false := hl
    have ek : X.env.kindOf x = k.sc.names.lookup x := by unfold Env.kindOf; rw [c.sc]
    rw [ek]
    congr 1
    revert hl
    cases (py.line == vp.line) <;> cases (k.sc.names.lookup x == some NameKind.local) <;> cases (scope.names.any fun (n, k) => n == x && (k == .local || k == .cell)) <;> cases (X.env.blockKind == ScopeKind.function) <;> simp
  | SetComp _ _ _ _ => rcases h with h | h <;> cases h
  | DictComp _ _ _ _ _ => rcases h with h | h <;> cases h
  | _ => rfl
/-- the parts of a comprehension's check -/
theorem a_name {i : Nat} {x : Str} {p : Pos} (c : Cok C k X) (g : Gok C) (hf : kindF k.sc = true) (hw : wrC k i x = true) (hp : plainV v = true ∨ isLC v = true) (h : ckE C.T ce k v = true) :
    PS X (.Assign [.Name x p] v pos) (tAsg (tE C (freshC C.T ce) ce) (gName i)) := by
  have hw' := hw
  unfold wrC at hw'
  rw [Bool.and_eq_true, decide_eq_true_eq] at hw'
  have w := c.wr x hw'.2
  have hN : X.N[i]? = some x := by rw [c.N]; exact hw'.1
  by_cases hl : lcLine k.sc x p v = true
  · cases v with
    | ListComp elt gens scope vp =>
      have hl : ((p.line == vp.line) && (k.sc.names.lookup x == some .local) && !(scope.names.any fun (n, k) => n == x && (k == .local || k == .cell))) = true := hl
      simp only [Bool.and_eq_true, Bool.not_eq_true'] at hl
      have el : X.env.scope.names.lookup x = some .local := by rw [c.sc]; exact eq_of_beq hl.1.2
      have sw : ∀ l, swapsWith (.ListComp elt gens scope vp) (some (.Name x p)) l X.env = pure true := fun l => sw_true (by rw [c.sc]; exact kindF_ok hf) el hl.1.1 hl.2
      cases ce with
      | lc y pt it =>
        unfold ckE at h
        split at h
        · rename_i y' tg iter scope' vp' heq
          cases heq
          simp only [Bool.and_eq_true, decide_eq_true_eq] at h
          obtain ⟨⟨⟨⟨⟨⟨hk, h1⟩, h2⟩, h3⟩, h4⟩, h5⟩, h6⟩ := h
          have ok : BlkOk X.N X.env.scope scope (ownL k.N pt.slots) := by rw [c.N, c.sc]; exact blkOk_by h1
          exact (ps_setLc (own := ownL k.N pt.slots) (tt := tYes) (te := tE C.nox false y) (g := gP X.K pt) (c.hc hk) c.nd hN el (sw _) (ckI_ok it c g h5) ok (fun s H L cl fp => g_pat (c.blk hk s H L cl fp) h3) (fun _ _ _ _ _ => pts_nil)
            (fun s H L cl fp => (ckE_ok y (c.blk hk s H L cl fp) g.nox h6).weakD) (folded_of h4 X.env)).imp fun D σ H z => lc_rd c.K.symm h2 z
        · cases h
      | lcf y pt it t =>
        unfold ckE at h
        split at h
        · rename_i y' tg iter t' scope' vp' heq
          cases heq
          simp only [Bool.and_eq_true, decide_eq_true_eq] at h
          obtain ⟨⟨⟨⟨⟨⟨⟨hk, h1⟩, h2⟩, h3⟩, h4⟩, h5⟩, h6⟩, h7⟩ := h
          have ok : BlkOk X.N X.env.scope scope (ownL k.N pt.slots) := by rw [c.N, c.sc]; exact blkOk_by h1
          exact (ps_setLc (own := ownL k.N pt.slots) (tt := tT C.nox t) (te := tE C.nox false y) (g := gP X.K pt) (c.hc hk) c.nd hN el (sw _) (ckI_ok it c g h5) ok (fun s H L cl fp => g_pat (c.blk hk s H L cl fp) h3) (fun s H L cl fp => pts_one (ckT_ok t (c.blk hk s H L cl fp) g.nox h6))
            (fun s H L cl fp => (ckE_ok y (c.blk hk s H L cl fp) g.nox h7).weakD) (folded_of h4 X.env)).imp fun D σ H z => lcf_rd c.K.symm h2 z
        · cases h
      | _ => unfold ckE at h; first | cases h | (split at h <;> first | cases h | (rename_i heq; cases heq) | (rename_i heq _; cases heq))
    | _ => cases hl
  · exact ps_set c.nd hN w.1 (ckE_ok ce c g h) (sw_line c hp (by simpa using hl)) w.2
theorem tE_weak {f : Bool} {σ : L2.St} {H : Hp} {Q : VK} (h : tE C false ce σ H Q) : tE C f ce σ H Q := by
  cases f with
  | false => exact h
  | true =>
    obtain ⟨W, S, ρ, sim, eok, q⟩ := h
    refine ⟨W, S, ρ, sim, eok, q.imp (fun d S' k W' H' v st s pv => ?_) fun _ _ z => z⟩
    unfold PostV at pv
    split at pv
    · obtain ⟨_, _, _, _, st2, s2, r2⟩ := pv.fz st s
      exact k _ H' v st2 s2 (.of_rep r2 (.inl rfl))
    · exact k W' H' v st s (.of_rep pv (.inl rfl))
theorem s_set {i : Nat} {x : Str} {p : Pos} (c : Cok C k X) (g : Gok C) (hf : kindF k.sc = true) (hw : wrC k i x = true) (hp : plainV v = true ∨ isLC v = true) (h : ckE C.T ce k v = true) : PS X (.Assign [.Name x p] v pos) (tS C (exS C.cl (.set (.nm i) ce))) :=
  (a_name c g hf hw hp h).imp fun D σ H ⟨W, S, ρ, st0, sim, eok, q⟩ => by
    unfold exS at q
    unfold tAsg
    refine tE_weak ?_
    refine tG.of st0 sim eok q fun W1 S1 H1 d w st st1 sim1 eok1 pv q1 => ?_
    obtain ⟨ρ', e, q1⟩ := q1.opt
    exact bindP_ok (p := .nm i) (K := X.K) (Q := D.nx) c.K.symm eok1 pv.rep e fun σ' e' _ _ => q1 W1 H1 σ' st1 (.refl _) sim1 e'
theorem swt_plain (h : plainV v = true) {es : List Expr} {j : Nat} {p : Pos} (l : Nat) (env : Env) : swapsWithSole [.Tuple es j p] v l env = pure false := by
  cases v <;> first | rfl | cases h
def noTup : Expr → Bool
  | .Tuple .. => false
  | _ => true
theorem sst_plain (h : noTup v = true) {es : List Expr} {j : Nat} {p : Pos} (env : Env) : swappedStores [.Tuple es j p] v env = pure none := by
  cases v <;> first | rfl | cases h
theorem s_setT {is : List Nat} {es : List Expr} {j : Nat} {p : Pos} {f : Bool} (c : Cok C k X) (hg : patC k (.tp is) (.Tuple es j p) = true) (hp : plainV v = true) (ht : noTup v = true) (h : PE X v (tE C f ce)) :
    PS X (.Assign [.Tuple es j p] v pos) (tS C (exS C.cl (.set (.tp is) ce))) :=
  (ps_asg h.weakD (g_pat c hg) (swt_plain hp _ _) (sst_plain ht _)).imp fun D σ H ⟨W, S, ρ, st0, sim, eok, q⟩ => by
    unfold exS at q
    unfold tAsg
    refine tG.of st0 sim eok q fun W1 S1 H1 d w st st1 sim1 eok1 pv q1 => ?_
    obtain ⟨ρ', e, q1⟩ := q1.opt
    exact bindP_ok (K := X.K) c.K.symm eok1 (.of sim1.fz pv.rep) e fun σ' e' _ _ => q1 W1 H1 σ' st1 (.refl _) sim1 e'
/-- what is new is not an own object of old -/
theorem Eok.ne {W : Wd} {H : Hp} {ρ : Ev} {σ : L2.St} {p : Addr} (e : Eok C W H ρ σ) (h : H p = none) (j : Nat) (o' : Ob) (q : ρ[j]? = some (.own o')) : σ[j]? ≠ some (some (.ref p)) := fun z => by
  obtain ⟨p', a, b, _⟩ := e.own j o' q
  rw [z] at a
  cases a
  exact b.some h
theorem fresh_of {W : Wd} {H0 H : Hp} {d : DI.D} {v : V} {o : Ob} {W1 : Wd} (h : PostV C.G true W H0 H d v) (e : obOf d = some o) : ∃ p, v = .ref p ∧ Lone C.G W H p o ∧ H0 p = none := by
  unfold PostV at h
  rw [if_pos (by simp [e])] at h
  obtain ⟨p, o', ev, e', at_, f, n, z⟩ := h
  rw [e] at e'
  cases e'
  exact ⟨p, ev, ⟨at_, f, n⟩, z⟩
theorem none0 {W W1 : Wd} {H H1 : Hp} {p : Addr} (st : Stp W H W1 H1) (h : H1 p = none) : H p = none := by
  cases e : H p with
  | none => rfl
  | some u => exact absurd h (st.dom p (by rw [e]; simp))
theorem s_own {i : Nat} {x : Str} {p : Pos} (c : Cok C k X) (g : Gok C) (hf : kindF k.sc = true) (hw : wrC k i x = true) (hp : plainV v = true ∨ isLC v = true) (h : ckE C.T ce k v = true) (hfr : freshC C.T ce = true) :
    PS X (.Assign [.Name x p] v pos) (tS C (exS C.cl (.own i ce))) :=
  (a_name c g hf hw hp h).imp fun D σ H ⟨W, S, ρ, st0, sim, eok, q⟩ => by
    unfold exS at q
    unfold tAsg
    rw [hfr]
    refine tG.of st0 sim eok q fun W1 S1 H1 d w st st1 sim1 eok1 pv q1 => ?_
    obtain ⟨o, e, q1⟩ := q1.opt
    split at q1
    · rename_i hi
      obtain ⟨p, rfl, lone, z⟩ := fresh_of (W1 := W1) pv e
      exact q1 W1 H1 _ st1 (.refl _) sim1 (eok1.setOwn hi lone (none0 st0 z) (obOf_back e) fun j o' hj => eok.ne z j o' hj)
    · exact False.elim q1
theorem s_sto {i : Nat} {x : Str} {p : Pos} (c : Cok C k X) (g : Gok C) (hf : kindF k.sc = true) (hw : wrC k i x = true) (hp : plainV v = true ∨ isLC v = true) (h : ckE C.T ce k v = true) (hfr : freshC C.T ce = true) :
    PS X (.Assign [.Name x p] v pos) (tS C (exS C.cl (.sto i ce))) :=
  (a_name c g hf hw hp h).imp fun D σ H ⟨W, S, ρ, st0, sim, eok, q⟩ => by
    unfold exS at q
    unfold tAsg
    rw [hfr]
    refine tG.of st0 sim eok q fun W1 S1 H1 d w st st1 sim1 eok1 pv q1 => ?_
    obtain ⟨o, e, q1⟩ := q1.opt
    split at q1
    · rename_i hi
      obtain ⟨p, rfl, ⟨at_, f, n⟩, z⟩ := fresh_of (W1 := W1) pv e
      have eok2 : Eok C (W1.alloc p) H1 ρ σ := eok.mv (st.alloc z)
      refine q1 (W1.alloc p) H1 _ (st1.alloc (none0 st0 z)) (.alloc W1 p) (sim1.alloc at_ f n) (eok2.set hi ?_)
      rw [← sim1.len]
      exact ⟨by rw [Wd.alloc_at], Nat.lt_succ_self _⟩
    · exact False.elim q1
theorem bmM_out {m : Bm} {o o' : Ob} {ds : List DI.D} {d : DI.D} (h : bmM m o ds = some (d, o')) : obOf o'.toD = some o' := by
  have key : ∃ xs, o' = .lst xs := by
    unfold bmM at h
    split at h
    all_goals first
      | contradiction
      | (split at h
         · first
           | (cases h; exact ⟨_, rfl⟩)
           | (obtain ⟨y, _, e⟩ := Option.map_eq_some_iff.mp h; cases e; exact ⟨_, rfl⟩)
         · cases h)
      | (obtain ⟨y, _, e⟩ := Option.map_eq_some_iff.mp h; cases e; exact ⟨_, rfl⟩)
  obtain ⟨xs, rfl⟩ := key
  rfl
/-- a method on an own list: its reading -/
theorem own_mt {m : Bm} {j : Nat} {W : Wd} {S : Store} {ρ : Ev} {σ : L2.St} {H : Hp} {D : Ends} {Q : VK} (hK : C.G.K = X.K) (st0 : Stp C.W0 C.H0 W H) (sim : Sim C.G W S H) (eok : Eok C W H ρ σ) {o : Ob} (e : ρ[j]? = some (.own o)) (hl : isLst o = true) {F : DI.D × Ob → Store → RS}
    (q : SRP C W D (RS.of ρ (evs C.cl cs ρ S) fun ds S => RS.opt (bmM m o ds) fun p => F p S))
    (fin : ∀ W1 S1 H1 d o' v u p, Stp C.W0 C.H0 W1 (upd H1 p u) → Wle W W1 → Sim C.G W1 S1 (upd H1 p u) → Eok C W1 (upd H1 p u) (ρ.set j (.own o')) σ → Rep C.G W1 d v → SRP C W1 D (F (d, o') S1) → Q v (upd H1 p u)) :
    tBM X.K "list" (rBmM C.G m) (tVar j) (tA C cs) σ H Q := by
  obtain ⟨p, a, b, f, n, h0, ho⟩ := eok.own j o e
  cases o with
  | lst as =>
    obtain ⟨vs, hp, rv⟩ := b
    refine ⟨_, a, .inl ⟨rfl, vs, .of hp⟩, tG.of st0 sim eok q fun W1 S1 H1 ds xs st st1 sim1 eok1 pv q1 => ?_⟩
    obtain ⟨⟨d, o'⟩, eb, q1⟩ := q1.opt
    obtain ⟨p', a', b', f', n', h0', ho'⟩ := eok1.own j _ e
    rw [a] at a'
    cases a'
    refine ⟨W1, p, as, ds, d, o', rfl, sim1.fz, b', pv, eb, fun w u rw' ro _ => ?_⟩
    exact fin W1 S1 H1 d o' w u p (st1.other h0 b'.some) st.le (sim1.other f' n' b'.pln) (eok1.chOwn e a ro (bmM_out eb)) rw' q1
  | dic _ => cases hl
  | ins _ _ => cases hl
theorem s_mut {m : Bm} {j : Nat} {x : Str} {p apos pos2 : Pos} (c : Cok C k X) (hc : m.ch = true) (hv : varC k j x = true) (hl : (apos.endLine == pos2.line) = true) (hp : (a :: es).all plainA = true) (hn : (a :: es).length < 29) (h : PA X (a :: es) (tA C cs)) :
    PS X (.Expr (.Call (.Attribute (.Name x p) m.nm apos) (a :: es) [] pos2) pos) (tS C (exS C.cl (.mut j m cs))) := by
  obtain ⟨h1, h2, h3, h4⟩ := varC_ok c hv
  refine (ps_expr (pe_bmL (pos := pos2) F.plainAttrs_list (Bm.chS hc).1 (Bm.chS hc).2 (mt_ch (G := C.G) (m := m) c.K.symm) (pe_var h1 h2 h3 h4) rfl hl hp hn h) rfl).imp fun D σ H ⟨W, S, ρ, st0, sim, eok, q⟩ => ?_
  unfold exS at q
  obtain ⟨o, e, q⟩ := q.opt
  split at q
  · rename_i hi
    exact own_mt c.K.symm st0 sim eok (ownAt_some e) hi q fun W1 S1 H1 d o' v u p st1 le sim1 eok1 r q1 => q1 W1 _ σ st1 (.refl _) sim1 eok1
  · exact False.elim q
theorem s_mut0 {m : Bm} {j : Nat} {x : Str} {p apos pos2 : Pos} (c : Cok C k X) (hc : m.ch = true) (hv : varC k j x = true) (hl : (apos.endLine == pos2.line) = true) :
    PS X (.Expr (.Call (.Attribute (.Name x p) m.nm apos) [] [] pos2) pos) (tS C (exS C.cl (.mut j m .nil))) := by
  obtain ⟨h1, h2, h3, h4⟩ := varC_ok c hv
  refine (ps_expr (pe_bm0 (cpos := pos2) F.plainAttrs_list (Bm.chS hc).1 (Bm.chS hc).2 (mt_ch (G := C.G) (m := m) c.K.symm) (pe_var h1 h2 h3 h4) rfl hl) rfl).imp fun D σ H ⟨W, S, ρ, st0, sim, eok, q⟩ => ?_
  unfold exS at q
  obtain ⟨o, e, q⟩ := q.opt
  split at q
  · rename_i hi
    have z := own_mt (X := X) (m := m) (Q := fun _ H1 => D.nx σ H1) c.K.symm st0 sim eok (ownAt_some e) hi q fun W1 S1 H1 d o' v u p st1 le sim1 eok1 r q1 => q1 W1 _ σ st1 (.refl _) sim1 eok1
    obtain ⟨v, a, ty, W', S', ρ', sim', eok', z⟩ := z
    unfold evs at z
    exact ⟨v, a, ty, z W' H [] (.refl _ _) sim' rfl⟩
  · exact False.elim q
theorem s_mutv {m : Bm} {i j : Nat} {x y : Str} {p p2 apos pos2 : Pos} (c : Cok C k X) (hc : m.ch = true) (hw : wrC k i y = true) (hv : varC k j x = true) (hl : (apos.endLine == pos2.line) = true) (hp : (a :: es).all plainA = true) (hn : (a :: es).length < 29) (h : PA X (a :: es) (tA C cs)) :
    PS X (.Assign [.Name y p2] (.Call (.Attribute (.Name x p) m.nm apos) (a :: es) [] pos2) pos) (tS C (exS C.cl (.mutv i j m cs))) := by
  obtain ⟨h1, h2, h3, h4⟩ := varC_ok c hv
  unfold wrC at hw
  rw [Bool.and_eq_true, decide_eq_true_eq] at hw
  have w := c.wr y hw.2
  refine (ps_set c.nd (by rw [c.N]; exact hw.1) w.1 (pe_bmL (pos := pos2) F.plainAttrs_list (Bm.chS hc).1 (Bm.chS hc).2 (mt_ch (G := C.G) (m := m) c.K.symm) (pe_var h1 h2 h3 h4) rfl hl hp hn h) rfl w.2).imp fun D σ H ⟨W, S, ρ, st0, sim, eok, q⟩ => ?_
  unfold exS at q
  obtain ⟨o, e, q⟩ := q.opt
  split at q
  · rename_i hi
    exact own_mt (F := fun p S => RS.nx ((ρ.set j (.own p.2)).set i (.val p.1)) S) c.K.symm st0 sim eok (ownAt_some e) hi.1 q fun W1 S1 H1 d o' v u p st1 le sim1 eok1 r q1 => q1 W1 _ _ st1 (.refl _) sim1 (eok1.set (by simpa using hi.2.1) r)
  · exact False.elim q
/-! ### o[i] = v -/
theorem set_or (hu : X.A.units + 1 < cLine) : PSet X (fun o i v H Q => rSetL o i v H Q ∨ rSetD o i v H Q) := by
  intro pins s σ H o i v ov iv u Q I ro ri rv h
  rcases h with h | h
  · exact set_list pins s σ H o i v ov iv u Q I ro ri rv h
  · exact set_dict hu pins s σ H o i v ov iv u Q I ro ri rv h
theorem subM_out {o o' : Ob} {x y : DI.D} (h : subM o x y = some o') : obOf o'.toD = some o' := by
  unfold subM at h
  split at h
  · obtain ⟨j, _, e⟩ := Option.map_eq_some_iff.mp h; cases e; rfl
  · obtain ⟨kk, _, e⟩ := Option.bind_eq_some_iff.mp h
    split at e
    · cases e; exact obOf_toD_dic _
    · cases e
  · cases h
/-- what stands at p is written -/
theorem subM_rd {W : Wd} {H : Hp} {p : Addr} {o o' : Ob} {x y : DI.D} {vi vv : V} {Q : Hp → Prop} (at_ : ObAt C.G W H p o) (e : subM o x y = some o') (ri : Rep C.G W x vi) (rv : Rep C.G W y vv) (fin : ∀ u, ObAt C.G W (upd H p u) p o' → Q (upd H p u)) :
    rSetL (.ref p) vi vv H Q ∨ rSetD (.ref p) vi vv H Q := by
  unfold subM at e
  split at e
  · rename_i xs i
    obtain ⟨j, hj, rfl⟩ := Option.map_eq_some_iff.mp e
    obtain ⟨vs, hp, r⟩ := at_
    exact .inl ⟨p, vs, i, j, rfl, ri, hp, by rw [r.length]; exact hj, fin _ ⟨_, upd_same, r.set j rv⟩⟩
  · rename_i kvs kk
    obtain ⟨key, hk, e⟩ := Option.bind_eq_some_iff.mp e
    split at e
    · rename_i hl
      cases e
      obtain ⟨us, hp, r⟩ := at_
      rw [keyD_rep (H := H) (.inl ri) hk]
      exact .inr ⟨p, _, rfl, .k hp (by rw [krep_len r]; exact lim_lt hl), fin _ ⟨_, upd_same, krep_put r rv⟩⟩
    · cases e
  · cases e
theorem sub_assign {o i : Expr} (h : plainI i = true) (pos' : Pos) (env : Env) : ∀ v, assign (.Subscript o i pos') env v = (do
      let ov ← holding [v] (eval o env)
      let iv ← holding [v, ov] (eval i env)
      standAt pos'
      holding [v, ov, iv] (setItem ov iv v)
      release [v, ov, iv] []) := by
  intro v
  cases i <;> first | rfl | cases h
theorem sws_sub {o i : Expr} {p : Pos} (l : Nat) (env : Env) : swapsWithSole [.Subscript o i p] v l env = pure false := by
  cases v <;> rfl
theorem sts_sub {o i : Expr} {p : Pos} (env : Env) : swappedStores [.Subscript o i p] v env = pure none := by
  cases v <;> rfl
theorem s_sub {p : Pos} (c : Cok C k X) (hi : plainI b = true) (hv : PE X v (tE C false ce)) (ha : PE X a (tE C false ca)) (hb : PE X b (tE C false cb)) :
    PS X (.Assign [.Subscript a b p] v pos) (tS C (exS C.cl (.sub ca cb ce))) :=
  (ps_asg hv (pg_sub ha hb (set_or (by have := c.units; omega)) (sub_assign hi _ _)) (sws_sub _ _) (sts_sub _)).imp fun D σ H ⟨W, S, ρ, st0, sim, eok, q⟩ => by
    unfold exS at q
    unfold tAsg gSub
    refine tG.of st0 sim eok q fun W1 S1 H1 d w st st1 sim1 eok1 pv q1 => tG.of st1 sim1 eok1 q1 fun W2 S2 H2 x u st' st2 sim2 eok2 pv2 q2 => tG.of st2 sim2 eok2 q2 fun W3 S3 H3 y z st'' st3 sim3 eok3 pv3 q3 => ?_
    cases x with
    | obj n =>
      obtain ⟨o, e, q4⟩ := SRP.opt q3
      obtain ⟨o', e2, q5⟩ := q4.opt
      obtain ⟨eu, hn⟩ := (show Rep C.G W2 (.obj n) u from pv2.rep).le st''.le
      have at_ := sim3.ob n o e
      rw [eu]
      exact subM_rd at_ e2 pv3.rep (pv.rep.le (st'.le.trans st''.le)) fun w2 at2 => q5 W3 _ σ (st3.trans (.set hn at_.some)) (.refl _) (sim3.set hn at2) (eok3.mv (.set hn at_.some))
    | _ => exact False.elim q3
theorem s_subo {j : Nat} {x : Str} {p p2 : Pos} (c : Cok C k X) (hi : plainI b = true) (hx : varC k j x = true) (hv : PE X v (tE C false ce)) (hb : PE X b (tE C false cb)) :
    PS X (.Assign [.Subscript (.Name x p2) b p] v pos) (tS C (exS C.cl (.subo j cb ce))) := by
  obtain ⟨h1, h2, h3, h4⟩ := varC_ok c hx
  refine (ps_asg hv (pg_sub (pe_var h1 h2 h3 h4) hb (set_or (by have := c.units; omega)) (sub_assign hi _ _)) (sws_sub _ _) (sts_sub _)).imp fun D σ H ⟨W, S, ρ, st0, sim, eok, q⟩ => ?_
  unfold exS at q
  unfold tAsg gSub
  refine tG.of st0 sim eok q fun W1 S1 H1 d w st st1 sim1 eok1 pv q1 => ?_
  obtain ⟨o, e, q1⟩ := q1.opt
  have e := ownAt_some e
  obtain ⟨p, a, _⟩ := eok1.own j o e
  refine ⟨_, a, tG.of st1 sim1 eok1 q1 fun W2 S2 H2 y z st' st2 sim2 eok2 pv2 q2 => ?_⟩
  obtain ⟨o', e2, q2⟩ := q2.opt
  obtain ⟨p', a', b', f', n', h0', ho'⟩ := eok2.own j o e
  rw [a] at a'
  cases a'
  exact subM_rd b' e2 pv2.rep (pv.rep.le st'.le) fun u at2 => q2 W2 _ σ (st2.other h0' b'.some) (.refl _) (sim2.other f' n' b'.pln) (eok2.chOwn e a at2 (subM_out e2))
/-! ### loops -/
theorem forL_le {f : DI.D → Ev → Store → RS} {w : List DI.D × Option Nat} {i : Nat} {ρ : Ev} {S : Store} {W : Wd} {D : Ends} (h : SRP C W D (forL f w (w.1.drop i) ρ S)) : srcOk S w.2 w.1 = true := by
  cases e : w.1.drop i with
  | nil =>
    rw [e] at h
    unfold forL at h
    split at h
    · assumption
    · exact False.elim h
  | cons d r =>
    rw [e] at h
    unfold forL at h
    split at h
    · assumption
    · exact False.elim h
theorem s_loop {pt : Pat} {it : Itx} {tg iter : Expr} {body : List Stmt} {bl : Bl} (c : Cok C k X) (hk : k.calm = true) (pw : PassesOwn (model X.prog X.w) X.A X.env X.xe) (hi : PI X tg iter (tI C pt it)) (hp : patC k pt tg = true) (hs : plainS iter = true) (hb : PSs X body (tS C (exB C.cl bl))) :
    PS X (.For tg iter body [] pos) (tS C (exS C.cl (.loop pt it bl))) :=
  (ps_for pw (c.hc hk) hi (g_pat c hp) hb (folded_of hs X.env)).imp fun D σ H ⟨W, S, ρ, st0, sim, eok, q⟩ => by
    unfold exS at q
    split at q
    · exact False.elim q
    · rename_i hso
      unfold tFor
      refine ⟨W, S, ρ, sim, eok, ?_⟩
      cases ee : evI C.cl it ρ S with
      | bad => rw [ee] at q; exact q
      | err x S1 =>
        rw [ee] at q
        exact fun W' H' cls d st s xr => q W' H' cls d σ (st0.trans st) st.le s (eok.mv st) xr
      | ok w S1 =>
        rw [ee] at q
        intro W1 H1 J st1 sim1 itok
        have q : SRP C W1 D (forL (fun d ρ S => RS.opt (bindP pt d ρ) fun ρ => exB C.cl bl ρ S) w w.1 ρ S1) := SRP.le q st1.le
        refine ⟨fun i m σ H => m = w.1.length - i ∧ i ≤ w.1.length ∧ ∃ W2 S2 ρ2, Stp C.W0 C.H0 W2 H ∧ Wle W1 W2 ∧ Sim C.G W2 S2 H ∧ Eok C W2 H ρ2 σ ∧ SRP C W2 D (forL (fun d ρ S => RS.opt (bindP pt d ρ) fun ρ => exB C.cl bl ρ S) w (w.1.drop i) ρ2 S2),
          ⟨w.1.length, rfl, Nat.zero_le _, W1, S1, ρ, st0.trans st1, .refl _, sim1, eok.mv st1, q⟩, ?_⟩
        rintro i m σ2 H2 ⟨rfl, hil, W2, S2, ρ2, st2, le2, sim2, eok2, q2⟩
        have hs := forL_le q2
        obtain ⟨it1, it2⟩ := itok W2 S2 H2 le2 sim2 hs fun a o ⟨z, _⟩ => absurd z hso
        by_cases hlt : i < w.1.length
        · have ed : w.1.drop i = w.1[i] :: w.1.drop (i + 1) := List.drop_eq_getElem_cons hlt
          rw [ed] at q2
          unfold forL at q2
          rw [if_pos hs] at q2
          obtain ⟨go, yl⟩ := it1 i w.1[i] (List.getElem?_eq_getElem hlt)
          refine .inr ⟨go, fun σ' H' => ∃ W2 S2 ρ2, Stp C.W0 C.H0 W2 H' ∧ Wle W1 W2 ∧ Sim C.G W2 S2 H' ∧ Eok C W2 H' ρ2 σ' ∧ SRP C W2 D (forL (fun d ρ S => RS.opt (bindP pt d ρ) fun ρ => exB C.cl bl ρ S) w (w.1.drop (i + 1)) ρ2 S2), fun σ' H' n => ⟨_, by omega, rfl, hlt, n⟩, fun x Hy y => ?_⟩
          obtain ⟨W3, st3, sim3, yr⟩ := yl x Hy y
          cases eb : bindP pt w.1[i] ρ2 with
          | none => rw [eb] at q2; exact False.elim q2
          | some ρ3 =>
            rw [eb] at q2
            refine bindP_ok c.K.symm (eok2.mv st3) yr eb fun σ3 e3 _ _ => ⟨W3, S2, ρ3, st2.trans st3, sim3, e3, ?_⟩
            have q3 : SRP C W3 D ((exB C.cl bl ρ3 S2).seq fun ρ S => forL (fun d ρ S => RS.opt (bindP pt d ρ) fun ρ => exB C.cl bl ρ S) w (w.1.drop (i + 1)) ρ S) := SRP.le q2 st3.le
            generalize exB C.cl bl ρ3 S2 = r at q3
            cases r with
            | nx ρ4 S4 => exact fun W4 H4 σ4 st4 l4 s4 e4 => ⟨W4, S4, ρ4, st4, le2.trans (st3.le.trans l4), s4, e4, SRP.le q3 l4⟩
            | rt d S4 => exact q3
            | er x ρ4 S4 => exact q3
            | bad => exact q3
        · have ei : i = w.1.length := by omega
          subst ei
          rw [List.drop_length] at q2
          unfold forL at q2
          rw [if_pos hs] at q2
          exact .inl ⟨it2, q2 W2 H2 σ2 st2 (.refl _) sim2 eok2⟩
theorem s_whl {t : Expr} {ct : Tx} {body : List Stmt} {bl : Bl} (pw : PassesOwn (model X.prog X.w) X.A X.env X.xe) (ht : PT X t (tT C ct)) (hb : PSs X body (tS C (exB C.cl bl))) : PS X (.While t body [] pos) (tS C (exS C.cl (.whl ct bl))) :=
  (ps_while pw ht hb).imp fun D σ H ⟨W, S, ρ, st0, sim, eok, q⟩ => by
    unfold exS at q
    unfold tWhile
    refine ⟨fun m σ H => ∃ W S ρ, Stp C.W0 C.H0 W H ∧ Sim C.G W S H ∧ Eok C W H ρ σ ∧ SRP C W D (whR (fun ρ S => evT C.cl ct ρ S) (fun ρ S => exB C.cl bl ρ S) m ρ S), ⟨wmax, W, S, ρ, st0, sim, eok, q⟩, ?_⟩
    rintro m σ2 H2 ⟨W2, S2, ρ2, st2, sim2, eok2, q2⟩
    cases m with
    | zero => exact False.elim q2
    | succ m =>
      unfold whR at q2
      refine tG.of st2 sim2 eok2 q2 fun W3 S3 H3 z w st st3 sim3 eok3 pv q3 => ?_
      subst pv
      cases z with
      | false => exact q3 W3 H3 σ2 st3 (.refl _) sim3 eok3
      | true =>
        rw [if_pos rfl] at q3 ⊢
        refine ⟨fun σ' H' => ∃ W S ρ, Stp C.W0 C.H0 W H' ∧ Sim C.G W S H' ∧ Eok C W H' ρ σ' ∧ SRP C W D (whR (fun ρ S => evT C.cl ct ρ S) (fun ρ S => exB C.cl bl ρ S) m ρ S), fun σ' H' n => ⟨m, Nat.lt_succ_self _, n⟩, W3, S3, ρ2, st3, sim3, eok3, ?_⟩
        generalize exB C.cl bl ρ2 S3 = r at q3
        cases r with
        | nx ρ4 S4 => exact fun W4 H4 σ4 st4 l4 s4 e4 => ⟨W4, S4, ρ4, st4, s4, e4, SRP.le q3 l4⟩
        | rt d S4 => exact q3
        | er x ρ4 S4 => exact q3
        | bad => exact q3
/-! ### exceptions -/
theorem pmk_0 {Cx : Addr} {x : Str} {p : Pos} (q : PySem.W.excIn X.K Cx [.type "ValueError", .type "Exception", .type "BaseException", .type "object"] "ValueError.__new__" = true) (m : X.mg x = some (.ref Cx)) (kp : PySem.W.keepIn X.K (.ref Cx) = true) (r : Raises X (.ref Cx)) (hg : Gl X x)
    (hd : (x == ("__debug__" : Str)) = false) : PMk X (.Call (.Name x p) [] [] pos) (fun _ H Q => Q (.ref Cx) none H) := by
  intro pins s σ H Q I w
  refine wpAny_Call_Name_kw (ld_glob I hg m (PySem.W.callWith_K0 I.kIn kp ?_) hd)
  obtain ⟨bm, N, nm, qn, bs, hdct, sn, sub, ab, col, dd, k0, k1, k2, k3, k5, mN, hC, hN, hni, T⟩ := exc_obj I.kIn q
  show wpAny _ _ (call (.ref Cx) []) _ _ _
  exact wpAny_call_exc_subT (rest := []) PySem.F.excBase_ValueError T hC hN hni (fun h' e hm => mk_of I hm r w (I.hok.gone hm.new)) (Nat.zero_le _)
theorem s_rai {j : Nat} {x : Str} {p pos2 : Pos} (c : Cok C k X) (g : Gok C) (hk : k.calm = true) (hx : glC k.sc x = true) (hn : nmOk x = true) (hm : (x, j) ∈ C.T.xc) (hj : j ∉ C.T.x1) (hj2 : j ∉ C.T.x2) : PS X (.Raise (some (.Call (.Name x p) [] [] pos2)) none pos) (tS C (exS C.cl (.rai j .nil))) := by
  obtain ⟨m1, m2, m3⟩ := g.xc x j hm
  obtain ⟨k2, k3, _⟩ := g.xk j m3
  have k1 := g.xe j m3 hj hj2
  refine (ps_raise (c.hc hk) c.tk (pmk_0 (Cx := C.G.xa j) (by rw [c.K]; exact k1) (by rw [c.mg]; exact m1) (by rw [c.K]; exact m2) (raises_own (by rw [c.K]; exact k2) (by rw [c.K]; exact k3)) (glC_ok c hx) (nmOk_ok hn).1)).imp fun D σ H ⟨W, S, ρ, st0, sim, eok, q⟩ => ?_
  unfold exS evs at q
  obtain ⟨fs, e, q⟩ := SRP.opt (show SRP C W D (RS.opt (C.cl.xmk j []) fun fs => .er ⟨j, fs⟩ ρ S) from q)
  have ef : fs = [] := g.xm j fs e
  subst ef
  exact q W H _ _ σ st0 (.refl _) sim eok ⟨rfl, m3, .inl ⟨rfl, rfl⟩⟩
theorem txt_v {G : Gx} {W : Wd} {d : D} {v : V} (h : txtD d = true) (r : Rep G W d v) : ShV v := by
  cases d with
  | str y => exact .inl ⟨y, r, of_decide_eq_true h⟩
  | int i =>
    have h : (decide (i.natAbs.log2 < 1920) && decide ((toString i : Str).length ≤ 1000000)) = true := h
    rw [Bool.and_eq_true, decide_eq_true_eq, decide_eq_true_eq] at h
    exact .inr ⟨i, r, h.1, h.2⟩
  | _ => cases h
theorem txt_p {pre : Str} {v : V} (hl : pre.length ≤ 1000) (h : ShV v) : TxtV pre v := by
  refine ⟨by rw [sizeLine_eq]; omega, ?_⟩
  rcases h with ⟨y, rfl, hy⟩ | ⟨i, rfl, hi, hy⟩
  · exact .inl ⟨y, rfl, by rw [sizeLine_eq]; omega, by rw [strLen_append, sizeLine_eq]; omega⟩
  · exact .inr ⟨i, rfl, hi, by rw [strLen_append, sizeLine_eq]; omega⟩
/-- raise x(e), the class having an __init__ of its own -/
theorem s_rai1 {j : Nat} {x : Str} {e : Expr} {ce : Ex} {p pos2 : Pos} (c : Cok C k X) (g : Gok C) (hk : k.calm = true) (hx : glC k.sc x = true) (hn : nmOk x = true) (hm : (x, j) ∈ C.T.xc) (hj : j ∈ C.T.x1) (hp : plainA e = true) (ha : PA X [e] (tA C (.cons ce .nil))) :
    PS X (.Raise (some (.Call (.Name x p) [e] [] pos2)) none pos) (tS C (exS C.cl (.rai j (.cons ce .nil)))) := by
  obtain ⟨m1, m2, m3⟩ := g.xc x j hm
  obtain ⟨F, fI, pre, fd, cc, cda, T, XI, hl, hv⟩ := g.xi j m3 hj
  have rm := (c.room hk).dp
  refine (ps_raise (c.hc hk) c.tk (pmk_xi (X := X) (C := C.G.xa j) (F := F) (pre := pre) (by rw [c.K]; exact T) (by rw [c.K, c.P]; exact XI) (by omega) (glC_ok c hx) (by rw [c.mg]; exact m1) ha (nmOk_ok hn).1 (star_of hp _))).imp fun D σ H ⟨W, S, ρ, st0, sim, eok, q⟩ => ?_
  unfold exS at q
  unfold tMkXi
  refine tG.of (r := evs C.cl (Exs.cons ce Exs.nil)) (Pv := fun W _ _ ds vs => Reps C.G W ds vs) st0 sim eok q fun W1 S1 H1 ds vs st st1 sim1 eok1 rs q1 => ?_
  obtain ⟨fs, e, q1⟩ := SRP.opt q1
  obtain ⟨d0, rfl, hd0, rfl⟩ := hv ds fs e
  obtain ⟨v, us, rfl, rv, rn⟩ := rs
  obtain rfl : us = [] := rn
  refine ⟨v, rfl, txt_p hl (txt_v hd0 rv), fun d hd => ?_⟩
  have hF : W1.F d = none := by
    cases z : W1.F d with
    | none => rfl
    | some o => rw [sim1.fz d o z] at hd; cases hd
  have hA : ∀ k, k < W1.n → d ≠ W1.A k := fun k hk z => by
    rw [sim1.len] at hk
    have := (sim1.ob k _ (List.getElem?_eq_getElem hk)).some
    rw [← z] at this
    exact this hd
  have s2 := (Stp.push (W := W1) (H := H1) (p := d) (o := .xd [(F, v)]) hd).fzn (p := d) (o := .xd [(F, v)]) hd hF
  exact q1 (W1.fz d (.xd [(F, v)])) _ _ _ σ (st1.trans s2) (.fz hF) ((sim1.push hd).fzn upd_same (fun _ z => by cases z) hF hA) (eok1.mv s2)
    ⟨rfl, m3, .inr ⟨d, [(F, v)], by simp, rfl, upd_same, v, [], rfl, rv.le (.fz hF), rfl⟩⟩
/-- raise x(e, f) -/
theorem s_rai2 {j : Nat} {x : Str} {e f : Expr} {ce cf : Ex} {p pos2 : Pos} (c : Cok C k X) (g : Gok C) (hk : k.calm = true) (hx : glC k.sc x = true) (hn : nmOk x = true) (hm : (x, j) ∈ C.T.xc) (hj : j ∈ C.T.x2) (hp : plainA e = true) (hp2 : plainA f = true) (ha : PA X [e, f] (tA C (.cons ce (.cons cf .nil)))) :
    PS X (.Raise (some (.Call (.Name x p) [e, f] [] pos2)) none pos) (tS C (exS C.cl (.rai j (.cons ce (.cons cf .nil))))) := by
  obtain ⟨m1, m2, m3⟩ := g.xc x j hm
  obtain ⟨F, F2, fI, pre, mid, fd, cc, cda, T, XI, hl, hl2, hv⟩ := g.x2 j m3 hj
  have rm := (c.room hk).dp
  refine (ps_raise (c.hc hk) c.tk (pmk_x2 (X := X) (C := C.G.xa j) (F := F) (F2 := F2) (pre := pre) (mid := mid) (by rw [c.K]; exact T) (by rw [c.K, c.P]; exact XI) hl hl2 (by omega) (glC_ok c hx) (by rw [c.mg]; exact m1) ha (nmOk_ok hn).1 (noStar (by simpa using hp2) _ _) (star_of hp _))).imp fun D σ H ⟨W, S, ρ, st0, sim, eok, q⟩ => ?_
  unfold exS at q
  unfold tMkX2
  refine tG.of (r := evs C.cl (Exs.cons ce (Exs.cons cf Exs.nil))) (Pv := fun W _ _ ds vs => Reps C.G W ds vs) st0 sim eok q fun W1 S1 H1 ds vs st st1 sim1 eok1 rs q1 => ?_
  obtain ⟨fs, e, q1⟩ := SRP.opt q1
  obtain ⟨d0, d2, rfl, hd0, hd2, rfl⟩ := hv ds fs e
  obtain ⟨v, us, rfl, rv, rn⟩ := rs
  obtain ⟨v2, us, rfl, rv2, rn⟩ := rn
  obtain rfl : us = [] := rn
  refine ⟨v, v2, rfl, txt_v hd0 rv, txt_v hd2 rv2, fun d hd => ?_⟩
  have hF : W1.F d = none := by
    cases z : W1.F d with
    | none => rfl
    | some o => rw [sim1.fz d o z] at hd; cases hd
  have hA : ∀ k, k < W1.n → d ≠ W1.A k := fun k hk z => by
    rw [sim1.len] at hk
    have := (sim1.ob k _ (List.getElem?_eq_getElem hk)).some
    rw [← z] at this
    exact this hd
  have s2 := (Stp.push (W := W1) (H := H1) (p := d) (o := .xd [(F2, v2), (F, v)]) hd).fzn (p := d) (o := .xd [(F2, v2), (F, v)]) hd hF
  exact q1 (W1.fz d (.xd [(F2, v2), (F, v)])) _ _ _ σ (st1.trans s2) (.fz hF) ((sim1.push hd).fzn upd_same (fun _ z => by cases z) hF hA) (eok1.mv s2)
    ⟨rfl, m3, .inr ⟨d, [(F2, v2), (F, v)], by simp, rfl, upd_same, v2, [(F, v)], rfl, rv2.le (.fz hF), v, [], rfl, rv.le (.fz hF), rfl⟩⟩
end
/-- the setting with another wish; within an except suite -/
def Ct.wW (C : Ct) (w : WX) : Ct := { C with wx := w }
def Ct.hand (C : Ct) (a : Addr) (cls : Value) (d : Option Addr) : Ct := { C with wx := fun _ _ _ _ => False, ea := some (a, cls, d) }
def Ck.hand (k : Ck) : Ck := { k with calm := false }
section
variable {C : Ct} {k : Ck} {X : Cx} {W : Wd} {H : Hp} {ρ : Ev} {σ : L2.St}
theorem Eok.wW {w : WX} (e : Eok C W H ρ σ) : Eok (C.wW w) W H ρ σ := ⟨e.len, e.val, e.own, e.dis, e.exc⟩
theorem Eok.unW {w : WX} (e : Eok (C.wW w) W H ρ σ) : Eok C W H ρ σ := ⟨e.len, e.val, e.own, e.dis, e.exc⟩
theorem Eok.hand {a : Addr} {cls : Value} {d : Option Addr} {i : Nat} {x : Xc} (e : Eok C W H ρ σ) (hn : C.ea = none) (xr : XRep C.G W x cls d) : Eok (C.hand a cls d) W H (ρ.set i (.exc x)) (σ.set i (some (.ref a))) where
  len := by simpa using e.len
  val := fun j z q => by
    rcases set_get q with ⟨rfl, z⟩ | ⟨n, q⟩
    · cases z
    · rw [List.getElem?_set_ne n]; exact e.val j z q
  own := fun j o' q => by
    rcases set_get q with ⟨rfl, z⟩ | ⟨n, q⟩
    · cases z
    · rw [List.getElem?_set_ne n]; exact e.own j o' q
  dis := fun j m o1 o2 p' q1 q2 q3 q4 => by
    rcases set_get q1 with ⟨rfl, z⟩ | ⟨n1, q1⟩
    · cases z
    · rcases set_get q2 with ⟨rfl, z2⟩ | ⟨n2, q2⟩
      · cases z2
      · rw [List.getElem?_set_ne n1] at q3
        rw [List.getElem?_set_ne n2] at q4
        exact e.dis j m o1 o2 p' q1 q2 q3 q4
  exc := fun j y q => by
    have hl := (List.getElem?_eq_some_iff.mp q).1
    rcases set_get q with ⟨rfl, z⟩ | ⟨n, q⟩
    · cases z
      refine ⟨a, cls, d, rfl, ?_, xr⟩
      rw [List.getElem?_set_self (by rw [← e.len]; simpa using hl)]
    · obtain ⟨_, _, _, z, _⟩ := e.exc j y q
      rw [hn] at z; cases z
theorem noX_get {j : Nat} {s : Sl} (h : (noX ρ)[j]? = some s) : (∀ x, s ≠ .exc x) ∧ (s = .un ∨ ρ[j]? = some s) := by
  unfold noX at h
  rw [List.getElem?_map] at h
  obtain ⟨z, e, h⟩ := Option.map_eq_some_iff.mp h
  cases z with
  | exc _ => cases h; exact ⟨fun _ q => by (cases q), .inl rfl⟩
  | un => cases h; exact ⟨fun _ q => by (cases q), .inl rfl⟩
  | val d => cases h; exact ⟨fun _ q => by (cases q), .inr e⟩
  | own o => cases h; exact ⟨fun _ q => by (cases q), .inr e⟩
theorem Eok.unhand {a : Addr} {cls : Value} {d : Option Addr} {i : Nat} (e : Eok (C.hand a cls d) W H ρ σ) : Eok C W H (noX (ρ.set i .un)) (σ.set i none) where
  len := by unfold noX; simpa using e.len
  val := fun j z q => by
    rcases (noX_get q).2 with z | q
    · cases z
    · rcases set_get q with ⟨rfl, z⟩ | ⟨n, q⟩
      · cases z
      · rw [List.getElem?_set_ne n]; exact e.val j z q
  own := fun j o' q => by
    rcases (noX_get q).2 with z | q
    · cases z
    · rcases set_get q with ⟨rfl, z⟩ | ⟨n, q⟩
      · cases z
      · rw [List.getElem?_set_ne n]; exact e.own j o' q
  dis := fun j m o1 o2 p' q1 q2 q3 q4 => by
    rcases (noX_get q1).2 with z | q1
    · cases z
    · rcases (noX_get q2).2 with z | q2
      · cases z
      · rcases set_get q1 with ⟨rfl, z⟩ | ⟨n1, q1⟩
        · cases z
        · rcases set_get q2 with ⟨rfl, z2⟩ | ⟨n2, q2⟩
          · cases z2
          · rw [List.getElem?_set_ne n1] at q3
            rw [List.getElem?_set_ne n2] at q4
            exact e.dis j m o1 o2 p' q1 q2 q3 q4
  exc := fun j y q => absurd rfl ((noX_get q).1 y)
theorem Cok.tr {w : WX} {pn : List (Addr × Obj)} {xe : Value → Shared → Prop} (c : Cok C k X) (hk : k.calm = true) (tk : Takes (X.tr pn xe) w) : Cok (C.wW w) k (X.tr pn xe) where
  P := c.P
  w := c.w
  K := c.K
  mg := c.mg
  base := c.base
  hc := c.hc
  gd := c.gd
  N := c.N
  nd := c.nd
  sc := c.sc
  wr := c.wr
  room := c.room
  room2 := c.room2
  units := c.units
  ce := c.ce
  tk := tk
  tb := c.tb
  ea := fun a cls d e => by
    rw [show (C.wW w).ea = none from c.ce hk] at e
    cases e
theorem Cok.hand {a : Addr} {oe : Obj} {cls : Value} {d : Option Addr} {pn : List (Addr × Obj)} (c : Cok C k X) (hz : Zc cls d oe) (hf : ∃ vs, oe.data = .fields vs) : Cok (C.hand a cls d) k.hand (X.suite a ((a, oe) :: pn)) where
  P := c.P
  w := c.w
  K := c.K
  mg := c.mg
  base := c.base
  hc := fun z => by cases z
  gd := c.gd
  N := c.N
  nd := c.nd
  sc := c.sc
  wr := c.wr
  room := fun z => by cases z
  room2 := fun z => by cases z
  units := c.units
  ce := fun z => by cases z
  tb := c.tb
  tk := fun u s' ⟨_, _, _, _, _, _, _, _, _, _, _, _, _, _, _, _, z⟩ => z.elim
  ea := fun b cls' d' e => by
    cases e
    exact ⟨X, oe, pn, rfl, hz, hf⟩
theorem Gok.wW {w : WX} (g : Gok C) : Gok (C.wW w) := ⟨g.bn, g.fn, g.fok, g.xc, g.xe, g.xi, g.x2, g.xv, g.xn, g.xk, g.xs, g.xm, g.gl⟩
theorem Gok.hand {a : Addr} {cls : Value} {d : Option Addr} (g : Gok C) : Gok (C.hand a cls d) := ⟨g.bn, g.fn, g.fok, g.xc, g.xe, g.xi, g.x2, g.xv, g.xn, g.xk, g.xs, g.xm, g.gl⟩
/-- a frame that can catch -/
structure Fok (X : Cx) : Prop where
  pass : PassesOwn (model X.prog X.w) X.A X.env X.xe
  stk : X.stack = X.env :: X.outer
  frm : X.env.frame = some X.env.locals
theorem s_tri {i j : Nat} {x n : Str} {np pos pos' : Pos} {body suite : List Stmt} {b0 : Stmt} {bl bh : Bl} (c : Cok C k X) (g : Gok C) (hk : k.calm = true) (f : Fok X) (hN : k.N[i]? = some n) (hl : k.sc.names.lookup n = some .local) (hx : glC k.sc x = true) (hn : nmOk x = true) (hm : (x, j) ∈ C.T.xc)
    (hb : ∀ (w : WX) (pn : List (Addr × Obj)) (xe : Value → Shared → Prop), Takes (X.tr pn xe) w → PassesOwn (model X.prog X.w) X.A X.env xe → PSs (X.tr pn xe) body (tS (C.wW w) (exB C.cl bl)))
    (hh : ∀ (a : Addr) (oe : Obj) (cls : Value) (d : Option Addr) (pn : List (Addr × Obj)), Zc cls d oe → (∃ vs, oe.data = .fields vs) → PSs (X.suite a ((a, oe) :: pn)) (b0 :: suite) (tS (C.hand a cls d) (exB C.cl bh))) :
    PS X (.Try body [.ExceptHandler (some (.Name x np)) (some n) (b0 :: suite) pos'] [] [] pos) (tS C (exS C.cl (.tri bl j i bh))) := by
  obtain ⟨m1, m2, m3⟩ := g.xc x j hm
  have nm : Names X x (.ref (C.G.xa j)) := ⟨glC_ok c hx, (nmOk_ok hn).1, .inl (by rw [c.mg]; exact m1)⟩
  refine (ps_try_as (tb := fun w => tS (C.wW w) (exB C.cl bl)) (ts := fun a cls d => tS (C.hand a cls d) (exB C.cl bh)) f.stk f.frm c.nd (by rw [c.N]; exact hN) (by unfold Env.kindOf; rw [c.sc]; exact hl) nm c.tk hb hh).imp fun D σ H ⟨W, S, ρ, st0, sim, eok, q⟩ => ?_
  unfold exS at q
  refine ⟨W, S, ρ, st0, sim, eok.wW, ?_⟩
  generalize exB C.cl bl ρ S = r at q
  cases r with
  | nx ρ1 S1 => exact fun W' H' σ' st l s e => q W' H' σ' st l s e.unW
  | rt d S1 => exact q
  | bad => exact q
  | er xc ρ1 S1 =>
    intro W1 H1 cls d σ1 st1 l1 s1 e1 xr
    obtain ⟨ec, hlt, _⟩ := id xr
    refine ⟨C.cl.sub xc.c j, by rw [ec, c.K]; exact (g.xs _ _ hlt m3).1, fun hb a ha => ?_, fun hb => ?_⟩
    · dsimp only at q
      rw [if_pos hb] at q
      refine ⟨W1, S1, ρ1.set i (.exc xc), st1, s1, e1.unW.hand (c.ce hk) xr, ?_⟩
      show SRP (C.hand a cls d) W1 _ (exB C.cl bh (ρ1.set i (.exc xc)) S1)
      generalize exB C.cl bh (ρ1.set i (.exc xc)) S1 = r at q
      cases r with
      | nx ρ2 S2 => exact fun W' H' σ' st l s e => q W' H' _ st (l1.trans l) s e.unhand
      | rt d S2 => exact q
      | er _ _ _ => exact False.elim q
      | bad => exact q
    · dsimp only at q
      rw [if_neg (by rw [hb]; decide)] at q
      exact q W1 H1 cls d σ1 st1 l1 s1 e1.unW xr
/-- within a suite that has no name for the exception -/
theorem Eok.hand0 {a : Addr} {cls : Value} {d : Option Addr} (e : Eok C W H ρ σ) (hn : C.ea = none) : Eok (C.hand a cls d) W H ρ σ :=
  ⟨e.len, e.val, e.own, e.dis, fun j y q => by
    obtain ⟨_, _, _, z, _⟩ := e.exc j y q
    rw [hn] at z; cases z⟩
theorem Eok.unhand0 {a : Addr} {cls : Value} {d : Option Addr} (e : Eok (C.hand a cls d) W H ρ σ) : Eok C W H (noX ρ) σ where
  len := by unfold noX; simpa using e.len
  val := fun j z q => by
    rcases (noX_get q).2 with z | q
    · cases z
    · exact e.val j z q
  own := fun j o' q => by
    rcases (noX_get q).2 with z | q
    · cases z
    · exact e.own j o' q
  dis := fun j m o1 o2 p' q1 q2 q3 q4 => by
    rcases (noX_get q1).2 with z | q1
    · cases z
    · rcases (noX_get q2).2 with z | q2
      · cases z
      · exact e.dis j m o1 o2 p' q1 q2 q3 q4
  exc := fun j y q => absurd rfl ((noX_get q).1 y)
theorem s_trn {j : Nat} {x : Str} {np pos pos' : Pos} {body suite : List Stmt} {b0 : Stmt} {bl bh : Bl} (c : Cok C k X) (g : Gok C) (hk : k.calm = true) (f : Fok X) (hx : glC k.sc x = true) (hn : nmOk x = true) (hm : (x, j) ∈ C.T.xc)
    (hb : ∀ (w : WX) (pn : List (Addr × Obj)) (xe : Value → Shared → Prop), Takes (X.tr pn xe) w → PassesOwn (model X.prog X.w) X.A X.env xe → PSs (X.tr pn xe) body (tS (C.wW w) (exB C.cl bl)))
    (hh : ∀ (a : Addr) (oe : Obj) (cls : Value) (d : Option Addr) (pn : List (Addr × Obj)), Zc cls d oe → (∃ vs, oe.data = .fields vs) → PSs (X.suite a ((a, oe) :: pn)) (b0 :: suite) (tS (C.hand a cls d) (exB C.cl bh))) :
    PS X (.Try body [.ExceptHandler (some (.Name x np)) none (b0 :: suite) pos'] [] [] pos) (tS C (exS C.cl (.trn bl j bh))) := by
  obtain ⟨m1, m2, m3⟩ := g.xc x j hm
  have nm : Names X x (.ref (C.G.xa j)) := ⟨glC_ok c hx, (nmOk_ok hn).1, .inl (by rw [c.mg]; exact m1)⟩
  refine (ps_try_only (tb := fun w => tS (C.wW w) (exB C.cl bl)) (ts := fun a cls d => tS (C.hand a cls d) (exB C.cl bh)) f.stk f.frm nm c.tk hb hh).imp fun D σ H ⟨W, S, ρ, st0, sim, eok, q⟩ => ?_
  unfold exS at q
  refine ⟨W, S, ρ, st0, sim, eok.wW, ?_⟩
  generalize exB C.cl bl ρ S = r at q
  cases r with
  | nx ρ1 S1 => exact fun W' H' σ' st l s e => q W' H' σ' st l s e.unW
  | rt d S1 => exact q
  | bad => exact q
  | er xc ρ1 S1 =>
    intro W1 H1 cls d σ1 st1 l1 s1 e1 xr
    obtain ⟨ec, hlt, _⟩ := id xr
    refine ⟨C.cl.sub xc.c j, by rw [ec, c.K]; exact (g.xs _ _ hlt m3).1, fun hb a ha => ?_, fun hb => ?_⟩
    · dsimp only at q
      rw [if_pos hb] at q
      refine ⟨W1, S1, ρ1, st1, s1, e1.unW.hand0 (c.ce hk), ?_⟩
      show SRP (C.hand a cls d) W1 _ (exB C.cl bh ρ1 S1)
      generalize exB C.cl bh ρ1 S1 = r at q
      cases r with
      | nx ρ2 S2 => exact fun W' H' σ' st l s e => q W' H' _ st (l1.trans l) s e.unhand0
      | rt d S2 => exact q
      | er _ _ _ => exact False.elim q
      | bad => exact q
    · dsimp only at q
      rw [if_neg (by rw [hb]; decide)] at q
      exact q W1 H1 cls d σ1 st1 l1 s1 e1.unW xr
end
end DI
set_option Elab.async false
set_option linter.all false
set_option maxRecDepth 100000
set_option maxHeartbeats 4000000
/-! DG: for x in xs: o.setdefault(k, []).append(v). -/
namespace DI
open PySem PySem.Spec PyProof.Rows L2
/-- an object that nothing known speaks of -/
structure Fr (C : Ct) (W : Wd) (H : Hp) (ρ : Ev) (σ : L2.St) (q : Addr) : Prop where
  s : H q ≠ none
  t : Pln (H q)
  f : W.F q = none
  a : ∀ k, k < W.n → q ≠ W.A k
  h : C.H0 q = none
  o : ∀ (j : Nat) (o : Ob), ρ[j]? = some (.own o) → σ[j]? ≠ some (some (.ref q))
section
variable {C : Ct} {W W' : Wd} {H H' : Hp} {ρ : Ev} {σ : L2.St} {q : Addr} {S : Store}
theorem Fr.same (h : Fr C W H ρ σ q) (s : Stp W H W' H') : H' q = H q := by
  cases e : H q with
  | none => exact absurd e h.s
  | some u => exact s.keep q u e h.a fun ps z => h.t.1 ps (by rw [e, z])
theorem Fr.mv (h : Fr C W H ρ σ q) (s : Stp W H W' H') : Fr C W' H' ρ σ q where
  s := by rw [h.same s]; exact h.s
  t := by rw [h.same s]; exact h.t
  f := by
    cases e : W'.F q with
    | none => rfl
    | some u =>
      rcases s.nF q (by rw [e]; simp) with z | z
      · exact absurd h.f z
      · exact absurd z h.s
  a := fun k hk z => by
    by_cases l : k < W.n
    · exact h.a k l (by rw [z, s.le.A k l])
    · have := s.nA k (Nat.not_lt.mp l) hk
      rw [← z] at this
      exact h.s this
  h := h.h
  o := h.o
theorem Fr.upd {p : Addr} {u : HO} (h : Fr C W H ρ σ q) (hu : Pln (some u)) : Fr C W (upd H p u) ρ σ q where
  s := by
    by_cases e : q = p
    · subst e; rw [upd_same]; simp
    · rw [upd_ne e]; exact h.s
  t := by
    by_cases e : q = p
    · subst e; rw [upd_same]; exact hu
    · rw [upd_ne e]; exact h.t
  f := h.f
  a := h.a
  h := h.h
  o := h.o
/-- what is not at a fresh place stays -/
theorem Eok.oth {u : HO} (e : Eok C W H ρ σ) (n : ∀ (j : Nat) (o : Ob), ρ[j]? = some (.own o) → σ[j]? ≠ some (some (.ref q))) : Eok C W (upd H q u) ρ σ where
  len := e.len
  val := e.val
  own := fun i o h => by
    obtain ⟨p, a, b, r⟩ := e.own i o h
    refine ⟨p, a, b.mv fun x hx _ => ?_, r⟩
    rw [upd_ne fun z => n i o h (by rw [a, z])]
    exact hx
  dis := e.dis
  exc := e.exc
theorem Fr.new {u : HO} (sim : Sim C.G W S H) (eok : Eok C W H ρ σ) (st : Stp C.W0 C.H0 W H) (n : H q = none) (hu : Pln (some u)) : Fr C W (L2.upd H q u) ρ σ q where
  s := by rw [upd_same]; simp
  t := by rw [upd_same]; exact hu
  f := by
    cases e : W.F q with
    | none => rfl
    | some o => rw [sim.fz q o e] at n; cases n
  a := fun k hk z => by
    have hl : k < S.length := by rw [← sim.len]; exact hk
    have := (sim.ob k _ (List.getElem?_eq_getElem hl)).some
    rw [← z] at this
    exact this n
  h := by
    cases e : C.H0 q with
    | none => rfl
    | some o => exact absurd n (st.dom q (by rw [e]; simp))
  o := fun j o h z => by
    obtain ⟨p, a, b, _⟩ := eok.own j o h
    rw [z] at a
    cases a
    exact b.some n
end
/-- the groups l, the dict's entries us -/
def GRep (G : Gx) (W : Wd) (H : Hp) : List (Key × D) → List (Key × V) → Prop
  | [], us => us = []
  | (k, d) :: r, us => ∃ (q : Addr) (vs : List V) (xs : List D) (t : List (Key × V)), us = (k, .ref q) :: t ∧ d = .lst xs ∧ H q = some (.lst vs) ∧ Reps G W xs vs ∧ GRep G W H r t
def refU : V → Option Addr
  | .ref q => some q
  | _ => none
def refsU (us : List (Key × V)) : List Addr := us.filterMap fun p => refU p.2
theorem refsU_cons (k : Key) (q : Addr) (t : List (Key × V)) : refsU ((k, .ref q) :: t) = q :: refsU t := rfl
theorem refsU_app (k : Key) (q : Addr) (t : List (Key × V)) : refsU (t ++ [(k, .ref q)]) = refsU t ++ [q] := by
  unfold refsU
  rw [List.filterMap_append]
  rfl
section
variable {G : Gx} {W W' : Wd} {H H' : Hp}
theorem GRep.mv (le : Wle W W') : ∀ {l : List (Key × D)} {us : List (Key × V)}, GRep G W H l us → (∀ q ∈ refsU us, H' q = H q) → GRep G W' H' l us
  | [], us, h, _ => h
  | (k, d) :: r, us, h, s => by
    obtain ⟨q, vs, xs, t, rfl, e2, e3, e4, e5⟩ := h
    rw [refsU_cons] at s
    exact ⟨q, vs, xs, t, rfl, e2, by rw [s q (by simp)]; exact e3, e4.le le, GRep.mv le e5 fun a ha => s a (by simp [ha])⟩
theorem GRep.len : ∀ {l : List (Key × D)} {us : List (Key × V)}, GRep G W H l us → us.length = l.length
  | [], us, h => by rw [show us = [] from h]; rfl
  | (k, d) :: r, us, h => by
    obtain ⟨q, vs, xs, t, rfl, _, _, _, e5⟩ := h
    simp [e5.len]
theorem push_rep {k : Key} {v : D} : ∀ {l l' : List (Key × D)} {us : List (Key × V)}, GRep G W H l us → (refsU us).Nodup → pushK k v l = some l' →
    (∃ (q : Addr) (vs : List V) (xs : List D), valV us k = some (.ref q) ∧ q ∈ refsU us ∧ H q = some (.lst vs) ∧ Reps G W xs vs ∧ xs.length < lim ∧ ∀ w, Reps G W (xs ++ [v]) w → GRep G W (upd H q (.lst w)) l' us) ∨
    (valV us k = none ∧ ∀ (q : Addr) (w : List V) (H' : Hp), Reps G W [v] w → H' q = some (.lst w) → (∀ a ∈ refsU us, H' a = H a) → GRep G W H' l' (us ++ [(k, .ref q)]))
  | [], l', us, h, _, e => by
    have h' : us = [] := h
    subst h'
    cases e
    refine .inr ⟨rfl, fun q w H' r hq _ => ⟨q, w, [v], [], rfl, rfl, hq, r, rfl⟩⟩
  | (a, d) :: r, l', us, h, nd, e => by
    obtain ⟨q, vs, xs, t, rfl, rfl, e3, e4, e5⟩ := h
    rw [refsU_cons, List.nodup_cons] at nd
    unfold pushK at e
    by_cases hk : a = k
    · rw [if_pos hk] at e
      dsimp only at e
      split at e
      · rename_i hl
        cases e
        refine .inl ⟨q, vs, xs, valV_pos hk, by simp [refsU_cons], e3, e4, hl, fun w rw' => ?_⟩
        refine ⟨q, w, xs ++ [v], t, rfl, rfl, upd_same, rw', e5.mv (.refl _) fun b hb => ?_⟩
        rw [upd_ne fun z => nd.1 (by rw [← z]; exact hb)]
      · cases e
    · rw [if_neg hk] at e
      obtain ⟨l2, e1, rfl⟩ := Option.map_eq_some_iff.mp e
      rcases push_rep e5 nd.2 e1 with ⟨q2, vs2, xs2, f1, f2, f3, f4, f5, f6⟩ | ⟨f1, f2⟩
      · refine .inl ⟨q2, vs2, xs2, by rw [valV_neg hk]; exact f1, by rw [refsU_cons]; exact List.mem_cons_of_mem _ f2, f3, f4, f5, fun w r2 => ?_⟩
        refine ⟨q, vs, xs, t, rfl, rfl, ?_, e4, f6 w r2⟩
        rw [upd_ne fun z => nd.1 (by rw [z]; exact f2)]
        exact e3
      · refine .inr ⟨by rw [valV_neg hk]; exact f1, fun q2 w H' r2 hq hs => ?_⟩
        rw [refsU_cons] at hs
        exact ⟨q, vs, xs, t ++ [(k, .ref q2)], rfl, rfl, by rw [hs q (by simp)]; exact e3, e4, f2 q2 w H' r2 hq fun b hb => hs b (by simp [hb])⟩
end
section
variable {C : Ct} {H : Hp} {σ : L2.St} {S : Store}
/-- the groups are frozen -/
theorem grp_fz {ρ : Ev} : ∀ {l : List (Key × D)} {us : List (Key × V)} {W : Wd}, GRep C.G W H l us → (refsU us).Nodup → (∀ q ∈ refsU us, Fr C W H ρ σ q) → Sim C.G W S H → Stp C.W0 C.H0 W H → Eok C W H ρ σ →
    ∃ W', Wle W W' ∧ W'.n = W.n ∧ W'.A = W.A ∧ (∀ a, a ∉ refsU us → W'.F a = W.F a) ∧ KRep C.G W' l us ∧ Sim C.G W' S H ∧ Stp C.W0 C.H0 W' H ∧ Eok C W' H ρ σ
  | [], us, W, h, _, _, s, st, e => by
    have h' : us = [] := h
    subst h'
    exact ⟨W, .refl _, rfl, rfl, fun _ _ => rfl, rfl, s, st, e⟩
  | (k, d) :: r, us, W, h, nd, fr, s, st, e => by
    obtain ⟨q, vs, xs, t, rfl, rfl, e3, e4, e5⟩ := h
    rw [refsU_cons] at nd fr
    rw [List.nodup_cons] at nd
    have f := fr q (by simp)
    have e' : Eok C (W.fz q (.lst vs)) H ρ σ :=
      ⟨e.len, fun i z h => let ⟨v, a, b⟩ := e.val i z h; ⟨v, a, b.le (.fz f.f)⟩, fun i o h => by
        obtain ⟨p, a, b, f2, r2⟩ := e.own i o h
        refine ⟨p, a, b.le (.fz f.f), ?_, r2⟩
        show upd W.F q _ p = none
        rw [upd_ne fun z => f.o i o h (by rw [a, z])]
        exact f2, e.dis, fun i x h => let ⟨a, cls, dd, e1, e2, e3⟩ := e.exc i x h; ⟨a, cls, dd, e1, e2, e3.le (.fz f.f)⟩⟩
    obtain ⟨W', l1, l2, l3, l4, l5, l6, l7, l8⟩ := grp_fz (W := W.fz q (.lst vs)) (e5.mv (.fz f.f) fun _ _ => rfl) nd.2
      (fun b hb => by
        have g := fr b (by simp [hb])
        have nb : b ≠ q := fun z => nd.1 (by rw [← z]; exact hb)
        exact ⟨g.s, g.t, by show upd W.F q _ b = none; rw [upd_ne nb]; exact g.f, g.a, g.h, g.o⟩) (s.fzn e3 (fun _ z => by cases z) f.f f.a) (st.fzn f.h f.f) e'
    refine ⟨W', (Wle.fz f.f).trans l1, l2, l3, fun a ha => ?_, ?_, l6, l7, l8⟩
    · rw [refsU_cons, List.mem_cons, not_or] at ha
      rw [l4 a ha.2]
      show upd W.F q _ a = W.F a
      rw [upd_ne ha.1]
    · refine ⟨.ref q, t, rfl, ⟨q, vs, rfl, ?_, (e4.le (.fz f.f)).le l1⟩, l5⟩
      rw [l4 q nd.1]
      exact upd_same
end
section
variable {C : Ct} {k : Ck} {X : Cx} {pos po ap1 ap2 pc1 pc2 pl pe : Pos}
theorem set_same {σ : L2.St} {j : Nat} {v : Option V} (h : σ[j]? = some v) : σ.set j v = σ := by
  refine List.ext_getElem? fun i => ?_
  by_cases e : j = i
  · subst e
    have hl := (List.getElem?_eq_some_iff.mp h).1
    rw [List.getElem?_set_self hl, h]
  · rw [List.getElem?_set_ne e]
theorem noErr_ok {α : Type} {r : R α} {f : α → Store → RS} {ρ : Ev} {W : Wd} {D : Ends} (h : SRP C W D (RS.of ρ (noErr r) f)) : ∃ a S, r = .ok a S ∧ SRP C W D (f a S) := by
  cases r with
  | ok a S => exact ⟨a, S, rfl, h⟩
  | err x S => exact False.elim h
  | bad => exact False.elim h
theorem bindNs_own {i : Nat} {o : Ob} : ∀ {is : List Nat} {ds : List D} {ρ ρ' : Ev}, bindNs is ds ρ = some ρ' → ρ'[i]? = some (.own o) → ρ[i]? = some (.own o) ∧ i ∉ is
  | [], [], ρ, ρ', h, e => by cases h; exact ⟨e, by simp⟩
  | [], _ :: _, _, _, h, _ => by cases h
  | _ :: _, [], _, _, h, _ => by cases h
  | a :: r, d :: ds, ρ, ρ', h, e => by
    have h : (if a < ρ.length then bindNs r ds (ρ.set a (.val d)) else none) = some ρ' := h
    split at h
    · rename_i hl
      obtain ⟨h1, h2⟩ := bindNs_own h e
      by_cases q : a = i
      · subst q
        rw [List.getElem?_set_self hl] at h1
        cases h1
      · rw [List.getElem?_set_ne q] at h1
        exact ⟨h1, by simp only [List.mem_cons, not_or]; exact ⟨fun z => q z.symm, h2⟩⟩
    · cases h
theorem bindP_own {i : Nat} {o : Ob} {p : Pat} {d : D} {ρ ρ' : Ev} (h : bindP p d ρ = some ρ') (e : ρ'[i]? = some (.own o)) : ρ[i]? = some (.own o) ∧ i ∉ p.slots := by
  cases p with
  | nm a =>
    have h : (if a < ρ.length then some (ρ.set a (.val d)) else none) = some ρ' := h
    split at h
    · rename_i hl
      cases h
      by_cases q : a = i
      · subst q
        rw [List.getElem?_set_self hl] at e
        cases e
      · rw [List.getElem?_set_ne q] at e
        exact ⟨e, by simp only [Pat.slots, List.mem_singleton]; exact fun z => q z.symm⟩
    · cases h
  | tp is =>
    cases d with
    | tup ds => exact bindNs_own h e
    | _ => cases h
theorem Fr.bind {W : Wd} {H : Hp} {ρ ρ' : Ev} {σ σ' : L2.St} {q : Addr} {p : Pat} {d : D} (f : Fr C W H ρ σ q) (h : bindP p d ρ = some ρ') (s : ∀ (j : Nat), j ∉ p.slots → σ'[j]? = σ[j]?) : Fr C W H ρ' σ' q :=
  ⟨f.s, f.t, f.f, f.a, f.h, fun j o e => by
    obtain ⟨e1, e2⟩ := bindP_own h e
    rw [s j e2]
    exact f.o j o e1⟩
theorem rbind_ok {α β : Type} {r : R α} {f : α → Store → R β} {b : β} {S : Store} (h : r.bind f = .ok b S) : ∃ a S1, r = .ok a S1 ∧ f a S1 = .ok b S := by
  cases r with
  | ok a S1 => exact ⟨a, S1, rfl, h⟩
  | err x S1 => cases h
  | bad => cases h
/-- what is known between two turns -/
def GSt (C : Ct) (f : D → Ev → Store → R (Ev × Key × D)) (w : List D × Option Nat) (ρ0 : Ev) (j : Nat) (p : Addr) (W1 : Wd) (De : Ends) (i : Nat) (σ : L2.St) (H : Hp) : Prop :=
  ∃ (W2 : Wd) (S2 : Store) (ρ2 : Ev) (l : List (Key × D)) (us : List (Key × V)), Stp C.W0 C.H0 W2 H ∧ Wle W1 W2 ∧ Sim C.G W2 S2 H ∧ Eok C W2 H ρ2 σ ∧ σ[j]? = some (some (.ref p)) ∧ Fr C W2 H ρ2 σ p ∧ H p = some (.dK us) ∧ GRep C.G W2 H l us ∧ (p :: refsU us).Nodup ∧
    (∀ q ∈ refsU us, Fr C W2 H ρ2 σ q) ∧ SRP C W2 De (RS.of ρ0 (noErr (grpL f w (w.1.drop i) ρ2 S2 l)) fun q S => .nx (q.1.set j (.own (.dic q.2))) S)
theorem s_grp {pt : Pat} {it : Itx} {tg iter kx vx : Expr} {ck cv : Ex} {j : Nat} {o : Str} (c : Cok C k X) (hk : k.calm = true) (pw : PassesOwn (model X.prog X.w) X.A X.env X.xe) (hi : PI X tg iter (tI C pt it)) (hp : patC k pt tg = true) (hs : plainS iter = true)
    (hj : varC k j o = true) (nj : j ∉ pt.slots) (hkx : PE X kx (tE C false ck)) (hvx : PE X vx (tE C false cv)) (pk : plainA kx = true) (pv : plainA vx = true) (l1 : (ap1.endLine == pc1.line) = true) (l2 : (ap2.endLine == pc2.line) = true) :
    PS X (.For tg iter [.Expr (.Call (.Attribute (.Call (.Attribute (.Name o po) "setdefault" ap1) [kx, .List [] pl] [] pc1) "append" ap2) [vx] [] pc2) pe] [] pos) (tS C (exS C.cl (.grp j pt it ck cv))) := by
  obtain ⟨n1, n2, n3, n4⟩ := varC_ok c hj
  have allp : [kx, Expr.List [] pl].all plainA = true := by rw [List.all_cons, pk]; rfl
  have hm2 : M2 X (.Name o po) "setdefault" ap1 kx (.List [] pl) pc1 := ⟨rfl, few_of allp (by simp) _ _, l1, by rw [star_of pk]; rfl⟩
  have hbody := pss_cons (ps_expr (pos := pe) (pe_bm (apos := ap2) (cpos := pc2) F.plainAttrs_list F.slot_list_append F.type_list_append (mt_ch (G := C.G) (m := .app) c.K.symm) (pe_dsetd (pe_var (pos := po) n1 n2 n3 n4) hkx (pe_lst (pos := pl) pa_nil) hm2) (r_acons pv hvx r_anil) rfl (few_of (es := [vx]) (by simp [pv]) (by simp) _ _) l2 (star_of pv _) (noStar (by rfl) _ _)) rfl) pss_nil
  refine (ps_for pw (c.hc hk) hi (g_pat c hp) hbody (folded_of hs X.env)).imp fun De σ H ⟨W, S, ρ, st0, sim, eok, q⟩ => ?_
  unfold exS at q
  split at q
  · exact False.elim q
  · rename_i hso
    split at q
    · rename_i eo
      obtain ⟨w, S1, ee, q⟩ := noErr_ok q
      obtain ⟨p, sp, ob, pF, pA, p0, _⟩ := eok.own j _ (ownAt_some eo)
      obtain ⟨us0, hp0, kr0⟩ := ob
      have kr0 : us0 = [] := kr0
      subst kr0
      have eok0 : Eok C W H (ρ.set j .un) σ := eok.kill [j] rfl fun _ _ => rfl
      have fr0 : Fr C W H (ρ.set j .un) σ p := by
        refine ⟨by rw [hp0]; simp, (by rw [hp0]; exact .dK), pF, pA, p0, fun i o' h z => ?_⟩
        by_cases e : j = i
        · subst e
          have hl := (List.getElem?_eq_some_iff.mp h).1
          rw [List.getElem?_set_self (by simpa using hl)] at h
          cases h
        · rw [List.getElem?_set_ne e] at h
          exact e (eok.dis j i _ _ p (ownAt_some eo) h sp z)
      unfold tFor
      refine ⟨W, S, ρ.set j .un, sim, eok0, ?_⟩
      rw [ee]
      intro W1 H1 J st1 sim1 itok
      refine ⟨fun i m σ H => m = w.1.length - i ∧ i ≤ w.1.length ∧ GSt C (grpF (ev C.cl ck) (ev C.cl cv) pt) w ρ j p W1 De i σ H, ⟨w.1.length, rfl, Nat.zero_le _, W1, S1, ρ.set j .un, [], [], st0.trans st1, .refl _, sim1, eok0.mv st1, sp, fr0.mv st1, by rw [fr0.same st1]; exact hp0, rfl, by simp [refsU], fun q hq => by simp [refsU] at hq, by rw [List.drop_zero]; exact SRP.le q st1.le⟩, ?_⟩
      rintro i m σ2 H2 ⟨rfl, hil, W2, S2, ρ2, l, us, st2, le2, sim2, eok2, sp2, fr2, hp2, gr2, nd2, frs2, q2⟩
      obtain ⟨z2, Sz, eg, q2⟩ := noErr_ok q2
      have hsr : srcOk S2 w.2 w.1 = true := by
        cases e : w.1.drop i with
        | nil => rw [e] at eg; unfold grpL at eg; split at eg; assumption; cases eg
        | cons d r => rw [e] at eg; unfold grpL at eg; split at eg; assumption; cases eg
      obtain ⟨it1, it2⟩ := itok W2 S2 H2 le2 sim2 hsr fun a o ⟨z, _⟩ => absurd z hso
      by_cases hlt : i < w.1.length
      · have ed : w.1.drop i = w.1[i] :: w.1.drop (i + 1) := List.drop_eq_getElem_cons hlt
        rw [ed] at eg
        unfold grpL at eg
        rw [if_pos hsr] at eg
        obtain ⟨go, yl⟩ := it1 i w.1[i] (List.getElem?_eq_getElem hlt)
        refine .inr ⟨go, fun σ' H' => GSt C (grpF (ev C.cl ck) (ev C.cl cv) pt) w ρ j p W1 De (i + 1) σ' H', fun σ' H' n => ⟨_, by omega, rfl, hlt, n⟩, fun x Hy y => ?_⟩
        obtain ⟨W3, st3, sim3, yr⟩ := yl x Hy y
        unfold grpF at eg
        cases eb : bindP pt w.1[i] ρ2 with
        | none => rw [eb] at eg; cases eg
        | some ρ3 =>
          rw [eb] at eg
          refine bindP_ok c.K.symm (eok2.mv st3) yr eb fun σ3 e3 ln3 sm3 => ?_
          have sp3 : σ3[j]? = some (some (.ref p)) := by rw [sm3 j nj]; exact sp2
          dsimp only at eg
          obtain ⟨qq, S5, e5, eg⟩ := rbind_ok eg
          obtain ⟨kd, S4, ek, e5⟩ := rbind_ok e5
          split at e5
          · rename_i key hkey
            obtain ⟨vd, S5', ev', e5⟩ := rbind_ok e5
            cases e5
            split at eg
            · rename_i hlen
              split at eg
              · rename_i l' hl'
                have stA := st2.trans st3
                have frp := (fr2.mv st3).bind eb sm3
                have frq : ∀ q ∈ refsU us, Fr C W3 Hy ρ3 σ3 q := fun q hq => ((frs2 q hq).mv st3).bind eb sm3
                have hp3 : Hy p = some (.dK us) := by rw [fr2.same st3]; exact hp2
                have gr3 : GRep C.G W3 Hy l us := gr2.mv st3.le fun q hq => (frs2 q hq).same st3
                refine ⟨.ref p, sp3, p, rfl, .inl ⟨us, .inl hp3⟩, W3, S2, ρ3, sim3, e3, ?_⟩
                rw [ek]
                intro W4 H4 y st4 sim4 pv4
                refine ⟨Nat.zero_le _, fun q0 hq0 => ?_⟩
                have stB := stA.trans st4
                have eok4 := e3.mv st4
                have frp4 := frp.mv st4
                have frq4 : ∀ q ∈ refsU us, Fr C W4 H4 ρ3 σ3 q := fun q hq => (frq q hq).mv st4
                have hp4 : H4 p = some (.dK us) := by rw [frp.same st4]; exact hp3
                have gr4 : GRep C.G W4 H4 l us := gr3.mv st4.le fun q hq => (frq q hq).same st4
                have np : p ≠ q0 := fun z => by rw [z, hq0] at hp4; cases hp4
                have nq : ∀ q ∈ refsU us, q ≠ q0 := fun q hq z => (frq4 q hq).s (by rw [z]; exact hq0)
                have nd2' := List.nodup_cons.mp nd2
                have yk : y = kV key := keyD_rep (H := H4) (.inl pv4.rep) hkey
                have fr0' : Fr C W4 (upd H4 q0 (.lst [])) ρ3 σ3 q0 := .new sim4 eok4 stB hq0 .lst
                have push4 : Stp W4 H4 W4 (upd H4 q0 (.lst [])) := .push hq0
                refine ⟨us, key, by rw [upd_ne np]; exact hp4, yk, ?_, fun v hv => ?_, fun hn => ?_⟩
                · rw [gr4.len]
                  exact Nat.lt_of_lt_of_le hlen (lim_le (Nat.le_refl _))
                · -- the group is there
                  rcases push_rep gr4 nd2'.2 hl' with ⟨q, vs, xs, f1, f2, f3, f4, f5, _⟩ | ⟨f1, _⟩
                  · rw [f1] at hv
                    cases hv
                    have hq3 : upd H4 q0 (.lst []) q = some (.lst vs) := by rw [upd_ne (nq q f2)]; exact f3
                    refine ⟨.inl ⟨rfl, vs, .of hq3⟩, W4, S4, ρ3, sim4.push hq0, eok4.mv push4, ?_⟩
                    have ee : evs C.cl (.cons cv .nil) ρ3 S4 = .ok [vd] S5 := by
                      show (ev C.cl cv ρ3 S4).bind _ = _
                      rw [ev']
                      rfl
                    rw [ee]
                    intro W5 H5 ws st5 sim5 rs5
                    have st45 := push4.trans st5
                    have frq5 : ∀ q ∈ refsU us, Fr C W5 H5 ρ3 σ3 q := fun q hq => (frq4 q hq).mv st45
                    have frp5 := frp4.mv st45
                    have gr5 : GRep C.G W5 H5 l us := gr4.mv st45.le fun q hq => (frq4 q hq).same st45
                    rcases push_rep gr5 nd2'.2 hl' with ⟨q', vs', xs', g1, g2, g3, g4, g5, g6⟩ | ⟨g1, _⟩
                    · rw [f1] at g1
                      cases g1
                      refine ⟨W5, q, xs', [vd], .non, .lst (xs' ++ [vd]), rfl, sim5.fz, ⟨vs', g3, g4⟩, rs5, if_pos g5, fun _ u _ ro _ => ?_⟩
                      obtain ⟨u', hu, ru⟩ := ro
                      rw [upd_same] at hu
                      cases hu
                      have nl : Pln (some (HO.lst u')) := .lst
                      have fq := frq5 q f2
                      have npq : p ≠ q := fun z => nd2'.1 (by rw [z]; exact f2)
                      refine ⟨W5, S5, ρ3, l', us, ((stB.trans push4).trans st5).other fq.h fq.s, le2.trans ((st3.le.trans st4.le).trans st5.le), sim5.other fq.f fq.a fq.t, (eok4.mv st45).oth fq.o, sp3, frp5.upd nl, by rw [upd_ne npq, frp4.same st45]; exact hp4, g6 u' ru, nd2, fun b hb => (frq5 b hb).upd nl, ?_⟩
                      rw [show grpL (grpF (ev C.cl ck) (ev C.cl cv) pt) w (w.1.drop (i + 1)) ρ3 S5 l' = .ok z2 Sz from eg]
                      exact SRP.le q2 ((st3.le.trans st4.le).trans st5.le)
                    · rw [f1] at g1; cases g1
                  · rw [f1] at hv; cases hv
                · -- a new group
                  rw [putK_new _ hn]
                  have npq : q0 ≠ p := np.symm
                  have nd4 : Pln (some (HO.dK (us ++ [(key, V.ref q0)]))) := .dK
                  have simD : Sim C.G W4 S4 (upd (upd H4 q0 (.lst [])) p (.dK (us ++ [(key, .ref q0)]))) := (sim4.push hq0).other frp4.f frp4.a (by rw [upd_ne np]; exact frp4.t)
                  have stD : Stp C.W0 C.H0 W4 (upd (upd H4 q0 (.lst [])) p (.dK (us ++ [(key, .ref q0)]))) := (stB.trans push4).other frp4.h (by rw [upd_ne np]; exact frp4.s)
                  have eokD : Eok C W4 (upd (upd H4 q0 (.lst [])) p (.dK (us ++ [(key, .ref q0)]))) ρ3 σ3 := (eok4.mv push4).oth frp4.o
                  have f0D := fr0'.upd (p := p) nd4
                  have fpD : Fr C W4 (upd (upd H4 q0 (.lst [])) p (.dK (us ++ [(key, .ref q0)]))) ρ3 σ3 p := (frp4.mv push4).upd nd4
                  have fqD : ∀ q ∈ refsU us, Fr C W4 (upd (upd H4 q0 (.lst [])) p (.dK (us ++ [(key, .ref q0)]))) ρ3 σ3 q := fun q hq => ((frq4 q hq).mv push4).upd nd4
                  have npr : ∀ q ∈ refsU us, q ≠ p := fun q hq z => nd2'.1 (by rw [← z]; exact hq)
                  have h0D : upd (upd H4 q0 (.lst [])) p (.dK (us ++ [(key, .ref q0)])) q0 = some (.lst []) := by rw [upd_ne npq, upd_same]
                  refine ⟨.inl ⟨rfl, [], .of h0D⟩, W4, S4, ρ3, simD, eokD, ?_⟩
                  have ee : evs C.cl (.cons cv .nil) ρ3 S4 = .ok [vd] S5 := by
                    show (ev C.cl cv ρ3 S4).bind _ = _
                    rw [ev']
                    rfl
                  rw [ee]
                  intro W5 H5 ws st5 sim5 rs5
                  have f05 := f0D.mv st5
                  refine ⟨W5, q0, [], [vd], .non, .lst ([] ++ [vd]), rfl, sim5.fz, ⟨[], by rw [f0D.same st5]; exact h0D, rfl⟩, rs5, rfl, fun _ u _ ro _ => ?_⟩
                  obtain ⟨u', hu, ru⟩ := ro
                  rw [upd_same] at hu
                  cases hu
                  have nl : Pln (some (HO.lst u')) := .lst
                  have gr5 : GRep C.G W5 H5 l us := gr4.mv st5.le fun q hq => by rw [(fqD q hq).same st5, upd_ne (npr q hq), upd_ne (nq q hq)]
                  have hnew : GRep C.G W5 (upd H5 q0 (.lst u')) l' (us ++ [(key, .ref q0)]) := by
                    rcases push_rep gr5 nd2'.2 hl' with ⟨q', _, _, g1, _⟩ | ⟨_, g2⟩
                    · rw [hn] at g1; cases g1
                    · exact g2 q0 u' _ ru upd_same fun b hb => upd_ne (nq b hb)
                  refine ⟨W5, S5, ρ3, l', us ++ [(key, .ref q0)], (stD.trans st5).other f05.h f05.s, le2.trans ((st3.le.trans st4.le).trans st5.le), sim5.other f05.f f05.a f05.t, (eokD.mv st5).oth f05.o, sp3, (fpD.mv st5).upd nl, by rw [upd_ne np, fpD.same st5, upd_same], hnew, ?_, fun b hb => ?_, ?_⟩
                  · rw [refsU_app, ← List.cons_append, List.nodup_append]
                    refine ⟨nd2, by simp, fun a ha b hb => ?_⟩
                    rw [List.mem_singleton.mp hb]
                    rcases List.mem_cons.mp ha with z | z
                    · rw [z]; exact np
                    · exact nq a z
                  · rw [refsU_app] at hb
                    rcases List.mem_append.mp hb with hb | hb
                    · exact ((fqD b hb).mv st5).upd nl
                    · rw [List.mem_singleton.mp hb]
                      exact f05.upd nl
                  · rw [show grpL (grpF (ev C.cl ck) (ev C.cl cv) pt) w (w.1.drop (i + 1)) ρ3 S5 l' = .ok z2 Sz from eg]
                    exact SRP.le q2 ((st3.le.trans st4.le).trans st5.le)
              · cases eg
            · cases eg
          · cases e5
      · have ei : i = w.1.length := by omega
        subst ei
        rw [List.drop_length] at eg
        unfold grpL at eg
        rw [if_pos hsr] at eg
        cases eg
        rw [List.nodup_cons] at nd2
        obtain ⟨W', m1, m2, m3, m4, m5, m6, m7, m8⟩ := grp_fz gr2 nd2.2 frs2 sim2 st2 eok2
        refine .inl ⟨it2, ?_⟩
        have hjl : j < ρ2.length := by rw [eok2.len]; exact (List.getElem?_eq_some_iff.mp sp2).1
        have eF : W'.F p = none := by rw [m4 p nd2.1]; exact fr2.f
        have own := m8.setOwn (i := j) (o := .dic l) (p := p) hjl ⟨⟨us, hp2, m5⟩, eF, fun k hk => by rw [m3]; rw [m2] at hk; exact fr2.a k hk⟩ fr2.h (obOf_toD_dic l) fr2.o
        rw [set_same sp2] at own
        exact q2 W' H2 σ2 m7 m1 m6 own
    · exact False.elim q
end
end DI
set_option Elab.async false
set_option linter.all false
set_option maxRecDepth 100000
set_option maxHeartbeats 4000000
/-! DT2: del d[k], d an own dict. -/
namespace DI
open PySem PySem.Spec PyProof.Rows L2
section
variable {C : Ct} {k : Ck} {X : Cx} {b : Expr} {cb : Ex} {pos : Pos}
theorem delM_out {o o' : Ob} {x : DI.D} (h : delM o x = some o') : obOf o'.toD = some o' := by
  unfold delM at h
  split at h
  · obtain ⟨kk, _, e⟩ := Option.bind_eq_some_iff.mp h
    split at e
    · cases e; exact obOf_toD_dic _
    · cases e
  · cases h
theorem s_delo {j : Nat} {x : Str} {p p2 : Pos} (c : Cok C k X) (hx : varC k j x = true) (hb : PE X b (tE C false cb)) :
    PS X (.Delete [.Subscript (.Name x p2) b p] pos) (tS C (exS C.cl (.delo j cb))) := by
  obtain ⟨h1, h2, h3, h4⟩ := varC_ok c hx
  refine (ps_ddel (pe_var h1 h2 h3 h4) hb).imp fun D σ H ⟨W, S, ρ, st0, sim, eok, q⟩ => ?_
  unfold exS at q
  unfold sDDel
  obtain ⟨o, e, q1⟩ := q.opt
  split at q1
  case isFalse => exact q1.elim
  have e := ownAt_some e
  obtain ⟨p, a, _⟩ := eok.own j o e
  refine ⟨_, a, tG.of st0 sim eok q1 fun W2 S2 H2 y z st' st2 sim2 eok2 pv2 q2 => ?_⟩
  obtain ⟨o', e2, q2⟩ := q2.opt
  obtain ⟨p', a', b', f', n', h0', ho'⟩ := eok2.own j o e
  rw [a] at a'
  cases a'
  have ou := delM_out e2
  unfold delM at e2
  split at e2
  · rename_i kvs
    obtain ⟨key, hk, e3⟩ := Option.bind_eq_some_iff.mp e2
    split at e3
    · rename_i hl
      cases e3
      obtain ⟨us, hp, r⟩ := b'
      have zz := keyD_rep (H := H2) (.inl pv2.rep) hk
      refine ⟨p, us, key, rfl, hp, zz, ?_, ?_⟩
      · rcases look_rep key r with ⟨z1, z2⟩ | ⟨d', w, z1, z2, z3⟩
        · rw [z1] at hl; cases hl
        · rw [z2] <;> rfl
      · exact q2 W2 _ σ (st2.other h0' (by rw [hp]; simp)) (.refl _) (sim2.other f' n' (by rw [hp]; exact .dK)) (eok2.chOwn e a ⟨_, upd_same, krep_drop r⟩ ou)
    · cases e3
  · cases e2
/-- d.pop(k), its value let go -/
theorem s_dpop {j : Nat} {x : Str} {p apos cpos : Pos} (c : Cok C k X) (hx : varC k j x = true) (hl : (apos.endLine == cpos.line) = true) (hp : plainA b = true) (hb : PE X b (tE C false cb)) :
    PS X (.Expr (.Call (.Attribute (.Name x p) "pop" apos) [b] [] cpos) pos) (tS C (exS C.cl (.delo j cb))) := by
  obtain ⟨h1, h2, h3, h4⟩ := varC_ok c hx
  have m1 : M1 X (.Name x p) "pop" apos b cpos := ⟨rfl, few_of (es := [b]) (by rw [List.all_cons, hp]; rfl) (by simp) _ _, hl, by rw [star_of hp]; rfl⟩
  refine (ps_expr (pe_dpop1 (pe_var h1 h2 h3 h4) hb m1) rfl).imp fun D σ H ⟨W, S, ρ, st0, sim, eok, q⟩ => ?_
  unfold exS at q
  obtain ⟨o, e, q1⟩ := q.opt
  have e := ownAt_some e
  obtain ⟨p, a, at0, _⟩ := eok.own j o e
  split at q1
  case isFalse => exact q1.elim
  rename_i hd
  cases o with
  | dic kvs =>
    obtain ⟨us0, hp0, _⟩ := at0
    refine ⟨_, a, p, rfl, .inl ⟨us0, .of hp0⟩, tG.of st0 sim eok q1 fun W2 S2 H2 y z st' st2 sim2 eok2 pv2 q2 => ?_⟩
    obtain ⟨o', e2, q2⟩ := q2.opt
    obtain ⟨p', a', b', f', n', h0', ho'⟩ := eok2.own j _ e
    rw [a] at a'
    cases a'
    have ou := delM_out e2
    obtain ⟨key, hk, e3⟩ := Option.bind_eq_some_iff.mp e2
    split at e3
    · rename_i hl
      cases e3
      obtain ⟨us, hp, r⟩ := b'
      have zz := keyD_rep (H := H2) (.inl pv2.rep) hk
      rcases look_rep key r with ⟨z1, z2⟩ | ⟨d', w, z1, z2, z3⟩
      · rw [z1] at hl; cases hl
      · exact ⟨us, key, w, hp, zz, z2, q2 W2 _ σ (st2.other h0' (by rw [hp]; simp)) (.refl _) (sim2.other f' n' (by rw [hp]; exact .dK)) (eok2.chOwn e a ⟨_, upd_same, krep_drop r⟩ ou)⟩
    · cases e3
  | lst _ => cases hd
  | ins _ _ => cases hd
end
end DI
set_option Elab.async false
set_option linter.all false
set_option maxRecDepth 100000
set_option maxHeartbeats 4000000
/-! DT3: x = set(e); if len(x) > 1: .. -/
namespace DI
open PySem PySem.Spec PyProof.Rows L2
section
variable {X : Cx}
def rLenS (X : Cx) : List V → Hp → VK → Prop := fun xs H Q => ∃ (a : Addr) (ns : List Int) (n : Nat), xs = [V.ref a] ∧ H a = some (SetO X.w a (memS ns) n) ∧ Q (.int ((ddI ns).length : Nat)) H
theorem cr_lenS : CallR X (.builtin "len") (rLenS X) := by
  intro pins s σ H xs us Q I r h
  obtain ⟨a, ns, n, rfl, ha, q⟩ := h
  obtain rfl := Vals.ref1 r
  obtain ⟨o, es, ep, t, ho, hex, hd, hg, nd, mem, few, fit, hn, _⟩ := setO_get I ha
  have len : es.size = (ddI ns).length := by
    have p : (es.toList.map keyOf).Perm (ddI ns) := (List.perm_ext_iff_of_nodup nd (ddI_nodup ns)).2 fun k => by
      rw [← mem k, ddI_mem]; simp
    have := p.length_eq
    rwa [List.length_map, Array.length_toList] at this
  refine call_len_set ho hex hd fit (by unfold scanBound at few; omega) ?_
  exact ⟨.int ((ddI ns).length : Nat), H, I.tok _, ⟨_, by rw [len]⟩, q⟩
end
theorem Eok.un {C : Ct} {W : Wd} {H : Hp} {ρ : Ev} {σ : L2.St} (e : Eok C W H ρ σ) (i : Nat) (z : Option V) : Eok C W H (ρ.set i .un) (σ.set i z) where
  len := by simpa using e.len
  val := fun j y q => by
    rcases set_get q with ⟨rfl, z⟩ | ⟨n, q⟩
    · cases z
    · rw [List.getElem?_set_ne n]; exact e.val j y q
  own := fun j o' q => by
    rcases set_get q with ⟨rfl, z⟩ | ⟨n, q⟩
    · cases z
    · rw [List.getElem?_set_ne n]; exact e.own j o' q
  dis := fun j m o1 o2 p' q1 q2 q3 q4 => by
    rcases set_get q1 with ⟨rfl, z⟩ | ⟨n1, q1⟩
    · cases z
    · rcases set_get q2 with ⟨rfl, z⟩ | ⟨n2, q2⟩
      · cases z
      · rw [List.getElem?_set_ne n1] at q3
        rw [List.getElem?_set_ne n2] at q4
        exact e.dis j m o1 o2 p' q1 q2 q3 q4
  exc := fun j y q => by
    rcases set_get q with ⟨rfl, z⟩ | ⟨n, q⟩
    · cases z
    · rw [List.getElem?_set_ne n]; exact e.exc j y q
section
variable {C : Ct} {k : Ck} {X : Cx} {a : Expr} {ca : Ex} {body sts : List Stmt} {bl r : Bl}
theorem s_slen {i j : Nat} {x : Str} {p p2 p3 p4 p5 q1 q2 q3 pos pos2 : Pos} (c : Cok C k X) (hk : k.calm = true) (g : Gok C) (hw : wrC k i x = true) (hv : varC k i x = true) (h1 : glC k.sc "set" = true) (h2 : glC k.sc "len" = true) (hp : plainA a = true) (ha : PE X a (tE C false ca))
    (hb : PSs X body (tS C (exB C.cl bl))) (hr : PSs X sts (tS C (exB C.cl r))) :
    PSs X (.Assign [.Name x p] (.Call (.Name "set" p2) [a] [] q1) pos :: .If (.Compare (.Call (.Name "len" p3) [.Name x p4] [] q2) [.Gt] [.Constant (.int 1) j p5] q3) body [] pos2 :: sts) (tS C (exB C.cl (.cons (.slen i ca bl) r))) := by
  have hw' := hw
  unfold wrC at hw'
  rw [Bool.and_eq_true, decide_eq_true_eq] at hw'
  have w := c.wr x hw'.2
  have hN : X.N[i]? = some x := by rw [c.N]; exact hw'.1
  obtain ⟨v1, v2, v3, v4⟩ := varC_ok c hv
  have st := pe_callV (pos := q1) (p := p2) (cr_setI (c.hc hk)) (.inr ⟨_, rfl⟩) (glC_ok c h1) (by rw [c.mg]; exact g.bn _ (by decide +kernel)) (by decide +kernel) (by decide +kernel) (by rw [List.all_cons, hp]; rfl) (pa_one hp ha)
  have s1 : PS X (.Assign [.Name x p] (.Call (.Name "set" p2) [a] [] q1) pos) (tAsg (tCB (rSetI X) (tCons (tE C false ca) tNil)) (gName i)) := ps_set c.nd hN w.1 st rfl w.2
  have ln := pe_callV (pos := q2) (p := p3) (X := X) cr_lenS (.inl ⟨_, rfl⟩) (glC_ok c h2) (by rw [c.mg]; exact g.bn _ (by decide +kernel)) (by decide +kernel) (by decide +kernel) rfl (pa_one rfl (pe_var (pos := p4) v1 v2 v3 v4))
  have s2 := ps_if (pos := pos2) (pt_cmp (pos := q3) (pc_gt ln (pe_int (i := 1) (j := j) (pos := p5)))) hb pss_nil
  refine (pss_cons s1 (pss_cons s2 hr)).imp fun D σ H ⟨W, S, ρ, st0, sim, eok, q⟩ => ?_
  unfold exB at q
  have q := q.seq
  unfold exS at q
  show tAsg _ _ _ σ H
  unfold tAsg tCB tCons tNil
  refine tG.of st0 sim eok q fun W1 S1 H1 d v st st1 sim1 eok1 pv q1 => ?_
  obtain ⟨n, en, q2⟩ := q1.opt
  unfold setN at en
  split at en
  · rename_i xs
    obtain ⟨ns, e1, e2⟩ := Option.bind_eq_some_iff.mp en
    split at e2
    · rename_i hl
      cases e2
      obtain ⟨l, vs, ev', hF, r1⟩ := pv.rep
      have := ints_rep r1 e1
      subst this
      have sq : SqL X.K H1 l (ns.map V.int) := .inl (.inl (sim1.fz _ _ hF))
      refine ⟨l, ns, by rw [ev'], sq, hl, fun b m hm hb => ?_⟩
      have eok2 : Eok C W1 (upd H1 b (SetO X.w b (memS ns) m)) (ρ.set i .un) (σ.set i (some (.ref b))) := (eok1.mv (.push hb)).un i _
      split at q2
      · exact q2.elim
      · rename_i hi
        have hi : i < σ.length := by rw [← eok1.len]; omega
        have sim2 : Sim C.G W1 S1 (upd H1 b (SetO X.w b (memS ns) m)) := sim1.push hb
        have st2 : Stp C.W0 C.H0 W1 (upd H1 b (SetO X.w b (memS ns) m)) := st1.trans (.push hb)
        refine ⟨.ref b, by rw [List.getElem?_set_self hi], b, ns, m, rfl, upd_same, ?_⟩
        refine ⟨((ddI ns).length : Nat), 1, rfl, rfl, decide (((ddI ns).length : Int) > 1), rfl, ?_⟩
        by_cases hn : 1 < (ddI ns).length
        · rw [if_pos hn] at q2
          rw [if_pos (by rw [decide_eq_true_eq]; omega)]
          exact ⟨W1, S1, ρ.set i .un, st2, sim2, eok2, q2⟩
        · rw [if_neg hn] at q2
          rw [if_neg (by rw [decide_eq_true_eq]; omega)]
          exact q2 W1 _ _ st2 (.refl _) sim2 eok2
    · cases e2
  · cases en
end
end DI
set_option Elab.async false
set_option linter.all false
set_option maxRecDepth 100000
set_option maxHeartbeats 4000000
/-! DT4: three names from three expressions at once. -/
namespace DI
open PySem PySem.Spec PyProof.Rows L2
theorem RS.of_bind {α β : Type} (ρ : Ev) (r : R α) (g : α → Store → R β) (f : β → Store → RS) : RS.of ρ (r.bind g) f = RS.of ρ r fun a S => RS.of ρ (g a S) f := by
  cases r <;> rfl
def par3C (k : Ck) (i j l : Nat) (x y z : Str) (px py pz : Pos) (a b d : Expr) : Bool :=
  k.calm && kindF k.sc && decide (k.N[i]? = some x) && decide (k.N[j]? = some y) && decide (k.N[l]? = some z) && decide (k.sc.names.lookup x = some .local) && decide (k.sc.names.lookup y = some .local) && decide (k.sc.names.lookup z = some .local) &&
    decide (x ≠ y) && decide (x ≠ z) && decide (y ≠ z) && (py.line == px.line) && (pz.line == px.line) && !(foldedForSure 8 a) && !(constantsAlone 8 a) && plainA a && plainA b && plainA d
section
variable {C : Ct} {k : Ck} {X : Cx}
theorem sw3 {env : Env} {x y z : Str} {px py pz pt pt2 : Pos} {a b d : Expr} {kt k2 : Nat} (hk : env.blockKind = .function) (hx : env.kindOf x = some .local) (hy : env.kindOf y = some .local) (hz : env.kindOf z = some .local)
    (n1 : x ≠ y) (n2 : x ≠ z) (n3 : y ≠ z) (l1 : (py.line == px.line) = true) (l2 : (pz.line == px.line) = true) (f : foldedForSure 8 a = false) (g : constantsAlone 8 a = false) (pa : plainA a = true) (pb : plainA b = true) (pd : plainA d = true) :
    swappedStores [.Tuple [.Name x px, .Name y py, .Name z pz] kt pt] (.Tuple [a, b, d] k2 pt2) env = pure (some [x, y, z]) := by
  have ia : (match (generalizing := false) a with | .Starred .. => true | _ => false) = false := by cases a <;> first | rfl | cases pa
  have ib : (match (generalizing := false) b with | .Starred .. => true | _ => false) = false := by cases b <;> first | rfl | cases pb
  have id : (match (generalizing := false) d with | .Starred .. => true | _ => false) = false := by cases d <;> first | rfl | cases pd
  have s1 : ([a, b, d].any fun | .Starred .. => true | _ => false) = false := by
    rw [List.any_cons, List.any_cons, List.any_cons, List.any_nil]
    exact Bool.or_eq_false_iff.2 ⟨ia, Bool.or_eq_false_iff.2 ⟨ib, Bool.or_eq_false_iff.2 ⟨id, rfl⟩⟩⟩
  have e1 : [x, y, z].eraseDups = [x, y, z] := by
    simp [List.eraseDups_cons, n1, n2, n3, Ne.symm n1, Ne.symm n2, Ne.symm n3]
  have kk : (some NameKind.local == some NameKind.local) = true := by decide
  have p0 : (px.line == px.line) = true := beq_self_eq_true _
  have hp : (Expr.Name x px).pos = px := rfl
  unfold swappedStores
  simp only [List.length_cons, List.length_nil, hk, s1, List.all_cons, f, g, Bool.false_and, List.head?_cons, Option.map_some, Option.getD_some, List.filterMap_cons, hx, hy, hz, List.filterMap_nil, hp, kk, p0, l1, l2, Bool.true_and, if_true, e1]
  rw [if_neg (by decide), if_neg (by rw [Bool.not_eq_true]; exact s1), if_neg (by decide), if_neg (by decide), if_neg (by decide)]
theorem s_par3 {i j l : Nat} {x y z : Str} {px py pz pt pt2 pos : Pos} {a b d : Expr} {kt k2 : Nat} {cs : Exs} (c : Cok C k X) (h : par3C k i j l x y z px py pz a b d = true) (ha : PA X [a, b, d] (tA C cs)) :
    PS X (.Assign [.Tuple [.Name x px, .Name y py, .Name z pz] kt pt] (.Tuple [a, b, d] k2 pt2) pos) (tS C (exS C.cl (.set (.tp [i, j, l]) (.tup cs)))) := by
  unfold par3C at h
  simp only [Bool.and_eq_true, decide_eq_true_eq, Bool.not_eq_true'] at h
  obtain ⟨⟨⟨⟨⟨⟨⟨⟨⟨⟨⟨⟨⟨⟨⟨⟨⟨hc, hf⟩, hi⟩, hj⟩, hl⟩, hx⟩, hy⟩, hz⟩, n1⟩, n2⟩, n3⟩, l1⟩, l2⟩, f⟩, g⟩, pa⟩, pb⟩, pd⟩ := h
  have sc := c.sc
  have bk : X.env.blockKind = .function := by
    unfold Env.blockKind
    rw [sc, kindF_ok hf]
    rfl
  have kx : X.env.kindOf x = some .local := by unfold Env.kindOf; rw [sc]; exact hx
  have ky : X.env.kindOf y = some .local := by unfold Env.kindOf; rw [sc]; exact hy
  have kz : X.env.kindOf z = some .local := by unfold Env.kindOf; rw [sc]; exact hz
  have ne : ∀ {p q : Nat} {s t : Str}, k.N[p]? = some s → k.N[q]? = some t → s ≠ t → p ≠ q := fun e1 e2 n e => n (by rw [e] at e1; rw [e1] at e2; exact Option.some.inj e2)
  have N := c.N
  refine (ps_par3 (c.hc hc) c.nd (by rw [N]; exact hi) (by rw [N]; exact hj) (by rw [N]; exact hl) (ne hi hj n1) (ne hi hl n2) (ne hj hl n3) (by rw [sc]; exact hx) (by rw [sc]; exact hy) (by rw [sc]; exact hz) ha (sw3 bk kx ky kz n1 n2 n3 l1 l2 f g pa pb pd)).imp fun D σ H ⟨W, S, ρ, st0, sim, eok, q⟩ => ?_
  unfold exS ev at q
  rw [RS.of_bind] at q
  unfold tPar3
  refine tG.of st0 sim eok q fun W1 S1 H1 ds vs st st1 sim1 eok1 pv q1 => ?_
  split at q1
  · rw [RS.of_ok] at q1
    obtain ⟨ρ', e, q1⟩ := q1.opt
    have e' : bindNs [i, j, l] ds ρ = some ρ' := e
    have put : ∀ {p : Nat} {ps : List Nat} {d : DI.D} {es : List DI.D} {ρ ρ' : Ev}, bindNs (p :: ps) (d :: es) ρ = some ρ' → p < ρ.length ∧ bindNs ps es (ρ.set p (.val d)) = some ρ' := fun {p ps d es ρ ρ'} e => by
      have e : (if p < ρ.length then bindNs ps es (ρ.set p (.val d)) else none) = some ρ' := e
      split at e
      · exact ⟨by assumption, e⟩
      · cases e
    cases ds with
    | nil => cases e'
    | cons d1 ds =>
      obtain ⟨v1, us, rfl, r1, pv⟩ := pv
      obtain ⟨b1, e'⟩ := put e'
      cases ds with
      | nil => cases e'
      | cons d2 ds =>
        obtain ⟨v2, us, rfl, r2, pv⟩ := pv
        obtain ⟨b2, e'⟩ := put e'
        cases ds with
        | nil => cases e'
        | cons d3 ds =>
          obtain ⟨v3, us, rfl, r3, pv⟩ := pv
          obtain ⟨b3, e'⟩ := put e'
          cases ds with
          | cons _ _ => cases e'
          | nil =>
            obtain rfl : us = [] := pv
            cases e'
            exact ⟨v1, v2, v3, rfl, q1 W1 H1 _ st1 (.refl _) sim1 (((eok1.set b1 r1).set b2 r2).set b3 r3)⟩
  · exact False.elim q1
end
end DI
set_option Elab.async false
set_option linter.all false
set_option maxRecDepth 100000
set_option maxHeartbeats 4000000
/-! DI11: the check of a body's text, and that it suffices. -/
namespace DI
open PySem PySem.Spec PyProof.Rows L2
def skipP : List Stmt → List Stmt
  | .Pass _ :: r => skipP r
  | l => l
theorem skipP_ok {X : Cx} {C : Ct} {f : Ev → Store → RS} : ∀ {sts : List Stmt}, PSs X (skipP sts) (tS C f) → PSs X sts (tS C f)
  | [], h => h
  | st :: r, h => by
    cases st with
    | Pass p =>
      refine (pss_cons ps_pass (skipP_ok (sts := r) h)).imp fun D σ H q => ?_
      exact q
    | _ => exact h
/-- a name's value -/
def okV (v : Expr) : Bool := plainV v || isLC v
theorem okV_ok {v : Expr} (h : okV v = true) : plainV v = true ∨ isLC v = true := by
  unfold okV at h
  rwa [Bool.or_eq_true] at h
def pseudo : Sm → Bool
  | .kil _ | .frz _ => true
  | _ => false
mutual
def ckS (T : Tb) (rf : Bool) : Sm → Ck → Stmt → Bool
  | .set p e, k, st => match st with
    | .Assign [tg] v _ => match p, tg with
      | .nm i, .Name x _ => kindF k.sc && wrC k i x && okV v && ckE T e k v
      | .tp [i, j, l], .Tuple [.Name x px, .Name y py, .Name z pz] kt pt => (match e, v with
        | .tup es, .Tuple [a, b, d] _ _ => par3C k i j l x y z px py pz a b d && ckEs T es k [a, b, d]
        | _, _ => false) || (patC k (.tp [i, j, l]) (.Tuple [.Name x px, .Name y py, .Name z pz] kt pt) && plainV v && noTup v && ckE T e k v)
      | .tp is, .Tuple es j q => patC k (.tp is) (.Tuple es j q) && plainV v && noTup v && ckE T e k v
      | _, _ => false
    | _ => false
  | .own i e, k, st => match st with
    | .Assign [.Name x _] v _ => kindF k.sc && wrC k i x && okV v && freshC T e && ckE T e k v
    | _ => false
  | .sto i e, k, st => match st with
    | .Assign [.Name x _] v _ => kindF k.sc && wrC k i x && okV v && freshC T e && ckE T e k v
    | _ => false
  | .exp e, k, st => match st with
    | .Expr v _ => plainV v && ckE T e k v
    | _ => false
  | .mut j m es, k, st => match st with
    | .Expr (.Call (.Attribute (.Name x _) n apos) xs [] pos2) _ => decide (n = m.nm) && m.ch && varC k j x && (apos.endLine == pos2.line) && decide (xs.length < 29) && ckEs T es k xs
    | _ => false
  | .mutv i j m es, k, st => match st with
    | .Assign [.Name y _] (.Call (.Attribute (.Name x _) n apos) (a :: xs) [] pos2) _ => decide (n = m.nm) && m.ch && wrC k i y && varC k j x && (apos.endLine == pos2.line) && decide ((a :: xs).length < 29) && ckEs T es k (a :: xs)
    | _ => false
  | .sub a i e, k, st => match st with
    | .Assign [.Subscript x y _] v _ => plainI y && ckE T e k v && ckE T a k x && ckE T i k y
    | _ => false
  | .subo j i e, k, st => match st with
    | .Assign [.Subscript (.Name x _) y _] v _ => plainI y && varC k j x && ckE T e k v && ckE T i k y
    | _ => false
  | .delo j i, k, st => match st with
    | .Delete [.Subscript (.Name x _) y _] _ => varC k j x && ckE T i k y
    | .Expr (.Call (.Attribute (.Name x _) n ap) [y] [] cp) _ => decide (n = "pop") && varC k j x && (ap.endLine == cp.line) && plainA y && ckE T i k y
    | _ => false
  | .bot, _, _ => true
  | .ret e, k, st => match st with
    | .Return (some v) _ => (!rf || freshC T e) && ckE T e k v
    | .Return none _ => match e with
      | .cst .non => true
      | _ => false
    | _ => false
  | .reto i, k, st => match st with
    | .Return (some (.Name x _)) _ => rf && varC k i x
    | _ => false
  | .ifs t a b, k, st => match st with
    | .If u x y _ => ckT T t k u && ckB T rf a k x && ckB T rf b k y
    | _ => false
  | .loop p it b, k, st => match st with
    | .For tg iter body [] _ => k.calm && patC k p tg && plainS iter && ckI T it k p tg iter && ckB T rf b k body
    | _ => false
  | .whl t b, k, st => match st with
    | .While u body [] _ => k.calm && ckT T t k u && ckB T rf b k body
    | _ => false
  | .rai c es, k, st => match st, es with
    | .Raise (some (.Call (.Name x _) [] [] _)) none _, .nil => k.calm && glC k.sc x && nmOk x && fnMem x c T.xc && !(decide (c ∈ T.x1)) && !(decide (c ∈ T.x2))
    | .Raise (some (.Call (.Name x _) [e] [] _)) none _, .cons a .nil => k.calm && glC k.sc x && nmOk x && fnMem x c T.xc && decide (c ∈ T.x1) && plainA e && ckEs T (.cons a .nil) k [e]
    | .Raise (some (.Call (.Name x _) [e, f] [] _)) none _, .cons a (.cons b .nil) => k.calm && glC k.sc x && nmOk x && fnMem x c T.xc && decide (c ∈ T.x2) && plainA e && plainA f && ckEs T (.cons a (.cons b .nil)) k [e, f]
    | _, _ => false
  | .tri b c i h, k, st => match st with
    | .Try body [.ExceptHandler (some (.Name x _)) (some n) (b0 :: suite) _] [] [] _ => k.calm && decide (k.N[i]? = some n) && decide (k.sc.names.lookup n = some .local) && glC k.sc x && nmOk x && fnMem x c T.xc && ckB T rf b k body && ckB T rf h k.hand (b0 :: suite)
    | _ => false
  | .grp j p it a v, k, st => match st with
    | .For tg iter [.Expr (.Call (.Attribute (.Call (.Attribute (.Name o _) n1 ap1) [kx, .List [] _] [] pc1) n2 ap2) [vx] [] pc2) _] [] _ => decide (n1 = "setdefault") && decide (n2 = "append") && k.calm && patC k p tg && plainS iter && varC k j o && decide (j ∉ p.slots) && (ap1.endLine == pc1.line) && (ap2.endLine == pc2.line) && plainA kx && plainA vx && ckI T it k p tg iter && ckE T a k kx && ckE T v k vx
    | _ => false
  | .trn b c h, k, st => match st with
    | .Try body [.ExceptHandler (some (.Name x _)) none (b0 :: suite) _] [] [] _ => k.calm && glC k.sc x && nmOk x && fnMem x c T.xc && ckB T rf b k body && ckB T rf h k.hand (b0 :: suite)
    | _ => false
  | _, _, _ => false
def ckB (T : Tb) (rf : Bool) : Bl → Ck → List Stmt → Bool
  | .nil, _, sts => (skipP sts).isEmpty
  | .cons s r, k, sts => if pseudo s then ckB T rf r k sts else match skipP sts with
    | st :: rest => (ckS T rf s k st && ckB T rf r k rest) || (match s, st, rest with
      | .slen i e b, .Assign [.Name x _] (.Call (.Name n1 _) [a] [] _) _, .If (.Compare (.Call (.Name n2 _) [.Name y _] [] _) [.Gt] [.Constant (.int z) _ _] _) body [] _ :: rest2 =>
        k.calm && decide (n1 = "set") && decide (n2 = "len") && decide (y = x) && decide (z = 1) && wrC k i x && varC k i x && glC k.sc "set" && glC k.sc "len" && plainA a && ckE T e k a && ckB T rf b k body && ckB T rf r k rest2
      | _, _, _ => false)
    | [] => false
end
mutual
theorem ckS_ok : ∀ (s : Sm) {C : Ct} {k : Ck} {X : Cx} {st : Stmt}, Cok C k X → Gok C → (k.calm = true → Fok X) → ckS C.T C.rf s k st = true → PS X st (tS C (exS C.cl s))
  | .set p e, C, k, X, st, c, g, f, h => by
    unfold ckS at h
    split at h
    · split at h
      · simp only [Bool.and_eq_true] at h
        obtain ⟨⟨⟨h1, h2⟩, h3⟩, h4⟩ := h
        exact s_set c g h1 h2 (okV_ok h3) h4
      · rw [Bool.or_eq_true] at h
        rcases h with h | h
        · split at h
          · rw [Bool.and_eq_true] at h
            exact s_par3 c h.1 (ckEs_ok _ c g h.2)
          · cases h
        · simp only [Bool.and_eq_true] at h
          obtain ⟨⟨⟨h1, h2⟩, h3⟩, h4⟩ := h
          exact s_setT c h1 h2 h3 (ckE_ok e c g h4)
      · simp only [Bool.and_eq_true] at h
        obtain ⟨⟨⟨h1, h2⟩, h3⟩, h4⟩ := h
        exact s_setT c h1 h2 h3 (ckE_ok e c g h4)
      · cases h
    · cases h
  | .own i e, C, k, X, st, c, g, f, h => by
    unfold ckS at h
    split at h
    · simp only [Bool.and_eq_true] at h
      obtain ⟨⟨⟨⟨h1, h2⟩, h3⟩, h4⟩, h5⟩ := h
      exact s_own c g h1 h2 (okV_ok h3) h5 h4
    · cases h
  | .sto i e, C, k, X, st, c, g, f, h => by
    unfold ckS at h
    split at h
    · simp only [Bool.and_eq_true] at h
      obtain ⟨⟨⟨⟨h1, h2⟩, h3⟩, h4⟩, h5⟩ := h
      exact s_sto c g h1 h2 (okV_ok h3) h5 h4
    · cases h
  | .exp e, C, k, X, st, c, g, f, h => by
    unfold ckS at h
    split at h
    · rw [Bool.and_eq_true] at h
      exact s_exp (ckE_ok e c g h.2) h.1
    · cases h
  | .mut j m es, C, k, X, st, c, g, f, h => by
    unfold ckS at h
    split at h
    · rename_i x p n apos xs pos2 pos
      simp only [Bool.and_eq_true, decide_eq_true_eq] at h
      obtain ⟨⟨⟨⟨⟨rfl, h2⟩, h3⟩, h4⟩, h5⟩, h6⟩ := h
      cases xs with
      | nil =>
        cases es with
        | nil => exact s_mut0 c h2 h3 h4
        | cons _ _ => unfold ckEs at h6; cases h6
      | cons a xs => exact s_mut c h2 h3 h4 (plains_of C.T h6) h5 (ckEs_ok es c g h6)
    · cases h
  | .mutv i j m es, C, k, X, st, c, g, f, h => by
    unfold ckS at h
    split at h
    · simp only [Bool.and_eq_true, decide_eq_true_eq] at h
      obtain ⟨⟨⟨⟨⟨⟨rfl, h2⟩, h3⟩, h4⟩, h5⟩, h6⟩, h7⟩ := h
      exact s_mutv c h2 h3 h4 h5 (plains_of C.T h7) h6 (ckEs_ok es c g h7)
    · cases h
  | .sub a i e, C, k, X, st, c, g, f, h => by
    unfold ckS at h
    split at h
    · simp only [Bool.and_eq_true] at h
      obtain ⟨⟨⟨h1, h2⟩, h3⟩, h4⟩ := h
      exact s_sub c h1 (ckE_ok e c g h2).weakD (ckE_ok a c g h3).weakD (ckE_ok i c g h4).weakD
    · cases h
  | .subo j i e, C, k, X, st, c, g, f, h => by
    unfold ckS at h
    split at h
    · simp only [Bool.and_eq_true] at h
      obtain ⟨⟨⟨h1, h2⟩, h3⟩, h4⟩ := h
      exact s_subo c h1 h2 (ckE_ok e c g h3).weakD (ckE_ok i c g h4).weakD
    · cases h
  | .ret e, C, k, X, st, c, g, f, h => by
    unfold ckS at h
    split at h
    · rw [Bool.and_eq_true, Bool.or_eq_true, Bool.not_eq_true'] at h
      refine s_ret (same_fr (ckE_ok e c g h.2) fun q => ?_)
      rcases h.1 with z | z
      · rw [z] at q; cases q
      · exact z
    · split at h
      · exact s_retN
      · cases h
    · cases h
  | .reto i, C, k, X, st, c, g, f, h => by
    unfold ckS at h
    split at h
    · rw [Bool.and_eq_true] at h
      exact s_reto c h.2 h.1
    · cases h
  | .ifs t a b, C, k, X, st, c, g, f, h => by
    unfold ckS at h
    split at h
    · simp only [Bool.and_eq_true] at h
      exact s_if (ckT_ok t c g h.1.1) (ckB_ok a c g f h.1.2) (ckB_ok b c g f h.2)
    · cases h
  | .loop p it b, C, k, X, st, c, g, f, h => by
    unfold ckS at h
    split at h
    · simp only [Bool.and_eq_true] at h
      obtain ⟨⟨⟨⟨hk, h1⟩, h2⟩, h3⟩, h4⟩ := h
      exact s_loop c hk (f hk).pass (ckI_ok it c g h3) h1 h2 (ckB_ok b c g f h4)
    · cases h
  | .whl t b, C, k, X, st, c, g, f, h => by
    unfold ckS at h
    split at h
    · simp only [Bool.and_eq_true] at h
      exact s_whl (f h.1.1).pass (ckT_ok t c g h.1.2) (ckB_ok b c g f h.2)
    · cases h
  | .rai j es, C, k, X, st, c, g, f, h => by
    unfold ckS at h
    split at h
    · simp only [Bool.and_eq_true] at h
      exact s_rai c g h.1.1.1.1.1 h.1.1.1.1.2 h.1.1.1.2 (fnMem_ok h.1.1.2) (by simpa using h.1.2) (by simpa using h.2)
    · simp only [Bool.and_eq_true, decide_eq_true_eq] at h
      obtain ⟨⟨⟨⟨⟨⟨hk, h1⟩, h2⟩, h3⟩, h4⟩, h5⟩, h6⟩ := h
      exact s_rai1 c g hk h1 h2 (fnMem_ok h3) h4 h5 (ckEs_ok (.cons _ .nil) c g h6)
    · simp only [Bool.and_eq_true, decide_eq_true_eq] at h
      obtain ⟨⟨⟨⟨⟨⟨⟨hk, h1⟩, h2⟩, h3⟩, h4⟩, h5⟩, h5'⟩, h6⟩ := h
      exact s_rai2 c g hk h1 h2 (fnMem_ok h3) h4 h5 h5' (ckEs_ok (.cons _ (.cons _ .nil)) c g h6)
    · cases h
  | .tri b j i hb, C, k, X, st, c, g, f, h => by
    unfold ckS at h
    split at h
    · simp only [Bool.and_eq_true, decide_eq_true_eq] at h
      obtain ⟨⟨⟨⟨⟨⟨⟨hk, h1⟩, h2⟩, h3⟩, h4⟩, h5⟩, h6⟩, h7⟩ := h
      exact s_tri c g hk (f hk) h1 h2 h3 h4 (fnMem_ok h5)
        (fun w pn xe tk pw => ckB_ok b (C := C.wW w) (c.tr hk tk) g.wW (fun _ => ⟨pw, (f hk).stk, (f hk).frm⟩) h6)
        fun a oe cls d pn hz hf => ckB_ok hb (C := C.hand a cls d) (k := k.hand) (c.hand hz hf) g.hand (fun z => by cases z) h7
    · cases h
  | .grp j p it a v, C, k, X, st, c, g, f, h => by
    unfold ckS at h
    split at h
    · simp only [Bool.and_eq_true, decide_eq_true_eq] at h
      obtain ⟨⟨⟨⟨⟨⟨⟨⟨⟨⟨⟨⟨⟨rfl, rfl⟩, hk⟩, h3⟩, h4⟩, h5⟩, h6⟩, h7⟩, h8⟩, h9⟩, h10⟩, h11⟩, h12⟩, h13⟩ := h
      exact s_grp c hk (f hk).pass (ckI_ok it c g h11) h3 h4 h5 h6 (ckE_ok a c g h12).weakD (ckE_ok v c g h13).weakD h9 h10 h7 h8
    · cases h
  | .trn b j hb, C, k, X, st, c, g, f, h => by
    unfold ckS at h
    split at h
    · simp only [Bool.and_eq_true] at h
      obtain ⟨⟨⟨⟨⟨hk, h3⟩, h4⟩, h5⟩, h6⟩, h7⟩ := h
      exact s_trn c g hk (f hk) h3 h4 (fnMem_ok h5)
        (fun w pn xe tk pw => ckB_ok b (C := C.wW w) (c.tr hk tk) g.wW (fun _ => ⟨pw, (f hk).stk, (f hk).frm⟩) h6)
        fun a oe cls d pn hz hf => ckB_ok hb (C := C.hand a cls d) (k := k.hand) (c.hand hz hf) g.hand (fun z => by cases z) h7
    · cases h
  | .frz _, C, k, X, st, c, g, f, h => by unfold ckS at h; cases h
  | .kil _, C, k, X, st, c, g, f, h => by unfold ckS at h; cases h
  | .del .., C, k, X, st, c, g, f, h => by unfold ckS at h; cases h
  | .delo j i, C, k, X, st, c, g, f, h => by
    unfold ckS at h
    split at h
    · rw [Bool.and_eq_true] at h
      exact s_delo c h.1 (ckE_ok i c g h.2).weakD
    · simp only [Bool.and_eq_true, decide_eq_true_eq] at h
      obtain ⟨⟨⟨⟨rfl, h2⟩, h3⟩, h4⟩, h5⟩ := h
      exact s_dpop c h2 h3 h4 (ckE_ok i c g h5).weakD
    · cases h
  | .bot, C, k, X, st, c, g, f, h => ⟨fun pins s σ H D I ⟨W, S, ρ, st0, sim, eok, q⟩ => by unfold exS at q; exact q.elim⟩
  | .slen .., C, k, X, st, c, g, f, h => by unfold ckS at h; cases h
  | .std .., C, k, X, st, c, g, f, h => by unfold ckS at h; cases h
  | .fset .., C, k, X, st, c, g, f, h => by unfold ckS at h; cases h
  | .fsto .., C, k, X, st, c, g, f, h => by unfold ckS at h; cases h
  | .aug .., C, k, X, st, c, g, f, h => by unfold ckS at h; cases h
  | .faug .., C, k, X, st, c, g, f, h => by unfold ckS at h; cases h
theorem ckB_ok : ∀ (b : Bl) {C : Ct} {k : Ck} {X : Cx} {sts : List Stmt}, Cok C k X → Gok C → (k.calm = true → Fok X) → ckB C.T C.rf b k sts = true → PSs X sts (tS C (exB C.cl b))
  | .nil, C, k, X, sts, c, g, f, h => by
    unfold ckB at h
    refine skipP_ok ?_
    cases e : skipP sts with
    | nil => exact s_nil
    | cons _ _ => rw [e] at h; cases h
  | .cons s r, C, k, X, sts, c, g, f, h => by
    unfold ckB at h
    split at h
    · have ih := ckB_ok r c g f h
      cases s with
      | kil is => exact s_kil ih
      | frz i => exact s_frz ih
      | _ => rename_i hp; cases hp
    · refine skipP_ok ?_
      split at h
      · rename_i st rest e
        rw [e]
        rw [Bool.or_eq_true, Bool.and_eq_true] at h
        rcases h with h | h
        · exact s_cons (ckS_ok s c g f h.1) (ckB_ok r c g f h.2)
        · cases s with
          | slen i ee b =>
            split at h
            · rename_i heq1
              cases heq1
              simp only [Bool.and_eq_true, decide_eq_true_eq] at h
              obtain ⟨⟨⟨⟨⟨⟨⟨⟨⟨⟨⟨⟨hk, rfl⟩, rfl⟩, rfl⟩, rfl⟩, h5⟩, h6⟩, h7⟩, h8⟩, h9⟩, h10⟩, h11⟩, h12⟩ := h
              exact s_slen c hk g h5 h6 h7 h8 h9 (ckE_ok ee c g h10).weakD (ckB_ok b c g f h11) (ckB_ok r c g f h12)
            · cases h
          | _ => cases h
      · cases h
end
end DI
set_option Elab.async false
set_option linter.all false
set_option maxRecDepth 100000
set_option maxHeartbeats 4000000
/-! DI12: the defs of the program keep what their text computes. -/
namespace DI
open PySem PySem.Spec PyProof.Rows L2
/-! ### a store of one's own -/
section
variable {G : Gx} {W W' : Wd} {H H' : Hp} {S : Store}
mutual
theorem Rep.nob {A : Nat → Addr} {n : Nat} : ∀ {d : D} {v : V}, Rep G W d v → nob d = true → Rep G ⟨n, A, W.F⟩ d v
  | .non, _, h, _ => h
  | .bl _, _, h, _ => h
  | .int _, _, h, _ => h
  | .str _, _, h, _ => h
  | .tup xs, v, h, p => let ⟨a, vs, e, q, r⟩ := h; ⟨a, vs, e, q, Reps.nob r p⟩
  | .lst xs, v, h, p => let ⟨a, vs, e, q, r⟩ := h; ⟨a, vs, e, q, Reps.nob r p⟩
  | .ro xs, v, h, p => let ⟨a, vs, e, q, r⟩ := h; ⟨a, vs, e, q, Reps.nob r p⟩
  | .dic ks ds, v, h, p => let ⟨a, vs, e, l, q, r⟩ := h; ⟨a, vs, e, l, q, Reps.nob r p⟩
theorem Reps.nob {A : Nat → Addr} {n : Nat} : ∀ {ds : List D} {vs : List V}, Reps G W ds vs → nobs ds = true → Reps G ⟨n, A, W.F⟩ ds vs
  | [], _, h, _ => h
  | d :: ds, vs, h, p => by
    obtain ⟨v, us, e, r, t⟩ := h
    have p' : (DI.nob d && nobs ds) = true := p
    rw [Bool.and_eq_true] at p'
    exact ⟨v, us, e, Rep.nob r p'.1, Reps.nob t p'.2⟩
end
theorem KRep.nob {A : Nat → Addr} {n : Nat} : ∀ {kvs : List (Key × D)} {us : List (Key × V)}, KRep G W kvs us → nobs (kvs.map (·.2)) = true → KRep G ⟨n, A, W.F⟩ kvs us
  | [], _, h, _ => h
  | (k, d) :: r, us, h, p => by
    obtain ⟨v, t, e, q, r'⟩ := h
    have p' : (DI.nob d && nobs (r.map (·.2))) = true := p
    rw [Bool.and_eq_true] at p'
    exact ⟨v, t, e, q.nob p'.1, KRep.nob r' p'.2⟩
theorem FRep.nob {A : Nat → Addr} {n : Nat} : ∀ {kvs : List (Str × D)} {us : List (Str × V)}, FRep G W kvs us → nobs (kvs.map (·.2)) = true → FRep G ⟨n, A, W.F⟩ kvs us
  | [], _, h, _ => h
  | (k, d) :: r, us, h, p => by
    obtain ⟨v, t, e, q, r'⟩ := h
    have p' : (DI.nob d && nobs (r.map (·.2))) = true := p
    rw [Bool.and_eq_true] at p'
    exact ⟨v, t, e, q.nob p'.1, FRep.nob r' p'.2⟩
theorem iso_in (s : Sim G W S H) : Sim G ⟨0, W.A, W.F⟩ [] H := ⟨rfl, s.fz, fun n o e => by simp at e, fun n h => absurd h (Nat.not_lt_zero n), fun m n h => absurd h (Nat.not_lt_zero m), s.tb, s.tf⟩
theorem iso_out {S' : Store} (s : Sim G W S H) (st : Stp ⟨0, W.A, W.F⟩ H W' H') (s' : Sim G W' S' H') : Stp W H ⟨W.n, W.A, W'.F⟩ H' ∧ Sim G ⟨W.n, W.A, W'.F⟩ S H' := by
  have le : Wle W ⟨W.n, W.A, W'.F⟩ := ⟨Nat.le_refl _, fun _ _ => rfl, st.le.F⟩
  refine ⟨⟨le, fun a o h _ ht => st.keep a o h (fun k hk => absurd hk (Nat.not_lt_zero k)) ht, st.nF, fun k h1 h2 => absurd h2 (Nat.not_lt.mpr h1), st.dom⟩,
    ⟨s.len, s'.fz, fun n o e => ((s.ob n o e).mv fun u hu ht => st.keep _ u hu (fun k hk => absurd hk (Nat.not_lt_zero k)) ht).le le, fun n hn => ?_, s.inj, s'.tb, s'.tf⟩⟩
  show W'.F (W.A n) = none
  cases q : W'.F (W.A n) with
  | none => rfl
  | some u =>
    rcases st.nF (W.A n) (by rw [q]; simp) with z | z
    · exact absurd (s.nf n hn) z
    · have hl : n < S.length := by rw [← s.len]; exact hn
      exact absurd z (s.ob n _ (List.getElem?_eq_getElem hl)).some
theorem nobs_of_lst {xs : List D} (h : DI.nob (.lst xs) = true) : nobs xs = true := h
theorem zip_snd_nobs : ∀ {ks : List Key} {vs : List D}, nobs vs = true → nobs ((ks.zip vs).map (·.2)) = true
  | [], vs, _ => by simp [nobs]
  | k :: ks, [], _ => by simp [nobs]
  | k :: ks, v :: vs, h => by
    have h' : (DI.nob v && nobs vs) = true := h
    rw [Bool.and_eq_true] at h'
    show (DI.nob v && nobs ((ks.zip vs).map (·.2))) = true
    rw [h'.1, zip_snd_nobs h'.2]; rfl
theorem PostV.iso {fr : Bool} {d : D} {v : V} (s : Sim G W S H) (h : PostV G fr W' H H' d v) (p : DI.nob d = true) : PostV G fr ⟨W.n, W.A, W'.F⟩ H H' d v := by
  unfold PostV at h ⊢
  split
  · rename_i c
    rw [if_pos c] at h
    obtain ⟨q, o, e, eo, at_, f, n, z⟩ := h
    refine ⟨q, o, e, eo, ?_, f, fun k hk ek => ?_, z⟩
    · cases d with
      | lst xs =>
        cases eo
        obtain ⟨vs, h1, h2⟩ := at_
        exact ⟨vs, h1, Reps.nob h2 p⟩
      | dic ks vs =>
        have eo' : (if ks.length = vs.length then some (Ob.dic (ks.zip vs)) else none) = some o := eo
        split at eo'
        · cases eo'
          obtain ⟨us, h1, h2⟩ := at_
          exact ⟨us, h1, h2.nob (zip_snd_nobs p)⟩
        · cases eo'
      | _ => cases eo
    · have hl : k < S.length := by rw [← s.len]; exact hk
      have := (s.ob k _ (List.getElem?_eq_getElem hl)).some
      have ek : q = W.A k := ek
      rw [← ek] at this
      exact this z
  · rename_i c
    rw [if_neg c] at h
    exact Rep.nob h p
theorem XRep.iso {x : Xc} {cls : Value} {d : Option Addr} {A : Nat → Addr} {n : Nat} (h : XRep G W' x cls d) (p : nobs (x.fs.map (·.2)) = true) : XRep G ⟨n, A, W'.F⟩ x cls d := by
  obtain ⟨a, l, b⟩ := h
  refine ⟨a, l, ?_⟩
  rcases b with b | ⟨q, us, m, e, h1, r⟩
  · exact .inl b
  · exact .inr ⟨q, us, m, e, h1, r.nob p⟩
end
/-! ### the rule of a def -/
def locC (sc : Scope) (x : Str) : Bool := match sc.names.lookup x with
  | some .local | some .cell => true
  | _ => false
theorem locC_ok {sc : Scope} {x : Str} (h : locC sc x = true) : Loc sc x := by
  unfold locC at h
  split at h
  · exact .inl (by assumption)
  · exact .inr (by assumption)
  · cases h
theorem fn_g {G : Gx} {k : Nat} {f : Addr} {name qual : Str} {params : Arguments} {body : List Stmt} {scope : Scope} {dV kV doc pm cdv ct oc : Value} {an od : Option Addr} {osl : Array (Option Value)} {N ps : List Str} {sp : Sp}
    (lk : G.K.lookup f = some ⟨oc, od, .func (PySem.W.fnOf name qual params body scope dV kV doc pm an cdv ct), osl⟩) (hcd : PySem.W.codeIn G.K cdv qual = true) (S : FnScope N ps scope)
    (bd : ∀ us : List Value, us.length = ps.length → bindArgs (PySem.W.fnOf name qual params body scope dV kV doc pm an cdv ct) ⟨us, []⟩ = pure (ps.zip us)) (len : ∀ vs H Q E, sp vs H Q E → vs.length = ps.length)
    (hb : ∀ (A : Around) (outer : List Env) (s : Shared) (H : Hp) (vs : List V) (Q : VK) (E : XK), Room k (A.deeper (envOfC qual scope s.heap.objs.size f cdv)) → A.guards = some [] → sp vs H Q E →
      ∃ t, PSs (cxOf (L2.CX G.P G.w) G.P G.w G.K G.mg G.base N qual scope f cdv A outer s H E) body t ∧ t { nx := fun _ H' => Q .non H', rt := Q } (L2.start N vs) H) : FnG G (k + 1) f sp := by
  intro A outer s H us vs Q E room gd e0 rv w
  have hl : us.length = ps.length := by rw [← rv.length]; exact len vs H Q E w
  have vs_len := len vs H Q E w
  have kin : G.K.In s.heap := e0.mod.kin.keeps fun b o e => (e0.bs b o e).1
  have par : ∀ y ∈ ps.zip us, scope.names.lookup y.1 = some .local ∨ (scope.names.lookup y.1 = some .cell ∧ ((cellsFrom (s.heap.objs.size + 1) scope.names []).lookup y.1).isSome = true) := by
    rintro ⟨y, u⟩ hy
    rcases S.par y (List.of_mem_zip hy).1 with z | z
    · exact .inl z
    · exact .inr ⟨z, PySem.W.cellsFrom_some _ _ _ (.inl z)⟩
  refine codeAny_call_function room.depth (kin _ _ lk) rfl S.co S.gen rfl (PySem.W.codeRec_of kin hcd) (BindsTo.of_eq (bd us hl) _ _ _ _ (wpAny_newFunctionEnv_cells S.kind par fun env ee s1 ic => ?_))
  subst ee
  refine ⟨(e0.mod.nolimit.keeps fun b o e => (e0.bs b o e).1).keeps ic.toInCall.keep, codeAny_func ?_⟩
  obtain ⟨t, ht, hq⟩ := hb A outer s H vs Q E (room.deeper _) gd w
  have I0 := inv_start (CX := L2.CX G.P G.w) (E := E) (qual := qual) (f := f) (cd := cdv) S room.hd e0 vs_len rv ic
  have run := ht.run [] s1 (L2.start N vs) H _ I0 hq
  refine wpAny_mono run (fun fl s2 q => ?_) fun _ _ q => q
  have fin : ∀ (σ2 : L2.St) (H2 : Hp) (v : V) (u : Value), L2.Inv (cxOf (L2.CX G.P G.w) G.P G.w G.K G.mg G.base N qual scope f cdv A outer s H E) [] σ2 H2 s2 → RelV v u → Q v H2 → CE outer G.P G.w H s Q u s2 :=
    fun σ2 H2 v u J r q => ⟨v, H2, J.os, J.bare, J.base, J.hok, r, q⟩
  cases fl with
  | next => exact let ⟨σ2, H2, J, q⟩ := q; fin σ2 H2 .non .none J rfl q
  | ret u => exact let ⟨v, σ2, H2, J, r, q⟩ := q; fin σ2 H2 v u J r q
  | brk => exact let ⟨_, _, _, q⟩ := q; q.elim
  | cont => exact let ⟨_, _, _, q⟩ := q; q.elim
/-! ### the whole program -/
/-- the def's table: of lambdas (true), of generator expressions (false) -/
def InOk (G : Gx) (qual : Str) (cdv : Value) (b : Bool) : Prop := ∃ c P, cdv = .ref c ∧ (P, if b = true then some (qual ++ ".<locals>." ++ "<lambda>") else none) ∈ G.tb ∧ (∀ t ∈ G.tb, t.1 = P → t.2 = if b = true then some (qual ++ ".<locals>." ++ "<lambda>") else none) ∧ GxR.TabB G.base G.mg c P
def DefOk (G : Gx) (T : Tb) (f : Nat) (F : Fn) : Prop := ∃ (name qual : Str) (params : Arguments) (body : List Stmt) (scope : Scope) (dV kV doc pm cdv ct oc : Value) (an od : Option Addr) (osl : Array (Option Value)) (N ps : List Str) (inn : Option Bool),
  G.K.lookup (G.fa f) = some ⟨oc, od, .func (PySem.W.fnOf name qual params body scope dV kV doc pm an cdv ct), osl⟩ ∧ PySem.W.codeIn G.K cdv qual = true ∧ FnScope N ps scope ∧
    (∀ us : List Value, us.length = ps.length → bindArgs (PySem.W.fnOf name qual params body scope dV kV doc pm an cdv ct) ⟨us, []⟩ = pure (ps.zip us)) ∧
    F.n = N.length ∧ F.ps = ps.length ∧ T.frf f = F.fr ∧ (∀ b, inn = some b → InOk G qual cdv b) ∧ ckB T F.fr F.body ⟨N, scope, locC scope, true, inn⟩ body = true
structure Pok (G : Gx) (T : Tb) (P : Prog) : Prop where
  bn : ∀ x ∈ bltN, G.mg x = none
  fn : ∀ x f, (x, f) ∈ T.fn → G.mg x = some (.ref (G.fa f)) ∧ PySem.W.keepIn G.K (.ref (G.fa f)) = true
  xc : ∀ x c, (x, c) ∈ T.xc → G.mg x = some (.ref (G.xa c)) ∧ PySem.W.keepIn G.K (.ref (G.xa c)) = true ∧ c < G.nx
  xe : ∀ c, c < G.nx → c ∉ T.x1 → c ∉ T.x2 → PySem.W.excIn G.K (G.xa c) [.type "ValueError", .type "Exception", .type "BaseException", .type "object"] "ValueError.__new__" = true
  xi : ∀ c, c < G.nx → c ∈ T.x1 → ∃ F fI pre fd cc cda, OexC G.K (G.xa c) ∧ DX.Xi G.P G.K (G.xa c) fI F pre fd cc cda ∧ pre.length ≤ 1000 ∧ ∃ x, P.xcs[c]? = some x ∧ x.ps = 1 ∧ x.fs = [(F, 0)]
  x2 : ∀ c, c < G.nx → c ∈ T.x2 → ∃ F F2 fI pre mid fd cc cda, OexC G.K (G.xa c) ∧ DX.Xi2 G.P G.K (G.xa c) fI F F2 pre mid fd cc cda ∧ pre.length ≤ 1000 ∧ mid.length ≤ 1000 ∧ ∃ x, P.xcs[c]? = some x ∧ x.ps = 2 ∧ x.fs = [(F2, 1), (F, 0)]
  xv : ∀ c, c < G.nx → PySem.W.kitOne G.K (.ref (G.xa c)) (.type "ValueError") = some true
  xn : ∀ c f, c < G.nx → f ∈ fldN → PySem.W.findIn G.K (.ref (G.xa c)) f = some none
  xk : ∀ c, c < G.nx → PySem.W.subIn G.K (.ref (G.xa c)) (.type "BaseException") = some true ∧ PySem.W.typeIn G.K (.ref (G.xa c)) = some (.type "type") ∧ ExcC G.K (G.xa c)
  xs : ∀ c e, c < G.nx → e < G.nx → PySem.W.exmOne G.K (.ref (G.xa c)) (.ref (G.xa e)) = some (P.sub c e) ∧ PySem.W.kitOne G.K (.ref (G.xa c)) (.ref (G.xa e)) = some (P.sub c e)
  df : ∀ f F, P.fns[f]? = some F → DefOk G T f F
  gl : ∀ x k, (x, k) ∈ T.gl → ∃ u d, G.mg x = some u ∧ P.gls[k]? = some d ∧ GlOk G u d
theorem pickA_nil : ∀ {l : List (Str × Nat)} {fs : List (Str × D)}, pickA [] l = some fs → fs = []
  | [], fs, h => by cases h; rfl
  | (f, i) :: r, fs, h => by unfold pickA at h; simp at h
theorem xmk_nil {P : Prog} {c : Nat} {fs : List (Str × D)} (h : P.xmk c [] = some fs) : fs = [] := by
  unfold Prog.xmk at h
  obtain ⟨x, _, h⟩ := Option.bind_eq_some_iff.mp h
  split at h
  · exact pickA_nil h
  · cases h
theorem xmk_one {P : Prog} {c : Nat} {ds : List D} {fs : List (Str × D)} {x : Xi} {F : Str} (h : P.xmk c ds = some fs) (hx : P.xcs[c]? = some x) (h1 : x.ps = 1) (h2 : x.fs = [(F, 0)]) : ∃ d, ds = [d] ∧ txtD d = true ∧ fs = [(F, d)] := by
  unfold Prog.xmk at h
  rw [hx] at h
  have h : (if ds.length = x.ps ∧ nobs ds ∧ ds.all txtD then pickA ds x.fs else none) = some fs := h
  split at h
  · rename_i q
    obtain ⟨l, _, a⟩ := q
    rw [h1] at l
    match ds, l with
    | [d], _ =>
      have a2 : txtD d = true := by simpa using a
      rw [h2] at h
      have h : some [(F, d)] = some fs := h
      cases h
      exact ⟨d, rfl, a2, rfl⟩
  · cases h
theorem xmk_two {P : Prog} {c : Nat} {ds : List D} {fs : List (Str × D)} {x : Xi} {F F2 : Str} (h : P.xmk c ds = some fs) (hx : P.xcs[c]? = some x) (h1 : x.ps = 2) (h2 : x.fs = [(F2, 1), (F, 0)]) : ∃ d d2, ds = [d, d2] ∧ txtD d = true ∧ txtD d2 = true ∧ fs = [(F2, d2), (F, d)] := by
  unfold Prog.xmk at h
  rw [hx] at h
  have h : (if ds.length = x.ps ∧ nobs ds ∧ ds.all txtD then pickA ds x.fs else none) = some fs := h
  split at h
  · rename_i q
    obtain ⟨l, _, a⟩ := q
    rw [h1] at l
    match ds, l with
    | [d, d2], _ =>
      have a2 : txtD d = true ∧ txtD d2 = true := by simpa using a
      rw [h2] at h
      have h : some [(F2, d2), (F, d)] = some fs := h
      cases h
      exact ⟨d, d2, rfl, a2.1, a2.2, rfl⟩
  · cases h
theorem run_fn (P : Prog) (n f : Nat) (ds : List D) (S : Store) : (run P (n + 1)).fn f ds S = match P.fns[f]? with
  | some F => runFn (run P n) F ds S
  | none => .bad := rfl
theorem run_sub (P : Prog) (n : Nat) : (run P n).sub = P.sub := by cases n <;> rfl
theorem run_gl (P : Prog) (n k : Nat) : (run P n).gl k = P.gls[k]? := by cases n <;> rfl
theorem run_xmk (P : Prog) (n : Nat) : (run P n).xmk = P.xmk := by cases n <;> rfl
theorem start_ok {C : Ct} {W : Wd} {H : Hp} {N : List Str} {ds : List D} {vs : List V} (r : Reps C.G W ds vs) : Eok C W H (st0 N.length ds) (L2.start N vs) where
  len := by unfold st0 L2.start; simp [r.length]
  val := fun i d h => by
    unfold st0 at h
    by_cases hi : i < ds.length
    · rw [List.getElem?_append_left (by simpa using hi), List.getElem?_map] at h
      obtain ⟨d', e, h⟩ := Option.map_eq_some_iff.mp h
      cases h
      obtain ⟨v, e2, rv⟩ := r.get e
      refine ⟨v, ?_, rv⟩
      unfold L2.start
      rw [List.getElem?_append_left (by rw [List.length_map, r.length]; exact hi), List.getElem?_map, e2]
      rfl
    · rw [List.getElem?_append_right (by simpa using hi), List.getElem?_replicate] at h
      split at h <;> cases h
  own := fun i o h => absurd h (st0_no (by intro d q; cases q) (by intro q; cases q))
  dis := fun i j o o' p h => absurd h (st0_no (by intro d q; cases q) (by intro q; cases q))
  exc := fun i x h => absurd h (st0_no (by intro d q; cases q) (by intro q; cases q))
where
  st0_no {n : Nat} {ds : List D} {i : Nat} {s : Sl} (h1 : ∀ d, s ≠ .val d) (h2 : s ≠ .un) : (st0 n ds)[i]? ≠ some s := fun h => by
    unfold st0 at h
    by_cases hi : i < ds.length
    · rw [List.getElem?_append_left (by simpa using hi), List.getElem?_map] at h
      obtain ⟨d', e, h⟩ := Option.map_eq_some_iff.mp h
      exact h1 d' h.symm
    · rw [List.getElem?_append_right (by simpa using hi), List.getElem?_replicate] at h
      split at h
      · exact h2 (Option.some.inj h).symm
      · cases h
theorem gok_at {G : Gx} {T : Tb} {P : Prog} (h : Pok G T P) {n : Nat} (ih : ∀ f, FnG G (3 * n) (G.fa f) (fsp G (run P n) (T.frf f) f)) {C : Ct} (hG : C.G = G) (hT : C.T = T) (hc : C.cl = run P n) (hn : C.lv = n) : Gok C := by
  subst hG hT
  refine ⟨h.bn, h.fn, fun f => ?_, h.xc, h.xe, fun c h1 h2 => ?_, fun c h1 h2 => ?_, h.xv, h.xn, h.xk, fun c e h1 h2 => ?_, fun c fs e => ?_, fun c fs e => ?_⟩
  · rw [hc, hn]; exact ih f
  · obtain ⟨F, fI, pre, fd, cc, cda, t, z, l, x, e1, e2, e3⟩ := h.xi c h1 h2
    exact ⟨F, fI, pre, fd, cc, cda, t, z, l, fun ds fs e => by
      rw [hc, run_xmk] at e
      exact xmk_one e e1 e2 e3⟩
  · obtain ⟨F, F2, fI, pre, mid, fd, cc, cda, t, z, l, l2, x, e1, e2, e3⟩ := h.x2 c h1 h2
    exact ⟨F, F2, fI, pre, mid, fd, cc, cda, t, z, l, l2, fun ds fs e => by
      rw [hc, run_xmk] at e
      exact xmk_two e e1 e2 e3⟩
  · rw [hc, run_sub]; exact h.xs c e h1 h2
  · rw [hc, run_xmk] at e; exact xmk_nil e
  · obtain ⟨u, d, h1, h2, h3⟩ := h.gl c fs e
    exact ⟨u, d, h1, by rw [hc, run_gl]; exact h2, h3⟩
/-- a body in the world W from the heap H on -/
theorem body_ok {G : Gx} {T : Tb} {P : Prog} (h : Pok G T P) {n f : Nat} (ih : ∀ f, FnG G (3 * n) (G.fa f) (fsp G (run P n) (T.frf f) f)) {F : Fn} {qual : Str} {body : List Stmt} {scope : Scope} {cdv : Value} {N ps : List Str} {A : Around} {outer : List Env} {s : Shared} {H : Hp} {vs : List V} {E : XK} {W : Wd} {S : Store} {ds : List D} {D : Ends} {inn : Option Bool}
    (Sc : FnScope N ps scope) (hN : F.n = N.length) (hi : ∀ b, inn = some b → InOk G qual cdv b) (ck : ckB T F.fr F.body ⟨N, scope, locC scope, true, inn⟩ body = true) (room : Room (3 * n + 2) (A.deeper (envOfC qual scope s.heap.objs.size (G.fa f) cdv))) (gd : A.guards = some [])
    (sim : Sim G W S H) (r : Reps G W ds vs) (q : SRP ⟨G, T, run P n, W, H, F.fr, none, fun cls d _ H' => E cls d H', n⟩ W D (exB (run P n) F.body (st0 F.n ds) S)) :
    ∃ t, PSs (cxOf (L2.CX G.P G.w) G.P G.w G.K G.mg G.base N qual scope (G.fa f) cdv A outer s H E) body t ∧ t D (L2.start N vs) H := by
  have g : Gok ⟨G, T, run P n, W, H, F.fr, none, fun cls d _ H' => E cls d H', n⟩ := gok_at h ih rfl rfl rfl rfl
  have c : Cok ⟨G, T, run P n, W, H, F.fr, none, fun cls d _ H' => E cls d H', n⟩ ⟨N, scope, locC scope, true, inn⟩ (cxOf (L2.CX G.P G.w) G.P G.w G.K G.mg G.base N qual scope (G.fa f) cdv A outer s H E) :=
    { P := rfl, w := rfl, K := rfl, mg := rfl, base := rfl, hc := fun _ => rfl, gd := gd, N := rfl, nd := Sc.nd, sc := rfl, wr := fun x hx => ⟨locC_ok hx, .inl rfl⟩, room := fun _ => room.mono (by show 3 * n + 1 ≤ 3 * n + 2; omega), room2 := fun _ _ => room, units := by have := room.un; show (A.deeper _).units + 100 < _; omega, ce := fun _ => rfl,
      tk := takes_of (E := E) rfl rfl rfl rfl, tb := hi, ea := fun a cls d e => by cases e }
  refine ⟨_, ckB_ok F.body c g (fun _ => ⟨passes_of rfl, rfl, rfl⟩) ck, W, S, st0 F.n ds, .refl _ _, sim, ?_, q⟩
  rw [hN]
  exact start_ok r
theorem all_g {G : Gx} {T : Tb} {P : Prog} (h : Pok G T P) : ∀ n f, FnG G (3 * n) (G.fa f) (fsp G (run P n) (T.frf f) f)
  | 0, f => fun _ _ _ _ _ _ _ _ _ _ _ _ w => by
    obtain ⟨W, S, ds, sim, r, q⟩ := w
    exact False.elim q
  | n + 1, f => by
    have ih := all_g h n
    cases e : P.fns[f]? with
    | none =>
      intro A outer s H us vs Q E _ _ _ _ w
      obtain ⟨W, S, ds, sim, r, q⟩ := w
      rw [run_fn, e] at q
      exact False.elim q
    | some F =>
      obtain ⟨name, qual, params, body, scope, dV, kV, doc, pm, cdv, ct, oc, an, od, osl, N, ps, inn, lk, cd, Sc, bd, hN, hp, hf, hin, ck⟩ := h.df f F e
      have run1 : ∀ ds S, (run P (n + 1)).fn f ds S = runFn (run P n) F ds S := fun ds S => by
        rw [run_fn, e]
      refine fn_g (k := 3 * n + 2) lk cd Sc bd (fun vs H Q E w => ?_) (fun A outer s H vs Q E room gd w => ?_)
      · obtain ⟨W, S, ds, sim, r, q⟩ := w
        rw [run1] at q
        unfold runFn at q
        split at q
        · rename_i l
          rw [r.length, l, hp]
        · exact False.elim q
      · obtain ⟨W, S, ds, sim, r, q⟩ := w
        rw [run1, hf] at q
        unfold runFn at q
        split at q
        · split at q
          · split at q
            · rename_i ob
              refine body_ok h ih Sc hN hin ck room gd (iso_in sim) (Reps.nob r ob) ?_
              generalize exB (run P n) F.body (st0 F.n ds) [] = rr at q
              cases rr with
              | nx ρ S' =>
                intro W' H' σ' st l s' e'
                obtain ⟨a, b⟩ := iso_out sim st s'
                exact q _ H' .non a b (.of_rep rfl (.inr rfl))
              | rt d S' =>
                have q : RP (if DI.nob d = true then R.ok d S else .bad) _ _ := q
                split at q
                · rename_i nd
                  intro W' H' v st s' pv
                  obtain ⟨a, b⟩ := iso_out sim st s'
                  exact q _ H' v a b (pv.iso sim nd)
                · exact False.elim q
              | er x ρ S' =>
                have q : RP (if nobs (x.fs.map (·.2)) = true then R.err x S else (.bad : R DI.D)) _ _ := q
                split at q
                · rename_i nd
                  intro W' H' cls d σ' st l s' e' xr
                  obtain ⟨a, b⟩ := iso_out sim st s'
                  exact q _ H' cls d a b (xr.iso nd)
                · exact False.elim q
              | bad => exact False.elim q
            · exact False.elim q
          · refine body_ok h ih Sc hN hin ck room gd sim r ?_
            generalize exB (run P n) F.body (st0 F.n ds) S = rr at q
            cases rr with
            | nx ρ S' => exact fun W' H' σ' st l s' e' => q W' H' .non st s' (.of_rep rfl (.inr rfl))
            | rt d S' => exact fun W' H' v st s' pv => q W' H' v st s' pv
            | er x ρ S' => exact fun W' H' cls d σ' st l s' e' xr => q W' H' cls d st s' xr
            | bad => exact False.elim q
        · exact False.elim q
end DI
set_option Elab.async false
set_option linter.all false
set_option maxRecDepth 100000
set_option maxHeartbeats 4000000
/-! DI13: the law's end, the facts of the head. -/
namespace DI
open PySem PySem.Spec PyProof.Rows L2
/-! ### the law is called -/
def emO : Obj := { cls := .none, data := .fields #[] }
/-- empty tables: they stand, K does not speak of them, their code objects stand -/
structure Tbs (K : PySem.W.Frag) (h : Heap) (cs : List (Addr × Addr)) : Prop where
  at_ : ∀ z ∈ cs, h.get? z.2 = some emO
  no : ∀ z ∈ cs, K.lookup z.2 = none
  hd : ∀ z ∈ cs, PySem.W.CodeHd h z.1 z.2
section
variable {P : Program} {w : World} {K : PySem.W.Frag} {mg mb : Str → Option Value} {k : Nat} {fa a : Addr} {s₁ : Shared} {vs : List Value} {ns : List Int} {sp : (base : Heap) → Sp} {cs : List (Addr × Addr)}
theorem end_core {G : Heap → Gx} (hG : ∀ b, (G b).P = P ∧ (G b).w = w ∧ (G b).K = K ∧ (G b).mg = mg ∧ (G b).base = b) {H : Hp} {o : Obj} (KX : K.In s₁.heap) (hns : s₁.heap.Ns mainGlobals mg) (hb : s₁.heap.Ns builtinsNs mb) (hbb : ∀ x : Str, x ≠ "__name__" → mb x = bootBuiltins x) (hlim : s₁.heap.NoLimit) (hg : s₁.gens = #[])
    (T : Tbs K s₁.heap cs) (hbm : ∃ (m : Addr) (u : Obj), mg "__builtins__" = some (.ref m) ∧ m ≠ builtinsNs ∧ s₁.heap.get? m = some u ∧ u.cls = .type "module" ∧ u.dict = some builtinsNs ∧ u.data = .plain)
    (ha : s₁.heap.get? a = some o) (ho : o.data = .seq vs.toArray 0) (hok : HOk P w H s₁.heap) (only : ∀ b u, H b = some u → (b = a ∧ K.lookup a = none ∧ u = .frz o (.lst (ns.map V.int))) ∨ ∃ z ∈ cs, z.2 = b ∧ u = .tbl #[]) (hH : ∀ z ∈ cs, H z.2 = some (.tbl #[])) (hr : Room k callerA)
    (F : ∀ base : Heap, K.In base → base.Ns mainGlobals mg → (∀ z ∈ cs, GxR.TabB base mg z.1 z.2) → FnG (G base) k fa (sp base)) (w0 : ∀ base, sp base [.ref a] H (fun v _ => v = .bl true) fun _ _ _ => False) :
    codeAny (model P w) callerA (.call (.ref fa) ⟨[.ref a], []⟩) (fun r s' => r = .ok (.ret (.bool true)) ∧ OldK s₁.heap s'.heap ∧ s'.os = s₁.os ∧ AllBare s'.gens) s₁ := by
  have stays : ∀ {b : Addr} {u : Obj}, s₁.heap.get? b = some u → u.data ≠ o.data → u.data ≠ .fields #[] → (hidT s₁.heap H).get? b = some u := fun {b u} e n n2 => hidT_get e (by
    cases q : H b with
    | none => rfl
    | some z =>
      rcases only b z q with ⟨rfl, _, _⟩ | ⟨z', hz, rfl, _⟩
      · rw [ha] at e; cases e
        exact absurd rfl n
      · rw [T.at_ z' hz] at e; cases e
        exact absurd rfl n2)
  have ns' : ∀ {b : Addr} {m : Str → Option Value}, s₁.heap.Ns b m → (hidT s₁.heap H).Ns b m := fun {b m} ⟨u, es, ep, e, d, r⟩ => ⟨u, es, ep, stays e (by rw [d, ho]; exact fun z => nomatch z) (by rw [d]; exact fun z => nomatch z), d, r⟩
  have kin : K.In (hidT s₁.heap H) := fun b u e => hidT_get (KX b u e) (by
    cases q : H b with
    | none => rfl
    | some z =>
      rcases only b z q with ⟨rfl, n, _⟩ | ⟨z', hz, rfl, _⟩
      · rw [n] at e; cases e
      · rw [T.no z' hz] at e; cases e)
  have tabs : ∀ z ∈ cs, GxR.TabB (hidT s₁.heap H) mg z.1 z.2 := fun z hz => by
    have at0 := T.at_ z hz
    obtain ⟨oc, us, file, tf, flags, tg, inF, text, tt, e1, r1, r2, r3, rest⟩ := T.hd z hz
    obtain ⟨m, u, b1, b2, b3, b4, b5, b6⟩ := hbm
    refine ⟨⟨oc, us, file, tf, flags, tg, inF, text, tt, stays e1 (by rw [r2, ho]; exact fun q => nomatch q) (fun q => ?_), r1, r2, r3, rest⟩, ⟨m, u, b1, b2, fun q => ?_, fun q => ?_, stays b3 (by rw [b6, ho]; exact fun q => nomatch q) (by rw [b6]; exact fun q => nomatch q), b4, b5, b6⟩, fun q => ?_⟩
    · rw [r2] at q
      cases q
      simp at r3
    · obtain ⟨_, _, _, e, hd, _⟩ := hns
      rw [q, e] at b3; cases b3
      rw [hd] at b6; cases b6
    · rw [q, at0] at b3; cases b3
      cases b6
    · obtain ⟨_, _, _, e, hd, _⟩ := hns
      rw [q, at0] at e; cases e
      cases hd
  obtain ⟨mc, l1, l2⟩ := hlim
  have env0 : Env0 P w K mg (hidT s₁.heap H) callerA [] s₁ H :=
    { frames := rfl, mod := ⟨kin, ns' hns, ⟨mb, ns' hb, hbb⟩, mc, ns' l1, l2⟩, bs := fun b u e => of_hidT e, bsz := Nat.le_of_eq (hidT_size _ _), funs := trivial, frf := fun b z => (by cases z), hok := hok, bare := .of_eq hg }
  obtain ⟨g1, g2, g3, g4, g5⟩ := hG (hidT s₁.heap H)
  have call := F _ kin (ns' hns) tabs callerA [] s₁ H [.ref a] [.ref a] _ _ hr rfl (by rw [g1, g2, g3, g4, g5]; exact env0) (.cons rfl .nil) (w0 _)
  rw [g1, g2] at call
  refine codeAny_mono call fun r s' q => ?_
  cases r with
  | error e => obtain ⟨_, _, _, _, _, _, _, _, _, _, _, _, z⟩ := q; exact z.elim
  | ok fl =>
    cases fl with
    | ret u =>
      obtain ⟨v, H', os, bare, un, hok', rv, rfl⟩ := q
      obtain rfl : u = Value.bool true := rv
      have more : ∀ z ∈ cs, ∃ m : Array Value, s'.heap.get? z.2 = some { cls := .none, data := .fields m } := fun z hz => by
        obtain ⟨m, e⟩ := un.tbls z.2 #[] (hH z hz)
        exact ⟨_, hok' z.2 _ e⟩
      have rest : ∀ b x, (∀ z ∈ cs, z.2 ≠ b) → s₁.heap.get? b = some x → s'.heap.get? b = some x := fun b x nb e => by
        cases q : H b with
        | none => exact un.keep b x e q (by intro z; cases z) (by intro z; cases z)
        | some z =>
          rcases only b z q with ⟨rfl, _, rfl⟩ | ⟨z', hz, q2, _⟩
          · have e2 : s'.heap.get? b = some o := (hok' b _ (un.frzs b _ _ q)).1
            rw [ha] at e
            cases e
            exact e2
          · exact absurd q2 (nb z' hz)
      refine ⟨rfl, ⟨fun b x e => ?_, fun b x e => ?_⟩, os, bare⟩
      · by_cases h : ∃ z ∈ cs, z.2 = b
        · obtain ⟨z, hz, rfl⟩ := h
          obtain ⟨m, hm⟩ := more z hz
          have e0 := T.at_ z hz
          rw [e0] at e
          cases e
          exact .inr (.inl ⟨((T.hd z hz).tab e0).isCodeTable, rfl, #[], m, rfl, by rw [Array.empty_append]; exact hm⟩)
        · exact .inl (rest b x (fun z hz q => h ⟨z, hz, q⟩) e)
      · by_cases h : ∃ z ∈ cs, z.2 = b
        · obtain ⟨z, hz, rfl⟩ := h
          obtain ⟨m, hm⟩ := more z hz
          exact ⟨_, hm⟩
        · exact ⟨x, rest b x (fun z hz q => h ⟨z, hz, q⟩) e⟩
    | next => exact q.elim
    | brk => exact q.elim
    | cont => exact q.elim
end
/-- an empty table is as it is wanted -/
theorem tab0 {H : Hp} {t : Addr × Option Str} (h : H t.1 = some (.tbl #[])) : TabOk H t := by
  obtain ⟨q, b⟩ := t
  cases b with
  | none => exact ⟨#[], h, trivial⟩
  | some x => exact .nil h
/-- all but the tables -/
def noT (H : Hp) : Hp := fun a => match H a with
  | some (.tbl _) => none
  | o => o
theorem noT_ex {H : Hp} : Exh (noT H) H := fun a o e => by
  unfold noT at e
  split at e
  · cases e
  · exact e
theorem noT_tbl {H : Hp} {a : Addr} {ps : Array Value} (h : H a = some (.tbl ps)) : noT H a = none := by
  unfold noT; rw [h]
theorem noT_sql {K : PySem.W.Frag} {H : Hp} {a : Addr} {xs : List V} (h : SqL K H a xs) : SqL K (noT H) a xs := by
  rcases h with (h | ⟨o, h⟩) | h
  · exact .inl (.inl (by unfold noT; rw [h]))
  · exact .inl (.inr ⟨o, by unfold noT; rw [h]⟩)
  · exact .inr h
/-- a world of the script alone -/
theorem script_sp {G : Gx} {P : Prog} {n f : Nat} {fr : Bool} {H : Hp} {a : Addr} {ns : List Int} {S : Store} (h : SqL G.K H a (ns.map V.int)) (ht : ∀ t ∈ G.tb, H t.1 = some (.tbl #[])) (law : (run P n).fn f [.ro (ns.map .int)] [] = .ok (.bl true) S) : fsp G (run P n) fr f [.ref a] H (fun v _ => v = .bl true) fun _ _ _ => False := by
  refine ⟨⟨0, fun _ => 0, noT H⟩, [], [.ro (ns.map .int)], ⟨rfl, noT_ex, fun k o e => by simp at e, fun k z => absurd z (Nat.not_lt_zero k), fun m k z => absurd z (Nat.not_lt_zero m), fun t m => tab0 (ht t m), fun t m => noT_tbl (ht t m)⟩, .one ⟨a, ns.map V.int, rfl, noT_sql h, ints_reps ns⟩, ?_⟩
  rw [law]
  intro W' H' v st s pv
  unfold PostV at pv
  rw [if_neg (by simp [obOf])] at pv
  exact pv
theorem law_end {P : Program} {w : World} {K : PySem.W.Frag} {mg mb : Str → Option Value} {n f : Nat} {a : Addr} {s₁ : Shared} {vs : List Value} {ns : List Int} {Pr : Prog} {T : Tb} {ca xa fa : Nat → Addr} {nc nx : Nat} {cs : List (Addr × Addr)} {tb : List (Addr × Option Str)}
    (KX : K.In s₁.heap) (hns : s₁.heap.Ns mainGlobals mg) (hb : s₁.heap.Ns builtinsNs mb) (hbb : ∀ x : Str, x ≠ "__name__" → mb x = bootBuiltins x) (hlim : s₁.heap.NoLimit) (hg : s₁.gens = #[])
    (TB : Tbs K s₁.heap cs) (htb : ∀ t ∈ tb, ∃ z ∈ cs, z.2 = t.1) (hbm : ∃ (m : Addr) (u : Obj), mg "__builtins__" = some (.ref m) ∧ m ≠ builtinsNs ∧ s₁.heap.get? m = some u ∧ u.cls = .type "module" ∧ u.dict = some builtinsNs ∧ u.data = .plain)
    (ha : s₁.heap.get? a = some { cls := .type "list", data := .seq vs.toArray }) (hi : IntsAre vs ns) (hl : ns.length ≤ sizeLine) (hr : Room (3 * n) callerA)
    (ok : ∀ base : Heap, K.In base → base.Ns mainGlobals mg → (∀ z ∈ cs, GxR.TabB base mg z.1 z.2) → Pok ⟨P, w, K, mg, base, ca, nc, xa, nx, fa, tb⟩ T Pr) {S : Store} (law : (run Pr n).fn f [.ro (ns.map .int)] [] = .ok (.bl true) S) :
    codeAny (model P w) callerA (.call (.ref (fa f)) ⟨[.ref a], []⟩) (fun r s' => r = .ok (.ret (.bool true)) ∧ OldK s₁.heap s'.heap ∧ s'.os = s₁.os ∧ AllBare s'.gens) s₁ := by
  have rv := vals_ints hi
  have an : ∀ z ∈ cs, z.2 ≠ a := fun z hz e => by
    have e0 := TB.at_ z hz
    rw [e, ha] at e0
    have := congrArg Obj.data (Option.some.inj e0)
    cases this
  have F : ∀ base : Heap, K.In base → base.Ns mainGlobals mg → (∀ z ∈ cs, GxR.TabB base mg z.1 z.2) → FnG ⟨P, w, K, mg, base, ca, nc, xa, nx, fa, tb⟩ (3 * n) (fa f) (fsp ⟨P, w, K, mg, base, ca, nc, xa, nx, fa, tb⟩ (run Pr n) (T.frf f) f) := fun base h1 h2 h3 => all_g (ok base h1 h2 h3) n f
  have fin : ∀ H : Hp, SqL K H a (ns.map V.int) → HOk P w H s₁.heap → (∀ b u, H b = some u → (b = a ∧ K.lookup a = none ∧ u = .frz { cls := .type "list", data := .seq vs.toArray } (.lst (ns.map V.int))) ∨ ∃ z ∈ cs, z.2 = b ∧ u = .tbl #[]) → (∀ z ∈ cs, H z.2 = some (.tbl #[])) → _ := fun H hS hok only hH =>
    end_core (G := fun base => ⟨P, w, K, mg, base, ca, nc, xa, nx, fa, tb⟩) (fun b => ⟨rfl, rfl, rfl, rfl, rfl⟩) KX hns hb hbb hlim hg TB hbm ha rfl hok only hH hr F fun base => script_sp (G := ⟨P, w, K, mg, base, ca, nc, xa, nx, fa, tb⟩) hS (fun t ht => by
      obtain ⟨z, hz, e⟩ := htb t ht
      rw [← e]; exact hH z hz) law
  have hT : ∀ z ∈ cs, s₁.heap.get? z.2 = some { cls := .none, data := .fields #[] } := fun z hz => TB.at_ z hz
  cases hk : K.lookup a with
  | some o =>
    have e := KX a o hk
    rw [ha] at e
    cases e
    refine fin (fun b => if b ∈ cs.map (·.2) then some (.tbl #[]) else none) (.inr ⟨_, vs.toArray, _, hk, rfl, rfl, rfl, by rw [List.size_toArray, hi.length]; exact hl, by simpa using rv⟩) (fun b u z => ?_) (fun b u z => ?_) fun z hz => if_pos (List.mem_map_of_mem hz)
    · by_cases q : b ∈ cs.map (·.2)
      · have z2 := (if_pos q).symm.trans z
        cases z2
        obtain ⟨y, hy, rfl⟩ := List.mem_map.mp q
        exact hT y hy
      · have z2 := (if_neg q).symm.trans z
        cases z2
    · by_cases q : b ∈ cs.map (·.2)
      · have z2 := (if_pos q).symm.trans z
        cases z2
        obtain ⟨y, hy, rfl⟩ := List.mem_map.mp q
        exact .inr ⟨y, hy, rfl, rfl⟩
      · have z2 := (if_neg q).symm.trans z
        cases z2
  | none =>
    refine fin (upd (fun b => if b ∈ cs.map (·.2) then some (.tbl #[]) else none) a (.frz { cls := .type "list", data := .seq vs.toArray } (.lst (ns.map V.int)))) (.inl (.inr ⟨_, upd_same⟩)) (fun b u z => ?_) (fun b u z => ?_) fun z hz => by
      rw [upd_ne (an z hz)]; exact if_pos (List.mem_map_of_mem hz)
    · by_cases q : b = a
      · subst q
        rw [upd_same] at z
        cases z
        exact ⟨ha, by rw [List.length_map]; exact hl, vs, _, rv, ha⟩
      · rw [upd_ne q] at z
        by_cases q : b ∈ cs.map (·.2)
        · have z2 := (if_pos q).symm.trans z
          cases z2
          obtain ⟨y, hy, rfl⟩ := List.mem_map.mp q
          exact hT y hy
        · have z2 := (if_neg q).symm.trans z
          cases z2
    · by_cases q : b = a
      · subst q
        rw [upd_same] at z
        cases z
        exact .inl ⟨rfl, hk, rfl⟩
      · rw [upd_ne q] at z
        by_cases q : b ∈ cs.map (·.2)
        · have z2 := (if_pos q).symm.trans z
          cases z2
          obtain ⟨y, hy, rfl⟩ := List.mem_map.mp q
          exact .inr ⟨y, hy, rfl, rfl⟩
        · have z2 := (if_neg q).symm.trans z
          cases z2
/-! ### the facts of the head -/
/-- a def: where it stands, its slots' names, its parameters -/
structure Dx where
  d : He.FnD
  N : List Str
  ps : List Str
  /-- makes lambdas (true), generator expressions (false) -/
  inn : Option Bool := none
/-- the defs with tables that are used; their tables -/
def tfs (dx : List Dx) : List He.Defn := (dx.filter (·.inn.isSome)).map (·.d.at_)
def tbG (K : PySem.W.Frag) (dx : List Dx) : List (Addr × Option Str) := dx.filterMap fun x => x.inn.map fun b => ((He.cT K x.d.at_).2, if b = true then some (x.d.qual ++ ".<locals>." ++ "<lambda>") else none)
def fnL : Nat → List (Str × Option Str) → List (Str × Nat)
  | _, [] => []
  | k, (x, none) :: r => (x, k) :: fnL (k + 1) r
  | k, (_, some _) :: r => fnL (k + 1) r
def xcL : Nat → List Str → List (Str × Nat)
  | _, [] => []
  | k, x :: r => (x, k) :: xcL (k + 1) r
theorem fnL_mem {x : Str} {f : Nat} : ∀ {l : List (Str × Option Str)} {k : Nat}, (x, f) ∈ fnL k l → ∃ j, f = k + j ∧ l[j]? = some (x, none)
  | [], k, h => by cases h
  | (y, none) :: r, k, h => by
    rcases List.mem_cons.mp h with e | h
    · cases e; exact ⟨0, rfl, rfl⟩
    · obtain ⟨j, e, q⟩ := fnL_mem h
      exact ⟨j + 1, by omega, q⟩
  | (y, some _) :: r, k, h => by
    obtain ⟨j, e, q⟩ := fnL_mem (show (x, f) ∈ fnL (k + 1) r from h)
    exact ⟨j + 1, by omega, q⟩
theorem xcL_mem {x : Str} {c : Nat} : ∀ {l : List Str} {k : Nat}, (x, c) ∈ xcL k l → ∃ j, c = k + j ∧ l[j]? = some x
  | [], k, h => by cases h
  | y :: r, k, h => by
    rcases List.mem_cons.mp h with e | h
    · cases e; exact ⟨0, rfl, rfl⟩
    · obtain ⟨j, e, q⟩ := xcL_mem h
      exact ⟨j + 1, by omega, q⟩
/-- the exception classes of k parameters -/
def xkL (k : Nat) (P : Prog) : List Nat := (List.range P.xcs.length).filter fun c => match P.xcs[c]? with
  | some x => decide (x.ps = k)
  | none => false
theorem xkL_in {k : Nat} {P : Prog} {c : Nat} {x : Xi} (hx : P.xcs[c]? = some x) (h : x.ps = k) : c ∈ xkL k P :=
  List.mem_filter.mpr ⟨List.mem_range.mpr (List.getElem?_eq_some_iff.mp hx).1, by rw [hx]; exact decide_eq_true h⟩
theorem xkL_ps {k : Nat} {P : Prog} {c : Nat} {x : Xi} (hx : P.xcs[c]? = some x) (h : c ∈ xkL k P) : x.ps = k := by
  have z := (List.mem_filter.mp h).2
  rw [hx] at z
  exact of_decide_eq_true z
def mkT (ats : List (Str × Option Str)) (xn : List Str) (P : Prog) : Tb := ⟨fnL 0 ats, P.fns.map (·.fr), [], xcL 0 xn, xcL 0 P.gn, xkL 1 P, xkL 2 P⟩
/-- the file of the text is the one that the code objects name, if it matters -/
def flB (q : Program) (P : Prog) : Bool := ((xkL 1 P).isEmpty && (xkL 2 P).isEmpty) || (decide (q.main.file = P.fl) && !(q.main.scope.names.lookup ("super" : Str)).isSome)
def veB : List Value := [.type "ValueError", .type "Exception", .type "BaseException", .type "object"]
/-- the module's name x is the object at a -/
def gloC (K : PySem.W.Frag) (x : Str) : Bool := He.eqO (PySem.W.nsIn K mainGlobals x) (some (some (.ref (He.ga K x)))) && PySem.W.keepIn K (.ref (He.ga K x))
def excB (K : PySem.W.Frag) (D : Addr) : Bool := He.eqO (PySem.W.findIn K (.ref D) "__getattribute__") (some (some (.builtin "BaseException.__getattribute__"))) && (He.eqO (PySem.W.findIn K (.ref D) "__getattr__") (some none) &&
  (decide (PySem.W.subIn K (.ref D) (.type "BaseException") = some true) && (PySem.W.hasDictIn K D && (He.eqO (PySem.W.findIn K (.ref D) "__class__") (some (some (.builtin "object.__class__"))) &&
    (He.eqO (PySem.W.specialIn K (.builtin "object.__class__") "__get__") (some (some (.builtin "getset_descriptor.__get__"))) && (decide (PySem.W.takesIn K (.builtin "object.__class__") = some true) && decide (PySem.W.mroIn K D (.type "object") = some true)))))))
theorem excB_ok {K : PySem.W.Frag} {D : Addr} (h : excB K D = true) : ExcC K D := by
  unfold excB at h
  simp only [Bool.and_eq_true, decide_eq_true_eq] at h
  obtain ⟨h1, h2, h3, h4, h5, h6, h7, h8⟩ := h
  exact ⟨He.eqO_ok h1, He.eqO_ok h2, h3, h4, He.eqO_ok h5, He.eqO_ok h6, h7, h8⟩
/-- how the class is made -/
def mkX (K : PySem.W.Frag) (fl : Str) (C : Addr) : Option Xi → Bool
  | some x => if x.ps = 1 then (match x.fs with
      | [(F, 0)] => DX.xiB K fl C F && decide (F ∈ fldN)
      | _ => false) else if x.ps = 2 then (match x.fs with
      | [(F2, 1), (F, 0)] => DX.xiB2 K fl C F F2 && decide (F ∈ fldN) && decide (F2 ∈ fldN) && decide (F2 ≠ F)
      | _ => false) else PySem.W.excIn K C veB "ValueError.__new__"
  | none => false
def okX (xn : List Str) (P : Prog) (K : PySem.W.Frag) (c : Nat) : Bool := gloC K (xn.getD c "") && (mkX K P.fl (He.ga K (xn.getD c "")) P.xcs[c]? && decide (PySem.W.kitOne K (.ref (He.ga K (xn.getD c ""))) (.type "ValueError") = some true) && fldN.all fun f => He.eqO (PySem.W.findIn K (.ref (He.ga K (xn.getD c ""))) f) (some none)) && decide (PySem.W.subIn K (.ref (He.ga K (xn.getD c ""))) (.type "BaseException") = some true) &&
  decide (PySem.W.typeIn K (.ref (He.ga K (xn.getD c ""))) = some (.type "type")) && excB K (He.ga K (xn.getD c "")) &&
  (List.range xn.length).all fun e => decide (PySem.W.exmOne K (.ref (He.ga K (xn.getD c ""))) (.ref (He.ga K (xn.getD e ""))) = some (P.sub c e)) && decide (PySem.W.kitOne K (.ref (He.ga K (xn.getD c ""))) (.ref (He.ga K (xn.getD e ""))) = some (P.sub c e))
mutual
/-- the value u is d, as it stands in K -/
def gvB (K : PySem.W.Frag) : D → Value → Bool
  | .non, u => match u with
    | .none => true
    | _ => false
  | .bl b, u => match u with
    | .bool c => b == c
    | _ => false
  | .int i, u => match u with
    | .int j _ => decide (i = j)
    | _ => false
  | .str x, u => match u with
    | .str y _ => decide (x = y)
    | _ => false
  | .tup xs, u => match u with
    | .ref a => match K.lookup a with
      | some ⟨.type T, none, .seq its _, _⟩ => decide (T = "tuple") && decide (its.size ≤ sizeLine) && gvBs K xs its.toList
      | _ => false
    | _ => false
  | _, _ => false
def gvBs (K : PySem.W.Frag) : List D → List Value → Bool
  | [], us => us.isEmpty
  | x :: r, us => match us with
    | u :: t => gvB K x u && gvBs K r t
    | [] => false
end
def okG (P : Prog) (K : PySem.W.Frag) (i : Nat) : Bool := match P.gls[i]?, PySem.W.nsIn K mainGlobals (P.gn.getD i "") with
  | some d, some (some u) => gvB K d u
  | _, _ => false
mutual
theorem gvB_ok {G : Gx} : ∀ {d : D} {u : Value}, gvB G.K d u = true → GlOk G u d
  | .non, u, h => by
    unfold gvB at h
    split at h
    · exact ⟨.non, rfl, fun _ => rfl⟩
    · cases h
  | .bl b, u, h => by
    unfold gvB at h
    split at h
    · cases eq_of_beq h
      exact ⟨.bl b, rfl, fun _ => rfl⟩
    · cases h
  | .int i, u, h => by
    unfold gvB at h
    split at h
    · cases of_decide_eq_true h
      exact ⟨.int i, ⟨_, rfl⟩, fun _ => rfl⟩
    · cases h
  | .str x, u, h => by
    unfold gvB at h
    split at h
    · cases of_decide_eq_true h
      exact ⟨.str x, ⟨_, rfl⟩, fun _ => rfl⟩
    · cases h
  | .tup xs, u, h => by
    unfold gvB at h
    split at h
    · rename_i a
      split at h
      · rename_i T its n sl e
        simp only [Bool.and_eq_true, decide_eq_true_eq] at h
        obtain ⟨⟨rfl, hz⟩, h⟩ := h
        obtain ⟨vs, rv, hr⟩ := gvBs_ok h
        exact ⟨.ref a, rfl, fun W => ⟨a, vs, rfl, .inr ⟨_, its, n, e, rfl, rfl, rfl, hz, rv⟩, hr W⟩⟩
      · cases h
    · cases h
  | .lst _, _, h => by unfold gvB at h; cases h
  | .ro _, _, h => by unfold gvB at h; cases h
  | .dic _ _, _, h => by unfold gvB at h; cases h
  | .obj _, _, h => by unfold gvB at h; cases h
theorem gvBs_ok {G : Gx} : ∀ {ds : List D} {us : List Value}, gvBs G.K ds us = true → ∃ vs, Vals vs us ∧ ∀ W, Reps G W ds vs
  | [], us, h => by
    unfold gvBs at h
    cases us with
    | nil => exact ⟨[], .nil, fun _ => rfl⟩
    | cons _ _ => cases h
  | d :: ds, us, h => by
    unfold gvBs at h
    split at h
    · rw [Bool.and_eq_true] at h
      obtain ⟨v, rv, hr⟩ := gvB_ok h.1
      obtain ⟨vs, rvs, hrs⟩ := gvBs_ok h.2
      exact ⟨v :: vs, .cons rv rvs, fun W => .cons (hr W) (hrs W)⟩
    · cases h
end
def okK (ats : List (Str × Option Str)) (xn : List Str) (P : Prog) (K : PySem.W.Frag) : Bool :=
  bltN.all (fun x => He.eqO (PySem.W.nsIn K mainGlobals x) (some none)) && ats.all (fun p => match p.2 with
    | none => gloC K p.1
    | some _ => true) && (List.range xn.length).all (okX xn P K) && (List.range P.gn.length).all (okG P K)
def scC (N ps : List Str) (sc : Scope) : Bool := kindF sc && !sc.isCoroutine && !sc.isGenerator && decide N.Nodup && decide (N.take ps.length = ps) && ps.all (locC sc) && sc.names.all fun y => match y.2 with
  | .free => false
  | _ => true
theorem scC_ok {N ps : List Str} {sc : Scope} (h : scC N ps sc = true) : FnScope N ps sc := by
  unfold scC at h
  simp only [Bool.and_eq_true, Bool.not_eq_true', decide_eq_true_eq] at h
  obtain ⟨⟨⟨⟨⟨⟨h1, h2⟩, h3⟩, h4⟩, h5⟩, h6⟩, h7⟩ := h
  refine ⟨kindF_ok h1, h2, h3, h4, h5, fun x hx => locC_ok (List.all_eq_true.mp h6 x hx), fun y hy e => ?_⟩
  have := List.all_eq_true.mp h7 y hy
  rw [e] at this
  cases this
/-- the static check of a def -/
def dxC (T : Tb) (x : Dx) (F : Fn) : Bool := scC x.N x.ps x.d.scope && decide (F.n = x.N.length) && decide (F.ps = x.ps.length) && ckB T F.fr F.body ⟨x.N, x.d.scope, locC x.d.scope, true, x.inn⟩ x.d.body
def DxB (x : Dx) : Prop := ∀ (kV doc pm : Value) (an : Option Addr) (cdv ct : Value) (us : List Value), us.length = x.ps.length → bindArgs (PySem.W.fnOf x.d.name x.d.qual x.d.params x.d.body x.d.scope .none kV doc pm an cdv ct) ⟨us, []⟩ = pure (x.ps.zip us)
abbrev ObX : Type := Bool × List He.FnV
def obsX (dx : List Dx) (xn : List Str) (P : Prog) (K : PySem.W.Frag) : ObX := (okK (dx.map (·.d.at_)) xn P K && dx.all fun d => (He.Fa.code d.d.at_ d.d.qual).ok K, dx.map fun d => He.fnObs K d.d.at_)
def valX (dx : List Dx) : ObX := (true, dx.map (·.d.val))
/-- the tables: seen in g, left out of K -/
def tabC (g : Addr → Option Obj) (dx : List Dx) (K : PySem.W.Frag) : Bool := He.tabsB g (tfs dx) K && decide ((tbG K dx).map (·.1)).Nodup
/-- what is looked at: what the names reach, the statics, the cells of the defs -/
def asX (g : Addr → Option Obj) (m : Nat) : List Addr := (fun as : List Addr => as ++ (cStatics :: as.flatMap fun x => match g x with
  | some ⟨_, _, .func fd, _⟩ => fd.closure.map (·.2)
  | _ => [])) (He.asG g m)
def obX (m : Nat) (dx : List Dx) (xn : List Str) (P : Prog) (g : Addr → Option Obj) : ObX := ((obsX dx xn P (He.frT g (asX g m))).1 && tabC g dx (He.frT g (asX g m)), (obsX dx xn P (He.frT g (asX g m))).2)
def Says (dx : List Dx) (xn : List Str) (P : Prog) (h : Heap) : Prop := ∃ K : PySem.W.Frag, K.In h ∧ obsX dx xn P K = valX dx ∧ Tbs K h ((tfs dx).map (He.cT K)) ∧ ((tbG K dx).map (·.1)).Nodup
theorem says_of {m : Nat} {dx : List Dx} {xn : List Str} {P : Prog} {h : Heap} (e : obX m dx xn P h.get? = valX dx) : Says dx xn P h := by
  have e1 : ((obsX dx xn P (He.frT h.get? (asX h.get? m))).1 && tabC h.get? dx (He.frT h.get? (asX h.get? m))) = true := congrArg (fun z : ObX => z.1) e
  have e2 : (obsX dx xn P (He.frT h.get? (asX h.get? m))).2 = dx.map (·.d.val) := congrArg (fun z : ObX => z.2) e
  unfold tabC at e1
  rw [Bool.and_eq_true, Bool.and_eq_true, decide_eq_true_eq] at e1
  have tb : ∀ p ∈ tfs dx, PySem.W.codeHdIn (He.frT h.get? (asX h.get? m)) (He.cT (He.frT h.get? (asX h.get? m)) p).1 (He.cT (He.frT h.get? (asX h.get? m)) p).2 = true ∧ ∃ o, h.get? (He.cT (He.frT h.get? (asX h.get? m)) p).2 = some o ∧ He.emptyTab o = true := fun p hp => by
    have z := List.all_eq_true.mp e1.2.1 p hp
    rw [Bool.and_eq_true] at z
    refine ⟨z.1, ?_⟩
    have z2 := z.2
    split at z2
    · rename_i o q
      exact ⟨o, q, z2⟩
    · cases z2
  refine ⟨He.frT h.get? (asX h.get? m), He.frT_in, Prod.ext e1.1 e2, ⟨fun z hz => ?_, fun z hz => ?_, fun z hz => ?_⟩, e1.2.2⟩ <;> obtain ⟨p, hp, rfl⟩ := List.mem_map.mp hz
  · obtain ⟨_, o, q, t⟩ := tb p hp
    rw [q, He.emptyTab_eq t]; rfl
  · obtain ⟨_, o, q, t⟩ := tb p hp
    exact He.frT_none q t
  · exact PySem.W.codeHd_of_K He.frT_in (tb p hp).1
theorem Says.keeps {dx : List Dx} {xn : List Str} {P : Prog} {h h' : Heap} (s : Says dx xn P h) (k : ∀ b o, h.get? b = some o → h'.get? b = some o) : Says dx xn P h' := by
  obtain ⟨K, i, c, t, nd⟩ := s
  exact ⟨K, i.keeps k, c, ⟨fun z hz => k _ _ (t.at_ z hz), t.no, fun z hz => (t.hd z hz).keeps k⟩, nd⟩
def hookX (m : Nat) (dx : List Dx) (xn : List Str) (P : Prog) : PySem.W.Hook where
  α := ObX
  obs := fun s => obX m dx xn P s.heap.get?
  val := fun _ => valX dx
  says := fun _ h => Says dx xn P h
  of := fun _ s e => says_of e
  keeps := fun _ _ _ s k => s.keeps k
theorem obX_eq {m : Nat} {dx : List Dx} {xn : List Str} {P : Prog} (s : PySem.W.SharedT) : obX m dx xn P (HandSHeadRun.getT s) = (hookX m dx xn P).obs s.abs := by
  have e : HandSHeadRun.getT s = s.abs.heap.get? := funext (HandSHeadRun.getT_eq s)
  show obX m dx xn P (HandSHeadRun.getT s) = obX m dx xn P s.abs.heap.get?
  rw [e]
theorem gloC_ok {K : PySem.W.Frag} {h : Heap} {mg : Str → Option Value} (X : K.In h) (G : h.Ns mainGlobals mg) {x : Str} (c : gloC K x = true) : mg x = some (.ref (He.ga K x)) ∧ PySem.W.keepIn K (.ref (He.ga K x)) = true := by
  unfold gloC at c
  rw [Bool.and_eq_true] at c
  exact ⟨PySem.W.mg_of X G (He.eqO_ok c.1), c.2⟩
theorem nd_fst {α β : Type} : ∀ {l : List (α × β)} {a : α} {x y : β}, (l.map (·.1)).Nodup → (a, x) ∈ l → (a, y) ∈ l → x = y
  | (b, z) :: r, a, x, y, nd, h1, h2 => by
    rw [List.map_cons, List.nodup_cons] at nd
    rcases List.mem_cons.mp h1 with e1 | h1 <;> rcases List.mem_cons.mp h2 with e2 | h2
    · cases e1; cases e2; rfl
    · cases e1; exact absurd (List.mem_map_of_mem h2) nd.1
    · cases e2; exact absurd (List.mem_map_of_mem h1) nd.1
    · exact nd_fst nd.2 h1 h2
/-- the program, as the head tells it -/
theorem pok_of {prog : Program} {w : World} {K : PySem.W.Frag} {base : Heap} {mg : Str → Option Value} {dx : List Dx} {xn : List Str} {P : Prog} (X : K.In base) (G : base.Ns mainGlobals mg) (c : obsX dx xn P K = valX dx) (tb : ∀ z ∈ (tfs dx).map (He.cT K), GxR.TabB base mg z.1 z.2) (nd : ((tbG K dx).map (·.1)).Nodup)
    (st : ∀ (i : Nat) (F : Fn), P.fns[i]? = some F → ∃ x, dx[i]? = some x ∧ dxC (mkT (dx.map (·.d.at_)) xn P) x F = true ∧ DxB x) (hfl : flB prog P = true) :
    Pok ⟨prog, w, K, mg, base, fun _ => 0, 0, fun c => He.ga K (xn.getD c ""), xn.length, fun f => He.fAd K ((dx.map (·.d.at_)).getD f ("", none)), tbG K dx⟩ (mkT (dx.map (·.d.at_)) xn P) P := by
  have c1 : (okK (dx.map (·.d.at_)) xn P K && dx.all fun d => (He.Fa.code d.d.at_ d.d.qual).ok K) = true := congrArg (fun z : ObX => z.1) c
  have c2 : dx.map (fun d => He.fnObs K d.d.at_) = dx.map (·.d.val) := congrArg (fun z : ObX => z.2) c
  rw [Bool.and_eq_true] at c1
  obtain ⟨c1, c3⟩ := c1
  unfold okK at c1
  simp only [Bool.and_eq_true] at c1
  obtain ⟨⟨⟨k1, k2⟩, k3⟩, k4⟩ := c1
  have X' : ∀ c, c < xn.length → okX xn P K c = true := fun c h => List.all_eq_true.mp k3 c (List.mem_range.mpr h)
  refine ⟨fun x hx => PySem.W.mg_none_of X G (He.eqO_ok (List.all_eq_true.mp k1 x hx)), fun x f hx => ?_, fun x c hx => ?_, fun c hc n1 n2 => ?_, fun c hc n1 => ?_, fun c hc n1 => ?_, fun c hc => ?_, fun c f hc hf => ?_, fun c hc => ?_, fun c e hc he => ?_, fun f F hF => ?_, fun x k hx => ?_⟩
  · obtain ⟨j, e, q⟩ := fnL_mem hx
    obtain rfl : f = j := by omega
    have m := List.all_eq_true.mp k2 _ (List.mem_of_getElem? q)
    have q2 : He.fAd K ((dx.map (·.d.at_)).getD f ("", none)) = He.ga K x := by rw [List.getD_eq_getElem?_getD, q]; rfl
    show mg x = some (.ref (He.fAd K ((dx.map (·.d.at_)).getD f ("", none)))) ∧ PySem.W.keepIn K (.ref (He.fAd K ((dx.map (·.d.at_)).getD f ("", none)))) = true
    rw [q2]
    exact gloC_ok X G m
  · obtain ⟨j, e, q⟩ := xcL_mem hx
    obtain rfl : c = j := by omega
    have hl : c < xn.length := (List.getElem?_eq_some_iff.mp q).1
    have m := X' c hl
    unfold okX at m
    simp only [Bool.and_eq_true] at m
    have g := gloC_ok X G m.1.1.1.1.1
    have q2 : xn.getD c "" = x := by rw [List.getD_eq_getElem?_getD, q]; rfl
    rw [q2] at g
    show mg x = some (.ref (He.ga K (xn.getD c ""))) ∧ PySem.W.keepIn K (.ref (He.ga K (xn.getD c ""))) = true ∧ c < xn.length
    rw [q2]
    exact ⟨g.1, g.2, hl⟩
  · have m := X' c hc
    unfold okX at m
    simp only [Bool.and_eq_true, decide_eq_true_eq] at m
    have z := m.1.1.1.1.2.1.1
    unfold mkX at z
    split at z
    · rename_i x hx
      split at z
      · rename_i h1
        exact absurd (xkL_in hx h1) n1
      · split at z
        · rename_i h1
          exact absurd (xkL_in hx h1) n2
        · exact z
    · cases z
  · have m := X' c hc
    unfold okX at m
    simp only [Bool.and_eq_true, decide_eq_true_eq] at m
    have z := m.1.1.1.1.2.1.1
    have hfl2 : prog.main.file = P.fl ∧ (prog.main.scope.names.lookup ("super" : Str)).isSome = false := by
      unfold flB at hfl
      rw [Bool.or_eq_true] at hfl
      rcases hfl with hfl | hfl
      · have n3 : c ∈ xkL 1 P := n1
        rw [Bool.and_eq_true] at hfl
        rw [List.isEmpty_iff.mp hfl.1] at n3
        cases n3
      · simpa using hfl
    unfold mkX at z
    split at z
    · rename_i x hx
      have h1 : x.ps = 1 := xkL_ps hx n1
      rw [if_pos h1] at z
      split at z
      · rename_i F hfs
        rw [Bool.and_eq_true, decide_eq_true_eq] at z
        obtain ⟨fI, pre, fd, cc, cda, T, XI, hz⟩ := DX.xiB_ok (P := prog) z.1 z.2 hfl2.1 hfl2.2
        exact ⟨F, fI, pre, fd, cc, cda, T, XI, hz, x, hx, h1, hfs⟩
      · cases z
    · cases z
  · have m := X' c hc
    unfold okX at m
    simp only [Bool.and_eq_true, decide_eq_true_eq] at m
    have z := m.1.1.1.1.2.1.1
    have hfl2 : prog.main.file = P.fl ∧ (prog.main.scope.names.lookup ("super" : Str)).isSome = false := by
      unfold flB at hfl
      rw [Bool.or_eq_true] at hfl
      rcases hfl with hfl | hfl
      · have n3 : c ∈ xkL 2 P := n1
        rw [Bool.and_eq_true] at hfl
        rw [List.isEmpty_iff.mp hfl.2] at n3
        cases n3
      · simpa using hfl
    unfold mkX at z
    split at z
    · rename_i x hx
      have h1 : x.ps = 2 := xkL_ps hx n1
      rw [if_neg (by omega), if_pos h1] at z
      split at z
      · rename_i F2 F hfs
        simp only [Bool.and_eq_true, decide_eq_true_eq] at z
        obtain ⟨⟨⟨z1, z2⟩, z3⟩, z4⟩ := z
        obtain ⟨fI, pre, mid, fd, cc, cda, T, XI, hz, hz2⟩ := DX.xiB2_ok (P := prog) z1 z3 z4 z2 hfl2.1 hfl2.2
        exact ⟨F, F2, fI, pre, mid, fd, cc, cda, T, XI, hz, hz2, x, hx, h1, hfs⟩
      · cases z
    · cases z
  · have m := X' c hc
    unfold okX at m
    simp only [Bool.and_eq_true, decide_eq_true_eq] at m
    exact m.1.1.1.1.2.1.2
  · have m := X' c hc
    unfold okX at m
    simp only [Bool.and_eq_true, decide_eq_true_eq] at m
    exact He.eqO_ok (List.all_eq_true.mp m.1.1.1.1.2.2 f hf)
  · have m := X' c hc
    unfold okX at m
    simp only [Bool.and_eq_true, decide_eq_true_eq] at m
    exact ⟨m.1.1.1.2, m.1.1.2, excB_ok m.1.2⟩
  · have m := X' c hc
    unfold okX at m
    simp only [Bool.and_eq_true] at m
    have z := List.all_eq_true.mp m.2 e (List.mem_range.mpr he)
    simp only [Bool.and_eq_true, decide_eq_true_eq] at z
    exact z
  · obtain ⟨x, hx, hc, hb⟩ := st f F hF
    unfold dxC at hc
    simp only [Bool.and_eq_true, decide_eq_true_eq] at hc
    obtain ⟨⟨⟨s1, s2⟩, s3⟩, s4⟩ := hc
    have e1 : (dx.map (fun d => He.fnObs K d.d.at_))[f]? = (dx.map (·.d.val))[f]? := by rw [c2]
    rw [List.getElem?_map, List.getElem?_map, hx] at e1
    have cd := List.all_eq_true.mp c3 x (List.mem_of_getElem? hx)
    obtain ⟨oc, od, osl, kV, doc, pm, an, cdv, ct, lk, hcd⟩ := He.fn_ok (Option.some.inj e1) cd
    have q2 : (dx.map (·.d.at_)).getD f (("" : Str), (none : Option Str)) = x.d.at_ := by rw [List.getD_eq_getElem?_getD, List.getElem?_map, hx]; rfl
    refine ⟨x.d.name, x.d.qual, x.d.params, x.d.body, x.d.scope, .none, kV, doc, pm, cdv, ct, oc, an, od, osl, x.N, x.ps, x.inn, ?_, hcd, scC_ok s1, fun us hl => hb kV doc pm an cdv ct us hl, s2, s3, ?_, fun b eb => ?_, s4⟩
    · show K.lookup (He.fAd K ((dx.map (·.d.at_)).getD f ("", none))) = _
      rw [q2]
      exact lk
    · show ((P.fns.map (·.fr))[f]?).getD false = F.fr
      rw [List.getElem?_map, hF]
      rfl
    · have hm := List.mem_of_getElem? hx
      have m1 : x.d.at_ ∈ tfs dx := List.mem_map_of_mem (List.mem_filter.mpr ⟨hm, by rw [eb]; rfl⟩)
      obtain ⟨cc, rfl⟩ := He.codeIn_ref hcd
      have ec : He.codeOf K x.d.at_ = cc := He.codeOf_eq lk rfl
      have t1 := tb _ (List.mem_map_of_mem m1)
      have m2 : ((He.cT K x.d.at_).2, if b = true then some (x.d.qual ++ ".<locals>." ++ "<lambda>") else none) ∈ tbG K dx := List.mem_filterMap.mpr ⟨x, hm, by rw [eb]; rfl⟩
      refine ⟨cc, (He.cT K x.d.at_).2, rfl, m2, fun t ht e => ?_, ?_⟩
      · obtain ⟨P0, r⟩ := t
        have e : P0 = (He.cT K x.d.at_).2 := e
        subst e
        exact nd_fst nd ht m2
      · rw [← ec]
        exact t1
  · obtain ⟨j, e, q⟩ := xcL_mem hx
    obtain rfl : k = j := by omega
    have hl := (List.getElem?_eq_some_iff.mp q).1
    have z := List.all_eq_true.mp k4 k (List.mem_range.mpr hl)
    unfold okG at z
    have q2 : P.gn.getD k "" = x := by rw [List.getD_eq_getElem?_getD, q]; rfl
    rw [q2] at z
    split at z
    · rename_i d u e1 e2
      exact ⟨u, d, PySem.W.mg_of X G e2, e1, gvB_ok (G := ⟨prog, w, K, mg, base, fun _ => 0, 0, fun c => He.ga K (xn.getD c ""), xn.length, fun f => He.fAd K ((dx.map (·.d.at_)).getD f ("", none)), tbG K dx⟩) z⟩
    · cases z
theorem walk_d {l : PySem.W.OpenLaw} {n N f m : Nat} {q : Program} {loose : List Str} {XP : (Str → Option Value) → Heap → Prop} {d : DefRec} {dx : List Dx} {xn : List Str} {P : Prog} (hn : l.most = some n) (hn2 : n ≤ sizeLine) (hdf : d.params.defaults = []) (hr : Room (3 * N) callerA)
    (hf : (dx.map (·.d.at_))[f]? = some (d.name, none)) (st : ∀ (i : Nat) (F : Fn), P.fns[i]? = some F → ∃ x, dx[i]? = some x ∧ dxC (mkT (dx.map (·.d.at_)) xn P) x F = true ∧ DxB x)
    (law : ∀ ns : List Int, ns.length ≤ n → (∀ k ∈ ns, Builtin.Int.intBits k ≤ 1048576) → ∃ S, (run P N).fn f [.ro (ns.map .int)] [] = .ok (.bl true) S)
    (hfl : flB l.prog P = true := by decide +kernel) : PySem.W.WalkO q loose XP (hookX m dx xn P).says l.row.toRowW d [] (fun f vs => PySem.call f vs) := by
  refine Att.attach_callB hn hdf fun w s0 s1 mg mb fa o pm cd doc a vs ns G Y ho hd hcd hmg hobj hints hlen hbits hg => ?_
  obtain ⟨K, KX, c, tbs, nd⟩ := Y
  obtain ⟨S, hS⟩ := law ns hlen hbits
  have c1 : (okK (dx.map (·.d.at_)) xn P K && dx.all fun d => (He.Fa.code d.d.at_ d.d.qual).ok K) = true := congrArg (fun z : ObX => z.1) c
  rw [Bool.and_eq_true] at c1
  have c2 := c1.1
  unfold okK at c2
  simp only [Bool.and_eq_true] at c2
  have g := (gloC_ok KX G.T.g (x := d.name) (List.all_eq_true.mp c2.1.1.2 _ (List.mem_of_getElem? hf))).1
  have e : fa = He.fAd K ((dx.map (·.d.at_)).getD f ("", none)) := by
    rw [List.getD_eq_getElem?_getD, hf]
    rw [hmg] at g
    cases g
    rfl
  rw [e]
  refine law_end (fa := fun f => He.fAd K ((dx.map (·.d.at_)).getD f ("", none))) (xa := fun c => He.ga K (xn.getD c "")) (ca := fun _ => 0) (nc := 0) (nx := xn.length) (tb := tbG K dx) KX G.T.g G.T.b G.T.builtins G.T.nolimit hg tbs (fun t ht => ?_) G.T.bmain hobj hints (Nat.le_trans hlen hn2) hr (fun base h1 h2 h3 => pok_of h1 h2 c h3 nd st hfl) hS
  obtain ⟨x, hx, e⟩ := List.mem_filterMap.mp ht
  obtain ⟨b, eb, e⟩ := Option.map_eq_some_iff.mp e
  exact ⟨_, List.mem_map_of_mem (List.mem_map_of_mem (List.mem_filter.mpr ⟨hx, by rw [eb]; rfl⟩)), by rw [← e]⟩
end DI
namespace DI
open PySem
theorem st_of {dx : List Dx} {P : Prog} {T : Tb} (hl : dx.length = P.fns.length) (hc : (dx.zip P.fns).all (fun p => dxC T p.1 p.2) = true) (hb : ∀ x ∈ dx, DxB x) : ∀ (i : Nat) (F : Fn), P.fns[i]? = some F → ∃ x, dx[i]? = some x ∧ dxC T x F = true ∧ DxB x := by
  intro i F h
  have hi : i < dx.length := by rw [hl]; exact (List.getElem?_eq_some_iff.mp h).1
  have e : dx[i]? = some dx[i] := List.getElem?_eq_getElem hi
  refine ⟨dx[i], e, ?_, hb _ (List.getElem_mem hi)⟩
  have z : (dx.zip P.fns)[i]? = some (dx[i], F) := by rw [List.getElem?_zip_eq_some]; exact ⟨e, h⟩
  exact List.all_eq_true.mp hc _ (List.mem_of_getElem? z)
end DI
set_option Elab.async false
set_option linter.all false
set_option maxRecDepth 100000
set_option maxHeartbeats 1000000
/-! DM: plain laws of what the text computes, for all programs. -/
namespace DI
open PySem L2
theorem fn_at {P : Prog} {f : Nat} {F : Fn} (h : P.fns[f]? = some F) (n : Nat) (ds : List D) (S : Store) : (run P (n + 1)).fn f ds S = runFn (run P n) F ds S := by
  rw [DI.run_fn, h]
theorem nobs_ints : ∀ L : List Int, nobs (L.map .int) = true
  | [] => rfl
  | _ :: L => nobs_ints L
theorem atI_nn {α : Type} {xs : List α} {k : Int} (h0 : 0 ≤ k) (h1 : k < xs.length) : atI xs k = xs[k.toNat]? := by
  unfold atI ixN
  rw [if_pos h0, if_pos h1]
  rfl
theorem atI_int {L : List Int} {k : Int} (h0 : 0 ≤ k) (h1 : k < L.length) : ∃ v, atI (L.map D.int) k = some (.int v) := by
  rw [atI_nn h0 (by simpa using h1), List.getElem?_map, List.getElem?_eq_getElem (by omega)]
  exact ⟨_, rfl⟩
theorem rngN_at {a c : Int} {n i : Nat} {d : D} (h : (rngN a n c)[i]? = some d) : i < n ∧ d = .int (a + i * c) := rngN_get h
/-- a loop over items that no one changes -/
theorem forL_inv {f : D → Ev → Store → RS} {xs : List D} (I : Nat → Ev → Store → Prop) (h : ∀ (i : Nat) (d : D) (ρ : Ev) (S : Store), xs[i]? = some d → I i ρ S → ∃ ρ' S', f d ρ S = .nx ρ' S' ∧ I (i + 1) ρ' S') :
    ∀ (ys : List D) (i : Nat) (ρ : Ev) (S : Store), xs.drop i = ys → I i ρ S → ∃ ρ' S', forL f (xs, none) ys ρ S = .nx ρ' S' ∧ I (i + ys.length) ρ' S'
  | [], i, ρ, S, e, hI => by
    unfold forL
    exact ⟨ρ, S, by simp, hI⟩
  | d :: ys, i, ρ, S, e, hI => by
    have hd : xs[i]? = some d := by
      have := congrArg List.head? e
      simpa [List.head?_drop] using this
    obtain ⟨ρ', S', e1, h1⟩ := h i d ρ S hd hI
    obtain ⟨ρ2, S2, e2, h2⟩ := forL_inv I h ys (i + 1) ρ' S' (by
      have := congrArg List.tail e
      simpa [List.tail_drop] using this) h1
    refine ⟨ρ2, S2, ?_, by rw [List.length_cons, Nat.add_comm ys.length 1, ← Nat.add_assoc]; exact h2⟩
    unfold forL
    simp [e1, e2]
theorem for_inv {f : D → Ev → Store → RS} {xs : List D} {ρ : Ev} {S : Store} (I : Nat → Ev → Store → Prop) (h0 : I 0 ρ S) (h : ∀ (i : Nat) (d : D) (ρ : Ev) (S : Store), xs[i]? = some d → I i ρ S → ∃ ρ' S', f d ρ S = .nx ρ' S' ∧ I (i + 1) ρ' S') :
    ∃ ρ' S', forL f (xs, none) xs ρ S = .nx ρ' S' ∧ I xs.length ρ' S' := by
  have := forL_inv I h xs 0 ρ S (by simp) h0
  simpa using this
end DI
set_option Elab.async false
set_option linter.all false
set_option maxRecDepth 100000
set_option maxHeartbeats 1000000
/-! DR0: what repr shows is a right text. -/
namespace DI
open PySem
theorem strOk_iff (x : Str) : PyData.strOk x = true ↔ ∀ c ∈ x.cps.toList, c < 0x110000 := by
  unfold PyData.strOk
  rw [Array.all_eq_true_iff_forall_mem]
  constructor
  · intro h c hc
    simpa using h c (Array.mem_toList_iff.1 hc)
  · intro h c hc
    simpa using h c (Array.mem_toList_iff.2 hc)
theorem cps_app (x y : Str) : (x ++ y).cps.toList = x.cps.toList ++ y.cps.toList := by
  show (x.cps ++ y.cps).toList = _
  rw [Array.toList_append]
theorem strOk_app {x y : Str} (h : PyData.strOk x = true) (k : PyData.strOk y = true) : PyData.strOk (x ++ y) = true := by
  rw [strOk_iff] at *
  rw [cps_app]
  intro c hc
  rcases List.mem_append.1 hc with hc | hc
  · exact h c hc
  · exact k c hc
theorem char_lt (c : Char) : c.toNat < 0x110000 := by
  have := c.valid
  have h : c.toNat = c.val.toNat := rfl
  rw [h]
  rcases this with h | h
  · have := h; simp [UInt32.isValidChar] at *; omega
  · omega
theorem strOk_ofString (s : String) : PyData.strOk (Str.ofString s) = true := by
  rw [strOk_iff, Str.ofString_eq_toList]
  intro c hc
  obtain ⟨d, -, rfl⟩ := List.mem_map.1 (show c ∈ s.toList.map Char.toNat from by simpa using hc)
  exact char_lt d
theorem strOk_join (sep : Str) (hs : PyData.strOk sep = true) : ∀ ts : List Str, (∀ t ∈ ts, PyData.strOk t = true) → PyData.strOk (Str.join sep ts) = true
  | [], _ => by show PyData.strOk Str.empty = true; decide +kernel
  | [x], h => h x (by simp)
  | x :: y :: r, h => strOk_app (strOk_app (h x (by simp)) hs) (strOk_join sep hs (y :: r) fun t ht => h t (by simp [ht]))
theorem strOk_c (s : String) : PyData.strOk (s : Str) = true := strOk_ofString s
theorem ok_listText (ts : List Str) (h : ∀ t ∈ ts, PyData.strOk t = true) : PyData.strOk (listText ts) = true := by
  rw [listText_eq_join]
  exact strOk_app (strOk_app (strOk_c _) (strOk_join _ (strOk_c _) _ h)) (strOk_c _)
theorem ok_tupleText (ts : List Str) (h : ∀ t ∈ ts, PyData.strOk t = true) : PyData.strOk (tupleText ts) = true := by
  unfold tupleText
  exact strOk_app (strOk_app (strOk_c _) (strOk_join _ (strOk_c _) _ h)) (strOk_c _)
theorem hex_ok (c w : Nat) : ∀ d ∈ List.replicate w 48 ++ (Nat.toDigits 16 c).map Char.toNat, d < 0x110000 := by
  intro d hd
  rcases List.mem_append.1 hd with hd | hd
  · rw [(List.mem_replicate.1 hd).2]; decide
  · obtain ⟨e, -, rfl⟩ := List.mem_map.1 hd
    exact char_lt e
theorem reprChar_ok (q c : Nat) (hq : q < 0x110000) (hc : c < 0x110000) : ∀ d ∈ Builtin.Str.reprChar q c, d < 0x110000 := by
  have H2 := hex_ok c (2 - ((Nat.toDigits 16 c).map Char.toNat).length)
  have H4 := hex_ok c (4 - ((Nat.toDigits 16 c).map Char.toNat).length)
  have H8 := hex_ok c (8 - ((Nat.toDigits 16 c).map Char.toNat).length)
  intro d hd
  unfold Builtin.Str.reprChar at hd
  dsimp only at hd
  split at hd
  · simp only [List.mem_cons, List.not_mem_nil, or_false] at hd
    omega
  split at hd
  · simp only [List.mem_cons, List.not_mem_nil, or_false] at hd
    omega
  split at hd
  · simp only [List.mem_cons, List.not_mem_nil, or_false] at hd
    omega
  split at hd
  · simp only [List.mem_cons, List.not_mem_nil, or_false] at hd
    omega
  split at hd
  · simp only [List.mem_cons, List.not_mem_nil, or_false] at hd
    omega
  split at hd
  · rcases List.mem_append.1 hd with hd | hd
    · simp only [List.mem_cons, List.not_mem_nil, or_false] at hd
      omega
    · exact H2 d hd
  split at hd
  · rcases List.mem_append.1 hd with hd | hd
    · simp only [List.mem_cons, List.not_mem_nil, or_false] at hd
      omega
    · exact H4 d hd
  · rcases List.mem_append.1 hd with hd | hd
    · simp only [List.mem_cons, List.not_mem_nil, or_false] at hd
      omega
    · exact H8 d hd
theorem fold_ok (q : Nat) (hq : q < 0x110000) : ∀ (l : List Nat) (acc : Array Nat), (∀ c ∈ l, c < 0x110000) → (∀ c ∈ acc.toList, c < 0x110000) → ∀ c ∈ (l.foldl (fun out c => out ++ (Builtin.Str.reprChar q c).toArray) acc).toList, c < 0x110000
  | [], acc, _, h => h
  | a :: r, acc, h1, h2 => by
    refine fold_ok q hq r _ (fun c hc => h1 c (by simp [hc])) ?_
    intro c hc
    rw [Array.toList_append] at hc
    rcases List.mem_append.1 hc with hc | hc
    · exact h2 c hc
    · exact reprChar_ok q a hq (h1 a (by simp)) c (by simpa using hc)
theorem ok_reprText (x : Str) (h : PyData.strOk x = true) : PyData.strOk (reprText x) = true := by
  have hq : reprQuote x < 0x110000 := by unfold reprQuote; split <;> decide
  rw [strOk_iff] at *
  unfold reprText
  intro c hc
  rw [← Array.foldl_toList] at hc
  simp only [Array.toList_push] at hc
  rcases List.mem_append.1 hc with hc | hc
  · exact fold_ok _ hq _ _ h (by intro d hd; simp at hd; omega) c hc
  · simp at hc; omega
mutual
theorem ok_shown : ∀ d : PyData, d.canLay0 = true → PyData.strOk d.shown = true
  | .none, _ => by rw [PyData.shown_none]; exact strOk_c _
  | .bool b, _ => by rw [PyData.shown_bool]; split <;> exact strOk_c _
  | .int i, _ => by rw [PyData.shown_int]; exact strOk_ofString _
  | .str x, h => by rw [PyData.shown_str]; exact ok_reprText x (by simpa only [PyData.canLay0] using h)
  | .list xs, h => by
    simp only [PyData.shown]
    exact ok_listText _ (ok_shownAll xs (by simpa only [PyData.canLay0] using h))
  | .tuple xs, h => by
    simp only [PyData.shown]
    exact ok_tupleText _ (ok_shownAll xs (by simpa only [PyData.canLay0] using h))
  | .dict _, h => by simp only [PyData.canLay0] at h; exact nomatch h
theorem ok_shownAll : ∀ xs : List PyData, PyData.canLayAll0 xs = true → ∀ t ∈ PyData.shownAll xs, PyData.strOk t = true
  | [], _ => by intro t ht; rw [PyData.shownAll_nil] at ht; cases ht
  | x :: xs, h => by
    have h' : x.canLay0 = true ∧ PyData.canLayAll0 xs = true := by simpa only [PyData.canLayAll0, Bool.and_eq_true] using h
    intro t ht
    rw [PyData.shownAll_cons] at ht
    rcases List.mem_cons.1 ht with rfl | ht
    · exact ok_shown x h'.1
    · exact ok_shownAll xs h'.2 t ht
end
end DI
set_option Elab.async false
set_option linter.all false
set_option maxRecDepth 100000
set_option maxHeartbeats 1000000
/-! DR: data that repr may show, and `repr(a) == repr(b)`. -/
namespace DI
open PySem L2
/-- small data that may be shown: depth at most k, weight at most w -/
structure Sh (k w : Nat) (d : D) : Prop where
  p : pl d = true
  s : (toPy d).showable = true
  l : (toPy d).leavesShort 13 = true
  k : (toPy d).depth ≤ k
  w : (toPy d).weight ≤ w
structure Shs (k w : Nat) (ds : List D) : Prop where
  p : pls ds = true
  s : PyData.showableAll (toPys ds) = true
  l : PyData.leavesShortAll 13 (toPys ds) = true
  k : PyData.depthAll (toPys ds) ≤ k
  w : PyData.weightAll (toPys ds) ≤ w
theorem Sh.non {k w : Nat} : Sh k w .non := ⟨rfl, rfl, rfl, Nat.zero_le _, Nat.zero_le _⟩
theorem Sh.bl {k w : Nat} (b : Bool) : Sh k w (.bl b) := ⟨rfl, rfl, rfl, Nat.zero_le _, Nat.zero_le _⟩
theorem Sh.int {k w : Nat} {i : Int} (h : i.natAbs < 10 ^ 12) (hw : 40 ≤ w) : Sh k w (.int i) := by
  refine ⟨rfl, ?_, ?_, Nat.zero_le _, ?_⟩
  · simp only [toPy, PyData.showable, decide_eq_true_eq]
    rcases Nat.eq_zero_or_pos i.natAbs with e | e
    · rw [e]; decide
    · rw [Nat.log2_lt (by omega)]
      refine Nat.lt_of_lt_of_le h ?_
      exact Nat.le_trans (by decide : 10 ^ 12 ≤ 2 ^ 40) (Nat.pow_le_pow_right (by decide) (by decide))
  · simp only [toPy, PyData.leavesShort, decide_eq_true_eq]
    exact PyData.shown_int_le h
  · simp only [toPy, PyData.weight]
    split
    · omega
    · rename_i hz
      have hz' : i ≠ 0 := by simpa using hz
      have : i.natAbs.log2 < 40 := (Nat.log2_lt (by omega)).2 (Nat.lt_of_lt_of_le h (by decide))
      omega
theorem Sh.str {k w : Nat} {x : Str} (h : PyData.strOk x = true) (hw : x.cps.size ≤ w) : Sh k w (.str x) := by
  refine ⟨h, rfl, ?_, Nat.zero_le _, hw⟩
  simp only [toPy, PyData.leavesShort, List.all_eq_true, decide_eq_true_eq]
  intro c hc
  have := (strOk_iff x).1 h c hc
  have e : (16 : Nat) ^ 8 = 4294967296 := by decide
  omega
theorem Shs.nil {k : Nat} : Shs k 0 [] := ⟨rfl, rfl, rfl, Nat.zero_le _, Nat.zero_le _⟩
theorem Shs.cons {k w v : Nat} {d : D} {ds : List D} (h : Sh k w d) (t : Shs k v ds) : Shs k (w + 1 + v) (d :: ds) := by
  refine ⟨?_, ?_, ?_, ?_, ?_⟩
  · simp only [pls, h.p, t.p, Bool.and_self]
  · simp only [toPys, PyData.showableAll, h.s, t.s, Bool.and_self]
  · simp only [toPys, PyData.leavesShortAll, h.l, t.l, Bool.and_self]
  · simp only [toPys, PyData.depthAll]
    exact Nat.max_le.2 ⟨h.k, t.k⟩
  · simp only [toPys, PyData.weightAll]
    have := h.w
    have := t.w
    omega
theorem Shs.tup {k w : Nat} {ds : List D} (h : Shs k w ds) : Sh (k + 1) w (.tup ds) := by
  refine ⟨by simpa only [pl] using h.p, ?_, ?_, ?_, ?_⟩
  · simp only [toPy, PyData.showable, h.s]
  · simp only [toPy, PyData.leavesShort, h.l]
  · simp only [toPy, PyData.depth]; exact Nat.succ_le_succ h.k
  · simp only [toPy, PyData.weight]; exact h.w
theorem Shs.lst {k w : Nat} {ds : List D} (h : Shs k w ds) : Sh (k + 1) w (.lst ds) := by
  refine ⟨by simpa only [pl] using h.p, ?_, ?_, ?_, ?_⟩
  · simp only [toPy, PyData.showable, h.s]
  · simp only [toPy, PyData.leavesShort, h.l]
  · simp only [toPy, PyData.depth]; exact Nat.succ_le_succ h.k
  · simp only [toPy, PyData.weight]; exact h.w
theorem Sh.up {k w k' w' : Nat} {d : D} (h : Sh k w d) (hk : k ≤ k') (hw : w ≤ w') : Sh k' w' d := ⟨h.p, h.s, h.l, Nat.le_trans h.k hk, Nat.le_trans h.w hw⟩
theorem Shs.up {k w k' w' : Nat} {d : List D} (h : Shs k w d) (hk : k ≤ k') (hw : w ≤ w') : Shs k' w' d := ⟨h.p, h.s, h.l, Nat.le_trans h.k hk, Nat.le_trans h.w hw⟩
theorem Shs.map {α : Type} {k w : Nat} {f : α → D} : ∀ {xs : List α}, (∀ x ∈ xs, Sh k w (f x)) → Shs k ((w + 1) * xs.length) (xs.map f)
  | [], _ => Shs.nil.up (Nat.le_refl _) (Nat.zero_le _)
  | x :: xs, h => by
    have := Shs.cons (h x (by simp)) (Shs.map (xs := xs) fun y hy => h y (by simp [hy]))
    rw [List.length_cons, Nat.mul_succ, Nat.add_comm]
    exact this
theorem Sh.repr {d : D} (h : Sh 60 6000 d) : biD .repr d = some (.str (toPy d).shown) := by
  have h1 := PyData.shown_le 13 (by decide) (toPy d) h.l
  have h2 := h.w
  have h3 : decide ((toPy d).shown.length ≤ lim) = true := decide_eq_true (by unfold lim; omega)
  have h4 : decide ((toPy d).depth ≤ 60) = true := decide_eq_true h.k
  have hp := h.p
  show (if pl d && (toPy d).showable && decide ((toPy d).depth ≤ 60) && decide ((toPy d).shown.length ≤ lim) then some (D.str (toPy d).shown) else none) = _
  rw [hp, h.s, h3, h4]
  rfl
theorem eq_str (x y : Str) (hx : PyData.strOk x = true) (hy : PyData.strOk y = true) : cmpD .eq (.str x) (.str y) = some (.bl (decide (x = y))) := by
  simp only [cmpD, eqD, pl, hx, hy, toPy, PyData.depth, Nat.zero_le, decide_true, Bool.and_self, if_true, Option.map_some, PyData.eqv]
  by_cases h : x = y <;> simp [h]
theorem shown_ok {d : D} (h : pl d = true) : PyData.strOk (toPy d).shown = true := ok_shown _ (pl_lay h)
end DI
set_option Elab.async false
set_option linter.all false
set_option maxRecDepth 100000
set_option maxHeartbeats 1000000
/-! DL: plain lemmas that many laws use. -/
namespace DI
open PySem L2
@[simp] theorem own_var (ρ : Ev) (i : Nat) : own? ρ (.var i) = (match ρ[i]? with | some (.own o) => some o.toD | _ => none) := rfl
@[simp] theorem own_cst (ρ : Ev) (d : D) : own? ρ (.cst d) = none := rfl
@[simp] theorem own_tup (ρ : Ev) (e : Exs) : own? ρ (.tup e) = none := rfl
@[simp] theorem own_lst (ρ : Ev) (e : Exs) : own? ρ (.lst e) = none := rfl
@[simp] theorem own_bin (ρ : Ev) (o : Bop) (a b : Ex) : own? ρ (.bin o a b) = none := rfl
@[simp] theorem own_neg (ρ : Ev) (a : Ex) : own? ρ (.neg a) = none := rfl
@[simp] theorem own_cmp (ρ : Ev) (o : Cop) (a b : Ex) : own? ρ (.cmp o a b) = none := rfl
@[simp] theorem own_chn (ρ : Ev) (o p : Cop) (a b c : Ex) : own? ρ (.chn o p a b c) = none := rfl
@[simp] theorem own_bnd (ρ : Ev) (e : Exs) : own? ρ (.bnd e) = none := rfl
@[simp] theorem own_idx (ρ : Ev) (a b : Ex) : own? ρ (.idx a b) = none := rfl
@[simp] theorem own_slc (ρ : Ev) (a : Ex) (b c : Exs) : own? ρ (.slc a b c) = none := rfl
@[simp] theorem own_call (ρ : Ev) (f : Nat) (e : Exs) : own? ρ (.call f e) = none := rfl
@[simp] theorem own_bi (ρ : Ev) (b : Bi) (a : Ex) : own? ρ (.bi b a) = none := rfl
@[simp] theorem own_isx (ρ : Ev) (b a : Nat) : own? ρ (.isx b a) = none := rfl
@[simp] theorem own_bm (ρ : Ev) (m : Bm) (a : Ex) (e : Exs) : own? ρ (.bm m a e) = none := rfl
theorem lcL_map {f : D → Store → R (Option D)} {g : D → D} {w : List D × Option Nat} (hw : w.2 = none) : ∀ (xs : List D) (S : Store), (∀ d ∈ xs, f d S = .ok (some (g d)) S) → lcL f w xs S = .ok (xs.map g) S
  | [], S, h => by
    unfold lcL
    simp [hw]
  | d :: r, S, h => by
    unfold lcL
    simp [hw, h d (by simp), lcL_map hw r S fun e he => h e (by simp [he])]
theorem pls_ints : ∀ L : List Int, pls (L.map .int) = true
  | [] => rfl
  | _ :: L => by simpa [pls, pl] using pls_ints L
theorem toPys_ints : ∀ L : List Int, toPys (L.map .int) = L.map PyData.int
  | [] => rfl
  | _ :: L => by simp [toPys, toPy, toPys_ints L]
theorem depthAll_ints : ∀ L : List Int, PyData.depthAll (L.map PyData.int) = 0
  | [] => rfl
  | _ :: L => by simp [PyData.depthAll, PyData.depth, depthAll_ints L]
theorem any_ints (k : Int) : ∀ L : List Int, ((L.map PyData.int).any fun z => PyData.eqv z (.int k)) = decide (k ∈ L)
  | [] => by simp
  | a :: L => by
    have := any_ints k L
    simp only [List.map_cons, List.any_cons, this, PyData.eqv, List.mem_cons, Bool.decide_or]
    by_cases h : a = k
    · simp [h]
    · have : ¬ k = a := fun e => h e.symm
      simp [h, this]
theorem inD_ints (k : Int) (L : List Int) : inD (.int k) (.lst (L.map .int)) = some (decide (k ∈ L)) := by
  unfold inD
  simp only [toPys_ints, depthAll_ints, pls_ints, toPy, any_ints]
  simp [pl, PyData.depth]
theorem place_ints (k : Int) : ∀ L : List Int, place (fun z => PyData.eqv z (.int k)) (L.map PyData.int) = place (fun z => decide (z = k)) L
  | [] => rfl
  | a :: L => by
    simp only [List.map_cons, place, place_ints k L, PyData.eqv]
    by_cases h : a = k <;> simp [h]
theorem bmD_idx_ints (k : Int) (L : List Int) : bmD .idx (.lst (L.map .int)) [.int k] = (place (fun z => decide (z = k)) L).map fun (j : Nat) => D.int (j : Int) := by
  unfold bmD
  simp only [toPys_ints, depthAll_ints, pls_ints, toPy, place_ints]
  simp [pl, PyData.depth]
theorem lcL_src {f : D → Store → R (Option D)} {g : D → D} {w : List D × Option Nat} (S : Store) (hw : srcOk S w.2 w.1 = true) : ∀ (xs : List D), (∀ d ∈ xs, f d S = .ok (some (g d)) S) → lcL f w xs S = .ok (xs.map g) S
  | [], h => by
    unfold lcL
    simp [hw]
  | d :: r, h => by
    unfold lcL
    simp [hw, h d (by simp), lcL_src S hw r fun e he => h e (by simp [he])]
/-- a comprehension with a test -/
theorem lcL_flt {f : D → Store → R (Option D)} {g : D → Option D} {w : List D × Option Nat} (S : Store) (hw : srcOk S w.2 w.1 = true) : ∀ (xs : List D), (∀ d ∈ xs, f d S = .ok (g d) S) → lcL f w xs S = .ok (xs.filterMap g) S
  | [], h => by
    unfold lcL
    simp [hw]
  | d :: r, h => by
    have ih := lcL_flt S hw r fun e he => h e (by simp [he])
    unfold lcL
    simp only [hw, if_true, h d (by simp), ih, R.bind_ok, List.filterMap_cons]
    cases g d <;> rfl
@[simp] theorem own_dnew (ρ : Ev) : own? ρ .dnew = none := rfl
@[simp] theorem own_ife (ρ : Ev) (t : Tx) (a b : Ex) : own? ρ (.ife t a b) = none := rfl
@[simp] theorem own_bor (ρ : Ev) (e : Exs) : own? ρ (.bor e) = none := rfl
@[simp] theorem own_bnt (ρ : Ev) (a : Ex) : own? ρ (.bnt a) = none := rfl
@[simp] theorem own_bi2 (ρ : Ev) (b : Bi) (a c : Ex) : own? ρ (.bi2 b a c) = none := rfl
@[simp] theorem own_isi (ρ : Ev) (a : Ex) (t : Ty) : own? ρ (.isi a t) = none := rfl
@[simp] theorem own_lc (ρ : Ev) (e : Ex) (p : Pat) (it : Itx) : own? ρ (.lc e p it) = none := rfl
@[simp] theorem own_lcf (ρ : Ev) (e : Ex) (p : Pat) (it : Itx) (c : Tx) : own? ρ (.lcf e p it c) = none := rfl
@[simp] theorem own_srs (ρ : Ev) (a : Ex) : own? ρ (.srs a) = none := rfl
@[simp] theorem own_srk (ρ : Ev) (a : Ex) : own? ρ (.srk a) = none := rfl
theorem vw1 (S : Store) (i : Int) : view S (.int i) = .int i := rfl
theorem vw2 (S : Store) (i : Bool) : view S (.bl i) = .bl i := rfl
theorem vw3 (S : Store) (i : Str) : view S (.str i) = .str i := rfl
theorem vw4 (S : Store) (i : List D) : view S (.tup i) = .tup i := rfl
theorem vw5 (S : Store) (i : List D) : view S (.lst i) = .lst i := rfl
theorem vw7 (S : Store) (k : List Key) (v : List D) : view S (.dic k v) = .dic k v := rfl
theorem vw0 (S : Store) : view S .non = .non := rfl
theorem tr1 (b : Bool) : truth (.bl b) = some b := rfl
theorem ti0 (a : D) (t : List D) : idxD (.tup (a :: t)) (.int 0) = some a := by
  show atI (a :: t) 0 = _
  rw [atI_nn (by omega) (by simp <;> omega)]
  rfl
theorem ti1 (a b : D) (t : List D) : idxD (.tup (a :: b :: t)) (.int 1) = some b := by
  show atI (a :: b :: t) 1 = _
  rw [atI_nn (by omega) (by simp <;> omega)]
  rfl
theorem ti2 (a b c : D) (t : List D) : idxD (.tup (a :: b :: c :: t)) (.int 2) = some c := by
  show atI (a :: b :: c :: t) 2 = _
  rw [atI_nn (by omega) (by simp <;> omega)]
  rfl
theorem ti3 (a b c d : D) (t : List D) : idxD (.tup (a :: b :: c :: d :: t)) (.int 3) = some d := by
  show atI (a :: b :: c :: d :: t) 3 = _
  rw [atI_nn (by omega) (by simp <;> omega)]
  rfl
theorem ti4 (a b c d e : D) (t : List D) : idxD (.tup (a :: b :: c :: d :: e :: t)) (.int 4) = some e := by
  show atI (a :: b :: c :: d :: e :: t) 4 = _
  rw [atI_nn (by omega) (by simp <;> omega)]
  rfl
theorem li0 (a : D) (t : List D) : idxD (.lst (a :: t)) (.int 0) = some a := ti0 a t
theorem li1 (a b : D) (t : List D) : idxD (.lst (a :: b :: t)) (.int 1) = some b := ti1 a b t
theorem exB_nil (cl : Cl) (ρ : Ev) (S : Store) : exB cl .nil ρ S = .nx ρ S := by rw [exB]
theorem runFn_iso {cl : Cl} {F : Fn} {ds : List D} {S : Store} (h1 : ds.length = F.ps) (h2 : F.iso = true) (h3 : nobs ds = true) : runFn cl F ds S = isoR S (fin (exB cl F.body (st0 F.n ds) [])) := by
  unfold runFn
  rw [if_pos h1, if_pos h2, if_pos h3]
theorem runFn_st {cl : Cl} {F : Fn} {ds : List D} {S : Store} (h1 : ds.length = F.ps) (h2 : F.iso = false) : runFn cl F ds S = fin (exB cl F.body (st0 F.n ds) S) := by
  unfold runFn
  rw [if_pos h1, h2, if_neg Bool.false_ne_true]
theorem evI_rng1 (cl : Cl) (x : Ex) (ρ : Ev) (S : Store) (b : Int) (w1 : ev cl x ρ S = .ok (.int b) S) (q1 : small62 b = true) : evI cl (.rng (.cons x .nil)) ρ S = .ok (rngN 0 b.toNat 1, none) S := by
  rw [evI]
  simp only [evs, w1, R.bind_ok]
  have : rngD [.int b] = some (rngN 0 b.toNat 1) := by
    simp only [rngD, q1, if_true]
  rw [this]
  rfl
theorem evI_rng2 (cl : Cl) (x y : Ex) (ρ : Ev) (S : Store) (a b : Int) (w1 : ev cl x ρ S = .ok (.int a) S) (w2 : ev cl y ρ S = .ok (.int b) S) (q1 : small62 a = true) (q2 : small62 b = true) : evI cl (.rng (.cons x (.cons y .nil))) ρ S = .ok (rngN a (b - a).toNat 1, none) S := by
  rw [evI]
  simp only [evs, w1, w2, R.bind_ok]
  have : rngD [.int a, .int b] = some (rngN a (b - a).toNat 1) := by
    simp only [rngD, q1, q2, Bool.and_self, if_true]
  rw [this]
  rfl
theorem sm62i (i : Int) (h : -1000 ≤ i ∧ i ≤ 1000) : small62 i = true := by
  unfold small62 two62
  rw [Bool.and_eq_true]
  exact ⟨decide_eq_true (by omega), decide_eq_true (by omega)⟩
theorem ap1 (xs : List D) (y : D) (h : xs.length < 100000) : bmM .app (.lst xs) [y] = some (.non, .lst (xs ++ [y])) := if_pos h
theorem ex1 (xs ys : List D) (h : xs.length + ys.length ≤ 100000) : bmM .ext (.lst xs) [.lst ys] = some (.non, .lst (xs ++ ys)) := if_pos h
theorem ad1 (xs ys : List D) (h : xs.length + ys.length ≤ 100000) : binD .add (.lst xs) (.lst ys) = some (.lst (xs ++ ys)) := if_pos h
theorem at1 (xs ys : List D) (h : xs.length + ys.length ≤ 100000) : binD .add (.tup xs) (.tup ys) = some (.tup (xs ++ ys)) := if_pos h
theorem eqv_int (a b : Int) : eqD (.int a) (.int b) = some (decide (a = b)) := by
  unfold eqD
  simp only [toPy, pl, PyData.depth, PyData.eqv]
  by_cases h : a = b <;> simp [h]
theorem eqv_str (x y : Str) (hx : PyData.strOk x = true) (hy : PyData.strOk y = true) : eqD (.str x) (.str y) = some (decide (x = y)) := by
  unfold eqD
  simp only [pl, hx, hy, toPy, PyData.depth, Nat.zero_le, decide_true, Bool.and_self, if_true, PyData.eqv]
  by_cases h : x = y <;> simp [h]
theorem lenl (xs : List D) : biD .len (.lst xs) = some (.int xs.length) := rfl
theorem lent (xs : List D) : biD .len (.tup xs) = some (.int xs.length) := rfl
theorem bil (xs : List D) : biD .lst (.tup xs) = some (.lst xs) := rfl
theorem bit (xs : List D) : biD .tup (.lst xs) = some (.tup xs) := rfl
/-- the cells that a law draws: nothing, small ints, short texts -/
inductive Cv : D → Prop
  | non : Cv .non
  | int (i : Int) (h : -100000 ≤ i ∧ i ≤ 100000) : Cv (.int i)
  | str (x : Str) (h : PyData.strOk x = true) (l : x.cps.size ≤ 10) : Cv (.str x)
theorem Cv.nob {d : D} (h : Cv d) : nob d = true := by cases h <;> rfl
theorem Cv.view {d : D} (h : Cv d) (S : Store) : view S d = d := by cases h <;> rfl
theorem Cv.pl {d : D} (h : Cv d) : pl d = true := by cases h <;> first | rfl | assumption
theorem Cv.depth {d : D} (h : Cv d) : (toPy d).depth = 0 := by cases h <;> rfl
theorem Cv.eqv {a b : D} (ha : Cv a) (hb : Cv b) : PyData.eqv (toPy a) (toPy b) = decide (a = b) := by
  cases ha <;> cases hb <;> simp [toPy, PyData.eqv] <;> first | rfl | (rename_i x y; by_cases h : x = y <;> simp [h]) | skip
theorem Cv.eq {a b : D} (ha : Cv a) (hb : Cv b) : eqD a b = some (decide (a = b)) := by
  unfold eqD
  rw [ha.pl, hb.pl, ha.depth, hb.depth, ha.eqv hb]
  rfl
theorem Cv.pls : ∀ {xs : List D}, (∀ x ∈ xs, Cv x) → pls xs = true
  | [], _ => rfl
  | x :: r, h => by
    show (DI.pl x && DI.pls r) = true
    rw [(h x (by simp)).pl, Cv.pls fun y hy => h y (by simp [hy])]
    rfl
theorem Cv.nobs : ∀ {xs : List D}, (∀ x ∈ xs, Cv x) → nobs xs = true
  | [], _ => rfl
  | x :: r, h => by
    show (DI.nob x && DI.nobs r) = true
    rw [(h x (by simp)).nob, Cv.nobs fun y hy => h y (by simp [hy])]
    rfl
theorem Cv.depths : ∀ {xs : List D}, (∀ x ∈ xs, Cv x) → PyData.depthAll (toPys xs) = 0
  | [], _ => rfl
  | x :: r, h => by
    show max (toPy x).depth (PyData.depthAll (toPys r)) = 0
    rw [(h x (by simp)).depth, Cv.depths fun y hy => h y (by simp [hy])]
    rfl
theorem Cv.eqvs : ∀ {xs ys : List D}, (∀ x ∈ xs, Cv x) → (∀ x ∈ ys, Cv x) → PyData.eqvAll (toPys xs) (toPys ys) = decide (xs = ys)
  | [], [], _, _ => rfl
  | [], y :: t, _, _ => by simp [toPys, PyData.eqvAll]
  | x :: r, [], _, _ => by simp [toPys, PyData.eqvAll]
  | x :: r, y :: t, h, g => by
    have ih := Cv.eqvs (xs := r) (ys := t) (fun z hz => h z (by simp [hz])) (fun z hz => g z (by simp [hz]))
    simp only [toPys, PyData.eqvAll, (h x (by simp)).eqv (g y (by simp)), ih, List.cons.injEq, Bool.decide_and]
theorem Cv.eqt {xs ys : List D} (hx : ∀ x ∈ xs, Cv x) (hy : ∀ x ∈ ys, Cv x) : eqD (.tup xs) (.tup ys) = some (decide (xs = ys)) := by
  unfold eqD
  have e1 : DI.pl (.tup xs) = true := Cv.pls hx
  have e2 : DI.pl (.tup ys) = true := Cv.pls hy
  have d1 : (toPy (.tup xs)).depth = 1 := by simp only [toPy, PyData.depth, Cv.depths hx]
  have d2 : (toPy (.tup ys)).depth = 1 := by simp only [toPy, PyData.depth, Cv.depths hy]
  have e3 : PyData.eqv (toPy (.tup xs)) (toPy (.tup ys)) = decide (xs = ys) := by
    simp only [toPy, PyData.eqv]
    exact Cv.eqvs hx hy
  rw [e1, e2, d1, d2, e3]
  rfl
end DI
set_option Elab.async false
set_option linter.all false
set_option maxRecDepth 100000
set_option maxHeartbeats 1000000
/-! DP: more general plain lemmas. -/
namespace DI
open PySem L2
theorem ifs_t {cl : Cl} {t : Tx} {a b : Bl} {ρ : Ev} {S S' : Store} {k : Bool} (h : evT cl t ρ S = .ok k S') : exS cl (.ifs t a b) ρ S = if k then exB cl a ρ S' else exB cl b ρ S' := by
  rw [exS, h]; rfl
theorem exB_1 {cl : Cl} {s : Sm} {ρ ρ' : Ev} {S S' : Store} (h : exS cl s ρ S = .nx ρ' S') : exB cl (.cons s .nil) ρ S = .nx ρ' S' := by
  rw [exB, h]; show exB cl .nil ρ' S' = _; rw [exB]
theorem exB_c {cl : Cl} {s : Sm} {r : Bl} {ρ ρ' : Ev} {S S' : Store} (h : exS cl s ρ S = .nx ρ' S') : exB cl (.cons s r) ρ S = exB cl r ρ' S' := by
  rw [exB, h]; rfl
theorem exB_r {cl : Cl} {s : Sm} {r : Bl} {ρ : Ev} {d : D} {S S' : Store} (h : exS cl s ρ S = .rt d S') : exB cl (.cons s r) ρ S = .rt d S' := by
  rw [exB, h]; rfl
theorem kil_at {cl : Cl} (is : List Nat) (r : Bl) (ρ : Ev) (S : Store) : exB cl (.cons (.kil is) r) ρ S = exB cl r (kill is ρ) S := exB_c (by rw [exS])
theorem lcL_draw {P : D → Prop} {St : Int → Store} {f : D → Store → R (Option D)} {ys : List D} : ∀ (xs : List D) (a : Int), 0 ≤ a → (∀ d ∈ xs, ∀ a : Int, 0 ≤ a → ∃ (v : D) (a' : Int), 0 ≤ a' ∧ P v ∧ f d (St a) = .ok (some v) (St a')) →
    ∃ (vs : List D) (a' : Int), 0 ≤ a' ∧ vs.length = xs.length ∧ (∀ v ∈ vs, P v) ∧ lcL f (ys, none) xs (St a) = .ok vs (St a')
  | [], a, ha, _ => ⟨[], a, ha, rfl, by simp, by unfold lcL; rfl⟩
  | x :: r, a, ha, h => by
    obtain ⟨v, a1, h1, h2, e1⟩ := h x (by simp) a ha
    obtain ⟨vs, a2, h3, h4, h5, e2⟩ := lcL_draw (ys := ys) r a1 h1 fun x hx => h x (by simp [hx])
    refine ⟨v :: vs, a2, h3, by simp [h4], fun x hx => ?_, ?_⟩
    · rcases List.mem_cons.1 hx with rfl | hx
      · exact h2
      · exact h5 x hx
    · unfold lcL
      simp [srcOk, e1, e2]
theorem ne_dv {a b : D} (ha : Cv a) (hb : Cv b) : cmpD .ne a b = some (.bl (!decide (a = b))) := by
  simp only [cmpD, ha.eq hb]; rfl
theorem eq_dv {a b : D} (ha : Cv a) (hb : Cv b) : cmpD .eq a b = some (.bl (decide (a = b))) := by
  simp only [cmpD, ha.eq hb]; rfl
theorem gti (a b : Int) : cmpD .gt (.int a) (.int b) = some (.bl (decide (b < a))) := rfl
theorem lti (a b : Int) : cmpD .lt (.int a) (.int b) = some (.bl (decide (a < b))) := rfl
theorem lei (a b : Int) : cmpD .le (.int a) (.int b) = some (.bl (decide (a ≤ b))) := rfl
theorem gei (a b : Int) : cmpD .ge (.int a) (.int b) = some (.bl (decide (b ≤ a))) := rfl
theorem eqi (a b : Int) : cmpD .eq (.int a) (.int b) = some (.bl (decide (a = b))) := by simp only [cmpD, eqv_int]; rfl
theorem nei (a b : Int) : cmpD .ne (.int a) (.int b) = some (.bl (!decide (a = b))) := by simp only [cmpD, eqv_int]; rfl
theorem limn (n : Nat) (h : n ≤ 1000) : n ≤ lim := by unfold lim; omega
theorem idx_t {c : List D} {j : Nat} {x : D} (h : c[j]? = some x) : idxD (.tup c) (.int j) = some x := by
  have l := (List.getElem?_eq_some_iff.1 h).1
  show atI c j = _
  rw [atI_nn (by omega) (by omega), Int.toNat_natCast, h]
theorem idx_l {c : List D} {j : Nat} {x : D} (h : c[j]? = some x) : idxD (.lst c) (.int j) = some x := idx_t h
theorem lcf_is (cl : Cl) (e : Ex) (p : Pat) (it : Itx) (t : Tx) (ρ : Ev) (S0 S S' : Store) (ys vs : List D) (hI : evI cl it ρ S0 = .ok (ys, none) S) (hl : vs.length ≤ lim)
    (h : lcL (fun d S => match bindP p d (kill p.slots ρ) with
      | some ρ' => (evT cl t ρ' S).bind fun k S => if k then (ev cl e ρ' S).bind fun x S => .ok (some x) S else .ok none S
      | none => .bad) (ys, none) ys S = .ok vs S') : ev cl (.lcf e p it t) ρ S0 = .ok (.lst vs) S' := by
  rw [ev, hI, R.bind_ok]
  refine Eq.trans (congrArg (fun r : R (List D) => r.bind fun xs S => if xs.length ≤ lim then R.ok (D.lst xs) S else R.bad) h) ?_
  show (if vs.length ≤ lim then R.ok (D.lst vs) S' else R.bad) = _
  rw [if_pos hl]
theorem lc_is (cl : Cl) (e : Ex) (p : Pat) (it : Itx) (ρ : Ev) (S0 S S' : Store) (ys vs : List D) (hI : evI cl it ρ S0 = .ok (ys, none) S) (hl : vs.length ≤ lim)
    (h : lcL (fun d S => match bindP p d (kill p.slots ρ) with
      | some ρ' => (ev cl e ρ' S).bind fun x S => .ok (some x) S
      | none => .bad) (ys, none) ys S = .ok vs S') : ev cl (.lc e p it) ρ S0 = .ok (.lst vs) S' := by
  rw [ev, hI, R.bind_ok]
  refine Eq.trans (congrArg (fun r : R (List D) => r.bind fun xs S => if xs.length ≤ lim then R.ok (D.lst xs) S else R.bad) h) ?_
  show (if vs.length ≤ lim then R.ok (D.lst vs) S' else R.bad) = _
  rw [if_pos hl]
theorem evI_rngS (cl : Cl) (x : Ex) (ρ : Ev) (S0 S : Store) (b : Int) (w1 : ev cl x ρ S0 = .ok (.int b) S) (q1 : small62 b = true) : evI cl (.rng (.cons x .nil)) ρ S0 = .ok (rngN 0 b.toNat 1, none) S := by
  rw [evI]
  simp only [evs, w1, R.bind_ok]
  have : rngD [.int b] = some (rngN 0 b.toNat 1) := by
    simp only [rngD, q1, if_true]
  rw [this]
  rfl
/-! ### sorted by the int ahead -/
theorem keyLe_trans (a b c : D) (h : keyLe a b = true) (g : keyLe b c = true) : keyLe a c = true := by
  unfold keyLe at *
  rw [decide_eq_true_eq] at *
  exact Int.le_trans h g
theorem keyLe_total (a b : D) : (keyLe a b || keyLe b a) = true := by
  unfold keyLe
  rw [Bool.or_eq_true, decide_eq_true_eq, decide_eq_true_eq]
  exact Int.le_total _ _
/-- the sorted list is the one that is sorted -/
theorem sortK_eq {xs ys : List D} (p : ys.Perm xs) (s : ys.Pairwise fun a b => (keyI a).getD 0 < (keyI b).getD 0) : sortK xs = ys := by
  unfold sortK
  have q : (xs.mergeSort keyLe).Perm ys := (List.mergeSort_perm xs keyLe).trans p.symm
  have s1 : (xs.mergeSort keyLe).Pairwise fun a b => keyLe a b = true := List.pairwise_mergeSort keyLe_trans keyLe_total xs
  have s2 : ys.Pairwise fun a b => keyLe a b = true := s.imp fun h => by unfold keyLe; exact decide_eq_true (Int.le_of_lt h)
  refine List.Perm.eq_of_pairwise (fun a b ha hb h1 h2 => ?_) s1 s2 q
  unfold keyLe at h1 h2
  rw [decide_eq_true_eq] at h1 h2
  have e : (keyI a).getD 0 = (keyI b).getD 0 := Int.le_antisymm h1 h2
  have ha' : a ∈ ys := q.mem_iff.mp ha
  by_cases h : a = b
  · exact h
  · exfalso
    obtain ⟨i, hi, rfl⟩ := List.getElem_of_mem ha'
    obtain ⟨j, hj, rfl⟩ := List.getElem_of_mem hb
    have ij : i ≠ j := fun z => h (by subst z; rfl)
    rcases Nat.lt_or_gt_of_ne ij with l | l
    · have := List.pairwise_iff_getElem.mp s i j hi hj l
      omega
    · have := List.pairwise_iff_getElem.mp s j i hj hi l
      omega
end DI
set_option Elab.async false
set_option linter.all false
set_option maxRecDepth 100000
set_option maxHeartbeats 1000000
/-! DD: columns, bounds, frames, definitions as plain data. -/
namespace DI
open PySem L2
/-- a bound: a word, or a word and a distance -/
inductive Bd where
  | w (x : Str)
  | d (x : Str) (i : Int)
  deriving DecidableEq
def Bd.dd : Bd → D
  | .w x => .tup [.str x]
  | .d x i => .tup [.str x, .int i]
def Bd.far : Bd → Bool
  | .w _ => false
  | .d _ _ => true
/-- as the laws make them -/
inductive Bd.Ok : Bd → Prop
  | st : Bd.Ok (.w "start")
  | cu : Bd.Ok (.w "current")
  | en : Bd.Ok (.w "end")
  | bf (i : Int) (h : 0 ≤ i ∧ i ≤ 10000) : Bd.Ok (.d "before" i)
  | af (i : Int) (h : 0 ≤ i ∧ i ≤ 10000) : Bd.Ok (.d "after" i)
structure Frm where
  u : Str
  a : Bd
  b : Bd
  o : Str
def Frm.dd (f : Frm) : D := .tup [.str f.u, f.a.dd, f.b.dd, .str f.o]
structure Frm.Ok (f : Frm) : Prop where
  u : f.u = "rows" ∨ f.u = "range" ∨ f.u = "groups"
  a : f.a.Ok
  b : f.b.Ok
  o : f.o = "nothing" ∨ f.o = "current" ∨ f.o = "group" ∨ f.o = "ties"
def oS : Option Str → D
  | none => .non
  | some x => .str x
def oI : Option Int → D
  | none => .non
  | some x => .int x
structure Df where
  nm : Str
  fn : Str
  col : Option Str
  num : Option Int
  part : List Str
  ord : List (Str × Bool)
  fr : Frm
def ordD (p : Str × Bool) : D := .tup [.str p.1, .bl p.2]
def Df.dd (d : Df) : D := .tup [.str d.nm, .str d.fn, oS d.col, oI d.num, .tup (d.part.map .str), .tup (d.ord.map ordD), d.fr.dd]
abbrev Cols := List (Str × Str)
def colD (p : Str × Str) : D := .tup [.str p.1, .str p.2]
def Cols.dd (c : Cols) : D := .tup (c.map colD)
def Cols.ks (c : Cols) : List Key := c.map fun p => Sum.inr p.1
def Cols.dic (c : Cols) : D := .dic c.ks (c.map fun p => .str p.2)
def Cols.nms (c : Cols) : List Str := c.map (·.1)
/-- the kind of a name -/
def Cols.kd (c : Cols) (x : Str) : Option Str := List.lookup x c
/-- a short text -/
structure Nm (x : Str) : Prop where
  ok : PyData.strOk x = true
  l : x.cps.size ≤ 10
theorem Nm.len {x : Str} (h : Nm x) : x.length ≤ 10 := h.l
structure Cols.Ok (c : Cols) : Prop where
  nd : c.nms.Nodup
  nm : ∀ p ∈ c, Nm p.1
  kd : ∀ p ∈ c, p.2 = "integer" ∨ p.2 = "text"
  l : c.length ≤ 12
def fns : List Str := ["number", "rank", "dense", "size", "tile", "lag", "lead", "nth", "count", "different", "sum", "least", "greatest", "median", "first", "last"]
def fns0 : List Str := ["number", "rank", "dense", "size", "tile"]
structure Df.Ok (d : Df) : Prop where
  nm : Nm d.nm
  fn : d.fn ∈ fns
  col : ∀ x, d.col = some x → Nm x
  non : d.col = none → d.fn ∈ fns0
  num : ∀ i, d.num = some i → 0 ≤ i ∧ i ≤ 10000
  part : ∀ x ∈ d.part, Nm x
  ord : ∀ p ∈ d.ord, Nm p.1
  lp : d.part.length ≤ 6
  lo : d.ord.length ≤ 6
  fr : d.fr.Ok
/-! ### dicts of columns -/
theorem pairs_cols : ∀ c : Cols, pairsD (c.map colD) = some (c.map fun p => (Sum.inr p.1, .str p.2))
  | [] => rfl
  | p :: r => by
    show (match pairD (colD p), pairsD (r.map colD) with | some p, some q => some (p :: q) | _, _ => none) = _
    rw [pairs_cols r]
    rfl
theorem putP_nw {k : Key} {v : D} {l : List (Key × D)} (h : k ∉ l.map (·.1)) : putP k v l = l ++ [(k, v)] := by
  unfold putP
  rw [if_neg]
  intro q
  obtain ⟨p, hp, e⟩ := List.any_eq_true.1 q
  exact h (List.mem_map.2 ⟨p, hp, of_decide_eq_true e⟩)
theorem merge_nd : ∀ (r l : List (Key × D)), ((l ++ r).map (·.1)).Nodup → mergeP l r = l ++ r
  | [], l, _ => by simp [mergeP]
  | (k, v) :: r, l, h => by
    show mergeP (putP k v l) r = _
    have h1 : k ∉ l.map (·.1) := by
      intro q
      rw [List.map_append, List.nodup_append] at h
      exact h.2.2 k q k (by simp) rfl
    rw [putP_nw h1, merge_nd r (l ++ [(k, v)]) (by simpa using h)]
    simp
theorem dic_cols {c : Cols} (h : c.nms.Nodup) : biD .dic c.dd = some c.dic := by
  have e : biD .dic (.tup (c.map colD)) = (pairsD (c.map colD)).map fun ps => let r := mergeP [] ps; D.dic (r.map (·.1)) (r.map (·.2)) := rfl
  show biD .dic (.tup (c.map colD)) = _
  rw [e, pairs_cols]
  have nd : ((([] : List (Key × D)) ++ c.map fun p : Str × Str => ((Sum.inr p.1 : Key), D.str p.2)).map (·.1)).Nodup := by
    rw [List.nil_append, List.map_map]
    have h : (c.map (·.1)).Nodup := h
    have e2 : ((fun x : Key × D => x.1) ∘ fun p : Str × Str => ((Sum.inr p.1 : Key), D.str p.2)) = fun p => Sum.inr p.1 := rfl
    rw [e2]
    have := List.Pairwise.map (R := (· ≠ ·)) (S := (· ≠ ·)) (Sum.inr : Str → Key) (fun a b q z => q (Sum.inr.inj z)) h
    rw [List.map_map] at this
    exact this
  show some (D.dic ((mergeP [] (c.map fun p : Str × Str => ((Sum.inr p.1 : Key), D.str p.2))).map (·.1)) ((mergeP [] (c.map fun p : Str × Str => ((Sum.inr p.1 : Key), D.str p.2))).map (·.2))) = _
  rw [merge_nd _ _ nd]
  unfold Cols.dic Cols.ks
  simp [List.map_map, Function.comp_def]
theorem kd_cons (x y k : Str) (r : Cols) : Cols.kd ((y, k) :: r) x = if x = y then some k else Cols.kd r x := by
  unfold Cols.kd
  by_cases e : x = y
  · subst e; simp [List.lookup]
  · have e2 : (x == y) = false := by simpa using e
    simp [List.lookup, e2, e]
theorem nms_cons (y k : Str) (r : Cols) : Cols.nms ((y, k) :: r) = y :: Cols.nms r := rfl
theorem look_cols (x : Str) : ∀ c : Cols, look (Sum.inr x : Key) c.ks (c.map fun p => D.str p.2) = (c.kd x).map .str
  | [] => rfl
  | (y, k) :: r => by
    show (if (Sum.inr y : Key) = Sum.inr x then some (D.str k) else look (Sum.inr x : Key) (Cols.ks r) (r.map fun p => D.str p.2)) = _
    rw [look_cols x r, kd_cons]
    by_cases e : x = y
    · rw [if_pos e, if_pos (by rw [e])]; rfl
    · rw [if_neg e, if_neg (fun z => e (Sum.inr.inj z).symm)]
theorem lookup_mem {x : Str} : ∀ {c : Cols}, (c.kd x).isSome = decide (x ∈ c.nms)
  | [] => by simp [Cols.nms, Cols.kd]
  | (y, k) :: r => by
    rw [kd_cons, nms_cons]
    have ih := lookup_mem (x := x) (c := r)
    by_cases e : x = y
    · rw [if_pos e]; simp [e]
    · rw [if_neg e, ih]; simp [e]
theorem in_cols (x : Str) (c : Cols) : inD (.str x) c.dic = some (decide (x ∈ c.nms)) := by
  have e : inD (.str x) c.dic = (keyD (.str x)).map fun k => (look k c.ks (c.map fun p => D.str p.2)).isSome := rfl
  rw [e]
  show some (look (Sum.inr x : Key) c.ks (c.map fun p => D.str p.2)).isSome = _
  rw [look_cols, ← lookup_mem]
  cases Cols.kd c x <;> rfl
theorem idx_cols {x k : Str} {c : Cols} (h : c.kd x = some k) : idxD c.dic (.str x) = some (.str k) := by
  have e : idxD c.dic (.str x) = (keyD (.str x)).bind fun k => look k c.ks (c.map fun p => D.str p.2) := rfl
  rw [e]
  show look (Sum.inr x : Key) c.ks (c.map fun p => D.str p.2) = _
  rw [look_cols, h]
  rfl
theorem lookup_get {x k : Str} : ∀ {c : Cols}, c.kd x = some k → (x, k) ∈ c
  | [], h => by cases h
  | (y, j) :: r, h => by
    rw [kd_cons] at h
    split at h
    · rename_i e
      cases h
      rw [e]; exact List.mem_cons_self
    · exact List.mem_cons_of_mem _ (lookup_get h)
/-- the place of a name -/
theorem place_ix {x : Str} : ∀ {xs : List Str}, x ∈ xs → place (fun z => PyData.eqv z (.str x)) (toPys (xs.map .str)) = some (xs.idxOf x)
  | [], h => by cases h
  | y :: r, h => by
    show place _ (PyData.str y :: toPys (r.map .str)) = _
    unfold place
    by_cases e : y = x
    · subst e
      simp [PyData.eqv]
    · have h2 : x ∈ r := by
        rcases List.mem_cons.1 h with z | z
        · exact absurd z.symm e
        · exact z
      have e3 : (y == x) = false := by simpa using e
      rw [place_ix h2, List.idxOf_cons]
      simp [PyData.eqv, e3]
def Cols.ix (c : Cols) (x : Str) : Nat := c.nms.idxOf x
theorem ix_lt {x : Str} {c : Cols} (h : x ∈ c.nms) : c.ix x < c.length := by
  have := List.idxOf_lt_length_of_mem h
  unfold Cols.nms at this
  rw [List.length_map] at this
  exact this
theorem kd_ix {x : Str} : ∀ {c : Cols}, x ∈ c.nms → (c.map (·.2))[c.ix x]? = c.kd x
  | [], h => by cases h
  | (y, k) :: r, h => by
    unfold Cols.ix
    rw [nms_cons, List.idxOf_cons, kd_cons]
    by_cases e : x = y
    · subst e; simp
    · have e3 : (y == x) = false := by simpa using fun z => e z.symm
      rw [nms_cons] at h
      have h2 : x ∈ Cols.nms r := by
        rcases List.mem_cons.1 h with z | z
        · exact absurd z e
        · exact z
      simp only [e3, Bool.false_eq_true, if_false, if_neg e, cond_false]
      exact kd_ix h2
theorem kd_some {x : Str} {c : Cols} (h : x ∈ c.nms) : ∃ k, c.kd x = some k := by
  have := lookup_mem (x := x) (c := c)
  rw [decide_eq_true h] at this
  exact Option.isSome_iff_exists.1 this
/-- keys by numbers -/
def kyD (p : Nat × Bool) : D := .tup [.int (p.1 : Int), .bl p.2]
def Df.keys (d : Df) (c : Cols) : List (Nat × Bool) := d.ord.map fun p => (c.ix p.1, p.2)
def Df.nums (d : Df) (c : Cols) : List Nat := d.part.map c.ix
def Df.cix (d : Df) (c : Cols) : Option Nat := d.col.map c.ix
def oN : Option Nat → D
  | none => .non
  | some j => .int (j : Int)
def Df.partsD (d : Df) (c : Cols) : D := .tup [.tup ((d.nums c).map fun j : Nat => .int (j : Int)), .tup ((d.keys c).map kyD), oN (d.cix c)]
/-! ### what fits -/
/-- the names behind the = -/
def Df.names (d : Df) : List Str := d.col.toList ++ d.part ++ d.ord.map (·.1)
def rightK (f : Frm) (ks : List (Nat × Bool)) (km : Nat → Option Str) : Bool :=
  if f.a = .w "end" ∨ f.b = .w "start" then false
  else if f.u = "range" ∧ (f.a.far || f.b.far) = true then decide (ks.length = 1) && decide ((ks.head?.bind fun p => km p.1) ≠ some ("text" : Str))
  else true
def Df.right (d : Df) (c : Cols) : Bool :=
  if d.fr.a = .w "end" ∨ d.fr.b = .w "start" then false
  else if d.fr.u = "range" ∧ (d.fr.a.far || d.fr.b.far) = true then decide (d.ord.length = 1) && decide (((d.ord.head?.map (·.1)).bind c.kd) ≠ some ("text" : Str))
  else true
def fitS (d : Df) (c : Cols) : Str :=
  if d.nm ∈ c.nms then ("duplicate column " : Str) ++ d.nm
  else match d.names.find? (fun x => decide (x ∉ c.nms)) with
    | some x => ("unknown column " : Str) ++ x
    | none => if (d.fn = "sum" ∨ d.fn = "median") ∧ d.col.bind c.kd = some ("text" : Str) then ("kind of " : Str) ++ d.col.getD ""
      else if d.right c then "" else "frame"
def ofKind : List Str := ["lag", "lead", "first", "last", "nth", "least", "greatest"]
def kindS (d : Df) (c : Cols) : Str := if d.fn ∈ ofKind then (d.col.bind c.kd).getD "" else "integer"
/-- all columns, or the first that does not fit -/
def allS (c : Cols) : Nat → List Df → Sum Cols (Nat × Str)
  | _, [] => .inl c
  | k, d :: r => if fitS d c = "" then allS (c ++ [(d.nm, kindS d c)]) (k + 1) r else .inr (k, fitS d c)
/-! ### bounds -/
def Bd.word : Bd → Str
  | .w x => x
  | .d x _ => x
theorem Bd.idx0 (b : Bd) : idxD b.dd (.int 0) = some (.str b.word) := by cases b <;> rfl
theorem Bd.Ok.str {b : Bd} (h : b.Ok) : PyData.strOk b.word = true := by cases h <;> exact strOk_ofString _
theorem Bd.Ok.far {b : Bd} (h : b.Ok) : decide (b.word ∈ (["before", "after"] : List Str)) = b.far := by cases h <;> simp [Bd.word, Bd.far] <;> decide +kernel
/-! ### strings -/
theorem nm_c (s : String) (h : ((s : Str)).cps.size ≤ 10) : Nm (s : Str) := ⟨strOk_ofString s, h⟩
theorem str_app_ne {a b : Str} (h : a.cps.size ≠ 0) : a ++ b ≠ "" := by
  intro e
  have : (a ++ b).cps.size = 0 := by rw [e]; rfl
  have e2 : (a ++ b).cps = a.cps ++ b.cps := rfl
  rw [e2, Array.size_append] at this
  omega
end DI
set_option Elab.async false
set_option linter.all false
set_option maxRecDepth 100000
set_option maxHeartbeats 1000000
/-! DE: comprehensions and loops over lists of a known kind. -/
namespace DI
open PySem L2
/-! one step after the other, by what the text says -/
/-! tests are not opened -/
@[simp] theorem own_byl (ρ : Ev) (m : Bk) (a : Ex) (js : List Nat) (b : Ex) : own? ρ (.byl m a js b) = none := rfl
@[simp] theorem own_byf (ρ : Ev) (m : Bk) (a : Ex) (f : Nat) : own? ρ (.byf m a f) = none := rfl
@[simp] theorem own_bst (ρ : Ev) (m : Bool) (a : Ex) (js : List Nat) (b : Ex) : own? ρ (.bst m a js b) = none := rfl
@[simp] theorem own_lset (ρ : Ev) (a : Ex) : own? ρ (.lset a) = none := rfl
@[simp] theorem own_dct (ρ : Ev) (ks : List Str) (vs : Exs) : own? ρ (.dct ks vs) = none := rfl
@[simp] theorem own_sidx (ρ : Ev) (z : Str) (a : Ex) : own? ρ (.sidx z a) = none := rfl
@[simp] theorem own_anyg (ρ : Ev) (e : Ex) (p : Pat) (it : Itx) : own? ρ (.anyg e p it) = none := rfl
@[simp] theorem own_allg (ρ : Ev) (e : Ex) (p : Pat) (it : Itx) : own? ρ (.allg e p it) = none := rfl
@[simp] theorem own_isv (ρ : Ev) (i : Nat) : own? ρ (.isv i) = none := rfl
@[simp] theorem own_xfl (ρ : Ev) (i : Nat) (f : Str) : own? ρ (.xfl i f) = none := rfl
@[simp] theorem own_fst (ρ : Ev) (es : Exs) : own? ρ (.fst es) = none := rfl
@[simp] theorem own_glob (ρ : Ev) (k : Nat) : own? ρ (.glob k) = none := rfl
@[simp] theorem own_rev (ρ : Ev) (a : Ex) : own? ρ (.rev a) = none := rfl
@[simp] theorem own_fld (ρ : Ev) (a : Ex) (f : Str) : own? ρ (.fld a f) = none := rfl
@[simp] theorem own_meth (ρ : Ev) (a : Ex) (f : Str) (es : Exs) : own? ρ (.meth f a es) = none := rfl
@[simp] theorem own_mk (ρ : Ev) (c : Nat) (es : Exs) : own? ρ (.mk c es) = none := rfl
theorem lcL_mp {α : Type} {f : D → Store → R (Option D)} {inj g : α → D} {ys : List D} {S : Store} : ∀ (xs : List α), (∀ x ∈ xs, f (inj x) S = .ok (some (g x)) S) → lcL f (ys, none) (xs.map inj) S = .ok (xs.map g) S
  | [], _ => by
    show lcL f (ys, none) [] S = _
    unfold lcL
    rfl
  | x :: r, h => by
    show lcL f (ys, none) (inj x :: r.map inj) S = _
    unfold lcL
    have e := lcL_mp (f := f) (inj := inj) (g := g) (ys := ys) (S := S) r fun y hy => h y (by simp [hy])
    simp [srcOk, h x (by simp), e]
theorem lcL_fm {α : Type} {f : D → Store → R (Option D)} {inj : α → D} {g : α → Option D} {ys : List D} {S : Store} : ∀ (xs : List α), (∀ x ∈ xs, f (inj x) S = .ok (g x) S) → lcL f (ys, none) (xs.map inj) S = .ok (xs.filterMap g) S
  | [], _ => by
    show lcL f (ys, none) [] S = _
    unfold lcL
    rfl
  | x :: r, h => by
    show lcL f (ys, none) (inj x :: r.map inj) S = _
    unfold lcL
    have e := lcL_fm (f := f) (inj := inj) (g := g) (ys := ys) (S := S) r fun y hy => h y (by simp [hy])
    rw [List.filterMap_cons]
    simp only [srcOk, h x (by simp), e, if_true, R.bind_ok]
    cases g x <;> rfl
/-- [e for p in it] -/
theorem lc_mp {α : Type} (inj g : α → D) (xs : List α) (cl : Cl) (e : Ex) (p : Pat) (it : Itx) (ρ : Ev) (S0 S : Store) (hI : evI cl it ρ S0 = .ok (xs.map inj, none) S) (hl : xs.length ≤ 1000)
    (h : ∀ x ∈ xs, ∃ ρ', bindP p (inj x) (kill p.slots ρ) = some ρ' ∧ ev cl e ρ' S = .ok (g x) S) : ev cl (.lc e p it) ρ S0 = .ok (.lst (xs.map g)) S := by
  refine lc_is cl e p it ρ S0 S S _ _ hI (by rw [List.length_map]; exact limn _ hl) (lcL_mp xs fun x hx => ?_)
  obtain ⟨ρ', h1, h2⟩ := h x hx
  simp [h1, h2]
/-- [e for p in it if t] -/
theorem lcf_mp {α : Type} (inj g : α → D) (b : α → Bool) (xs : List α) (cl : Cl) (e : Ex) (p : Pat) (it : Itx) (t : Tx) (ρ : Ev) (S0 S : Store) (hI : evI cl it ρ S0 = .ok (xs.map inj, none) S) (hl : xs.length ≤ 1000)
    (h : ∀ x ∈ xs, ∃ ρ', bindP p (inj x) (kill p.slots ρ) = some ρ' ∧ evT cl t ρ' S = .ok (b x) S ∧ (b x = true → ev cl e ρ' S = .ok (g x) S)) : ev cl (.lcf e p it t) ρ S0 = .ok (.lst ((xs.filter b).map g)) S := by
  have e1 : xs.filterMap (fun x => if b x then some (g x) else none) = (xs.filter b).map g := by
    clear hI hl h
    induction xs with
    | nil => rfl
    | cons x r ih =>
      rw [List.filterMap_cons, List.filter_cons, ih]
      cases b x <;> rfl
  refine lcf_is cl e p it t ρ S0 S S _ _ hI (by rw [List.length_map]; exact limn _ (Nat.le_trans (List.length_filter_le _ _) hl)) ?_
  rw [← e1]
  refine lcL_fm xs fun x hx => ?_
  obtain ⟨ρ', h1, h2, h3⟩ := h x hx
  cases hb : b x with
  | true => simp [h1, h2, hb, h3 hb]
  | false => simp [h1, h2, hb]
/-- a loop that may return -/
theorem for_find {α : Type} {f : D → Ev → Store → RS} {inj : α → D} {b : α → Bool} {hit : α → D} {S : Store} (I : Ev → Prop) {ys : List D} : ∀ (xs : List α), (∀ x ∈ xs, ∀ ρ, I ρ → if b x then f (inj x) ρ S = .rt (hit x) S else ∃ ρ', f (inj x) ρ S = .nx ρ' S ∧ I ρ') →
    ∀ ρ, I ρ → match xs.find? b with
      | some x => forL f (ys, none) (xs.map inj) ρ S = .rt (hit x) S
      | none => ∃ ρ', forL f (ys, none) (xs.map inj) ρ S = .nx ρ' S ∧ I ρ'
  | [], _, ρ, i => ⟨ρ, rfl, i⟩
  | x :: r, h, ρ, i => by
    have hx := h x (by simp) ρ i
    have key : ∀ ρ', forL f (ys, none) ((x :: r).map inj) ρ' S = (f (inj x) ρ' S).seq fun ρ S => forL f (ys, none) (r.map inj) ρ S := fun ρ' => by
      rw [List.map_cons, forL]
      rfl
    rw [List.find?_cons]
    cases hb : b x with
    | true =>
      rw [hb] at hx
      dsimp only
      rw [key, hx]
      rfl
    | false =>
      rw [hb] at hx
      obtain ⟨ρ', e, i'⟩ := hx
      have ih := for_find (inj := inj) I (ys := ys) r (fun y hy => h y (by simp [hy])) ρ' i'
      dsimp only
      cases hf : r.find? b with
      | some z =>
        rw [hf] at ih
        dsimp only at ih ⊢
        rw [key, e]
        exact ih
      | none =>
        rw [hf] at ih
        dsimp only at ih ⊢
        obtain ⟨ρ2, e2, i2⟩ := ih
        exact ⟨ρ2, by rw [key, e]; exact e2, i2⟩
theorem pls_strs : ∀ {xs : List Str}, (∀ x ∈ xs, PyData.strOk x = true) → pls (xs.map .str) = true
  | [], _ => rfl
  | x :: r, h => by
    show (PyData.strOk x && pls (r.map .str)) = true
    rw [h x (by simp), pls_strs fun y hy => h y (by simp [hy])]
    rfl
theorem depth_strs : ∀ xs : List Str, PyData.depthAll (toPys (xs.map .str)) = 0
  | [] => rfl
  | x :: r => by
    show PyData.depthAll (PyData.str x :: toPys (r.map .str)) = 0
    simp [PyData.depthAll, PyData.depth, depth_strs r]
theorem any_strs (x : Str) : ∀ xs : List Str, (toPys (xs.map .str)).any (fun z => PyData.eqv z (.str x)) = decide (x ∈ xs)
  | [] => rfl
  | y :: r => by
    show (PyData.str y :: toPys (r.map .str)).any _ = _
    rw [List.any_cons, any_strs x r]
    by_cases h : y = x
    · simp [PyData.eqv, h]
    · have h2 : ¬ x = y := fun z => h z.symm
      have h3 : (y == x) = false := by simpa using h
      simp [PyData.eqv, h2, h3]
theorem nobs_strs : ∀ xs : List Str, nobs (xs.map .str) = true
  | [] => rfl
  | x :: r => nobs_strs r
theorem in_strs {x : Str} {xs : List Str} (hx : PyData.strOk x = true) (hs : ∀ y ∈ xs, PyData.strOk y = true) : inD (.str x) (.tup (xs.map .str)) = some (decide (x ∈ xs)) := by
  have e : inD (.str x) (.tup (xs.map .str)) = if pl (.str x) && pls (xs.map .str) && decide ((toPy (.str x)).depth ≤ 60) && decide (PyData.depthAll (toPys (xs.map .str)) ≤ 60) then some ((toPys (xs.map .str)).any fun z => PyData.eqv z (toPy (.str x))) else none := rfl
  rw [e, pls_strs hs, depth_strs]
  have e2 : pl (.str x) = true := hx
  rw [e2]
  show some ((toPys (xs.map .str)).any fun z => PyData.eqv z (.str x)) = _
  rw [any_strs]
theorem in_strsL {x : Str} {xs : List Str} (hx : PyData.strOk x = true) (hs : ∀ y ∈ xs, PyData.strOk y = true) : inD (.str x) (.lst (xs.map .str)) = some (decide (x ∈ xs)) := in_strs hx hs
theorem idx_strs {x : Str} {xs : List Str} (hx : PyData.strOk x = true) (hs : ∀ y ∈ xs, PyData.strOk y = true) : bmD .idx (.lst (xs.map .str)) [.str x] = (place (fun z => PyData.eqv z (.str x)) (toPys (xs.map .str))).map fun (j : Nat) => D.int (j : Int) := by
  have e : bmD .idx (.lst (xs.map .str)) [.str x] = if pl (.str x) && pls (xs.map .str) && decide ((toPy (.str x)).depth ≤ 60) && decide (PyData.depthAll (toPys (xs.map .str)) ≤ 60) then (place (fun z => PyData.eqv z (toPy (.str x))) (toPys (xs.map .str))).map fun (j : Nat) => D.int (j : Int) else none := rfl
  rw [e, pls_strs hs, depth_strs]
  have e2 : pl (.str x) = true := hx
  rw [e2]
  rfl
theorem eqv_strs {x y : Str} (hx : PyData.strOk x = true) (hy : PyData.strOk y = true) : eqD (.tup [.str x]) (.tup [.str y]) = some (decide (x = y)) := by
  have e : (x == y) = decide (x = y) := by by_cases h : x = y <;> simp [h]
  simp [eqD, pl, pls, hx, hy, toPy, toPys, PyData.depth, PyData.depthAll, PyData.eqv, PyData.eqvAll, e]
theorem eqv_strs2 {x y : Str} {i : Int} (hx : PyData.strOk x = true) (hy : PyData.strOk y = true) : eqD (.tup [.str x, .int i]) (.tup [.str y]) = some false := by
  simp [eqD, pl, pls, hx, hy, toPy, toPys, PyData.depth, PyData.depthAll, PyData.eqv, PyData.eqvAll]
theorem Bd.Ok.eqw {b : Bd} (h : b.Ok) {y : Str} (hy : PyData.strOk y = true) : eqD b.dd (.tup [.str y]) = some (decide (b = .w y)) := by
  have hs := h.str
  cases b with
  | w x =>
    have hs : PyData.strOk x = true := hs
    show eqD (.tup [.str x]) (.tup [.str y]) = _
    rw [eqv_strs hs hy]
    simp
  | d x i =>
    have hs : PyData.strOk x = true := hs
    show eqD (.tup [.str x, .int i]) (.tup [.str y]) = _
    rw [eqv_strs2 hs hy]
    simp
theorem str_len (x y : Str) : (x ++ y).length = x.length + y.length := by
  show (x ++ y).cps.size = _
  have e2 : (x ++ y).cps = x.cps ++ y.cps := rfl
  rw [e2, Array.size_append]
  rfl
theorem add_str {x y : Str} (h : x.length + y.length ≤ 100000) : binD .add (.str x) (.str y) = some (.str (x ++ y)) := if_pos h
/-- f"..{y}" -/
theorem fst2 {cl : Cl} {x y : Str} {a : Ex} {ρ : Ev} {S S' : Store} (h : ev cl a ρ S = .ok (.str y) S') (hx : x.length ≤ 1000) (hy : y.length ≤ 1000) : ev cl (.fst (.cons (.cst (.str x)) (.cons a .nil))) ρ S = .ok (.str (x ++ y)) S' := by
  have e1 : (Str.empty ++ x) = x := by
    show (⟨(#[] : Array Nat) ++ x.cps⟩ : Str) = x
    simp
  have j1 : joinT Str.empty (.str x) = some x := by
    have : joinT Str.empty (.str x) = if x.length ≤ 1000000 ∧ (Str.empty ++ x).length ≤ 1000000 then some (Str.empty ++ x) else none := rfl
    rw [this, if_pos ⟨by omega, by rw [e1]; omega⟩, e1]
  have j2 : joinT x (.str y) = some (x ++ y) := by
    have : joinT x (.str y) = if y.length ≤ 1000000 ∧ (x ++ y).length ≤ 1000000 then some (x ++ y) else none := rfl
    rw [this, if_pos ⟨by omega, by rw [str_len]; omega⟩]
  rw [ev, evJ, ev, R.bind_ok, j1, opt_some, R.bind_ok, evJ, h, R.bind_ok, j2, opt_some, R.bind_ok, evJ]
theorem fit_ok_names {d : Df} {c : Cols} (h : fitS d c = "") : d.nm ∉ c.nms ∧ ∀ x ∈ d.names, x ∈ c.nms := by
  unfold fitS at h
  split at h
  · exact absurd h (str_app_ne (by decide +kernel))
  · rename_i h1
    refine ⟨h1, fun x hx => ?_⟩
    split at h
    · exact absurd h (str_app_ne (by decide +kernel))
    · rename_i h2
      have := List.find?_eq_none.1 h2 x hx
      simpa using this
theorem ofKind_sub : ∀ x ∈ ofKind, x ∉ fns0 := by decide +kernel
theorem fitS_len {d : Df} {c : Cols} (hd : d.Ok) : (fitS d c).length ≤ 60 := by
  have hn := hd.nm.len
  unfold fitS
  split
  · rw [str_len]
    have : ("duplicate column " : Str).length ≤ 20 := by decide +kernel
    omega
  · split
    · rename_i x hx
      have hm := List.mem_of_find?_eq_some hx
      have hl : x.length ≤ 10 := by
        unfold Df.names at hm
        simp only [List.mem_append, Option.mem_toList, List.mem_map] at hm
        rcases hm with (hm | hm) | ⟨p, hp, rfl⟩
        · exact (hd.col x hm).len
        · exact (hd.part x hm).len
        · exact (hd.ord p hp).len
      rw [str_len]
      have : ("unknown column " : Str).length ≤ 20 := by decide +kernel
      omega
    · split
      · rw [str_len]
        have : ("kind of " : Str).length ≤ 20 := by decide +kernel
        cases hc : d.col with
        | none =>
          have : (("" : Str)).length = 0 := rfl
          show _ + ("" : Str).length ≤ _
          omega
        | some x =>
          have := (hd.col x hc).len
          show _ + x.length ≤ _
          omega
      · split <;> decide +kernel
theorem kindS_ok {d : Df} {c : Cols} (hd : d.Ok) (hc : c.Ok) (h : ∀ x ∈ d.names, x ∈ c.nms) : kindS d c = "integer" ∨ kindS d c = "text" := by
  unfold kindS
  split
  · rename_i hk
    cases hcol : d.col with
    | none => exact absurd (hd.non hcol) (ofKind_sub _ hk)
    | some x =>
      obtain ⟨k, ek⟩ := kd_some (h x (by unfold Df.names; simp [hcol]))
      rw [Option.bind_some, ek]
      exact hc.kd _ (lookup_get ek)
  · exact .inl rfl
theorem Cols.Ok.add {c : Cols} (hc : c.Ok) {x k : Str} (hx : Nm x) (h : x ∉ c.nms) (hk : k = "integer" ∨ k = "text") (hl : c.length < 12) : Cols.Ok (c ++ [(x, k)]) := by
  refine ⟨?_, fun p hp => ?_, fun p hp => ?_, by simp; omega⟩
  · have e : Cols.nms (c ++ [(x, k)]) = c.nms ++ [x] := by unfold Cols.nms; simp
    rw [e, List.nodup_append]
    exact ⟨hc.nd, by simp, fun a ha b hb => by rw [List.mem_singleton.1 hb]; exact fun z => h (z ▸ ha)⟩
  · rcases List.mem_append.1 hp with hp | hp
    · exact hc.nm p hp
    · rw [List.mem_singleton.1 hp]; exact hx
  · rcases List.mem_append.1 hp with hp | hp
    · exact hc.kd p hp
    · rw [List.mem_singleton.1 hp]; exact hk
/-- what is left of a block -/
def Bl.drop : Nat → Bl → Bl
  | 0, b => b
  | n + 1, .cons _ r => Bl.drop n r
  | _ + 1, .nil => .nil
theorem dp0 (b : Bl) : Bl.drop 0 b = b := rfl
theorem dpS (n : Nat) (s : Sm) (r : Bl) : Bl.drop (n + 1) (.cons s r) = Bl.drop n r := rfl
/-- a list's item at a drawn place -/
theorem idx_lD {α : Type} {f : α → D} {xs : List α} {v : Int} (h0 : 0 ≤ v) (h : v < xs.length) : ∃ x ∈ xs, idxD (.lst (xs.map f)) (.int v) = some (f x) := by
  obtain ⟨j, rfl⟩ : ∃ j : Nat, v = j := ⟨v.toNat, by omega⟩
  have hj : j < xs.length := by omega
  refine ⟨xs[j], List.getElem_mem hj, idx_l ?_⟩
  rw [List.getElem?_map, List.getElem?_eq_getElem hj]
  rfl
/-- a definition that fits, as the laws draw it -/
structure Df.Fits (d : Df) (c : Cols) : Prop where
  ok : d.Ok
  nm : ∀ x ∈ d.names, x ∈ c.nms
  kd : ¬ ((d.fn = "sum" ∨ d.fn = "median") ∧ d.col.bind c.kd = some ("text" : Str))
  rt : d.right c = true
theorem Df.Fits.fit {d : Df} {c : Cols} (h : d.Fits c) (hn : d.nm ∉ c.nms) : fitS d c = "" := by
  unfold fitS
  rw [if_neg hn]
  have : d.names.find? (fun x => decide (x ∉ c.nms)) = none := List.find?_eq_none.2 fun x hx => by simpa using h.nm x hx
  rw [this]
  dsimp only
  rw [if_neg h.kd, if_pos h.rt]
theorem exists_map {α : Type} {f : α → D} {P : α → Prop} : ∀ {vs : List D}, (∀ v ∈ vs, ∃ p, v = f p ∧ P p) → ∃ ps : List α, vs = ps.map f ∧ ∀ p ∈ ps, P p
  | [], _ => ⟨[], rfl, by simp⟩
  | v :: r, h => by
    obtain ⟨p, rfl, hp⟩ := h v (by simp)
    obtain ⟨ps, rfl, hps⟩ := exists_map (vs := r) fun u hu => h u (by simp [hu])
    exact ⟨p :: ps, rfl, fun q hq => by
      rcases List.mem_cons.1 hq with rfl | hq
      · exact hp
      · exact hps q hq⟩
end DI
set_option Elab.async false
set_option linter.all false
set_option maxRecDepth 100000
set_option maxHeartbeats 1000000
/-! DVV: values, their keys, their order. -/
namespace DI
open PySem L2 PySem.W
/-- nothing, an integer, a text of letters -/
inductive Vl : D → Prop
  | non : Vl .non
  | int (i : Int) (h : i.natAbs ≤ 1000000000) : Vl (.int i)
  | str (x : Str) (h : ∀ c ∈ x.cps.toList, 97 ≤ c ∧ c ≤ 122) (l : x.cps.size ≤ 10) : Vl (.str x)
theorem letters_ok {x : Str} (h : ∀ c ∈ x.cps.toList, 97 ≤ c ∧ c ≤ 122) : PyData.strOk x = true := (strOk_iff x).2 fun c hc => by have := h c hc; omega
theorem Vl.view {d : D} (h : Vl d) (S : Store) : view S d = d := by cases h <;> rfl
theorem Vl.nob {d : D} (h : Vl d) : nob d = true := by cases h <;> rfl
theorem Vl.pl {d : D} (h : Vl d) : pl d = true := by
  cases h with
  | str x h l => exact letters_ok h
  | _ => rfl
def keyV : D → D
  | .int i => .tup [.int 1, .int i, .str ""]
  | .str x => .tup [.int 2, .int 0, .str x]
  | _ => .tup [.int 0, .int 0, .str ""]
/-- a comes ahead of b -/
def vlt : D → D → Bool
  | .non, .non => false
  | .non, _ => true
  | .int _, .non => false
  | .int i, .int j => decide (i < j)
  | .int _, _ => true
  | .str x, .str y => decide (x.cps.toList < y.cps.toList)
  | _, _ => false
theorem dlt3 (k1 i1 k2 i2 : Int) (x1 x2 : Str) : dataLt (.tuple [.int k1, .int i1, .str x1]) (.tuple [.int k2, .int i2, .str x2]) = if k1 = k2 then (if i1 = i2 then decide (x1.cps.toList < x2.cps.toList) else decide (i1 < i2)) else decide (k1 < k2) := by
  rw [dataLt_tuple]
  by_cases h1 : k1 = k2
  · subst h1
    rw [if_pos rfl, dataLt_all_yes rfl (by simp [PyData.eqv])]
    by_cases h2 : i1 = i2
    · subst h2
      rw [if_pos rfl, dataLt_all_yes rfl (by simp [PyData.eqv])]
      by_cases h3 : x1 = x2
      · subst h3
        rw [dataLt_all_yes rfl (by simp [PyData.eqv])]
        have e : PyProof.Rows.lexLt PyProof.Rows.itemOrd (keyToksAll []) (keyToksAll []) = false := rfl
        rw [e]
        simp
      · rw [dataLt_all_no rfl (by simp [PyData.eqv, h3]), dataLt_str]
    · rw [if_neg h2, dataLt_all_no rfl (by simp [PyData.eqv, h2]), dataLt_int]
  · rw [if_neg h1, dataLt_all_no rfl (by simp [PyData.eqv, h1]), dataLt_int]
theorem ltD3 (k1 i1 k2 i2 : Int) (x1 x2 : Str) (h1 : PyData.strOk x1 = true) (h2 : PyData.strOk x2 = true) : ltD (.tup [.int k1, .int i1, .str x1]) (.tup [.int k2, .int i2, .str x2]) = some (if k1 = k2 then (if i1 = i2 then decide (x1.cps.toList < x2.cps.toList) else decide (i1 < i2)) else decide (k1 < k2)) := by
  rw [← dlt3]
  unfold ltD
  simp only [pl, pls, h1, h2, toPy, toPys, PyData.depth, PyData.depthAll, Bool.and_true, Bool.true_and, alike, alikeAll]
  rfl
theorem so0 (s : String) : PyData.strOk (s : Str) = true := strOk_ofString s
theorem ltD_key {a b : D} (ha : Vl a) (hb : Vl b) : ltD (keyV a) (keyV b) = some (vlt a b) := by
  cases ha with
  | non =>
    cases hb with
    | non => exact (ltD3 _ _ _ _ _ _ (so0 _) (so0 _)).trans (by simp [vlt])
    | int j h => exact (ltD3 _ _ _ _ _ _ (so0 _) (so0 _)).trans (by simp [vlt])
    | str y h l => exact (ltD3 _ _ _ _ _ _ (so0 _) (letters_ok h)).trans (by simp [vlt])
  | int i hi =>
    cases hb with
    | non => exact (ltD3 _ _ _ _ _ _ (so0 _) (so0 _)).trans (by simp [vlt])
    | int j h =>
      refine (ltD3 _ _ _ _ _ _ (so0 _) (so0 _)).trans ?_
      by_cases e : i = j <;> simp [vlt, e]
    | str y h l => exact (ltD3 _ _ _ _ _ _ (so0 _) (letters_ok h)).trans (by simp [vlt])
  | str x hx lx =>
    cases hb with
    | non => exact (ltD3 _ _ _ _ _ _ (letters_ok hx) (so0 _)).trans (by simp [vlt])
    | int j h => exact (ltD3 _ _ _ _ _ _ (letters_ok hx) (so0 _)).trans (by simp [vlt])
    | str y h l => exact (ltD3 _ _ _ _ _ _ (letters_ok hx) (letters_ok h)).trans (by simp [vlt])
theorem eqD3 (k1 i1 k2 i2 : Int) (x1 x2 : Str) (h1 : PyData.strOk x1 = true) (h2 : PyData.strOk x2 = true) : eqD (.tup [.int k1, .int i1, .str x1]) (.tup [.int k2, .int i2, .str x2]) = some (decide (k1 = k2 ∧ i1 = i2 ∧ x1 = x2)) := by
  have e1 : (k1 == k2) = decide (k1 = k2) := by by_cases h : k1 = k2 <;> simp [h]
  have e2 : (i1 == i2) = decide (i1 = i2) := by by_cases h : i1 = i2 <;> simp [h]
  have e3 : (x1 == x2) = decide (x1 = x2) := by by_cases h : x1 = x2 <;> simp [h]
  unfold eqD
  simp only [pl, pls, h1, h2, toPy, toPys, PyData.depth, PyData.depthAll, Bool.and_true, Bool.true_and, PyData.eqv, PyData.eqvAll, e1, e2, e3]
  simp [Bool.decide_and]
theorem eqD_key {a b : D} (ha : Vl a) (hb : Vl b) : eqD (keyV a) (keyV b) = some (decide (a = b)) := by
  cases ha with
  | non =>
    cases hb with
    | non => exact (eqD3 _ _ _ _ _ _ (so0 _) (so0 _)).trans (by simp)
    | int j h => exact (eqD3 _ _ _ _ _ _ (so0 _) (so0 _)).trans (by simp)
    | str y h l => exact (eqD3 _ _ _ _ _ _ (so0 _) (letters_ok h)).trans (by simp)
  | int i hi =>
    cases hb with
    | non => exact (eqD3 _ _ _ _ _ _ (so0 _) (so0 _)).trans (by simp)
    | int j h => exact (eqD3 _ _ _ _ _ _ (so0 _) (so0 _)).trans (by simp)
    | str y h l => exact (eqD3 _ _ _ _ _ _ (so0 _) (letters_ok h)).trans (by simp)
  | str x hx lx =>
    cases hb with
    | non => exact (eqD3 _ _ _ _ _ _ (letters_ok hx) (so0 _)).trans (by simp)
    | int j h => exact (eqD3 _ _ _ _ _ _ (letters_ok hx) (so0 _)).trans (by simp)
    | str y h l => exact (eqD3 _ _ _ _ _ _ (letters_ok hx) (letters_ok h)).trans (by simp)
theorem keyV_nob {a : D} (h : Vl a) : nob (keyV a) = true := by cases h <;> rfl
theorem keyV_view {a : D} (h : Vl a) (S : Store) : view S (keyV a) = keyV a := by cases h <;> rfl
theorem cps_inj {x y : Str} (h : x.cps.toList = y.cps.toList) : x = y := by
  obtain ⟨a⟩ := x
  obtain ⟨b⟩ := y
  have : a = b := Array.toList_inj.1 h
  rw [this]
/-- any two are in one order -/
theorem vlt_tri {a b : D} (ha : Vl a) (hb : Vl b) : (a = b ∧ vlt a b = false ∧ vlt b a = false) ∨ (a ≠ b ∧ vlt a b = true ∧ vlt b a = false) ∨ (a ≠ b ∧ vlt a b = false ∧ vlt b a = true) := by
  cases ha with
  | non => cases hb <;> simp [vlt]
  | int i hi =>
    cases hb with
    | non => simp [vlt]
    | int j h =>
      rcases Int.lt_trichotomy i j with h | h | h
      · exact .inr (.inl ⟨fun z => by cases z; omega, by simp [vlt, h], by simp [vlt]; omega⟩)
      · subst h; simp [vlt]
      · exact .inr (.inr ⟨fun z => by cases z; omega, by simp [vlt]; omega, by simp [vlt, h]⟩)
    | str y h l => simp [vlt]
  | str x hx lx =>
    cases hb with
    | non => simp [vlt]
    | int j h => simp [vlt]
    | str y h l =>
      by_cases e : x = y
      · subst e; simp [vlt]
      · have ne : x.cps.toList ≠ y.cps.toList := fun z => e (cps_inj z)
        rcases Classical.em (x.cps.toList < y.cps.toList) with q | q
        · refine .inr (.inl ⟨fun z => e (by cases z; rfl), by simp [vlt, q], ?_⟩)
          simp only [vlt, decide_eq_false_iff_not]
          exact List.lt_asymm q
        · refine .inr (.inr ⟨fun z => e (by cases z; rfl), by simp [vlt, q], ?_⟩)
          simp only [vlt, decide_eq_true_eq]
          have := List.not_lt.1 q
          rcases List.le_iff_lt_or_eq.1 this with z | z
          · exact z
          · exact absurd z.symm ne
end DI
set_option Elab.async false
set_option linter.all false
set_option maxRecDepth 100000
set_option maxHeartbeats 1000000
/-! DVS: values in order: sorted, the least, the greatest, how many unlike. -/
namespace DI
open PySem L2 PySem.W
theorem vlt_irr {a : D} (ha : Vl a) : vlt a a = false := by
  rcases vlt_tri ha ha with ⟨_, h, _⟩ | ⟨h, _⟩ | ⟨h, _⟩
  · exact h
  · exact absurd rfl h
  · exact absurd rfl h
theorem vlt_trans {a b c : D} (ha : Vl a) (hb : Vl b) (hc : Vl c) (h1 : vlt a b = true) (h2 : vlt b c = true) : vlt a c = true := by
  cases ha with
  | non => cases hb <;> cases hc <;> simp_all [vlt]
  | int i hi =>
    cases hb with
    | non => simp [vlt] at h1
    | int j hj =>
      cases hc with
      | non => simp [vlt] at h2
      | int k hk => simp [vlt] at h1 h2 ⊢; omega
      | str z hz lz => rfl
    | str y hy ly =>
      cases hc with
      | non => simp [vlt] at h2
      | int k hk => simp [vlt] at h2
      | str z hz lz => rfl
  | str x hx lx =>
    cases hb with
    | non => simp [vlt] at h1
    | int j hj => simp [vlt] at h1
    | str y hy ly =>
      cases hc with
      | non => simp [vlt] at h2
      | int k hk => simp [vlt] at h2
      | str z hz lz =>
        simp only [vlt, decide_eq_true_eq] at h1 h2 ⊢
        exact List.lt_trans h1 h2
/-- a is not behind b -/
def vle (a b : D) : Bool := !vlt b a
theorem vle_anti {a b : D} (ha : Vl a) (hb : Vl b) (h1 : vle a b = true) (h2 : vle b a = true) : a = b := by
  unfold vle at h1 h2
  rcases vlt_tri ha hb with ⟨h, _⟩ | ⟨_, h, _⟩ | ⟨_, _, h⟩
  · exact h
  · rw [h] at h2; cases h2
  · rw [h] at h1; cases h1
theorem vle_tot {a b : D} (ha : Vl a) (hb : Vl b) : (vle a b || vle b a) = true := by
  unfold vle
  rcases vlt_tri ha hb with ⟨_, h, _⟩ | ⟨_, _, h⟩ | ⟨_, h, _⟩ <;> simp [h]
theorem vle_trans {a b c : D} (ha : Vl a) (hb : Vl b) (hc : Vl c) (h1 : vle a b = true) (h2 : vle b c = true) : vle a c = true := by
  unfold vle at *
  cases h : vlt c a with
  | false => rfl
  | true =>
    exfalso
    rcases vlt_tri ha hb with ⟨e, _, _⟩ | ⟨_, e, _⟩ | ⟨_, _, e⟩
    · subst e; rw [h] at h2; cases h2
    · have := vlt_trans hc ha hb h e
      rw [this] at h2; cases h2
    · rw [e] at h1; cases h1
/-- an order on all data that is vle on values -/
def vleT (a b : {d : D // Vl d}) : Bool := vle a.1 b.1
def srtV (l : List D) : List D := l.mergeSort vle
theorem att_map (l : List D) (h : ∀ d ∈ l, Vl d) : ∃ m : List {d : D // Vl d}, m.map (·.1) = l := by
  induction l with
  | nil => exact ⟨[], rfl⟩
  | cons d r ih =>
    obtain ⟨m, e⟩ := ih fun x hx => h x (List.mem_cons_of_mem _ hx)
    exact ⟨⟨d, h d List.mem_cons_self⟩ :: m, by rw [List.map_cons, e]⟩
theorem srtV_pw {l : List D} (h : ∀ d ∈ l, Vl d) : (srtV l).Pairwise fun a b => vle a b = true := by
  obtain ⟨m, rfl⟩ := att_map l h
  unfold srtV
  rw [← List.map_mergeSort (r := vleT) (f := fun z : {d : D // Vl d} => z.1) (fun a _ b _ => rfl), List.pairwise_map]
  exact List.pairwise_mergeSort (le := vleT) (fun a b c => vle_trans a.2 b.2 c.2) (fun a b => vle_tot a.2 b.2) m
theorem srtV_perm (l : List D) : (srtV l).Perm l := List.mergeSort_perm _ _
theorem srtV_vl {l : List D} (h : ∀ d ∈ l, Vl d) : ∀ d ∈ srtV l, Vl d := fun d hd => h d ((srtV_perm l).mem_iff.mp hd)
theorem srtV_len (l : List D) : (srtV l).length = l.length := (srtV_perm l).length_eq
theorem srtV_of_perm {l m : List D} (h : ∀ d ∈ l, Vl d) (p : l.Perm m) : srtV l = srtV m := by
  have hm : ∀ d ∈ m, Vl d := fun d hd => h d (p.mem_iff.mpr hd)
  refine List.Perm.eq_of_pairwise (le := fun a b => vle a b = true) (fun a b ha hb h1 h2 => vle_anti (srtV_vl h a ha) (srtV_vl hm b hb) h1 h2) (srtV_pw h) (srtV_pw hm) ?_
  exact (srtV_perm l).trans (p.trans (srtV_perm m).symm)
theorem srtV_rev {l : List D} (h : ∀ d ∈ l, Vl d) : srtV l.reverse = srtV l := (srtV_of_perm h (List.reverse_perm l).symm).symm
/-! ### keys -/
theorem keyV_pl {a : D} (h : Vl a) : pl (keyV a) = true ∧ (toPy (keyV a)).depth ≤ 60 := by
  cases h with
  | non => exact ⟨by decide +kernel, by decide +kernel⟩
  | int i hi =>
    refine ⟨?_, ?_⟩
    · show (true && (true && (PyData.strOk "" && true))) = true
      decide +kernel
    · show PyData.depthAll [_, _, _] + 1 ≤ 60
      simp [PyData.depthAll, PyData.depth, toPy]
  | str x hx l =>
    refine ⟨?_, ?_⟩
    · show (true && (true && (PyData.strOk x && true))) = true
      rw [letters_ok hx]; rfl
    · show PyData.depthAll [_, _, _] + 1 ≤ 60
      simp [PyData.depthAll, PyData.depth, toPy]
theorem keyV_alike {a b : D} (ha : Vl a) (hb : Vl b) : alike (toPy (keyV a)) (toPy (keyV b)) = true := by
  cases ha <;> cases hb <;> rfl
theorem ltK_key {a b : D} (ha : Vl a) (hb : Vl b) : ltK (keyV a) (keyV b) = vlt a b := by
  have h := ltD_key ha hb
  unfold ltD at h
  split at h
  · exact Option.some.inj h
  · cases h
theorem keysOk_key {l : List D} (h : ∀ d ∈ l, Vl d) : keysOk (l.map keyV) = true := by
  unfold keysOk
  have h1 : (l.map keyV).all (fun k => pl k && decide ((toPy k).depth ≤ 60)) = true := by
    refine List.all_eq_true.mpr fun k hk => ?_
    obtain ⟨d, hd, rfl⟩ := List.mem_map.mp hk
    have := keyV_pl (h d hd)
    simp [this.1, this.2]
  have h2 : (l.map keyV).all (fun a => (l.map keyV).all fun b => alike (toPy a) (toPy b)) = true := by
    refine List.all_eq_true.mpr fun k hk => List.all_eq_true.mpr fun k' hk' => ?_
    obtain ⟨d, hd, rfl⟩ := List.mem_map.mp hk
    obtain ⟨d', hd', rfl⟩ := List.mem_map.mp hk'
    exact keyV_alike (h d hd) (h d' hd')
  have h3 : (l.map keyV).all keysOk.keyT = true := by
    refine List.all_eq_true.mpr fun k hk => ?_
    obtain ⟨d, hd, rfl⟩ := List.mem_map.mp hk
    cases h d hd <;> rfl
  rw [h1, h2, h3]; rfl
theorem keysL_key {S : Store} {f : D → Store → R D} : ∀ {l : List D}, (∀ d ∈ l, f d S = .ok (keyV d) S) → keysL S f l = some (l.map keyV)
  | [], _ => rfl
  | d :: r, h => by
    unfold keysL
    rw [h d List.mem_cons_self]
    simp [keysL_key fun x hx => h x (List.mem_cons_of_mem _ hx)]
theorem zip_key (l : List D) : l.zip (l.map keyV) = l.map fun d => (d, keyV d) := by
  induction l with
  | nil => rfl
  | cons d r ih => simp [ih]
theorem sortBy_key {l : List D} (h : ∀ d ∈ l, Vl d) : sortBy l (l.map keyV) = srtV l := by
  unfold sortBy srtV
  rw [zip_key]
  have e : (l.map fun d => (d, keyV d)).mergeSort (fun a b => !ltK b.2 a.2) = (l.mergeSort vle).map fun d => (d, keyV d) :=
    (List.map_mergeSort (r := vle) (f := fun d : D => (d, keyV d)) (fun a ha b hb => by
      show (!vlt b a) = !ltK (keyV b) (keyV a)
      rw [ltK_key (h b hb) (h a ha)])).symm
  rw [e, List.map_map]
  exact List.map_id' _
theorem byD_key {l : List D} (h : ∀ d ∈ l, Vl d) (hl : l.length ≤ 1000) : byD .srt l (l.map keyV) = some (.lst (srtV l)) := by
  have e : decide (l.length ≤ lim) = true := decide_eq_true (by unfold lim; omega)
  unfold byD
  rw [keysOk_key h, e, sortBy_key h]
  rfl
/-! ### the least, the greatest -/
theorem bestF_c (lt : D → D → Bool) (x k y l : D) (r : List (D × D)) : bestF lt x k ((y, l) :: r) = if lt l k then bestF lt y l r else bestF lt x k r := by rw [bestF]
theorem map_c (y : D) (r : List D) : (y :: r).map (fun d => (d, keyV d)) = (y, keyV y) :: r.map fun d => (d, keyV d) := rfl
theorem best_min {x : D} (hx : Vl x) : ∀ {r : List D}, (∀ d ∈ r, Vl d) → bestF ltK x (keyV x) (r.map fun d => (d, keyV d)) ∈ x :: r ∧ ∀ d ∈ x :: r, vle (bestF ltK x (keyV x) (r.map fun d => (d, keyV d))) d = true
  | [], _ => ⟨List.mem_cons_self, fun d hd => by
      rw [List.mem_singleton.mp hd]
      show (!vlt x x) = true
      rw [vlt_irr hx]; rfl⟩
  | y :: r, h => by
    have hy := h y List.mem_cons_self
    have hr : ∀ d ∈ r, Vl d := fun d hd => h d (List.mem_cons_of_mem _ hd)
    have key : ∀ z : D, Vl z → (z = x ∨ z = y) → vle z x = true → vle z y = true → bestF ltK z (keyV z) (r.map fun d => (d, keyV d)) ∈ x :: y :: r ∧ ∀ d ∈ x :: y :: r, vle (bestF ltK z (keyV z) (r.map fun d => (d, keyV d))) d = true := fun z hz ez zx zy => by
      obtain ⟨m, a⟩ := best_min hz hr
      have vb : Vl (bestF ltK z (keyV z) (r.map fun d => (d, keyV d))) := by
        rcases List.mem_cons.mp m with e | e
        · rw [e]; exact hz
        · exact hr _ e
      refine ⟨?_, fun d hd => ?_⟩
      · rcases List.mem_cons.mp m with e | e
        · rw [e]
          rcases ez with rfl | rfl
          · exact List.mem_cons_self
          · exact List.mem_cons_of_mem _ List.mem_cons_self
        · exact List.mem_cons_of_mem _ (List.mem_cons_of_mem _ e)
      · rcases List.mem_cons.mp hd with rfl | hd
        · exact vle_trans vb hz hx (a z List.mem_cons_self) zx
        · rcases List.mem_cons.mp hd with rfl | hd
          · exact vle_trans vb hz hy (a z List.mem_cons_self) zy
          · exact a d (List.mem_cons_of_mem _ hd)
    rw [map_c, bestF_c, ltK_key hy hx]
    cases e : vlt y x with
    | true =>
      rw [if_pos rfl]
      refine key y hy (.inr rfl) ?_ ?_
      · rcases vlt_tri hy hx with ⟨_, q, _⟩ | ⟨_, _, q⟩ | ⟨_, q, _⟩
        · rw [e] at q; cases q
        · show (!vlt x y) = true; rw [q]; rfl
        · rw [e] at q; cases q
      · show (!vlt y y) = true; rw [vlt_irr hy]; rfl
    | false =>
      rw [if_neg (by simp)]
      refine key x hx (.inl rfl) ?_ ?_
      · show (!vlt x x) = true; rw [vlt_irr hx]; rfl
      · show (!vlt y x) = true; rw [e]; rfl
theorem best_max {x : D} (hx : Vl x) : ∀ {r : List D}, (∀ d ∈ r, Vl d) → bestF gtK x (keyV x) (r.map fun d => (d, keyV d)) ∈ x :: r ∧ ∀ d ∈ x :: r, vle d (bestF gtK x (keyV x) (r.map fun d => (d, keyV d))) = true
  | [], _ => ⟨List.mem_cons_self, fun d hd => by
      rw [List.mem_singleton.mp hd]
      show (!vlt x x) = true
      rw [vlt_irr hx]; rfl⟩
  | y :: r, h => by
    have hy := h y List.mem_cons_self
    have hr : ∀ d ∈ r, Vl d := fun d hd => h d (List.mem_cons_of_mem _ hd)
    have key : ∀ z : D, Vl z → (z = x ∨ z = y) → vle x z = true → vle y z = true → bestF gtK z (keyV z) (r.map fun d => (d, keyV d)) ∈ x :: y :: r ∧ ∀ d ∈ x :: y :: r, vle d (bestF gtK z (keyV z) (r.map fun d => (d, keyV d))) = true := fun z hz ez zx zy => by
      obtain ⟨m, a⟩ := best_max hz hr
      have vb : Vl (bestF gtK z (keyV z) (r.map fun d => (d, keyV d))) := by
        rcases List.mem_cons.mp m with e | e
        · rw [e]; exact hz
        · exact hr _ e
      refine ⟨?_, fun d hd => ?_⟩
      · rcases List.mem_cons.mp m with e | e
        · rw [e]
          rcases ez with rfl | rfl
          · exact List.mem_cons_self
          · exact List.mem_cons_of_mem _ List.mem_cons_self
        · exact List.mem_cons_of_mem _ (List.mem_cons_of_mem _ e)
      · rcases List.mem_cons.mp hd with rfl | hd
        · exact vle_trans hx hz vb zx (a z List.mem_cons_self)
        · rcases List.mem_cons.mp hd with rfl | hd
          · exact vle_trans hy hz vb zy (a z List.mem_cons_self)
          · exact a d (List.mem_cons_of_mem _ hd)
    rw [map_c, bestF_c, show gtK (keyV y) (keyV x) = ltK (keyV x) (keyV y) from rfl, ltK_key hx hy]
    cases e : vlt x y with
    | true =>
      rw [if_pos rfl]
      refine key y hy (.inr rfl) ?_ ?_
      · rcases vlt_tri hx hy with ⟨_, q, _⟩ | ⟨_, _, q⟩ | ⟨_, q, _⟩
        · rw [e] at q; cases q
        · show (!vlt y x) = true; rw [q]; rfl
        · rw [e] at q; cases q
      · show (!vlt y y) = true; rw [vlt_irr hy]; rfl
    | false =>
      rw [if_neg (by simp)]
      refine key x hx (.inl rfl) ?_ ?_
      · show (!vlt x x) = true; rw [vlt_irr hx]; rfl
      · show (!vlt x y) = true; rw [e]; rfl
theorem srtV_head {l : List D} (h : ∀ d ∈ l, Vl d) {b : D} (hb : b ∈ l) (m : ∀ d ∈ l, vle b d = true) : (srtV l)[0]? = some b := by
  have pw := srtV_pw h
  have vl := srtV_vl h
  have mem := fun d => (srtV_perm l).mem_iff (a := d)
  cases e : srtV l with
  | nil => rw [e] at mem; exact absurd ((mem b).mpr hb) (by simp)
  | cons x r =>
    rw [e] at pw vl mem
    have hx : x ∈ l := (mem x).mp List.mem_cons_self
    have : x = b := by
      refine vle_anti (h x hx) (h b hb) ?_ (m x hx)
      rcases List.mem_cons.mp ((mem b).mpr hb) with rfl | q
      · show (!vlt b b) = true; rw [vlt_irr (h b hb)]; rfl
      · exact (List.pairwise_cons.mp pw).1 b q
    rw [this]; rfl
theorem srtV_last {l : List D} (h : ∀ d ∈ l, Vl d) {b : D} (hb : b ∈ l) (m : ∀ d ∈ l, vle d b = true) : (srtV l)[l.length - 1]? = some b := by
  have pw := srtV_pw h
  have mem := fun d => (srtV_perm l).mem_iff (a := d)
  have len := srtV_len l
  have pos : 0 < l.length := List.length_pos_of_mem hb
  have hi : l.length - 1 < (srtV l).length := by omega
  rw [List.getElem?_eq_getElem hi]
  have hx : (srtV l)[l.length - 1] ∈ l := (mem _).mp (List.getElem_mem hi)
  have : (srtV l)[l.length - 1] = b := by
    refine vle_anti (h _ hx) (h b hb) (m _ hx) ?_
    obtain ⟨j, hj, ej⟩ := List.getElem_of_mem ((mem b).mpr hb)
    by_cases q : j = l.length - 1
    · subst q
      rw [ej]
      show (!vlt b b) = true; rw [vlt_irr (h b hb)]; rfl
    · have := List.pairwise_iff_getElem.mp pw j (l.length - 1) hj hi (by omega)
      rw [ej] at this
      exact this
  rw [this]
theorem bst_min {l : List D} (h : ∀ d ∈ l, Vl d) (h0 : l ≠ []) (hl : l.length ≤ 1000) : bstD false l (l.map keyV) = (srtV l)[0]? ∧ ((srtV l)[0]?).isSome := by
  have e : decide (l.length ≤ lim) = true := decide_eq_true (by unfold lim; omega)
  unfold bstD
  rw [keysOk_key h, e, if_pos (show (true && true) = true from rfl), zip_key]
  cases l with
  | nil => exact absurd rfl h0
  | cons x r =>
    obtain ⟨m, a⟩ := best_min (h x List.mem_cons_self) fun d hd => h d (List.mem_cons_of_mem _ hd)
    rw [srtV_head h m a]
    exact ⟨rfl, rfl⟩
theorem bst_max {l : List D} (h : ∀ d ∈ l, Vl d) (h0 : l ≠ []) (hl : l.length ≤ 1000) : bstD true l (l.map keyV) = (srtV l)[l.length - 1]? ∧ ((srtV l)[l.length - 1]?).isSome := by
  have e : decide (l.length ≤ lim) = true := decide_eq_true (by unfold lim; omega)
  unfold bstD
  rw [keysOk_key h, e, if_pos (show (true && true) = true from rfl), zip_key]
  cases l with
  | nil => exact absurd rfl h0
  | cons x r =>
    obtain ⟨m, a⟩ := best_max (h x List.mem_cons_self) fun d hd => h d (List.mem_cons_of_mem _ hd)
    rw [srtV_last h m a]
    exact ⟨rfl, rfl⟩
/-! ### in the text -/
section
variable {cl : Cl} {a b : Ex} {js : List Nat} {ρ : Ev} {S : Store} {l : List D}
theorem ev_byl (ha : bw a ρ S (ev cl a ρ S) = .ok (.lst l) S) (hv : ∀ d ∈ l, Vl d) (hl : l.length ≤ 1000) (hb : ∀ d ∈ l, ev cl b (lamE ρ js d) S = .ok (keyV d) S) : ev cl (.byl .srt a js b) ρ S = .ok (.lst (srtV l)) S := by
  unfold ev
  rw [ha]
  have e : keysL S (fun d S => ev cl b (lamE ρ js d) S) l = some (l.map keyV) := keysL_key hb
  simp only [R.bind_ok, vw5, seqD, Option.bind_some, e, byD_key hv hl, opt_some]
theorem ev_byf {f : Nat} (ha : bw a ρ S (ev cl a ρ S) = .ok (.lst l) S) (hv : ∀ d ∈ l, Vl d) (hl : l.length ≤ 1000) (hb : ∀ d ∈ l, cl.fn f [d] S = .ok (keyV d) S) : ev cl (.byf .srt a f) ρ S = .ok (.lst (srtV l)) S := by
  unfold ev
  rw [ha]
  have e : keysL S (fun d S => cl.fn f [d] S) l = some (l.map keyV) := keysL_key hb
  simp only [R.bind_ok, vw5, seqD, Option.bind_some, e, byD_key hv hl, opt_some]
theorem ev_bmn (ha : ev cl a ρ S = .ok (.lst l) S) (hv : ∀ d ∈ l, Vl d) (h0 : l ≠ []) (hl : l.length ≤ 1000) (hb : ∀ d ∈ l, ev cl b (lamE ρ js d) S = .ok (keyV d) S) : ∃ m, (srtV l)[0]? = some m ∧ ev cl (.bst false a js b) ρ S = .ok m S := by
  obtain ⟨e1, e2⟩ := bst_min hv h0 hl
  obtain ⟨m, hm⟩ := Option.isSome_iff_exists.mp e2
  refine ⟨m, hm, ?_⟩
  unfold ev
  rw [ha]
  have e : keysL S (fun d S => ev cl b (lamE ρ js d) S) l = some (l.map keyV) := keysL_key hb
  simp only [R.bind_ok, lstD, Option.bind_some, e, e1, hm, opt_some]
theorem ev_bmx (ha : ev cl a ρ S = .ok (.lst l) S) (hv : ∀ d ∈ l, Vl d) (h0 : l ≠ []) (hl : l.length ≤ 1000) (hb : ∀ d ∈ l, ev cl b (lamE ρ js d) S = .ok (keyV d) S) : ∃ m, (srtV l)[l.length - 1]? = some m ∧ ev cl (.bst true a js b) ρ S = .ok m S := by
  obtain ⟨e1, e2⟩ := bst_max hv h0 hl
  obtain ⟨m, hm⟩ := Option.isSome_iff_exists.mp e2
  refine ⟨m, hm, ?_⟩
  unfold ev
  rw [ha]
  have e : keysL S (fun d S => ev cl b (lamE ρ js d) S) l = some (l.map keyV) := keysL_key hb
  simp only [R.bind_ok, lstD, Option.bind_some, e, e1, hm, opt_some]
end
/-! ### how many unlike -/
def keyOf : D → Key
  | .int i => .inl i
  | .str x => .inr x
  | _ => .inl 0
theorem keysD_vl : ∀ {l : List D}, (∀ d ∈ l, Vl d ∧ d ≠ .non) → keysD l = some (l.map keyOf)
  | [], _ => rfl
  | d :: r, h => by
    have ih := keysD_vl fun x hx => h x (List.mem_cons_of_mem _ hx)
    obtain ⟨v, nn⟩ := h d List.mem_cons_self
    unfold keysD
    cases v with
    | non => exact absurd rfl nn
    | int i hi => simp [keyD, ih, keyOf]
    | str x hx lx => simp [keyD, ih, keyOf]
theorem keyOf_inj {a b : D} (ha : Vl a ∧ a ≠ .non) (hb : Vl b ∧ b ≠ .non) (h : keyOf a = keyOf b) : a = b := by
  obtain ⟨va, na⟩ := ha
  obtain ⟨vb, nb⟩ := hb
  cases va with
  | non => exact absurd rfl na
  | int i hi =>
    cases vb with
    | non => exact absurd rfl nb
    | int j hj => cases h; rfl
    | str y hy ly => cases h
  | str x hx lx =>
    cases vb with
    | non => exact absurd rfl nb
    | int j hj => cases h
    | str y hy ly => cases h; rfl
/-- the first ones of their kind, behind those seen -/
def fresh1 : List D → List D → List D
  | _, [] => []
  | seen, d :: r => if d ∈ seen then fresh1 seen r else d :: fresh1 (d :: seen) r
theorem ndF_fresh : ∀ {l seen : List D}, (∀ d ∈ l, Vl d ∧ d ≠ .non) → (∀ d ∈ seen, Vl d ∧ d ≠ .non) → ndF (seen.map keyOf) (l.map keyOf) = (fresh1 seen l).length
  | [], _, _, _ => rfl
  | d :: r, seen, h, hs => by
    have hd := h d List.mem_cons_self
    have hr : ∀ x ∈ r, Vl x ∧ x ≠ .non := fun x hx => h x (List.mem_cons_of_mem _ hx)
    show (if keyOf d ∈ seen.map keyOf then _ else _) = _
    unfold fresh1
    by_cases q : d ∈ seen
    · rw [if_pos (List.mem_map_of_mem q), if_pos q]
      exact ndF_fresh hr hs
    · have nq : keyOf d ∉ seen.map keyOf := fun z => by
        obtain ⟨x, hx, e⟩ := List.mem_map.mp z
        rw [keyOf_inj (hs x hx) hd e] at hx
        exact q hx
      rw [if_neg nq, if_neg q, List.length_cons]
      have := ndF_fresh (l := r) (seen := d :: seen) hr fun x hx => by
        rcases List.mem_cons.mp hx with rfl | hx
        · exact hd
        · exact hs x hx
      rw [List.map_cons] at this
      rw [this]
theorem fresh1_spec : ∀ (l seen : List D), (fresh1 seen l).Nodup ∧ ∀ d, d ∈ fresh1 seen l ↔ d ∈ l ∧ d ∉ seen
  | [], seen => ⟨List.nodup_nil, fun d => by simp [fresh1]⟩
  | x :: r, seen => by
    unfold fresh1
    by_cases q : x ∈ seen
    · rw [if_pos q]
      obtain ⟨n, m⟩ := fresh1_spec r seen
      refine ⟨n, fun d => ?_⟩
      rw [m d, List.mem_cons]
      constructor
      · rintro ⟨h1, h2⟩; exact ⟨.inr h1, h2⟩
      · rintro ⟨rfl | h1, h2⟩
        · exact absurd q h2
        · exact ⟨h1, h2⟩
    · rw [if_neg q]
      obtain ⟨n, m⟩ := fresh1_spec r (x :: seen)
      refine ⟨List.nodup_cons.mpr ⟨fun z => ((m x).mp z).2 List.mem_cons_self, n⟩, fun d => ?_⟩
      rw [List.mem_cons, m d, List.mem_cons, List.mem_cons]
      constructor
      · rintro (rfl | ⟨h1, h2⟩)
        · exact ⟨.inl rfl, q⟩
        · exact ⟨.inr h1, fun z => h2 (.inr z)⟩
      · rintro ⟨rfl | h1, h2⟩
        · exact .inl rfl
        · by_cases e : d = x
          · exact .inl e
          · exact .inr ⟨h1, fun z => z.elim e h2⟩
def unlike (l : List D) : Nat := (fresh1 [] l).length
theorem unlike_perm {l m : List D} (h : ∀ d, d ∈ l ↔ d ∈ m) : unlike l = unlike m := by
  obtain ⟨n1, m1⟩ := fresh1_spec l []
  obtain ⟨n2, m2⟩ := fresh1_spec m []
  exact ((List.perm_ext_iff_of_nodup n1 n2).mpr fun d => by rw [m1 d, m2 d, h d]).length_eq
theorem lset_vl {l : List D} (h : ∀ d ∈ l, Vl d ∧ d ≠ .non) (hl : l.length ≤ 60) : lsetD (.lst l) = some (.int (unlike l)) := by
  show (keysD l).bind _ = _
  rw [keysD_vl h]
  simp only [Option.bind_some, List.length_map, hl, if_true]
  rw [show (ndF [] (l.map keyOf)) = unlike l from ndF_fresh (seen := []) h (fun _ z => by simp at z)]
/-- how many places there are whose item is none of those ahead -/
theorem unlike_places : ∀ (l seen : List D), ((List.range l.length).filter fun k => decide ((l[k]?).getD .non ∉ seen ++ l.take k)).length = (fresh1 seen l).length
  | [], _ => rfl
  | x :: r, seen => by
    rw [List.length_cons, List.range_succ_eq_map, List.filter_cons]
    have e0 : (decide (((x :: r)[0]?).getD .non ∉ seen ++ (x :: r).take 0)) = decide (x ∉ seen) := by simp
    have tail : (((List.range r.length).map Nat.succ).filter fun k => decide (((x :: r)[k]?).getD .non ∉ seen ++ (x :: r).take k)).length = (fresh1 (x :: seen) r).length := by
      rw [List.filter_map, List.length_map, ← unlike_places r (x :: seen)]
      congr 1
      refine List.filter_congr fun k hk => ?_
      show decide (((x :: r)[k + 1]?).getD .non ∉ seen ++ (x :: r).take (k + 1)) = _
      rw [List.getElem?_cons_succ, List.take_succ_cons]
      refine decide_eq_decide.mpr (not_congr ?_)
      rw [List.mem_append, List.mem_append, List.mem_cons, List.mem_cons]
      constructor
      · rintro (z | z | z)
        · exact .inl (.inr z)
        · exact .inl (.inl z)
        · exact .inr z
      · rintro ((z | z) | z)
        · exact .inr (.inl z)
        · exact .inl z
        · exact .inr (.inr z)
    rw [e0]
    unfold fresh1
    by_cases q : x ∈ seen
    · rw [if_neg (by simp [q]), tail, if_pos q]
      have : ∀ (l s s' : List D), (∀ d, d ∈ s ↔ d ∈ s') → fresh1 s l = fresh1 s' l := by
        intro l
        induction l with
        | nil => intros; rfl
        | cons y t ih =>
          intro s s' h
          unfold fresh1
          by_cases z : y ∈ s
          · rw [if_pos z, if_pos ((h y).mp z)]; exact ih s s' h
          · rw [if_neg z, if_neg (fun w => z ((h y).mpr w))]
            rw [ih (y :: s) (y :: s') fun d => by simp [h d]]
      rw [this r (x :: seen) seen fun d => by
        rw [List.mem_cons]
        exact ⟨fun z => z.elim (fun e => e ▸ q) id, .inr⟩]
    · rw [if_pos (by simp [q]), List.length_cons, tail, if_neg q, List.length_cons]
/-! ### in, == -/
theorem Vl.depth {d : D} (h : Vl d) : (toPy d).depth = 0 := by cases h <;> rfl
theorem Vl.eqv {a b : D} (ha : Vl a) (hb : Vl b) : PyData.eqv (toPy a) (toPy b) = decide (a = b) := by
  cases ha <;> cases hb <;> simp [toPy, PyData.eqv] <;> first | rfl | (rename_i x _ _ y _ _; by_cases h : x = y <;> simp [h]) | (rename_i x _ y _; by_cases h : x = y <;> simp [h]) | skip
theorem Vl.pls : ∀ {xs : List D}, (∀ x ∈ xs, Vl x) → pls xs = true
  | [], _ => rfl
  | x :: r, h => by
    show (DI.pl x && DI.pls r) = true
    rw [(h x List.mem_cons_self).pl, Vl.pls fun y hy => h y (List.mem_cons_of_mem _ hy)]
    rfl
theorem Vl.nobs : ∀ {xs : List D}, (∀ x ∈ xs, Vl x) → nobs xs = true
  | [], _ => rfl
  | x :: r, h => by
    show (DI.nob x && DI.nobs r) = true
    rw [(h x List.mem_cons_self).nob, Vl.nobs fun y hy => h y (List.mem_cons_of_mem _ hy)]
    rfl
theorem Vl.depths : ∀ {xs : List D}, (∀ x ∈ xs, Vl x) → PyData.depthAll (toPys xs) = 0
  | [], _ => rfl
  | x :: r, h => by
    show max (toPy x).depth (PyData.depthAll (toPys r)) = 0
    rw [(h x List.mem_cons_self).depth, Vl.depths fun y hy => h y (List.mem_cons_of_mem _ hy)]
    rfl
theorem Vl.any {a : D} (ha : Vl a) : ∀ {xs : List D}, (∀ x ∈ xs, Vl x) → (toPys xs).any (fun z => PyData.eqv z (toPy a)) = decide (a ∈ xs)
  | [], _ => rfl
  | x :: r, h => by
    show (PyData.eqv (toPy x) (toPy a) || (toPys r).any fun z => PyData.eqv z (toPy a)) = _
    rw [(h x List.mem_cons_self).eqv ha, Vl.any ha fun y hy => h y (List.mem_cons_of_mem _ hy)]
    by_cases e : x = a
    · subst e; simp
    · have : a ≠ x := fun z => e z.symm
      simp [e, this]
theorem in_vl {a : D} {xs : List D} (ha : Vl a) (hx : ∀ x ∈ xs, Vl x) : inD a (.lst xs) = some (decide (a ∈ xs)) := by
  have e : inD a (.lst xs) = if DI.pl a && DI.pls xs && decide ((toPy a).depth ≤ 60) && decide (PyData.depthAll (toPys xs) ≤ 60) then some ((toPys xs).any fun z => PyData.eqv z (toPy a)) else none := by cases ha <;> rfl
  rw [e, ha.pl, Vl.pls hx, ha.depth, Vl.depths hx, ha.any hx]
  rfl
theorem Vl.eqvs : ∀ {xs ys : List D}, (∀ x ∈ xs, Vl x) → (∀ x ∈ ys, Vl x) → PyData.eqvAll (toPys xs) (toPys ys) = decide (xs = ys)
  | [], [], _, _ => rfl
  | [], y :: t, _, _ => by simp [toPys, PyData.eqvAll]
  | x :: r, [], _, _ => by simp [toPys, PyData.eqvAll]
  | x :: r, y :: t, h, g => by
    have ih := Vl.eqvs (xs := r) (ys := t) (fun z hz => h z (List.mem_cons_of_mem _ hz)) (fun z hz => g z (List.mem_cons_of_mem _ hz))
    simp only [toPys, PyData.eqvAll, (h x List.mem_cons_self).eqv (g y List.mem_cons_self), ih, List.cons.injEq, Bool.decide_and]
theorem Vl.eql {xs ys : List D} (hx : ∀ x ∈ xs, Vl x) (hy : ∀ x ∈ ys, Vl x) : eqD (.lst xs) (.lst ys) = some (decide (xs = ys)) := by
  unfold eqD
  have e1 : DI.pl (.lst xs) = true := Vl.pls hx
  have e2 : DI.pl (.lst ys) = true := Vl.pls hy
  have d1 : (toPy (.lst xs)).depth = 1 := by simp only [toPy, PyData.depth, Vl.depths hx]
  have d2 : (toPy (.lst ys)).depth = 1 := by simp only [toPy, PyData.depth, Vl.depths hy]
  have e3 : PyData.eqv (toPy (.lst xs)) (toPy (.lst ys)) = decide (xs = ys) := by
    simp only [toPy, PyData.eqv]
    exact Vl.eqvs hx hy
  rw [e1, e2, d1, d2, e3]
  rfl
end DI
set_option Elab.async false
set_option maxRecDepth 100000
set_option maxHeartbeats 0
namespace K08
open PySem PyProof.Rows L2 DI
def c_key_of : Fn := ⟨1, 1, (.cons (.ifs (.val (.cmp .is (.var 0) (.cst .non))) (.cons (.ret (.tup (.cons (.cst (.int 0)) (.cons (.cst (.int 0)) (.cons (.cst (.str "")) .nil))))) .nil) .nil) (.cons (.ret (.ife (.val (.isi (.var 0) .str)) (.tup (.cons (.cst (.int 2)) (.cons (.cst (.int 0)) (.cons (.var 0) .nil)))) (.tup (.cons (.cst (.int 1)) (.cons (.var 0) (.cons (.cst (.str "")) .nil)))))) .nil)), true, false⟩
def c_middle_1 : Ex := (.call 0 (.cons (.var 0) .nil))
def w_middle_1 : Ex := (.byl .srt (.var 0) [] c_middle_1)
@[simp] theorem own_w_middle_1 (ρ : Ev) : own? ρ w_middle_1 = none := rfl
def c_middle : Fn := ⟨1, 1, (.cons (.ret (.idx w_middle_1 (.bin .fdiv (.bin .sub (.bi .len (.var 0)) (.cst (.int 1))) (.cst (.int 2))))) .nil), true, false⟩
def c_of_given_1 : Ex := (.call 0 (.cons (.var 0) .nil))
def w_of_given_1 : Ex := (.bst false (.var 1) [] c_of_given_1)
@[simp] theorem own_w_of_given_1 (ρ : Ev) : own? ρ w_of_given_1 = none := rfl
def c_of_given_2 : Ex := (.call 0 (.cons (.var 0) .nil))
def w_of_given_2 : Ex := (.bst true (.var 1) [] c_of_given_2)
@[simp] theorem own_w_of_given_2 (ρ : Ev) : own? ρ w_of_given_2 = none := rfl
def c_of_given : Fn := ⟨2, 2, (.cons (.ifs (.val (.cmp .eq (.var 0) (.cst (.str "sum")))) (.cons (.ret (.bi .sum (.var 1))) .nil) .nil) (.cons (.ifs (.val (.cmp .eq (.var 0) (.cst (.str "least")))) (.cons (.ret w_of_given_1) .nil) .nil) (.cons (.ifs (.val (.cmp .eq (.var 0) (.cst (.str "greatest")))) (.cons (.ret w_of_given_2) .nil) .nil) (.cons (.ret (.call 1 (.cons (.var 1) .nil))) .nil)))), true, false⟩
def c_aggregate_1 : Ex := (.isi (.var 3) .str)
def w_aggregate_1 : Ex := (.anyg c_aggregate_1 (.nm 3) (.of (.var 1)))
@[simp] theorem own_w_aggregate_1 (ρ : Ev) : own? ρ w_aggregate_1 = none := rfl
def c_aggregate_2 : Ex := (.var 3)
def c_aggregate_3 : Tx := (.val (.cmp .isnot (.var 3) (.cst .non)))
def w_aggregate_2 : Ex := (.lcf c_aggregate_2 (.nm 3) (.of (.var 1)) c_aggregate_3)
@[simp] theorem own_w_aggregate_2 (ρ : Ev) : own? ρ w_aggregate_2 = none := rfl
def c_aggregate : Fn := ⟨4, 2, (.cons (.ifs (.val (.cmp .notin (.var 0) (.glob 0))) (.cons (.rai 1 (.cons (.cst (.str "function")) .nil)) .nil) .nil) (.cons (.ifs (.and (.cons (.val (.cmp .isin (.var 0) (.tup (.cons (.cst (.str "sum")) (.cons (.cst (.str "median")) .nil))))) (.cons (.val w_aggregate_1) .nil))) (.cons (.rai 1 (.cons (.cst (.str "text")) .nil)) .nil) .nil) (.cons (.ifs (.val (.cmp .eq (.var 0) (.cst (.str "size")))) (.cons (.ret (.bi .len (.var 1))) .nil) .nil) (.cons (.ifs (.val (.cmp .isin (.var 0) (.tup (.cons (.cst (.str "first")) (.cons (.cst (.str "last")) .nil))))) (.cons (.ret (.ife (.val (.cmp .eq (.bi .len (.var 1)) (.cst (.int 0)))) (.cst .non) (.idx (.var 1) (.ife (.val (.cmp .eq (.var 0) (.cst (.str "first")))) (.cst (.int 0)) (.neg (.cst (.int 1))))))) .nil) .nil) (.cons (.set (.nm 2) w_aggregate_2) (.cons (.ifs (.val (.cmp .eq (.var 0) (.cst (.str "count")))) (.cons (.ret (.bi .len (.var 2))) .nil) .nil) (.cons (.ifs (.val (.cmp .eq (.var 0) (.cst (.str "different")))) (.cons (.ret (.lset (.var 2))) .nil) .nil) (.cons (.ret (.ife (.val (.cmp .eq (.bi .len (.var 2)) (.cst (.int 0)))) (.cst .non) (.call 2 (.cons (.var 0) (.cons (.var 2) .nil))))) .nil)))))))), true, false⟩
def c_tiles_1 : Bl := (.cons (.mut 4 .ext (.cons (.bin .mul (.lst (.cons (.var 5) .nil)) (.ife (.val (.cmp .le (.var 5) (.var 3))) (.bin .add (.var 2) (.cst (.int 1))) (.var 2))) .nil)) (.cons (.kil [5]) .nil))
def w_tiles_1 : Sm := (.loop (.nm 5) (.rng (.cons (.cst (.int 1)) (.cons (.bin .add (.bi2 .min (.var 1) (.var 0)) (.cst (.int 1))) .nil))) c_tiles_1)
def c_tiles : Fn := ⟨6, 2, (.cons (.set (.nm 2) (.bin .fdiv (.var 0) (.var 1))) (.cons (.set (.nm 3) (.bin .mod (.var 0) (.var 1))) (.cons (.own 4 (.lst .nil)) (.cons w_tiles_1 (.cons (.reto 4) .nil))))), true, true⟩
def c__law_is_integer : Fn := ⟨1, 1, (.cons (.ret (.bnd (.cons (.isi (.var 0) .int) (.cons (.bnt (.isi (.var 0) .bool)) .nil)))) .nil), true, false⟩
def c__law_cell : Fn := ⟨2, 2, (.cons (.ifs (.val (.cmp .lt (.var 1) (.bi .len (.var 0)))) (.cons (.ret (.idx (.var 0) (.var 1))) .nil) .nil) (.cons (.ret (.cst (.int 0))) .nil)), true, false⟩
def c__law_list_is : Fn := ⟨2, 2, (.cons (.ret (.bnd (.cons (.isi (.var 0) .lst) (.cons (.cmp .eq (.bi .repr (.var 0)) (.bi .repr (.bi .lst (.var 1)))) .nil)))) .nil), true, false⟩
def c__law_same : Fn := ⟨2, 2, (.cons (.ret (.cmp .eq (.bi .repr (.var 0)) (.bi .repr (.var 1)))) .nil), true, false⟩
def c__law_digits_1 : Bl := (.cons (.ifs (.val (.cmp .gt (.var 5) (.cst (.int 0)))) (.cons (.mut 3 .app (.cons (.bin .mod (.bi .int (.var 5)) (.cst (.int 1000))) .nil)) (.cons (.set (.nm 5) (.bin .fdiv (.var 5) (.cst (.int 1000)))) .nil)) .nil) (.cons (.kil [6]) .nil))
def w__law_digits_1 : Sm := (.loop (.nm 6) (.rng (.cons (.cst (.int 60)) .nil)) c__law_digits_1)
def c__law_digits_2 : Bl := (.cons (.set (.nm 7) (.bin .mod (.bi .int (.bin .add (.bin .add (.bin .mul (.var 7) (.cst (.int 16807))) (.bin .mul (.cst (.int 7)) (.var 6))) (.cst (.int 1)))) (.cst (.int 2147483647)))) (.cons (.mut 3 .app (.cons (.bin .mod (.bi .int (.bin .fdiv (.var 7) (.cst (.int 997)))) (.cst (.int 1000))) .nil)) (.cons (.kil [6]) .nil)))
def w__law_digits_2 : Sm := (.loop (.nm 6) (.rng (.cons (.cst (.int 12)) .nil)) c__law_digits_2)
def c__law_digits_3 : Bl := (.cons (.set (.nm 5) (.call 6 (.cons (.var 0) (.cons (.var 4) .nil)))) (.cons (.ifs (.val (.cmp .lt (.var 5) (.cst (.int 0)))) (.cons (.set (.nm 5) (.bin .sub (.cst (.int 1)) (.bin .mul (.cst (.int 2)) (.var 5)))) .nil) .nil) (.cons (.ifs (.val (.cmp .ge (.var 5) (.bin .pow (.cst (.int 10)) (.cst (.int 18))))) (.cons (.kil [1, 2, 4]) (.cons w__law_digits_1 .nil)) (.cons (.set (.nm 7) (.bin .mod (.bi .int (.bin .add (.bin .add (.bin .mul (.var 5) (.cst (.int 48271))) (.bin .mul (.var 4) (.cst (.int 69621)))) (.cst (.int 11)))) (.cst (.int 2147483647)))) (.cons (.kil [1, 2, 4, 5, 6]) (.cons w__law_digits_2 .nil)))) (.cons (.kil [4, 5, 6, 7]) .nil))))
def w__law_digits_3 : Sm := (.loop (.nm 4) (.rng (.cons (.var 1) (.cons (.var 2) .nil))) c__law_digits_3)
def c__law_digits : Fn := ⟨8, 3, (.cons (.own 3 (.lst .nil)) (.cons w__law_digits_3 (.cons (.reto 3) .nil))), true, true⟩
def c__law_draw : Fn := ⟨3, 2, (.cons (.set (.nm 2) (.idx (.var 0) (.cst (.int 1)))) (.cons (.sub (.var 0) (.cst (.int 1)) (.bin .add (.var 2) (.cst (.int 1)))) (.cons (.ifs (.val (.cmp .lt (.var 2) (.bi .len (.idx (.var 0) (.cst (.int 0)))))) (.cons (.ret (.bin .mod (.bi .int (.idx (.idx (.var 0) (.cst (.int 0))) (.var 2))) (.var 1))) .nil) .nil) (.cons (.ret (.bin .mod (.bi .int (.bin .add (.bin .mul (.var 2) (.cst (.int 7))) (.cst (.int 3)))) (.var 1))) .nil)))), false, false⟩
def c__law_value : Fn := ⟨3, 2, (.cons (.set (.nm 2) (.call 10 (.cons (.var 0) (.cons (.cst (.int 6)) .nil)))) (.cons (.ifs (.val (.cmp .eq (.var 2) (.cst (.int 0)))) (.cons (.ret (.cst .non)) .nil) .nil) (.cons (.ifs (.val (.cmp .eq (.var 1) (.cst (.str "text")))) (.cons (.ret (.idx (.lst (.cons (.cst (.str "")) (.cons (.cst (.str "a")) (.cons (.cst (.str "b")) (.cons (.cst (.str "ab")) (.cons (.cst (.str "zz")) .nil)))))) (.call 10 (.cons (.var 0) (.cons (.cst (.int 5)) .nil))))) .nil) .nil) (.cons (.ret (.idx (.lst (.cons (.call 10 (.cons (.var 0) (.cons (.cst (.int 4)) .nil))) (.cons (.bin .sub (.call 10 (.cons (.var 0) (.cons (.cst (.int 12)) .nil))) (.cst (.int 6))) (.cons (.call 10 (.cons (.var 0) (.cons (.cst (.int 4)) .nil))) (.cons (.cst (.int 9999)) (.cons (.neg (.cst (.int 9999))) .nil)))))) (.call 10 (.cons (.var 0) (.cons (.cst (.int 5)) .nil))))) .nil)))), false, false⟩
def c__law_columns_1 : Bl := (.cons (.mut 1 .app (.cons (.tup (.cons (.var 2) (.cons (.idx (.lst (.cons (.cst (.str "integer")) (.cons (.cst (.str "integer")) (.cons (.cst (.str "text")) .nil)))) (.call 10 (.cons (.var 0) (.cons (.cst (.int 3)) .nil)))) .nil))) .nil)) (.cons (.kil [2]) .nil))
def w__law_columns_1 : Sm := (.loop (.nm 2) (.of (.slc (.lst (.cons (.cst (.str "x")) (.cons (.cst (.str "y")) (.cons (.cst (.str "who")) .nil)))) .nil (.cons (.bin .add (.cst (.int 1)) (.call 10 (.cons (.var 0) (.cons (.cst (.int 3)) .nil)))) .nil))) c__law_columns_1)
def c__law_columns : Fn := ⟨3, 1, (.cons (.own 1 (.lst .nil)) (.cons w__law_columns_1 (.cons (.ret (.bi .tup (.var 1))) .nil))), false, false⟩
def c__law_rows_1 : Ex := (.call 11 (.cons (.var 0) (.cons (.var 7) .nil)))
def w__law_rows_1 : Ex := (.lc c__law_rows_1 (.tp [6, 7]) (.of (.var 1)))
@[simp] theorem own_w__law_rows_1 (ρ : Ev) : own? ρ w__law_rows_1 = none := rfl
def c__law_rows_2 : Bl := (.cons (.set (.nm 4) (.bin .add (.bin .add (.var 4) (.cst (.int 1))) (.call 10 (.cons (.var 0) (.cons (.cst (.int 2)) .nil))))) (.cons (.mut 3 .app (.cons (.tup (.cons (.var 4) (.cons (.bi .tup w__law_rows_1) .nil))) .nil)) (.cons (.kil [5]) .nil)))
def w__law_rows_2 : Sm := (.loop (.nm 5) (.rng (.cons (.call 10 (.cons (.var 0) (.cons (.bin .add (.var 2) (.cst (.int 1))) .nil))) .nil)) c__law_rows_2)
def c__law_rows : Fn := ⟨8, 3, (.cons (.own 3 (.lst .nil)) (.cons (.set (.nm 4) (.cst (.int 0))) (.cons w__law_rows_2 (.cons (.ifs (.val (.cmp .eq (.call 10 (.cons (.var 0) (.cons (.cst (.int 2)) .nil))) (.cst (.int 0)))) (.cons (.own 3 (.rev (.var 3))) .nil) .nil) (.cons (.ret (.bi .tup (.var 3))) .nil))))), false, false⟩
def c__law_rank : Fn := ⟨1, 1, (.cons (.ifs (.val (.cmp .is (.var 0) (.cst .non))) (.cons (.ret (.tup (.cons (.cst (.int 0)) (.cons (.cst (.int 0)) (.cons (.cst (.str "")) .nil))))) .nil) .nil) (.cons (.ifs (.val (.isi (.var 0) .str)) (.cons (.ret (.tup (.cons (.cst (.int 2)) (.cons (.cst (.int 0)) (.cons (.var 0) .nil))))) .nil) .nil) (.cons (.ret (.tup (.cons (.cst (.int 1)) (.cons (.var 0) (.cons (.cst (.str "")) .nil))))) .nil))), true, false⟩
def c__law_aggregate_1 : Ex := (.var 4)
def c__law_aggregate_2 : Tx := (.val (.cmp .isnot (.var 4) (.cst .non)))
def w__law_aggregate_1 : Ex := (.lcf c__law_aggregate_1 (.nm 4) (.of (.var 1)) c__law_aggregate_2)
@[simp] theorem own_w__law_aggregate_1 (ρ : Ev) : own? ρ w__law_aggregate_1 = none := rfl
def c__law_aggregate_3 : Ex := (.var 5)
def c__law_aggregate_4 : Tx := (.val (.cmp .notin (.idx (.var 2) (.var 5)) (.slc (.var 2) .nil (.cons (.var 5) .nil))))
def w__law_aggregate_2 : Ex := (.lcf c__law_aggregate_3 (.nm 5) (.rng (.cons (.bi .len (.var 2)) .nil)) c__law_aggregate_4)
@[simp] theorem own_w__law_aggregate_2 (ρ : Ev) : own? ρ w__law_aggregate_2 = none := rfl
def c__law_aggregate : Fn := ⟨6, 2, (.cons (.set (.nm 2) w__law_aggregate_1) (.cons (.ifs (.val (.cmp .eq (.var 0) (.cst (.str "size")))) (.cons (.ret (.bi .len (.var 1))) .nil) .nil) (.cons (.ifs (.val (.cmp .isin (.var 0) (.tup (.cons (.cst (.str "first")) (.cons (.cst (.str "last")) .nil))))) (.cons (.ret (.ife (.val (.cmp .eq (.var 0) (.cst (.str "first")))) (.idx (.bin .add (.bi .lst (.var 1)) (.lst (.cons (.cst .non) .nil))) (.cst (.int 0))) (.idx (.bin .add (.lst (.cons (.cst .non) .nil)) (.bi .lst (.var 1))) (.neg (.cst (.int 1)))))) .nil) .nil) (.cons (.ifs (.val (.cmp .eq (.var 0) (.cst (.str "count")))) (.cons (.ret (.bi .len (.var 2))) .nil) .nil) (.cons (.ifs (.val (.cmp .eq (.var 0) (.cst (.str "different")))) (.cons (.ret (.bi .len w__law_aggregate_2)) .nil) .nil) (.cons (.ifs (.val (.cmp .eq (.bi .len (.var 2)) (.cst (.int 0)))) (.cons (.ret (.cst .non)) .nil) .nil) (.cons (.ifs (.val (.cmp .eq (.var 0) (.cst (.str "sum")))) (.cons (.ret (.bi .sum (.var 2))) .nil) .nil) (.cons (.set (.nm 3) (.byf .srt (.var 2) 14)) (.cons (.ret (.idx (.var 3) (.idx (.dct ["least", "greatest", "median"] (.cons (.cst (.int 0)) (.cons (.bin .sub (.bi .len (.var 3)) (.cst (.int 1))) (.cons (.bin .fdiv (.bin .sub (.bi .len (.var 3)) (.cst (.int 1))) (.cst (.int 2))) .nil)))) (.var 0)))) .nil))))))))), true, false⟩
def c__law_told : Fn := ⟨3, 2, (.cons (.tri (.cons (.ret (.call 3 (.cons (.var 0) (.cons (.var 1) .nil)))) .nil) 0 2 (.cons (.ifs (.val (.isx 2 1)) (.cons (.ret (.tup (.cons (.cst (.str "refused")) (.cons (.xfl 2 "reason") .nil)))) .nil) .nil) (.cons (.ret (.tup (.cons (.cst (.str "other")) .nil))) .nil))) .nil), true, false⟩
def c_law_1 : Ex := (.call 11 (.cons (.var 1) (.cons (.var 8) .nil)))
def w_law_1 : Ex := (.lc c_law_1 (.nm 7) (.rng (.cons (.call 10 (.cons (.var 1) (.cons (.cst (.int 11)) .nil))) .nil)))
@[simp] theorem own_w_law_1 (ρ : Ev) : own? ρ w_law_1 = none := rfl
def c_law_2 : Ex := (.var 13)
def c_law_3 : Tx := (.val (.isi (.var 13) .str))
def w_law_2 : Ex := (.lcf c_law_2 (.nm 13) (.of (.var 9)) c_law_3)
@[simp] theorem own_w_law_2 (ρ : Ev) : own? ρ w_law_2 = none := rfl
def c_law_4 : Bl := (.cons (.set (.nm 8) (.idx (.lst (.cons (.cst (.str "integer")) (.cons (.cst (.str "text")) .nil))) (.bi .int (.cmp .eq (.call 10 (.cons (.var 1) (.cons (.cst (.int 3)) .nil))) (.cst (.int 0)))))) (.cons (.set (.nm 9) w_law_1) (.cons (.set (.nm 10) (.idx (.var 2) (.call 10 (.cons (.var 1) (.cons (.cst (.int 9)) .nil))))) (.cons (.set (.nm 11) (.bi .len w_law_2)) (.cons (.ifs (.and (.cons (.val (.cmp .isin (.var 10) (.tup (.cons (.cst (.str "sum")) (.cons (.cst (.str "median")) .nil))))) (.cons (.val (.cmp .gt (.var 11) (.cst (.int 0)))) .nil))) (.cons (.set (.nm 6) (.tup (.cons (.cst (.str "refused")) (.cons (.cst (.str "text")) .nil)))) .nil) (.cons (.set (.nm 6) (.call 15 (.cons (.var 10) (.cons (.var 9) .nil)))) .nil)) (.cons (.set (.nm 12) (.bi .lst (.var 9))) (.cons (.ifs (.or (.cons (.not (.val (.call 8 (.cons (.call 16 (.cons (.var 10) (.cons (.var 9) .nil))) (.cons (.var 6) .nil))))) (.cons (.val (.cmp .ne (.var 9) (.var 12))) .nil))) (.cons (.ret (.cst (.bl false))) .nil) .nil) (.cons (.ifs (.and (.cons (.val (.cmp .notin (.var 10) (.tup (.cons (.cst (.str "first")) (.cons (.cst (.str "last")) .nil))))) (.cons (.not (.val (.call 8 (.cons (.call 16 (.cons (.var 10) (.cons (.rev (.var 9)) .nil))) (.cons (.var 6) .nil))))) .nil))) (.cons (.ret (.cst (.bl false))) .nil) .nil) (.cons (.kil [3, 6, 8, 9, 10, 11, 12]) .nil)))))))))
def w_law_3 : Sm := (.loop (.nm 3) (.rng (.cons (.cst (.int 6)) .nil)) c_law_4)
def c_law_5 : Bl := (.cons (.set (.nm 6) (.bin .add (.var 6) (.bin .mul (.lst (.cons (.bin .add (.var 7) (.cst (.int 1))) .nil)) (.bin .add (.bin .fdiv (.var 4) (.var 5)) (.bi .int (.cmp .lt (.var 7) (.bin .mod (.bi .int (.var 4)) (.var 5)))))))) (.cons (.kil [7]) .nil))
def w_law_4 : Sm := (.loop (.nm 7) (.rng (.cons (.var 5) .nil)) c_law_5)
def c_law : Fn := ⟨14, 1, (.cons (.sto 1 (.lst (.cons (.call 9 (.cons (.var 0) (.cons (.cst (.int 0)) (.cons (.cst (.int 30)) .nil)))) (.cons (.cst (.int 0)) .nil)))) (.cons (.set (.nm 2) (.lst (.cons (.cst (.str "size")) (.cons (.cst (.str "count")) (.cons (.cst (.str "different")) (.cons (.cst (.str "sum")) (.cons (.cst (.str "least")) (.cons (.cst (.str "greatest")) (.cons (.cst (.str "median")) (.cons (.cst (.str "first")) (.cons (.cst (.str "last")) .nil))))))))))) (.cons (.kil [0]) (.cons w_law_3 (.cons (.ifs (.val (.cmp .ne (.call 16 (.cons (.idx (.lst (.cons (.cst (.str "nth")) (.cons (.cst (.str "rank")) (.cons (.cst (.str "sums")) (.cons (.cst (.str "")) .nil))))) (.call 10 (.cons (.var 1) (.cons (.cst (.int 4)) .nil)))) (.cons (.lst (.cons (.cst (.int 1)) .nil)) .nil))) (.tup (.cons (.cst (.str "refused")) (.cons (.cst (.str "function")) .nil))))) (.cons (.ret (.cst (.bl false))) .nil) .nil) (.cons (.set (.nm 4) (.call 10 (.cons (.var 1) (.cons (.cst (.int 20)) .nil)))) (.cons (.set (.nm 5) (.bin .add (.cst (.int 1)) (.call 10 (.cons (.var 1) (.cons (.cst (.int 25)) .nil))))) (.cons (.set (.nm 6) (.lst .nil)) (.cons (.kil [0, 1, 2, 3, 8, 9, 10, 11, 12]) (.cons w_law_4 (.cons (.ret (.call 7 (.cons (.call 4 (.cons (.var 4) (.cons (.var 5) .nil))) (.cons (.var 6) .nil)))) .nil))))))))))), true, false⟩
def prog : Prog := ⟨[c_key_of, c_middle, c_of_given, c_aggregate, c_tiles, c__law_is_integer, c__law_cell, c__law_list_is, c__law_same, c__law_digits, c__law_draw, c__law_value, c__law_columns, c__law_rows, c__law_rank, c__law_aggregate, c__law_told, c_law], [], [⟨0, [], [0]⟩, ⟨1, [("reason", 0)], [1, 0]⟩], [(.tup [(.str "size"), (.str "count"), (.str "different"), (.str "sum"), (.str "least"), (.str "greatest"), (.str "median"), (.str "first"), (.str "last")])], "/claim/cut.py", ["AGGREGATES"]⟩
/-! the text by places -/
def tp (i : Nat) : Stmt := (PySem.Challenge.pw_windowtable_k08_functions_exact).main.body.getD i (.Pass default)
def x_key_of : Dx := ⟨⟨("key_of", none), "key_of", "key_of", defArgs (tp 4), defBody (tp 4), defScope (tp 4)⟩, ["value"], ["value"], none⟩
theorem bx_key_of : DxB x_key_of := fun _ _ _ _ _ _ us hl => match us, hl with | [_], _ => rfl
def x_middle : Dx := ⟨⟨("middle", none), "middle", "middle", defArgs (tp 7), defBody (tp 7), defScope (tp 7)⟩, ["given"], ["given"], some true⟩
theorem bx_middle : DxB x_middle := fun _ _ _ _ _ _ us hl => match us, hl with | [_], _ => rfl
def x_of_given : Dx := ⟨⟨("of_given", none), "of_given", "of_given", defArgs (tp 8), defBody (tp 8), defScope (tp 8)⟩, ["function", "given"], ["function", "given"], some true⟩
theorem bx_of_given : DxB x_of_given := fun _ _ _ _ _ _ us hl => match us, hl with | [_, _], _ => rfl
def x_aggregate : Dx := ⟨⟨("aggregate", none), "aggregate", "aggregate", defArgs (tp 9), defBody (tp 9), defScope (tp 9)⟩, ["function", "values", "given", "value"], ["function", "values"], some false⟩
theorem bx_aggregate : DxB x_aggregate := fun _ _ _ _ _ _ us hl => match us, hl with | [_, _], _ => rfl
def x_tiles : Dx := ⟨⟨("tiles", none), "tiles", "tiles", defArgs (tp 10), defBody (tp 10), defScope (tp 10)⟩, ["size", "count", "each", "more", "found", "tile"], ["size", "count"], none⟩
theorem bx_tiles : DxB x_tiles := fun _ _ _ _ _ _ us hl => match us, hl with | [_, _], _ => rfl
def x__law_is_integer : Dx := ⟨⟨("_law_is_integer", none), "_law_is_integer", "_law_is_integer", defArgs (tp 12), defBody (tp 12), defScope (tp 12)⟩, ["_law_actual"], ["_law_actual"], none⟩
theorem bx__law_is_integer : DxB x__law_is_integer := fun _ _ _ _ _ _ us hl => match us, hl with | [_], _ => rfl
def x__law_cell : Dx := ⟨⟨("_law_cell", none), "_law_cell", "_law_cell", defArgs (tp 13), defBody (tp 13), defScope (tp 13)⟩, ["_law_script", "_law_k"], ["_law_script", "_law_k"], none⟩
theorem bx__law_cell : DxB x__law_cell := fun _ _ _ _ _ _ us hl => match us, hl with | [_, _], _ => rfl
def x__law_list_is : Dx := ⟨⟨("_law_list_is", none), "_law_list_is", "_law_list_is", defArgs (tp 14), defBody (tp 14), defScope (tp 14)⟩, ["_law_actual", "_law_due"], ["_law_actual", "_law_due"], none⟩
theorem bx__law_list_is : DxB x__law_list_is := fun _ _ _ _ _ _ us hl => match us, hl with | [_, _], _ => rfl
def x__law_same : Dx := ⟨⟨("_law_same", none), "_law_same", "_law_same", defArgs (tp 15), defBody (tp 15), defScope (tp 15)⟩, ["_law_actual", "_law_due"], ["_law_actual", "_law_due"], none⟩
theorem bx__law_same : DxB x__law_same := fun _ _ _ _ _ _ us hl => match us, hl with | [_, _], _ => rfl
def x__law_digits : Dx := ⟨⟨("_law_digits", none), "_law_digits", "_law_digits", defArgs (tp 16), defBody (tp 16), defScope (tp 16)⟩, ["_law_script", "_law_first", "_law_last", "_law_digits_here", "_law_k", "_law_cell_here", "_law_turn", "_law_seed"], ["_law_script", "_law_first", "_law_last"], none⟩
theorem bx__law_digits : DxB x__law_digits := fun _ _ _ _ _ _ us hl => match us, hl with | [_, _, _], _ => rfl
def x__law_draw : Dx := ⟨⟨("_law_draw", none), "_law_draw", "_law_draw", defArgs (tp 17), defBody (tp 17), defScope (tp 17)⟩, ["_law_box", "_law_many", "_law_at"], ["_law_box", "_law_many"], none⟩
theorem bx__law_draw : DxB x__law_draw := fun _ _ _ _ _ _ us hl => match us, hl with | [_, _], _ => rfl
def x__law_value : Dx := ⟨⟨("_law_value", none), "_law_value", "_law_value", defArgs (tp 18), defBody (tp 18), defScope (tp 18)⟩, ["_law_box", "_law_kind", "_law_draw_here"], ["_law_box", "_law_kind"], none⟩
theorem bx__law_value : DxB x__law_value := fun _ _ _ _ _ _ us hl => match us, hl with | [_, _], _ => rfl
def x__law_columns : Dx := ⟨⟨("_law_columns", none), "_law_columns", "_law_columns", defArgs (tp 19), defBody (tp 19), defScope (tp 19)⟩, ["_law_box", "_law_found", "_law_name"], ["_law_box"], none⟩
theorem bx__law_columns : DxB x__law_columns := fun _ _ _ _ _ _ us hl => match us, hl with | [_], _ => rfl
def x__law_rows : Dx := ⟨⟨("_law_rows", none), "_law_rows", "_law_rows", defArgs (tp 20), defBody (tp 20), defScope (tp 20)⟩, ["_law_box", "_law_columns_here", "_law_most", "_law_found", "_law_number", "_law_k", "_law_name", "_law_kind"], ["_law_box", "_law_columns_here", "_law_most"], none⟩
theorem bx__law_rows : DxB x__law_rows := fun _ _ _ _ _ _ us hl => match us, hl with | [_, _, _], _ => rfl
def x__law_rank : Dx := ⟨⟨("_law_rank", none), "_law_rank", "_law_rank", defArgs (tp 21), defBody (tp 21), defScope (tp 21)⟩, ["_law_value_here"], ["_law_value_here"], none⟩
theorem bx__law_rank : DxB x__law_rank := fun _ _ _ _ _ _ us hl => match us, hl with | [_], _ => rfl
def x__law_aggregate : Dx := ⟨⟨("_law_aggregate", none), "_law_aggregate", "_law_aggregate", defArgs (tp 22), defBody (tp 22), defScope (tp 22)⟩, ["_law_function", "_law_values", "_law_given", "_law_rows_here", "_law_value_here", "_law_k"], ["_law_function", "_law_values"], none⟩
theorem bx__law_aggregate : DxB x__law_aggregate := fun _ _ _ _ _ _ us hl => match us, hl with | [_, _], _ => rfl
def x__law_told : Dx := ⟨⟨("_law_told", none), "_law_told", "_law_told", defArgs (tp 23), defBody (tp 23), defScope (tp 23)⟩, ["_law_function", "_law_values", "e"], ["_law_function", "_law_values"], none⟩
theorem bx__law_told : DxB x__law_told := fun _ _ _ _ _ _ us hl => match us, hl with | [_, _], _ => rfl
def x_law : Dx := ⟨⟨("law", none), "law", "law", defArgs (tp 24), defBody (tp 24), defScope (tp 24)⟩, ["_law_script", "_law_box", "_law_words", "_law_turn", "_law_size", "_law_count", "_law_due", "_law_k", "_law_kind", "_law_values", "_law_function", "_law_texts", "_law_kept", "_law_value_here"], ["_law_script"], none⟩
theorem bx_law : DxB x_law := fun _ _ _ _ _ _ us hl => match us, hl with | [_], _ => rfl
def dx : List Dx := [x_key_of, x_middle, x_of_given, x_aggregate, x_tiles, x__law_is_integer, x__law_cell, x__law_list_is, x__law_same, x__law_digits, x__law_draw, x__law_value, x__law_columns, x__law_rows, x__law_rank, x__law_aggregate, x__law_told, x_law]
theorem bdx : ∀ x ∈ dx, DxB x := by
  unfold dx
  simp only [List.forall_mem_cons]
  exact ⟨bx_key_of, bx_middle, bx_of_given, bx_aggregate, bx_tiles, bx__law_is_integer, bx__law_cell, bx__law_list_is, bx__law_same, bx__law_digits, bx__law_draw, bx__law_value, bx__law_columns, bx__law_rows, bx__law_rank, bx__law_aggregate, bx__law_told, bx_law, fun _ h => nomatch h⟩
def xn : List Str := ["TableError", "BadArgument"]
theorem kx_key_of : dxC (mkT (dx.map (·.d.at_)) xn prog) x_key_of c_key_of = true := by decide +kernel
theorem kx_middle : dxC (mkT (dx.map (·.d.at_)) xn prog) x_middle c_middle = true := by decide +kernel
theorem kx_of_given : dxC (mkT (dx.map (·.d.at_)) xn prog) x_of_given c_of_given = true := by decide +kernel
theorem kx_aggregate : dxC (mkT (dx.map (·.d.at_)) xn prog) x_aggregate c_aggregate = true := by decide +kernel
theorem kx_tiles : dxC (mkT (dx.map (·.d.at_)) xn prog) x_tiles c_tiles = true := by decide +kernel
theorem kx__law_is_integer : dxC (mkT (dx.map (·.d.at_)) xn prog) x__law_is_integer c__law_is_integer = true := by decide +kernel
theorem kx__law_cell : dxC (mkT (dx.map (·.d.at_)) xn prog) x__law_cell c__law_cell = true := by decide +kernel
theorem kx__law_list_is : dxC (mkT (dx.map (·.d.at_)) xn prog) x__law_list_is c__law_list_is = true := by decide +kernel
theorem kx__law_same : dxC (mkT (dx.map (·.d.at_)) xn prog) x__law_same c__law_same = true := by decide +kernel
theorem kx__law_digits : dxC (mkT (dx.map (·.d.at_)) xn prog) x__law_digits c__law_digits = true := by decide +kernel
theorem kx__law_draw : dxC (mkT (dx.map (·.d.at_)) xn prog) x__law_draw c__law_draw = true := by decide +kernel
theorem kx__law_value : dxC (mkT (dx.map (·.d.at_)) xn prog) x__law_value c__law_value = true := by decide +kernel
theorem kx__law_columns : dxC (mkT (dx.map (·.d.at_)) xn prog) x__law_columns c__law_columns = true := by decide +kernel
theorem kx__law_rows : dxC (mkT (dx.map (·.d.at_)) xn prog) x__law_rows c__law_rows = true := by decide +kernel
theorem kx__law_rank : dxC (mkT (dx.map (·.d.at_)) xn prog) x__law_rank c__law_rank = true := by decide +kernel
theorem kx__law_aggregate : dxC (mkT (dx.map (·.d.at_)) xn prog) x__law_aggregate c__law_aggregate = true := by decide +kernel
theorem kx__law_told : dxC (mkT (dx.map (·.d.at_)) xn prog) x__law_told c__law_told = true := by decide +kernel
theorem kx_law : dxC (mkT (dx.map (·.d.at_)) xn prog) x_law c_law = true := by decide +kernel
theorem kdx : (dx.zip prog.fns).all (fun p => dxC (mkT (dx.map (·.d.at_)) xn prog) p.1 p.2) = true := by
  unfold dx prog
  simp only [List.zip_cons_cons, List.zip_nil_left, List.all_cons, List.all_nil, Bool.and_true, Bool.and_eq_true]
  exact ⟨kx_key_of, kx_middle, kx_of_given, kx_aggregate, kx_tiles, kx__law_is_integer, kx__law_cell, kx__law_list_is, kx__law_same, kx__law_digits, kx__law_draw, kx__law_value, kx__law_columns, kx__law_rows, kx__law_rank, kx__law_aggregate, kx__law_told, kx_law⟩
def loose : List Str := ["TableError", "BadArgument", "key_of", "AGGREGATES", "middle", "of_given", "aggregate", "tiles", "_law_is_integer", "_law_cell", "_law_list_is", "_law_same", "_law_digits", "_law_draw", "_law_value", "_law_columns", "_law_rows", "_law_rank", "_law_aggregate", "_law_told"]
abbrev Rw : PySem.W.OpenRow := PySem.W.OpenLaw.row PySem.Challenge.rw_windowtable_k08_functions_exact
theorem top (w : World) : HandSHeadRun.RunEq Rw (PySem.W.view Rw.prog [24]) (hookX 5 dx xn prog) (fun s => obX 5 dx xn prog (HandSHeadRun.getT s)) 6000 loose w := by
  intro os
  kernel_rfl
end K08
set_option Elab.async false
set_option maxRecDepth 100000
set_option maxHeartbeats 1000000
set_option linter.all false
namespace K08
open PySem L2 DI
theorem srcOk_n (S : Store) (xs : List D) : srcOk S none xs = true := rfl
/-- the inner loop: sixty at most -/
theorem dig1 (n : Nat) (script : D) (G : List Int) (hG : G.length ≤ 4000) (c : Int) (m : Nat) (hm : m ≤ 60) (a1 a2 a4 a7 : Sl) (S : Store) :
    ∃ (G' : List Int) (c' : Int), G'.length ≤ G.length + m ∧ forL (fun d ρ S => RS.opt (bindP (.nm 6) d ρ) fun ρ => exB (DI.run prog n) c__law_digits_1 ρ S) (rngN 0 m 1, none) (rngN 0 m 1) [.val script, a1, a2, .own (.lst (G.map .int)), a4, .val (.int c), .un, a7] S = .nx [.val script, a1, a2, .own (.lst (G'.map .int)), a4, .val (.int c'), .un, a7] S := by
  have := for_inv (f := fun d ρ S => RS.opt (bindP (.nm 6) d ρ) fun ρ => exB (DI.run prog n) c__law_digits_1 ρ S) (xs := rngN 0 m 1) (ρ := [.val script, a1, a2, .own (.lst (G.map .int)), a4, .val (.int c), .un, a7]) (S := S)
    (fun i ρ S' => S' = S ∧ ∃ (G' : List Int) (c' : Int), G'.length ≤ G.length + i ∧ ρ = [.val script, a1, a2, .own (.lst (G'.map .int)), a4, .val (.int c'), .un, a7]) ⟨rfl, G, c, by omega, rfl⟩ ?_
  · obtain ⟨ρ', S', e, rfl, G', c', h1, rfl⟩ := this
    exact ⟨G', c', by simpa [rngN_len] using h1, e⟩
  · rintro i d ρ S' hi ⟨rfl, G', c', h1, rfl⟩
    obtain ⟨hi, rfl⟩ := rngN_at hi
    by_cases hc : 0 < c'
    · refine ⟨_, _, ?_, rfl, G' ++ [c' % 1000], c' / 1000, by simp; omega, rfl⟩
      have : G'.length < lim := by unfold lim; omega
      simp [bindP, c__law_digits_1, exB, exS, ev, evs, evT, bw, own?, view, cmpD, biD, binD, seqD, truth, ownAt, isLst, bmM, kill, hc, this]
    · refine ⟨_, _, ?_, rfl, G', c', by omega, rfl⟩
      simp [bindP, c__law_digits_1, exB, exS, ev, evs, evT, bw, own?, view, cmpD, biD, binD, seqD, truth, ownAt, isLst, bmM, kill, hc]
theorem dig2 (n : Nat) (script : D) (G : List Int) (hG : G.length ≤ 4000) (c : Int) (m : Nat) (hm : m ≤ 60) (a1 a2 a4 a5 : Sl) (S : Store) :
    ∃ (G' : List Int) (c' : Int), G'.length ≤ G.length + m ∧ forL (fun d ρ S => RS.opt (bindP (.nm 6) d ρ) fun ρ => exB (DI.run prog n) c__law_digits_2 ρ S) (rngN 0 m 1, none) (rngN 0 m 1) [.val script, a1, a2, .own (.lst (G.map .int)), a4, a5, .un, .val (.int c)] S = .nx [.val script, a1, a2, .own (.lst (G'.map .int)), a4, a5, .un, .val (.int c')] S := by
  have := for_inv (f := fun d ρ S => RS.opt (bindP (.nm 6) d ρ) fun ρ => exB (DI.run prog n) c__law_digits_2 ρ S) (xs := rngN 0 m 1) (ρ := [.val script, a1, a2, .own (.lst (G.map .int)), a4, a5, .un, .val (.int c)]) (S := S)
    (fun i ρ S' => S' = S ∧ ∃ (G' : List Int) (c' : Int), G'.length ≤ G.length + i ∧ ρ = [.val script, a1, a2, .own (.lst (G'.map .int)), a4, a5, .un, .val (.int c')]) ⟨rfl, G, c, by omega, rfl⟩ ?_
  · obtain ⟨ρ', S', e, rfl, G', c', h1, rfl⟩ := this
    exact ⟨G', c', by simpa [rngN_len] using h1, e⟩
  · rintro i d ρ S' hi ⟨rfl, G', c', h1, rfl⟩
    obtain ⟨hi, rfl⟩ := rngN_at hi
    refine ⟨_, _, ?_, rfl, G' ++ [((c' * 16807 + 7 * (0 + i * 1) + 1) % 2147483647) / 997 % 1000], (c' * 16807 + 7 * (0 + i * 1) + 1) % 2147483647, by simp; omega, rfl⟩
    have : G'.length < lim := by unfold lim; omega
    simp [bindP, c__law_digits_2, exB, exS, ev, evs, evT, bw, own?, view, cmpD, biD, binD, seqD, truth, ownAt, isLst, bmM, kill, two64, this]
theorem cell_ok (n : Nat) (L : List Int) (k : Int) (hk : 0 ≤ k) (S : Store) : ∃ v : Int, (DI.run prog (n + 1)).fn 6 [.ro (L.map .int), .int k] S = .ok (.int v) S := by
  rw [fn_at (F := c__law_cell) rfl]
  simp only [runFn, c__law_cell, exB, exS, ev, evT, bw, own?, st0, view, cmpD, biD, seqD, truth]
  by_cases h : k < L.length
  · obtain ⟨v, e⟩ := atI_int hk h
    refine ⟨v, ?_⟩
    simp [h, e, idxD, isoR, nob, nobs, nobs_ints]
  · refine ⟨0, ?_⟩
    simp [h, isoR, nob, nobs, nobs_ints]
def t3 : Bl := (.cons (.ifs (.val (.cmp .ge (.var 5) (.bin .pow (.cst (.int 10)) (.cst (.int 18))))) (.cons (.kil [1, 2, 4]) (.cons (.loop (.nm 6) (.rng (.cons (.cst (.int 60)) .nil)) c__law_digits_1) .nil)) (.cons (.set (.nm 7) (.bin .mod (.bi .int (.bin .add (.bin .add (.bin .mul (.var 5) (.cst (.int 48271))) (.bin .mul (.var 4) (.cst (.int 69621)))) (.cst (.int 11)))) (.cst (.int 2147483647)))) (.cons (.kil [1, 2, 4, 5, 6]) (.cons (.loop (.nm 6) (.rng (.cons (.cst (.int 12)) .nil)) c__law_digits_2) .nil)))) (.cons (.kil [4, 5, 6, 7]) .nil))
theorem c3 : c__law_digits_3 = .cons (.set (.nm 5) (.call 6 (.cons (.var 0) (.cons (.var 4) .nil)))) (.cons (.ifs (.val (.cmp .lt (.var 5) (.cst (.int 0)))) (.cons (.set (.nm 5) (.bin .sub (.cst (.int 1)) (.bin .mul (.cst (.int 2)) (.var 5)))) .nil) .nil) t3) := rfl
/-- one cell -/
theorem dig3a (n : Nat) (L G : List Int) (hG : G.length ≤ 4000) (k : Int) (c : Int) (S : Store) (b1 b2 : Sl) :
    ∃ (G' : List Int), G'.length ≤ G.length + 60 ∧ exB (DI.run prog n) t3 [.val (.ro (L.map .int)), b1, b2, .own (.lst (G.map .int)), .val (.int k), .val (.int c), .un, .un] S = .nx [.val (.ro (L.map .int)), .un, .un, .own (.lst (G'.map .int)), .un, .un, .un, .un] S := by
  by_cases hc : (1000000000000000000 : Int) ≤ c
  · obtain ⟨G', c', h1, e⟩ := dig1 n (.ro (L.map .int)) G (by omega) c 60 (by omega) .un .un .un .un S
    refine ⟨G', h1, ?_⟩
    simp only [bindP] at e
    simp [t3, bindP, exB, exS, ev, evs, evT, evI, bw, own?, view, cmpD, biD, binD, seqD, truth, kill, two64, hc, rngD, small62, two62, srcOwn, e]
  · obtain ⟨G', c', h1, e⟩ := dig2 n (.ro (L.map .int)) G (by omega) ((c * 48271 + k * 69621 + 11) % 2147483647) 12 (by omega) .un .un .un .un S
    refine ⟨G', by omega, ?_⟩
    simp only [bindP] at e
    simp [t3, exB, exS, ev, evs, evT, evI, bw, own?, view, cmpD, biD, binD, seqD, truth, kill, two64, hc, rngD, small62, two62, srcOwn, bindP, e]
theorem dig3 (n : Nat) (L G : List Int) (hG : G.length ≤ 4000) (k : Int) (hk : 0 ≤ k) (S : Store) (b1 b2 : Sl) :
    ∃ (G' : List Int), G'.length ≤ G.length + 60 ∧ RS.opt (bindP (.nm 4) (.int k) [.val (.ro (L.map .int)), b1, b2, .own (.lst (G.map .int)), .un, .un, .un, .un]) (fun ρ => exB (DI.run prog (n + 1)) c__law_digits_3 ρ S) = .nx [.val (.ro (L.map .int)), .un, .un, .own (.lst (G'.map .int)), .un, .un, .un, .un] S := by
  obtain ⟨v, e⟩ := cell_ok n L k hk S
  by_cases hv : v < 0
  · obtain ⟨G', h1, e1⟩ := dig3a (n + 1) L G hG k (1 - 2 * v) S b1 b2
    refine ⟨G', h1, ?_⟩
    rw [← e1]
    simp [c3, bindP, exB, exS, ev, evs, evT, bw, own?, view, cmpD, binD, truth, hv, e, two64]
  · obtain ⟨G', h1, e1⟩ := dig3a (n + 1) L G hG k v S b1 b2
    refine ⟨G', h1, ?_⟩
    rw [← e1]
    simp [c3, bindP, exB, exS, ev, evs, evT, bw, own?, view, cmpD, binD, truth, hv, e, two64]
theorem digits_ok (n : Nat) (L : List Int) (S : Store) : ∃ G : List Int, G.length ≤ 4000 ∧ (DI.run prog (n + 2)).fn 9 [.ro (L.map .int), .int 0, .int 30] S = .ok (.lst (G.map .int)) S := by
  have := for_inv (f := fun d ρ S => RS.opt (bindP (.nm 4) d ρ) fun ρ => exB (DI.run prog (n + 1)) c__law_digits_3 ρ S) (xs := rngN 0 30 1) (ρ := [.val (.ro (L.map .int)), .val (.int 0), .val (.int 30), .own (.lst []), .un, .un, .un, .un]) (S := [])
    (fun i ρ S' => S' = [] ∧ ∃ (G' : List Int) (b1 b2 : Sl), G'.length ≤ i * 60 ∧ i ≤ 30 ∧ ρ = [.val (.ro (L.map .int)), b1, b2, .own (.lst (G'.map .int)), .un, .un, .un, .un]) ⟨rfl, [], .val (.int 0), .val (.int 30), by simp, by simp, rfl⟩ ?_
  · obtain ⟨ρ', S', e, rfl, G, b1, b2, h1, h2, rfl⟩ := this
    rw [rngN_len] at h1
    refine ⟨G, by omega, ?_⟩
    rw [fn_at (F := c__law_digits) rfl]
    simp only [runFn, c__law_digits, w__law_digits_3, exB, exS, ev, evs, evI, st0]
    simp [obOf, rngD, small62, two62, srcOwn, nobs, nobs_ints, nob, lim, e, ownAt, Ob.toD, isoR]
  · rintro i d ρ S' hi ⟨rfl, G', b1, b2, h1, h2, rfl⟩
    obtain ⟨hi, rfl⟩ := rngN_at hi
    obtain ⟨G2, h3, e⟩ := dig3 n L G' (by omega) (0 + (i : Nat) * 1) (by omega) [] b1 b2
    exact ⟨_, _, e, rfl, G2, .un, .un, by omega, by omega, rfl⟩
def bx (G : List Int) (a : Int) : Store := [.lst [.lst (G.map .int), .int a]]
theorem idx0 (x y : D) : idxD (.lst [x, y]) (.int 0) = some x := rfl
theorem idx1 (x y : D) : idxD (.lst [x, y]) (.int 1) = some y := rfl
theorem sub1 (x y e : D) : subM (.lst [x, y]) (.int 1) e = some (.lst [x, e]) := rfl
theorem idxL (L : List Int) (k : Int) : idxD (.lst (L.map .int)) (.int k) = atI (L.map .int) k := rfl
theorem draw_ok (n : Nat) (G : List Int) (a m : Int) (ha : 0 ≤ a) (hm : 0 < m) : ∃ v : Int, 0 ≤ v ∧ v < m ∧ (DI.run prog (n + 1)).fn 10 [.obj 0, .int m] (bx G a) = .ok (.int v) (bx G (a + 1)) := by
  rw [fn_at (F := c__law_draw) rfl]
  simp only [runFn, c__law_draw, bx]
  by_cases h : a < G.length
  · obtain ⟨v, e⟩ := atI_int ha h
    refine ⟨v % m, Int.emod_nonneg _ (by omega), Int.emod_lt_of_pos _ hm, ?_⟩
    simp [exB, exS, ev, evs, evT, bw, own?, st0, view, cmpD, biD, binD, seqD, truth, idx0, idx1, sub1, idxL, bindP, e, h, hm]
  · refine ⟨(a * 7 + 3) % m, Int.emod_nonneg _ (by omega), Int.emod_lt_of_pos _ hm, ?_⟩
    simp [exB, exS, ev, evs, evT, bw, own?, st0, view, cmpD, biD, binD, seqD, truth, idx0, idx1, sub1, bindP, h, hm, two64]
theorem draw_ok' (N : Nat) (hN : 1 ≤ N) (G : List Int) (a m : Int) (ha : 0 ≤ a) (hm : 0 < m) : ∃ v : Int, 0 ≤ v ∧ v < m ∧ (DI.run prog N).fn 10 [.obj 0, .int m] (bx G a) = .ok (.int v) (bx G (a + 1)) := by
  obtain ⟨n, rfl⟩ : ∃ n, N = n + 1 := ⟨N - 1, by omega⟩
  exact draw_ok n G a m ha hm
end K08
set_option Elab.async false
set_option maxRecDepth 100000
set_option maxHeartbeats 1000000
set_option linter.all false
namespace K08
open PySem L2 DI
def wd : Fin 9 → Str := fun i => (["size", "count", "different", "sum", "least", "greatest", "median", "first", "last"] : List Str).getD i.val ""
theorem g0 (n : Nat) : (DI.run prog n).gl 0 = some (.tup [.str "size", .str "count", .str "different", .str "sum", .str "least", .str "greatest", .str "median", .str "first", .str "last"]) := by rw [run_gl]; rfl
theorem nbl1 {d : D} (h : Vl d) : nobs [d] = true := by simp [nobs, h.nob]
theorem isn {d : D} (h : Vl d) : cmpD .is d .non = some (.bl (decide (d = .non))) := by cases h <;> simp [cmpD, isD]
theorem isnt {d : D} (h : Vl d) : cmpD .isnot d .non = some (.bl (!decide (d = .non))) := by cases h <;> simp [cmpD, isD]
def isS : D → Bool
  | .str _ => true
  | _ => false
theorem tyS {d : D} (h : Vl d) : tyD d .str = some (isS d) := by cases h <;> rfl
theorem key_of_ok (n : Nat) {d : D} (h : Vl d) (S : Store) : (DI.run prog (n + 1)).fn 0 [d] S = .ok (keyV d) S := by
  rw [fn_at (F := c_key_of) rfl, runFn_iso rfl rfl (nbl1 h)]
  have e := isn h
  have t := tyS h
  have v := h.view
  have nk := keyV_nob h
  cases h with
  | non => simp [exB, exS, ev, evs, evT, evTA, evTO, evAnd, evOr, bw, vw0, vw1, vw2, vw3, vw4, vw5, vw7, truth, bindP, bindNs, isoR, lim, kill, ownAt, isLst, isDic, obOf, Ob.toD, c_key_of, st0, e, keyV, nob, nobs]
  | int i hi => simp [exB, exS, ev, evs, evT, evTA, evTO, evAnd, evOr, bw, vw0, vw1, vw2, vw3, vw4, vw5, vw7, truth, bindP, bindNs, isoR, lim, kill, ownAt, isLst, isDic, obOf, Ob.toD, c_key_of, st0, e, t, keyV, isS, nob, nobs]
  | str x hx l => simp [exB, exS, ev, evs, evT, evTA, evTO, evAnd, evOr, bw, vw0, vw1, vw2, vw3, vw4, vw5, vw7, truth, bindP, bindNs, isoR, lim, kill, ownAt, isLst, isDic, obOf, Ob.toD, c_key_of, st0, e, t, keyV, isS, nob, nobs]
theorem rank_ok (n : Nat) {d : D} (h : Vl d) (S : Store) : (DI.run prog (n + 1)).fn 14 [d] S = .ok (keyV d) S := by
  rw [fn_at (F := c__law_rank) rfl, runFn_iso rfl rfl (nbl1 h)]
  have e := isn h
  have t := tyS h
  have v := h.view
  have nk := keyV_nob h
  cases h with
  | non => simp [exB, exS, ev, evs, evT, evTA, evTO, evAnd, evOr, bw, vw0, vw1, vw2, vw3, vw4, vw5, vw7, truth, bindP, bindNs, isoR, lim, kill, ownAt, isLst, isDic, obOf, Ob.toD, c__law_rank, st0, e, keyV, nob, nobs]
  | int i hi => simp [exB, exS, ev, evs, evT, evTA, evTO, evAnd, evOr, bw, vw0, vw1, vw2, vw3, vw4, vw5, vw7, truth, bindP, bindNs, isoR, lim, kill, ownAt, isLst, isDic, obOf, Ob.toD, c__law_rank, st0, e, t, keyV, isS, nob, nobs]
  | str x hx l => simp [exB, exS, ev, evs, evT, evTA, evTO, evAnd, evOr, bw, vw0, vw1, vw2, vw3, vw4, vw5, vw7, truth, bindP, bindNs, isoR, lim, kill, ownAt, isLst, isDic, obOf, Ob.toD, c__law_rank, st0, e, t, keyV, isS, nob, nobs]
theorem nobs_vl : ∀ {l : List D}, (∀ d ∈ l, Vl d) → nobs l = true
  | [], _ => rfl
  | d :: r, h => by
    have : nobs (d :: r) = (nob d && nobs r) := rfl
    rw [this, (h d List.mem_cons_self).nob, nobs_vl fun x hx => h x (List.mem_cons_of_mem _ hx)]; rfl
/-- the median's place -/
theorem mid_idx {l : List D} {m : D} (h : l[(l.length - 1) / 2]? = some m) : idxD (.lst l) (.int (((l.length : Int) - 1) / 2)) = some m := by
  have hl := (List.getElem?_eq_some_iff.1 h).1
  have e : (((l.length : Int) - 1) / 2) = (((l.length - 1) / 2 : Nat) : Int) := by omega
  rw [e]
  show atI l _ = _
  rw [atI_nn (by omega) (by omega), Int.toNat_natCast]
  exact h
theorem at_idx {l : List D} {m : D} {k : Nat} (h : l[k]? = some m) : idxD (.lst l) (.int (k : Int)) = some m := by
  have hl := (List.getElem?_eq_some_iff.1 h).1
  show atI l _ = _
  rw [atI_nn (by omega) (by omega), Int.toNat_natCast]
  exact h
theorem middle_ok (n : Nat) {l : List D} (hv : ∀ d ∈ l, Vl d) (h0 : l ≠ []) (hl : l.length ≤ 1000) (S : Store) : ∃ m, (srtV l)[(l.length - 1) / 2]? = some m ∧ (DI.run prog (n + 2)).fn 1 [.lst l] S = .ok m S := by
  have len := srtV_len l
  have pos : 0 < l.length := List.length_pos_iff.mpr h0
  have hi : (l.length - 1) / 2 < (srtV l).length := by omega
  refine ⟨_, List.getElem?_eq_getElem hi, ?_⟩
  have nb : nobs [.lst l] = true := by
    show (nobs l && true) = true
    rw [nobs_vl hv]; rfl
  rw [fn_at (F := c_middle) rfl, runFn_iso rfl rfl nb]
  have e1 : ev (DI.run prog (n + 1)) w_middle_1 [.val (.lst l)] [] = .ok (.lst (srtV l)) [] := by
    refine ev_byl (by simp [exB, exS, ev, evs, evT, evTA, evTO, evAnd, evOr, bw, vw0, vw1, vw2, vw3, vw4, vw5, vw7, truth, bindP, bindNs, isoR, lim, kill, ownAt, isLst, isDic, obOf, Ob.toD]) hv hl fun d hd => ?_
    have := key_of_ok n (hv d hd) []
    simp [exB, exS, ev, evs, evT, evTA, evTO, evAnd, evOr, bw, vw0, vw1, vw2, vw3, vw4, vw5, vw7, truth, bindP, bindNs, isoR, lim, kill, ownAt, isLst, isDic, obOf, Ob.toD, c_middle_1, lamE, this]
  have mv := srtV_vl hv _ (List.getElem_mem hi)
  have ei : idxD (.lst (srtV l)) (.int (((l.length : Int) - 1) / 2)) = some (srtV l)[(l.length - 1) / 2] := by
    have := mid_idx (l := srtV l) (m := (srtV l)[(l.length - 1) / 2]) (by rw [List.getElem?_eq_getElem (by omega)]; congr 1; simp [len])
    rw [len] at this
    exact this
  have b1 : binD .sub (.int (l.length : Int)) (.int 1) = some (.int ((l.length : Int) - 1)) := rfl
  have b2 : binD .fdiv (.int ((l.length : Int) - 1)) (.int 2) = some (.int (((l.length : Int) - 1) / 2)) := rfl
  have wv := mv.view
  have nv := mv.nob
  generalize (srtV l)[(l.length - 1) / 2] = m at ei wv nv
  generalize srtV l = sl at e1 ei
  simp [exB, exS, ev, evs, evT, evTA, evTO, evAnd, evOr, bw, vw0, vw1, vw2, vw3, vw4, vw5, vw7, truth, bindP, bindNs, isoR, lim, kill, ownAt, isLst, isDic, obOf, Ob.toD, c_middle, st0, e1, lenl, b1, b2, ei, nv]
/-! ### what the nine functions tell -/
def given (l : List D) : List D := l.filter fun d => decide (d ≠ .non)
theorem given_vl {l : List D} (h : ∀ d ∈ l, Vl d) : ∀ d ∈ given l, Vl d ∧ d ≠ .non := fun d hd => by
  obtain ⟨h1, h2⟩ := List.mem_filter.mp hd
  exact ⟨h d h1, by simpa using h2⟩
def sumV : List D → Int
  | [] => 0
  | .int i :: r => i + sumV r
  | _ :: r => sumV r
def aggV (i : Fin 9) (l : List D) : D :=
  if i = 0 then .int l.length else if i = 7 then (l[0]?).getD .non else if i = 8 then (l[l.length - 1]?).getD .non
  else if i = 1 then .int (given l).length else if i = 2 then .int (unlike (given l)) else if given l = [] then .non
  else if i = 3 then .int (sumV (given l)) else if i = 4 then ((srtV (given l))[0]?).getD .non else if i = 5 then ((srtV (given l))[(given l).length - 1]?).getD .non
  else ((srtV (given l))[((given l).length - 1) / 2]?).getD .non
theorem q_sum : ∀ i : Fin 9, cmpD .eq (.str (wd i)) (.str "sum") = some (.bl (decide (i = 3))) := by decide +kernel
theorem q_least : ∀ i : Fin 9, cmpD .eq (.str (wd i)) (.str "least") = some (.bl (decide (i = 4))) := by decide +kernel
theorem q_great : ∀ i : Fin 9, cmpD .eq (.str (wd i)) (.str "greatest") = some (.bl (decide (i = 5))) := by decide +kernel
theorem q_size : ∀ i : Fin 9, cmpD .eq (.str (wd i)) (.str "size") = some (.bl (decide (i = 0))) := by decide +kernel
theorem q_count : ∀ i : Fin 9, cmpD .eq (.str (wd i)) (.str "count") = some (.bl (decide (i = 1))) := by decide +kernel
theorem q_diff : ∀ i : Fin 9, cmpD .eq (.str (wd i)) (.str "different") = some (.bl (decide (i = 2))) := by decide +kernel
theorem q_first : ∀ i : Fin 9, cmpD .eq (.str (wd i)) (.str "first") = some (.bl (decide (i = 7))) := by decide +kernel
theorem q_fl : ∀ i : Fin 9, cmpD .isin (.str (wd i)) (.tup [.str "first", .str "last"]) = some (.bl (decide (i = 7 ∨ i = 8))) := by decide +kernel
theorem q_fn : ∀ i : Fin 9, cmpD .notin (.str (wd i)) (.tup [.str "first", .str "last"]) = some (.bl (!decide (i = 7 ∨ i = 8))) := by decide +kernel
theorem q_sm : ∀ i : Fin 9, cmpD .isin (.str (wd i)) (.tup [.str "sum", .str "median"]) = some (.bl (decide (i = 3 ∨ i = 6))) := by decide +kernel
theorem q_all : ∀ i : Fin 9, cmpD .notin (.str (wd i)) (.tup [.str "size", .str "count", .str "different", .str "sum", .str "least", .str "greatest", .str "median", .str "first", .str "last"]) = some (.bl false) := by decide +kernel
theorem wd_nob (i : Fin 9) : nob (.str (wd i)) = true := rfl
theorem ints_of : ∀ {l : List D}, (∀ d ∈ l, Vl d ∧ d ≠ .non) → (∀ d ∈ l, isS d = false) → ∃ ns, intsD l = some ns ∧ ns.sum = sumV l
  | [], _, _ => ⟨[], rfl, rfl⟩
  | d :: r, h, hs => by
    obtain ⟨ns, e1, e2⟩ := ints_of (fun x hx => h x (List.mem_cons_of_mem _ hx)) fun x hx => hs x (List.mem_cons_of_mem _ hx)
    obtain ⟨v, nn⟩ := h d List.mem_cons_self
    have hs := hs d List.mem_cons_self
    cases v with
    | non => exact absurd rfl nn
    | int i hi => exact ⟨i :: ns, by unfold intsD; rw [e1]; rfl, by rw [List.sum_cons, e2]; rfl⟩
    | str x hx lx => cases hs
theorem of_given_ok (n : Nat) (i : Fin 9) (hi : i = 3 ∨ i = 4 ∨ i = 5 ∨ i = 6) {l : List D} (hv : ∀ d ∈ l, Vl d ∧ d ≠ .non) (h0 : l ≠ []) (hl : l.length ≤ 1000) (hs : i = 3 → ∀ d ∈ l, isS d = false) (S : Store) :
    (DI.run prog (n + 3)).fn 2 [.str (wd i), .lst l] S = .ok (if i = 3 then .int (sumV l) else if i = 4 then ((srtV l)[0]?).getD .non else if i = 5 then ((srtV l)[l.length - 1]?).getD .non else ((srtV l)[(l.length - 1) / 2]?).getD .non) S := by
  have hv' : ∀ d ∈ l, Vl d := fun d hd => (hv d hd).1
  have nb : nobs [.str (wd i), .lst l] = true := by
    show (true && (nobs l && true)) = true
    rw [nobs_vl hv']; rfl
  rw [fn_at (F := c_of_given) rfl, runFn_iso rfl rfl nb]
  have q1 := q_sum i
  have q2 := q_least i
  have q3 := q_great i
  have key : ∀ ρ : Ev, ∀ d ∈ l, ev (DI.run prog (n + 2)) c_of_given_1 (lamE ρ [] d) [] = .ok (keyV d) [] := fun ρ d hd => by
    have := key_of_ok (n + 1) (hv' d hd) []
    simp [exB, exS, ev, evs, evT, evTA, evTO, evAnd, evOr, bw, vw0, vw1, vw2, vw3, vw4, vw5, vw7, truth, bindP, bindNs, isoR, lim, kill, ownAt, isLst, isDic, obOf, Ob.toD, c_of_given_1, lamE, this]
  have key2 : ∀ ρ : Ev, ∀ d ∈ l, ev (DI.run prog (n + 2)) c_of_given_2 (lamE ρ [] d) [] = .ok (keyV d) [] := fun ρ d hd => by
    have := key_of_ok (n + 1) (hv' d hd) []
    simp [exB, exS, ev, evs, evT, evTA, evTO, evAnd, evOr, bw, vw0, vw1, vw2, vw3, vw4, vw5, vw7, truth, bindP, bindNs, isoR, lim, kill, ownAt, isLst, isDic, obOf, Ob.toD, c_of_given_2, lamE, this]
  obtain ⟨m1, f1, e1⟩ := ev_bmn (cl := DI.run prog (n + 2)) (a := .var 1) (b := c_of_given_1) (js := []) (ρ := [.val (.str (wd i)), .val (.lst l)]) (S := []) (by simp [exB, exS, ev, evs, evT, evTA, evTO, evAnd, evOr, bw, vw0, vw1, vw2, vw3, vw4, vw5, vw7, truth, bindP, bindNs, isoR, lim, kill, ownAt, isLst, isDic, obOf, Ob.toD]) hv' h0 hl (key _)
  obtain ⟨m2, f2, e2⟩ := ev_bmx (cl := DI.run prog (n + 2)) (a := .var 1) (b := c_of_given_2) (js := []) (ρ := [.val (.str (wd i)), .val (.lst l)]) (S := []) (by simp [exB, exS, ev, evs, evT, evTA, evTO, evAnd, evOr, bw, vw0, vw1, vw2, vw3, vw4, vw5, vw7, truth, bindP, bindNs, isoR, lim, kill, ownAt, isLst, isDic, obOf, Ob.toD]) hv' h0 hl (key2 _)
  obtain ⟨m3, f3, e3⟩ := middle_ok n hv' h0 hl []
  have v1 := srtV_vl hv' _ (List.mem_of_getElem? f1)
  have v2 := srtV_vl hv' _ (List.mem_of_getElem? f2)
  have v3 := srtV_vl hv' _ (List.mem_of_getElem? f3)
  have w1 : ev (DI.run prog (n + 2)) w_of_given_1 [.val (.str (wd i)), .val (.lst l)] [] = .ok m1 [] := e1
  have w2 : ev (DI.run prog (n + 2)) w_of_given_2 [.val (.str (wd i)), .val (.lst l)] [] = .ok m2 [] := e2
  rw [f1, f2, f3]
  have n1 := v1.nob
  have n2 := v2.nob
  have n3 := v3.nob
  rcases hi with rfl | rfl | rfl | rfl
  · obtain ⟨ns, i1, i2⟩ := ints_of hv (hs rfl)
    have b : biD .sum (.lst l) = some (.int (sumV l)) := by
      show (intsD l).map _ = _
      rw [i1, ← i2]; rfl
    simp [exB, exS, ev, evs, evT, evTA, evTO, evAnd, evOr, bw, vw0, vw1, vw2, vw3, vw4, vw5, vw7, truth, bindP, bindNs, isoR, lim, kill, ownAt, isLst, isDic, obOf, Ob.toD, c_of_given, st0, q1, b, nob]
  · simp [exB, exS, ev, evs, evT, evTA, evTO, evAnd, evOr, bw, vw0, vw1, vw2, vw3, vw4, vw5, vw7, truth, bindP, bindNs, isoR, lim, kill, ownAt, isLst, isDic, obOf, Ob.toD, c_of_given, st0, q1, q2, w1, n1]
  · simp [exB, exS, ev, evs, evT, evTA, evTO, evAnd, evOr, bw, vw0, vw1, vw2, vw3, vw4, vw5, vw7, truth, bindP, bindNs, isoR, lim, kill, ownAt, isLst, isDic, obOf, Ob.toD, c_of_given, st0, q1, q2, q3, w2, n2]
  · simp [exB, exS, ev, evs, evT, evTA, evTO, evAnd, evOr, bw, vw0, vw1, vw2, vw3, vw4, vw5, vw7, truth, bindP, bindNs, isoR, lim, kill, ownAt, isLst, isDic, obOf, Ob.toD, c_of_given, st0, q1, q2, q3, e3, n3]
end K08
set_option Elab.async false
set_option maxRecDepth 100000
set_option maxHeartbeats 1000000
set_option linter.all false
namespace K08
open PySem L2 DI
theorem isiQ_vl {d : D} (h : Vl d) : isiQ d .str = some (isS d) := by cases h <;> rfl
theorem qL_map {f : D → Option D} {b : D → Bool} : ∀ {l : List D}, (∀ d ∈ l, f d = some (.bl (b d))) → qL f l = some (l.map b)
  | [], _ => rfl
  | d :: r, h => by
    unfold qL
    rw [h d List.mem_cons_self, qL_map fun x hx => h x (List.mem_cons_of_mem _ hx)]
    rfl
theorem any_ok (n : Nat) {l : List D} (hv : ∀ d ∈ l, Vl d) (a0 a2 a3 : Sl) (S : Store) : ev (DI.run prog n) w_aggregate_1 [a0, .val (.lst l), a2, a3] S = .ok (.bl (l.any isS)) S := by
  have q : qL (fun d => (bindP (.nm 3) d (kill (Pat.slots (.nm 3)) [a0, .val (.lst l), a2, a3])).bind fun ρ' => evQ (DI.run prog n) c_aggregate_1 ρ') l = some (l.map isS) := qL_map fun d hd => by
    have e := isiQ_vl (hv d hd)
    simp [bindP, kill, Pat.slots, c_aggregate_1, evQ, e]
  have eI : evI (DI.run prog n) (.of (.var 1)) [a0, .val (.lst l), a2, a3] S = .ok (l, none) S := by simp [exB, exS, ev, evs, evT, evTA, evTO, evAnd, evOr, bw, vw0, vw1, vw2, vw3, vw4, vw5, vw7, truth, bindP, bindNs, isoR, lim, kill, ownAt, isLst, isDic, obOf, Ob.toD, evI, ofD, walkD]
  unfold w_aggregate_1 ev
  rw [eI]
  simp only [R.bind_ok, q, Option.map_some, opt_some, List.any_map]
  rfl
theorem given_ok (n : Nat) {l : List D} (hv : ∀ d ∈ l, Vl d) (hl : l.length ≤ 60) (a0 a2 a3 : Sl) (S : Store) : ev (DI.run prog n) w_aggregate_2 [a0, .val (.lst l), a2, a3] S = .ok (.lst (given l)) S := by
  have := lcf_mp (fun d : D => d) (fun d => d) (fun d => decide (d ≠ .non)) l (DI.run prog n) c_aggregate_2 (.nm 3) (.of (.var 1)) c_aggregate_3 [a0, .val (.lst l), a2, a3] S S (by simp [exB, exS, ev, evs, evT, evTA, evTO, evAnd, evOr, bw, vw0, vw1, vw2, vw3, vw4, vw5, vw7, truth, bindP, bindNs, isoR, lim, kill, ownAt, isLst, isDic, obOf, Ob.toD, evI, ofD, walkD]) (by omega) (fun d hd => by
    have e := isnt (hv d hd)
    have v := (hv d hd).view
    refine ⟨[a0, .val (.lst l), a2, .val d], by simp [bindP, kill, Pat.slots], ?_, fun _ => by simp [exB, exS, ev, evs, evT, evTA, evTO, evAnd, evOr, bw, vw0, vw1, vw2, vw3, vw4, vw5, vw7, truth, bindP, bindNs, isoR, lim, kill, ownAt, isLst, isDic, obOf, Ob.toD, c_aggregate_2]⟩
    simp [exB, exS, ev, evs, evT, evTA, evTO, evAnd, evOr, bw, vw0, vw1, vw2, vw3, vw4, vw5, vw7, truth, bindP, bindNs, isoR, lim, kill, ownAt, isLst, isDic, obOf, Ob.toD, c_aggregate_3, e, v])
  rw [w_aggregate_2, this, List.map_id']
  rfl
theorem given_ok2 (n : Nat) {l : List D} (hv : ∀ d ∈ l, Vl d) (hl : l.length ≤ 60) (a0 a2 a3 a4 a5 : Sl) (S : Store) : ev (DI.run prog n) w__law_aggregate_1 [a0, .val (.lst l), a2, a3, a4, a5] S = .ok (.lst (given l)) S := by
  have := lcf_mp (fun d : D => d) (fun d => d) (fun d => decide (d ≠ .non)) l (DI.run prog n) c__law_aggregate_1 (.nm 4) (.of (.var 1)) c__law_aggregate_2 [a0, .val (.lst l), a2, a3, a4, a5] S S (by simp [exB, exS, ev, evs, evT, evTA, evTO, evAnd, evOr, bw, vw0, vw1, vw2, vw3, vw4, vw5, vw7, truth, bindP, bindNs, isoR, lim, kill, ownAt, isLst, isDic, obOf, Ob.toD, evI, ofD, walkD]) (by omega) (fun d hd => by
    have e := isnt (hv d hd)
    have v := (hv d hd).view
    refine ⟨[a0, .val (.lst l), a2, a3, .val d, a5], by simp [bindP, kill, Pat.slots], ?_, fun _ => by simp [exB, exS, ev, evs, evT, evTA, evTO, evAnd, evOr, bw, vw0, vw1, vw2, vw3, vw4, vw5, vw7, truth, bindP, bindNs, isoR, lim, kill, ownAt, isLst, isDic, obOf, Ob.toD, c__law_aggregate_1]⟩
    simp [exB, exS, ev, evs, evT, evTA, evTO, evAnd, evOr, bw, vw0, vw1, vw2, vw3, vw4, vw5, vw7, truth, bindP, bindNs, isoR, lim, kill, ownAt, isLst, isDic, obOf, Ob.toD, c__law_aggregate_2, e, v])
  rw [w__law_aggregate_1, this, List.map_id']
  rfl
theorem nob_get {l : List D} (hv : ∀ d ∈ l, Vl d) (k : Nat) : nob ((l[k]?).getD .non) = true ∧ ∀ S, view S ((l[k]?).getD .non) = (l[k]?).getD .non := by
  cases e : l[k]? with
  | none => exact ⟨rfl, fun _ => rfl⟩
  | some d =>
    have v := hv d (List.mem_of_getElem? e)
    exact ⟨v.nob, v.view⟩
theorem aggV_vl {i : Fin 9} {l : List D} (hv : ∀ d ∈ l, Vl d) : nob (aggV i l) = true ∧ ∀ S, view S (aggV i l) = aggV i l := by
  have hg : ∀ d ∈ srtV (given l), Vl d := srtV_vl fun d hd => (given_vl hv d hd).1
  unfold aggV
  repeat' split
  all_goals first | exact ⟨rfl, fun _ => rfl⟩ | exact nob_get hv _ | exact nob_get hg _
theorem i9 : ∀ i : Fin 9, i = 0 ∨ i = 1 ∨ i = 2 ∨ i = 3 ∨ i = 4 ∨ i = 5 ∨ i = 6 ∨ i = 7 ∨ i = 8 := by decide
theorem len0 (l : List D) : cmpD .eq (.int (l.length : Int)) (.int 0) = some (.bl (decide (l = []))) := by
  rw [eqi]
  congr 2
  cases l with
  | nil => rfl
  | cons a r => simp; omega
theorem lastI {l : List D} (h : l ≠ []) : idxD (.lst l) (.int (-1)) = some ((l[l.length - 1]?).getD .non) := by
  have pos : 0 < l.length := List.length_pos_iff.mpr h
  show atI l (-1) = _
  unfold atI ixN
  have e : l.length - 1 < l.length := by omega
  simp only [List.getElem?_eq_getElem e, Option.getD_some]
  rw [if_neg (by omega), if_pos (by omega)]
  simp only [Option.bind_some]
  have : ((-1 : Int) + l.length).toNat = l.length - 1 := by omega
  first | (rw [this]; exact List.getElem?_eq_getElem e) | (simp [this])
theorem firstI {l : List D} (h : l ≠ []) : idxD (.lst l) (.int 0) = some ((l[0]?).getD .non) := by
  cases l with
  | nil => exact absurd rfl h
  | cons a r => exact li0 a r
theorem aggregate_ok (n : Nat) (i : Fin 9) {l : List D} (hv : ∀ d ∈ l, Vl d) (hl : l.length ≤ 60) (hs : i = 3 ∨ i = 6 → l.any isS = false) (S : Store) : (DI.run prog (n + 4)).fn 3 [.str (wd i), .lst l] S = .ok (aggV i l) S := by
  have nb : nobs [.str (wd i), .lst l] = true := by
    show (true && (nobs l && true)) = true
    rw [nobs_vl hv]; rfl
  rw [fn_at (F := c_aggregate) rfl, runFn_iso rfl rfl nb]
  have g := g0 (n + 3)
  have q0 := q_all i
  have q1 := q_sm i
  have q2 := q_size i
  have q3 := q_fl i
  have q4 := q_first i
  have q5 := q_count i
  have q6 := q_diff i
  have a1 := any_ok (n + 3) hv (.val (.str (wd i))) .un .un []
  have gl := given_ok (n + 3) hv hl (.val (.str (wd i))) .un .un []
  have gv := given_vl hv
  have gll : (given l).length ≤ 60 := Nat.le_trans (List.length_filter_le _ _) hl
  have av := aggV_vl (i := i) hv
  have ls := lset_vl gv gll
  have e0 := len0 l
  have e1 := len0 (given l)
  have t1 : exS (DI.run prog (n + 3)) (.ifs (.val (.cmp .notin (.var 0) (.glob 0))) (.cons (.rai 1 (.cons (.cst (.str "function")) .nil)) .nil) .nil) [.val (.str (wd i)), .val (.lst l), .un, .un] [] = .nx [.val (.str (wd i)), .val (.lst l), .un, .un] [] := by simp [exB, exS, ev, evs, evT, evTA, evTO, evAnd, evOr, bw, vw0, vw1, vw2, vw3, vw4, vw5, vw7, truth, bindP, bindNs, isoR, lim, kill, ownAt, isLst, isDic, obOf, Ob.toD, g, q0]
  have t2 : exS (DI.run prog (n + 3)) (.ifs (.and (.cons (.val (.cmp .isin (.var 0) (.tup (.cons (.cst (.str "sum")) (.cons (.cst (.str "median")) .nil))))) (.cons (.val w_aggregate_1) .nil))) (.cons (.rai 1 (.cons (.cst (.str "text")) .nil)) .nil) .nil) [.val (.str (wd i)), .val (.lst l), .un, .un] [] = .nx [.val (.str (wd i)), .val (.lst l), .un, .un] [] := by
    by_cases h : i = 3 ∨ i = 6
    · have := hs h
      rw [this] at a1
      simp [exB, exS, ev, evs, evT, evTA, evTO, evAnd, evOr, bw, vw0, vw1, vw2, vw3, vw4, vw5, vw7, truth, bindP, bindNs, isoR, lim, kill, ownAt, isLst, isDic, obOf, Ob.toD, q1, h, a1]
    · simp [exB, exS, ev, evs, evT, evTA, evTO, evAnd, evOr, bw, vw0, vw1, vw2, vw3, vw4, vw5, vw7, truth, bindP, bindNs, isoR, lim, kill, ownAt, isLst, isDic, obOf, Ob.toD, q1, h]
  show isoR S (fin (exB _ (.cons _ (c_aggregate.body.drop 1)) [.val (.str (wd i)), .val (.lst l), .un, .un] [])) = _
  rw [exB_c t1]
  show isoR S (fin (exB _ (.cons _ (c_aggregate.body.drop 2)) [.val (.str (wd i)), .val (.lst l), .un, .un] [])) = _
  rw [exB_c t2]
  have og : (i = 3 ∨ i = 4 ∨ i = 5 ∨ i = 6) → given l ≠ [] → (DI.run prog (n + 3)).fn 2 [.str (wd i), .lst (given l)] [] = .ok (aggV i l) [] := fun hi h0 => by
    rw [of_given_ok n i hi gv h0 (by omega) (fun e d hd => by
      have := hs (.inl e)
      have := List.any_eq_false.mp this d (List.mem_filter.mp hd).1
      simpa using this) []]
    congr 1
    rcases hi with rfl | rfl | rfl | rfl <;> simp [aggV, h0]
  generalize hr : aggV i l = res at av og
  have fin' : ∀ h0 : given l = [], (i = 3 ∨ i = 4 ∨ i = 5 ∨ i = 6) → res = .non := fun h0 hi => by
    rw [← hr]
    rcases hi with rfl | rfl | rfl | rfl <;> simp [aggV, h0]
  rcases i9 i with rfl | rfl | rfl | rfl | rfl | rfl | rfl | rfl | rfl
  · have : res = .int l.length := by rw [← hr]; rfl
    subst this
    simp [exB, exS, ev, evs, evT, evTA, evTO, evAnd, evOr, bw, vw0, vw1, vw2, vw3, vw4, vw5, vw7, truth, bindP, bindNs, isoR, lim, kill, ownAt, isLst, isDic, obOf, Ob.toD, c_aggregate, dpS, dp0, q2, lenl, nob]
  · have : res = .int (given l).length := by rw [← hr]; rfl
    subst this
    generalize given l = gg at gl
    simp [exB, exS, ev, evs, evT, evTA, evTO, evAnd, evOr, bw, vw0, vw1, vw2, vw3, vw4, vw5, vw7, truth, bindP, bindNs, isoR, lim, kill, ownAt, isLst, isDic, obOf, Ob.toD, c_aggregate, dpS, dp0, q2, q3, gl, q5, lenl, nob]
  · have : res = .int (unlike (given l)) := by rw [← hr]; rfl
    subst this
    generalize unlike (given l) = uu at ls
    generalize given l = gg at gl ls
    simp [exB, exS, ev, evs, evT, evTA, evTO, evAnd, evOr, bw, vw0, vw1, vw2, vw3, vw4, vw5, vw7, truth, bindP, bindNs, isoR, lim, kill, ownAt, isLst, isDic, obOf, Ob.toD, c_aggregate, dpS, dp0, q2, q3, gl, q5, q6, ls, nob]
  iterate 4
    · have og := og (by decide)
      have fin' := fun h => fin' h (by decide)
      have nn := av.1
      generalize given l = gg at gl e1 og fin'
      by_cases h0 : gg = []
      · have := fin' h0
        subst this
        rw [decide_eq_true h0] at e1
        simp [exB, exS, ev, evs, evT, evTA, evTO, evAnd, evOr, bw, vw0, vw1, vw2, vw3, vw4, vw5, vw7, truth, bindP, bindNs, isoR, lim, kill, ownAt, isLst, isDic, obOf, Ob.toD, c_aggregate, dpS, dp0, q2, q3, gl, q5, q6, lenl, e1, nob]
      · have og := og h0
        rw [decide_eq_false h0] at e1
        simp [exB, exS, ev, evs, evT, evTA, evTO, evAnd, evOr, bw, vw0, vw1, vw2, vw3, vw4, vw5, vw7, truth, bindP, bindNs, isoR, lim, kill, ownAt, isLst, isDic, obOf, Ob.toD, c_aggregate, dpS, dp0, q2, q3, gl, q5, q6, lenl, e1, og, nn]
  · by_cases h0 : l = []
    · have : res = .non := by rw [← hr]; subst h0; rfl
      subst this
      rw [decide_eq_true h0] at e0
      simp [exB, exS, ev, evs, evT, evTA, evTO, evAnd, evOr, bw, vw0, vw1, vw2, vw3, vw4, vw5, vw7, truth, bindP, bindNs, isoR, lim, kill, ownAt, isLst, isDic, obOf, Ob.toD, c_aggregate, dpS, dp0, q2, q3, lenl, e0, nob]
    · have f := firstI h0
      have : res = (l[0]?).getD .non := by rw [← hr]; rfl
      rw [← this] at f
      have nn := av.1
      rw [decide_eq_false h0] at e0
      simp [exB, exS, ev, evs, evT, evTA, evTO, evAnd, evOr, bw, vw0, vw1, vw2, vw3, vw4, vw5, vw7, truth, bindP, bindNs, isoR, lim, kill, ownAt, isLst, isDic, obOf, Ob.toD, c_aggregate, dpS, dp0, q2, q3, q4, lenl, e0, f, nn]
  · by_cases h0 : l = []
    · have : res = .non := by rw [← hr]; subst h0; rfl
      subst this
      rw [decide_eq_true h0] at e0
      simp [exB, exS, ev, evs, evT, evTA, evTO, evAnd, evOr, bw, vw0, vw1, vw2, vw3, vw4, vw5, vw7, truth, bindP, bindNs, isoR, lim, kill, ownAt, isLst, isDic, obOf, Ob.toD, c_aggregate, dpS, dp0, q2, q3, lenl, e0, nob]
    · have f := lastI h0
      have : res = (l[l.length - 1]?).getD .non := by rw [← hr]; rfl
      rw [← this] at f
      have nn := av.1
      rw [decide_eq_false h0] at e0
      simp [exB, exS, ev, evs, evT, evTA, evTO, evAnd, evOr, bw, vw0, vw1, vw2, vw3, vw4, vw5, vw7, truth, bindP, bindNs, isoR, lim, kill, ownAt, isLst, isDic, obOf, Ob.toD, c_aggregate, dpS, dp0, q2, q3, q4, lenl, e0, f, nn]
/-- a text where numbers are asked -/
theorem aggregate_no (n : Nat) (i : Fin 9) (hi : i = 3 ∨ i = 6) {l : List D} (hv : ∀ d ∈ l, Vl d) (hs : l.any isS = true) (S : Store) : (DI.run prog (n + 4)).fn 3 [.str (wd i), .lst l] S = .err ⟨1, [("reason", .str "text")]⟩ S := by
  have nb : nobs [.str (wd i), .lst l] = true := by
    show (true && (nobs l && true)) = true
    rw [nobs_vl hv]; rfl
  rw [fn_at (F := c_aggregate) rfl, runFn_iso rfl rfl nb]
  have g := g0 (n + 3)
  have q0 := q_all i
  have q1 := q_sm i
  have a1 := any_ok (n + 3) hv (.val (.str (wd i))) .un .un []
  rw [hs] at a1
  have xm : (DI.run prog (n + 3)).xmk 1 [.str "text"] = some [(("reason" : Str), D.str "text")] := by
    rw [run_xmk]; rfl
  simp [exB, exS, ev, evs, evT, evTA, evTO, evAnd, evOr, bw, vw0, vw1, vw2, vw3, vw4, vw5, vw7, truth, bindP, bindNs, isoR, lim, kill, ownAt, isLst, isDic, obOf, Ob.toD, c_aggregate, st0, g, q0, q1, hi, a1, xm, nob, nobs]
theorem aggregate_bad (n : Nat) (z : Str) (hz : PyData.strOk z = true) (h : cmpD .notin (.str z) (.tup [.str "size", .str "count", .str "different", .str "sum", .str "least", .str "greatest", .str "median", .str "first", .str "last"]) = some (.bl true)) (S : Store) :
    (DI.run prog (n + 1)).fn 3 [.str z, .lst [.int 1]] S = .err ⟨1, [("reason", .str "function")]⟩ S := by
  rw [fn_at (F := c_aggregate) rfl, runFn_iso rfl rfl rfl]
  have g := g0 n
  have xm : (DI.run prog n).xmk 1 [.str "function"] = some [(("reason" : Str), D.str "function")] := by
    rw [run_xmk]; rfl
  simp [exB, exS, ev, evs, evT, evTA, evTO, evAnd, evOr, bw, vw0, vw1, vw2, vw3, vw4, vw5, vw7, truth, bindP, bindNs, isoR, lim, kill, ownAt, isLst, isDic, obOf, Ob.toD, c_aggregate, st0, g, h, xm, nob, nobs]
end K08
set_option Elab.async false
set_option maxRecDepth 100000
set_option maxHeartbeats 1000000
set_option linter.all false
namespace K08
open PySem L2 DI
theorem eRng (a : Int) (m : Nat) : rngN a m 1 = (List.range m).map fun k : Nat => D.int (a + (k : Int)) := by
  induction m generalizing a with
  | zero => rfl
  | succ m ih =>
    rw [List.range_succ_eq_map, List.map_cons, List.map_map]
    show D.int a :: rngN (a + 1) m 1 = _
    rw [ih]
    congr 1
    · simp
    · refine List.map_congr_left fun k _ => ?_
      show D.int _ = D.int _
      congr 1
      push_cast
      omega
theorem slc_to {l : List D} {k : Nat} (h : k ≤ l.length) : slcD (.lst l) none (some (k : Int)) = some (.lst (l.take k)) := by
  have e : slcD (.lst l) none (some (k : Int)) = some (.lst (cut l none (some (k : Int)))) := rfl
  have c : cut l none (some (k : Int)) = l.take k := by
    unfold cut
    have e1 : HT.sIx l.length 0 none = 0 := rfl
    have e2 : HT.sIx l.length l.length (some (k : Int)) = k := by
      have h0 : ¬ ((k : Int) < 0) := by omega
      simp [HT.sIx, h0]
      omega
    rw [e1, e2]
    simp
  rw [e, c]
theorem diff_ok (n : Nat) {g : List D} (hg : ∀ d ∈ g, Vl d) (hl : g.length ≤ 60) (a0 a1 a3 a4 a5 : Sl) (S : Store) : ∃ ds, ds.length = unlike g ∧ ev (DI.run prog n) w__law_aggregate_2 [a0, a1, .val (.lst g), a3, a4, a5] S = .ok (.lst ds) S := by
  have eI : evI (DI.run prog n) (.rng (.cons (.bi .len (.var 2)) .nil)) [a0, a1, .val (.lst g), a3, a4, a5] S = .ok ((List.range g.length).map (fun k : Nat => D.int (k : Int)), none) S := by
    rw [evI_rng1 _ _ _ _ (g.length : Int) (by simp [exB, exS, ev, evs, evT, evTA, evTO, evAnd, evOr, bw, vw0, vw1, vw2, vw3, vw4, vw5, vw7, truth, bindP, bindNs, isoR, lim, kill, ownAt, isLst, isDic, obOf, Ob.toD, lenl]) (sm62i _ (by omega)), Int.toNat_natCast, eRng]
    congr 2
    exact List.map_congr_left fun k _ => by rw [Int.zero_add]
  have := lcf_mp (fun k : Nat => D.int (k : Int)) (fun k : Nat => D.int (k : Int)) (fun k => decide ((g[k]?).getD .non ∉ [] ++ g.take k)) (List.range g.length) (DI.run prog n) c__law_aggregate_3 (.nm 5) (.rng (.cons (.bi .len (.var 2)) .nil)) c__law_aggregate_4 [a0, a1, .val (.lst g), a3, a4, a5] S S eI (by simp; omega) (fun k hk => by
    have hk := List.mem_range.1 hk
    have e := List.getElem?_eq_getElem hk
    have hm : g[k] ∈ g := List.getElem_mem hk
    generalize g[k] = x at e hm
    have vx := hg x hm
    have wx := vx.view
    have ix := at_idx e
    have sl := slc_to (l := g) (k := k) (by omega)
    have inn := in_vl vx (xs := g.take k) fun y hy => hg y (List.mem_of_mem_take hy)
    have nin : cmpD .notin x (.lst (g.take k)) = some (.bl (!decide (x ∈ g.take k))) := by
      show (inD x (.lst (g.take k))).map _ = _
      rw [inn]; rfl
    refine ⟨[a0, a1, .val (.lst g), a3, a4, .val (.int (k : Int))], by simp [bindP, kill, Pat.slots], ?_, fun _ => by simp [exB, exS, ev, evs, evT, evTA, evTO, evAnd, evOr, bw, vw0, vw1, vw2, vw3, vw4, vw5, vw7, truth, bindP, bindNs, isoR, lim, kill, ownAt, isLst, isDic, obOf, Ob.toD, c__law_aggregate_3]⟩
    have eb : decide ((g[k]?).getD .non ∉ [] ++ g.take k) = !decide (x ∈ g.take k) := by
      rw [e]; simp
    rw [eb]
    generalize g.take k = tk at sl nin
    simp [exB, exS, ev, evs, evT, evTA, evTO, evAnd, evOr, bw, vw0, vw1, vw2, vw3, vw4, vw5, vw7, truth, bindP, bindNs, isoR, lim, kill, ownAt, isLst, isDic, obOf, Ob.toD, c__law_aggregate_4, ix, sl, partD, wx, nin])
  refine ⟨_, ?_, by rw [w__law_aggregate_2]; exact this⟩
  rw [List.length_map, unlike_places g []]
  rfl
theorem look3 (a b c : D) : idxD (.dic [.inr "least", .inr "greatest", .inr "median"] [a, b, c]) (.str (wd 4)) = some a ∧ idxD (.dic [.inr "least", .inr "greatest", .inr "median"] [a, b, c]) (.str (wd 5)) = some b ∧ idxD (.dic [.inr "least", .inr "greatest", .inr "median"] [a, b, c]) (.str (wd 6)) = some c := by
  have h1 : (Sum.inr "least" : Key) = .inr (wd 4) := by decide +kernel
  have h2 : ¬ (Sum.inr "least" : Key) = .inr (wd 5) := by decide +kernel
  have h3 : (Sum.inr "greatest" : Key) = .inr (wd 5) := by decide +kernel
  have h4 : ¬ (Sum.inr "least" : Key) = .inr (wd 6) := by decide +kernel
  have h5 : ¬ (Sum.inr "greatest" : Key) = .inr (wd 6) := by decide +kernel
  have h6 : (Sum.inr "median" : Key) = .inr (wd 6) := by decide +kernel
  refine ⟨?_, ?_, ?_⟩
  · show look (.inr (wd 4)) _ _ = _
    unfold look; rw [if_pos h1]
  · show look (.inr (wd 5)) _ _ = _
    unfold look; rw [if_neg h2]
    unfold look; rw [if_pos h3]
  · show look (.inr (wd 6)) _ _ = _
    unfold look; rw [if_neg h4]
    unfold look; rw [if_neg h5]
    unfold look; rw [if_pos h6]
theorem set_ev {cl : Cl} {e : Ex} {ρ : Ev} {S S' : Store} {d : D} {i : Nat} (h : ev cl e ρ S = .ok d S') (hi : i < ρ.length) : exS cl (.set (.nm i) e) ρ S = .nx (ρ.set i (.val d)) S' := by
  rw [exS, h]
  simp [bindP, hi, RS.of]
theorem ret_ev {cl : Cl} {e : Ex} {ρ : Ev} {S S' : Store} {d : D} (h : ev cl e ρ S = .ok d S') : exS cl (.ret e) ρ S = .rt d S' := by
  rw [exS, h]
  rfl
theorem idx_ev {cl : Cl} {a b : Ex} {ρ : Ev} {S S1 S2 : Store} {x y d : D} (ha : bw a ρ S (ev cl a ρ S) = .ok x S1) (hb : ev cl b ρ S1 = .ok y S2) (h : idxD (view S2 x) y = some d) : ev cl (.idx a b) ρ S = .ok d S2 := by
  rw [ev, ha]
  simp [hb, h]
theorem len_ev {cl : Cl} {a : Ex} {ρ : Ev} {S S' : Store} {x : D} {xs : List D} (ha : bw a ρ S (ev cl a ρ S) = .ok x S') (h : view S' x = .lst xs) : ev cl (.bi .len a) ρ S = .ok (.int xs.length) S' := by
  rw [ev, ha]
  simp only [R.bind_ok, h, lenl, opt_some]
theorem ifs_t {cl : Cl} {t : Tx} {a b : Bl} {ρ : Ev} {S S' : Store} {r : RS} (h : evT cl t ρ S = .ok true S') (e : exB cl a ρ S' = r) : exS cl (.ifs t a b) ρ S = r := by
  rw [exS, h, ← e]
  rfl
theorem dct_ev {cl : Cl} {ks : List Str} {vs : Exs} {ρ : Ev} {S S' : Store} {ds : List D} (h : evs cl vs ρ S = .ok ds S') (hk : ks.length = ds.length ∧ ks.length ≤ 15 ∧ ks.Nodup) : ev cl (.dct ks vs) ρ S = .ok (.dic (ks.map Sum.inr) ds) S' := by
  rw [ev, h]
  simp only [R.bind_ok, if_pos hk, opt_some]
theorem nd3 : (["least", "greatest", "median"] : List Str).Nodup := by decide +kernel
theorem skip_ok (n : Nat) (i : Fin 9) (hc : i = 4 ∨ i = 5 ∨ i = 6) (l gg : List D) (e1 : cmpD .eq (.int (gg.length : Int)) (.int 0) = some (.bl false)) : exB (DI.run prog (n + 1)) (c__law_aggregate.body.drop 1) [.val (.str (wd i)), .val (.lst l), .val (.lst gg), .un, .un, .un] [] = exB (DI.run prog (n + 1)) (c__law_aggregate.body.drop 7) [.val (.str (wd i)), .val (.lst l), .val (.lst gg), .un, .un, .un] [] := by
  have q2 : cmpD .eq (.str (wd i)) (.str "size") = some (.bl false) := by rcases hc with rfl | rfl | rfl <;> exact q_size _
  have q3 : cmpD .isin (.str (wd i)) (.tup [.str "first", .str "last"]) = some (.bl false) := by rcases hc with rfl | rfl | rfl <;> exact q_fl _
  have q5 : cmpD .eq (.str (wd i)) (.str "count") = some (.bl false) := by rcases hc with rfl | rfl | rfl <;> exact q_count _
  have q6 : cmpD .eq (.str (wd i)) (.str "different") = some (.bl false) := by rcases hc with rfl | rfl | rfl <;> exact q_diff _
  have q7 : cmpD .eq (.str (wd i)) (.str "sum") = some (.bl false) := by rcases hc with rfl | rfl | rfl <;> exact q_sum _
  generalize wd i = w at *
  show exB _ (.cons _ (c__law_aggregate.body.drop 2)) _ _ = _
  rw [exB_c (ρ' := [.val (.str w), .val (.lst l), .val (.lst gg), .un, .un, .un]) (S' := []) (by simp [exB, exS, ev, evs, evT, evTA, evTO, evAnd, evOr, bw, vw0, vw1, vw2, vw3, vw4, vw5, vw7, truth, bindP, bindNs, isoR, lim, kill, ownAt, isLst, isDic, obOf, Ob.toD, q2])]
  show exB _ (.cons _ (c__law_aggregate.body.drop 3)) _ _ = _
  rw [exB_c (ρ' := [.val (.str w), .val (.lst l), .val (.lst gg), .un, .un, .un]) (S' := []) (by simp [exB, exS, ev, evs, evT, evTA, evTO, evAnd, evOr, bw, vw0, vw1, vw2, vw3, vw4, vw5, vw7, truth, bindP, bindNs, isoR, lim, kill, ownAt, isLst, isDic, obOf, Ob.toD, q3])]
  show exB _ (.cons _ (c__law_aggregate.body.drop 4)) _ _ = _
  rw [exB_c (ρ' := [.val (.str w), .val (.lst l), .val (.lst gg), .un, .un, .un]) (S' := []) (by simp [exB, exS, ev, evs, evT, evTA, evTO, evAnd, evOr, bw, vw0, vw1, vw2, vw3, vw4, vw5, vw7, truth, bindP, bindNs, isoR, lim, kill, ownAt, isLst, isDic, obOf, Ob.toD, q5])]
  show exB _ (.cons _ (c__law_aggregate.body.drop 5)) _ _ = _
  rw [exB_c (ρ' := [.val (.str w), .val (.lst l), .val (.lst gg), .un, .un, .un]) (S' := []) (by simp [exB, exS, ev, evs, evT, evTA, evTO, evAnd, evOr, bw, vw0, vw1, vw2, vw3, vw4, vw5, vw7, truth, bindP, bindNs, isoR, lim, kill, ownAt, isLst, isDic, obOf, Ob.toD, q6])]
  show exB _ (.cons _ (c__law_aggregate.body.drop 6)) _ _ = _
  rw [exB_c (ρ' := [.val (.str w), .val (.lst l), .val (.lst gg), .un, .un, .un]) (S' := []) (by simp [exB, exS, ev, evs, evT, evTA, evTO, evAnd, evOr, bw, vw0, vw1, vw2, vw3, vw4, vw5, vw7, truth, bindP, bindNs, isoR, lim, kill, ownAt, isLst, isDic, obOf, Ob.toD, lenl, e1])]
  show exB _ (.cons _ (c__law_aggregate.body.drop 7)) _ _ = _
  rw [exB_c (ρ' := [.val (.str w), .val (.lst l), .val (.lst gg), .un, .un, .un]) (S' := []) (by simp [exB, exS, ev, evs, evT, evTA, evTO, evAnd, evOr, bw, vw0, vw1, vw2, vw3, vw4, vw5, vw7, truth, bindP, bindNs, isoR, lim, kill, ownAt, isLst, isDic, obOf, Ob.toD, q7])]
theorem pick_ok (n : Nat) (i : Fin 9) (hc : i = 4 ∨ i = 5 ∨ i = 6) (l gg sv : List D) (x : Int) (res : D) (e1 : cmpD .eq (.int (gg.length : Int)) (.int 0) = some (.bl false))
    (w0 : exS (DI.run prog (n + 1)) (.set (.nm 3) (.byf .srt (.var 2) 14)) [.val (.str (wd i)), .val (.lst l), .val (.lst gg), .un, .un, .un] [] = .nx [.val (.str (wd i)), .val (.lst l), .val (.lst gg), .val (.lst sv), .un, .un] [])
    (rs1 : idxD (.dic [.inr "least", .inr "greatest", .inr "median"] [.int 0, .int ((sv.length : Int) - 1), .int (((sv.length : Int) - 1) / 2)]) (.str (wd i)) = some (.int x)) (rs2 : idxD (.lst sv) (.int x) = some res) (nn : nob res = true) (S : Store) :
    isoR S (fin (exB (DI.run prog (n + 1)) (c__law_aggregate.body.drop 1) [.val (.str (wd i)), .val (.lst l), .val (.lst gg), .un, .un, .un] [])) = .ok res S := by
  have b1 : ∀ m : Nat, binD .sub (.int (m : Int)) (.int 1) = some (.int ((m : Int) - 1)) := fun _ => rfl
  have b2 : ∀ m : Int, binD .fdiv (.int m) (.int 2) = some (.int (m / 2)) := fun _ => rfl
  rw [skip_ok n i hc l gg e1]
  generalize wd i = w at *
  have es : evs (DI.run prog (n + 1)) (.cons (.cst (.int 0)) (.cons (.bin .sub (.bi .len (.var 3)) (.cst (.int 1))) (.cons (.bin .fdiv (.bin .sub (.bi .len (.var 3)) (.cst (.int 1))) (.cst (.int 2))) .nil))) [.val (.str w), .val (.lst l), .val (.lst gg), .val (.lst sv), .un, .un] [] = .ok [.int 0, .int ((sv.length : Int) - 1), .int (((sv.length : Int) - 1) / 2)] [] := by simp [exB, exS, ev, evs, evT, evTA, evTO, evAnd, evOr, bw, vw0, vw1, vw2, vw3, vw4, vw5, vw7, truth, bindP, bindNs, isoR, lim, kill, ownAt, isLst, isDic, obOf, Ob.toD, lenl, b1, b2]
  have dc := dct_ev (ks := ["least", "greatest", "median"]) es ⟨rfl, by show 3 ≤ 15; omega, nd3⟩
  have ix : ev (DI.run prog (n + 1)) (.idx (.dct ["least", "greatest", "median"] (.cons (.cst (.int 0)) (.cons (.bin .sub (.bi .len (.var 3)) (.cst (.int 1))) (.cons (.bin .fdiv (.bin .sub (.bi .len (.var 3)) (.cst (.int 1))) (.cst (.int 2))) .nil)))) (.var 0)) [.val (.str w), .val (.lst l), .val (.lst gg), .val (.lst sv), .un, .un] [] = .ok (.int x) [] :=
    idx_ev (x := .dic [.inr "least", .inr "greatest", .inr "median"] [.int 0, .int ((sv.length : Int) - 1), .int (((sv.length : Int) - 1) / 2)]) (y := .str w) (by unfold bw; exact dc) (by simp [exB, exS, ev, evs, evT, evTA, evTO, evAnd, evOr, bw, vw0, vw1, vw2, vw3, vw4, vw5, vw7, truth, bindP, bindNs, isoR, lim, kill, ownAt, isLst, isDic, obOf, Ob.toD]) rs1
  have iy : ev (DI.run prog (n + 1)) (.idx (.var 3) (.idx (.dct ["least", "greatest", "median"] (.cons (.cst (.int 0)) (.cons (.bin .sub (.bi .len (.var 3)) (.cst (.int 1))) (.cons (.bin .fdiv (.bin .sub (.bi .len (.var 3)) (.cst (.int 1))) (.cst (.int 2))) .nil)))) (.var 0))) [.val (.str w), .val (.lst l), .val (.lst gg), .val (.lst sv), .un, .un] [] = .ok res [] :=
    idx_ev (x := .lst sv) (y := .int x) (by simp [exB, exS, ev, evs, evT, evTA, evTO, evAnd, evOr, bw, vw0, vw1, vw2, vw3, vw4, vw5, vw7, truth, bindP, bindNs, isoR, lim, kill, ownAt, isLst, isDic, obOf, Ob.toD]) ix rs2
  show isoR S (fin (exB _ (.cons _ (c__law_aggregate.body.drop 8)) _ _)) = _
  rw [exB_c w0]
  show isoR S (fin (exB _ (.cons _ .nil) _ _)) = _
  rw [exB_r (ret_ev iy)]
  simp [isoR, nn]
theorem lagg0 (n : Nat) (i : Fin 9) (hi : i = 0) {l : List D} (hv : ∀ d ∈ l, Vl d) (hl : l.length ≤ 60) (hs : i = 3 → l.any isS = false) (S : Store) : (DI.run prog (n + 2)).fn 15 [.str (wd i), .lst l] S = .ok (aggV i l) S := by
  have nb : nobs [.str (wd i), .lst l] = true := by
    show (true && (nobs l && true)) = true
    rw [nobs_vl hv]; rfl
  rw [fn_at (F := c__law_aggregate) rfl, runFn_iso rfl rfl nb]
  have q2 := q_size i
  have q3 := q_fl i
  have q4 := q_first i
  have q5 := q_count i
  have q6 := q_diff i
  have q7 := q_sum i
  have gl := given_ok2 (n + 1) hv hl (.val (.str (wd i))) .un .un .un .un []
  have gv := given_vl hv
  have gv' : ∀ d ∈ given l, Vl d := fun d hd => (gv d hd).1
  have gll : (given l).length ≤ 60 := Nat.le_trans (List.length_filter_le _ _) hl
  have av := aggV_vl (i := i) hv
  have e1 := len0 (given l)
  have t1 : exS (DI.run prog (n + 1)) (.set (.nm 2) w__law_aggregate_1) [.val (.str (wd i)), .val (.lst l), .un, .un, .un, .un] [] = .nx [.val (.str (wd i)), .val (.lst l), .val (.lst (given l)), .un, .un, .un] [] := by simp [exB, exS, ev, evs, evT, evTA, evTO, evAnd, evOr, bw, vw0, vw1, vw2, vw3, vw4, vw5, vw7, truth, bindP, bindNs, isoR, lim, kill, ownAt, isLst, isDic, obOf, Ob.toD, gl]
  show isoR S (fin (exB _ (.cons _ (c__law_aggregate.body.drop 1)) [.val (.str (wd i)), .val (.lst l), .un, .un, .un, .un] [])) = _
  rw [exB_c t1]
  have nn := av.1
  generalize hr : aggV i l = res at nn
  have fin' : ∀ h0 : given l = [], (i = 3 ∨ i = 4 ∨ i = 5 ∨ i = 6) → res = .non := fun h0 hi => by
    rw [← hr]
    rcases hi with rfl | rfl | rfl | rfl <;> simp [aggV, h0]
  have b1 : ∀ m : Nat, binD .sub (.int (m : Int)) (.int 1) = some (.int ((m : Int) - 1)) := fun _ => rfl
  have b2 : ∀ m : Int, binD .fdiv (.int m) (.int 2) = some (.int (m / 2)) := fun _ => rfl
  subst hi
  have : res = .int l.length := by rw [← hr]; rfl
  subst this
  generalize given l = gg
  simp [exB, exS, ev, evs, evT, evTA, evTO, evAnd, evOr, bw, vw0, vw1, vw2, vw3, vw4, vw5, vw7, truth, bindP, bindNs, isoR, lim, kill, ownAt, isLst, isDic, obOf, Ob.toD, c__law_aggregate, dpS, dp0, q2, lenl, nob]
theorem lagg1 (n : Nat) (i : Fin 9) (hi : i = 1) {l : List D} (hv : ∀ d ∈ l, Vl d) (hl : l.length ≤ 60) (hs : i = 3 → l.any isS = false) (S : Store) : (DI.run prog (n + 2)).fn 15 [.str (wd i), .lst l] S = .ok (aggV i l) S := by
  have nb : nobs [.str (wd i), .lst l] = true := by
    show (true && (nobs l && true)) = true
    rw [nobs_vl hv]; rfl
  rw [fn_at (F := c__law_aggregate) rfl, runFn_iso rfl rfl nb]
  have q2 := q_size i
  have q3 := q_fl i
  have q4 := q_first i
  have q5 := q_count i
  have q6 := q_diff i
  have q7 := q_sum i
  have gl := given_ok2 (n + 1) hv hl (.val (.str (wd i))) .un .un .un .un []
  have gv := given_vl hv
  have gv' : ∀ d ∈ given l, Vl d := fun d hd => (gv d hd).1
  have gll : (given l).length ≤ 60 := Nat.le_trans (List.length_filter_le _ _) hl
  have av := aggV_vl (i := i) hv
  have e1 := len0 (given l)
  have t1 : exS (DI.run prog (n + 1)) (.set (.nm 2) w__law_aggregate_1) [.val (.str (wd i)), .val (.lst l), .un, .un, .un, .un] [] = .nx [.val (.str (wd i)), .val (.lst l), .val (.lst (given l)), .un, .un, .un] [] := by simp [exB, exS, ev, evs, evT, evTA, evTO, evAnd, evOr, bw, vw0, vw1, vw2, vw3, vw4, vw5, vw7, truth, bindP, bindNs, isoR, lim, kill, ownAt, isLst, isDic, obOf, Ob.toD, gl]
  show isoR S (fin (exB _ (.cons _ (c__law_aggregate.body.drop 1)) [.val (.str (wd i)), .val (.lst l), .un, .un, .un, .un] [])) = _
  rw [exB_c t1]
  have nn := av.1
  generalize hr : aggV i l = res at nn
  have fin' : ∀ h0 : given l = [], (i = 3 ∨ i = 4 ∨ i = 5 ∨ i = 6) → res = .non := fun h0 hi => by
    rw [← hr]
    rcases hi with rfl | rfl | rfl | rfl <;> simp [aggV, h0]
  have b1 : ∀ m : Nat, binD .sub (.int (m : Int)) (.int 1) = some (.int ((m : Int) - 1)) := fun _ => rfl
  have b2 : ∀ m : Int, binD .fdiv (.int m) (.int 2) = some (.int (m / 2)) := fun _ => rfl
  subst hi
  have : res = .int (given l).length := by rw [← hr]; rfl
  subst this
  generalize given l = gg
  simp [exB, exS, ev, evs, evT, evTA, evTO, evAnd, evOr, bw, vw0, vw1, vw2, vw3, vw4, vw5, vw7, truth, bindP, bindNs, isoR, lim, kill, ownAt, isLst, isDic, obOf, Ob.toD, c__law_aggregate, dpS, dp0, q2, q3, q5, lenl, nob]
theorem lagg2 (n : Nat) (i : Fin 9) (hi : i = 2) {l : List D} (hv : ∀ d ∈ l, Vl d) (hl : l.length ≤ 60) (hs : i = 3 → l.any isS = false) (S : Store) : (DI.run prog (n + 2)).fn 15 [.str (wd i), .lst l] S = .ok (aggV i l) S := by
  have nb : nobs [.str (wd i), .lst l] = true := by
    show (true && (nobs l && true)) = true
    rw [nobs_vl hv]; rfl
  rw [fn_at (F := c__law_aggregate) rfl, runFn_iso rfl rfl nb]
  have q2 := q_size i
  have q3 := q_fl i
  have q4 := q_first i
  have q5 := q_count i
  have q6 := q_diff i
  have q7 := q_sum i
  have gl := given_ok2 (n + 1) hv hl (.val (.str (wd i))) .un .un .un .un []
  have gv := given_vl hv
  have gv' : ∀ d ∈ given l, Vl d := fun d hd => (gv d hd).1
  have gll : (given l).length ≤ 60 := Nat.le_trans (List.length_filter_le _ _) hl
  have av := aggV_vl (i := i) hv
  obtain ⟨ds, dl, de⟩ := diff_ok (n + 1) gv' gll (.val (.str (wd i))) (.val (.lst l)) .un .un .un []
  have e1 := len0 (given l)
  have t1 : exS (DI.run prog (n + 1)) (.set (.nm 2) w__law_aggregate_1) [.val (.str (wd i)), .val (.lst l), .un, .un, .un, .un] [] = .nx [.val (.str (wd i)), .val (.lst l), .val (.lst (given l)), .un, .un, .un] [] := by simp [exB, exS, ev, evs, evT, evTA, evTO, evAnd, evOr, bw, vw0, vw1, vw2, vw3, vw4, vw5, vw7, truth, bindP, bindNs, isoR, lim, kill, ownAt, isLst, isDic, obOf, Ob.toD, gl]
  show isoR S (fin (exB _ (.cons _ (c__law_aggregate.body.drop 1)) [.val (.str (wd i)), .val (.lst l), .un, .un, .un, .un] [])) = _
  rw [exB_c t1]
  have nn := av.1
  generalize hr : aggV i l = res at nn
  have fin' : ∀ h0 : given l = [], (i = 3 ∨ i = 4 ∨ i = 5 ∨ i = 6) → res = .non := fun h0 hi => by
    rw [← hr]
    rcases hi with rfl | rfl | rfl | rfl <;> simp [aggV, h0]
  have b1 : ∀ m : Nat, binD .sub (.int (m : Int)) (.int 1) = some (.int ((m : Int) - 1)) := fun _ => rfl
  have b2 : ∀ m : Int, binD .fdiv (.int m) (.int 2) = some (.int (m / 2)) := fun _ => rfl
  subst hi
  have : res = .int (unlike (given l)) := by rw [← hr]; rfl
  subst this
  rw [← dl]
  have q2 : cmpD .eq (.str (wd 2)) (.str "size") = some (.bl false) := q_size 2
  have q3 : cmpD .isin (.str (wd 2)) (.tup [.str "first", .str "last"]) = some (.bl false) := q_fl 2
  have q5 : cmpD .eq (.str (wd 2)) (.str "count") = some (.bl false) := q_count 2
  have q6 : cmpD .eq (.str (wd 2)) (.str "different") = some (.bl true) := q_diff 2
  generalize given l = gg at de
  generalize wd 2 = w at *
  show isoR S (fin (exB _ (.cons _ (c__law_aggregate.body.drop 2)) _ _)) = _
  rw [exB_c (ρ' := [.val (.str w), .val (.lst l), .val (.lst gg), .un, .un, .un]) (S' := []) (by simp [exB, exS, ev, evs, evT, evTA, evTO, evAnd, evOr, bw, vw0, vw1, vw2, vw3, vw4, vw5, vw7, truth, bindP, bindNs, isoR, lim, kill, ownAt, isLst, isDic, obOf, Ob.toD, q2])]
  show isoR S (fin (exB _ (.cons _ (c__law_aggregate.body.drop 3)) _ _)) = _
  rw [exB_c (ρ' := [.val (.str w), .val (.lst l), .val (.lst gg), .un, .un, .un]) (S' := []) (by simp [exB, exS, ev, evs, evT, evTA, evTO, evAnd, evOr, bw, vw0, vw1, vw2, vw3, vw4, vw5, vw7, truth, bindP, bindNs, isoR, lim, kill, ownAt, isLst, isDic, obOf, Ob.toD, q3])]
  show isoR S (fin (exB _ (.cons _ (c__law_aggregate.body.drop 4)) _ _)) = _
  rw [exB_c (ρ' := [.val (.str w), .val (.lst l), .val (.lst gg), .un, .un, .un]) (S' := []) (by simp [exB, exS, ev, evs, evT, evTA, evTO, evAnd, evOr, bw, vw0, vw1, vw2, vw3, vw4, vw5, vw7, truth, bindP, bindNs, isoR, lim, kill, ownAt, isLst, isDic, obOf, Ob.toD, q5])]
  show isoR S (fin (exB _ (.cons _ (c__law_aggregate.body.drop 5)) _ _)) = _
  have rt : exS (DI.run prog (n + 1)) (.ret (.bi .len w__law_aggregate_2)) [.val (.str w), .val (.lst l), .val (.lst gg), .un, .un, .un] [] = .rt (.int ds.length) [] := ret_ev (len_ev (by rw [bw, own_w__law_aggregate_2, de]) rfl)
  have ff : exS (DI.run prog (n + 1)) (.ifs (.val (.cmp .eq (.var 0) (.cst (.str "different")))) (.cons (.ret (.bi .len w__law_aggregate_2)) .nil) .nil) [.val (.str w), .val (.lst l), .val (.lst gg), .un, .un, .un] [] = .rt (.int ds.length) [] := by
    have t : evT (DI.run prog (n + 1)) (.val (.cmp .eq (.var 0) (.cst (.str "different")))) [.val (.str w), .val (.lst l), .val (.lst gg), .un, .un, .un] [] = .ok true [] := by simp [exB, exS, ev, evs, evT, evTA, evTO, evAnd, evOr, bw, vw0, vw1, vw2, vw3, vw4, vw5, vw7, truth, bindP, bindNs, isoR, lim, kill, ownAt, isLst, isDic, obOf, Ob.toD, q6]
    exact ifs_t t (exB_r rt)
  rw [exB_r ff, fin_rt]
  generalize (ds.length : Int) = z
  simp [isoR, nob]
theorem lagg3 (n : Nat) (i : Fin 9) (hi : i = 3) {l : List D} (hv : ∀ d ∈ l, Vl d) (hl : l.length ≤ 60) (hs : i = 3 → l.any isS = false) (S : Store) : (DI.run prog (n + 2)).fn 15 [.str (wd i), .lst l] S = .ok (aggV i l) S := by
  have nb : nobs [.str (wd i), .lst l] = true := by
    show (true && (nobs l && true)) = true
    rw [nobs_vl hv]; rfl
  rw [fn_at (F := c__law_aggregate) rfl, runFn_iso rfl rfl nb]
  have q2 := q_size i
  have q3 := q_fl i
  have q4 := q_first i
  have q5 := q_count i
  have q6 := q_diff i
  have q7 := q_sum i
  have gl := given_ok2 (n + 1) hv hl (.val (.str (wd i))) .un .un .un .un []
  have gv := given_vl hv
  have gv' : ∀ d ∈ given l, Vl d := fun d hd => (gv d hd).1
  have gll : (given l).length ≤ 60 := Nat.le_trans (List.length_filter_le _ _) hl
  have av := aggV_vl (i := i) hv
  have e1 := len0 (given l)
  have t1 : exS (DI.run prog (n + 1)) (.set (.nm 2) w__law_aggregate_1) [.val (.str (wd i)), .val (.lst l), .un, .un, .un, .un] [] = .nx [.val (.str (wd i)), .val (.lst l), .val (.lst (given l)), .un, .un, .un] [] := by simp [exB, exS, ev, evs, evT, evTA, evTO, evAnd, evOr, bw, vw0, vw1, vw2, vw3, vw4, vw5, vw7, truth, bindP, bindNs, isoR, lim, kill, ownAt, isLst, isDic, obOf, Ob.toD, gl]
  show isoR S (fin (exB _ (.cons _ (c__law_aggregate.body.drop 1)) [.val (.str (wd i)), .val (.lst l), .un, .un, .un, .un] [])) = _
  rw [exB_c t1]
  have nn := av.1
  generalize hr : aggV i l = res at nn
  have fin' : ∀ h0 : given l = [], (i = 3 ∨ i = 4 ∨ i = 5 ∨ i = 6) → res = .non := fun h0 hi => by
    rw [← hr]
    rcases hi with rfl | rfl | rfl | rfl <;> simp [aggV, h0]
  have b1 : ∀ m : Nat, binD .sub (.int (m : Int)) (.int 1) = some (.int ((m : Int) - 1)) := fun _ => rfl
  have b2 : ∀ m : Int, binD .fdiv (.int m) (.int 2) = some (.int (m / 2)) := fun _ => rfl
  subst hi
  have fin' := fun h => fin' h (by decide)
  by_cases h0 : given l = []
  · have := fin' h0
    subst this
    rw [decide_eq_true h0] at e1
    generalize given l = gg at e1
    simp [exB, exS, ev, evs, evT, evTA, evTO, evAnd, evOr, bw, vw0, vw1, vw2, vw3, vw4, vw5, vw7, truth, bindP, bindNs, isoR, lim, kill, ownAt, isLst, isDic, obOf, Ob.toD, c__law_aggregate, dpS, dp0, q2, q3, q5, q6, lenl, e1, nob]
  · have : res = .int (sumV (given l)) := by rw [← hr]; simp [aggV, h0]
    subst this
    obtain ⟨ns, i1, i2⟩ := ints_of gv fun d hd => by
      have := List.any_eq_false.mp (hs rfl) d (List.mem_filter.mp hd).1
      simpa using this
    have b : biD .sum (.lst (given l)) = some (.int (sumV (given l))) := by
      show (intsD (given l)).map _ = _
      rw [i1, ← i2]; rfl
    rw [decide_eq_false h0] at e1
    generalize sumV (given l) = sv at b
    generalize given l = gg at e1 b
    simp [exB, exS, ev, evs, evT, evTA, evTO, evAnd, evOr, bw, vw0, vw1, vw2, vw3, vw4, vw5, vw7, truth, bindP, bindNs, isoR, lim, kill, ownAt, isLst, isDic, obOf, Ob.toD, c__law_aggregate, dpS, dp0, q2, q3, q5, q6, q7, lenl, e1, b, nob]
theorem lagg7 (n : Nat) (i : Fin 9) (hi : i = 7) {l : List D} (hv : ∀ d ∈ l, Vl d) (hl : l.length ≤ 60) (hs : i = 3 → l.any isS = false) (S : Store) : (DI.run prog (n + 2)).fn 15 [.str (wd i), .lst l] S = .ok (aggV i l) S := by
  have nb : nobs [.str (wd i), .lst l] = true := by
    show (true && (nobs l && true)) = true
    rw [nobs_vl hv]; rfl
  rw [fn_at (F := c__law_aggregate) rfl, runFn_iso rfl rfl nb]
  have q2 := q_size i
  have q3 := q_fl i
  have q4 := q_first i
  have q5 := q_count i
  have q6 := q_diff i
  have q7 := q_sum i
  have gl := given_ok2 (n + 1) hv hl (.val (.str (wd i))) .un .un .un .un []
  have gv := given_vl hv
  have gv' : ∀ d ∈ given l, Vl d := fun d hd => (gv d hd).1
  have gll : (given l).length ≤ 60 := Nat.le_trans (List.length_filter_le _ _) hl
  have av := aggV_vl (i := i) hv
  have e1 := len0 (given l)
  have t1 : exS (DI.run prog (n + 1)) (.set (.nm 2) w__law_aggregate_1) [.val (.str (wd i)), .val (.lst l), .un, .un, .un, .un] [] = .nx [.val (.str (wd i)), .val (.lst l), .val (.lst (given l)), .un, .un, .un] [] := by simp [exB, exS, ev, evs, evT, evTA, evTO, evAnd, evOr, bw, vw0, vw1, vw2, vw3, vw4, vw5, vw7, truth, bindP, bindNs, isoR, lim, kill, ownAt, isLst, isDic, obOf, Ob.toD, gl]
  show isoR S (fin (exB _ (.cons _ (c__law_aggregate.body.drop 1)) [.val (.str (wd i)), .val (.lst l), .un, .un, .un, .un] [])) = _
  rw [exB_c t1]
  have nn := av.1
  generalize hr : aggV i l = res at nn
  have fin' : ∀ h0 : given l = [], (i = 3 ∨ i = 4 ∨ i = 5 ∨ i = 6) → res = .non := fun h0 hi => by
    rw [← hr]
    rcases hi with rfl | rfl | rfl | rfl <;> simp [aggV, h0]
  have b1 : ∀ m : Nat, binD .sub (.int (m : Int)) (.int 1) = some (.int ((m : Int) - 1)) := fun _ => rfl
  have b2 : ∀ m : Int, binD .fdiv (.int m) (.int 2) = some (.int (m / 2)) := fun _ => rfl
  subst hi
  have f := firstI (l := l ++ [.non]) (by simp)
  have : res = ((l ++ [.non])[0]?).getD .non := by
    rw [← hr]
    cases l <;> rfl
  rw [← this] at f
  have ad := ad1 l [.non] (by simp; omega)
  have bl : biD .lst (.lst l) = some (.lst l) := rfl
  generalize given l = gg
  generalize l ++ [D.non] = l2 at ad f
  simp [exB, exS, ev, evs, evT, evTA, evTO, evAnd, evOr, bw, vw0, vw1, vw2, vw3, vw4, vw5, vw7, truth, bindP, bindNs, isoR, lim, kill, ownAt, isLst, isDic, obOf, Ob.toD, c__law_aggregate, dpS, dp0, q2, q3, q4, bl, ad, f, nn]
theorem lagg8 (n : Nat) (i : Fin 9) (hi : i = 8) {l : List D} (hv : ∀ d ∈ l, Vl d) (hl : l.length ≤ 60) (hs : i = 3 → l.any isS = false) (S : Store) : (DI.run prog (n + 2)).fn 15 [.str (wd i), .lst l] S = .ok (aggV i l) S := by
  have nb : nobs [.str (wd i), .lst l] = true := by
    show (true && (nobs l && true)) = true
    rw [nobs_vl hv]; rfl
  rw [fn_at (F := c__law_aggregate) rfl, runFn_iso rfl rfl nb]
  have q2 := q_size i
  have q3 := q_fl i
  have q4 := q_first i
  have q5 := q_count i
  have q6 := q_diff i
  have q7 := q_sum i
  have gl := given_ok2 (n + 1) hv hl (.val (.str (wd i))) .un .un .un .un []
  have gv := given_vl hv
  have gv' : ∀ d ∈ given l, Vl d := fun d hd => (gv d hd).1
  have gll : (given l).length ≤ 60 := Nat.le_trans (List.length_filter_le _ _) hl
  have av := aggV_vl (i := i) hv
  have e1 := len0 (given l)
  have t1 : exS (DI.run prog (n + 1)) (.set (.nm 2) w__law_aggregate_1) [.val (.str (wd i)), .val (.lst l), .un, .un, .un, .un] [] = .nx [.val (.str (wd i)), .val (.lst l), .val (.lst (given l)), .un, .un, .un] [] := by simp [exB, exS, ev, evs, evT, evTA, evTO, evAnd, evOr, bw, vw0, vw1, vw2, vw3, vw4, vw5, vw7, truth, bindP, bindNs, isoR, lim, kill, ownAt, isLst, isDic, obOf, Ob.toD, gl]
  show isoR S (fin (exB _ (.cons _ (c__law_aggregate.body.drop 1)) [.val (.str (wd i)), .val (.lst l), .un, .un, .un, .un] [])) = _
  rw [exB_c t1]
  have nn := av.1
  generalize hr : aggV i l = res at nn
  have fin' : ∀ h0 : given l = [], (i = 3 ∨ i = 4 ∨ i = 5 ∨ i = 6) → res = .non := fun h0 hi => by
    rw [← hr]
    rcases hi with rfl | rfl | rfl | rfl <;> simp [aggV, h0]
  have b1 : ∀ m : Nat, binD .sub (.int (m : Int)) (.int 1) = some (.int ((m : Int) - 1)) := fun _ => rfl
  have b2 : ∀ m : Int, binD .fdiv (.int m) (.int 2) = some (.int (m / 2)) := fun _ => rfl
  subst hi
  have f := lastI (l := [.non] ++ l) (by simp)
  have : res = (([D.non] ++ l)[([D.non] ++ l).length - 1]?).getD .non := by
    rw [← hr]
    cases l with
    | nil => rfl
    | cons a r => simp [aggV]
  rw [← this] at f
  have ad := ad1 [.non] l (by simp; omega)
  have bl : biD .lst (.lst l) = some (.lst l) := rfl
  generalize given l = gg
  generalize [D.non] ++ l = l2 at ad f
  simp [exB, exS, ev, evs, evT, evTA, evTO, evAnd, evOr, bw, vw0, vw1, vw2, vw3, vw4, vw5, vw7, truth, bindP, bindNs, isoR, lim, kill, ownAt, isLst, isDic, obOf, Ob.toD, c__law_aggregate, dpS, dp0, q2, q3, q4, bl, ad, f, nn]
theorem lagg456 (n : Nat) (i : Fin 9) (hc : i = 4 ∨ i = 5 ∨ i = 6) {l : List D} (hv : ∀ d ∈ l, Vl d) (hl : l.length ≤ 60) (hs : i = 3 → l.any isS = false) (S : Store) : (DI.run prog (n + 2)).fn 15 [.str (wd i), .lst l] S = .ok (aggV i l) S := by
  have nb : nobs [.str (wd i), .lst l] = true := by
    show (true && (nobs l && true)) = true
    rw [nobs_vl hv]; rfl
  rw [fn_at (F := c__law_aggregate) rfl, runFn_iso rfl rfl nb]
  have q2 := q_size i
  have q3 := q_fl i
  have q4 := q_first i
  have q5 := q_count i
  have q6 := q_diff i
  have q7 := q_sum i
  have gl := given_ok2 (n + 1) hv hl (.val (.str (wd i))) .un .un .un .un []
  have gv := given_vl hv
  have gv' : ∀ d ∈ given l, Vl d := fun d hd => (gv d hd).1
  have gll : (given l).length ≤ 60 := Nat.le_trans (List.length_filter_le _ _) hl
  have av := aggV_vl (i := i) hv
  have e1 := len0 (given l)
  have sr : ev (DI.run prog (n + 1)) (.byf .srt (.var 2) 14) [.val (.str (wd i)), .val (.lst l), .val (.lst (given l)), .un, .un, .un] [] = .ok (.lst (srtV (given l))) [] :=
    ev_byf (by simp [exB, exS, ev, evs, evT, evTA, evTO, evAnd, evOr, bw, vw0, vw1, vw2, vw3, vw4, vw5, vw7, truth, bindP, bindNs, isoR, lim, kill, ownAt, isLst, isDic, obOf, Ob.toD]) gv' (by omega) fun d hd => rank_ok n (gv' d hd) []
  have sl := srtV_len (given l)
  have t1 : exS (DI.run prog (n + 1)) (.set (.nm 2) w__law_aggregate_1) [.val (.str (wd i)), .val (.lst l), .un, .un, .un, .un] [] = .nx [.val (.str (wd i)), .val (.lst l), .val (.lst (given l)), .un, .un, .un] [] := by simp [exB, exS, ev, evs, evT, evTA, evTO, evAnd, evOr, bw, vw0, vw1, vw2, vw3, vw4, vw5, vw7, truth, bindP, bindNs, isoR, lim, kill, ownAt, isLst, isDic, obOf, Ob.toD, gl]
  show isoR S (fin (exB _ (.cons _ (c__law_aggregate.body.drop 1)) [.val (.str (wd i)), .val (.lst l), .un, .un, .un, .un] [])) = _
  rw [exB_c t1]
  have nn := av.1
  generalize hr : aggV i l = res at nn
  have fin' : ∀ h0 : given l = [], (i = 3 ∨ i = 4 ∨ i = 5 ∨ i = 6) → res = .non := fun h0 hi => by
    rw [← hr]
    rcases hi with rfl | rfl | rfl | rfl <;> simp [aggV, h0]
  have b1 : ∀ m : Nat, binD .sub (.int (m : Int)) (.int 1) = some (.int ((m : Int) - 1)) := fun _ => rfl
  have b2 : ∀ m : Int, binD .fdiv (.int m) (.int 2) = some (.int (m / 2)) := fun _ => rfl
  have tail : given l ≠ [] → ∀ k : Nat, k < (given l).length → res = ((srtV (given l))[k]?).getD .non → idxD (.lst (srtV (given l))) (.int (k : Int)) = some res := fun h0 k hk e => by
    have h : (srtV (given l))[k]? = some (srtV (given l))[k] := List.getElem?_eq_getElem (by omega)
    rw [e, h]
    exact at_idx h
  have fin' := fun h => fin' h (by rcases hc with h | h | h <;> simp [h])
  by_cases h0 : given l = []
  · have := fin' h0
    subst this
    rw [decide_eq_true h0] at e1
    generalize given l = gg at e1
    rcases hc with rfl | rfl | rfl <;> simp [exB, exS, ev, evs, evT, evTA, evTO, evAnd, evOr, bw, vw0, vw1, vw2, vw3, vw4, vw5, vw7, truth, bindP, bindNs, isoR, lim, kill, ownAt, isLst, isDic, obOf, Ob.toD, c__law_aggregate, dpS, dp0, q2, q3, q5, q6, lenl, e1, nob]
  · have pos : 0 < (given l).length := List.length_pos_iff.mpr h0
    rw [decide_eq_false h0] at e1
    have rs : ∃ x : Int, idxD (.dic [.inr "least", .inr "greatest", .inr "median"] [.int 0, .int (((srtV (given l)).length : Int) - 1), .int ((((srtV (given l)).length : Int) - 1) / 2)]) (.str (wd i)) = some (.int x) ∧ idxD (.lst (srtV (given l))) (.int x) = some res := by
      have l3 := look3 (.int 0) (.int (((srtV (given l)).length : Int) - 1)) (.int ((((srtV (given l)).length : Int) - 1) / 2))
      rcases hc with rfl | rfl | rfl
      · exact ⟨_, l3.1, tail h0 0 pos (by rw [← hr]; simp [aggV, h0])⟩
      · refine ⟨_, l3.2.1, ?_⟩
        have t := tail h0 ((given l).length - 1) (by omega) (by rw [← hr]; simp [aggV, h0])
        have d1 : (((srtV (given l)).length : Int) - 1) = (((given l).length - 1 : Nat) : Int) := by omega
        rw [d1]; exact t
      · refine ⟨_, l3.2.2, ?_⟩
        have t := tail h0 (((given l).length - 1) / 2) (by omega) (by rw [← hr]; simp [aggV, h0])
        have d2 : (((srtV (given l)).length : Int) - 1) / 2 = ((((given l).length - 1) / 2 : Nat) : Int) := by omega
        rw [d2]; exact t
    obtain ⟨x, rs1, rs2⟩ := rs
    have w0 : exS (DI.run prog (n + 1)) (.set (.nm 3) (.byf .srt (.var 2) 14)) [.val (.str (wd i)), .val (.lst l), .val (.lst (given l)), .un, .un, .un] [] = .nx [.val (.str (wd i)), .val (.lst l), .val (.lst (given l)), .val (.lst (srtV (given l))), .un, .un] [] := set_ev sr (by simp)
    generalize srtV (given l) = sv at rs1 rs2 w0
    generalize given l = gg at e1 w0
    exact pick_ok n i hc l gg sv x res e1 w0 rs1 rs2 nn S
theorem law_aggregate_ok (n : Nat) (i : Fin 9) {l : List D} (hv : ∀ d ∈ l, Vl d) (hl : l.length ≤ 60) (hs : i = 3 → l.any isS = false) (S : Store) : (DI.run prog (n + 2)).fn 15 [.str (wd i), .lst l] S = .ok (aggV i l) S := by
  rcases i9 i with h | h | h | h | h | h | h | h | h
  · exact lagg0 n i h hv hl hs S
  · exact lagg1 n i h hv hl hs S
  · exact lagg2 n i h hv hl hs S
  · exact lagg3 n i h hv hl hs S
  · exact lagg456 n i (.inl h) hv hl hs S
  · exact lagg456 n i (.inr (.inl h)) hv hl hs S
  · exact lagg456 n i (.inr (.inr h)) hv hl hs S
  · exact lagg7 n i h hv hl hs S
  · exact lagg8 n i h hv hl hs S
end K08
set_option Elab.async false
set_option maxRecDepth 100000
set_option maxHeartbeats 1000000
set_option linter.all false
namespace K08
open PySem L2 DI
/-! ### values drawn -/
def Kd (t : Bool) (d : D) : Prop := Vl d ∧ (t = false → isS d = false)
def kw (t : Bool) : Str := if t then "text" else "integer"
theorem vl_c (s : String) (h : (((s : Str)).cps.toList.all fun c => decide (97 ≤ c) && decide (c ≤ 122)) = true ∧ ((s : Str)).cps.size ≤ 10) : Vl (.str (s : Str)) :=
  .str _ (fun c hc => by
    have := List.all_eq_true.1 h.1 c hc
    simpa using this) h.2
def txts : List D := [.str "", .str "a", .str "b", .str "ab", .str "zz"]
theorem txts_kd : ∀ d ∈ txts, Kd true d := by
  intro d hd
  simp only [txts, List.mem_cons, List.not_mem_nil, or_false] at hd
  rcases hd with rfl | rfl | rfl | rfl | rfl <;> exact ⟨vl_c _ (by decide +kernel), fun z => by cases z⟩
theorem value_ok (n : Nat) (hn : 2 ≤ n) (t : Bool) (G : List Int) (a : Int) (ha : 0 ≤ a) : ∃ d a', 0 ≤ a' ∧ Kd t d ∧ (DI.run prog n).fn 11 [.obj 0, .str (kw t)] (bx G a) = .ok d (bx G a') := by
  obtain ⟨n, rfl⟩ : ∃ m, n = m + 1 := ⟨n - 1, by omega⟩
  obtain ⟨v, h1, h2, e1⟩ := draw_ok' n (by omega) G a 6 ha (by omega)
  have ez : cmpD .eq (.int v) (.int 0) = some (.bl (decide (v = 0))) := eqi _ _
  have ek : cmpD .eq (.str (kw t)) (.str "text") = some (.bl t) := by revert t; decide +kernel
  by_cases h0 : v = 0
  · refine ⟨.non, a + 1, by omega, ⟨.non, fun _ => rfl⟩, ?_⟩
    rw [decide_eq_true h0] at ez
    rw [fn_at (F := c__law_value) rfl, runFn_st rfl rfl]
    simp [exB, exS, ev, evs, evT, evTA, evTO, evAnd, evOr, bw, vw0, vw1, vw2, vw3, vw4, vw5, vw7, truth, bindP, bindNs, isoR, lim, kill, ownAt, isLst, isDic, obOf, Ob.toD, c__law_value, st0, e1, ez]
  · rw [decide_eq_false h0] at ez
    cases t with
    | true =>
      obtain ⟨w, h3, h4, e2⟩ := draw_ok' n (by omega) G (a + 1) 5 (by omega) (by omega)
      obtain ⟨d, hd, ed⟩ := idx_lD (f := fun d : D => d) (xs := txts) h3 h4
      rw [List.map_id'] at ed
      simp only [txts] at ed
      refine ⟨d, a + 1 + 1, by omega, txts_kd d hd, ?_⟩
      rw [fn_at (F := c__law_value) rfl, runFn_st rfl rfl]
      simp [exB, exS, ev, evs, evT, evTA, evTO, evAnd, evOr, bw, vw0, vw1, vw2, vw3, vw4, vw5, vw7, truth, bindP, bindNs, isoR, lim, kill, ownAt, isLst, isDic, obOf, Ob.toD, c__law_value, st0, e1, ez, ek, e2, ed]
    | false =>
      obtain ⟨x, p1, p2, f1⟩ := draw_ok' n (by omega) G (a + 1) 4 (by omega) (by omega)
      obtain ⟨y, p3, p4, f2⟩ := draw_ok' n (by omega) G (a + 1 + 1) 12 (by omega) (by omega)
      obtain ⟨z, p5, p6, f3⟩ := draw_ok' n (by omega) G (a + 1 + 1 + 1) 4 (by omega) (by omega)
      obtain ⟨w, h3, h4, e2⟩ := draw_ok' n (by omega) G (a + 1 + 1 + 1 + 1) 5 (by omega) (by omega)
      obtain ⟨d, hd, ed⟩ := idx_lD (f := fun i : Int => D.int i) (xs := [x, y - 6, z, 9999, -9999]) h3 h4
      have bs : binD .sub (.int y) (.int 6) = some (.int (y - 6)) := rfl
      refine ⟨.int d, a + 1 + 1 + 1 + 1 + 1, by omega, ⟨.int d ?_, fun _ => rfl⟩, ?_⟩
      · simp only [List.mem_cons, List.not_mem_nil, or_false] at hd
        rcases hd with rfl | rfl | rfl | rfl | rfl <;> omega
      · simp only [List.map_cons, List.map_nil] at ed
        rw [fn_at (F := c__law_value) rfl, runFn_st rfl rfl]
        simp [exB, exS, ev, evs, evT, evTA, evTO, evAnd, evOr, bw, vw0, vw1, vw2, vw3, vw4, vw5, vw7, truth, bindP, bindNs, isoR, lim, kill, ownAt, isLst, isDic, obOf, Ob.toD, c__law_value, st0, e1, ez, ek, f1, f2, bs, f3, e2, ed]
/-! ### what is told -/
theorem subx (n : Nat) : (DI.run prog n).sub 1 0 = true ∧ (DI.run prog n).sub 1 1 = true := by rw [run_sub]; exact ⟨by decide +kernel, by decide +kernel⟩
def refT (z : Str) : D := .tup [.str "refused", .str z]
theorem told_d (n : Nat) (w : Str) (vs : List D) (d : D) (hv : nobs vs = true) (hd : nob d = true) (h : (DI.run prog n).fn 3 [.str w, .lst vs] [] = .ok d []) (S : Store) : (DI.run prog (n + 1)).fn 16 [.str w, .lst vs] S = .ok d S := by
  have nb : nobs [.str w, .lst vs] = true := by
    show (true && (nobs vs && true)) = true
    rw [hv]; rfl
  rw [fn_at (F := c__law_told) rfl, runFn_iso rfl rfl nb]
  simp [exB, exS, ev, evs, evT, evTA, evTO, evAnd, evOr, bw, vw0, vw1, vw2, vw3, vw4, vw5, vw7, truth, bindP, bindNs, isoR, lim, kill, ownAt, isLst, isDic, obOf, Ob.toD, c__law_told, st0, h, hd]
theorem told_no (n : Nat) (w : Str) (vs : List D) (z : Str) (hv : nobs vs = true) (h : (DI.run prog n).fn 3 [.str w, .lst vs] [] = .err ⟨1, [("reason", .str z)]⟩ []) (S : Store) : (DI.run prog (n + 1)).fn 16 [.str w, .lst vs] S = .ok (refT z) S := by
  have nb : nobs [.str w, .lst vs] = true := by
    show (true && (nobs vs && true)) = true
    rw [hv]; rfl
  rw [fn_at (F := c__law_told) rfl, runFn_iso rfl rfl nb]
  have s1 := (subx n).1
  have s2 := (subx n).2
  have lk : List.lookup ("reason" : Str) [(("reason" : Str), D.str z)] = some (.str z) := by simp
  simp [exB, exS, ev, evs, evT, evTA, evTO, evAnd, evOr, bw, vw0, vw1, vw2, vw3, vw4, vw5, vw7, truth, bindP, bindNs, isoR, lim, kill, ownAt, isLst, isDic, obOf, Ob.toD, c__law_told, st0, h, s1, s2, refT, nob, nobs, lk]
theorem same_ok (n : Nat) (hn : 1 ≤ n) (d : D) (h : Sh 60 6000 d) (hv : ∀ S, view S d = d) (hb : nob d = true) (S : Store) : (DI.run prog n).fn 8 [d, d] S = .ok (.bl true) S := by
  obtain ⟨n, rfl⟩ : ∃ m, n = m + 1 := ⟨n - 1, by omega⟩
  have R := h.repr
  have E := eq_str _ _ (shown_ok h.p) (shown_ok h.p)
  rw [decide_eq_true rfl] at E
  have N1 : nobs [d, d] = true := by simp [nobs, hb]
  rw [fn_at (F := c__law_same) rfl]
  simp [runFn, c__law_same, exB, exS, ev, st0, bw, hv, vw3, R, E, N1, isoR, nob]
theorem bill (xs : List D) : biD .lst (.lst xs) = some (.lst xs) := rfl
theorem list_is_ok (n : Nat) (hn : 1 ≤ n) (xs : List D) (h : Sh 60 6000 (.lst xs)) (hb : nobs xs = true) (S : Store) : (DI.run prog n).fn 7 [.lst xs, .lst xs] S = .ok (.bl true) S := by
  obtain ⟨n, rfl⟩ : ∃ m, n = m + 1 := ⟨n - 1, by omega⟩
  have R := h.repr
  have E := eq_str _ _ (shown_ok h.p) (shown_ok h.p)
  rw [decide_eq_true rfl] at E
  have N1 : nobs [.lst xs, .lst xs] = true := by simp [nobs, nob, hb]
  have ty : tyD (.lst xs) .lst = some true := rfl
  rw [fn_at (F := c__law_list_is) rfl]
  simp [runFn, c__law_list_is, exB, exS, ev, evAnd, st0, bw, vw5, ty, bill, vw3, R, E, N1, isoR, nob]
theorem vl_sh {d : D} (h : Vl d) : Sh 60 6000 d := by
  cases h with
  | non => exact Sh.non
  | int i hi => exact Sh.int (Nat.lt_of_le_of_lt hi (by decide)) (by decide)
  | str x hx l => exact Sh.str (letters_ok hx) (Nat.le_trans l (by decide))
theorem get_sh {l : List D} (hv : ∀ d ∈ l, Vl d) (k : Nat) : Sh 60 6000 ((l[k]?).getD .non) := by
  cases e : l[k]? with
  | none => exact Sh.non
  | some d => exact vl_sh (hv d (List.mem_of_getElem? e))
theorem sumV_le : ∀ {l : List D}, (∀ d ∈ l, Vl d) → (sumV l).natAbs ≤ l.length * 1000000000
  | [], _ => by simp [sumV]
  | d :: r, h => by
    have ih := sumV_le fun x hx => h x (List.mem_cons_of_mem _ hx)
    rw [List.length_cons, Nat.add_mul, Nat.one_mul]
    generalize r.length * 1000000000 = B at *
    cases h d List.mem_cons_self with
    | non => rw [show sumV (D.non :: r) = sumV r from rfl]; omega
    | int i hi => rw [show sumV (D.int i :: r) = i + sumV r from rfl]; omega
    | str x hx lx => rw [show sumV (D.str x :: r) = sumV r from rfl]; omega
theorem aggV_sh {i : Fin 9} {l : List D} (hv : ∀ d ∈ l, Vl d) (hl : l.length ≤ 60) : Sh 60 6000 (aggV i l) := by
  have gv : ∀ d ∈ given l, Vl d := fun d hd => (given_vl hv d hd).1
  have hg : ∀ d ∈ srtV (given l), Vl d := srtV_vl gv
  have gl : (given l).length ≤ l.length := List.length_filter_le _ _
  have ul : unlike (given l) ≤ (given l).length := by
    unfold unlike
    have : ∀ (l s : List D), (fresh1 s l).length ≤ l.length := by
      intro l
      induction l with
      | nil => intro s; exact Nat.le_refl _
      | cons x r ih =>
        intro s
        unfold fresh1
        have := ih s
        have := ih (x :: s)
        split <;> simp <;> omega
    exact this _ _
  have sl := sumV_le gv
  unfold aggV
  repeat' split
  all_goals first | exact Sh.non | exact get_sh hv _ | exact get_sh hg _ | exact Sh.int (by omega) (by omega) | exact Sh.int (by have : (given l).length * 1000000000 ≤ 60 * 1000000000 := Nat.mul_le_mul_right _ (by omega); omega) (by omega)
theorem ref_sh (z : String) (h : ((z : Str)).cps.size ≤ 100) : Sh 60 6000 (refT z) :=
  (Shs.tup (Shs.cons (k := 0) (w := 200) (v := 201) (Sh.str (so0 _) (by decide +kernel)) (Shs.cons (k := 0) (w := 200) (v := 0) (Sh.str (so0 _) (by omega)) Shs.nil))).up (by omega) (by omega)
/-! ### the other way round -/
theorem given_rev (l : List D) : given l.reverse = (given l).reverse := by
  unfold given
  rw [List.filter_reverse]
theorem sumV_app : ∀ (l m : List D), sumV (l ++ m) = sumV l + sumV m
  | [], m => by simp [sumV]
  | d :: r, m => by
    have ih := sumV_app r m
    cases d <;> simp [sumV, ih] <;> omega
theorem sumV_rev : ∀ l : List D, sumV l.reverse = sumV l
  | [] => rfl
  | d :: r => by
    rw [List.reverse_cons, sumV_app, sumV_rev r]
    cases d <;> simp [sumV] <;> omega
theorem aggV_rev {i : Fin 9} {l : List D} (hv : ∀ d ∈ l, Vl d) (h7 : i ≠ 7) (h8 : i ≠ 8) : aggV i l.reverse = aggV i l := by
  have gv : ∀ d ∈ given l, Vl d := fun d hd => (given_vl hv d hd).1
  have u : unlike (given l).reverse = unlike (given l) := unlike_perm fun d => by simp
  unfold aggV
  rw [given_rev, List.length_reverse, List.length_reverse, srtV_rev gv, sumV_rev, u, if_neg h7, if_neg h8, if_neg h7, if_neg h8]
  simp
theorem any_rev (l : List D) : l.reverse.any isS = l.any isS := by
  rw [Bool.eq_iff_iff, List.any_eq_true, List.any_eq_true]
  simp
/-! ### tiles -/
def tl (each more : Nat) : Nat → List Int
  | 0 => []
  | m + 1 => tl each more m ++ List.replicate (each + if m + 1 ≤ more then 1 else 0) ((m : Int) + 1)
theorem tl_len (each more : Nat) : ∀ m, (tl each more m).length ≤ m * (each + 1)
  | 0 => by simp [tl]
  | m + 1 => by
    have := tl_len each more m
    rw [tl, List.length_append, List.length_replicate, Nat.add_mul]
    split <;> omega
theorem tl_all : ∀ (s : Fin 20) (c : Fin 25), tl (s.val / (c.val + 1)) (s.val % (c.val + 1)) (min (c.val + 1) s.val) = tl (s.val / (c.val + 1)) (s.val % (c.val + 1)) (c.val + 1) := by decide +kernel
theorem rep1 (k : Nat) (x : D) (hk : k ≤ 1000) : binD .mul (.lst [x]) (.int (k : Int)) = some (.lst (List.replicate k x)) := by
  have e : binD .mul (.lst [x]) (.int (k : Int)) = if -two64 / 4 < (k : Int) ∧ (k : Int) < two64 / 4 ∧ [x].length * (k : Int).toNat ≤ lim then some (.lst (List.replicate (k : Int).toNat [x]).flatten) else none := rfl
  have f : ∀ k, (List.replicate k [x]).flatten = List.replicate k x := fun k => by
    induction k with
    | zero => rfl
    | succ k ih => rw [List.replicate_succ, List.flatten_cons, ih, List.replicate_succ]; rfl
  rw [e, if_pos (by unfold two64 lim; simp; omega), Int.toNat_natCast, f]
theorem bw_none {a : Ex} {ρ : Ev} {S : Store} {r : R D} (h : own? ρ a = none) : bw a ρ S r = r := by rw [bw, h]
theorem bin_ev {cl : Cl} {op : Bop} {a b : Ex} {ρ : Ev} {S : Store} {x y d : D} (h1 : own? ρ a = none) (ha : ev cl a ρ S = .ok x S) (h2 : own? ρ b = none) (hb : ev cl b ρ S = .ok y S) (h : binD op (view S x) (view S y) = some d) : ev cl (.bin op a b) ρ S = .ok d S := by
  rw [ev, bw_none h1, ha, R.bind_ok, bw_none h2, hb, R.bind_ok, h, opt_some]
theorem ife_ev {cl : Cl} {t : Tx} {a b : Ex} {ρ : Ev} {S : Store} {k : Bool} {d : D} (ht : evT cl t ρ S = .ok k S) (h : (if k then ev cl a ρ S else ev cl b ρ S) = .ok d S) : ev cl (.ife t a b) ρ S = .ok d S := by
  rw [ev, ht, R.bind_ok]
  exact h
theorem tile_end (n : Nat) (a0 a1 : Sl) (ei : Int) (mi : D) (i1 k1 : Int) (tt rr : List D) (k : Bool) (cm : cmpD .le (.int i1) mi = some (.bl k)) (hm : ∀ S, view S mi = mi) (hk : (if k then ev (DI.run prog n) (.bin .add (.var 2) (.cst (.int 1))) [a0, a1, .val (.int ei), .val mi, .own (.lst tt), .val (.int i1)] [] else ev (DI.run prog n) (.var 2) [a0, a1, .val (.int ei), .val mi, .own (.lst tt), .val (.int i1)] []) = .ok (.int k1) [])
    (r : binD .mul (.lst [.int i1]) (.int k1) = some (.lst rr)) (x : bmM .ext (.lst tt) [.lst rr] = some (.non, .lst (tt ++ rr))) :
    exB (DI.run prog n) c_tiles_1 [a0, a1, .val (.int ei), .val mi, .own (.lst tt), .val (.int i1)] [] = .nx [a0, a1, .val (.int ei), .val mi, .own (.lst (tt ++ rr)), .un] [] := by
  have t : evT (DI.run prog n) (.val (.cmp .le (.var 5) (.var 3))) [a0, a1, .val (.int ei), .val mi, .own (.lst tt), .val (.int i1)] [] = .ok k [] := by simp [exB, exS, ev, evs, evT, evTA, evTO, evAnd, evOr, bw, vw0, vw1, vw2, vw3, vw4, vw5, vw7, truth, bindP, bindNs, isoR, lim, kill, ownAt, isLst, isDic, obOf, Ob.toD, cm, hm]
  have e1 := ife_ev (cl := DI.run prog n) t hk
  have e0 : ev (DI.run prog n) (.lst (.cons (.var 5) .nil)) [a0, a1, .val (.int ei), .val mi, .own (.lst tt), .val (.int i1)] [] = .ok (.lst [.int i1]) [] := by simp [exB, exS, ev, evs, evT, evTA, evTO, evAnd, evOr, bw, vw0, vw1, vw2, vw3, vw4, vw5, vw7, truth, bindP, bindNs, isoR, lim, kill, ownAt, isLst, isDic, obOf, Ob.toD]
  have e2 := bin_ev (cl := DI.run prog n) (op := .mul) rfl e0 rfl e1 r
  have es : evs (DI.run prog n) (.cons (.bin .mul (.lst (.cons (.var 5) .nil)) (.ife (.val (.cmp .le (.var 5) (.var 3))) (.bin .add (.var 2) (.cst (.int 1))) (.var 2))) .nil) [a0, a1, .val (.int ei), .val mi, .own (.lst tt), .val (.int i1)] [] = .ok [.lst rr] [] := by
    rw [evs, e2, R.bind_ok, evs, R.bind_ok]
  have s1 : exS (DI.run prog n) (.mut 4 .ext (.cons (.bin .mul (.lst (.cons (.var 5) .nil)) (.ife (.val (.cmp .le (.var 5) (.var 3))) (.bin .add (.var 2) (.cst (.int 1))) (.var 2))) .nil)) [a0, a1, .val (.int ei), .val mi, .own (.lst tt), .val (.int i1)] [] = .nx [a0, a1, .val (.int ei), .val mi, .own (.lst (tt ++ rr)), .val (.int i1)] [] := by
    rw [exS, es]
    simp [ownAt, isLst, x]
  rw [c_tiles_1, exB_c s1]
  simp [exB, exS, kill]
theorem tile_step (n : Nat) (a0 a1 : Sl) (each more i : Nat) (he : each ≤ 20) (hi : i < 25) :
    exB (DI.run prog n) c_tiles_1 [a0, a1, .val (.int (each : Int)), .val (.int (more : Int)), .own (.lst ((tl each more i).map .int)), .val (.int ((i : Int) + 1))] [] = .nx [a0, a1, .val (.int (each : Int)), .val (.int (more : Int)), .own (.lst ((tl each more (i + 1)).map .int)), .un] [] := by
  have ll := tl_len each more i
  have few : (tl each more i).length ≤ 1000 := Nat.le_trans ll (Nat.le_trans (Nat.mul_le_mul (by omega : i ≤ 25) (by omega : each + 1 ≤ 21)) (by omega))
  have b1 : binD .add (.int (each : Int)) (.int 1) = some (.int ((each : Int) + 1)) := rfl
  by_cases h : i + 1 ≤ more
  · have cm : cmpD .le (.int ((i : Int) + 1)) (.int (more : Int)) = some (.bl true) := by
      have : decide ((i : Int) + 1 ≤ (more : Int)) = true := decide_eq_true (by omega)
      rw [← this]; rfl
    have r : binD .mul (.lst [.int ((i : Int) + 1)]) (.int ((each : Int) + 1)) = some (.lst (List.replicate (each + 1) (.int ((i : Int) + 1)))) := rep1 (each + 1) (.int ((i : Int) + 1)) (by omega)
    have x := ex1 ((tl each more i).map .int) (List.replicate (each + 1) (.int ((i : Int) + 1))) (by simp; omega)
    have e : (tl each more (i + 1)).map D.int = (tl each more i).map .int ++ List.replicate (each + 1) (.int ((i : Int) + 1)) := by
      rw [tl, if_pos h, List.map_append, List.map_replicate]
    rw [e]
    generalize List.replicate (each + 1) (D.int ((i : Int) + 1)) = rr at r x
    generalize (tl each more i).map D.int = tt at x
    generalize ((i : Int) + 1) = i1 at cm r
    generalize (each : Int) = ei at b1 r
    exact tile_end n a0 a1 ei (.int (more : Int)) i1 (ei + 1) tt rr true cm (fun _ => rfl) (by simp [exB, exS, ev, evs, evT, evTA, evTO, evAnd, evOr, bw, vw0, vw1, vw2, vw3, vw4, vw5, vw7, truth, bindP, bindNs, isoR, lim, kill, ownAt, isLst, isDic, obOf, Ob.toD, b1]) r x
  · have cm : cmpD .le (.int ((i : Int) + 1)) (.int (more : Int)) = some (.bl false) := by
      have : decide ((i : Int) + 1 ≤ (more : Int)) = false := decide_eq_false (by omega)
      rw [← this]; rfl
    have r := rep1 each (.int ((i : Int) + 1)) (by omega)
    have x := ex1 ((tl each more i).map .int) (List.replicate each (.int ((i : Int) + 1))) (by simp; omega)
    have e : (tl each more (i + 1)).map D.int = (tl each more i).map .int ++ List.replicate each (.int ((i : Int) + 1)) := by
      rw [tl, if_neg h, List.map_append, List.map_replicate]; rfl
    rw [e]
    generalize List.replicate each (D.int ((i : Int) + 1)) = rr at r x
    generalize (tl each more i).map D.int = tt at x
    generalize ((i : Int) + 1) = i1 at cm r
    generalize (each : Int) = ei at r
    exact tile_end n a0 a1 ei (.int (more : Int)) i1 ei tt rr false cm (fun _ => rfl) (by simp [exB, exS, ev, evs, evT, evTA, evTO, evAnd, evOr, bw, vw0, vw1, vw2, vw3, vw4, vw5, vw7, truth, bindP, bindNs, isoR, lim, kill, ownAt, isLst, isDic, obOf, Ob.toD]) r x
theorem tile_loop (n s c each more m : Nat) (he : each ≤ 20) (hm : m ≤ 25) (q3 : bi2D .min (.int (c : Int)) (.int (s : Int)) = some (.int (m : Int))) :
    exS (DI.run prog n) w_tiles_1 [.val (.int (s : Int)), .val (.int (c : Int)), .val (.int (each : Int)), .val (.int (more : Int)), .own (.lst []), .un] [] = .nx [.val (.int (s : Int)), .val (.int (c : Int)), .val (.int (each : Int)), .val (.int (more : Int)), .own (.lst ((tl each more m).map .int)), .un] [] := by
  have := for_inv (f := fun d ρ S => RS.opt (bindP (.nm 5) d ρ) fun ρ => exB (DI.run prog n) c_tiles_1 ρ S) (xs := rngN 1 m 1) (ρ := [.val (.int (s : Int)), .val (.int (c : Int)), .val (.int (each : Int)), .val (.int (more : Int)), .own (.lst []), .un]) (S := [])
    (fun i ρ S' => S' = [] ∧ i ≤ m ∧ ρ = [.val (.int (s : Int)), .val (.int (c : Int)), .val (.int (each : Int)), .val (.int (more : Int)), .own (.lst ((tl each more i).map .int)), .un]) ⟨rfl, Nat.zero_le _, rfl⟩ ?_
  · obtain ⟨ρ', S', e, rfl, _, rfl⟩ := this
    rw [rngN_len] at e
    have e2 : ev (DI.run prog n) (.bin .add (.bi2 .min (.var 1) (.var 0)) (.cst (.int 1))) [.val (.int (s : Int)), .val (.int (c : Int)), .val (.int (each : Int)), .val (.int (more : Int)), .own (.lst []), .un] [] = .ok (.int ((m : Int) + 1)) [] := by
      have b : binD .add (.int (m : Int)) (.int 1) = some (.int ((m : Int) + 1)) := rfl
      simp [exB, exS, ev, evs, evT, evTA, evTO, evAnd, evOr, bw, vw0, vw1, vw2, vw3, vw4, vw5, vw7, truth, bindP, bindNs, isoR, lim, kill, ownAt, isLst, isDic, obOf, Ob.toD, q3, b]
    have eI : evI (DI.run prog n) (.rng (.cons (.cst (.int 1)) (.cons (.bin .add (.bi2 .min (.var 1) (.var 0)) (.cst (.int 1))) .nil))) [.val (.int (s : Int)), .val (.int (c : Int)), .val (.int (each : Int)), .val (.int (more : Int)), .own (.lst []), .un] [] = .ok (rngN 1 m 1, none) [] := by
      have := evI_rng2 (DI.run prog n) (.cst (.int 1)) (.bin .add (.bi2 .min (.var 1) (.var 0)) (.cst (.int 1))) [.val (.int (s : Int)), .val (.int (c : Int)), .val (.int (each : Int)), .val (.int (more : Int)), .own (.lst []), .un] [] 1 ((m : Int) + 1) (by simp [exB, exS, ev, evs, evT, evTA, evTO, evAnd, evOr, bw, vw0, vw1, vw2, vw3, vw4, vw5, vw7, truth, bindP, bindNs, isoR, lim, kill, ownAt, isLst, isDic, obOf, Ob.toD]) e2 (sm62i _ (by omega)) (sm62i _ (by omega))
      rw [this]
      congr 2
      have : ((m : Int) + 1 - 1).toNat = m := by omega
      rw [this]
    rw [w_tiles_1, exS, eI]
    exact e
  · rintro i d ρ S' hi ⟨rfl, him, rfl⟩
    obtain ⟨hi, rfl⟩ := rngN_at hi
    have ht : (1 : Int) + (i : Int) * 1 = (i : Int) + 1 := by omega
    rw [ht]
    exact ⟨_, _, tile_step n _ _ each more i he (by omega), rfl, by omega, rfl⟩
theorem div_n (s c : Nat) (hc : 1 ≤ c ∧ c ≤ 25) : binD .fdiv (.int (s : Int)) (.int (c : Int)) = some (.int ((s / c : Nat) : Int)) := by
  have e : binD .fdiv (.int (s : Int)) (.int (c : Int)) = if (0 : Int) < (c : Int) ∧ (c : Int) < 1073741824 then some (D.int ((s : Int) / (c : Int))) else none := rfl
  rw [e, if_pos (by omega), Int.natCast_ediv]
theorem mod_n (s c : Nat) (hc : 1 ≤ c ∧ c ≤ 25) : binD .mod (.int (s : Int)) (.int (c : Int)) = some (.int ((s % c : Nat) : Int)) := by
  have e : binD .mod (.int (s : Int)) (.int (c : Int)) = if (0 : Int) < (c : Int) then some (D.int ((s : Int) % (c : Int))) else none := rfl
  rw [e, if_pos (by omega), Int.natCast_emod]
theorem min_n (s c : Nat) : bi2D .min (.int (c : Int)) (.int (s : Int)) = some (.int ((min c s : Nat) : Int)) := by
  have e : bi2D .min (.int (c : Int)) (.int (s : Int)) = some (D.int (if (s : Int) < (c : Int) then (s : Int) else (c : Int))) := rfl
  rw [e]
  congr 2
  split <;> omega
theorem tiles_ok (n : Nat) (s c : Nat) (hs : s < 20) (hc : 1 ≤ c ∧ c ≤ 25) (S : Store) : (DI.run prog (n + 1)).fn 4 [.int (s : Int), .int (c : Int)] S = .ok (.lst ((tl (s / c) (s % c) (min c s)).map .int)) S := by
  rw [fn_at (F := c_tiles) rfl, runFn_iso rfl rfl rfl]
  have d1 := div_n s c hc
  have d2 := mod_n s c hc
  have q3 := min_n s c
  have each20 : s / c ≤ 20 := Nat.le_trans (Nat.div_le_self _ _) (by omega)
  have m25 : min c s ≤ 25 := by omega
  generalize s / c = each at d1 each20 ⊢
  generalize s % c = more at d2 ⊢
  generalize min c s = m at q3 m25 ⊢
  have lp := tile_loop n s c each more m each20 m25 q3
  have no := nobs_ints (tl each more m)
  generalize (tl each more m).map D.int = res at lp no
  generalize (s : Int) = si at *
  generalize (c : Int) = ci at *
  generalize (each : Int) = ei at *
  generalize (more : Int) = mi at *
  simp [exB, exS, ev, evs, evT, evTA, evTO, evAnd, evOr, bw, vw0, vw1, vw2, vw3, vw4, vw5, vw7, truth, bindP, bindNs, isoR, lim, kill, ownAt, isLst, isDic, obOf, Ob.toD, c_tiles, st0, d1, d2, lp, nob, no]
end K08
set_option Elab.async false
set_option maxRecDepth 100000
set_option maxHeartbeats 1000000
set_option linter.all false
namespace K08
open PySem L2 DI
theorem cmp_ev {cl : Cl} {op : Cop} {a b : Ex} {ρ : Ev} {S : Store} {x y d : D} (h1 : own? ρ a = none) (ha : ev cl a ρ S = .ok x S) (h2 : own? ρ b = none) (hb : ev cl b ρ S = .ok y S) (h : cmpD op (view S x) (view S y) = some d) : ev cl (.cmp op a b) ρ S = .ok d S := by
  rw [ev, bw_none h1, ha, R.bind_ok, bw_none h2, hb, R.bind_ok, h, opt_some]
theorem bi_ev {cl : Cl} {b : Bi} {a : Ex} {ρ : Ev} {S : Store} {x d : D} (h1 : own? ρ a = none) (ha : ev cl a ρ S = .ok x S) (h : biD b (view S x) = some d) : ev cl (.bi b a) ρ S = .ok d S := by
  rw [ev, bw_none h1, ha, R.bind_ok, h, opt_some]
theorem evI_rngS (cl : Cl) (x : Ex) (ρ : Ev) (S S' : Store) (b : Int) (w1 : ev cl x ρ S = .ok (.int b) S') (q1 : small62 b = true) : evI cl (.rng (.cons x .nil)) ρ S = .ok (rngN 0 b.toNat 1, none) S' := by
  rw [evI]
  simp only [evs, w1, R.bind_ok]
  have : rngD [.int b] = some (rngN 0 b.toNat 1) := by
    simp only [rngD, q1, if_true]
  rw [this]
  rfl
/-! ### the due tiles -/
theorem due_step (n s c each more k : Nat) (hs : s < 20) (hc : 1 ≤ c ∧ c ≤ 25) (hk : k < 25) (h1 : s / c = each) (h2 : s % c = more) (S : Store) :
    exB (DI.run prog n) c_law_5 [.un, .un, .un, .un, .val (.int (s : Int)), .val (.int (c : Int)), .val (.lst ((tl each more k).map .int)), .val (.int (k : Int)), .un, .un, .un, .un, .un, .un] S = .nx [.un, .un, .un, .un, .val (.int (s : Int)), .val (.int (c : Int)), .val (.lst ((tl each more (k + 1)).map .int)), .un, .un, .un, .un, .un, .un, .un] S := by
  have each20 : each ≤ 20 := by rw [← h1]; exact Nat.le_trans (Nat.div_le_self _ _) (by omega)
  have d1 := div_n s c hc
  have d2 := mod_n s c hc
  rw [h1] at d1
  rw [h2] at d2
  have ll := tl_len each more k
  have few : (tl each more k).length ≤ 1000 := Nat.le_trans ll (Nat.le_trans (Nat.mul_le_mul (by omega : k ≤ 25) (by omega : each + 1 ≤ 21)) (by omega))
  let q : Nat := each + if k + 1 ≤ more then 1 else 0
  have hq : q ≤ 1000 := by show each + _ ≤ 1000; split <;> omega
  have r := rep1 q (.int ((k : Int) + 1)) hq
  have e : (tl each more (k + 1)).map D.int = (tl each more k).map .int ++ List.replicate q (.int ((k : Int) + 1)) := by
    rw [tl, List.map_append, List.map_replicate]
  rw [e]
  have ad := ad1 ((tl each more k).map .int) (List.replicate q (.int ((k : Int) + 1))) (by simp; omega)
  have lt : cmpD .lt (.int (k : Int)) (.int (more : Int)) = some (.bl (decide (k + 1 ≤ more))) := by
    have e : cmpD .lt (.int (k : Int)) (.int (more : Int)) = some (.bl (decide ((k : Int) < (more : Int)))) := rfl
    have z : decide ((k : Int) < (more : Int)) = decide (k + 1 ≤ more) := by
      by_cases h : k + 1 ≤ more
      · rw [decide_eq_true h, decide_eq_true (by omega)]
      · rw [decide_eq_false h, decide_eq_false (by omega)]
    rw [e, z]
  have bi1 : biD .int (.bl (decide (k + 1 ≤ more))) = some (.int ((if k + 1 ≤ more then 1 else 0 : Nat) : Int)) := by
    by_cases h : k + 1 ≤ more
    · rw [decide_eq_true h, if_pos h]; rfl
    · rw [decide_eq_false h, if_neg h]; rfl
  have adq : binD .add (.int (each : Int)) (.int ((if k + 1 ≤ more then 1 else 0 : Nat) : Int)) = some (.int (q : Int)) := by
    show some (D.int ((each : Int) + ((if k + 1 ≤ more then 1 else 0 : Nat) : Int))) = some (.int ((each + (if k + 1 ≤ more then 1 else 0) : Nat) : Int))
    rw [Int.natCast_add]
  have k1 : binD .add (.int (k : Int)) (.int 1) = some (.int ((k : Int) + 1)) := rfl
  have bi0 : biD .int (.int (s : Int)) = some (.int (s : Int)) := rfl
  generalize List.replicate q (D.int ((k : Int) + 1)) = rr at r ad
  generalize (tl each more k).map D.int = tt at ad
  have x1 : ev (DI.run prog n) (.bin .fdiv (.var 4) (.var 5)) [.un, .un, .un, .un, .val (.int (s : Int)), .val (.int (c : Int)), .val (.lst tt), .val (.int (k : Int)), .un, .un, .un, .un, .un, .un] S = .ok (.int (each : Int)) S := bin_ev (x := .int (s : Int)) (y := .int (c : Int)) rfl (by simp [exB, exS, ev, evs, evT, evTA, evTO, evAnd, evOr, bw, vw0, vw1, vw2, vw3, vw4, vw5, vw7, truth, bindP, bindNs, isoR, lim, kill, ownAt, isLst, isDic, obOf, Ob.toD]) rfl (by simp [exB, exS, ev, evs, evT, evTA, evTO, evAnd, evOr, bw, vw0, vw1, vw2, vw3, vw4, vw5, vw7, truth, bindP, bindNs, isoR, lim, kill, ownAt, isLst, isDic, obOf, Ob.toD]) d1
  have x2a : ev (DI.run prog n) (.bi .int (.var 4)) [.un, .un, .un, .un, .val (.int (s : Int)), .val (.int (c : Int)), .val (.lst tt), .val (.int (k : Int)), .un, .un, .un, .un, .un, .un] S = .ok (.int (s : Int)) S := bi_ev (x := .int (s : Int)) rfl (by simp [exB, exS, ev, evs, evT, evTA, evTO, evAnd, evOr, bw, vw0, vw1, vw2, vw3, vw4, vw5, vw7, truth, bindP, bindNs, isoR, lim, kill, ownAt, isLst, isDic, obOf, Ob.toD]) bi0
  have x2 : ev (DI.run prog n) (.bin .mod (.bi .int (.var 4)) (.var 5)) [.un, .un, .un, .un, .val (.int (s : Int)), .val (.int (c : Int)), .val (.lst tt), .val (.int (k : Int)), .un, .un, .un, .un, .un, .un] S = .ok (.int (more : Int)) S := bin_ev (y := .int (c : Int)) rfl x2a rfl (by simp [exB, exS, ev, evs, evT, evTA, evTO, evAnd, evOr, bw, vw0, vw1, vw2, vw3, vw4, vw5, vw7, truth, bindP, bindNs, isoR, lim, kill, ownAt, isLst, isDic, obOf, Ob.toD]) d2
  have x3 : ev (DI.run prog n) (.cmp .lt (.var 7) (.bin .mod (.bi .int (.var 4)) (.var 5))) [.un, .un, .un, .un, .val (.int (s : Int)), .val (.int (c : Int)), .val (.lst tt), .val (.int (k : Int)), .un, .un, .un, .un, .un, .un] S = .ok (.bl (decide (k + 1 ≤ more))) S := cmp_ev (x := .int (k : Int)) rfl (by simp [exB, exS, ev, evs, evT, evTA, evTO, evAnd, evOr, bw, vw0, vw1, vw2, vw3, vw4, vw5, vw7, truth, bindP, bindNs, isoR, lim, kill, ownAt, isLst, isDic, obOf, Ob.toD]) rfl x2 lt
  have x4 : ev (DI.run prog n) (.bi .int (.cmp .lt (.var 7) (.bin .mod (.bi .int (.var 4)) (.var 5)))) [.un, .un, .un, .un, .val (.int (s : Int)), .val (.int (c : Int)), .val (.lst tt), .val (.int (k : Int)), .un, .un, .un, .un, .un, .un] S = .ok (.int ((if k + 1 ≤ more then 1 else 0 : Nat) : Int)) S := bi_ev rfl x3 bi1
  have x5 := bin_ev (cl := DI.run prog n) (op := .add) rfl x1 rfl x4 adq
  have x6a : ev (DI.run prog n) (.bin .add (.var 7) (.cst (.int 1))) [.un, .un, .un, .un, .val (.int (s : Int)), .val (.int (c : Int)), .val (.lst tt), .val (.int (k : Int)), .un, .un, .un, .un, .un, .un] S = .ok (.int ((k : Int) + 1)) S := bin_ev (x := .int (k : Int)) (y := .int 1) rfl (by simp [exB, exS, ev, evs, evT, evTA, evTO, evAnd, evOr, bw, vw0, vw1, vw2, vw3, vw4, vw5, vw7, truth, bindP, bindNs, isoR, lim, kill, ownAt, isLst, isDic, obOf, Ob.toD]) rfl (by simp [exB, exS, ev, evs, evT, evTA, evTO, evAnd, evOr, bw, vw0, vw1, vw2, vw3, vw4, vw5, vw7, truth, bindP, bindNs, isoR, lim, kill, ownAt, isLst, isDic, obOf, Ob.toD]) k1
  have x6 : ev (DI.run prog n) (.lst (.cons (.bin .add (.var 7) (.cst (.int 1))) .nil)) [.un, .un, .un, .un, .val (.int (s : Int)), .val (.int (c : Int)), .val (.lst tt), .val (.int (k : Int)), .un, .un, .un, .un, .un, .un] S = .ok (.lst [.int ((k : Int) + 1)]) S := by
    rw [ev, evs, x6a, R.bind_ok, evs, R.bind_ok, R.bind_ok, if_pos (by show 1 ≤ lim; unfold lim; omega)]
  have x7 := bin_ev (cl := DI.run prog n) (op := .mul) rfl x6 rfl x5 r
  have x8 := bin_ev (cl := DI.run prog n) (op := .add) (a := .var 6) (x := .lst tt) rfl (by simp [exB, exS, ev, evs, evT, evTA, evTO, evAnd, evOr, bw, vw0, vw1, vw2, vw3, vw4, vw5, vw7, truth, bindP, bindNs, isoR, lim, kill, ownAt, isLst, isDic, obOf, Ob.toD]) rfl x7 ad
  rw [c_law_5, exB_c (set_ev x8 (by simp))]
  simp [exB, exS, kill]
theorem due_loop (n s c : Nat) (hs : s < 20) (hc : 1 ≤ c ∧ c ≤ 25) (S : Store) :
    exS (DI.run prog n) w_law_4 [.un, .un, .un, .un, .val (.int (s : Int)), .val (.int (c : Int)), .val (.lst []), .un, .un, .un, .un, .un, .un, .un] S = .nx [.un, .un, .un, .un, .val (.int (s : Int)), .val (.int (c : Int)), .val (.lst ((tl (s / c) (s % c) c).map .int)), .un, .un, .un, .un, .un, .un, .un] S := by
  have := for_inv (f := fun d ρ S => RS.opt (bindP (.nm 7) d ρ) fun ρ => exB (DI.run prog n) c_law_5 ρ S) (xs := rngN 0 c 1) (ρ := [.un, .un, .un, .un, .val (.int (s : Int)), .val (.int (c : Int)), .val (.lst []), .un, .un, .un, .un, .un, .un, .un]) (S := S)
    (fun i ρ S' => S' = S ∧ i ≤ c ∧ ρ = [.un, .un, .un, .un, .val (.int (s : Int)), .val (.int (c : Int)), .val (.lst ((tl (s / c) (s % c) i).map .int)), .un, .un, .un, .un, .un, .un, .un]) ⟨rfl, Nat.zero_le _, rfl⟩ ?_
  · obtain ⟨ρ', S', e, rfl, _, rfl⟩ := this
    rw [rngN_len] at e
    have eI : evI (DI.run prog n) (.rng (.cons (.var 5) .nil)) [.un, .un, .un, .un, .val (.int (s : Int)), .val (.int (c : Int)), .val (.lst []), .un, .un, .un, .un, .un, .un, .un] S' = .ok (rngN 0 c 1, none) S' := by
      rw [evI_rng1 _ _ _ _ (c : Int) (by simp [exB, exS, ev, evs, evT, evTA, evTO, evAnd, evOr, bw, vw0, vw1, vw2, vw3, vw4, vw5, vw7, truth, bindP, bindNs, isoR, lim, kill, ownAt, isLst, isDic, obOf, Ob.toD]) (sm62i _ (by omega)), Int.toNat_natCast]
    rw [w_law_4, exS, eI]
    exact e
  · rintro i d ρ S' hi ⟨rfl, him, rfl⟩
    obtain ⟨hi, rfl⟩ := rngN_at hi
    have ht : (0 : Int) + (i : Int) * 1 = (i : Int) := by omega
    rw [ht]
    exact ⟨_, _, due_step n s c _ _ i hs hc (by omega) rfl rfl S', rfl, by omega, rfl⟩
/-! ### a turn -/
def words : List D := [.str "size", .str "count", .str "different", .str "sum", .str "least", .str "greatest", .str "median", .str "first", .str "last"]
theorem words_at : ∀ i : Fin 9, idxD (.lst words) (.int ((i.val : Nat) : Int)) = some (.str (wd i)) := by decide +kernel
theorem values_ok (n : Nat) (hn : 2 ≤ n) (t : Bool) (G : List Int) (a : Int) (ha : 0 ≤ a) (a2 a3 a9 a10 : Sl) : ∃ vs a', 0 ≤ a' ∧ vs.length ≤ 10 ∧ (∀ d ∈ vs, Kd t d) ∧
    ev (DI.run prog n) w_law_1 [.un, .val (.obj 0), a2, a3, .un, .un, .un, .un, .val (.str (kw t)), .un, .un, .un, .un, .un] (bx G a) = .ok (.lst vs) (bx G a') := by
  obtain ⟨v, h1, h2, e1⟩ := draw_ok' n (by omega) G a 11 ha (by omega)
  obtain ⟨vs, a', p1, p2, p3, e2⟩ := lcL_draw (P := Kd t) (St := bx G) (ys := rngN 0 v.toNat 1) (f := fun d S => match bindP (.nm 7) d (kill (Pat.nm 7).slots [.un, .val (.obj 0), a2, a3, .un, .un, .un, .un, .val (.str (kw t)), .un, .un, .un, .un, .un]) with
      | some ρ' => (ev (DI.run prog n) c_law_1 ρ' S).bind fun x S => .ok (some x) S
      | none => .bad) (rngN 0 v.toNat 1) (a + 1) (by omega) (fun d hd b hb => by
    obtain ⟨d', b', q1, q2, e⟩ := value_ok n hn t G b hb
    refine ⟨d', b', q1, q2, ?_⟩
    have e3 : ev (DI.run prog n) c_law_1 [.un, .val (.obj 0), a2, a3, .un, .un, .un, .val d, .val (.str (kw t)), .un, .un, .un, .un, .un] (bx G b) = .ok d' (bx G b') := by simp [exB, exS, ev, evs, evT, evTA, evTO, evAnd, evOr, bw, vw0, vw1, vw2, vw3, vw4, vw5, vw7, truth, bindP, bindNs, isoR, lim, kill, ownAt, isLst, isDic, obOf, Ob.toD, c_law_1, e]
    simp [bindP, kill, Pat.slots, e3])
  rw [rngN_len] at p2
  refine ⟨vs, a', p1, by omega, p3, ?_⟩
  have eI : evI (DI.run prog n) (.rng (.cons (.call 10 (.cons (.var 1) (.cons (.cst (.int 11)) .nil))) .nil)) [.un, .val (.obj 0), a2, a3, .un, .un, .un, .un, .val (.str (kw t)), .un, .un, .un, .un, .un] (bx G a) = .ok (rngN 0 v.toNat 1, none) (bx G (a + 1)) := by
    exact evI_rngS _ _ _ _ _ v (by simp [exB, exS, ev, evs, evT, evTA, evTO, evAnd, evOr, bw, vw0, vw1, vw2, vw3, vw4, vw5, vw7, truth, bindP, bindNs, isoR, lim, kill, ownAt, isLst, isDic, obOf, Ob.toD, e1]) (sm62i v (by omega))
  rw [w_law_1]
  exact lc_is _ _ _ _ _ _ _ _ _ _ eI (limn _ (by omega)) e2
end K08
set_option Elab.async false
set_option maxRecDepth 100000
set_option maxHeartbeats 1000000
set_option linter.all false
namespace K08
open PySem L2 DI
theorem ifs_f {cl : Cl} {t : Tx} {a b : Bl} {ρ : Ev} {S S' : Store} {r : RS} (h : evT cl t ρ S = .ok false S') (e : exB cl b ρ S' = r) : exS cl (.ifs t a b) ρ S = r := by
  rw [exS, h, ← e]
  rfl
theorem due_ok (m : Nat) (i : Fin 9) (t : Bool) {vs : List D} (hv : ∀ d ∈ vs, Kd t d) (hl : vs.length ≤ 10) (S : Store) : ∃ due, (∀ S, view S due = due) ∧ (DI.run prog (m + 5)).fn 16 [.str (wd i), .lst vs] S = .ok due S ∧
    (i ≠ 7 → i ≠ 8 → (DI.run prog (m + 5)).fn 16 [.str (wd i), .lst vs.reverse] S = .ok due S) ∧ (DI.run prog (m + 5)).fn 8 [due, due] S = .ok (.bl true) S ∧
    (((i = 3 ∨ i = 6) ∧ vs.any isS = true ∧ due = refT "text") ∨ (¬ ((i = 3 ∨ i = 6) ∧ vs.any isS = true) ∧ (DI.run prog (m + 5)).fn 15 [.str (wd i), .lst vs] S = .ok due S)) := by
  have vv : ∀ d ∈ vs, Vl d := fun d hd => (hv d hd).1
  have vr : ∀ d ∈ vs.reverse, Vl d := fun d hd => vv d (List.mem_reverse.mp hd)
  have nb := nobs_vl vv
  have nbr := nobs_vl vr
  by_cases hc : (i = 3 ∨ i = 6) ∧ vs.any isS = true
  · refine ⟨refT "text", fun _ => rfl, told_no (m + 4) _ _ _ nb (aggregate_no m i hc.1 vv hc.2 []) S, fun _ _ => told_no (m + 4) _ _ _ nbr (aggregate_no m i hc.1 vr (by rw [any_rev]; exact hc.2) []) S, same_ok _ (by omega) _ (ref_sh "text" (by decide +kernel)) (fun _ => rfl) rfl S, .inl ⟨hc.1, hc.2, rfl⟩⟩
  · have hs : i = 3 ∨ i = 6 → vs.any isS = false := fun h => by
      cases e : vs.any isS with
      | false => rfl
      | true => exact absurd ⟨h, e⟩ hc
    have av := aggV_vl (i := i) vv
    refine ⟨aggV i vs, av.2, told_d (m + 4) _ _ _ nb av.1 (aggregate_ok m i vv (by omega) hs []) S, fun h7 h8 => ?_, same_ok _ (by omega) _ (aggV_sh vv (by omega)) av.2 av.1 S, .inr ⟨hc, law_aggregate_ok (m + 3) i vv (by omega) (fun h => hs (.inl h)) S⟩⟩
    have ar := aggregate_ok m i vr (by rw [List.length_reverse]; omega) (fun h => by rw [any_rev]; exact hs h) []
    rw [aggV_rev vv h7 h8] at ar
    exact told_d (m + 4) _ _ _ nbr av.1 ar S
theorem texts_ok (n : Nat) (vs : List D) (t : Bool) (hv : ∀ d ∈ vs, Kd t d) (hl : vs.length ≤ 10) (a1 a2 a3 a8 a10 : Sl) (S : Store) : ev (DI.run prog n) w_law_2 [.un, a1, a2, a3, .un, .un, .un, .un, a8, .val (.lst vs), a10, .un, .un, .un] S = .ok (.lst (vs.filter isS)) S := by
  have := lcf_mp (fun d : D => d) (fun d => d) isS vs (DI.run prog n) c_law_2 (.nm 13) (.of (.var 9)) c_law_3 [.un, a1, a2, a3, .un, .un, .un, .un, a8, .val (.lst vs), a10, .un, .un, .un] S S (by simp [exB, exS, ev, evs, evT, evTA, evTO, evAnd, evOr, bw, vw0, vw1, vw2, vw3, vw4, vw5, vw7, truth, bindP, bindNs, isoR, lim, kill, ownAt, isLst, isDic, obOf, Ob.toD, evI, ofD, walkD]) (by omega) (fun d hd => by
    have e := tyS (hv d hd).1
    have v := (hv d hd).1.view
    refine ⟨[.un, a1, a2, a3, .un, .un, .un, .un, a8, .val (.lst vs), a10, .un, .un, .val d], by simp [bindP, kill, Pat.slots], ?_, fun _ => by simp [exB, exS, ev, evs, evT, evTA, evTO, evAnd, evOr, bw, vw0, vw1, vw2, vw3, vw4, vw5, vw7, truth, bindP, bindNs, isoR, lim, kill, ownAt, isLst, isDic, obOf, Ob.toD, c_law_2]⟩
    simp [exB, exS, ev, evs, evT, evTA, evTO, evAnd, evOr, bw, vw0, vw1, vw2, vw3, vw4, vw5, vw7, truth, bindP, bindNs, isoR, lim, kill, ownAt, isLst, isDic, obOf, Ob.toD, c_law_3, e, v])
  rw [w_law_2, this, List.map_id']
theorem turn_ok (n : Nat) (hn : 8 ≤ n) (G : List Int) (a : Int) (ha : 0 ≤ a) (b3 : Sl) : ∃ a', 0 ≤ a' ∧
    exB (DI.run prog n) c_law_4 [.un, .val (.obj 0), .val (.lst words), b3, .un, .un, .un, .un, .un, .un, .un, .un, .un, .un] (bx G a) = .nx [.un, .val (.obj 0), .val (.lst words), .un, .un, .un, .un, .un, .un, .un, .un, .un, .un, .un] (bx G a') := by
  obtain ⟨m, rfl⟩ : ∃ m, n = m + 5 := ⟨n - 5, by omega⟩
  obtain ⟨v, h1, h2, e1⟩ := draw_ok' (m + 5) (by omega) G a 3 ha (by omega)
  let t : Bool := decide (v = 0)
  have ez : cmpD .eq (.int v) (.int 0) = some (.bl t) := eqi _ _
  have bI : biD .int (.bl t) = some (.int (if t then 1 else 0)) := rfl
  have ix : idxD (.lst [.str "integer", .str "text"]) (.int (if t then 1 else 0)) = some (.str (kw t)) := by
    generalize t = t
    cases t
    · exact li0 _ _
    · exact li1 _ _ _
  generalize t = t at ez bI ix
  obtain ⟨vs, a1, p1, p2, p3, e2⟩ := values_ok (m + 5) (by omega) t G (a + 1) (by omega) (.val (.lst words)) b3 .un .un
  obtain ⟨w, h3, h4, e3⟩ := draw_ok' (m + 5) (by omega) G a1 9 p1 (by omega)
  obtain ⟨i, ei⟩ : ∃ i : Fin 9, (i.val : Int) = w := ⟨⟨w.toNat, by omega⟩, by simp; omega⟩
  have wi := words_at i
  rw [ei] at wi
  have tx := texts_ok (m + 5) vs t p3 p2 (.val (.obj 0)) (.val (.lst words)) b3 (.val (.str (kw t))) (.val (.str (wd i))) (bx G (a1 + 1))
  obtain ⟨due, dv, t1, t2, sm, cs⟩ := due_ok m i t p3 p2 (bx G (a1 + 1))
  have q1 := q_sm i
  have qf := q_fn i
  have vv : ∀ d ∈ vs, Vl d := fun d hd => (p3 d hd).1
  have ne : cmpD .ne (.lst vs) (.lst vs) = some (.bl false) := by
    have e : cmpD .ne (.lst vs) (.lst vs) = (eqD (.lst vs) (.lst vs)).map fun k => .bl (!k) := rfl
    rw [e, Vl.eql vv vv]
    simp
  have rv : revD (.lst vs) = some (.lst vs.reverse) := rfl
  have gt : cmpD .gt (.int ((vs.filter isS).length : Int)) (.int 0) = some (.bl (vs.any isS)) := by
    have e : cmpD .gt (.int ((vs.filter isS).length : Int)) (.int 0) = some (.bl (decide ((0 : Int) < ((vs.filter isS).length : Int)))) := rfl
    have z : decide ((0 : Int) < ((vs.filter isS).length : Int)) = vs.any isS := by
      rw [Bool.eq_iff_iff, decide_eq_true_eq, List.any_eq_true]
      constructor
      · intro h
        obtain ⟨d, hd⟩ := List.exists_mem_of_length_pos (l := vs.filter isS) (by omega)
        exact ⟨d, (List.mem_filter.mp hd).1, (List.mem_filter.mp hd).2⟩
      · rintro ⟨d, hd, hs⟩
        have := List.length_pos_of_mem (List.mem_filter.mpr ⟨hd, hs⟩)
        omega
    rw [e, z]
  refine ⟨a1 + 1, by omega, ?_⟩
  have s0 : exS (DI.run prog (m + 5)) (.set (.nm 8) (.idx (.lst (.cons (.cst (.str "integer")) (.cons (.cst (.str "text")) .nil))) (.bi .int (.cmp .eq (.call 10 (.cons (.var 1) (.cons (.cst (.int 3)) .nil))) (.cst (.int 0)))))) [.un, .val (.obj 0), .val (.lst words), b3, .un, .un, .un, .un, .un, .un, .un, .un, .un, .un] (bx G a) = .nx [.un, .val (.obj 0), .val (.lst words), b3, .un, .un, .un, .un, .val (.str (kw t)), .un, .un, .un, .un, .un] (bx G (a + 1)) := by
    have c1 : ev (DI.run prog (m + 5)) (.call 10 (.cons (.var 1) (.cons (.cst (.int 3)) .nil))) [.un, .val (.obj 0), .val (.lst words), b3, .un, .un, .un, .un, .un, .un, .un, .un, .un, .un] (bx G a) = .ok (.int v) (bx G (a + 1)) := by simp [exB, exS, ev, evs, evT, evTA, evTO, evAnd, evOr, bw, vw0, vw1, vw2, vw3, vw4, vw5, vw7, truth, bindP, bindNs, isoR, lim, kill, ownAt, isLst, isDic, obOf, Ob.toD, e1]
    have c2 : ev (DI.run prog (m + 5)) (.cmp .eq (.call 10 (.cons (.var 1) (.cons (.cst (.int 3)) .nil))) (.cst (.int 0))) [.un, .val (.obj 0), .val (.lst words), b3, .un, .un, .un, .un, .un, .un, .un, .un, .un, .un] (bx G a) = .ok (.bl t) (bx G (a + 1)) := by
      rw [ev, bw_none rfl, c1, R.bind_ok, bw_none rfl, ev, R.bind_ok]
      show opt (cmpD .eq (.int v) (.int 0)) _ = _
      rw [ez]; rfl
    have c3 : ev (DI.run prog (m + 5)) (.bi .int (.cmp .eq (.call 10 (.cons (.var 1) (.cons (.cst (.int 3)) .nil))) (.cst (.int 0)))) [.un, .val (.obj 0), .val (.lst words), b3, .un, .un, .un, .un, .un, .un, .un, .un, .un, .un] (bx G a) = .ok (.int (if t then 1 else 0)) (bx G (a + 1)) := by
      rw [ev, bw_none rfl, c2, R.bind_ok]
      show opt (biD .int (.bl t)) _ = _
      rw [bI]; rfl
    have c0 : ev (DI.run prog (m + 5)) (.lst (.cons (.cst (.str "integer")) (.cons (.cst (.str "text")) .nil))) [.un, .val (.obj 0), .val (.lst words), b3, .un, .un, .un, .un, .un, .un, .un, .un, .un, .un] (bx G a) = .ok (.lst [.str "integer", .str "text"]) (bx G a) := by simp [exB, exS, ev, evs, evT, evTA, evTO, evAnd, evOr, bw, vw0, vw1, vw2, vw3, vw4, vw5, vw7, truth, bindP, bindNs, isoR, lim, kill, ownAt, isLst, isDic, obOf, Ob.toD]
    exact set_ev (idx_ev (x := .lst [.str "integer", .str "text"]) (by rw [bw_none rfl]; exact c0) c3 ix) (by simp)
  have s1 := set_ev (i := 9) e2 (by simp)
  have s2 : exS (DI.run prog (m + 5)) (.set (.nm 10) (.idx (.var 2) (.call 10 (.cons (.var 1) (.cons (.cst (.int 9)) .nil))))) [.un, .val (.obj 0), .val (.lst words), b3, .un, .un, .un, .un, .val (.str (kw t)), .val (.lst vs), .un, .un, .un, .un] (bx G a1) = .nx [.un, .val (.obj 0), .val (.lst words), b3, .un, .un, .un, .un, .val (.str (kw t)), .val (.lst vs), .val (.str (wd i)), .un, .un, .un] (bx G (a1 + 1)) := by
    generalize words = ws at wi
    have c1 : ev (DI.run prog (m + 5)) (.call 10 (.cons (.var 1) (.cons (.cst (.int 9)) .nil))) [.un, .val (.obj 0), .val (.lst ws), b3, .un, .un, .un, .un, .val (.str (kw t)), .val (.lst vs), .un, .un, .un, .un] (bx G a1) = .ok (.int w) (bx G (a1 + 1)) := by simp [exB, exS, ev, evs, evT, evTA, evTO, evAnd, evOr, bw, vw0, vw1, vw2, vw3, vw4, vw5, vw7, truth, bindP, bindNs, isoR, lim, kill, ownAt, isLst, isDic, obOf, Ob.toD, e3]
    exact set_ev (idx_ev (x := .lst ws) (by simp [exB, exS, ev, evs, evT, evTA, evTO, evAnd, evOr, bw, vw0, vw1, vw2, vw3, vw4, vw5, vw7, truth, bindP, bindNs, isoR, lim, kill, ownAt, isLst, isDic, obOf, Ob.toD]) c1 wi) (by simp)
  generalize words = ws at *
  have s3 : exS (DI.run prog (m + 5)) (.set (.nm 11) (.bi .len w_law_2)) [.un, .val (.obj 0), .val (.lst ws), b3, .un, .un, .un, .un, .val (.str (kw t)), .val (.lst vs), .val (.str (wd i)), .un, .un, .un] (bx G (a1 + 1)) = .nx [.un, .val (.obj 0), .val (.lst ws), b3, .un, .un, .un, .un, .val (.str (kw t)), .val (.lst vs), .val (.str (wd i)), .val (.int ((vs.filter isS).length : Int)), .un, .un] (bx G (a1 + 1)) :=
    set_ev (len_ev (by rw [bw_none (own_w_law_2 _), tx]) rfl) (by simp)
  generalize ((vs.filter isS).length : Int) = L at gt s3
  generalize hr : vs.reverse = rvs at t2 rv
  have s4 : exS (DI.run prog (m + 5)) (.ifs (.and (.cons (.val (.cmp .isin (.var 10) (.tup (.cons (.cst (.str "sum")) (.cons (.cst (.str "median")) .nil))))) (.cons (.val (.cmp .gt (.var 11) (.cst (.int 0)))) .nil))) (.cons (.set (.nm 6) (.tup (.cons (.cst (.str "refused")) (.cons (.cst (.str "text")) .nil)))) .nil) (.cons (.set (.nm 6) (.call 15 (.cons (.var 10) (.cons (.var 9) .nil)))) .nil)) [.un, .val (.obj 0), .val (.lst ws), b3, .un, .un, .un, .un, .val (.str (kw t)), .val (.lst vs), .val (.str (wd i)), .val (.int L), .un, .un] (bx G (a1 + 1)) = .nx [.un, .val (.obj 0), .val (.lst ws), b3, .un, .un, .val due, .un, .val (.str (kw t)), .val (.lst vs), .val (.str (wd i)), .val (.int L), .un, .un] (bx G (a1 + 1)) := by
    rcases cs with ⟨c1, c2, c3⟩ | ⟨c1, c2⟩
    · subst c3
      rw [c2] at gt
      rw [decide_eq_true c1] at q1
      simp [exB, exS, ev, evs, evT, evTA, evTO, evAnd, evOr, bw, vw0, vw1, vw2, vw3, vw4, vw5, vw7, truth, bindP, bindNs, isoR, lim, kill, ownAt, isLst, isDic, obOf, Ob.toD, q1, gt, refT]
    · by_cases h : i = 3 ∨ i = 6
      · have : vs.any isS = false := by
          cases e : vs.any isS with
          | false => rfl
          | true => exact absurd ⟨h, e⟩ c1
        rw [this] at gt
        rw [decide_eq_true h] at q1
        simp [exB, exS, ev, evs, evT, evTA, evTO, evAnd, evOr, bw, vw0, vw1, vw2, vw3, vw4, vw5, vw7, truth, bindP, bindNs, isoR, lim, kill, ownAt, isLst, isDic, obOf, Ob.toD, q1, gt, c2]
      · rw [decide_eq_false h] at q1
        simp [exB, exS, ev, evs, evT, evTA, evTO, evAnd, evOr, bw, vw0, vw1, vw2, vw3, vw4, vw5, vw7, truth, bindP, bindNs, isoR, lim, kill, ownAt, isLst, isDic, obOf, Ob.toD, q1, c2]
  have s5 : exS (DI.run prog (m + 5)) (.set (.nm 12) (.bi .lst (.var 9))) [.un, .val (.obj 0), .val (.lst ws), b3, .un, .un, .val due, .un, .val (.str (kw t)), .val (.lst vs), .val (.str (wd i)), .val (.int L), .un, .un] (bx G (a1 + 1)) = .nx [.un, .val (.obj 0), .val (.lst ws), b3, .un, .un, .val due, .un, .val (.str (kw t)), .val (.lst vs), .val (.str (wd i)), .val (.int L), .val (.lst vs), .un] (bx G (a1 + 1)) := by
    have := bill vs
    simp [exB, exS, ev, evs, evT, evTA, evTO, evAnd, evOr, bw, vw0, vw1, vw2, vw3, vw4, vw5, vw7, truth, bindP, bindNs, isoR, lim, kill, ownAt, isLst, isDic, obOf, Ob.toD, this]
  have s6 : exS (DI.run prog (m + 5)) (.ifs (.or (.cons (.not (.val (.call 8 (.cons (.call 16 (.cons (.var 10) (.cons (.var 9) .nil))) (.cons (.var 6) .nil))))) (.cons (.val (.cmp .ne (.var 9) (.var 12))) .nil))) (.cons (.ret (.cst (.bl false))) .nil) .nil) [.un, .val (.obj 0), .val (.lst ws), b3, .un, .un, .val due, .un, .val (.str (kw t)), .val (.lst vs), .val (.str (wd i)), .val (.int L), .val (.lst vs), .un] (bx G (a1 + 1)) = .nx [.un, .val (.obj 0), .val (.lst ws), b3, .un, .un, .val due, .un, .val (.str (kw t)), .val (.lst vs), .val (.str (wd i)), .val (.int L), .val (.lst vs), .un] (bx G (a1 + 1)) := by
    simp [exB, exS, ev, evs, evT, evTA, evTO, evAnd, evOr, bw, vw0, vw1, vw2, vw3, vw4, vw5, vw7, truth, bindP, bindNs, isoR, lim, kill, ownAt, isLst, isDic, obOf, Ob.toD, t1, sm, ne, dv]
  have s7 : exS (DI.run prog (m + 5)) (.ifs (.and (.cons (.val (.cmp .notin (.var 10) (.tup (.cons (.cst (.str "first")) (.cons (.cst (.str "last")) .nil))))) (.cons (.not (.val (.call 8 (.cons (.call 16 (.cons (.var 10) (.cons (.rev (.var 9)) .nil))) (.cons (.var 6) .nil))))) .nil))) (.cons (.ret (.cst (.bl false))) .nil) .nil) [.un, .val (.obj 0), .val (.lst ws), b3, .un, .un, .val due, .un, .val (.str (kw t)), .val (.lst vs), .val (.str (wd i)), .val (.int L), .val (.lst vs), .un] (bx G (a1 + 1)) = .nx [.un, .val (.obj 0), .val (.lst ws), b3, .un, .un, .val due, .un, .val (.str (kw t)), .val (.lst vs), .val (.str (wd i)), .val (.int L), .val (.lst vs), .un] (bx G (a1 + 1)) := by
    by_cases h : i = 7 ∨ i = 8
    · rw [decide_eq_true h] at qf
      simp [exB, exS, ev, evs, evT, evTA, evTO, evAnd, evOr, bw, vw0, vw1, vw2, vw3, vw4, vw5, vw7, truth, bindP, bindNs, isoR, lim, kill, ownAt, isLst, isDic, obOf, Ob.toD, qf]
    · have t2 := t2 (fun z => h (.inl z)) (fun z => h (.inr z))
      rw [decide_eq_false h] at qf
      simp [exB, exS, ev, evs, evT, evTA, evTO, evAnd, evOr, bw, vw0, vw1, vw2, vw3, vw4, vw5, vw7, truth, bindP, bindNs, isoR, lim, kill, ownAt, isLst, isDic, obOf, Ob.toD, qf, rv, t2, sm]
  rw [c_law_4, exB_c s0, exB_c s1]
  show exB _ (.cons _ _) [.un, .val (.obj 0), .val (.lst ws), b3, .un, .un, .un, .un, .val (.str (kw t)), .val (.lst vs), .un, .un, .un, .un] (bx G a1) = _
  rw [exB_c s2, exB_c s3, exB_c s4, exB_c s5, exB_c s6, exB_c s7, kil_at]
  simp [exB, kill]
theorem other_ok : ∀ j : Fin 4, ∃ z : Str, PyData.strOk z = true ∧ idxD (.lst [.str "nth", .str "rank", .str "sums", .str ""]) (.int ((j.val : Nat) : Int)) = some (.str z) ∧ cmpD .notin (.str z) (.tup [.str "size", .str "count", .str "different", .str "sum", .str "least", .str "greatest", .str "median", .str "first", .str "last"]) = some (.bl true)
  | 0 => ⟨"nth", by decide +kernel, by decide +kernel, by decide +kernel⟩
  | 1 => ⟨"rank", by decide +kernel, by decide +kernel, by decide +kernel⟩
  | 2 => ⟨"sums", by decide +kernel, by decide +kernel, by decide +kernel⟩
  | 3 => ⟨"", by decide +kernel, by decide +kernel, by decide +kernel⟩
theorem tiles_sh (s c : Nat) (hs : s < 20) (hc : 1 ≤ c ∧ c ≤ 25) : Sh 60 6000 (.lst ((tl (s / c) (s % c) c).map .int)) := by
  have small : ∀ (s : Fin 20) (c : Fin 25), (tl (s.val / (c.val + 1)) (s.val % (c.val + 1)) (c.val + 1)).length ≤ 60 ∧ ∀ x ∈ tl (s.val / (c.val + 1)) (s.val % (c.val + 1)) (c.val + 1), x.natAbs ≤ 100 := by decide +kernel
  have h := small ⟨s, hs⟩ ⟨c - 1, by omega⟩
  have e : c - 1 + 1 = c := by omega
  simp only [e] at h
  refine (Shs.lst (Shs.map (k := 0) (w := 40) (f := D.int) fun x hx => Sh.int ?_ (Nat.le_refl _))).up (by omega) ?_
  · have := h.2 x hx
    exact Nat.lt_of_le_of_lt this (by decide +kernel)
  · have := h.1
    omega
theorem law_ok (N : Nat) (hN : 30 ≤ N) (ns : List Int) : (DI.run prog N).fn 17 [.ro (ns.map .int)] [] = .ok (.bl true) [] := by
  obtain ⟨n, rfl⟩ : ∃ n, N = n + 21 := ⟨N - 21, by omega⟩
  obtain ⟨G, hG, e0⟩ := digits_ok (n + 18) ns []
  have nbn : nobs [.ro (ns.map .int)] = true := by simp [nobs, nob, nobs_ints]
  rw [fn_at (F := c_law) rfl, runFn_iso rfl rfl nbn]
  have lp := for_inv (f := fun d ρ S => RS.opt (bindP (.nm 3) d ρ) fun ρ => exB (DI.run prog (n + 20)) c_law_4 ρ S) (xs := rngN 0 6 1) (ρ := [.un, .val (.obj 0), .val (.lst words), .un, .un, .un, .un, .un, .un, .un, .un, .un, .un, .un]) (S := bx G 0)
    (fun i ρ S => ∃ a', 0 ≤ a' ∧ ρ = [.un, .val (.obj 0), .val (.lst words), .un, .un, .un, .un, .un, .un, .un, .un, .un, .un, .un] ∧ S = bx G a') ⟨0, by omega, rfl, rfl⟩ (by
      rintro i d ρ S hi ⟨a', h1, rfl, rfl⟩
      obtain ⟨a2, h2, e⟩ := turn_ok (n + 20) (by omega) G a' h1 (.val d)
      exact ⟨_, _, e, a2, h2, rfl, rfl⟩)
  obtain ⟨ρ', S', el, a1, p1, rfl, rfl⟩ := lp
  have e3 : exS (DI.run prog (n + 20)) w_law_3 [.un, .val (.obj 0), .val (.lst words), .un, .un, .un, .un, .un, .un, .un, .un, .un, .un, .un] (bx G 0) = .nx [.un, .val (.obj 0), .val (.lst words), .un, .un, .un, .un, .un, .un, .un, .un, .un, .un, .un] (bx G a1) := by
    have eI : evI (DI.run prog (n + 20)) (.rng (.cons (.cst (.int 6)) .nil)) [.un, .val (.obj 0), .val (.lst words), .un, .un, .un, .un, .un, .un, .un, .un, .un, .un, .un] (bx G 0) = .ok (rngN 0 6 1, none) (bx G 0) := evI_rng1 _ _ _ _ 6 (by simp [exB, exS, ev, evs, evT, evTA, evTO, evAnd, evOr, bw, vw0, vw1, vw2, vw3, vw4, vw5, vw7, truth, bindP, bindNs, isoR, lim, kill, ownAt, isLst, isDic, obOf, Ob.toD]) (sm62i _ (by omega))
    rw [w_law_3, exS, eI]
    exact el
  obtain ⟨j, j1, j2, ej⟩ := draw_ok' (n + 20) (by omega) G a1 4 p1 (by omega)
  obtain ⟨z, z1, z2, z3⟩ := other_ok ⟨j.toNat, by omega⟩
  have jj : ((j.toNat : Nat) : Int) = j := by omega
  simp only [jj] at z2
  have tb := told_no (n + 19) z [.int 1] "function" rfl (aggregate_bad (n + 18) z z1 z3 []) (bx G (a1 + 1))
  obtain ⟨s, s1, s2, es⟩ := draw_ok' (n + 20) (by omega) G (a1 + 1) 20 (by omega) (by omega)
  obtain ⟨c, c1, c2, ec⟩ := draw_ok' (n + 20) (by omega) G (a1 + 1 + 1) 25 (by omega) (by omega)
  obtain ⟨sn, rfl⟩ : ∃ sn : Nat, (sn : Int) = s := ⟨s.toNat, by omega⟩
  obtain ⟨cn, hcn⟩ : ∃ cn : Nat, (cn : Int) = 1 + c := ⟨(1 + c).toNat, by omega⟩
  have ti := tiles_ok (n + 19) sn cn (by omega) ⟨by omega, by omega⟩ (bx G (a1 + 1 + 1 + 1))
  have dl := due_loop (n + 20) sn cn (by omega) ⟨by omega, by omega⟩ (bx G (a1 + 1 + 1 + 1))
  have ta := tl_all ⟨sn, by omega⟩ ⟨cn - 1, by omega⟩
  have ce : cn - 1 + 1 = cn := by omega
  simp only [ce] at ta
  rw [ta] at ti
  have sh := tiles_sh sn cn (by omega) ⟨by omega, by omega⟩
  have li := list_is_ok (n + 20) (by omega) _ sh (nobs_ints _) (bx G (a1 + 1 + 1 + 1))
  have ca : binD .add (.int 1) (.int c) = some (.int (cn : Int)) := by
    rw [hcn]; rfl
  generalize (tl (sn / cn) (sn % cn) cn).map D.int = res at ti dl li
  have nr : cmpD .ne (refT "function") (.tup [.str "refused", .str "function"]) = some (.bl false) := by decide +kernel
  have rfv : ∀ S, view S (refT "function") = refT "function" := fun _ => rfl
  have st1 : exS (DI.run prog (n + 20)) (.sto 1 (.lst (.cons (.call 9 (.cons (.var 0) (.cons (.cst (.int 0)) (.cons (.cst (.int 30)) .nil)))) (.cons (.cst (.int 0)) .nil)))) [.val (.ro (ns.map .int)), .un, .un, .un, .un, .un, .un, .un, .un, .un, .un, .un, .un, .un] [] = .nx [.val (.ro (ns.map .int)), .val (.obj 0), .un, .un, .un, .un, .un, .un, .un, .un, .un, .un, .un, .un] (bx G 0) := by
    simp [exB, exS, ev, evs, evT, evTA, evTO, evAnd, evOr, bw, vw0, vw1, vw2, vw3, vw4, vw5, vw7, truth, bindP, bindNs, isoR, lim, kill, ownAt, isLst, isDic, obOf, Ob.toD, e0, bx]
  have st2 : exS (DI.run prog (n + 20)) (.set (.nm 2) (.lst (.cons (.cst (.str "size")) (.cons (.cst (.str "count")) (.cons (.cst (.str "different")) (.cons (.cst (.str "sum")) (.cons (.cst (.str "least")) (.cons (.cst (.str "greatest")) (.cons (.cst (.str "median")) (.cons (.cst (.str "first")) (.cons (.cst (.str "last")) .nil))))))))))) [.val (.ro (ns.map .int)), .val (.obj 0), .un, .un, .un, .un, .un, .un, .un, .un, .un, .un, .un, .un] (bx G 0) = .nx [.val (.ro (ns.map .int)), .val (.obj 0), .val (.lst words), .un, .un, .un, .un, .un, .un, .un, .un, .un, .un, .un] (bx G 0) := by
    simp [exB, exS, ev, evs, evT, evTA, evTO, evAnd, evOr, bw, vw0, vw1, vw2, vw3, vw4, vw5, vw7, truth, bindP, bindNs, isoR, lim, kill, ownAt, isLst, isDic, obOf, Ob.toD, words]
  show isoR [] (fin (exB _ (.cons _ (c_law.body.drop 1)) [.val (.ro (ns.map .int)), .un, .un, .un, .un, .un, .un, .un, .un, .un, .un, .un, .un, .un] [])) = _
  rw [exB_c st1]
  show isoR [] (fin (exB _ (.cons _ (c_law.body.drop 2)) _ _)) = _
  rw [exB_c st2]
  show isoR [] (fin (exB _ (.cons (.kil [0]) (c_law.body.drop 3)) _ _)) = _
  rw [kil_at]
  show isoR [] (fin (exB _ (.cons _ (c_law.body.drop 4)) [.un, .val (.obj 0), .val (.lst words), .un, .un, .un, .un, .un, .un, .un, .un, .un, .un, .un] _)) = _
  rw [exB_c e3]
  generalize words = ws
  have e5 : ev (DI.run prog (n + 20)) (.call 16 (.cons (.idx (.lst (.cons (.cst (.str "nth")) (.cons (.cst (.str "rank")) (.cons (.cst (.str "sums")) (.cons (.cst (.str "")) .nil))))) (.call 10 (.cons (.var 1) (.cons (.cst (.int 4)) .nil)))) (.cons (.lst (.cons (.cst (.int 1)) .nil)) .nil))) [.un, .val (.obj 0), .val (.lst ws), .un, .un, .un, .un, .un, .un, .un, .un, .un, .un, .un] (bx G a1) = .ok (refT "function") (bx G (a1 + 1)) := by
    simp [exB, exS, ev, evs, evT, evTA, evTO, evAnd, evOr, bw, vw0, vw1, vw2, vw3, vw4, vw5, vw7, truth, bindP, bindNs, isoR, lim, kill, ownAt, isLst, isDic, obOf, Ob.toD, ej, z2, tb]
  have st4 : exS (DI.run prog (n + 20)) (.ifs (.val (.cmp .ne (.call 16 (.cons (.idx (.lst (.cons (.cst (.str "nth")) (.cons (.cst (.str "rank")) (.cons (.cst (.str "sums")) (.cons (.cst (.str "")) .nil))))) (.call 10 (.cons (.var 1) (.cons (.cst (.int 4)) .nil)))) (.cons (.lst (.cons (.cst (.int 1)) .nil)) .nil))) (.tup (.cons (.cst (.str "refused")) (.cons (.cst (.str "function")) .nil))))) (.cons (.ret (.cst (.bl false))) .nil) .nil) [.un, .val (.obj 0), .val (.lst ws), .un, .un, .un, .un, .un, .un, .un, .un, .un, .un, .un] (bx G a1) = .nx [.un, .val (.obj 0), .val (.lst ws), .un, .un, .un, .un, .un, .un, .un, .un, .un, .un, .un] (bx G (a1 + 1)) := by
    have tp : ev (DI.run prog (n + 20)) (.tup (.cons (.cst (.str "refused")) (.cons (.cst (.str "function")) .nil))) [.un, .val (.obj 0), .val (.lst ws), .un, .un, .un, .un, .un, .un, .un, .un, .un, .un, .un] (bx G (a1 + 1)) = .ok (.tup [.str "refused", .str "function"]) (bx G (a1 + 1)) := by simp [exB, exS, ev, evs, evT, evTA, evTO, evAnd, evOr, bw, vw0, vw1, vw2, vw3, vw4, vw5, vw7, truth, bindP, bindNs, isoR, lim, kill, ownAt, isLst, isDic, obOf, Ob.toD]
    have t : evT (DI.run prog (n + 20)) (.val (.cmp .ne (.call 16 (.cons (.idx (.lst (.cons (.cst (.str "nth")) (.cons (.cst (.str "rank")) (.cons (.cst (.str "sums")) (.cons (.cst (.str "")) .nil))))) (.call 10 (.cons (.var 1) (.cons (.cst (.int 4)) .nil)))) (.cons (.lst (.cons (.cst (.int 1)) .nil)) .nil))) (.tup (.cons (.cst (.str "refused")) (.cons (.cst (.str "function")) .nil))))) [.un, .val (.obj 0), .val (.lst ws), .un, .un, .un, .un, .un, .un, .un, .un, .un, .un, .un] (bx G a1) = .ok false (bx G (a1 + 1)) := by
      rw [evT, bw_none rfl, ev, bw_none rfl, e5, R.bind_ok, bw_none rfl, tp, R.bind_ok, rfv, vw4, nr, opt_some, R.bind_ok, vw2]
      rfl
    exact ifs_f t (exB_nil _ _ _)
  show isoR [] (fin (exB _ (.cons _ (c_law.body.drop 5)) _ _)) = _
  rw [exB_c st4]
  have st5 : exS (DI.run prog (n + 20)) (.set (.nm 4) (.call 10 (.cons (.var 1) (.cons (.cst (.int 20)) .nil)))) [.un, .val (.obj 0), .val (.lst ws), .un, .un, .un, .un, .un, .un, .un, .un, .un, .un, .un] (bx G (a1 + 1)) = .nx [.un, .val (.obj 0), .val (.lst ws), .un, .val (.int (sn : Int)), .un, .un, .un, .un, .un, .un, .un, .un, .un] (bx G (a1 + 1 + 1)) := set_ev (by simp [exB, exS, ev, evs, evT, evTA, evTO, evAnd, evOr, bw, vw0, vw1, vw2, vw3, vw4, vw5, vw7, truth, bindP, bindNs, isoR, lim, kill, ownAt, isLst, isDic, obOf, Ob.toD, es]) (by simp)
  have st6 : exS (DI.run prog (n + 20)) (.set (.nm 5) (.bin .add (.cst (.int 1)) (.call 10 (.cons (.var 1) (.cons (.cst (.int 25)) .nil))))) [.un, .val (.obj 0), .val (.lst ws), .un, .val (.int (sn : Int)), .un, .un, .un, .un, .un, .un, .un, .un, .un] (bx G (a1 + 1 + 1)) = .nx [.un, .val (.obj 0), .val (.lst ws), .un, .val (.int (sn : Int)), .val (.int (cn : Int)), .un, .un, .un, .un, .un, .un, .un, .un] (bx G (a1 + 1 + 1 + 1)) := set_ev (by simp [exB, exS, ev, evs, evT, evTA, evTO, evAnd, evOr, bw, vw0, vw1, vw2, vw3, vw4, vw5, vw7, truth, bindP, bindNs, isoR, lim, kill, ownAt, isLst, isDic, obOf, Ob.toD, ec, ca]) (by simp)
  show isoR [] (fin (exB _ (.cons _ (c_law.body.drop 6)) _ _)) = _
  rw [exB_c st5]
  show isoR [] (fin (exB _ (.cons _ (c_law.body.drop 7)) _ _)) = _
  rw [exB_c st6]
  have st7 : exS (DI.run prog (n + 20)) (.set (.nm 6) (.lst .nil)) [.un, .val (.obj 0), .val (.lst ws), .un, .val (.int (sn : Int)), .val (.int (cn : Int)), .un, .un, .un, .un, .un, .un, .un, .un] (bx G (a1 + 1 + 1 + 1)) = .nx [.un, .val (.obj 0), .val (.lst ws), .un, .val (.int (sn : Int)), .val (.int (cn : Int)), .val (.lst []), .un, .un, .un, .un, .un, .un, .un] (bx G (a1 + 1 + 1 + 1)) := set_ev (by simp [exB, exS, ev, evs, evT, evTA, evTO, evAnd, evOr, bw, vw0, vw1, vw2, vw3, vw4, vw5, vw7, truth, bindP, bindNs, isoR, lim, kill, ownAt, isLst, isDic, obOf, Ob.toD]) (by simp)
  show isoR [] (fin (exB _ (.cons _ (c_law.body.drop 8)) _ _)) = _
  rw [exB_c st7]
  show isoR [] (fin (exB _ (.cons (.kil [0, 1, 2, 3, 8, 9, 10, 11, 12]) (c_law.body.drop 9)) _ _)) = _
  rw [kil_at]
  show isoR [] (fin (exB _ (.cons _ (c_law.body.drop 10)) [.un, .un, .un, .un, .val (.int (sn : Int)), .val (.int (cn : Int)), .val (.lst []), .un, .un, .un, .un, .un, .un, .un] _)) = _
  rw [exB_c dl]
  show isoR [] (fin (exB _ (.cons (.ret _) .nil) _ _)) = _
  rw [exB_r (ret_ev (d := .bl true) (S' := bx G (a1 + 1 + 1 + 1)) (by simp [exB, exS, ev, evs, evT, evTA, evTO, evAnd, evOr, bw, vw0, vw1, vw2, vw3, vw4, vw5, vw7, truth, bindP, bindNs, isoR, lim, kill, ownAt, isLst, isDic, obOf, Ob.toD, ti, li]))]
  rfl
end K08
set_option Elab.async false
set_option maxRecDepth 100000
set_option maxHeartbeats 0
open PySem PySem.W PySem.Calls PyProof.Rows
theorem k08_law (ns : List Int) : ns.length ≤ 63 → (∀ k ∈ ns, Builtin.Int.intBits k ≤ 1048576) → ∃ S, (DI.run K08.prog 30).fn 17 [.ro (ns.map .int)] [] = .ok (.bl true) S := fun _ _ => ⟨_, K08.law_ok 30 (by decide) ns⟩
theorem PySem.Challenge.cw_windowtable_k08_functions_exact_holds : PySem.Challenge.rw_windowtable_k08_functions_exact.Holds := by
  w_on; o_law
  refine HandSHeadRun.head_any (r := K08.Rw) (q := view K08.Rw.prog [24]) (H := DI.hookX 5 K08.dx K08.xn K08.prog) (ob := fun s => DI.obX 5 K08.dx K08.xn K08.prog (HandSHeadRun.getT s)) (M := 6000) (loose := K08.loose) (d := HandSHeadRun.topDef K08.Rw.prog 24) (kwd := [])
    (fun s => DI.obX_eq s) (by kernel_rfl) (fun s => by kernel_rfl) K08.top (by kernel_rfl) (by kernel_rfl) (by kernel_rfl) (by rfl) (by first | assumption | decide +kernel) (by decide +kernel) ⟨rfl, rfl, rfl, rfl, rfl, by decide +kernel⟩ ?hw ?hc
  case hw => w_witness2
  case hc =>
    exact DI.walk_d (l := PySem.Challenge.rw_windowtable_k08_functions_exact) (n := 63) (N := 30) (f := 17) rfl (by decide) (by kernel_rfl) ⟨rfl, by decide, by decide⟩ (by kernel_rfl) (DI.st_of rfl K08.kdx K08.bdx) k08_law
