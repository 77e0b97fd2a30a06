import PyProof.Rows.All
import Wide.All
import OpenK.AllK
import Wide.FinOn
import HandS.ForMost
import HandS.ForExc
import HandS.TryMany
import HandS.Deep
import HandS.Wide
import HandS.TupLe
import KE.SortData
import HandS.HeadHook4
import HandS.TupAny
import HandS.TupMul
import HandS.NoneIn
import PyProof.StrBlock2
import KE.KDictSum
import KE.KDictCopyH
import HandS.TupLen
import HandS.Conv
import HandS.IsInst
import HandS.Strs
import HandS.Text
import HandS.WordsDict
import HandS.DictTup
import HandS.Zip
import HandS.Iter
import HandS.Rev
import HandS.Comp
import HandS.HeadHook2
import HandS.ExcOwn
import HandS.Defaults
import HandS.HeadEnd
import HandS.Head0
import HandS.Head1
import HandS.Head2
import KE.KStateDown
import PySem.Challenge.RW_whoselaw_k73_books_written_and_read
set_option Elab.async false
set_option linter.all false
set_option maxRecDepth 100000
set_option maxHeartbeats 8000000
/-! Ev: a small evaluator of the programs' texts over plain data: values D, a store of what changes, syntax E, B, S, the evaluation. -/
namespace Ev
open PySem
/-! ### values -/
inductive D where
  | non | bl (b : Bool) | int (i : Int) | str (s : Str) | tup (ds : List D) | lst (ds : List D) | ref (n : Nat) | scr (ds : List D) | kon (ds : List D)
  deriving Inhabited
mutual
def D.beq : D → D → Bool
  | .non, .non => true
  | .bl a, .bl b => a == b
  | .int a, .int b => a == b
  | .str a, .str b => decide (a = b)
  | .tup a, .tup b => D.beqs a b
  | .lst a, .lst b => D.beqs a b
  | .ref a, .ref b => a == b
  | .scr a, .scr b => D.beqs a b
  | .kon a, .kon b => D.beqs a b
  | _, _ => false
def D.beqs : List D → List D → Bool
  | [], [] => true
  | a :: as, b :: bs => D.beq a b && D.beqs as bs
  | _, _ => false
end
mutual
theorem D.beq_eq : ∀ (a b : D), D.beq a b = true → a = b
  | .non, b, h => by cases b <;> simp_all [D.beq]
  | .bl _, b, h => by cases b <;> simp_all [D.beq]
  | .int _, b, h => by cases b <;> simp_all [D.beq]
  | .str _, b, h => by cases b <;> simp_all [D.beq]
  | .tup as, b, h => by
    cases b with
    | tup bs => rw [D.beqs_eq as bs (by simpa [D.beq] using h)]
    | _ => simp [D.beq] at h
  | .lst as, b, h => by
    cases b with
    | lst bs => rw [D.beqs_eq as bs (by simpa [D.beq] using h)]
    | _ => simp [D.beq] at h
  | .ref _, b, h => by cases b <;> simp_all [D.beq]
  | .scr as, b, h => by
    cases b with
    | scr bs => rw [D.beqs_eq as bs (by simpa [D.beq] using h)]
    | _ => simp [D.beq] at h
  | .kon as, b, h => by
    cases b with
    | kon bs => rw [D.beqs_eq as bs (by simpa [D.beq] using h)]
    | _ => simp [D.beq] at h
theorem D.beqs_eq : ∀ (a b : List D), D.beqs a b = true → a = b
  | [], b, h => by cases b <;> simp_all [D.beqs]
  | a :: as, b, h => by
    cases b with
    | nil => simp [D.beqs] at h
    | cons b bs =>
      rw [D.beqs, Bool.and_eq_true] at h
      rw [D.beq_eq a b h.1, D.beqs_eq as bs h.2]
end
mutual
theorem D.beq_refl : ∀ a : D, D.beq a a = true
  | .non => by simp [D.beq]
  | .bl _ => by simp [D.beq]
  | .int _ => by simp [D.beq]
  | .str _ => by simp [D.beq]
  | .tup as => by rw [D.beq]; exact D.beqs_refl as
  | .lst as => by rw [D.beq]; exact D.beqs_refl as
  | .ref _ => by simp [D.beq]
  | .scr as => by rw [D.beq]; exact D.beqs_refl as
  | .kon as => by rw [D.beq]; exact D.beqs_refl as
theorem D.beqs_refl : ∀ a : List D, D.beqs a a = true
  | [] => by simp [D.beqs]
  | a :: as => by rw [D.beqs, D.beq_refl a, D.beqs_refl as]; rfl
end
instance : DecidableEq D := fun a b => match h : D.beq a b with
  | true => isTrue (D.beq_eq a b h)
  | false => isFalse fun e => by rw [e, D.beq_refl] at h; cases h
/-! as the library's data -/
mutual
def D.py : D → PyData
  | .non => .none
  | .bl b => .bool b
  | .int i => .int i
  | .str s => .str s
  | .tup ds => .tuple (D.pys ds)
  | .lst ds => .list (D.pys ds)
  | .ref _ => .none
  | .scr _ => .none
  | .kon _ => .none
def D.pys : List D → List PyData
  | [] => []
  | d :: ds => D.py d :: D.pys ds
end
/-! no object that changes is in it; no list in it, if so wanted -/
mutual
def D.pure : D → Bool
  | .ref _ => false
  | .scr _ => false
  | .kon _ => false
  | .tup ds => D.pures ds
  | .lst ds => D.pures ds
  | _ => true
def D.pures : List D → Bool
  | [] => true
  | d :: ds => D.pure d && D.pures ds
end
/-! all objects in it are below n -/
mutual
def D.lt (n : Nat) : D → Bool
  | .ref k => decide (k < n)
  | .tup ds => D.lts n ds
  | .lst ds => D.lts n ds
  | .scr ds => D.lts n ds
  | .kon ds => D.lts n ds
  | _ => true
def D.lts (n : Nat) : List D → Bool
  | [] => true
  | d :: ds => D.lt n d && D.lts n ds
end
/-! ### the store -/
inductive Ob where
  | lst (ds : List D) | dK (kvs : List (L2.Key × D)) | dT (kvs : List (List L2.Key × D)) | ins (c : Nat) (fs : List D) | exn (c : Nat)
  deriving Inhabited, DecidableEq
def Ob.lt (n : Nat) : Ob → Bool
  | .lst ds => D.lts n ds
  | .dK kvs => D.lts n (kvs.map (·.2))
  | .dT kvs => D.lts n (kvs.map (·.2))
  | .ins _ fs => D.lts n fs
  | .exn _ => true
abbrev St := List Ob
abbrev Env := List (Option D)
inductive R (α : Type) where
  | ok (a : α) (s : St) | ex (x : Nat) (s : St) | bad
  deriving Inhabited
def R.bind {α β : Type} (r : R α) (f : α → St → R β) : R β := match r with
  | .ok a s => f a s
  | .ex x s => .ex x s
  | .bad => .bad
def R.of {α : Type} (o : Option α) (s : St) : R α := match o with
  | some a => .ok a s
  | none => .bad
@[simp] theorem R.bind_ok {α β : Type} (a : α) (s : St) (f : α → St → R β) : (R.ok a s).bind f = f a s := rfl
@[simp] theorem R.bind_ex {α β : Type} (x : Nat) (s : St) (f : α → St → R β) : (R.ex x s : R α).bind f = .ex x s := rfl
@[simp] theorem R.bind_bad {α β : Type} (f : α → St → R β) : (R.bad : R α).bind f = .bad := rfl
@[simp] theorem R.of_some {α : Type} (a : α) (s : St) : R.of (some a) s = .ok a s := rfl
@[simp] theorem R.of_none {α : Type} (s : St) : R.of (none : Option α) s = .bad := rfl
theorem R.bind_congr {α β : Type} {r r' : R α} {f : α → St → R β} (h : r = r') : r.bind f = r'.bind f := by rw [h]
/-! ### syntax -/
inductive Op | add | sub | mul | fdiv | mod | pow
  deriving DecidableEq
inductive Cmp | eq | ne | lt | le | gt | ge | isin | notin
  deriving DecidableEq
inductive Ty | int | str | bool | tuple | list | cls (c : Nat) | valueError
  deriving DecidableEq
inductive BI | len | abs | int | str | tuple | list | sorted | all | any | min
  deriving DecidableEq
inductive BM | append | pop | popat | index | tindex | join | split | get | extend | dpop | upper | remove
  deriving DecidableEq
inductive Rc | str | list | tuple | dict
  deriving DecidableEq
def BM.rc : BM → Rc
  | .append => .list | .pop => .list | .popat => .list | .index => .list | .tindex => .tuple | .join => .str | .split => .str | .get => .dict | .extend => .list | .dpop => .dict | .upper => .str | .remove => .list
inductive Tg | nm (i : Nat) | tp (is : List Nat)
  deriving DecidableEq
mutual
inductive E
  | c (d : D) | v (i : Nat) | g (x : Str) (d : D)
  | bin (op : Op) (m : Bool) (a b : E) | neg (a : E) | bo (t : B) | ifx (t : B) (a b : E)
  | tup (es : Es) | lst (m : Bool) (es : Es) | dic (t : Bool)
  | ix (a i : E) | sl (m : Bool) (a : E) (lo hi : OE)
  | call (f : Nat) (es : Es) | meth (c f : Nat) (o : E) (es : Es) | make (c f : Nat) (es : Es)
  | fld (c j : Nat) (o : E)
  | bi (f : BI) (m : Bool) (es : Es)
  | isi (t : Ty) (e : E) | sortk (m : Bool) (e : E)
  | bm (f : BM) (m : Bool) (o : E) (es : Es)
  | lc (m : Bool) (own : List Nat) (tg : Tg) (it : It) (t : OB) (e : E)
inductive OE
  | no | so (e : E)
inductive OB
  | yes | so (t : B)
inductive Es
  | nil | cons (e : E) (es : Es)
inductive B
  | cmp (op : Cmp) (a b : E) | chain (op op' : Cmp) (a b c : E) | isN (neg : Bool) (a : E) | and (a b : B) | or (a b : B) | not (a : B) | val (e : E)
inductive It
  | of (e : E) | rng (a : E) | rng2 (a b : E) | zip (a b : E) | enum (a : E) | rev (a : E)
end
mutual
inductive S
  | set (i : Nat) (e : E) | setT (is : List Nat) (e : E) | par (i j : Nat) (a b : E) | setIx (o i e : E) | setF (c j : Nat) (o e : E) | ex (e : E) | ret (e : E) | retN
  | ite (t : B) (a b : Ss) | loop (tg : Tg) (it : It) (b : Ss) | wh (t : B) (b : Ss) | raise (x : Nat) | tr (b : Ss) (hs : Hs) | pass
inductive Ss
  | nil | cons (s : S) (ss : Ss)
inductive Hs
  | nil | cons (x : Nat) (v : Option Nat) (b : Ss) (hs : Hs)
end
/-! ### what operators and built-ins do -/
def sizeMax : Nat := 16777216
/-- a list that is made: an object that changes, or a value -/
def mk (m : Bool) (ds : List D) (st : St) : R D :=
  if ds.length ≤ sizeMax then (match m with
    | true => .ok (.ref st.length) (st ++ [.lst ds])
    | false => .ok (.lst ds) st) else .bad
/-- a list that is read -/
def view (st : St) : D → D
  | .ref n => (match st[n]? with
    | some (.lst ds) => .lst ds
    | _ => .ref n)
  | d => d
def items (st : St) (d : D) : Option (List D) := match view st d with
  | .lst ds => some ds
  | _ => none
def seqOf (st : St) (d : D) : Option (List D) := match view st d with
  | .lst ds => some ds
  | .tup ds => some ds
  | _ => none
def cut {α : Type} (xs : List α) (lo hi : Option Int) : List α := (xs.drop (HT.sIx xs.length 0 lo)).take (HT.sIx xs.length xs.length hi - HT.sIx xs.length 0 lo)
def keyD : D → Option L2.Key
  | .int i => some (.inl i)
  | .str s => some (.inr s)
  | _ => none
def keysD : List D → Option (List L2.Key)
  | [] => some []
  | d :: ds => match keyD d, keysD ds with
    | some k, some ks => some (k :: ks)
    | _, _ => none
def keyT : D → Option (List L2.Key)
  | .tup ds => keysD ds
  | _ => none
def kD : L2.Key → D
  | .inl i => .int i
  | .inr s => .str s
def valV {κ : Type} [DecidableEq κ] (k : κ) (kvs : List (κ × D)) : Option D := (kvs.find? fun kv => decide (kv.1 = k)).map (·.2)
def putV {κ : Type} [DecidableEq κ] (k : κ) (v : D) (kvs : List (κ × D)) : List (κ × D) :=
  if (kvs.any fun kv => decide (kv.1 = k)) = true then kvs.map (fun kv => if kv.1 = k then (kv.1, v) else kv) else kvs ++ [(k, v)]
def dropV {κ : Type} [DecidableEq κ] (k : κ) (kvs : List (κ × D)) : List (κ × D) := kvs.filter fun kv => decide (kv.1 ≠ k)
/-- what a dict holds at a key: none where it is no dict or no key -/
def lookD (st : St) (o k : D) : Option (Option D) := match o with
  | .ref n => (match st[n]? with
    | some (.dK kvs) => (keyD k).map fun z => valV z kvs
    | some (.dT kvs) => (keyT k).map fun z => valV z kvs
    | _ => none)
  | _ => none
def shapedD (d : D) : Bool := d.pure && SeqAt.shaped d.py
def eqD (st : St) (x y : D) : Option Bool := match x, y with
  | .str a, .str b => some (decide (a = b))
  | x, y => if shapedD (view st x) && shapedD (view st y) then some (PyData.eqv (view st x).py (view st y).py) else none
def flatD : D → Bool
  | .non => true | .bl _ => true | .int _ => true | .str _ => true | _ => false
def inD (st : St) (x y : D) : Option Bool := match view st y with
  | .str t => (match x with
    | .str s => some (!(Builtin.Str.occurrences t s 0 t.length 1).isEmpty)
    | _ => none)
  | .lst ds => if flatD x && ds.all flatD then some (ds.any fun z => PyData.eqv z.py x.py) else if shapedD (view st x) && shapedD (.lst ds) then some (ds.any fun z => PyData.eqv z.py (view st x).py) else none
  | .tup ds => if flatD x && ds.all flatD then some (ds.any fun z => PyData.eqv z.py x.py) else none
  | .kon ds => if flatD x && ds.all flatD then some (ds.any fun z => PyData.eqv z.py x.py) else none
  | .ref n => (lookD st (.ref n) x).map Option.isSome
  | _ => none
def intsOf : List D → Option (List Int)
  | [] => some []
  | .int i :: ds => (intsOf ds).map (i :: ·)
  | _ => none
def geL (xs ys : List Int) : Bool := !HT.lexLt xs ys
def cmpD (op : Cmp) (st : St) (x y : D) : Option Bool := match op with
  | .eq => eqD st x y
  | .ne => (eqD st x y).map (!·)
  | .isin => inD st x y
  | .notin => (inD st x y).map (!·)
  | op => (match x, y with
    | .int i, .int j => (match op with
      | .lt => some (decide (i < j))
      | .le => some (decide (i ≤ j))
      | .gt => some (decide (j < i))
      | .ge => some (decide (j ≤ i))
      | _ => none)
    | .tup a, .tup b => (match intsOf a, intsOf b with
      | some a, some b => (match op with
        | .lt => some (HT.lexLt a b)
        | .ge => some (geL a b)
        | _ => none)
      | _, _ => none)
    | _, _ => none)
def small (i : Int) : Bool := decide (i.natAbs < 18446744073709551616)
def binD (op : Op) (m : Bool) (x y : D) (st : St) : R D := match op with
  | .add => (match view st x, view st y with
    | .int i, .int j => .ok (.int (i + j)) st
    | .str a, .str b => if a.length + b.length ≤ sizeMax then .ok (.str (a ++ b)) st else .bad
    | .tup a, .tup b => if a.length + b.length ≤ sizeMax then .ok (.tup (a ++ b)) st else .bad
    | .lst a, .lst b => mk m (a ++ b) st
    | _, _ => .bad)
  | .sub => (match x, y with
    | .int i, .int j => .ok (.int (i - j)) st
    | _, _ => .bad)
  | .mul => (match view st x, y with
    | .int i, .int j => if small i || small j then .ok (.int (i * j)) st else .bad
    | .tup a, .int j => if 1 ≤ j ∧ j ≤ 1000 ∧ a ≠ [] ∧ a.length ≤ 1000 then .ok (.tup (List.replicate j.toNat a).flatten) st else .bad
    | .lst a, .int j => if 0 ≤ j ∧ j < 1000 ∧ a.length * j.toNat ≤ sizeMax then mk m (List.replicate j.toNat a).flatten st else .bad
    | .str a, .int j => if 0 ≤ j ∧ j ≤ 16777216 ∧ a.length * j.toNat ≤ sizeMax then .ok (.str (Txt.mul a j)) st else .bad
    | _, _ => .bad)
  | .fdiv => (match x, y with
    | .int i, .int j => if 0 < j ∧ j.natAbs.log2 < 9000 then .ok (.int (i / j)) st else .bad
    | _, _ => .bad)
  | .mod => (match x, y with
    | .int i, .int j => if 0 < j then .ok (.int (i % j)) st else .bad
    | _, _ => .bad)
  | .pow => (match x, y with
    | .int i, .int j => if 0 ≤ j ∧ j ≤ 1000000 ∧ i.natAbs < 2 ^ 64 then .ok (.int (i ^ j.toNat)) st else .bad
    | _, _ => .bad)
def ixD (st : St) (o i : D) : Option D := match view st o, i with
  | .lst ds, .int k => L2.atI ds k
  | .tup ds, .int k => L2.atI ds k
  | .kon ds, .int k => L2.atI ds k
  | .str s, .int k => if s.length ≤ sizeMax then (L2.atI s.cps.toList k).map fun c => .str ⟨#[c]⟩ else none
  | .ref n, k => (match lookD st (.ref n) k with
    | some (some v) => some v
    | _ => none)
  | _, _ => none
def partD : Option D → Option (Option Int)
  | none => some none
  | some (.int i) => some (some i)
  | _ => none
def slD (m : Bool) (st : St) (o : D) (lo hi : Option Int) : R D := match view st o with
  | .lst ds => mk m (cut ds lo hi) st
  | .scr ds => mk m (cut ds lo hi) st
  | .tup ds => .ok (.tup (cut ds lo hi)) st
  | .str s => if s.length ≤ sizeMax then .ok (.str ⟨(cut s.cps.toList lo hi).toArray⟩) st else .bad
  | _ => .bad
def tyD (st : St) (isSub : Nat → Nat → Bool) (d : D) (t : Ty) : Option Bool := match view st d with
  | .non => some false
  | .bl _ => some (t == .int || t == .bool)
  | .int _ => some (t == .int)
  | .str _ => some (t == .str)
  | .tup _ => some (t == .tuple)
  | .lst _ => some (t == .list)
  | .scr _ => none
  | .kon _ => none
  | .ref n => (match st[n]? with
    | some (.exn c) => some (match t with
      | .cls c' => isSub c c'
      | .valueError => true
      | _ => false)
    | some (.dK _) => some false
    | some (.dT _) => some false
    | _ => none)
def boolsOf : List D → Option (List Bool)
  | [] => some []
  | .bl i :: ds => (boolsOf ds).map (i :: ·)
  | _ => none
def strsOf : List D → Option (List Str)
  | [] => some []
  | .str i :: ds => (strsOf ds).map (i :: ·)
  | _ => none
def allAlike (ds : List D) : Bool := ds.all fun a => ds.all fun b => PySem.W.alike a.py b.py
def sortable (ds : List D) : Bool := (ds.all fun d => match d with
    | .tup (_ :: _) => true
    | _ => false) || ds.all fun d => match d with
    | .int _ => true
    | .str _ => true
    | _ => false
def depthOk (ds : List D) : Bool := ds.all fun d => decide (d.py.depth ≤ 60)
def sortD (ds : List D) : List D := ds.mergeSort (PySem.W.dataLe false D.py)
def canSort (ds : List D) : Bool := D.pures ds && allAlike ds && sortable ds && depthOk ds
/-- the keys of a dict as values -/
def keysOf (st : St) (o : D) : Option (List D) := match o with
  | .ref n => (match st[n]? with
    | some (.dK kvs) => some (kvs.map fun p => kD p.1)
    | some (.dT kvs) => some (kvs.map fun p => .tup (p.1.map kD))
    | _ => none)
  | _ => none
def minPair : List (Int × Int) → Option (Int × Int)
  | [] => none
  | p :: ps => some (ps.foldl (fun b q => if q.1 < b.1 ∨ (q.1 = b.1 ∧ q.2 < b.2) then q else b) p)
def pairsOf : List D → Option (List (Int × Int))
  | [] => some []
  | .tup [.int a, .int b] :: ds => (pairsOf ds).map ((a, b) :: ·)
  | _ => none
def biD (f : BI) (m : Bool) (st : St) (xs : List D) : R D := match f, xs with
  | .len, [x] => (match view st x with
    | .lst ds => .ok (.int ds.length) st
    | .tup ds => .ok (.int ds.length) st
    | .scr ds => .ok (.int ds.length) st
    | .str s => if s.length ≤ sizeMax then .ok (.int s.length) st else .bad
    | .ref n => (match keysOf st (.ref n) with
      | some ks => .ok (.int ks.length) st
      | none => .bad)
    | _ => .bad)
  | .abs, [.int i] => .ok (.int (if i < 0 then -i else i)) st
  | .int, [.int i] => .ok (.int i) st
  | .int, [.bl b] => .ok (.int (if b then 1 else 0)) st
  | .int, [.str s] => (match PySem.intText? s with
    | some n => if s.length ≤ 640 then .ok (.int n) st else .bad
    | none => .bad)
  | .str, [.int i] => if i.natAbs.log2 < 1920 then .ok (.str (Str.ofString (toString i))) st else .bad
  | .tuple, [x] => (match view st x with
    | .lst ds => .ok (.tup ds) st
    | .tup ds => .ok (.tup ds) st
    | _ => .bad)
  | .list, [x] => (match view st x with
    | .lst ds => mk m ds st
    | .tup ds => mk m ds st
    | .ref n => (match keysOf st (.ref n) with
      | some ks => mk m ks st
      | none => .bad)
    | _ => .bad)
  | .sorted, [x] => (match seqOf st x with
    | some ds => if canSort ds then mk m (sortD ds) st else .bad
    | none => .bad)
  | .all, [x] => (match items st x with
    | some ds => R.of ((boolsOf ds).map fun bs => .bl (bs.all id)) st
    | none => .bad)
  | .any, [x] => (match items st x with
    | some ds => R.of ((boolsOf ds).map fun bs => .bl (bs.any id)) st
    | none => .bad)
  | .min, [x] => (match items st x with
    | some ds => (match pairsOf ds with
      | some ps => R.of ((minPair ps).map fun p => .tup [.int p.1, .int p.2]) st
      | none => .bad)
    | none => .bad)
  | .min, [.int i, .int j] => .ok (.int (if j < i then j else i)) st
  | _, _ => .bad
def sortkD (m : Bool) (st : St) (x : D) : R D := match keysOf st x with
  | some ds => if canSort ds then mk m (sortD ds) st else .bad
  | none => .bad
def bmD (f : BM) (m : Bool) (st : St) (o : D) (xs : List D) : R D := match f, o, xs with
  | .append, .ref n, [x] => (match st[n]? with
    | some (.lst ds) => if ds.length < sizeMax then .ok .non (st.set n (.lst (ds ++ [x]))) else .bad
    | _ => .bad)
  | .extend, .ref n, [x] => (match st[n]?, x with
    | some (.lst ds), .lst es => if ds.length + es.length ≤ sizeMax then .ok .non (st.set n (.lst (ds ++ es))) else .bad
    | _, _ => .bad)
  | .pop, .ref n, [] => (match st[n]? with
    | some (.lst ds) => (match ds[ds.length - 1]? with
      | some x => .ok x (st.set n (.lst ds.dropLast))
      | none => .bad)
    | _ => .bad)
  | .popat, .ref n, [.int i] => (match st[n]? with
    | some (.lst ds) => (match (if 0 ≤ i ∧ i < 2 ^ 62 then ds[i.toNat]? else none) with
      | some x => .ok x (st.set n (.lst (ds.eraseIdx i.toNat)))
      | none => .bad)
    | _ => .bad)
  | .dpop, .ref n, [k] => (match st[n]?, lookD st (.ref n) k with
    | some (.dK kvs), some (some v) => (match keyD k with
      | some z => .ok v (st.set n (.dK (dropV z kvs)))
      | none => .bad)
    | some (.dT kvs), some (some v) => (match keyT k with
      | some z => .ok v (st.set n (.dT (dropV z kvs)))
      | none => .bad)
    | _, _ => .bad)
  | .get, o, [k] => R.of ((lookD st o k).map fun r => r.getD .non) st
  | .get, o, [k, x] => R.of ((lookD st o k).map fun r => r.getD x) st
  | .index, o, [x] => (match items st o with
    | some ds => if ds.all flatD && flatD x then R.of ((ds.findIdx? fun z => PyData.eqv z.py x.py).map fun j => .int j) st else .bad
    | none => .bad)
  | .tindex, .kon ds, [.str z] => (match strsOf ds with
    | some ys => R.of ((ys.findIdx? fun y => decide (y = z)).map fun j => .int j) st
    | none => .bad)
  | .remove, .ref n, [x] => (match st[n]? with
    | some (.lst ds) => (match ds.findIdx? fun z => PyData.eqv z.py x.py with
      | some j => if shapedD x && shapedD (.lst ds) then .ok .non (st.set n (.lst (ds.eraseIdx j))) else .bad
      | none => .bad)
    | _ => .bad)
  | .join, .str a, [x] => (match seqOf st x with
    | some ds => (match strsOf ds with
      | some ys => if (ys.map (·.length)).sum + ys.length * a.length ≤ sizeMax then .ok (.str (Txt.join a ys)) st else .bad
      | none => .bad)
    | none => .bad)
  | .split, .str a, [.str b] => if b.length ≠ 0 ∧ a.length + 2 ≤ sizeMax then mk m ((Txt.split a b).map .str) st else .bad
  | .upper, .str a, [] => if a.length ≤ 5592405 then .ok (.str (Txt.upper a)) st else .bad
  | _, _, _ => .bad
/-- what a method may be asked of -/
def recvD (c : Rc) (st : St) (o : D) : Bool := match c, view st o with
  | .str, .str _ => true
  | .list, .lst _ => true
  | .tuple, .kon _ => true
  | .dict, .ref n => (match st[n]? with
    | some (.dK _) => true
    | some (.dT _) => true
    | _ => false)
  | _, _ => false
def setIxD (st : St) (o i x : D) : Option St := match o with
  | .ref n => (match st[n]? with
    | some (.lst ds) => (match i with
      | .int k => (L2.ixN ds.length k).map fun j => st.set n (.lst (ds.set j x))
      | _ => none)
    | some (.dK kvs) => (match keyD i with
      | some z => if kvs.length < sizeMax then some (st.set n (.dK (putV z x kvs))) else none
      | none => none)
    | some (.dT kvs) => (match keyT i with
      | some z => if kvs.length < sizeMax then some (st.set n (.dT (putV z x kvs))) else none
      | none => none)
    | _ => none)
  | _ => none
def setFD (st : St) (c j : Nat) (o x : D) : Option St := match o with
  | .ref n => (match st[n]? with
    | some (.ins c' fs) => if c = c' then (if j < fs.length then some (st.set n (.ins c (fs.set j x))) else if j = fs.length ∧ j < 100 then some (st.set n (.ins c (fs ++ [x]))) else none) else none
    | _ => none)
  | _ => none
def fldD (st : St) (c j : Nat) (o : D) : Option D := match o with
  | .ref n => (match st[n]? with
    | some (.ins c' fs) => if c = c' then fs[j]? else none
    | _ => none)
  | _ => none
/-! ### evaluation -/
inductive Out where
  | nx (env : Env) (s : St) | rt (d : D) (s : St) | bk (env : Env) (s : St) | ct (env : Env) (s : St) | ex (x : Nat) (env : Env) (s : St) | bad
  deriving Inhabited
def Out.of {α : Type} (r : R α) (env : Env) (f : α → St → Out) : Out := match r with
  | .ok a s => f a s
  | .ex x s => .ex x env s
  | .bad => .bad
def Out.seq (o : Out) (f : Env → St → Out) : Out := match o with
  | .nx env s => f env s
  | o => o
@[simp] theorem Out.of_ok {α : Type} (a : α) (s : St) (env : Env) (f : α → St → Out) : Out.of (.ok a s) env f = f a s := rfl
@[simp] theorem Out.of_ex {α : Type} (x : Nat) (s : St) (env : Env) (f : α → St → Out) : Out.of (.ex x s) env f = .ex x env s := rfl
@[simp] theorem Out.of_bad {α : Type} (env : Env) (f : α → St → Out) : Out.of .bad env f = .bad := rfl
@[simp] theorem Out.seq_nx (env : Env) (s : St) (f : Env → St → Out) : (Out.nx env s).seq f = f env s := rfl
@[simp] theorem Out.seq_rt (d : D) (s : St) (f : Env → St → Out) : (Out.rt d s).seq f = .rt d s := rfl
@[simp] theorem Out.seq_bk (env : Env) (s : St) (f : Env → St → Out) : (Out.bk env s).seq f = .bk env s := rfl
@[simp] theorem Out.seq_ct (env : Env) (s : St) (f : Env → St → Out) : (Out.ct env s).seq f = .ct env s := rfl
@[simp] theorem Out.seq_ex (x : Nat) (env : Env) (s : St) (f : Env → St → Out) : (Out.ex x env s).seq f = .ex x env s := rfl
@[simp] theorem Out.seq_bad (f : Env → St → Out) : Out.bad.seq f = .bad := rfl
theorem Out.of_congr {α : Type} {r r' : R α} {env env' : Env} {f : α → St → Out} (h : r = r') (h' : env = env') : Out.of r env f = Out.of r' env' f := by rw [h, h']
theorem Out.seq_congr {o o' : Out} {f : Env → St → Out} (h : o = o') : o.seq f = o'.seq f := by rw [h]
abbrev Oracle := Nat → List D → St → R D
def asg (tg : Tg) (d : D) (env : Env) : Option Env := match tg with
  | .nm i => some (env.set i (some d))
  | .tp is => (match d with
    | .tup ds => if ds.length = is.length then some ((is.zip ds).foldl (fun e p => e.set p.1 (some p.2)) env) else none
    | .lst ds => if ds.length = is.length then some ((is.zip ds).foldl (fun e p => e.set p.1 (some p.2)) env) else none
    | _ => none)
def forL (body : D → Env → St → Out) (w : St → Bool) : List D → Env → St → Out
  | [], env, st => if w st then .nx env st else .bad
  | d :: ds, env, st => if w st then (match body d env st with
    | .nx env' st' => forL body w ds env' st'
    | .ct env' st' => forL body w ds env' st'
    | .bk env' st' => .nx env' st'
    | o => o) else .bad
def lcL (body : D → St → R (Option D)) (w : St → Bool) : List D → List D → St → R (List D)
  | [], acc, st => if w st then .ok acc st else .bad
  | d :: ds, acc, st => if w st && decide (acc.length < sizeMax) then (match body d st with
    | .ok (some x) st' => lcL body w ds (acc ++ [x]) st'
    | .ok none st' => lcL body w ds acc st'
    | _ => .bad) else .bad
def whileL (test : Env → St → R Bool) (body : Env → St → Out) : Nat → Env → St → Out
  | 0, _, _ => .bad
  | k + 1, env, st => Out.of (test env st) env fun b st1 => match b with
    | false => .nx env st1
    | true => (match body env st1 with
      | .nx env' st' => whileL test body k env' st'
      | .ct env' st' => whileL test body k env' st'
      | .bk env' st' => .nx env' st'
      | o => o)
def wipeD (env : Env) (is : List Nat) : Env := is.foldr (fun i e => e.set i none) env
def rangeD (lo hi : Int) : List D := (List.range (hi - lo).toNat).map fun k => .int (lo + (k : Nat))
def inRange (i : Int) : Bool := decide (i.natAbs < 4611686018427387904)
/-- what is walked: its items, and the lists that must stand as they are -/
structure Walk where
  ds : List D
  w : St → Bool
def stands (n : Nat) (ds : List D) (st : St) : Bool := decide (st[n]? = some (.lst ds))
def walkOf (st : St) : D → Option Walk
  | .tup ds => some ⟨ds, fun _ => true⟩
  | .lst ds => some ⟨ds, fun _ => true⟩
  | .scr ds => some ⟨ds, fun _ => true⟩
  | .kon ds => some ⟨ds, fun _ => true⟩
  | .str s => some ⟨s.cps.toList.map fun c => .str ⟨#[c]⟩, fun _ => true⟩
  | .ref n => (match st[n]? with
    | some (.lst ds) => some ⟨ds, stands n ds⟩
    | _ => none)
  | _ => none
/-- a list (true), a tuple (false) -/
def lkD : D → Option Bool
  | .lst _ => some true | .ref _ => some true | .scr _ => some true | .tup _ => some false | .kon _ => some false | _ => none
def zipD (x y : List D) : List D := (x.zip y).map fun p => .tup [p.1, p.2]
def enumD (ds : List D) : List D := (List.range ds.length).zip ds |>.map fun p => .tup [.int (p.1 : Nat), p.2]
structure Par where
  isSub : Nat → Nat → Bool
  C : Oracle
section
variable (P : Par)
mutual
def ev : E → Env → St → R D
  | .c d, _, st => .ok d st
  | .v i, env, st => R.of (env[i]?.join) st
  | .g _ d, _, st => .ok d st
  | .bin op m a b, env, st => (ev a env st).bind fun x st => (ev b env st).bind fun y st => binD op m x y st
  | .neg a, env, st => (ev a env st).bind fun x st => (match x with
    | .int i => .ok (.int (-i)) st
    | _ => .bad)
  | .bo t, env, st => (evB t env st).bind fun b st => .ok (.bl b) st
  | .ifx t a b, env, st => (evB t env st).bind fun c st => (match c with
    | true => ev a env st
    | false => ev b env st)
  | .tup es, env, st => (evs es env st).bind fun ds st => .ok (.tup ds) st
  | .lst m es, env, st => (evs es env st).bind fun ds st => mk m ds st
  | .dic t, _, st => .ok (.ref st.length) (st ++ [match t with
    | true => .dT []
    | false => .dK []])
  | .ix a i, env, st => (ev a env st).bind fun x st => (ev i env st).bind fun y st => R.of (ixD st x y) st
  | .sl m a lo hi, env, st => (ev a env st).bind fun x st => (evO lo env st).bind fun l st => (evO hi env st).bind fun h st => slD m st x l h
  | .call f es, env, st => (evs es env st).bind fun ds st => P.C f ds st
  | .meth c f o es, env, st => (ev o env st).bind fun x st => (evs es env st).bind fun ds st => (match x with
    | .ref n => (match st[n]? with
      | some (.ins c' _) => if c = c' then P.C f (x :: ds) st else .bad
      | _ => .bad)
    | _ => .bad)
  | .make c f es, env, st => (evs es env st).bind fun ds st => (P.C f (.ref st.length :: ds) (st ++ [.ins c []])).bind fun r st' => (match r with
    | .non => .ok (.ref st.length) st'
    | _ => .bad)
  | .fld c j o, env, st => (ev o env st).bind fun x st => R.of (fldD st c j x) st
  | .bi f m es, env, st => (evs es env st).bind fun ds st => biD f m st ds
  | .isi t e, env, st => (ev e env st).bind fun x st => R.of ((tyD st P.isSub x t).map .bl) st
  | .sortk m e, env, st => (ev e env st).bind fun x st => sortkD m st x
  | .bm f m o es, env, st => (ev o env st).bind fun x st => if recvD f.rc st x then (evs es env st).bind fun ds st => bmD f m st x ds else .bad
  | .lc m own tg it t e, env, st => (evI it env st).bind fun wk st => (lcL (fun d st => match asg tg d (wipeD env own) with
      | some env' => (match t with
        | .yes => (ev e env' st).bind fun x st => .ok (some x) st
        | .so t => (evB t env' st).bind fun b st => (match b with
          | true => (ev e env' st).bind fun x st => .ok (some x) st
          | false => .ok none st))
      | none => .bad) wk.w wk.ds [] st).bind fun acc st => mk m acc st
def evO : OE → Env → St → R (Option Int)
  | .no, _, st => .ok none st
  | .so e, env, st => (ev e env st).bind fun x st => (match x with
    | .int i => .ok (some i) st
    | _ => .bad)
def evs : Es → Env → St → R (List D)
  | .nil, _, st => .ok [] st
  | .cons e es, env, st => (ev e env st).bind fun x st => (evs es env st).bind fun xs st => .ok (x :: xs) st
def evB : B → Env → St → R Bool
  | .cmp op a b, env, st => (ev a env st).bind fun x st => (ev b env st).bind fun y st => R.of (cmpD op st x y) st
  | .chain op op' a b c, env, st => (ev a env st).bind fun x st => (ev b env st).bind fun y st => (match cmpD op st x y with
    | some true => (ev c env st).bind fun z st => R.of (cmpD op' st y z) st
    | some false => .ok false st
    | none => .bad)
  | .isN neg a, env, st => (ev a env st).bind fun x st => .ok (match x with
    | .non => !neg
    | _ => neg) st
  | .and a b, env, st => (evB a env st).bind fun c st => (match c with
    | true => evB b env st
    | false => .ok false st)
  | .or a b, env, st => (evB a env st).bind fun c st => (match c with
    | true => .ok true st
    | false => evB b env st)
  | .not a, env, st => (evB a env st).bind fun c st => .ok (!c) st
  | .val e, env, st => (ev e env st).bind fun x st => (match x with
    | .bl b => .ok b st
    | _ => .bad)
def evI : It → Env → St → R Walk
  | .of e, env, st => (ev e env st).bind fun x st => R.of (walkOf st x) st
  | .rng a, env, st => (ev a env st).bind fun x st => (match x with
    | .int i => if inRange i then .ok ⟨rangeD 0 i, fun _ => true⟩ st else .bad
    | _ => .bad)
  | .rng2 a b, env, st => (ev a env st).bind fun x st => (ev b env st).bind fun y st => (match x, y with
    | .int i, .int j => if inRange i && inRange j then .ok ⟨rangeD i j, fun _ => true⟩ st else .bad
    | _, _ => .bad)
  | .zip a b, env, st => (ev a env st).bind fun x st => (ev b env st).bind fun y st => (match walkOf st x, walkOf st y with
    | some p, some q => if lkD x = lkD y ∧ lkD x ≠ none then .ok ⟨zipD p.ds q.ds, fun st => p.w st && q.w st⟩ st else .bad
    | _, _ => .bad)
  | .enum a, env, st => (ev a env st).bind fun x st => (match walkOf st x with
    | some p => if lkD x = some true then .ok ⟨enumD p.ds, p.w⟩ st else .bad
    | _ => .bad)
  | .rev a, env, st => (ev a env st).bind fun x st => (match walkOf st x with
    | some p => if lkD x ≠ none then .ok ⟨p.ds.reverse, p.w⟩ st else .bad
    | _ => .bad)
end
def whileMax : Nat := 100000
mutual
def exec : S → Env → St → Out
  | .set i e, env, st => Out.of (ev P e env st) env fun x st => .nx (env.set i (some x)) st
  | .setT is e, env, st => Out.of (ev P e env st) env fun x st => (match asg (.tp is) x env with
    | some env' => .nx env' st
    | none => .bad)
  | .par i j a b, env, st => Out.of (ev P a env st) env fun x st => Out.of (ev P b env st) env fun y st => .nx ((env.set i (some x)).set j (some y)) st
  | .setIx o i e, env, st => Out.of (ev P e env st) env fun x st => Out.of (ev P o env st) env fun p st => Out.of (ev P i env st) env fun k st => (match setIxD st p k x with
    | some st' => .nx env st'
    | none => .bad)
  | .setF c j o e, env, st => Out.of (ev P e env st) env fun x st => Out.of (ev P o env st) env fun p st => (match setFD st c j p x with
    | some st' => .nx env st'
    | none => .bad)
  | .ex e, env, st => Out.of (ev P e env st) env fun _ st => .nx env st
  | .ret e, env, st => Out.of (ev P e env st) env fun x st => .rt x st
  | .retN, _, st => .rt .non st
  | .ite t a b, env, st => Out.of (evB P t env st) env fun c st => (match c with
    | true => execs a env st
    | false => execs b env st)
  | .loop tg it b, env, st => Out.of (evI P it env st) env fun wk st => forL (fun d env st => match asg tg d env with
      | some env' => execs b env' st
      | none => .bad) wk.w wk.ds env st
  | .wh t b, env, st => whileL (fun env st => evB P t env st) (fun env st => execs b env st) whileMax env st
  | .raise x, env, st => .ex x env st
  | .tr b hs, env, st => (match execs b env st with
    | .ex x env' st' => handle x hs env' st'
    | o => o)
  | .pass, env, st => .nx env st
def execs : Ss → Env → St → Out
  | .nil, env, st => .nx env st
  | .cons s ss, env, st => (exec s env st).seq fun env st => execs ss env st
def handle (x : Nat) : Hs → Env → St → Out
  | .nil, env, st => .ex x env st
  | .cons y v b hs, env, st => if P.isSub x y then (match v with
      | none => execs b env st
      | some i => (match execs b (env.set i (some (.ref st.length))) (st ++ [.exn x]) with
        | .nx env' st' => .nx (env'.set i none) st'
        | .rt d st' => .rt d st'
        | _ => .bad)) else handle x hs env st
end
end
structure Fn where
  np : Nat
  n : Nat
  dfl : List D
  body : Ss
structure Prog where
  fn : Nat → Option Fn
  isSub : Nat → Nat → Bool
/-- the new objects go, where nothing leans on them -/
def gcOk (n : Nat) (st st' : St) : Bool := decide (n ≤ st'.length) && (List.range n).all fun i => decide (st'[i]? = st[i]?) || (match st'[i]? with
  | some o => o.lt n
  | none => false)
def gc (d : D) (st st' : St) : R D := if d.lt st.length && gcOk st.length st st' then .ok d (st'.take st.length) else .ok d st'
def gcx (x : Nat) (st st' : St) : R D := if gcOk st.length st st' then .ex x (st'.take st.length) else .ex x st'
def finish (st : St) : Out → R D
  | .nx _ st' => gc .non st st'
  | .rt d st' => gc d st st'
  | .ex x _ st' => gcx x st st'
  | _ => .bad
def call (T : Prog) : Nat → Oracle
  | 0, _, _, _ => .bad
  | k + 1, f, args, st => match T.fn f with
    | some fn => (let args' := args ++ fn.dfl.drop (fn.dfl.length - (fn.np - args.length))
      if args'.length = fn.np then finish st (execs ⟨T.isSub, call T k⟩ fn.body (args'.map some ++ List.replicate (fn.n - fn.np) none) st) else .bad)
    | none => .bad
end Ev
/-! Ev2: how values and stores lie in the layer's abstract heap, and what keeps them. -/
namespace Ev
open PySem PySem.Spec PyProof.Rows L2
/-- where the objects of the store lie; lists under construction -/
structure Wd where
  φ : List Addr
  ex : List Addr
def TupAt (W : Wd) (H : Hp) (a : Addr) (vs : List V) : Prop := H a = some (.tup vs) ∧ a ∉ W.φ ∧ a ∉ W.ex
def LstAt (W : Wd) (H : Hp) (a : Addr) (vs : List V) : Prop := H a = some (.lst vs) ∧ a ∉ W.φ ∧ a ∉ W.ex
def ScrAt (K : PySem.W.Frag) (W : Wd) (H : Hp) (a : Addr) (vs : List V) : Prop := (Rd H a (.lst vs) ∧ a ∉ W.φ ∧ a ∉ W.ex) ∨ SqL K (fun _ => none) a vs
theorem rd_none {a : Addr} {o : HO} : ¬ Rd (fun _ => none) a o := by
  rintro (h | ⟨_, h⟩) <;> cases h
theorem TupAt.sq {K : PySem.W.Frag} {W : Wd} {H : Hp} {a : Addr} {vs : List V} (h : TupAt W H a vs) : SqT K H a vs := SqT.of h.1
theorem LstAt.sq {K : PySem.W.Frag} {W : Wd} {H : Hp} {a : Addr} {vs : List V} (h : LstAt W H a vs) : SqL K H a vs := SqL.of h.1
theorem ScrAt.sq {K : PySem.W.Frag} {W : Wd} {H : Hp} {a : Addr} {vs : List V} (h : ScrAt K W H a vs) : SqL K H a vs := by
  rcases h with h | h | h
  · exact .inl h.1
  · exact absurd h rd_none
  · exact .inr h
/-- a tuple of the module -/
def KonAt (K : PySem.W.Frag) (a : Addr) (vs : List V) : Prop :=
  ∃ (o : Obj) (its : Array Value) (n : Nat), K.lookup a = some o ∧ o.cls = .type "tuple" ∧ o.dict = none ∧ o.data = .seq its n ∧ its.size ≤ sizeLine ∧ Vals vs its.toList
theorem KonAt.sq {K : PySem.W.Frag} {H : Hp} {a : Addr} {vs : List V} (h : KonAt K a vs) : SqT K H a vs :=
  let ⟨o, its, n, h1, h2, _, h4, h5, h6⟩ := h; .inr ⟨o, its, n, h1, h2, h4, h5, h6⟩
mutual
inductive Rep (K : PySem.W.Frag) (W : Wd) (H : Hp) : D → V → Prop
  | non : Rep K W H .non .non
  | bl (b : Bool) : Rep K W H (.bl b) (.bl b)
  | int (i : Int) : Rep K W H (.int i) (.int i)
  | str (s : Str) : Rep K W H (.str s) (.str s)
  | tup {a : Addr} {vs : List V} {ds : List D} : TupAt W H a vs → Reps K W H ds vs → Rep K W H (.tup ds) (.ref a)
  | lst {a : Addr} {vs : List V} {ds : List D} : LstAt W H a vs → Reps K W H ds vs → Rep K W H (.lst ds) (.ref a)
  | ref {a : Addr} {n : Nat} : W.φ[n]? = some a → Rep K W H (.ref n) (.ref a)
  | scr {a : Addr} {vs : List V} {ds : List D} : ScrAt K W H a vs → Reps K W H ds vs → Rep K W H (.scr ds) (.ref a)
  | kon {a : Addr} {vs : List V} {ds : List D} : KonAt K a vs → Reps K W H ds vs → Rep K W H (.kon ds) (.ref a)
inductive Reps (K : PySem.W.Frag) (W : Wd) (H : Hp) : List D → List V → Prop
  | nil : Reps K W H [] []
  | cons {d : D} {v : V} {ds : List D} {vs : List V} : Rep K W H d v → Reps K W H ds vs → Reps K W H (d :: ds) (v :: vs)
end
/-- what keeps representations -/
structure Mo (W : Wd) (H : Hp) (W' : Wd) (H' : Hp) : Prop where
  im : ∀ a o, H a = some o → a ∉ W.φ → a ∉ W.ex → H' a = some o ∧ a ∉ W'.φ ∧ a ∉ W'.ex
  rf : ∀ (n : Nat) a, W.φ[n]? = some a → W'.φ[n]? = some a
section
variable {K : PySem.W.Frag} {W W' W'' : Wd} {H H' H'' : Hp}
theorem Mo.rd (m : Mo W H W' H') {a : Addr} {o : HO} (h : Rd H a o ∧ a ∉ W.φ ∧ a ∉ W.ex) : Rd H' a o ∧ a ∉ W'.φ ∧ a ∉ W'.ex := by
  obtain ⟨h | ⟨ob, h⟩, h1, h2⟩ := h
  · obtain ⟨q, r⟩ := m.im a _ h h1 h2
    exact ⟨.inl q, r⟩
  · obtain ⟨q, r⟩ := m.im a _ h h1 h2
    exact ⟨.inr ⟨ob, q⟩, r⟩
theorem TupAt.mo (m : Mo W H W' H') {a : Addr} {vs : List V} (h : TupAt W H a vs) : TupAt W' H' a vs := m.im a _ h.1 h.2.1 h.2.2
theorem LstAt.mo (m : Mo W H W' H') {a : Addr} {vs : List V} (h : LstAt W H a vs) : LstAt W' H' a vs := m.im a _ h.1 h.2.1 h.2.2
theorem ScrAt.mo (m : Mo W H W' H') {a : Addr} {vs : List V} (h : ScrAt K W H a vs) : ScrAt K W' H' a vs := h.imp m.rd id
mutual
theorem Rep.mo (m : Mo W H W' H') : ∀ (d : D) (v : V), Rep K W H d v → Rep K W' H' d v
  | .non, _, h => by cases h; exact .non
  | .bl b, _, h => by cases h; exact .bl b
  | .int i, _, h => by cases h; exact .int i
  | .str s, _, h => by cases h; exact .str s
  | .tup ds, _, h => by
    cases h with
    | tup h1 h2 => exact .tup (h1.mo m) (Reps.mo m ds _ h2)
  | .lst ds, _, h => by
    cases h with
    | lst h1 h2 => exact .lst (h1.mo m) (Reps.mo m ds _ h2)
  | .ref n, _, h => by
    cases h with
    | ref h1 => exact .ref (m.rf _ _ h1)
  | .scr ds, _, h => by
    cases h with
    | scr h1 h2 => exact .scr (h1.mo m) (Reps.mo m ds _ h2)
  | .kon ds, _, h => by
    cases h with
    | kon h1 h2 => exact .kon h1 (Reps.mo m ds _ h2)
theorem Reps.mo (m : Mo W H W' H') : ∀ (ds : List D) (vs : List V), Reps K W H ds vs → Reps K W' H' ds vs
  | [], _, h => by cases h; exact .nil
  | d :: ds, _, h => by
    cases h with
    | cons h1 h2 => exact .cons (Rep.mo m d _ h1) (Reps.mo m ds _ h2)
end
theorem Reps.length : ∀ {ds : List D} {vs : List V}, Reps K W H ds vs → ds.length = vs.length
  | _, _, .nil => rfl
  | _, _, .cons _ t => congrArg Nat.succ t.length
theorem Reps.get : ∀ {ds : List D} {vs : List V} {i : Nat} {d : D}, Reps K W H ds vs → ds[i]? = some d → ∃ v, vs[i]? = some v ∧ Rep K W H d v
  | _, _, _, _, .nil, e => by simp at e
  | _, _, 0, _, .cons r _, e => by simp at e; subst e; exact ⟨_, rfl, r⟩
  | _, _, i + 1, d, .cons _ t, e => by
    obtain ⟨v, h1, h2⟩ := Reps.get (i := i) (d := d) t (by simpa using e)
    exact ⟨v, by simpa using h1, h2⟩
theorem Reps.get' : ∀ {ds : List D} {vs : List V} {i : Nat} {v : V}, Reps K W H ds vs → vs[i]? = some v → ∃ d, ds[i]? = some d ∧ Rep K W H d v
  | _, _, _, _, .nil, e => by simp at e
  | _, _, 0, _, .cons r _, e => by simp at e; subst e; exact ⟨_, rfl, r⟩
  | _, _, i + 1, v, .cons _ t, e => by
    obtain ⟨d, h1, h2⟩ := Reps.get' (i := i) (v := v) t (by simpa using e)
    exact ⟨d, by simpa using h1, h2⟩
theorem Reps.app : ∀ {as bs : List D} {us vs : List V}, Reps K W H as us → Reps K W H bs vs → Reps K W H (as ++ bs) (us ++ vs)
  | _, _, _, _, .nil, s => s
  | _, _, _, _, .cons r t, s => .cons r (Reps.app t s)
theorem Reps.one {d : D} {v : V} (h : Rep K W H d v) : Reps K W H [d] [v] := .cons h .nil
theorem Reps.take : ∀ {ds : List D} {vs : List V} (n : Nat), Reps K W H ds vs → Reps K W H (ds.take n) (vs.take n)
  | _, _, 0, _ => .nil
  | _, _, _ + 1, .nil => .nil
  | _, _, n + 1, .cons r t => .cons r (Reps.take n t)
theorem Reps.drop : ∀ {ds : List D} {vs : List V} (n : Nat), Reps K W H ds vs → Reps K W H (ds.drop n) (vs.drop n)
  | _, _, 0, r => r
  | _, _, _ + 1, .nil => .nil
  | _, _, n + 1, .cons _ t => Reps.drop n t
theorem Reps.set : ∀ {ds : List D} {vs : List V} (n : Nat) {d : D} {v : V}, Reps K W H ds vs → Rep K W H d v → Reps K W H (ds.set n d) (vs.set n v)
  | _, _, _, _, _, .nil, _ => .nil
  | _, _, 0, _, _, .cons _ t, s => .cons s t
  | _, _, n + 1, _, _, .cons r t, s => .cons r (Reps.set n t s)
theorem Reps.erase : ∀ {ds : List D} {vs : List V} (n : Nat), Reps K W H ds vs → Reps K W H (ds.eraseIdx n) (vs.eraseIdx n)
  | _, _, _, .nil => .nil
  | _, _, 0, .cons _ t => t
  | _, _, n + 1, .cons r t => .cons r (Reps.erase n t)
theorem Reps.dropLast {ds : List D} {vs : List V} (h : Reps K W H ds vs) : Reps K W H ds.dropLast vs.dropLast := by
  rw [List.dropLast_eq_take, List.dropLast_eq_take, h.length]
  exact h.take _
theorem Reps.rev {ds : List D} {vs : List V} (h : Reps K W H ds vs) : Reps K W H ds.reverse vs.reverse := by
  induction ds generalizing vs with
  | nil => cases h; exact .nil
  | cons d ds ih =>
    cases h with
    | cons r t =>
      rw [List.reverse_cons, List.reverse_cons]
      exact (ih t).app (.one r)
theorem Reps.rep {ds : List D} {vs : List V} (h : Reps K W H ds vs) : ∀ k : Nat, Reps K W H (List.replicate k ds).flatten (List.replicate k vs).flatten
  | 0 => .nil
  | k + 1 => by
    rw [List.replicate_succ, List.replicate_succ, List.flatten_cons, List.flatten_cons]
    exact h.app (h.rep k)
theorem Reps.all {p : D → Bool} {q : V → Bool} (hp : ∀ d v, Rep K W H d v → p d = true → q v = true) : ∀ {ds : List D} {vs : List V}, Reps K W H ds vs → ds.all p = true → vs.all q = true
  | _, _, .nil, _ => rfl
  | _, _, .cons r t, h => by
    rw [List.all_cons, Bool.and_eq_true] at h ⊢
    exact ⟨hp _ _ r h.1, Reps.all hp t h.2⟩
end
/-! ### the store -/
/-- names of classes and of their attributes -/
structure Nm where
  cls : Nat → Str
  fields : Nat → List Str
section
variable (K : PySem.W.Frag) (nm : Nm) (W : Wd) (H : Hp)
inductive ORep (a : Addr) : Ob → Prop
  | lst {ds : List D} {vs : List V} : H a = some (.lst vs) → Reps K W H ds vs → ORep a (.lst ds)
  | dK {kvs : List (Key × D)} {kws : List (Key × V)} : H a = some (.dK kws) → kvs.map (·.1) = kws.map (·.1) → Reps K W H (kvs.map (·.2)) (kws.map (·.2)) → ORep a (.dK kvs)
  | dT {kvs : List (List Key × D)} {kws : List (List Key × V)} : H a = some (.dT kws) → kvs.map (·.1) = kws.map (·.1) → Reps K W H (kvs.map (·.2)) (kws.map (·.2)) → ORep a (.dT kvs)
  | ins {c : Nat} {dx : Addr} {fs : List D} {gs : List (Str × V)} : H a = some (.ins (He.ga K (nm.cls c)) dx gs) → gs.map (·.1) = (nm.fields c).take fs.length → fs.length ≤ (nm.fields c).length → Reps K W H fs (gs.map (·.2)) → ORep a (.ins c fs)
structure StRep (st : St) : Prop where
  len : W.φ.length = st.length
  nd : W.φ.Nodup
  exs : ∀ a ∈ W.ex, a ∉ W.φ ∧ ∃ vs, H a = some (.lst vs)
  ob : ∀ (i : Nat) a o, W.φ[i]? = some a → st[i]? = some o → ORep K nm W H a o
/-- from one world to a later one -/
structure Ext (W' : Wd) (H' : Hp) : Prop where
  ex : W'.ex = W.ex
  pre : ∃ ψ, W'.φ = W.φ ++ ψ ∧ ∀ a ∈ ψ, H a = none
  keep : ∀ a o, H a = some o → a ∉ W.φ → H' a = some o
  there : ∀ a o, H a = some o → ∃ o', H' a = some o'
end
def EnvRep (K : PySem.W.Frag) (W : Wd) (H : Hp) (env : Env) (σ : L2.St) : Prop :=
  env.length = σ.length ∧ ∀ (i : Nat) d, env[i]? = some (some d) → ∃ v, σ[i]? = some (some v) ∧ Rep K W H d v
section
variable {K : PySem.W.Frag} {nm : Nm} {W W' W'' : Wd} {H H' H'' : Hp} {st st' : St} {env : Env} {σ : L2.St}
theorem Ext.refl : Ext W H W H := ⟨rfl, ⟨[], by simp, by simp⟩, fun _ _ h _ => h, fun _ o h => ⟨o, h⟩⟩
theorem Ext.old (e : Ext W H W' H') {a : Addr} {o : HO} (h : H a = some o) (n : a ∉ W.φ) : a ∉ W'.φ := by
  obtain ⟨ψ, e1, e2⟩ := e.pre
  rw [e1]
  intro m
  rcases List.mem_append.mp m with m | m
  · exact n m
  · rw [e2 a m] at h; cases h
theorem Ext.mo (e : Ext W H W' H') : Mo W H W' H' where
  im := fun a o h n1 n2 => ⟨e.keep a o h n1, e.old h n1, by rw [e.ex]; exact n2⟩
  rf := fun n a h => by
    obtain ⟨ψ, e1, _⟩ := e.pre
    rw [e1, List.getElem?_append_left (List.getElem?_eq_some_iff.mp h).1]
    exact h
theorem Ext.trans (e : Ext W H W' H') (f : Ext W' H' W'' H'') : Ext W H W'' H'' where
  ex := f.ex.trans e.ex
  pre := by
    obtain ⟨ψ, e1, e2⟩ := e.pre
    obtain ⟨ψ', f1, f2⟩ := f.pre
    refine ⟨ψ ++ ψ', by rw [f1, e1, List.append_assoc], fun a m => ?_⟩
    rcases List.mem_append.mp m with m | m
    · exact e2 a m
    · cases q : H a with
      | none => rfl
      | some o =>
        obtain ⟨o', z⟩ := e.there a o q
        rw [f2 a m] at z; cases z
  keep := fun a o h n => f.keep a o (e.keep a o h n) (e.old h n)
  there := fun a o h => let ⟨o', z⟩ := e.there a o h; f.there a o' z
theorem Ext.fresh {p : Addr} {o : HO} (h : H p = none) : Ext W H W (upd H p o) :=
  ⟨rfl, ⟨[], by simp, by simp⟩, fun a u q _ => by rw [upd_ne (ne_of_none q h)]; exact q, fun a u q => ⟨u, by rw [upd_ne (ne_of_none q h)]; exact q⟩⟩
theorem Ext.write {a : Addr} {o : HO} (h : a ∈ W.φ) : Ext W H W (upd H a o) :=
  ⟨rfl, ⟨[], by simp, by simp⟩, fun b u q n => by rw [upd_ne (fun (e : b = a) => n (e ▸ h))]; exact q, fun b u q => by
    by_cases e : b = a
    · exact ⟨o, by rw [e]; exact upd_same⟩
    · exact ⟨u, by rw [upd_ne e]; exact q⟩⟩
theorem Rep.ext (e : Ext W H W' H') {d : D} {v : V} (h : Rep K W H d v) : Rep K W' H' d v := Rep.mo e.mo _ _ h
theorem Reps.ext (e : Ext W H W' H') {d : List D} {v : List V} (h : Reps K W H d v) : Reps K W' H' d v := Reps.mo e.mo _ _ h
theorem EnvRep.mo (m : Mo W H W' H') (h : EnvRep K W H env σ) : EnvRep K W' H' env σ :=
  ⟨h.1, fun i d e => let ⟨v, h1, h2⟩ := h.2 i d e; ⟨v, h1, Rep.mo m _ _ h2⟩⟩
theorem EnvRep.ext (e : Ext W H W' H') (h : EnvRep K W H env σ) : EnvRep K W' H' env σ := h.mo e.mo
theorem EnvRep.set {i : Nat} {d : D} {v : V} (h : EnvRep K W H env σ) (r : Rep K W H d v) : EnvRep K W H (env.set i (some d)) (σ.set i (some v)) := by
  refine ⟨by rw [List.length_set, List.length_set]; exact h.1, fun j d' e => ?_⟩
  by_cases hj : i = j
  · subst hj
    rw [List.getElem?_set] at e ⊢
    simp only [if_true] at e ⊢
    split at e
    · rename_i hl
      have : i < σ.length := by rw [← h.1]; exact hl
      cases e
      exact ⟨v, by simp [this], r⟩
    · cases e
  · rw [List.getElem?_set_ne hj] at e ⊢
    exact h.2 j d' e
theorem EnvRep.unset {i : Nat} (h : EnvRep K W H env σ) : EnvRep K W H (env.set i none) (σ.set i none) := by
  refine ⟨by rw [List.length_set, List.length_set]; exact h.1, fun j d' e => ?_⟩
  by_cases hj : i = j
  · subst hj
    rw [List.getElem?_set] at e
    simp only [if_true] at e
    split at e <;> cases e
  · rw [List.getElem?_set_ne hj] at e ⊢
    exact h.2 j d' e
theorem ORep.mo (m : Mo W H W' H') {a : Addr} {o : Ob} (e : ∀ u, H a = some u → H' a = some u) (h : ORep K nm W H a o) : ORep K nm W' H' a o := by
  cases h with
  | lst h1 h2 => exact .lst (e _ h1) (Reps.mo m _ _ h2)
  | dK h1 h2 h3 => exact .dK (e _ h1) h2 (Reps.mo m _ _ h3)
  | dT h1 h2 h3 => exact .dT (e _ h1) h2 (Reps.mo m _ _ h3)
  | ins h1 h2 h3 h4 => exact .ins (e _ h1) h2 h3 (Reps.mo m _ _ h4)
theorem ORep.there {a : Addr} {o : Ob} (h : ORep K nm W H a o) : ∃ u, H a = some u := by
  cases h <;> exact ⟨_, by assumption⟩
theorem StRep.at (h : StRep K nm W H st) {i : Nat} {o : Ob} (e : st[i]? = some o) : ∃ a, W.φ[i]? = some a ∧ ORep K nm W H a o := by
  have hi : i < W.φ.length := by rw [h.len]; exact (List.getElem?_eq_some_iff.mp e).1
  exact ⟨_, List.getElem?_eq_getElem hi, h.ob i _ o (List.getElem?_eq_getElem hi) e⟩
theorem StRep.inφ (h : StRep K nm W H st) {a : Addr} (m : a ∈ W.φ) : ∃ u, H a = some u := by
  obtain ⟨i, hi⟩ := List.getElem?_of_mem m
  have hl : i < st.length := by rw [← h.len]; exact (List.getElem?_eq_some_iff.mp hi).1
  exact (h.ob i a _ hi (List.getElem?_eq_getElem hl)).there
theorem StRep.notφ (h : StRep K nm W H st) {p : Addr} (q : H p = none) : p ∉ W.φ := fun m => by
  obtain ⟨u, e⟩ := h.inφ m
  rw [q] at e; cases e
theorem StRep.notex (h : StRep K nm W H st) {p : Addr} (q : H p = none) : p ∉ W.ex := fun m => by
  obtain ⟨_, vs, e⟩ := h.exs p m
  rw [q] at e; cases e
theorem StRep.fresh (h : StRep K nm W H st) {p : Addr} {o : HO} (q : H p = none) : StRep K nm W (upd H p o) st where
  len := h.len
  nd := h.nd
  exs := fun a m => let ⟨n, vs, e⟩ := h.exs a m; ⟨n, vs, by rw [upd_ne (ne_of_none e q)]; exact e⟩
  ob := fun i a u e1 e2 => (h.ob i a u e1 e2).mo (Ext.fresh q).mo fun w e => by rw [upd_ne (ne_of_none e q)]; exact e
theorem StRep.alloc (h : StRep K nm W H st) {p : Addr} {o : HO} {ob : Ob} (q : H p = none) (r : ORep K nm ⟨W.φ ++ [p], W.ex⟩ (upd H p o) p ob) :
    StRep K nm ⟨W.φ ++ [p], W.ex⟩ (upd H p o) (st ++ [ob]) ∧ Ext W H ⟨W.φ ++ [p], W.ex⟩ (upd H p o) := by
  have e : Ext W H ⟨W.φ ++ [p], W.ex⟩ (upd H p o) := ⟨rfl, ⟨[p], rfl, fun a m => by rw [List.mem_singleton.mp m]; exact q⟩, fun a u z _ => by rw [upd_ne (ne_of_none z q)]; exact z, fun a u z => ⟨u, by rw [upd_ne (ne_of_none z q)]; exact z⟩⟩
  refine ⟨⟨by simp [h.len], ?_, fun a m => ?_, fun i a u e1 e2 => ?_⟩, e⟩
  · show (W.φ ++ [p]).Nodup
    rw [List.nodup_append]
    exact ⟨h.nd, by simp, fun a ha b hb => by rw [List.mem_singleton.mp hb]; intro z; exact h.notφ q (z ▸ ha)⟩
  · obtain ⟨n, vs, z⟩ := h.exs a m
    refine ⟨fun m' => ?_, vs, by rw [upd_ne (ne_of_none z q)]; exact z⟩
    rcases List.mem_append.mp m' with m' | m'
    · exact n m'
    · rw [List.mem_singleton.mp m', q] at z; cases z
  · by_cases hi : i < st.length
    · rw [List.getElem?_append_left hi] at e2
      have hi' : i < W.φ.length := by rw [h.len]; exact hi
      have e1' : W.φ[i]? = some a := by rw [← e1]; exact (List.getElem?_append_left hi').symm
      exact (h.ob i a u e1' e2).mo e.mo fun w z => by rw [upd_ne (ne_of_none z q)]; exact z
    · have hi' : i = st.length := by
        have := (List.getElem?_eq_some_iff.mp e2).1
        rw [List.length_append] at this
        simp at this
        omega
      subst hi'
      have e1' : (W.φ ++ [p])[st.length]? = some a := e1
      rw [← h.len, List.getElem?_concat_length] at e1'
      rw [List.getElem?_concat_length] at e2
      cases e1'
      cases e2
      exact r
theorem StRep.write (h : StRep K nm W H st) {a : Addr} {n : Nat} {o : HO} {ob : Ob} (q : W.φ[n]? = some a) (r : ORep K nm W (upd H a o) a ob) :
    StRep K nm W (upd H a o) (st.set n ob) ∧ Ext W H W (upd H a o) := by
  have e : Ext W H W (upd H a o) := Ext.write (List.mem_of_getElem? q)
  refine ⟨⟨by rw [List.length_set]; exact h.len, h.nd, fun b m => ?_, fun i b u e1 e2 => ?_⟩, e⟩
  · obtain ⟨n1, vs, z⟩ := h.exs b m
    exact ⟨n1, vs, by rw [upd_ne (fun (e : b = a) => n1 (e ▸ List.mem_of_getElem? q))]; exact z⟩
  · by_cases hi : n = i
    · subst hi
      rw [q] at e1; cases e1
      have hl : n < st.length := by rw [← h.len]; exact (List.getElem?_eq_some_iff.mp q).1
      rw [List.getElem?_set_self hl] at e2
      cases e2
      exact r
    · rw [List.getElem?_set_ne hi] at e2
      refine (h.ob i b u e1 e2).mo e.mo fun w z => ?_
      have : b ≠ a := fun z => by
        subst z
        obtain ⟨h1, e1'⟩ := List.getElem?_eq_some_iff.mp e1
        obtain ⟨h2, e2'⟩ := List.getElem?_eq_some_iff.mp q
        exact hi ((List.getElem_inj h.nd).mp (e2'.trans e1'.symm))
      rw [upd_ne this]
      exact z
/-- a new value: a tuple, a list -/
theorem Rep.newT {p : Addr} {ds : List D} {vs : List V} (h : StRep K nm W H st) (q : H p = none) (r : Reps K W H ds vs) : Rep K W (upd H p (.tup vs)) (.tup ds) (.ref p) :=
  .tup ⟨upd_same, h.notφ q, h.notex q⟩ (r.ext (Ext.fresh q))
theorem Rep.newL {p : Addr} {ds : List D} {vs : List V} (h : StRep K nm W H st) (q : H p = none) (r : Reps K W H ds vs) : Rep K W (upd H p (.lst vs)) (.lst ds) (.ref p) :=
  .lst ⟨upd_same, h.notφ q, h.notex q⟩ (r.ext (Ext.fresh q))
theorem StRep.newM {p : Addr} {ds : List D} {vs : List V} (h : StRep K nm W H st) (q : H p = none) (r : Reps K W H ds vs) :
    StRep K nm ⟨W.φ ++ [p], W.ex⟩ (upd H p (.lst vs)) (st ++ [.lst ds]) ∧ Ext W H ⟨W.φ ++ [p], W.ex⟩ (upd H p (.lst vs)) ∧ Rep K ⟨W.φ ++ [p], W.ex⟩ (upd H p (.lst vs)) (.ref st.length) (.ref p) := by
  have e : Mo W H ⟨W.φ ++ [p], W.ex⟩ (upd H p (.lst vs)) := by
    refine ⟨fun a o z n1 n2 => ⟨by rw [upd_ne (ne_of_none z q)]; exact z, ?_, n2⟩, fun n a z => ?_⟩
    · intro m
      rcases List.mem_append.mp m with m | m
      · exact n1 m
      · rw [List.mem_singleton.mp m, q] at z; cases z
    · show (W.φ ++ [p])[n]? = some a
      rw [List.getElem?_append_left (List.getElem?_eq_some_iff.mp z).1]
      exact z
  obtain ⟨h1, h2⟩ := h.alloc q (.lst upd_same (Reps.mo e _ _ r))
  refine ⟨h1, h2, .ref ?_⟩
  show (W.φ ++ [p])[st.length]? = some p
  rw [← h.len, List.getElem?_concat_length]
/-! ### a list under construction -/
theorem Mo.enter {p : Addr} {o : HO} (q : H p = none) : Mo W H ⟨W.φ, p :: W.ex⟩ (upd H p o) where
  im := fun a u z n1 n2 => ⟨by rw [upd_ne (ne_of_none z q)]; exact z, n1, fun m => by
    rcases List.mem_cons.mp m with m | m
    · subst m; rw [q] at z; cases z
    · exact n2 m⟩
  rf := fun _ _ z => z
theorem Mo.grow {p : Addr} {o : HO} (q : p ∈ W.ex) : Mo W H W (upd H p o) where
  im := fun a u z n1 n2 => ⟨by rw [upd_ne (fun (e : a = p) => n2 (e ▸ q))]; exact z, n1, n2⟩
  rf := fun _ _ z => z
theorem Mo.leave {p : Addr} : Mo ⟨W.φ, p :: W.ex⟩ H W H where
  im := fun a u z n1 n2 => ⟨z, n1, fun m => n2 (List.mem_cons_of_mem _ m)⟩
  rf := fun _ _ z => z
theorem StRep.enter (h : StRep K nm W H st) {p : Addr} {vs : List V} (q : H p = none) : StRep K nm ⟨W.φ, p :: W.ex⟩ (upd H p (.lst vs)) st where
  len := h.len
  nd := h.nd
  exs := fun a m => by
    rcases List.mem_cons.mp m with m | m
    · subst m; exact ⟨h.notφ q, vs, upd_same⟩
    · obtain ⟨n, ws, e⟩ := h.exs a m
      exact ⟨n, ws, by rw [upd_ne (ne_of_none e q)]; exact e⟩
  ob := fun i a u e1 e2 => (h.ob i a u e1 e2).mo (Mo.enter q) fun w e => by rw [upd_ne (ne_of_none e q)]; exact e
theorem StRep.grow (h : StRep K nm W H st) {p : Addr} {vs : List V} (q : p ∈ W.ex) : StRep K nm W (upd H p (.lst vs)) st where
  len := h.len
  nd := h.nd
  exs := fun a m => by
    obtain ⟨n, ws, e⟩ := h.exs a m
    refine ⟨n, ?_⟩
    by_cases z : a = p
    · exact ⟨vs, by rw [z]; exact upd_same⟩
    · exact ⟨ws, by rw [upd_ne z]; exact e⟩
  ob := fun i a u e1 e2 => (h.ob i a u e1 e2).mo (Mo.grow q) fun w e => by
    rw [upd_ne (fun (z : a = p) => (h.exs p q).1 (z ▸ List.mem_of_getElem? e1))]; exact e
theorem StRep.leave {p : Addr} (h : StRep K nm ⟨W.φ, p :: W.ex⟩ H st) : StRep K nm W H st where
  len := h.len
  nd := h.nd
  exs := fun a m => h.exs a (List.mem_cons_of_mem _ m)
  ob := fun i a u e1 e2 => (h.ob i a u e1 e2).mo Mo.leave fun w e => e
/-! ### the new objects go -/
mutual
theorem Rep.cut {n : Nat} : ∀ (d : D) (v : V), d.lt n = true → Rep K W H d v → Rep K ⟨W.φ.take n, W.ex⟩ H d v
  | .non, _, _, h => by cases h; exact .non
  | .bl b, _, _, h => by cases h; exact .bl b
  | .int i, _, _, h => by cases h; exact .int i
  | .str s, _, _, h => by cases h; exact .str s
  | .tup ds, _, l, h => by
    cases h with
    | tup h1 h2 => exact .tup ⟨h1.1, fun m => h1.2.1 (List.mem_of_mem_take m), h1.2.2⟩ (Reps.cut ds _ (by simpa [D.lt] using l) h2)
  | .lst ds, _, l, h => by
    cases h with
    | lst h1 h2 => exact .lst ⟨h1.1, fun m => h1.2.1 (List.mem_of_mem_take m), h1.2.2⟩ (Reps.cut ds _ (by simpa [D.lt] using l) h2)
  | .ref k, _, l, h => by
    cases h with
    | ref h1 =>
      refine .ref ?_
      show (W.φ.take n)[k]? = _
      rw [List.getElem?_take_of_lt (by simpa [D.lt] using l)]
      exact h1
  | .scr ds, _, l, h => by
    cases h with
    | scr h1 h2 => exact .scr (h1.imp (fun ⟨a, b, c⟩ => ⟨a, fun m => b (List.mem_of_mem_take m), c⟩) id) (Reps.cut ds _ (by simpa [D.lt] using l) h2)
  | .kon ds, _, l, h => by
    cases h with
    | kon h1 h2 => exact .kon h1 (Reps.cut ds _ (by simpa [D.lt] using l) h2)
theorem Reps.cut {n : Nat} : ∀ (ds : List D) (vs : List V), D.lts n ds = true → Reps K W H ds vs → Reps K ⟨W.φ.take n, W.ex⟩ H ds vs
  | [], _, _, h => by cases h; exact .nil
  | d :: ds, _, l, h => by
    rw [D.lts, Bool.and_eq_true] at l
    cases h with
    | cons h1 h2 => exact .cons (Rep.cut d _ l.1 h1) (Reps.cut ds _ l.2 h2)
end
mutual
theorem Rep.isLt : ∀ (d : D) (v : V), Rep K W H d v → d.lt W.φ.length = true
  | .non, _, _ => rfl
  | .bl _, _, _ => rfl
  | .int _, _, _ => rfl
  | .str _, _, _ => rfl
  | .tup ds, _, h => by
    cases h with
    | tup _ h2 => simpa [D.lt] using Reps.isLt ds _ h2
  | .lst ds, _, h => by
    cases h with
    | lst _ h2 => simpa [D.lt] using Reps.isLt ds _ h2
  | .ref k, _, h => by
    cases h with
    | ref h1 => simpa [D.lt] using (List.getElem?_eq_some_iff.mp h1).1
  | .scr ds, _, h => by
    cases h with
    | scr _ h2 => simpa [D.lt] using Reps.isLt ds _ h2
  | .kon ds, _, h => by
    cases h with
    | kon _ h2 => simpa [D.lt] using Reps.isLt ds _ h2
theorem Reps.isLt : ∀ (ds : List D) (vs : List V), Reps K W H ds vs → D.lts W.φ.length ds = true
  | [], _, _ => rfl
  | d :: ds, _, h => by
    cases h with
    | cons h1 h2 => rw [D.lts, Rep.isLt d _ h1, Reps.isLt ds _ h2]; rfl
end
theorem ORep.isLt {a : Addr} {o : Ob} (h : ORep K nm W H a o) : o.lt W.φ.length = true := by
  cases h with
  | lst _ h2 => exact Reps.isLt _ _ h2
  | dK _ _ h3 => exact Reps.isLt _ _ h3
  | dT _ _ h3 => exact Reps.isLt _ _ h3
  | ins _ _ _ h4 => exact Reps.isLt _ _ h4
theorem ORep.cut {n : Nat} {a : Addr} {o : Ob} (l : o.lt n = true) (h : ORep K nm W H a o) : ORep K nm ⟨W.φ.take n, W.ex⟩ H a o := by
  cases h with
  | lst h1 h2 => exact .lst h1 (Reps.cut _ _ l h2)
  | dK h1 h2 h3 => exact .dK h1 h2 (Reps.cut _ _ l h3)
  | dT h1 h2 h3 => exact .dT h1 h2 (Reps.cut _ _ l h3)
  | ins h1 h2 h3 h4 => exact .ins h1 h2 h3 (Reps.cut _ _ l h4)
/-- from (W, H) to (W', H'), then the store cut to its old length -/
theorem StRep.cut (h : StRep K nm W H st) (e : Ext W H W' H') (h' : StRep K nm W' H' st') (g : gcOk st.length st st' = true) : StRep K nm W H' (st'.take st.length) ∧ Ext W H W H' ∧ W'.φ.take st.length = W.φ := by
  obtain ⟨ψ, e1, e2⟩ := e.pre
  have ht : W'.φ.take st.length = W.φ := by rw [e1, ← h.len]; simp
  unfold gcOk at g
  rw [Bool.and_eq_true] at g
  have gl : st.length ≤ st'.length := of_decide_eq_true g.1
  have ga := List.all_eq_true.mp g.2
  refine ⟨⟨by rw [List.length_take, h.len]; omega, h.nd, fun a m => ?_, fun i a o q1 q2 => ?_⟩, ⟨rfl, ⟨[], by simp, by simp⟩, e.keep, e.there⟩, ht⟩
  · obtain ⟨n, vs, z⟩ := h.exs a m
    exact ⟨n, vs, e.keep a _ z n⟩
  · have hi : i < st.length := by rw [← h.len]; exact (List.getElem?_eq_some_iff.mp q1).1
    rw [List.getElem?_take_of_lt hi] at q2
    have q1' : W'.φ[i]? = some a := e.mo.rf i a q1
    have r := h'.ob i a o q1' q2
    have l : o.lt st.length = true := by
      have z := ga i (List.mem_range.mpr hi)
      rw [Bool.or_eq_true] at z
      rcases z with z | z
      · have z' := of_decide_eq_true z
        rw [q2] at z'
        rw [← h.len]
        exact (h.ob i a o q1 z'.symm).isLt
      · rw [q2] at z
        exact z
    have c := r.cut (n := st.length) l
    rw [ht] at c
    have ew : (⟨W.φ, W'.ex⟩ : Wd) = W := by rw [e.ex]
    rw [ew] at c
    exact c
end
end Ev
/-! Ev3: the operators and built-ins of Ev are those of the layer. -/
namespace Ev
open PySem PySem.Spec PyProof.Rows L2
/-- what follows an evaluation, in every later world that bears it -/
def Post {α β : Type} (K : PySem.W.Frag) (nm : Nm) (W : Wd) (H : Hp) (r : R α) (rep : Wd → Hp → α → β → Prop) (Q : β → Hp → Prop) (XQ : Nat → Hp → Prop) : Prop := match r with
  | .ok a st => ∀ W' H' b, Ext W H W' H' → StRep K nm W' H' st → rep W' H' a b → Q b H'
  | .ex x st => ∀ W' H', Ext W H W' H' → StRep K nm W' H' st → XQ x H'
  | .bad => False
section
variable {K : PySem.W.Frag} {nm : Nm} {W W' : Wd} {H H' : Hp} {st : St} {XQ : Nat → Hp → Prop}
theorem Post.ext {α β : Type} {r : R α} {rep : Wd → Hp → α → β → Prop} {Q : β → Hp → Prop} (e : Ext W H W' H') (h : Post K nm W H r rep Q XQ) : Post K nm W' H' r rep Q XQ := by
  cases r with
  | ok a s => exact fun W2 H2 b f hs hr => h W2 H2 b (e.trans f) hs hr
  | ex x s => exact fun W2 H2 f hs => h W2 H2 (e.trans f) hs
  | bad => exact h
theorem Post.mono {α β : Type} {r : R α} {rep : Wd → Hp → α → β → Prop} {Q Q' : β → Hp → Prop} (h : Post K nm W H r rep Q XQ) (q : ∀ b H, Q b H → Q' b H) : Post K nm W H r rep Q' XQ := by
  cases r with
  | ok a s => exact fun W2 H2 b f hs hr => q _ _ (h W2 H2 b f hs hr)
  | ex x s => exact h
  | bad => exact h
theorem Post.bind {α β γ δ : Type} {r : R α} {f : α → St → R γ} {rep : Wd → Hp → α → β → Prop} {rep' : Wd → Hp → γ → δ → Prop} {Q : δ → Hp → Prop} (h : Post K nm W H (r.bind f) rep' Q XQ) :
    Post K nm W H r rep (fun b H1 => ∃ W1 a st1, Ext W H W1 H1 ∧ StRep K nm W1 H1 st1 ∧ rep W1 H1 a b ∧ Post K nm W1 H1 (f a st1) rep' Q XQ) XQ := by
  cases r with
  | ok a s => exact fun W2 H2 b e hs hr => ⟨W2, a, s, e, hs, hr, Post.ext e h⟩
  | ex x s => exact h
  | bad => exact h
/-- a value that is there -/
theorem Post.val {d : D} {v : V} {Q : VK} (h : Post K nm W H (.ok d st) (Rep K) Q XQ) (hs : StRep K nm W H st) (r : Rep K W H d v) : Q v H := h W H v Ext.refl hs r
theorem Post.at_ {d : D} {v : V} {Q : VK} {st' : St} (h : Post K nm W H (.ok d st') (Rep K) Q XQ) (e : Ext W H W' H') (hs : StRep K nm W' H' st') (r : Rep K W' H' d v) : Q v H' := h W' H' v e hs r
theorem Post.tup {ds : List D} {vs : List V} {Q : VK} (h : Post K nm W H (.ok (.tup ds) st) (Rep K) Q XQ) (hs : StRep K nm W H st) (r : Reps K W H ds vs) : ∀ p, H p = none → Q (.ref p) (upd H p (.tup vs)) :=
  fun p q => h W _ _ (Ext.fresh q) (hs.fresh q) (Rep.newT hs q r)
theorem sizeMax_line : sizeMax = sizeLine := by rw [sizeLine_eq]; rfl
theorem Post.mk {ds : List D} {vs : List V} {m : Bool} {Q : VK} (h : Post K nm W H (mk m ds st) (Rep K) Q XQ) (hs : StRep K nm W H st) (r : Reps K W H ds vs) : vs.length ≤ sizeLine ∧ ∀ p, H p = none → Q (.ref p) (upd H p (.lst vs)) := by
  unfold Ev.mk at h
  split at h
  · rename_i hl
    refine ⟨by rw [← r.length, ← sizeMax_line]; exact hl, fun p q => ?_⟩
    cases m with
    | true =>
      obtain ⟨h1, h2, h3⟩ := hs.newM q r
      exact h _ _ _ h2 h1 h3
    | false => exact h W _ _ (Ext.fresh q) (hs.fresh q) (Rep.newL hs q r)
  · exact h.elim
theorem Post.of {α β : Type} {o : Option α} {rep : Wd → Hp → α → β → Prop} {Q : β → Hp → Prop} (h : Post K nm W H (R.of o st) rep Q XQ) : ∃ a, o = some a ∧ Post K nm W H (.ok a st) rep Q XQ := by
  cases o with
  | none => exact h.elim
  | some a => exact ⟨a, rfl, h⟩
/-! ### what is read -/
theorem view_lst {d : D} {v : V} {ds : List D} (hs : StRep K nm W H st) (r : Rep K W H d v) (e : view st d = .lst ds) : ∃ a vs, v = .ref a ∧ H a = some (.lst vs) ∧ Reps K W H ds vs := by
  unfold view at e
  split at e
  · rename_i n
    split at e
    · rename_i q
      cases e
      cases r with
      | ref h1 =>
        have := hs.ob n _ _ h1 q
        cases this with
        | lst h2 h3 => exact ⟨_, _, rfl, h2, h3⟩
    · cases e
  · subst e
    cases r with
    | lst h1 h2 => exact ⟨_, _, rfl, h1.1, h2⟩
theorem view_eq {d d' : D} (e : view st d = d') (h : ∀ ds, d' ≠ .lst ds) : d = d' := by
  unfold view at e
  split at e
  · split at e
    · exact absurd e.symm (h _)
    · exact e
  · exact e
theorem rep_int {i : Int} {v : V} (r : Rep K W H (.int i) v) : v = .int i := by cases r; rfl
theorem rep_bl {i : Bool} {v : V} (r : Rep K W H (.bl i) v) : v = .bl i := by cases r; rfl
theorem rep_str {i : Str} {v : V} (r : Rep K W H (.str i) v) : v = .str i := by cases r; rfl
theorem rep_tup {ds : List D} {v : V} (r : Rep K W H (.tup ds) v) : ∃ a vs, v = .ref a ∧ H a = some (.tup vs) ∧ Reps K W H ds vs := by
  cases r with
  | tup h1 h2 => exact ⟨_, _, rfl, h1.1, h2⟩
theorem rep_ref {n : Nat} {v : V} (r : Rep K W H (.ref n) v) : ∃ a, v = .ref a ∧ W.φ[n]? = some a := by
  cases r with
  | ref h => exact ⟨_, rfl, h⟩
theorem rep_at {n : Nat} {v : V} {o : Ob} (hs : StRep K nm W H st) (r : Rep K W H (.ref n) v) (e : st[n]? = some o) : ∃ a, v = .ref a ∧ W.φ[n]? = some a ∧ ORep K nm W H a o := by
  obtain ⟨a, rfl, h⟩ := rep_ref r
  exact ⟨a, rfl, h, hs.ob n a o h e⟩
end
/-! ### data -/
mutual
theorem dp_of {K : PySem.W.Frag} {W : Wd} {H : Hp} : ∀ (d : D) (v : V), D.pure d = true → Rep K W H d v → Dp K H v d.py
  | .non, _, _, h => by cases h; exact .non
  | .bl b, _, _, h => by cases h; exact .bl b
  | .int i, _, _, h => by cases h; exact .int i
  | .str s, _, _, h => by cases h; exact .str s
  | .tup ds, _, p, h => by
    cases h with
    | tup h1 h2 => exact .tup h1.sq (dps_of ds _ (by simpa [D.pure] using p) h2)
  | .lst ds, _, p, h => by
    cases h with
    | lst h1 h2 => exact .lst h1.sq (dps_of ds _ (by simpa [D.pure] using p) h2)
  | .ref _, _, p, _ => by simp [D.pure] at p
  | .scr _, _, p, _ => by simp [D.pure] at p
  | .kon _, _, p, _ => by simp [D.pure] at p
theorem dps_of {K : PySem.W.Frag} {W : Wd} {H : Hp} : ∀ (ds : List D) (vs : List V), D.pures ds = true → Reps K W H ds vs → DpAll K H vs (D.pys ds)
  | [], _, _, h => by cases h; exact .nil
  | d :: ds, _, p, h => by
    rw [D.pures, Bool.and_eq_true] at p
    cases h with
    | cons h1 h2 => exact .cons (dp_of d _ p.1 h1) (dps_of ds _ p.2 h2)
end
theorem pys_map : ∀ ds : List D, D.pys ds = ds.map D.py
  | [] => rfl
  | d :: ds => by rw [D.pys, pys_map ds, List.map_cons]
theorem dp_view {K : PySem.W.Frag} {nm : Nm} {W : Wd} {H : Hp} {st : St} {d : D} {v : V} (hs : StRep K nm W H st) (r : Rep K W H d v) (p : (view st d).pure = true) : Dp K H v (view st d).py := by
  cases e : view st d with
  | lst ds =>
    obtain ⟨a, vs, rfl, h1, h2⟩ := view_lst hs r e
    rw [e] at p
    exact .lst (SqL.of h1) (dps_of ds _ (by simpa [D.pure] using p) h2)
  | _ =>
    have z := view_eq e (by intro ds q; cases q)
    rw [e] at p
    subst z
    exact dp_of _ _ p r
theorem flat_rep {K : PySem.W.Frag} {W : Wd} {H : Hp} {d : D} {v : V} (r : Rep K W H d v) (f : flatD d = true) : flatV v = true := by
  cases r <;> first | rfl | cases f
theorem eqv_flat {K : PySem.W.Frag} {W : Wd} {H : Hp} {d e : D} {v u : V} (r : Rep K W H d v) (q : Rep K W H e u) (f : flatD d = true) (g : flatD e = true) : eqV v u = PyData.eqv d.py e.py := by
  cases r <;> cases q <;> first | (simp [eqV, D.py, PyData.eqv]; done) | (simp [flatD] at f; done) | (simp [flatD] at g; done)
theorem any_flat {K : PySem.W.Frag} {W : Wd} {H : Hp} {x : D} {v : V} (rx : Rep K W H x v) (f : flatD x = true) : ∀ {ds : List D} {vs : List V}, Reps K W H ds vs → ds.all flatD = true → inV v vs = ds.any fun z => PyData.eqv z.py x.py
  | _, _, .nil, _ => rfl
  | _, _, .cons r t, h => by
    rw [List.all_cons, Bool.and_eq_true] at h
    have ih := any_flat rx f t h.2
    unfold inV at ih ⊢
    rw [List.any_cons, List.any_cons, eqv_flat r rx h.1 f, ih]
theorem any_pys (x : PyData) : ∀ ds : List D, ((D.pys ds).any fun z => PyData.eqv z x) = ds.any fun z => PyData.eqv z.py x := fun ds => by
  rw [pys_map, List.any_map]; rfl
/-! ### binary operators -/
def pyOp : Op → Operator
  | .add => .Add | .sub => .Sub | .mul => .Mult | .fdiv => .FloorDiv | .mod => .Mod | .pow => .Pow
/-- an operation of two values, as Ev has it -/
def r2D (K : PySem.W.Frag) (nm : Nm) (XQ : Nat → Hp → Prop) (f : D → D → St → R D) : R2 := fun x y H Q => ∃ W d e st, StRep K nm W H st ∧ Rep K W H d x ∧ Rep K W H e y ∧ Post K nm W H (f d e st) (Rep K) Q XQ
section
variable {X : Cx} {nm : Nm} {XQ : Nat → Hp → Prop}
theorem small_ok {i : Int} (h : small i = true) : -(2 ^ 64) < i ∧ i < 2 ^ 64 := by
  unfold small at h
  have := of_decide_eq_true h
  omega
theorem op_addD : OpR X (binaryOp .Add) (r2D X.K nm XQ (binD .add m)) := by
  intro pins s σ H x y v u Q I rx ry h
  obtain ⟨W, d, e, st, hs, r1, r2, h⟩ := h
  unfold binD at h
  dsimp only at h
  split at h
  · rename_i i j e1 e2
    have z1 := view_eq e1 (by intro _ q; cases q)
    have z2 := view_eq e2 (by intro _ q; cases q)
    subst z1; subst z2
    exact op_add pins s σ H x y v u Q I rx ry ⟨i, j, rep_int r1, rep_int r2, h.val hs (.int _)⟩
  · rename_i a b e1 e2
    have z1 := view_eq e1 (by intro _ q; cases q)
    have z2 := view_eq e2 (by intro _ q; cases q)
    subst z1; subst z2
    split at h
    · rename_i hl
      exact op_add_str pins s σ H x y v u Q I rx ry ⟨a, b, rep_str r1, rep_str r2, by rw [← sizeMax_line]; exact hl, h.val hs (.str _)⟩
    · exact h.elim
  · rename_i a b e1 e2
    have z1 := view_eq e1 (by intro _ q; cases q)
    have z2 := view_eq e2 (by intro _ q; cases q)
    subst z1; subst z2
    split at h
    · rename_i hl
      obtain ⟨p, vs, rfl, h1, h2⟩ := rep_tup r1
      obtain ⟨q, ws, rfl, h3, h4⟩ := rep_tup r2
      refine op_catA pins s σ H _ _ v u Q I rx ry ⟨p, q, vs, ws, rfl, rfl, SqT.of h1, SqT.of h3, by rw [← h2.length, ← h4.length, ← sizeMax_line]; exact hl, fun e => ?_, fun _ e => ?_, fun _ _ => h.tup hs (h2.app h4)⟩
      · subst e
        cases h2
        exact h.val hs r2
      · subst e
        cases h4
        rw [List.append_nil] at h
        exact h.val hs r1
    · exact h.elim
  · rename_i a b e1 e2
    obtain ⟨p, vs, rfl, h1, h2⟩ := view_lst hs r1 e1
    obtain ⟨q, ws, rfl, h3, h4⟩ := view_lst hs r2 e2
    obtain ⟨z, k⟩ := h.mk hs (h2.app h4)
    exact op_cat pins s σ H _ _ v u Q I rx ry ⟨p, q, vs, ws, rfl, rfl, h1, h3, by rw [← List.length_append]; exact z, k⟩
  · exact h.elim
theorem op_subD : OpR X (binaryOp .Sub) (r2D X.K nm XQ (binD .sub m)) := by
  intro pins s σ H x y v u Q I rx ry h
  obtain ⟨W, d, e, st, hs, r1, r2, h⟩ := h
  unfold binD at h
  dsimp only at h
  split at h
  · rename_i i j
    exact op_sub pins s σ H x y v u Q I rx ry ⟨i, j, rep_int r1, rep_int r2, h.val hs (.int _)⟩
  · exact h.elim
theorem op_fdivD : OpR X (binaryOp .FloorDiv) (r2D X.K nm XQ (binD .fdiv m)) := by
  intro pins s σ H x y v u Q I rx ry h
  obtain ⟨W, d, e, st, hs, r1, r2, h⟩ := h
  unfold binD at h
  dsimp only at h
  split at h
  · rename_i i j
    split at h
    · rename_i c
      exact op_fdivW pins s σ H x y v u Q I rx ry ⟨i, j, rep_int r1, rep_int r2, c, h.val hs (.int _)⟩
    · exact h.elim
  · exact h.elim
theorem op_modD : OpR X (binaryOp .Mod) (r2D X.K nm XQ (binD .mod m)) := by
  intro pins s σ H x y v u Q I rx ry h
  obtain ⟨W, d, e, st, hs, r1, r2, h⟩ := h
  unfold binD at h
  dsimp only at h
  split at h
  · rename_i i j
    split at h
    · rename_i c
      exact op_mod pins s σ H x y v u Q I rx ry ⟨i, j, rep_int r1, rep_int r2, c, h.val hs (.int _)⟩
    · exact h.elim
  · exact h.elim
theorem op_powD : OpR X (binaryOp .Pow) (r2D X.K nm XQ (binD .pow m)) := by
  intro pins s σ H x y v u Q I rx ry h
  obtain ⟨W, d, e, st, hs, r1, r2, h⟩ := h
  unfold binD at h
  dsimp only at h
  split at h
  · rename_i i j
    split at h
    · rename_i c
      exact op_pow pins s σ H x y v u Q I rx ry ⟨i, j, rep_int r1, rep_int r2, c, h.val hs (.int _)⟩
    · exact h.elim
  · exact h.elim
/-- a tuple taken once is itself -/
theorem tup_once (l : Addr) (items : Array Value) (n : Nat) (dd : Option Addr) (sl : Array (Option Value)) (u : Tok) :
    Meets (Builtin.«tuple.__mul__» ⟨[.ref l, .int 1 u], []⟩) (fun _ R s => s.heap.get? l = some { cls := .type "tuple", dict := dd, data := .seq items n, slots := sl } ∧ R (.ok (.ret (.ref l))) s) :=
  .of_wp fun prog w A R s h => by
    obtain ⟨hp, g, d, tk, os⟩ := s
    obtain ⟨hl, h⟩ := h
    have f1 := AutoSeq1.idx_int
    have c1 : (items.isEmpty || (1 : Int) == 1) = true := by simp
    wp_walk using wpAny_loadPart' hl
    repeat (first
      | (refine wpAny_ite_false (decide_eq_false (by decide)) ?_; wp_walk using wpAny_loadPart' hl)
      | (refine wpAny_ite_true (decide_eq_true c1) ?_; wp_walk using wpAny_loadPart' hl))
    all_goals first
      | exact ⟨_, rfl, h⟩
      | exact h
      | skip
end
end Ev
/-! Ev4: products, comparisons, places and slices. -/
namespace Ev
open PySem PySem.Spec PyProof.Rows L2
section
variable {X : Cx} {nm : Nm} {XQ : Nat → Hp → Prop} {m : Bool}
theorem tup_mul1 {pins : List (Addr × Obj)} {s : Shared} {σ : L2.St} {H : Hp} {a : Addr} {vs : List V} {t : Tok} {Q : VK} (I : Inv X pins σ H s) (h : H a = some (.tup vs)) (q : Q (.ref a) H) :
    wpAny (model X.prog X.w) X.A (binaryOp .Mult (.ref a) (.int 1 t)) (EP X pins σ Q) X.xe s := by
  obtain ⟨its, r, ⟨⟨cls, dd, data, sl⟩, ho, hc, n, hd⟩, hs⟩ := I.tuple (SqT.of h)
  simp only at hc hd
  subst hc hd
  refine wpAny_binaryOp_repeat_ref (T := "tuple") (U := "int") (by decide) ⟨_, ho, rfl⟩ (fun s' => typeIs_int s' 1 t) noFill_tuple_mul F.fills_int_mul F.slot_int_rmul repeat_tuple F.slot_int_index.lookup
    (call_meets F.slot_int_rmul (typeIs_int s 1 t) F.entry_int_rmul (F.args_int_rmul_2 _ _) (int_rmul_tuple 1 t a its.toArray n dd sl)
      ⟨ho, rfl, ⟨_, ho, rfl⟩, call_meets F.slot_tuple_mul ⟨_, ho, rfl⟩ F.entry_tuple_mul (F.args_tuple_mul_2 _ _) (tup_once a its.toArray n dd sl t) ⟨ho, ?_⟩⟩)
  exact ⟨.ref a, H, I, rfl, q⟩
theorem op_mulD : OpR X (binaryOp .Mult) (r2D X.K nm XQ (binD .mul m)) := by
  intro pins s σ H x y v u Q I rx ry h
  obtain ⟨W, d, e, st, hs, r1, r2, h⟩ := h
  unfold binD at h
  dsimp only at h
  split at h
  · rename_i i j e1
    have z1 := view_eq e1 (by intro _ q; cases q)
    subst z1
    split at h
    · rename_i c
      rw [Bool.or_eq_true] at c
      exact op_mul pins s σ H x y v u Q I rx ry ⟨i, j, rep_int r1, rep_int r2, c.imp small_ok small_ok, h.val hs (.int _)⟩
    · exact h.elim
  · rename_i a j e1
    have z1 := view_eq e1 (by intro _ q; cases q)
    subst z1
    split at h
    · rename_i c
      obtain ⟨c1, c2, c3, c4⟩ := c
      obtain ⟨p, vs, rfl, h1, h2⟩ := rep_tup r1
      have hy := rep_int r2
      subst hy
      by_cases hj : j = 1
      · subst hj
        cases rx
        obtain ⟨t, rfl⟩ := ry
        have e : (List.replicate (1 : Int).toNat a).flatten = a := by simp
        rw [e] at h
        exact tup_mul1 I h1 (h.val hs r1)
      · refine op_repT pins s σ H _ _ v u Q I rx ry ⟨p, j, vs, rfl, rfl, SqT.of h1, fun z => c3 ?_, by omega, c2, by rw [← h2.length]; exact c4, h.tup hs (h2.rep _)⟩
        subst z
        cases h2
        rfl
    · exact h.elim
  · rename_i a j e1
    obtain ⟨p, vs, rfl, h1, h2⟩ := view_lst hs r1 e1
    split at h
    · rename_i c
      have hy := rep_int r2
      subst hy
      exact op_rep pins s σ H _ _ v u Q I rx ry ⟨p, j, vs, rfl, rfl, h1, by omega, by omega, by rw [← h2.length, ← sizeMax_line]; exact c.2.2, (h.mk hs (h2.rep _)).2⟩
    · exact h.elim
  · rename_i a j e1
    have z1 := view_eq e1 (by intro _ q; cases q)
    subst z1
    split at h
    · rename_i c
      obtain ⟨c1, c2, c3⟩ := c
      have hx := rep_str r1
      have hy := rep_int r2
      subst hx; subst hy
      obtain ⟨t, rfl⟩ := rx
      obtain ⟨t', rfl⟩ := ry
      refine PySem.SB.mul ⟨?_, fun h1 h2 => ?_, fun h1 h2 => ?_⟩ fun t2 k => ⟨.str _, H, I.tok _, ⟨_, rfl⟩, h.val hs (.str _)⟩
      · rw [decide_eq_false (by omega), decide_eq_false (by omega)]; rfl
      · have hj : 0 < j := by omega
        have hl : (a.length : Int) * j ≤ 16777216 := by
          have : (a.length : Int) * j = ((a.length * j.toNat : Nat) : Int) := by rw [Int.natCast_mul, Int.toNat_of_nonneg c1]
          rw [this]
          unfold sizeMax at c3
          omega
        have : (a.length : Int) ≤ (2 ^ 63 - 1) / j := by
          rw [Int.le_ediv_iff_mul_le hj]
          omega
        omega
      · show decide _ = false
        unfold sizeMax at c3
        have := sizeLine_eq
        exact decide_eq_false (by omega)
    · exact h.elim
  · exact h.elim
/-! ### comparisons -/
def pyCmp : Cmp → CmpOp
  | .eq => .Eq | .ne => .NotEq | .lt => .Lt | .le => .LtE | .gt => .Gt | .ge => .GtE | .isin => .In | .notin => .NotIn
/-- a question of two values, as Ev has it -/
def r2B (K : PySem.W.Frag) (nm : Nm) (f : St → D → D → Option Bool) : R2 := fun x y H Q => ∃ W d e st b, StRep K nm W H st ∧ Rep K W H d x ∧ Rep K W H e y ∧ f st d e = some b ∧ Q (.bl b) H
theorem shaped_of {d : D} (h : shapedD d = true) : d.pure = true ∧ SeqAt.shaped d.py = true := by
  unfold shapedD at h
  rwa [Bool.and_eq_true] at h
theorem op_eqE (hu : X.A.units + 64 < cLine) : OpR X (compareOp .Eq) (r2B X.K nm eqD) := by
  intro pins s σ H x y v u Q I rx ry h
  obtain ⟨W, d, e, st, b, hs, r1, r2, h, q⟩ := h
  unfold eqD at h
  split at h
  · cases h
    obtain rfl := rep_str r1
    obtain rfl := rep_str r2
    refine op_eq pins s σ H _ _ v u Q I rx ry ⟨rfl, ?_⟩
    simpa using q
  split at h
  · rename_i c
    rw [Bool.and_eq_true] at c
    obtain ⟨p1, p2⟩ := shaped_of c.1
    obtain ⟨p3, p4⟩ := shaped_of c.2
    cases h
    exact op_eqD hu pins s σ H x y v u Q I rx ry ⟨_, _, dp_view hs r1 p1, dp_view hs r2 p3, p2, p4, q⟩
  · cases h
theorem op_neE (hu : X.A.units + 64 < cLine) : OpR X (compareOp .NotEq) (r2B X.K nm fun st x y => (eqD st x y).map (!·)) := by
  intro pins s σ H x y v u Q I rx ry h
  obtain ⟨W, d, e, st, b, hs, r1, r2, h, q⟩ := h
  dsimp only at h
  unfold eqD at h
  split at h
  · cases h
    obtain rfl := rep_str r1
    obtain rfl := rep_str r2
    refine op_ne pins s σ H _ _ v u Q I rx ry ⟨rfl, ?_⟩
    simpa using q
  split at h
  · rename_i c
    rw [Bool.and_eq_true] at c
    obtain ⟨p1, p2⟩ := shaped_of c.1
    obtain ⟨p3, p4⟩ := shaped_of c.2
    cases h
    exact op_neD hu pins s σ H x y v u Q I rx ry ⟨_, _, dp_view hs r1 p1, dp_view hs r2 p3, p2, p4, q⟩
  · cases h
theorem shaped_list {ds : List D} (h : shapedD (.lst ds) = true) : D.pures ds = true ∧ SeqAt.shaped (.list (D.pys ds)) = true := by
  obtain ⟨a, b⟩ := shaped_of h
  exact ⟨by simpa [D.pure] using a, by simpa [D.py] using b⟩
theorem keyD_rep {K : PySem.W.Frag} {W : Wd} {H : Hp} {d : D} {v : V} {k : L2.Key} (r : Rep K W H d v) (h : keyD d = some k) : v = kV k := by
  cases r <;> first | (simp [keyD] at h; done) | (simp only [keyD, Option.some.injEq] at h; subst h; rfl)
theorem keysD_rep {K : PySem.W.Frag} {W : Wd} {H : Hp} : ∀ {ds : List D} {vs : List V} {ks : List L2.Key}, Reps K W H ds vs → keysD ds = some ks → vs = ks.map kV
  | _, _, _, .nil, h => by simp [keysD] at h; subst h; rfl
  | _, _, _, .cons (d := d) (ds := ds) r t, h => by
    rw [keysD] at h
    cases e1 : keyD d with
    | none => rw [e1] at h; simp at h
    | some k =>
      cases e2 : keysD ds with
      | none => rw [e1, e2] at h; simp at h
      | some ks =>
        rw [e1, e2] at h
        simp only [Option.some.injEq] at h
        subst h
        rw [keyD_rep r e1, keysD_rep t e2]
        rfl
theorem keyT_rep {K : PySem.W.Frag} {W : Wd} {H : Hp} {d : D} {v : V} {ks : List L2.Key} (r : Rep K W H d v) (h : keyT d = some ks) : ∃ b, v = .ref b ∧ H b = some (.tup (ks.map kV)) := by
  cases r <;> first | (simp [keyT] at h; done) | skip
  rename_i h1 h2
  simp only [keyT] at h
  rw [← keysD_rep h2 h]
  exact ⟨_, rfl, h1.1⟩
section
variable {κ : Type} [DecidableEq κ]
theorem valV_rep {K : PySem.W.Frag} {W : Wd} {H : Hp} (k : κ) : ∀ {kvs : List (κ × D)} {kws : List (κ × V)}, kvs.map (·.1) = kws.map (·.1) → Reps K W H (kvs.map (·.2)) (kws.map (·.2)) →
    (valV k kvs = none ∧ L2.valV kws k = none) ∨ ∃ d v, valV k kvs = some d ∧ L2.valV kws k = some v ∧ Rep K W H d v
  | [], [], _, _ => .inl ⟨rfl, rfl⟩
  | [], _ :: _, h, _ => by simp at h
  | _ :: _, [], h, _ => by simp at h
  | (a, d) :: kvs, (b, v) :: kws, h, r => by
    simp only [List.map_cons, List.cons.injEq] at h
    obtain ⟨rfl, h⟩ := h
    cases r with
    | cons r t =>
      by_cases e : a = k
      · refine .inr ⟨d, v, ?_, ?_, r⟩
        · simp [valV, List.find?_cons, e]
        · exact valV_pos e
      · have z1 : valV k ((a, d) :: kvs) = valV k kvs := by simp [valV, List.find?_cons, e]
        rw [z1, valV_neg e]
        exact valV_rep k h t
end
/-- what a look-up in a dict finds -/
theorem look_rep {K : PySem.W.Frag} {W : Wd} {H : Hp} {st : St} {o k : D} {x y : V} {r : Option D} (hs : StRep K nm W H st) (r1 : Rep K W H o x) (r2 : Rep K W H k y) (h : lookD st o k = some r) :
    ∃ a, x = .ref a ∧ IsD H a ∧ ((r = none ∧ DGet H a y none) ∨ ∃ d v, r = some d ∧ DGet H a y (some v) ∧ Rep K W H d v) := by
  unfold lookD at h
  split at h
  · rename_i n
    split at h
    · rename_i kvs e
      obtain ⟨a, rfl, _, ob⟩ := rep_at hs r1 e
      cases ob with
      | dK h1 h2 h3 =>
        cases ek : keyD k with
        | none => rw [ek] at h; cases h
        | some z =>
          rw [ek] at h
          simp only [Option.map_some, Option.some.injEq] at h
          have hy := keyD_rep r2 ek
          subst hy
          refine ⟨a, rfl, .inl ⟨_, .inl h1⟩, ?_⟩
          rcases valV_rep z h2 h3 with ⟨q1, q2⟩ | ⟨d, v, q1, q2, q3⟩
          · exact .inl ⟨by rw [← h]; exact q1, by rw [← q2]; exact DGet.k h1⟩
          · exact .inr ⟨d, v, by rw [← h]; exact q1, by rw [← q2]; exact DGet.k h1, q3⟩
    · rename_i kvs e
      obtain ⟨a, rfl, _, ob⟩ := rep_at hs r1 e
      cases ob with
      | dT h1 h2 h3 =>
        cases ek : keyT k with
        | none => rw [ek] at h; cases h
        | some z =>
          rw [ek] at h
          simp only [Option.map_some, Option.some.injEq] at h
          obtain ⟨b, rfl, hb⟩ := keyT_rep r2 ek
          refine ⟨a, rfl, .inr ⟨_, .inl h1⟩, ?_⟩
          rcases valV_rep z h2 h3 with ⟨q1, q2⟩ | ⟨d, v, q1, q2, q3⟩
          · exact .inl ⟨by rw [← h]; exact q1, by rw [← q2]; exact DGet.t h1 hb⟩
          · exact .inr ⟨d, v, by rw [← h]; exact q1, by rw [← q2]; exact DGet.t h1 hb, q3⟩
    · cases h
  · cases h
/-- x in y -/
theorem in_rep {K : PySem.W.Frag} {W : Wd} {H : Hp} {st : St} {x y : D} {v u : V} {b : Bool} (hs : StRep K nm W H st) (r1 : Rep K W H x v) (r2 : Rep K W H y u) (h : inD st x y = some b) :
    (∃ i j, v = .str i ∧ u = .str j ∧ b = !(Builtin.Str.occurrences j i 0 j.length 1).isEmpty) ∨
    (∃ d ds, Dp K H v d ∧ Dp K H u (.list ds) ∧ SeqAt.shaped d = true ∧ SeqAt.shaped (.list ds) = true ∧ b = ds.any fun z => PyData.eqv z d) ∨
    (∃ p vs, u = .ref p ∧ (SqL K H p vs ∨ SqT K H p vs) ∧ flatV v = true ∧ vs.all flatV = true ∧ b = inV v vs) ∨
    ∃ a o, u = .ref a ∧ DGet H a v o ∧ b = o.isSome := by
  unfold inD at h
  split at h
  · rename_i t e
    have z := view_eq e (by intro _ q; cases q)
    subst z
    split at h
    · cases h
      exact .inl ⟨_, _, rep_str r1, rep_str r2, rfl⟩
    · cases h
  · rename_i ds e
    split at h
    · rename_i c
      rw [Bool.and_eq_true] at c
      cases h
      obtain ⟨p, vs, rfl, h1, h2⟩ := view_lst hs r2 e
      exact .inr (.inr (.inl ⟨p, vs, rfl, .inl (SqL.of h1), flat_rep r1 c.1, Reps.all (fun _ _ => flat_rep) h2 c.2, (any_flat r1 c.1 h2 c.2).symm⟩))
    split at h
    · rename_i c
      rw [Bool.and_eq_true] at c
      obtain ⟨p1, p2⟩ := shaped_of c.1
      obtain ⟨p3, p4⟩ := shaped_list c.2
      cases h
      have q : Dp K H u (view st y).py := dp_view hs r2 (by rw [e]; simpa [D.pure] using p3)
      rw [e] at q
      exact .inr (.inl ⟨_, D.pys ds, dp_view hs r1 p1, by simpa [D.py] using q, p2, p4, (any_pys _ ds).symm⟩)
    · cases h
  · rename_i ds e
    have z := view_eq e (by intro _ q; cases q)
    subst z
    split at h
    · rename_i c
      rw [Bool.and_eq_true] at c
      cases h
      obtain ⟨p, vs, rfl, h1, h2⟩ := rep_tup r2
      exact .inr (.inr (.inl ⟨p, vs, rfl, .inr (SqT.of h1), flat_rep r1 c.1, Reps.all (fun _ _ => flat_rep) h2 c.2, (any_flat r1 c.1 h2 c.2).symm⟩))
    · cases h
  · rename_i ds e
    have z := view_eq e (by intro _ q; cases q)
    subst z
    split at h
    · rename_i c
      rw [Bool.and_eq_true] at c
      cases h
      cases r2 with
      | kon h1 h2 => exact .inr (.inr (.inl ⟨_, _, rfl, .inr h1.sq, flat_rep r1 c.1, Reps.all (fun _ _ => flat_rep) h2 c.2, (any_flat r1 c.1 h2 c.2).symm⟩))
    · cases h
  · rename_i n e
    have z := view_eq e (by intro _ q; cases q)
    subst z
    cases el : lookD st (.ref n) x with
    | none => rw [el] at h; cases h
    | some r =>
      rw [el] at h
      simp only [Option.map_some, Option.some.injEq] at h
      obtain ⟨a, rfl, _, q⟩ := look_rep hs r2 r1 el
      rcases q with ⟨rfl, q⟩ | ⟨d, w, rfl, q, _⟩
      · exact .inr (.inr (.inr ⟨a, none, rfl, q, by rw [← h]; rfl⟩))
      · exact .inr (.inr (.inr ⟨a, some w, rfl, q, by rw [← h]; rfl⟩))
  · cases h
theorem op_inE (hu : X.A.units + 65 < cLine) : OpR X (compareOp .In) (r2B X.K nm inD) := by
  intro pins s σ H x y v u Q I rx ry h
  obtain ⟨W, d, e, st, b, hs, r1, r2, h, q⟩ := h
  rcases in_rep hs r1 r2 h with ⟨i, j, rfl, rfl, rfl⟩ | ⟨d', ds, h1, h2, h3, h4, rfl⟩ | ⟨p, vs, rfl, h1, h2, h3, rfl⟩ | ⟨a, o, rfl, h1, rfl⟩
  · exact op_in_str pins s σ H _ _ v u Q I rx ry ⟨i, j, rfl, rfl, q⟩
  · exact op_inD hu pins s σ H _ _ v u Q I rx ry ⟨d', ds, h1, h2, h3, h4, q⟩
  · exact op_in_seq pins s σ H _ _ v u Q I rx ry ⟨p, vs, rfl, h1, h2, h3, by simpa using q⟩
  · obtain rfl : u = Value.ref a := ry
    exact d_in (by omega) I h1 rx fun s3 I3 => ⟨.bl o.isSome, H, I3, rfl, q⟩
theorem op_notinE (hu : X.A.units + 65 < cLine) : OpR X (compareOp .NotIn) (r2B X.K nm fun st x y => (inD st x y).map (!·)) := by
  intro pins s σ H x y v u Q I rx ry h
  obtain ⟨W, d, e, st, b, hs, r1, r2, h, q⟩ := h
  dsimp only at h
  cases ei : inD st d e with
  | none => rw [ei] at h; cases h
  | some c =>
    rw [ei] at h
    simp only [Option.map_some, Option.some.injEq] at h
    subst h
    rcases in_rep hs r1 r2 ei with ⟨i, j, rfl, rfl, rfl⟩ | ⟨d', ds, h1, h2, h3, h4, rfl⟩ | ⟨p, vs, rfl, h1, h2, h3, rfl⟩ | ⟨a, o, rfl, h1, rfl⟩
    · exact L2.op_notIn_str pins s σ H _ _ v u Q I rx ry ⟨i, j, rfl, rfl, q⟩
    · exact op_notInD hu pins s σ H _ _ v u Q I rx ry ⟨d', ds, h1, h2, h3, h4, q⟩
    · exact op_notIn_seq pins s σ H _ _ v u Q I rx ry ⟨p, vs, rfl, h1, h2, h3, by simpa using q⟩
    · obtain rfl : u = Value.ref a := ry
      exact d_notIn (by omega) I h1 rx fun s3 I3 => ⟨.bl (!o.isSome), H, I3, rfl, q⟩
theorem ints_rep {K : PySem.W.Frag} {W : Wd} {H : Hp} : ∀ {ds : List D} {vs : List V} {ns : List Int}, Reps K W H ds vs → intsOf ds = some ns → vs = ns.map V.int
  | _, _, _, .nil, h => by simp [intsOf] at h; subst h; rfl
  | _, _, _, .cons (d := d) (ds := ds) r t, h => by
    cases d <;> first | (simp [intsOf] at h; done) | skip
    rw [intsOf] at h
    cases e2 : intsOf ds with
    | none => rw [e2] at h; simp at h
    | some ks =>
      rw [e2] at h
      simp only [Option.map_some, Option.some.injEq] at h
      subst h
      rw [rep_int r, ints_rep t e2]
      rfl
theorem lexAt_shift (e r : Nat → Bool) (z : Bool) : ∀ k i, Ob.lexAt e r z (i + 1) k = Ob.lexAt (fun j => e (j + 1)) (fun j => r (j + 1)) z i k
  | 0, i => rfl
  | k + 1, i => by rw [Ob.lexAt_succ, Ob.lexAt_succ, lexAt_shift e r z k (i + 1)]
theorem ge_eq : ∀ ns ms : List Int, Ob.lexAt (fun j => decide (ns.getD j 0 = ms.getD j 0)) (fun j => decide (ms.getD j 0 ≤ ns.getD j 0)) (decide (ns.length ≥ ms.length)) 0 (min ns.length ms.length) = geL ns ms
  | [], [] => rfl
  | [], _ :: _ => rfl
  | _ :: _, [] => rfl
  | n :: ns, m :: ms => by
    have ih := ge_eq ns ms
    have e : min (n :: ns).length (m :: ms).length = min ns.length ms.length + 1 := by simp only [List.length_cons]; omega
    rw [e, Ob.lexAt_succ, lexAt_shift]
    unfold geL at ih ⊢
    rw [HT.lexLt_cons]
    by_cases h : n = m
    · subst h
      simp only [List.getD_cons_zero, List.getD_cons_succ, decide_true, if_true, List.length_cons] at ih ⊢
      rw [← ih]
      congr 1
      exact decide_eq_decide.mpr (by omega)
    · simp only [List.getD_cons_zero, decide_eq_true_eq, if_neg h]
      by_cases l : n < m
      · rw [decide_eq_true l, decide_eq_false (by omega)]; rfl
      · rw [decide_eq_false l, decide_eq_true (by omega)]; rfl
theorem op_geT (hu : X.A.units < cLine) : OpR X (compareOp .GtE) (fun x y H Q => ∃ (a b : Addr) (ns ms : List Int), x = .ref a ∧ y = .ref b ∧ SqT X.K H a (ns.map V.int) ∧ SqT X.K H b (ms.map V.int) ∧ Q (.bl (geL ns ms)) H) := by
  intro pins s σ H x y v u Q I rx ry h
  obtain ⟨a, b, ns, ms, rfl, rfl, ha, hb, q⟩ := h
  cases rx
  cases ry
  obtain ⟨its, r1, p1, _⟩ := I.tuple ha
  obtain ⟨its2, r2, p2, _⟩ := I.tuple hb
  have i1 : IntsAre its ns := Vals.ints r1
  have i2 : IntsAre its2 ms := Vals.ints r2
  have e1 : its.toArray.size = ns.length := by rw [List.size_toArray]; exact i1.length
  have e2 : its2.toArray.size = ms.length := by rw [List.size_toArray]; exact i2.length
  have at1 : ∀ j (h1 : j < its.toArray.size), ∃ t, its.toArray[j] = .int (ns.getD j 0) t := fun j h1 => IntsAre.int_at i1 _ _ (by simp at h1; simp [h1])
  have at2 : ∀ j (h1 : j < its2.toArray.size), ∃ t, its2.toArray[j] = .int (ms.getD j 0) t := fun j h1 => IntsAre.int_at i2 _ _ (by simp at h1; simp [h1])
  have R := Ob.RcOp.tuples_ge (A := X.A) (s := s) (e := fun j => decide (ns.getD j 0 = ms.getD j 0)) (r := fun j => decide (ms.getD j 0 ≤ ns.getD j 0)) p1 p2 hu
    (fun j h1 h2 => by
      obtain ⟨t, et⟩ := at1 j h1
      obtain ⟨t', et'⟩ := at2 j h2
      rw [et, et']
      have z : (ns.getD j 0 == ms.getD j 0) = decide (ns.getD j 0 = ms.getD j 0) := by
        by_cases q : ns.getD j 0 = ms.getD j 0
        · rw [decide_eq_true q]; exact beq_iff_eq.mpr q
        · rw [decide_eq_false q]; exact beq_eq_false_iff_ne.mpr q
      rw [← z]
      exact SeqAt.EqAt.int_int _ _ _ _)
    (fun j h1 h2 _ => by
      obtain ⟨t, et⟩ := at1 j h1
      obtain ⟨t', et'⟩ := at2 j h2
      rw [et, et']
      exact Ob.RcOp.ge_int _ _ _ _)
  rw [e1, e2, ge_eq] at R
  exact R X.prog X.w X.xe (EP X pins σ Q) ⟨.bl _, H, I, rfl, q⟩
theorem op_cmpD (hu : X.A.units + 65 < cLine) (op : Cmp) : OpR X (compareOp (pyCmp op)) (r2B X.K nm (cmpD op)) := by
  cases op with
  | eq => exact op_eqE (by omega)
  | ne => exact op_neE (by omega)
  | isin => exact op_inE hu
  | notin => exact op_notinE hu
  | lt =>
    intro pins s σ H x y v u Q I rx ry h
    obtain ⟨W, d, e, st, b, hs, r1, r2, h, q⟩ := h
    unfold cmpD at h
    dsimp only at h
    split at h
    · cases h
      exact op_lt pins s σ H _ _ v u Q I rx ry ⟨_, _, rep_int r1, rep_int r2, q⟩
    · split at h
      · rename_i e1 e2
        cases h
        obtain ⟨p, vs, rfl, h1, h2⟩ := rep_tup r1
        obtain ⟨p', vs', rfl, h3, h4⟩ := rep_tup r2
        have z1 := ints_rep h2 e1
        have z2 := ints_rep h4 e2
        subst z1; subst z2
        exact op_ltT (by omega) pins s σ H _ _ v u Q I rx ry ⟨_, _, _, _, rfl, rfl, SqT.of h1, SqT.of h3, q⟩
      · cases h
    · cases h
  | le =>
    intro pins s σ H x y v u Q I rx ry h
    obtain ⟨W, d, e, st, b, hs, r1, r2, h, q⟩ := h
    unfold cmpD at h
    dsimp only at h
    split at h
    · cases h
      exact op_le pins s σ H _ _ v u Q I rx ry ⟨_, _, rep_int r1, rep_int r2, q⟩
    · split at h <;> cases h
    · cases h
  | gt =>
    intro pins s σ H x y v u Q I rx ry h
    obtain ⟨W, d, e, st, b, hs, r1, r2, h, q⟩ := h
    unfold cmpD at h
    dsimp only at h
    split at h
    · cases h
      exact op_gt pins s σ H _ _ v u Q I rx ry ⟨_, _, rep_int r1, rep_int r2, q⟩
    · split at h <;> cases h
    · cases h
  | ge =>
    intro pins s σ H x y v u Q I rx ry h
    obtain ⟨W, d, e, st, b, hs, r1, r2, h, q⟩ := h
    unfold cmpD at h
    dsimp only at h
    split at h
    · cases h
      exact op_ge pins s σ H _ _ v u Q I rx ry ⟨_, _, rep_int r1, rep_int r2, q⟩
    · split at h
      · rename_i e1 e2
        cases h
        obtain ⟨p, vs, rfl, h1, h2⟩ := rep_tup r1
        obtain ⟨p', vs', rfl, h3, h4⟩ := rep_tup r2
        have z1 := ints_rep h2 e1
        have z2 := ints_rep h4 e2
        subst z1; subst z2
        exact op_geT (by omega) pins s σ H _ _ v u Q I rx ry ⟨_, _, _, _, rfl, rfl, SqT.of h1, SqT.of h3, q⟩
      · cases h
    · cases h
/-! ### places, slices -/
theorem at_rep {K : PySem.W.Frag} {W : Wd} {H : Hp} {ds : List D} {vs : List V} {k : Int} {d : D} (r : Reps K W H ds vs) (h : atI ds k = some d) : ∃ v, atI vs k = some v ∧ Rep K W H d v := by
  unfold atI at h ⊢
  rw [r.length] at h
  cases e : ixN vs.length k with
  | none => rw [e] at h; cases h
  | some j =>
    rw [e] at h
    exact r.get h
def r2O (K : PySem.W.Frag) (nm : Nm) (f : St → D → D → Option D) : R2 := fun x y H Q => ∃ W d e st c, StRep K nm W H st ∧ Rep K W H d x ∧ Rep K W H e y ∧ f st d e = some c ∧ ∀ z, Rep K W H c z → Q z H
theorem ix_D (hu : X.A.units + 1 < cLine) : IxR X (r2O X.K nm ixD) := by
  intro value slice pins s σ H x y v u Q I rx ry h hs
  obtain ⟨W, d, e, st, c, hst, r1, r2, h, q⟩ := h
  unfold ixD at h
  split at h
  · rename_i ds k e1
    obtain ⟨p, vs, rfl, h1, h2⟩ := view_lst hst r1 e1
    obtain ⟨z, h3, h4⟩ := at_rep h2 h
    exact ix_list value slice pins s σ H _ _ v u Q I rx ry ⟨p, vs, k, z, rfl, rep_int r2, SqL.of h1, h3, q z h4⟩ hs
  · rename_i ds k e1
    have z := view_eq e1 (by intro _ q; cases q)
    subst z
    obtain ⟨p, vs, rfl, h1, h2⟩ := rep_tup r1
    obtain ⟨z, h3, h4⟩ := at_rep h2 h
    exact ix_tup value slice pins s σ H _ _ v u Q I rx ry ⟨p, vs, k, z, rfl, rep_int r2, SqT.of h1, h3, q z h4⟩ hs
  · rename_i ds k e1
    have z := view_eq e1 (by intro _ q; cases q)
    subst z
    cases r1 with
    | kon h1 h2 =>
      obtain ⟨z, h3, h4⟩ := at_rep h2 h
      exact ix_tup value slice pins s σ H _ _ v u Q I rx ry ⟨_, _, k, z, rfl, rep_int r2, h1.sq, h3, q z h4⟩ hs
  · rename_i t k e1
    have z := view_eq e1 (by intro _ q; cases q)
    subst z
    split at h
    · rename_i hl
      cases ea : atI t.cps.toList k with
      | none => rw [ea] at h; cases h
      | some z =>
        rw [ea] at h
        cases h
        exact ix_str value slice pins s σ H _ _ v u Q I rx ry ⟨t, k, z, rep_str r1, rep_int r2, by rw [← sizeMax_line]; exact hl, ea, q _ (.str _)⟩ hs
    · cases h
  · rename_i n e1
    have z := view_eq e1 (by intro _ q; cases q)
    subst z
    split at h
    · rename_i w el
      cases h
      obtain ⟨a, rfl, _, z⟩ := look_rep hst r1 r2 el
      rcases z with ⟨z, _⟩ | ⟨d', w', z, g, r⟩
      · cases z
      · cases z
        obtain rfl : v = Value.ref a := rx
        exact tail_any (dict_typeIs I g) slot_dict_getitem.lookup (d_getItem hu I g ry fun w2 s2 I2 rw2 => ⟨w', H, I2, rw2, q _ r⟩) hs
    · cases h
  · cases h
theorem cut_rep {K : PySem.W.Frag} {W : Wd} {H : Hp} {ds : List D} {vs : List V} (r : Reps K W H ds vs) (lo hi : Option Int) : Reps K W H (cut ds lo hi) (cutV vs lo hi) := by
  unfold cut cutV
  rw [r.length]
  exact (r.drop _).take _
theorem sl_D {mm : Bool} : SlR X (fun x lo hi H Q => ∃ W d st, StRep X.K nm W H st ∧ Rep X.K W H d x ∧ Post X.K nm W H (slD mm st d lo hi) (Rep X.K) Q XQ) := by
  intro pins s σ H x v vl vu lo hi sl Q I rx hsl pl pu h
  obtain ⟨W, d, st, hs, r, h⟩ := h
  unfold slD at h
  split at h
  · rename_i ds e
    obtain ⟨p, vs, rfl, h1, h2⟩ := view_lst hs r e
    exact sl_list pins s σ H _ v vl vu lo hi sl Q I rx hsl pl pu ⟨p, vs, rfl, SqL.of h1, (h.mk hs (cut_rep h2 lo hi)).2⟩
  · rename_i ds e
    have z := view_eq e (by intro _ q; cases q)
    subst z
    cases r with
    | scr h1 h2 => exact sl_list pins s σ H _ v vl vu lo hi sl Q I rx hsl pl pu ⟨_, _, rfl, h1.sq, (h.mk hs (cut_rep h2 lo hi)).2⟩
  · rename_i ds e
    have z := view_eq e (by intro _ q; cases q)
    subst z
    obtain ⟨p, vs, rfl, h1, h2⟩ := rep_tup r
    refine sl_tupA pins s σ H _ v vl vu lo hi sl Q I rx hsl pl pu ⟨p, vs, rfl, SqT.of h1, fun w => ?_, fun _ => h.tup hs (cut_rep h2 lo hi)⟩
    have e : cut ds lo hi = ds := by
      unfold cut
      rw [h2.length, w.1, w.2, ← h2.length]
      simp
    rw [e] at h
    exact h.val hs r
  · rename_i t e
    have z := view_eq e (by intro _ q; cases q)
    subst z
    split at h
    · rename_i hl
      refine sl_str pins s σ H _ v vl vu lo hi sl Q I rx hsl pl pu ⟨t, rep_str r, by rw [← sizeMax_line]; exact hl, ?_⟩
      have e2 : (cutS t lo hi) = ⟨(cut t.cps.toList lo hi).toArray⟩ := by
        unfold cutS cut
        rw [Array.length_toList]
        rfl
      rw [e2]
      exact h.val hs (.str _)
    · exact h.elim
  · exact h.elim
end
end Ev
/-! Ev5: sorted, built-in functions. -/
namespace Ev
open PySem PySem.Spec PyProof.Rows L2
/-! ### items gathered from a list or a tuple -/
section
variable {prog : Program} {w : World} {A : Around} {E : Value → Shared → Prop} {s : Shared}
theorem gather_seq {l : Addr} {vs : List Value} {o : Obj} {n : Nat} {T : String} {Q : List Value → Shared → Prop} (ho : s.heap.get? l = some o) (hc : o.cls = .type T) (hT : T = "list" ∨ T = "tuple") (hd : o.data = .seq vs.toArray n)
    (h : ∀ h' tk, (∀ b u, s.heap.get? b = some u → h'.get? b = some u) → s.heap.objs.size ≤ h'.objs.size → Q vs { s with heap := h', toks := tk }) (hsz : vs.length ≤ sizeLine) :
    wpAny (model prog w) A (collect (.ref l)) Q E s := by
  have hle := sizeLine_eq
  unfold collect
  refine wpAny_bind (wpAny_runValue (codeAny_builtin entry_proto_collect' ?_))
  show wpAny _ _ (do again (.builtin "list.__iadd__" ⟨[← newList [], .ref l], []⟩)) _ _ s
  refine wpAny_bind (wpAny_newList (wpAny_pure ⟨Code.quiet_builtin _ (by decide +kernel), codeAny_builtin entry_list_iadd' ?_⟩) (Nat.zero_le _))
  show wpAny _ _ (Builtin.List.listExtendWith (.ref s.heap.objs.size) (.ref l) (.ref s.heap.objs.size)) _ _ { s with heap := s.heap.push (seqObj "list" #[] 0) }
  unfold Builtin.List.listExtendWith
  have old : (s.heap.push (seqObj "list" #[] 0)).get? l = some o := Heap.get?_push_of_some _ ho
  refine wpAny_bind (wpAny_typeOf (T := T) ⟨o, old, hc⟩ ?_)
  have tt : (Builtin.List.listSameRef (.ref s.heap.objs.size) (.ref l) || Value.type T == Value.type "list" || Value.type T == Value.type "tuple") = true := by
    rcases hT with rfl | rfl
    · have : (Value.type "list" == Value.type "list") = true := by rfl
      rw [this]; simp
    · have : (Value.type "tuple" == Value.type "tuple") = true := by rfl
      rw [this]; simp
  rw [if_pos tt]
  refine wpAny_bind (listItems_at old hd ?_)
  refine wpAny_bind (listItems_at (xs := #[]) (n := 0) (Heap.get?_push_size _ rfl) rfl ?_)
  rw [if_neg (by simp)]
  refine wpAny_bind (listUpdate_at (xs := #[]) (n := 0) (Heap.get?_push_size _ rfl) rfl ?_ (Nat.zero_le _) (by show (#[] ++ vs.toArray).size ≤ sizeLine + 1; simp only [Array.size_append, List.size_toArray, List.length_nil]; omega))
  refine wpAny_pure ?_
  show wpAny (model prog w) A (load s.heap.objs.size >>= _) Q E { s with heap := (s.heap.push (seqObj "list" #[] 0)).update s.heap.objs.size (Obj.mapSeq (· ++ vs.toArray)) }
  refine wpAny_bind (wpAny_load (get?_update_seq (Heap.get?_push_size _ rfl) _) ?_)
  show wpAny _ _ (pure ((#[] : Array Value) ++ vs.toArray).toList) Q E _
  have e : ((#[] : Array Value) ++ vs.toArray).toList = vs := by simp
  rw [e]
  refine wpAny_pure (h _ s.toks (fun b u q => ?_) ?_)
  · rw [Heap.get?_update_ne _ _ _ _ (Nat.ne_of_lt (Heap.lt_size q))]
    exact Heap.get?_push_of_some _ q
  · rw [Heap.size_update, Heap.size_push]
    exact Nat.le_succ _
/-- .. from anything that is walked -/
theorem gather_src {T : String} {r d : Addr} {n : Nat} {P : Nat → Value → Prop} {OK : Heap → Prop} {Q : List Value → Shared → Prop} (K : PySem.W.KdlSrc prog w T r d n P OK) (hh : A.handled = none) (hok : OK s.heap) (hn : n ≤ sizeLine)
    (h : ∀ (h' : Heap) (tk : Nat) (acc : Array Value), (∀ b u, s.heap.get? b = some u → h'.get? b = some u) → s.heap.objs.size ≤ h'.objs.size → ItemsOf P acc n → Q acc.toList { s with heap := h', toks := tk }) :
    wpAny (model prog w) A (collect (.ref r)) Q E s := by
  have lt := K.there _ hok
  unfold collect
  refine wpAny_bind (wpAny_runValue (codeAny_builtin entry_proto_collect' ?_))
  rw [Around.under_plainId PySem.F.plain_proto_collect _]
  show wpAny _ A.in1 (newList [] >>= fun l => again (.builtin "list.__iadd__" ⟨[l, .ref r], []⟩)) _ _ s
  refine wpAny_bind (wpAny_newObj_type (wpAny_pure ⟨plainId_quiet PySem.F.plain_list_iadd _, codeAny_builtin entry_list_iadd' ?_⟩))
  rw [Around.under_plainId PySem.F.plain_list_iadd _]
  have new0 : (s.heap.push { cls := .type "list", data := .seq ([] : List Value).toArray }).get? s.heap.objs.size = some { cls := .type "list", data := .seq #[] } := Heap.get?_push_size _ rfl
  show wpAny _ A.in1 (Builtin.List.listExtendWith (.ref s.heap.objs.size) (.ref r) (.ref s.heap.objs.size)) _ _ _
  have go := PySem.W.kdl_extend (A := A) (s := { s with heap := s.heap.push { cls := .type "list", data := .seq ([] : List Value).toArray } })
    (R := fun (q : Result) (s' : Shared) => ∃ (h' : Heap) (tk : Nat) (acc : Array Value) (c' : Nat), q = .ok (.ret (.ref s.heap.objs.size)) ∧ s' = { s with heap := h', toks := tk } ∧
      (∀ b u, s.heap.get? b = some u → h'.get? b = some u) ∧ h'.get? s.heap.objs.size = some { cls := .type "list", dict := none, data := .seq acc c', slots := #[] } ∧ ItemsOf P acc n)
    K hh (K.keep _ _ hok fun b _ o e => Heap.get?_push_of_some _ e) s.heap.objs.size (Nat.ne_of_gt lt.1) (Nat.ne_of_gt lt.2) (.ref s.heap.objs.size) 0 new0
    (fun h' tk acc c' hk hS hacc => ⟨h', tk, acc, c', rfl, rfl, fun b u e => hk b u (Nat.ne_of_lt (Heap.lt_size e)) (Heap.get?_push_of_some _ e), hS, hacc⟩) hn
  refine wpAny_mono go (fun fin s' x => ?_) fun e s' x => ?_
  · cases fin with
    | done f =>
      obtain ⟨h', tk, acc, c', e, rfl, hk, hS, hacc⟩ := x
      cases e
      show wpAny _ A (load s.heap.objs.size >>= _) _ _ _
      exact wpAny_bind (wpAny_load hS (wpAny_pure (h h' tk acc hk (Nat.le_of_lt (Heap.lt_size hS)) hacc)))
    | again c₁ =>
      refine ⟨x.1, codeAny_mono x.2 fun q s₂ y => ?_⟩
      obtain ⟨h', tk, acc, c', rfl, rfl, hk, hS, hacc⟩ := y
      show wpAny _ A (load s.heap.objs.size >>= _) _ _ _
      exact wpAny_bind (wpAny_load hS (wpAny_pure (h h' tk acc hk (Nat.le_of_lt (Heap.lt_size hS)) hacc)))
  · obtain ⟨_, _, _, _, e', _⟩ := x
    cases e'
end
/-! ### the order -/
theorem Reps.memZip {K : PySem.W.Frag} {W : Wd} {H : Hp} {ds : List D} {vs : List V} (r : Reps K W H ds vs) : ∀ p ∈ ds.zip vs, Rep K W H p.1 p.2 := by
  induction ds generalizing vs with
  | nil => intro p m; simp at m
  | cons d ds ih =>
    cases r with
    | cons r t =>
      intro p m
      rcases List.mem_cons.mp m with m | m
      · subst m; exact r
      · exact ih t p m
theorem Reps.ofZip {K : PySem.W.Frag} {W : Wd} {H : Hp} : ∀ {ps : List (D × V)}, (∀ p ∈ ps, Rep K W H p.1 p.2) → Reps K W H (ps.map (·.1)) (ps.map (·.2))
  | [], _ => .nil
  | p :: ps, h => .cons (h p List.mem_cons_self) (Reps.ofZip fun q m => h q (List.mem_cons_of_mem _ m))
theorem each_vals : ∀ {vs : List V} {us : List Value} {ds : List D}, Vals vs us → ds.length = vs.length → PySem.W.EachIs (fun u p => RelV p.2 u) us (ds.zip vs)
  | [], _, ds, r, h => by cases r; rw [List.zip_nil_right]; exact .nil
  | v :: vs, _, [], _, h => by simp at h
  | v :: vs, _, d :: ds, r, h => by
    cases r with
    | cons r t => exact .cons r (each_vals t (by simpa using h))
theorem vals_each : ∀ {us : List Value} {ps : List (D × V)}, PySem.W.EachIs (fun u p => RelV p.2 u) us ps → Vals (ps.map (·.2)) us
  | _, _, .nil => .nil
  | _, _, .cons h t => .cons h (vals_each t)
theorem sort_rep {K : PySem.W.Frag} {W : Wd} {H : Hp} {ds : List D} {vs : List V} (r : Reps K W H ds vs) :
    Reps K W H (sortD ds) (((ds.zip vs).mergeSort (PySem.W.dataLe false fun p => p.1.py)).map (·.2)) := by
  have e : ((ds.zip vs).mergeSort (PySem.W.dataLe false fun p => p.1.py)).map (·.1) = sortD ds := by
    have z := PySem.W.sort_maps (r := PySem.W.dataLe false fun p : D × V => p.1.py) (s := PySem.W.dataLe false D.py) (fun p : D × V => p.1) (l := ds.zip vs) (fun _ _ _ _ => rfl)
    rw [z]
    have e2 : (ds.zip vs).map (fun p => p.1) = ds := List.map_fst_zip (Nat.le_of_eq r.length)
    rw [e2]
    rfl
  rw [← e]
  exact Reps.ofZip fun p m => r.memZip p ((List.mergeSort_perm _ _).mem_iff.mp m)
theorem allAlike_of {ds : List D} (h : allAlike ds = true) : ∀ {bs : List (D × V)}, (∀ p ∈ bs, p.1 ∈ ds) → PySem.W.AllAlike (bs.map fun p => p.1.py) := by
  intro bs hb d hd d' hd'
  obtain ⟨p, hp, rfl⟩ := List.mem_map.mp hd
  obtain ⟨q, hq, rfl⟩ := List.mem_map.mp hd'
  exact List.all_eq_true.mp (List.all_eq_true.mp h _ (hb p hp)) _ (hb q hq)
theorem sortable_of {ds : List D} (h : sortable ds = true) : ∀ {bs : List (D × V)}, (∀ p ∈ bs, p.1 ∈ ds) → PySem.W.Sortable (bs.map fun p => p.1.py) := by
  intro bs hb
  unfold sortable at h
  rw [Bool.or_eq_true] at h
  rcases h with h | h
  · left
    intro d hd
    obtain ⟨p, hp, rfl⟩ := List.mem_map.mp hd
    have z := List.all_eq_true.mp h _ (hb p hp)
    cases e : p.1 with
    | tup es =>
      cases es with
      | nil => rw [e] at z; cases z
      | cons x r => exact ⟨_, _, by rw [D.py, D.pys]⟩
    | _ => rw [e] at z; cases z
  · right
    intro d hd
    obtain ⟨p, hp, rfl⟩ := List.mem_map.mp hd
    have z := List.all_eq_true.mp h _ (hb p hp)
    cases e : p.1 <;> rw [e] at z <;> first | (cases z; done) | (refine ⟨by simp [D.py], by simp [D.py]⟩)
theorem canSort_of {ds : List D} (h : canSort ds = true) : D.pures ds = true ∧ allAlike ds = true ∧ sortable ds = true ∧ ∀ d ∈ ds, d.py.depth ≤ 60 := by
  unfold canSort at h
  simp only [Bool.and_eq_true] at h
  exact ⟨h.1.1.1, h.1.1.2, h.1.2, fun d m => of_decide_eq_true (List.all_eq_true.mp h.2 d m)⟩
theorem pures_mem {ds : List D} (h : D.pures ds = true) : ∀ d ∈ ds, d.pure = true := by
  induction ds with
  | nil => intro d m; cases m
  | cons a ds ih =>
    rw [D.pures, Bool.and_eq_true] at h
    intro d m
    rcases List.mem_cons.mp m with m | m
    · subst m; exact h.1
    · exact ih h.2 d m
mutual
theorem reads_lt {h : Heap} : ∀ (d : D) (u : Value) (as : List Addr), Reads h u d.py as → ∀ a ∈ as, a < h.objs.size
  | .non, _, _, r => by cases r; intro a m; cases m
  | .bl _, _, _, r => by cases r; intro a m; cases m
  | .int _, _, _, r => by cases r; intro a m; cases m
  | .str _, _, _, r => by cases r; intro a m; cases m
  | .ref _, _, _, r => by cases r; intro a m; cases m
  | .scr _, _, _, r => by cases r; intro a m; cases m
  | .kon _, _, _, r => by cases r; intro a m; cases m
  | .lst xs, _, _, r => by
    rw [D.py] at r
    cases r with
    | list h1 h2 h3 h4 =>
      intro a m
      rcases List.mem_cons.mp m with m | m
      · subst m; exact Heap.lt_size h1
      · exact reads_lts xs _ _ h4 a m
  | .tup xs, _, _, r => by
    rw [D.py] at r
    cases r with
    | tuple h1 h2 h3 h4 => exact fun a m => reads_lts xs _ _ h4 a m
theorem reads_lts {h : Heap} : ∀ (ds : List D) (us : List Value) (as : List Addr), ReadsAll h us (D.pys ds) as → ∀ a ∈ as, a < h.objs.size
  | [], _, _, r => by rw [D.pys] at r; cases r; intro a m; cases m
  | d :: ds, _, _, r => by
    rw [D.pys] at r
    cases r with
    | cons h1 h2 =>
      intro a m
      rcases List.mem_append.mp m with m | m
      · exact reads_lt d _ _ h1 a m
      · exact reads_lts ds _ _ h2 a m
end
section
variable {X : Cx}
/-- items that stand for data, read in a later heap; the list at a is new -/
theorem each_reads {pins : List (Addr × Obj)} {s : Shared} {σ : L2.St} {H : Hp} {W : Wd} {h' : Heap} {a : Addr} (I : Inv X pins σ H s) (k : ∀ b o, s.heap.get? b = some o → h'.get? b = some o) (ha : s.heap.objs.size ≤ a) :
    ∀ {ds : List D} {vs : List V} {us : List Value}, Reps X.K W H ds vs → Vals vs us → D.pures ds = true → PySem.W.EachIs (fun u (p : D × V) => ∃ as, Reads h' u p.1.py as ∧ a ∉ as) us (ds.zip vs)
  | [], _, us, r, v, _ => by cases r; cases v; exact .nil
  | d :: ds, _, us, r, v, p => by
    rw [D.pures, Bool.and_eq_true] at p
    cases r with
    | cons r t =>
      cases v with
      | cons q u =>
        obtain ⟨as, z⟩ := Dp.reads I _ _ _ (dp_of d _ p.1 r) q
        refine .cons ⟨as, Reads.keeps k z, fun m => ?_⟩ (each_reads I k ha t u p.2)
        exact absurd (reads_lt d _ _ z a m) (Nat.not_lt.mpr ha)
/-- the gathered items are laid into a new list, which is sorted -/
theorem sort_new {pins : List (Addr × Obj)} {s : Shared} {σ : L2.St} {H : Hp} {W : Wd} {h' : Heap} {tk : Nat} {ds : List D} {vs : List V} {us : List Value} {Q : VK} (I : Inv X pins σ H s) (hu : X.A.units + 64 < cLine)
    (k : ∀ b o, s.heap.get? b = some o → h'.get? b = some o) (hsz : s.heap.objs.size ≤ h'.objs.size) (r : Reps X.K W H ds vs) (v : Vals vs us) (c : canSort ds = true) (hz : vs.length ≤ sizeLine)
    (q : ∀ p, H p = none → Q (.ref p) (upd H p (.lst (((ds.zip vs).mergeSort (PySem.W.dataLe false fun p => p.1.py)).map (·.2))))) :
    wpAny (model X.prog X.w) X.A.in1 (PySem.call (.builtin "list.sort") [.ref h'.objs.size]) (fun _ s' => EP X pins σ Q (.ref h'.objs.size) s') X.xe { s with heap := h'.push { cls := .type "list", data := .seq us.toArray }, toks := tk } := by
  obtain ⟨c1, c2, c3, c4⟩ := canSort_of c
  have hl := r.length
  have vl := v.length
  have ho : (h'.push { cls := .type "list", data := .seq us.toArray }).get? h'.objs.size = some (seqObj "list" us.toArray 0) := Heap.get?_push_size _ rfl
  have zl : (ds.zip vs).length = ds.length := by rw [List.length_zip]; omega
  have mem : ∀ p ∈ ds.zip vs, p.1 ∈ ds := fun p m => (List.of_mem_zip (show (p.1, p.2) ∈ ds.zip vs from m)).1
  refine PySem.W.list_sort_data (R := fun u (p : D × V) => RelV p.2 u) (enc := fun p => p.1.py) (bs := ds.zip vs) (vs := us) ho (each_vals v hl)
    (each_reads (a := h'.objs.size) I (fun b o e => Heap.get?_push_of_some _ (k b o e)) hsz r v c1) (allAlike_of c2 mem) (sortable_of c3 mem) (by rw [zl]; omega) (fun p m => ?_) fun out hlen eo => ?_
  · have := c4 _ (mem p m)
    show X.A.in1.units + 1 + p.1.py.depth < cLine
    have e : X.A.in1.units = X.A.units + 1 := rfl
    rw [e]
    omega
  · obtain ⟨n, hn⟩ := sortedHeap_at (out := out.toArray) ho
    have hv : Vals (((ds.zip vs).mergeSort (PySem.W.dataLe false fun p => p.1.py)).map (·.2)) out := vals_each eo
    refine ⟨.ref h'.objs.size, _, I.laid (t' := tk) (a := h'.objs.size) (o := .lst (((ds.zip vs).mergeSort (PySem.W.dataLe false fun p => p.1.py)).map (·.2))) (fun b o e => ?_) hsz ?_, rfl, q _ (I.hok.fresh hsz)⟩
    · have e1 : (h'.push { cls := .type "list", data := .seq us.toArray }).get? b = some o := Heap.get?_push_of_some _ (k b o e)
      rw [sortedHeap_old (Nat.ne_of_lt (Heap.lt_size (k b o e))) (Heap.lt_size e1)]
      exact e1
    · refine ⟨?_, out, n, hv, hn⟩
      have e1 := hv.length
      rw [e1, hlen, zl]
      omega
/-- sorted(x) of a list, a tuple -/
theorem sorted_seq {pins : List (Addr × Obj)} {s : Shared} {σ : L2.St} {H : Hp} {W : Wd} {a : Addr} {ds : List D} {vs : List V} {Q : VK} (I : Inv X pins σ H s) (hu : X.A.units + 64 < cLine)
    (hq : SqL X.K H a vs ∨ SqT X.K H a vs) (r : Reps X.K W H ds vs) (c : canSort ds = true)
    (q : ∀ p, H p = none → Q (.ref p) (upd H p (.lst (((ds.zip vs).mergeSort (PySem.W.dataLe false fun p => p.1.py)).map (·.2))))) :
    wpAny (model X.prog X.w) X.A (PySem.call (.builtin "sorted") [.ref a]) (EP X pins σ Q) X.xe s := by
  obtain ⟨its, rv, ⟨o, T, n, ho, hc, hT, hd⟩, hz⟩ : ∃ its : List Value, Vals vs its ∧ (∃ o T n, s.heap.get? a = some o ∧ o.cls = .type T ∧ (T = "list" ∨ T = "tuple") ∧ o.data = .seq its.toArray n) ∧ vs.length ≤ sizeLine := by
    rcases hq with hq | hq
    · obtain ⟨its, rv, pl, hz⟩ := I.list hq
      obtain ⟨o, ho, hc, n, hd⟩ := pl.isList
      exact ⟨its, rv, ⟨o, _, n, ho, hc, .inl rfl, hd⟩, hz⟩
    · obtain ⟨its, rv, ⟨o, ho, hc, n, hd⟩, hz⟩ := I.tuple hq
      exact ⟨its, rv, ⟨o, _, n, ho, hc, .inr rfl, hd⟩, hz⟩
  have vl := rv.length
  refine Calls.call_function_entry kind_sorted plain_sorted entry_sorted (args_sorted1 _) ?_
  unfold Builtin.«sorted»
  refine wpAny_bind (m := checkCount "sorted" 1 1 _) (wpAny_pure ?_)
  refine wpAny_bind (gather_seq (A := X.A.in1) ho hc hT hd (fun h' tk k hsz => ?_) (by omega))
  refine wpAny_bind (wpAny_newList ?_ (by omega))
  refine wpAny_bind (wpAny_holding (wpAny_mono (sort_new (s := s) (h' := h') (tk := tk) I hu k hsz r rv c hz q) (fun _ s' x => ?_) fun _ _ e => e))
  exact wpAny_pure ⟨_, rfl, x⟩
end
end Ev
/-! Ev6: built-in functions and methods. -/
namespace Ev
open PySem PySem.Spec PyProof.Rows L2
section
variable {K : PySem.W.Frag} {nm : Nm} {W : Wd} {H : Hp} {st : St}
theorem reps0 {vs : List V} (r : Reps K W H [] vs) : vs = [] := by cases r; rfl
theorem reps1 {d : D} {vs : List V} (r : Reps K W H [d] vs) : ∃ v, vs = [v] ∧ Rep K W H d v := by
  cases r with
  | cons r t => cases t; exact ⟨_, rfl, r⟩
theorem reps2 {d e : D} {vs : List V} (r : Reps K W H [d, e] vs) : ∃ v u, vs = [v, u] ∧ Rep K W H d v ∧ Rep K W H e u := by
  cases r with
  | cons r t =>
    cases t with
    | cons q t => cases t; exact ⟨_, _, rfl, r, q⟩
theorem bools_rep : ∀ {ds : List D} {vs : List V} {bs : List Bool}, Reps K W H ds vs → boolsOf ds = some bs → vs = bs.map V.bl
  | _, _, _, .nil, h => by simp [boolsOf] at h; subst h; rfl
  | _, _, _, .cons (d := d) (ds := ds) r t, h => by
    cases d <;> first | (simp [boolsOf] at h; done) | skip
    rw [boolsOf] at h
    cases e2 : boolsOf ds with
    | none => rw [e2] at h; simp at h
    | some ks =>
      rw [e2] at h
      simp only [Option.map_some, Option.some.injEq] at h
      subst h
      rw [rep_bl r, bools_rep t e2]
      rfl
theorem strs_rep : ∀ {ds : List D} {vs : List V} {bs : List Str}, Reps K W H ds vs → strsOf ds = some bs → vs = bs.map V.str
  | _, _, _, .nil, h => by simp [strsOf] at h; subst h; rfl
  | _, _, _, .cons (d := d) (ds := ds) r t, h => by
    cases d <;> first | (simp [strsOf] at h; done) | skip
    rw [strsOf] at h
    cases e2 : strsOf ds with
    | none => rw [e2] at h; simp at h
    | some ks =>
      rw [e2] at h
      simp only [Option.map_some, Option.some.injEq] at h
      subst h
      rw [rep_str r, strs_rep t e2]
      rfl
/-- a list or a tuple -/
theorem seq_rep {d : D} {v : V} {ds : List D} (hs : StRep K nm W H st) (r : Rep K W H d v) (e : seqOf st d = some ds) : ∃ a vs, v = .ref a ∧ (SqL K H a vs ∨ SqT K H a vs) ∧ Reps K W H ds vs := by
  unfold seqOf at e
  split at e
  · rename_i q
    cases e
    obtain ⟨a, vs, rfl, h1, h2⟩ := view_lst hs r q
    exact ⟨a, vs, rfl, .inl (SqL.of h1), h2⟩
  · rename_i q
    cases e
    have z := view_eq q (by intro _ q; cases q)
    subst z
    obtain ⟨a, vs, rfl, h1, h2⟩ := rep_tup r
    exact ⟨a, vs, rfl, .inr (SqT.of h1), h2⟩
  · cases e
theorem items_rep {d : D} {v : V} {ds : List D} (hs : StRep K nm W H st) (r : Rep K W H d v) (e : items st d = some ds) : ∃ a vs, v = .ref a ∧ H a = some (.lst vs) ∧ Reps K W H ds vs := by
  unfold items at e
  split at e
  · rename_i q
    cases e
    exact view_lst hs r q
  · cases e
theorem vals_lst {d : D} {a : Addr} {ds : List D} {vs ws : List V} (hs : StRep K nm W H st) (r : Rep K W H d (.ref a)) (e : view st d = .lst ds) (q : H a = some (.lst ws)) (z : Reps K W H ds vs) : True := trivial
end
section
variable {X : Cx} {nm : Nm} {XQ : Nat → Hp → Prop} {m : Bool}
def rBI (K : PySem.W.Frag) (nm : Nm) (XQ : Nat → Hp → Prop) (f : BI) (m : Bool) : List V → Hp → VK → Prop :=
  fun xs H Q => ∃ W ds st, StRep K nm W H st ∧ Reps K W H ds xs ∧ Post K nm W H (biD f m st ds) (Rep K) Q XQ
theorem keysOf_len {K : PySem.W.Frag} {W : Wd} {H : Hp} {st : St} {d : D} {v : V} {ks : List D} (hs : StRep K nm W H st) (r : Rep K W H d v) (e : keysOf st d = some ks) :
    ∃ a, v = .ref a ∧ ((∃ kws : List (L2.Key × V), H a = some (.dK kws) ∧ kws.length = ks.length) ∨ ∃ kws : List (List L2.Key × V), H a = some (.dT kws) ∧ kws.length = ks.length) := by
  unfold keysOf at e
  split at e
  · rename_i n
    split at e
    · rename_i kvs q
      cases e
      obtain ⟨a, rfl, _, ob⟩ := rep_at hs r q
      cases ob with
      | dK h1 h2 h3 =>
        have z := congrArg List.length h2
        simp only [List.length_map] at z
        exact ⟨a, rfl, .inl ⟨_, h1, by rw [List.length_map, z]⟩⟩
    · rename_i kvs q
      cases e
      obtain ⟨a, rfl, _, ob⟩ := rep_at hs r q
      cases ob with
      | dT h1 h2 h3 =>
        have z := congrArg List.length h2
        simp only [List.length_map] at z
        exact ⟨a, rfl, .inr ⟨_, h1, by rw [List.length_map, z]⟩⟩
    · cases e
  · cases e
theorem bi_len : CallR X (.builtin "len") (rBI X.K nm XQ .len m) := by
  intro pins s σ H xs us Q I r h
  obtain ⟨W, ds, st, hs, rs, h⟩ := h
  match ds, rs, h with
  | [], _, h => exact (show False from h).elim
  | [d], rs, h =>
    obtain ⟨v, rfl, rd⟩ := reps1 rs
    simp only [biD] at h
    split at h
    · rename_i e
      obtain ⟨a, vs, rfl, h1, h2⟩ := view_lst hs rd e
      exact call_len_seq pins s σ H _ us Q I r ⟨a, vs, rfl, .inl (SqL.of h1), by rw [← h2.length]; exact h.val hs (.int _)⟩
    · rename_i e
      have z := view_eq e (by intro _ q; cases q)
      subst z
      obtain ⟨a, vs, rfl, h1, h2⟩ := rep_tup rd
      exact call_len_seq pins s σ H _ us Q I r ⟨a, vs, rfl, .inr (SqT.of h1), by rw [← h2.length]; exact h.val hs (.int _)⟩
    · rename_i e
      have z := view_eq e (by intro _ q; cases q)
      subst z
      cases rd with
      | scr h1 h2 => exact call_len_seq pins s σ H _ us Q I r ⟨_, _, rfl, .inl h1.sq, by rw [← h2.length]; exact h.val hs (.int _)⟩
    · rename_i z e
      have z := view_eq e (by intro _ q; cases q)
      subst z
      split at h
      · rename_i hl
        obtain rfl := rep_str rd
        exact call_len_str pins s σ H _ us Q I r ⟨_, rfl, by rw [← sizeMax_line]; exact hl, h.val hs (.int _)⟩
      · exact h.elim
    · rename_i n e
      have z := view_eq e (by intro _ q; cases q)
      subst z
      split at h
      · rename_i ks ek
        obtain ⟨a, rfl, q⟩ := keysOf_len hs rd ek
        rcases q with ⟨kws, q, z⟩ | ⟨kws, q, z⟩
        · exact call_lenD pins s σ H _ us Q I r ⟨a, kws, rfl, q, by rw [z]; exact h.val hs (.int _)⟩
        · exact call_len_dT pins s σ H _ us Q I r ⟨a, kws, rfl, q, by rw [z]; exact h.val hs (.int _)⟩
      · exact h.elim
    · exact h.elim
  | _ :: _ :: _, _, h => exact (show False from h).elim
theorem bi_abs : CallR X (.builtin "abs") (rBI X.K nm XQ .abs m) := by
  intro pins s σ H xs us Q I r h
  obtain ⟨W, ds, st, hs, rs, h⟩ := h
  unfold biD at h
  split at h <;> first | exact h.elim | (rename_i ef; cases ef)
  obtain ⟨v, rfl, rd⟩ := reps1 rs
  obtain rfl := rep_int rd
  exact call_abs pins s σ H _ us Q I r ⟨_, rfl, h.val hs (.int _)⟩
theorem bi_int : CallR X (.type "int") (rBI X.K nm XQ .int m) := by
  intro pins s σ H xs us Q I r h
  obtain ⟨W, ds, st, hs, rs, h⟩ := h
  unfold biD at h
  split at h <;> first | exact h.elim | (rename_i ef; cases ef)
  · obtain ⟨v, rfl, rd⟩ := reps1 rs
    obtain rfl := rep_int rd
    exact call_int1 pins s σ H _ us Q I r (.inl ⟨_, rfl, h.val hs (.int _)⟩)
  · obtain ⟨v, rfl, rd⟩ := reps1 rs
    obtain rfl := rep_bl rd
    exact call_int1 pins s σ H _ us Q I r (.inr ⟨_, rfl, h.val hs (.int _)⟩)
  · obtain ⟨v, rfl, rd⟩ := reps1 rs
    obtain rfl := rep_str rd
    split at h
    · rename_i n e
      split at h
      · rename_i hl
        exact call_int_str pins s σ H _ us Q I r ⟨_, n, rfl, e, hl, h.val hs (.int _)⟩
      · exact h.elim
    · exact h.elim
theorem bi_str : CallR X (.type "str") (rBI X.K nm XQ .str m) := by
  intro pins s σ H xs us Q I r h
  obtain ⟨W, ds, st, hs, rs, h⟩ := h
  unfold biD at h
  split at h <;> first | exact h.elim | (rename_i ef; cases ef)
  obtain ⟨v, rfl, rd⟩ := reps1 rs
  obtain rfl := rep_int rd
  split at h
  · rename_i hl
    exact call_str_int pins s σ H _ us Q I r ⟨_, rfl, hl, h.val hs (.str _)⟩
  · exact h.elim
theorem bi_tuple : CallR X (.type "tuple") (rBI X.K nm XQ .tuple m) := by
  intro pins s σ H xs us Q I r h
  obtain ⟨W, ds, st, hs, rs, h⟩ := h
  unfold biD at h
  split at h <;> first | exact h.elim | (rename_i ef; cases ef)
  obtain ⟨v, rfl, rd⟩ := reps1 rs
  split at h
  · rename_i e
    obtain ⟨a, vs, rfl, h1, h2⟩ := view_lst hs rd e
    exact call_tuple_of pins s σ H _ us Q I r ⟨a, vs, rfl, .inl ⟨SqL.of h1, h.tup hs h2⟩⟩
  · rename_i e
    have z := view_eq e (by intro _ q; cases q)
    subst z
    obtain ⟨a, vs, e1, h1, h2⟩ := rep_tup rd
    subst e1
    exact call_tuple_of pins s σ H _ us Q I r ⟨a, vs, rfl, .inr ⟨SqT.of h1, h.val hs rd⟩⟩
  · exact h.elim
theorem bi_all (hc : X.calm = true) : CallR X (.builtin "all") (rBI X.K nm XQ .all m) := by
  intro pins s σ H xs us Q I r h
  obtain ⟨W, ds, st, hs, rs, h⟩ := h
  unfold biD at h
  split at h <;> first | exact h.elim | (rename_i ef; cases ef)
  obtain ⟨v, rfl, rd⟩ := reps1 rs
  split at h
  · rename_i ds' e
    obtain ⟨a, vs, rfl, h1, h2⟩ := items_rep hs rd e
    obtain ⟨x, e1, h⟩ := h.of
    cases eb : boolsOf ds' with
    | none => rw [eb] at e1; cases e1
    | some bs =>
      rw [eb] at e1
      cases e1
      rw [bools_rep h2 eb] at h1
      exact cr_all hc pins s σ H _ us Q I r ⟨a, bs, rfl, SqL.of h1, h.val hs (.bl _)⟩
  · exact h.elim
theorem bi_any (hc : X.calm = true) : CallR X (.builtin "any") (rBI X.K nm XQ .any m) := by
  intro pins s σ H xs us Q I r h
  obtain ⟨W, ds, st, hs, rs, h⟩ := h
  unfold biD at h
  split at h <;> first | exact h.elim | (rename_i ef; cases ef)
  obtain ⟨v, rfl, rd⟩ := reps1 rs
  split at h
  · rename_i ds' e
    obtain ⟨a, vs, rfl, h1, h2⟩ := items_rep hs rd e
    obtain ⟨x, e1, h⟩ := h.of
    cases eb : boolsOf ds' with
    | none => rw [eb] at e1; cases e1
    | some bs =>
      rw [eb] at e1
      cases e1
      rw [bools_rep h2 eb] at h1
      exact cr_any hc pins s σ H _ us Q I r ⟨a, bs, rfl, SqL.of h1, h.val hs (.bl _)⟩
  · exact h.elim
theorem bi_sorted (hu : X.A.units + 64 < cLine) : CallR X (.builtin "sorted") (rBI X.K nm XQ .sorted m) := by
  intro pins s σ H xs us Q I r h
  obtain ⟨W, ds, st, hs, rs, h⟩ := h
  unfold biD at h
  split at h <;> first | exact h.elim | (rename_i ef; cases ef)
  obtain ⟨v, rfl, rd⟩ := reps1 rs
  split at h
  · rename_i ds' e
    obtain ⟨a, vs, rfl, h1, h2⟩ := seq_rep hs rd e
    split at h
    · rename_i c
      obtain ⟨u, rfl, ru⟩ := vals1 r
      obtain rfl : u = Value.ref a := ru
      exact sorted_seq I hu h1 h2 c (h.mk hs (sort_rep h2)).2
    · exact h.elim
  · exact h.elim
end
end Ev
/-! Ev7: isinstance, methods, stores into lists and dicts. -/
namespace Ev
open PySem PySem.Spec PyProof.Rows L2
/-! ### isinstance -/
def Ty.nm : Ty → Option String
  | .int => some "int" | .str => some "str" | .bool => some "bool" | .tuple => some "tuple" | .list => some "list" | _ => none
theorem kit_all : (∀ a ∈ ["NoneType", "bool", "int", "str", "tuple", "list", "dict"], ∀ t ∈ [Ty.int, .str, .bool, .tuple, .list], ∀ b ∈ t.nm, kitB a b = some (a == b || (a == "bool" && b == "int"))) := by
  decide +kernel
section
variable {X : Cx} {nm : Nm} {XQ : Nat → Hp → Prop} {m : Bool} {sb : Nat → Nat → Bool}
theorem kit_of {K : PySem.W.Frag} {a b : String} {t : Ty} (ha : a ∈ ["NoneType", "bool", "int", "str", "tuple", "list", "dict"]) (ht : t.nm = some b) : PySem.W.kitOne K (.type a) (.type b) = some (a == b || (a == "bool" && b == "int")) := by
  have h : t ∈ [Ty.int, .str, .bool, .tuple, .list] := by cases t <;> first | (cases ht; done) | simp
  exact kit_ty (kit_all a ha t h b (by rw [ht]; rfl))
theorem ty_rep {K : PySem.W.Frag} {W : Wd} {H : Hp} {st : St} {d : D} {v : V} {t : Ty} {tn : String} {b : Bool} (hs : StRep K nm W H st) (r : Rep K W H d v) (ht : t.nm = some tn) (e : tyD st sb d t = some b) :
    ∃ a, TyX K H v (.type a) ∧ PySem.W.kitOne K (.type a) (.type tn) = some b := by
  unfold tyD at e
  split at e
  · rename_i q
    cases e
    have z := view_eq q (by intro _ q; cases q)
    subst z
    cases r
    refine ⟨_, .base .non, ?_⟩
    rw [kit_of (by simp) ht]
    cases t <;> cases ht <;> rfl
  · rename_i q
    cases e
    have z := view_eq q (by intro _ q; cases q)
    subst z
    cases r
    refine ⟨_, .base (.bl _), ?_⟩
    rw [kit_of (by simp) ht]
    cases t <;> cases ht <;> rfl
  · rename_i q
    cases e
    have z := view_eq q (by intro _ q; cases q)
    subst z
    cases r
    refine ⟨_, .base (.int _), ?_⟩
    rw [kit_of (by simp) ht]
    cases t <;> cases ht <;> rfl
  · rename_i q
    cases e
    have z := view_eq q (by intro _ q; cases q)
    subst z
    cases r
    refine ⟨_, .base (.str _), ?_⟩
    rw [kit_of (by simp) ht]
    cases t <;> cases ht <;> rfl
  · rename_i q
    cases e
    have z := view_eq q (by intro _ q; cases q)
    subst z
    obtain ⟨a, vs, rfl, h1, h2⟩ := rep_tup r
    refine ⟨_, .base (.tup h1), ?_⟩
    rw [kit_of (by simp) ht]
    cases t <;> cases ht <;> rfl
  · rename_i q
    cases e
    obtain ⟨a, vs, rfl, h1, h2⟩ := view_lst hs r q
    refine ⟨_, .base (.lst h1), ?_⟩
    rw [kit_of (by simp) ht]
    cases t <;> cases ht <;> rfl
  · cases e
  · cases e
  · rename_i n q
    have z := view_eq q (by intro _ q; cases q)
    subst z
    split at e
    · rename_i c q2
      obtain ⟨a, rfl, _, ob⟩ := rep_at hs r q2
      cases ob
    · rename_i c q2
      cases e
      obtain ⟨a, rfl, _, ob⟩ := rep_at hs r q2
      cases ob with
      | dK h1 h2 h3 =>
        refine ⟨_, .base (.dK h1), ?_⟩
        rw [kit_of (by simp) ht]
        cases t <;> cases ht <;> rfl
    · rename_i c q2
      cases e
      obtain ⟨a, rfl, _, ob⟩ := rep_at hs r q2
      cases ob with
      | dT h1 h2 h3 =>
        refine ⟨_, .base (.dT h1), ?_⟩
        rw [kit_of (by simp) ht]
        cases t <;> cases ht <;> rfl
    · cases e
theorem bi_isi {t : Ty} {tn : String} (ht : t.nm = some tn) : CallR X (.builtin "isinstance") (fun xs H Q => ∃ x, xs = [x, .ty tn] ∧ ∃ W d st XQ, StRep X.K nm W H st ∧ Rep X.K W H d x ∧ Post X.K nm W H (R.of ((tyD st sb d t).map .bl) st) (Rep X.K) Q XQ) := by
  intro pins s σ H xs us Q I r h
  obtain ⟨x, rfl, W, d, st, XQ, hs, rd, h⟩ := h
  obtain ⟨y, e1, h⟩ := h.of
  obtain ⟨b, eb, rfl⟩ := Option.map_eq_some_iff.mp e1
  obtain ⟨a, h1, h2⟩ := ty_rep hs rd ht eb
  exact call_isi pins s σ H _ us Q I r ⟨_, _, _, _, b, rfl, .ty tn, h1, h2, h.val hs (.bl _)⟩
/-! ### methods -/
def Rc.tn : Rc → String
  | .str => "str" | .list => "list" | .tuple => "tuple" | .dict => "dict"
theorem recv_ty {K : PySem.W.Frag} {W : Wd} {H : Hp} {st : St} {d : D} {v : V} {c : Rc} (hs : StRep K nm W H st) (r : Rep K W H d v) (e : recvD c st d = true) : tyV K c.tn v H := by
  unfold recvD at e
  split at e
  · rename_i q
    have z := view_eq q (by intro _ q; cases q)
    subst z
    cases r
    rfl
  · rename_i q
    obtain ⟨a, vs, rfl, h1, h2⟩ := view_lst hs r q
    exact .inl ⟨rfl, vs, SqL.of h1⟩
  · rename_i q
    have z := view_eq q (by intro _ q; cases q)
    subst z
    cases r with
    | kon h1 h2 =>
      obtain ⟨o, its, n, k1, k2, k3, _⟩ := h1
      exact .inr (.inl ⟨rfl, o, k1, k2, k3⟩)
  · rename_i n q
    have z := view_eq q (by intro _ q; cases q)
    subst z
    split at e
    · rename_i q2
      obtain ⟨a, rfl, _, ob⟩ := rep_at hs r q2
      cases ob with
      | dK h1 h2 h3 => exact .inr (.inr (.inl ⟨rfl, .inl ⟨_, h1⟩⟩))
    · rename_i q2
      obtain ⟨a, rfl, _, ob⟩ := rep_at hs r q2
      cases ob with
      | dT h1 h2 h3 => exact .inr (.inr (.inl ⟨rfl, .inr ⟨_, h1⟩⟩))
    · cases e
  · cases e
def rBM (K : PySem.W.Frag) (nm : Nm) (XQ : Nat → Hp → Prop) (f : BM) (m : Bool) : V → List V → Hp → VK → Prop :=
  fun x xs H Q => ∃ W d ds st, StRep K nm W H st ∧ Rep K W H d x ∧ Reps K W H ds xs ∧ Post K nm W H (bmD f m st d ds) (Rep K) Q XQ
theorem bm_append : MtR X "list.append" (rBM X.K nm XQ .append m) := by
  intro pins s σ H x xs v us Q I rx r h
  obtain ⟨W, d, ds, st, hs, rd, rs, h⟩ := h
  unfold bmD at h
  split at h <;> first | exact h.elim | (rename_i ef; cases ef)
  rename_i n z
  split at h
  · rename_i es e
    split at h
    · rename_i hl
      obtain ⟨y, rfl, ry⟩ := reps1 rs
      obtain ⟨a, rfl, ha, ob⟩ := rep_at hs rd e
      cases ob with
      | lst h1 h2 =>
        refine mt_append pins s σ H _ _ v us Q I rx r ⟨a, _, y, rfl, rfl, h1, by rw [← h2.length, ← sizeMax_line]; exact hl, ?_⟩
        obtain ⟨w1, w2⟩ := hs.write ha (.lst (vs := _ ++ [y]) upd_same (Reps.ext (Ext.write (List.mem_of_getElem? ha)) (h2.app (.one ry))))
        exact h _ _ _ w2 w1 .non
    · exact h.elim
  · exact h.elim
theorem bm_extend : MtR X "list.extend" (rBM X.K nm XQ .extend m) := by
  intro pins s σ H x xs v us Q I rx r h
  obtain ⟨W, d, ds, st, hs, rd, rs, h⟩ := h
  unfold bmD at h
  split at h <;> first | exact h.elim | (rename_i ef; cases ef)
  rename_i n z
  split at h
  · rename_i ds es e
    split at h
    · rename_i hl
      obtain ⟨y, rfl, ry⟩ := reps1 rs
      obtain ⟨a, rfl, ha, ob⟩ := rep_at hs rd e
      obtain ⟨b, ws, rfl, k1, k2⟩ : ∃ b ws, y = .ref b ∧ H b = some (.lst ws) ∧ Reps X.K W H es ws := by
        cases ry with
        | lst k1 k2 => exact ⟨_, _, rfl, k1.1, k2⟩
      cases ob with
      | lst h1 h2 =>
        refine mt_extend pins s σ H _ _ v us Q I rx r ⟨a, b, _, ws, rfl, rfl, h1, k1, by rw [← h2.length, ← k2.length, ← sizeMax_line]; exact hl, ?_⟩
        obtain ⟨w1, w2⟩ := hs.write ha (.lst (vs := _ ++ ws) upd_same (Reps.ext (Ext.write (List.mem_of_getElem? ha)) (h2.app k2)))
        exact h _ _ _ w2 w1 .non
    · exact h.elim
  · exact h.elim
theorem bm_pop : MtR X "list.pop" (rBM X.K nm XQ .pop m) := by
  intro pins s σ H x xs v us Q I rx r h
  obtain ⟨W, d, ds, st, hs, rd, rs, h⟩ := h
  unfold bmD at h
  split at h <;> first | exact h.elim | (rename_i ef; cases ef)
  rename_i n
  obtain rfl := reps0 rs
  split at h
  · rename_i es e
    split at h
    · rename_i y hy
      obtain ⟨a, rfl, ha, ob⟩ := rep_at hs rd e
      cases ob with
      | lst h1 h2 =>
        obtain ⟨w, hw, rw'⟩ := h2.get hy
        refine mt_pop pins s σ H _ _ v us Q I rx r ⟨a, _, w, rfl, rfl, h1, by rw [← h2.length]; exact hw, ?_⟩
        obtain ⟨w1, w2⟩ := hs.write ha (.lst upd_same (Reps.ext (Ext.write (o := .lst _) (List.mem_of_getElem? ha)) h2.dropLast))
        exact h _ _ _ w2 w1 (rw'.ext w2)
    · exact h.elim
  · exact h.elim
theorem bm_popat : MtR X "list.pop" (rBM X.K nm XQ .popat m) := by
  intro pins s σ H x xs v us Q I rx r h
  obtain ⟨W, d, ds, st, hs, rd, rs, h⟩ := h
  unfold bmD at h
  split at h <;> first | exact h.elim | (rename_i ef; cases ef)
  rename_i n i
  obtain ⟨y, rfl, ry⟩ := reps1 rs
  obtain rfl := rep_int ry
  split at h
  · rename_i es e
    split at h
    · rename_i y hy
      obtain ⟨a, rfl, ha, ob⟩ := rep_at hs rd e
      cases ob with
      | lst h1 h2 =>
        split at hy
        · rename_i hi
          obtain ⟨w, hw, rw'⟩ := h2.get hy
          have hlt := (List.getElem?_eq_some_iff.mp hw).1
          refine mt_popAt pins s σ H _ _ v us Q I rx r ⟨a, _, i, i.toNat, w, rfl, rfl, h1, by omega, by omega, ?_, hw, ?_⟩
          · rw [seqIndex_of hi.1 (by omega)]
          · obtain ⟨w1, w2⟩ := hs.write ha (.lst upd_same (Reps.ext (Ext.write (o := .lst _) (List.mem_of_getElem? ha)) (h2.erase i.toNat)))
            exact h _ _ _ w2 w1 (rw'.ext w2)
        · cases hy
    · exact h.elim
  · exact h.elim
theorem bm_join : MtR X "str.join" (rBM X.K nm XQ .join m) := by
  intro pins s σ H x xs v us Q I rx r h
  obtain ⟨W, d, ds, st, hs, rd, rs, h⟩ := h
  unfold bmD at h
  split at h <;> first | exact h.elim | (rename_i ef; cases ef)
  obtain rfl := rep_str rd
  obtain ⟨y, rfl, ry⟩ := reps1 rs
  split at h
  · rename_i es e
    split at h
    · rename_i ys ey
      split at h
      · rename_i hl
        obtain ⟨a, vs, rfl, h1, h2⟩ := seq_rep hs ry e
        rw [strs_rep h2 ey] at h1
        exact mt_join pins s σ H _ _ v us Q I rx r ⟨_, a, ys, rfl, rfl, h1, hl, h.val hs (.str _)⟩
      · exact h.elim
    · exact h.elim
  · exact h.elim
theorem bm_upper : MtR X "str.upper" (rBM X.K nm XQ .upper m) := by
  intro pins s σ H x xs v us Q I rx r h
  obtain ⟨W, d, ds, st, hs, rd, rs, h⟩ := h
  unfold bmD at h
  split at h <;> first | exact h.elim | (rename_i ef; cases ef)
  obtain rfl := rep_str rd
  obtain rfl := reps0 rs
  split at h
  · rename_i hl
    exact mt_upper pins s σ H _ _ v us Q I rx r ⟨_, rfl, rfl, hl, h.val hs (.str _)⟩
  · exact h.elim
theorem strs_reps {K : PySem.W.Frag} {W : Wd} {H : Hp} : ∀ ys : List Str, Reps K W H (ys.map D.str) (ys.map V.str)
  | [] => .nil
  | y :: ys => .cons (.str y) (strs_reps ys)
theorem bm_split : MtR X "str.split" (rBM X.K nm XQ .split m) := by
  intro pins s σ H x xs v us Q I rx r h
  obtain ⟨W, d, ds, st, hs, rd, rs, h⟩ := h
  unfold bmD at h
  split at h <;> first | exact h.elim | (rename_i ef; cases ef)
  obtain rfl := rep_str rd
  obtain ⟨y, rfl, ry⟩ := reps1 rs
  obtain rfl := rep_str ry
  split at h
  · rename_i hl
    refine mt_split pins s σ H _ _ v us Q I rx r ⟨_, _, rfl, rfl, by simpa using hl.1, by rw [← sizeMax_line]; exact hl.2, ?_⟩
    exact (h.mk hs (strs_reps _)).2
  · exact h.elim
theorem bm_get (hu : X.A.units + 1 < cLine) : MtR X "dict.get" (rBM X.K nm XQ .get m) := by
  intro pins s σ H x xs v us Q I rx r h
  obtain ⟨W, d, ds, st, hs, rd, rs, h⟩ := h
  unfold bmD at h
  split at h <;> first | exact h.elim | (rename_i ef; cases ef)
  · obtain ⟨y, rfl, ry⟩ := reps1 rs
    obtain ⟨u, rfl, ru⟩ := vals1 r
    obtain ⟨z, e1, h⟩ := h.of
    obtain ⟨r0, el, rfl⟩ := Option.map_eq_some_iff.mp e1
    obtain ⟨a, rfl, _, q⟩ := look_rep hs rd ry el
    obtain rfl : v = Value.ref a := rx
    rcases q with ⟨rfl, q⟩ | ⟨d1, w, rfl, q, rw'⟩
    · exact d_get1 hu I q ru fun w' s' I' rw' => ⟨_, H, I', rw', h.val hs .non⟩
    · exact d_get1 hu I q ru fun w' s' I' rv => ⟨_, H, I', rv, h.val hs rw'⟩
  · obtain ⟨y, y2, rfl, ry, ry2⟩ := reps2 rs
    obtain ⟨u, u2, rfl, ru, ru2⟩ := vals2 r
    obtain ⟨z, e1, h⟩ := h.of
    obtain ⟨r0, el, rfl⟩ := Option.map_eq_some_iff.mp e1
    obtain ⟨a, rfl, _, q⟩ := look_rep hs rd ry el
    obtain rfl : v = Value.ref a := rx
    rcases q with ⟨rfl, q⟩ | ⟨d1, w, rfl, q, rw'⟩
    · exact d_get2 hu I q ru ru2 fun w' s' I' rw' => ⟨_, H, I', rw', h.val hs ry2⟩
    · exact d_get2 hu I q ru ru2 fun w' s' I' rv => ⟨_, H, I', rv, h.val hs rw'⟩
/-! ### o[i] = x, o.f = x -/
theorem ixN_len {a b : Nat} {k : Int} (e : a = b) : L2.ixN a k = L2.ixN b k := by rw [e]
section
variable {κ : Type} [DecidableEq κ]
theorem putV_keys (k : κ) (d : D) (v : V) : ∀ {kvs : List (κ × D)} {kws : List (κ × V)}, kvs.map (·.1) = kws.map (·.1) → (putV k d kvs).map (·.1) = (putK kws k v).map (·.1) := by
  intro kvs kws h
  have ha : (kvs.any fun kv => decide (kv.1 = k)) = (kws.any fun kv => decide (kv.1 = k)) := by
    have e1 : (kvs.any fun kv => decide (kv.1 = k)) = (kvs.map (·.1)).any fun a => decide (a = k) := by rw [List.any_map]; rfl
    have e2 : (kws.any fun kv => decide (kv.1 = k)) = (kws.map (·.1)).any fun a => decide (a = k) := by rw [List.any_map]; rfl
    rw [e1, e2, h]
  unfold putV putK
  rw [ha]
  split
  · rw [List.map_map, List.map_map]
    have e1 : ((fun x => x.1) ∘ fun kv : κ × D => if kv.1 = k then (kv.1, d) else kv) = fun x => x.1 := by funext x; simp only [Function.comp]; split <;> rfl
    have e2 : ((fun x => x.1) ∘ fun kv : κ × V => if kv.1 = k then (kv.1, v) else kv) = fun x => x.1 := by funext x; simp only [Function.comp]; split <;> rfl
    rw [e1, e2, h]
  · rw [List.map_append, List.map_append, h]
    rfl
theorem putV_reps {K : PySem.W.Frag} {W : Wd} {H : Hp} (k : κ) {d : D} {v : V} (r : Rep K W H d v) : ∀ {kvs : List (κ × D)} {kws : List (κ × V)}, kvs.map (·.1) = kws.map (·.1) → Reps K W H (kvs.map (·.2)) (kws.map (·.2)) →
    Reps K W H ((putV k d kvs).map (·.2)) ((putK kws k v).map (·.2)) := by
  intro kvs kws h t
  have ha : (kvs.any fun kv => decide (kv.1 = k)) = (kws.any fun kv => decide (kv.1 = k)) := by
    have e1 : (kvs.any fun kv => decide (kv.1 = k)) = (kvs.map (·.1)).any fun a => decide (a = k) := by rw [List.any_map]; rfl
    have e2 : (kws.any fun kv => decide (kv.1 = k)) = (kws.map (·.1)).any fun a => decide (a = k) := by rw [List.any_map]; rfl
    rw [e1, e2, h]
  unfold putV putK
  rw [ha]
  split
  · rename_i hh
    clear ha hh
    induction kvs generalizing kws with
    | nil => cases kws with
      | nil => exact .nil
      | cons _ _ => simp at h
    | cons p kvs ih => cases kws with
      | nil => simp at h
      | cons q kws =>
        simp only [List.map_cons, List.cons.injEq] at h
        cases t with
        | cons r1 t =>
          obtain ⟨h1, h2⟩ := h
          have z := ih h2 t
          simp only [List.map_cons]
          by_cases e : p.1 = k
          · rw [if_pos e, if_pos (h1 ▸ e)]
            exact .cons r z
          · rw [if_neg e, if_neg (h1 ▸ e)]
            exact .cons r1 z
  · rw [List.map_append, List.map_append]
    exact t.app (.one r)
theorem dropV_both {K : PySem.W.Frag} {W : Wd} {H : Hp} (k : κ) : ∀ {kvs : List (κ × D)} {kws : List (κ × V)}, kvs.map (·.1) = kws.map (·.1) → Reps K W H (kvs.map (·.2)) (kws.map (·.2)) →
    (dropV k kvs).map (·.1) = (dropK kws k).map (·.1) ∧ Reps K W H ((dropV k kvs).map (·.2)) ((dropK kws k).map (·.2))
  | [], [], _, _ => ⟨rfl, .nil⟩
  | [], _ :: _, h, _ => by simp at h
  | _ :: _, [], h, _ => by simp at h
  | p :: kvs, q :: kws, h, t => by
    simp only [List.map_cons, List.cons.injEq] at h
    cases t with
    | cons r1 t =>
      obtain ⟨h1, h2⟩ := h
      obtain ⟨z1, z2⟩ := dropV_both k h2 t
      by_cases e : p.1 = k
      · have e2 : q.1 = k := h1 ▸ e
        have y1 : dropV k (p :: kvs) = dropV k kvs := List.filter_cons_of_neg (by simp [e])
        have y2 : dropK (q :: kws) k = dropK kws k := List.filter_cons_of_neg (by simp [e2])
        rw [y1, y2]
        exact ⟨z1, z2⟩
      · have e2 : ¬ q.1 = k := fun z => e (h1.trans z)
        have y1 : dropV k (p :: kvs) = p :: dropV k kvs := List.filter_cons_of_pos (by simp [e])
        have y2 : dropK (q :: kws) k = q :: dropK kws k := List.filter_cons_of_pos (by simp [e2])
        rw [y1, y2]
        exact ⟨by rw [List.map_cons, List.map_cons, z1, h1], .cons r1 z2⟩
end
/-- what follows a change of the store -/
def Nxt (K : PySem.W.Frag) (nm : Nm) (W : Wd) (H : Hp) (st : St) (Q : Hp → Prop) : Prop := ∀ W' H', Ext W H W' H' → StRep K nm W' H' st → Q H'
theorem set_D (hu : X.A.units + 1 < cLine) : PSet X (fun o i v H Q => ∃ W d k x st st', StRep X.K nm W H st ∧ Rep X.K W H d o ∧ Rep X.K W H k i ∧ Rep X.K W H x v ∧ setIxD st d k x = some st' ∧ Nxt X.K nm W H st' Q) := by
  intro pins s σ H o i v ov iv u Q I ro ri rv h
  obtain ⟨W, d, k, x, st, st', hs, r1, r2, r3, h, q⟩ := h
  unfold setIxD at h
  split at h
  · rename_i n
    split at h
    · rename_i ds e
      split at h
      · rename_i k0
        cases ej : L2.ixN ds.length k0 with
        | none => rw [ej] at h; cases h
        | some j =>
          rw [ej] at h
          cases h
          obtain ⟨a, rfl, ha, ob⟩ := rep_at hs r1 e
          obtain rfl := rep_int r2
          cases ob with
          | lst h1 h2 =>
            refine set_list pins s σ H _ _ v ov iv u Q I ro ri rv ⟨a, _, k0, j, rfl, rfl, h1, by rw [← h2.length]; exact ej, ?_⟩
            obtain ⟨w1, w2⟩ := hs.write ha (.lst upd_same (Reps.ext (Ext.write (o := .lst _) (List.mem_of_getElem? ha)) (h2.set j r3)))
            exact q _ _ w2 w1
      · cases h
    · rename_i kvs e
      split at h
      · rename_i z ez
        split at h
        · rename_i hl
          cases h
          obtain ⟨a, rfl, ha, ob⟩ := rep_at hs r1 e
          obtain rfl : ov = Value.ref a := ro
          have hi := keyD_rep r2 ez
          subst hi
          cases ob with
          | dK h1 h2 h3 =>
            rename_i kws
            have hl2 : kws.length < sizeLine := by
              have z := congrArg List.length h2
              simp only [List.length_map] at z
              rw [← z, ← sizeMax_line]; exact hl
            refine d_setItem hu I (DPut.k (k := z) h1 hl2) ri rv fun s' I' => ⟨_, I', ?_⟩
            obtain ⟨w1, w2⟩ := hs.write ha (o := .dK (putK kws z v)) (.dK upd_same (putV_keys z x v h2) (Reps.ext (Ext.write (List.mem_of_getElem? ha)) (putV_reps z r3 h2 h3)))
            exact q _ _ w2 w1
        · cases h
      · cases h
    · rename_i kvs e
      split at h
      · rename_i z ez
        split at h
        · rename_i hl
          cases h
          obtain ⟨a, rfl, ha, ob⟩ := rep_at hs r1 e
          obtain rfl : ov = Value.ref a := ro
          obtain ⟨b, rfl, hb⟩ := keyT_rep r2 ez
          cases ob with
          | dT h1 h2 h3 =>
            rename_i kws
            have hl2 : kws.length < sizeLine := by
              have z := congrArg List.length h2
              simp only [List.length_map] at z
              rw [← z, ← sizeMax_line]; exact hl
            refine d_setItem hu I (DPut.t (k := z) h1 hb hl2) ri rv fun s' I' => ⟨_, I', ?_⟩
            obtain ⟨w1, w2⟩ := hs.write ha (o := .dT (putK kws z v)) (.dT upd_same (putV_keys z x v h2) (Reps.ext (Ext.write (List.mem_of_getElem? ha)) (putV_reps z r3 h2 h3)))
            exact q _ _ w2 w1
        · cases h
      · cases h
    · cases h
  · cases h
end
end Ev
/-! Ev8: sorted(d.keys()), list(d). -/
namespace Ev
open PySem PySem.Spec PyProof.Rows L2
/-- the view d.keys() at p -/
def keysO (p d : Addr) : HO := .ext fun h => PySem.W.KdlKeysView h p d
theorem keysO_ok {P : Program} {w : World} {H : Hp} {h : Heap} {p d : Addr} (e : h.get? p = some { cls := .type "dict_keys", data := .fields #[.ref d] }) : ObjOk P w H h p (keysO p d) :=
  ⟨⟨_, e, rfl, rfl⟩, ⟨_, e⟩, fun h1 h2 x k => let ⟨o, ho, r⟩ := x; ⟨o, k o ho, r⟩⟩
theorem kD_reps {K : PySem.W.Frag} {W : Wd} {H : Hp} : ∀ ks : List L2.Key, Reps K W H (ks.map kD) (ks.map kV)
  | [] => .nil
  | .inl i :: ks => .cons (.int i) (kD_reps ks)
  | .inr z :: ks => .cons (.str z) (kD_reps ks)
theorem StRep.tupAt {K : PySem.W.Frag} {nm : Nm} {W : Wd} {H : Hp} {st : St} (hs : StRep K nm W H st) {b : Addr} {vs : List V} (h : H b = some (.tup vs)) : TupAt W H b vs := by
  refine ⟨h, fun m => ?_, fun m => ?_⟩
  · obtain ⟨i, hi⟩ := List.getElem?_of_mem m
    have hl : i < st.length := by rw [← hs.len]; exact (List.getElem?_eq_some_iff.mp hi).1
    have z := hs.ob i b _ hi (List.getElem?_eq_getElem hl)
    generalize st[i] = o at z
    cases z with
    | lst h1 _ => rw [h] at h1; cases h1
    | dK h1 _ _ => rw [h] at h1; cases h1
    | dT h1 _ _ => rw [h] at h1; cases h1
    | ins h1 _ _ _ => rw [h] at h1; cases h1
  · obtain ⟨_, ws, e⟩ := hs.exs b m
    rw [h] at e; cases e
section
variable {X : Cx} {nm : Nm} {XQ : Nat → Hp → Prop} {m : Bool} {sb : Nat → Nat → Bool}
theorem raw_of {pins : List (Addr × Obj)} {s : Shared} {σ : L2.St} {H : Hp} {a : Addr} (I : Inv X pins σ H s) (d : (∃ kws, H a = some (.dK kws)) ∨ ∃ kws, H a = some (.dT kws)) :
    (a == sysModules) = false ∧ ∃ es ep, s.heap.DictRaw a es ep := by
  rcases d with ⟨kws, e⟩ | ⟨kws, e⟩
  · obtain ⟨z, hd, vs, rel, dd⟩ := dk_of I.hok e
    obtain ⟨es, ep, r, _⟩ := dd.raw
    exact ⟨hd, es, ep, r⟩
  · obtain ⟨z, hd, vs, rel, dd⟩ := dt_of I.hok e
    obtain ⟨es, ep, r, _⟩ := dd.raw
    exact ⟨hd, es, ep, r⟩
def rKeys : V → List V → Hp → VK → Prop := fun x xs H Q => ∃ a, x = .ref a ∧ xs = [] ∧ ((∃ kws, H a = some (.dK kws)) ∨ ∃ kws, H a = some (.dT kws)) ∧ ∀ p, H p = none → Q (.ref p) (upd H p (keysO p a))
theorem mt_keysO : MtR X "dict.keys" rKeys := by
  intro pins s σ H x xs v us Q I rx rxs h
  obtain ⟨a, rfl, rfl, hd, q⟩ := h
  cases rx
  cases rxs
  obtain ⟨hd, es, ep, r⟩ := raw_of I hd
  refine call_meetsIn PySem.F.slot_dict_keys r.typeIs PySem.F.entry_dict_keys (PySem.F.args_dict_keys_1 _) (meets_dict_keys_raw a hd) ⟨⟨es, ep, r⟩, ?_⟩
  have hf : H s.heap.objs.size = none := I.hok.fresh (Nat.le_refl _)
  exact ⟨.ref s.heap.objs.size, upd H s.heap.objs.size (keysO s.heap.objs.size a), I.laid (t' := s.toks) (fun b u e => Heap.get?_push_of_some _ e) (Nat.le_refl _) (keysO_ok (Heap.get?_push_size _ rfl)), rfl, q _ hf⟩
/-- the keys as they lie -/
theorem dict_keys {pins : List (Addr × Obj)} {s : Shared} {σ : L2.St} {H : Hp} {W : Wd} {st : St} {o : D} {x : V} {ks : List D} (I : Inv X pins σ H s) (hs : StRep X.K nm W H st) (r : Rep X.K W H o x) (h : keysOf st o = some ks) :
    ∃ a es ep, x = .ref a ∧ ((∃ kws, H a = some (.dK kws)) ∨ ∃ kws, H a = some (.dT kws)) ∧ s.heap.DictRaw a es ep ∧ es.size ≤ sizeLine ∧ ∃ vs, Reps X.K W H ks vs ∧ vs.length = es.size ∧
      ∀ i (hi : i < es.size), ∃ v, vs[i]? = some v ∧ RelV v es[i].key := by
  unfold keysOf at h
  split at h
  · rename_i n
    split at h
    · rename_i kvs q
      cases h
      obtain ⟨a, rfl, _, ob⟩ := rep_at hs r q
      cases ob with
      | dK h1 h2 h3 =>
        rename_i kws
        obtain ⟨z, hd, us, rel, dd⟩ := dk_of I.hok h1
        obtain ⟨es, ep, rw1, sz, at_⟩ := dd.raw
        have l1 : kws.length = us.length := Paired.length rel
        refine ⟨a, es, ep, rfl, .inl ⟨_, h1⟩, rw1, by omega, (kws.map (·.1)).map kV, ?_, by simp only [List.length_map]; omega, fun i hi => ?_⟩
        · have := kD_reps (K := X.K) (W := W) (H := H) (kws.map (·.1))
          rw [← h2, List.map_map] at this
          rw [← h2]
          exact this
        · have hi2 : i < us.length := by omega
          have hi3 : i < kws.length := by omega
          obtain ⟨y, hy1, hy2⟩ := DX.pget rel (List.getElem?_eq_getElem hi2)
          obtain ⟨w1, w2⟩ := at_ i hi us[i].1 us[i].2 (List.getElem?_eq_getElem hi2)
          refine ⟨kV y.1, by rw [List.getElem?_map, List.getElem?_map, hy1]; rfl, ?_⟩
          rw [hy2.1]
          have w3 : keyIs us[i].1 es[i].key = true := w1
          rcases keyIs_shape w3 with ⟨j, t, e1, e2⟩ | ⟨y, t, e1, e2⟩
          · rw [e1, e2]; exact ⟨t, rfl⟩
          · rw [e1, e2]; exact ⟨t, rfl⟩
    · rename_i kvs q
      cases h
      obtain ⟨a, rfl, _, ob⟩ := rep_at hs r q
      cases ob with
      | dT h1 h2 h3 =>
        rename_i kws
        obtain ⟨z, hd, us, rel, dd⟩ := dt_of I.hok h1
        obtain ⟨es, ep, rw1, sz, at_⟩ := dd.raw
        have l1 : kws.length = us.length := Paired.length rel
        have go : ∀ {kws : List (List L2.Key × V)} {us : List (List L2.Key × Addr × Value)}, KT H kws us → ∀ {kvs : List (List L2.Key × D)}, kvs.map (·.1) = kws.map (·.1) → Reps X.K W H (kvs.map fun p => .tup (p.1.map kD)) (us.map fun x => V.ref x.2.1) := by
          intro kws us kt
          induction kt with
          | nil => intro kvs e; cases kvs with
            | nil => exact .nil
            | cons _ _ => simp at e
          | cons hp t ih => intro kvs e; cases kvs with
            | nil => simp at e
            | cons p kvs =>
              simp only [List.map_cons, List.cons.injEq] at e
              refine .cons ?_ (ih e.2)
              have z := hs.tupAt hp.2.1
              rw [← e.1] at z
              exact .tup z (kD_reps _)
        refine ⟨a, es, ep, rfl, .inr ⟨_, h1⟩, rw1, by omega, us.map fun x => V.ref x.2.1, go rel h2, by simp only [List.length_map]; omega, fun i hi => ?_⟩
        obtain ⟨y, y1, y2, _, _⟩ := at_ i hi
        exact ⟨.ref y.2.1, by rw [List.getElem?_map, y1]; rfl, by rw [y2]; rfl⟩
    · cases h
  · cases h
theorem vals_of_get : ∀ {vs : List V} {us : List Value}, vs.length = us.length → (∀ (i : Nat) (hi : i < us.length), ∃ v, vs[i]? = some v ∧ RelV v us[i]) → Vals vs us
  | [], [], _, _ => .nil
  | [], _ :: _, h, _ => by simp at h
  | _ :: _, [], h, _ => by simp at h
  | v :: vs, u :: us, h, g => by
    obtain ⟨v', e, r⟩ := g 0 (by simp)
    simp only [List.getElem?_cons_zero, Option.some.injEq] at e
    subst e
    exact .cons r (vals_of_get (by simpa using h) fun i hi => by
      obtain ⟨w, e, r⟩ := g (i + 1) (by simpa using hi)
      exact ⟨w, by simpa using e, by simpa using r⟩)
theorem vals_items {es : Array DictEntry} {vs : List V} {acc : Array Value} (hl : vs.length = es.size) (h : ∀ i (hi : i < es.size), ∃ v, vs[i]? = some v ∧ RelV v es[i].key) (it : ItemsOf (fun i v => ∃ hi : i < es.size, v = es[i].key) acc es.size) : Vals vs acc.toList := by
  refine vals_of_get (by rw [hl, ← it.1, Array.length_toList]) fun i hi => ?_
  have hi' : i < acc.size := by simpa using hi
  obtain ⟨h1, h2⟩ := it.2 i acc[i] (Array.getElem?_eq_getElem hi')
  obtain ⟨v, e, r⟩ := h i h1
  refine ⟨v, e, ?_⟩
  rw [Array.getElem_toList, h2]
  exact r
/-- sorted of a keys' view -/
theorem sorted_keys (hc : X.calm = true) (hu : X.A.units + 64 < cLine) {pins : List (Addr × Obj)} {s : Shared} {σ : L2.St} {H : Hp} {W : Wd} {st : St} {o : D} {a p : Addr} {ks : List D} {Q : VK} (I : Inv X pins σ H s) (hs : StRep X.K nm W H st) (r : Rep X.K W H o (.ref a)) (h : keysOf st o = some ks)
    (hp : H p = some (keysO p a)) (c : canSort ks = true) (q : ∀ vs, Reps X.K W H ks vs → vs.length ≤ sizeLine ∧ ∀ p, H p = none → Q (.ref p) (upd H p (.lst (((ks.zip vs).mergeSort (PySem.W.dataLe false fun p => p.1.py)).map (·.2))))) :
    wpAny (model X.prog X.w) X.A (PySem.call (.builtin "sorted") [.ref p]) (EP X pins σ Q) X.xe s := by
  obtain ⟨a', es, ep, e, _, rw1, sz, vs, rv, lv, at_⟩ := dict_keys I hs r h
  cases e
  obtain ⟨q1, q2⟩ := q vs rv
  have hv : PySem.W.KdlKeysView s.heap p a := (show ObjOk X.prog X.w H s.heap p (keysO p a) from I.hok p _ hp).1
  refine Calls.call_function_entry kind_sorted plain_sorted entry_sorted (args_sorted1 _) ?_
  unfold Builtin.«sorted»
  refine wpAny_bind (m := checkCount "sorted" 1 1 _) (wpAny_pure ?_)
  refine wpAny_bind (gather_src (A := X.A.in1) PySem.KdlSrc.rawKeys (I.ok.hd hc) ⟨hv, rw1⟩ sz fun h' tk acc k hsz it => ?_)
  have va := vals_items lv at_ it
  have la := va.length
  refine wpAny_bind (wpAny_newList ?_ (by omega))
  refine wpAny_bind (wpAny_holding (wpAny_mono (sort_new (s := s) (h' := h') (tk := tk) I hu k hsz rv va c (by omega) q2) (fun _ s' x => ?_) fun _ _ e => e))
  exact wpAny_pure ⟨_, rfl, x⟩
end
end Ev
/-! Ev9: what stands between the text and its reading: side conditions; walks; targets. -/
namespace Ev
open PySem PySem.Spec PyProof.Rows L2
/-! ### side conditions of the text -/
def okBase : Expr → Bool
  | .Call (.Name id _) [] [] _ => id != "super"
  | _ => true
theorem okBase_ok {o : Expr} {a : Str} {env : PySem.Env} {w : Sem Value} (h : okBase o = true) : attributeBase o a env w = w := by
  unfold attributeBase
  split
  · rename_i id _ pos
    have e : (id != "super") = true := h
    simp only [e, Bool.true_or, if_true]
  · rfl
def noStar : Expr → Bool
  | .Starred .. => false
  | _ => true
theorem star_cons {e : Expr} {es : List Expr} {env : PySem.Env} (h : noStar e = true) : starEach (e :: es) env = (false, eval e env) :: starEach es env := by
  cases e <;> first | rfl | cases h
theorem star_any {es : List Expr} {env : PySem.Env} {pos : Pos} (h : es.all noStar = true) : (backTo pos (starEach es env)).any (·.1) = false := by
  induction es with
  | nil => rfl
  | cons e es ih =>
    rw [List.all_cons, Bool.and_eq_true] at h
    rw [star_cons h.1]
    show (false || (backTo pos (starEach es env)).any (·.1)) = false
    rw [ih h.2] <;> rfl
theorem star_all {es : List Expr} {env : PySem.Env} {pos : Pos} (h : es.all noStar = true) : (backTo pos (starEach es env)).all (fun x => !x.1) = true := by
  induction es with
  | nil => rfl
  | cons e es ih =>
    rw [List.all_cons, Bool.and_eq_true] at h
    rw [star_cons h.1]
    show (true && (backTo pos (starEach es env)).all (fun x => !x.1)) = true
    rw [ih h.2] <;> rfl
theorem star_few {es : List Expr} {env : PySem.Env} {pos : Pos} (h : es.all noStar = true) (hl : es.length < 30) : ((backTo pos (starEach es env)).all (fun x => !x.1) && (backToKw pos (keywordEach [] env)).all (fun x => x.1.isSome)
      && decide (es.length + ([] : List Keyword).length + (if ([] : List Keyword).isEmpty then 0 else 1) < 30)) = true := by
  rw [star_all h]
  simp [backToKw, keywordEach, hl]
def noComp : Expr → Bool
  | .ListComp .. => false
  | .SetComp .. => false
  | .DictComp .. => false
  | _ => true
theorem noComp_ok {e : Expr} {t : Option Expr} {l : Nat} {env : PySem.Env} (h : noComp e = true) : swapsWith e t l env = pure false := by
  cases e <;> first | rfl | cases h
def noSlice : Expr → Bool
  | .Slice .. => false
  | _ => true
theorem noSlice_ok {e : Expr} (h : noSlice e = true) : PlainIx e := by
  intro o i
  cases e <;> first | rfl | cases h
def noSet : Expr → Bool
  | .Set .. => false
  | _ => true
theorem noSet_ok {e : Expr} {env : PySem.Env} (h : noSet e = true) : ∀ x, foldedSetIterable e env x = pure x := by
  intro x
  cases e <;> first | rfl | cases h
theorem noSet_in {e : Expr} {op : CmpOp} (h : noSet e = true) : behindInMarks op e = false := by
  cases e <;> first | rfl | cases h
theorem noSet_last {e f : Expr} {op op' : CmpOp} (h : noSet f = true) : lastMarks [op, op'] [e, f] = false := by
  show behindInMarks op' f = false
  exact noSet_in h
def noTuple : Expr → Bool
  | .Tuple .. => false
  | .List .. => false
  | _ => true
/-- neither and, or, not, a comparison nor a conditional: its truth is its value's -/
def plainT : Expr → Bool
  | .UnaryOp .Not _ _ => false
  | .BoolOp .. => false
  | .IfExp .. => false
  | .Compare .. => false
  | _ => true
theorem plainT_ok {e : Expr} {env : PySem.Env} (h : plainT e = true) (whole : Sem Value) : isTrue e env whole = (do let v ← whole; standAt e.pos; holding [v] (truthy v)) := by
  cases e with
  | UnaryOp op _ _ => cases op <;> first | rfl | cases h
  | BoolOp _ _ _ => cases h
  | IfExp _ _ _ _ => cases h
  | Compare _ _ _ _ => cases h
  | _ => rfl
/-! ### readings weakened -/
section
variable {X : Cx}
theorem PE.imp {e : Expr} {t t' : TE} (h : PE X e t) (i : ∀ σ H Q, t' σ H Q → t σ H Q) : PE X e t' := ⟨fun pins s σ H Q I q => h.run pins s σ H Q I (i σ H Q q)⟩
theorem PT.imp {e : Expr} {t t' : TT} (h : PT X e t) (i : ∀ σ H Q, t' σ H Q → t σ H Q) : PT X e t' := ⟨fun pins s σ H Q I q => h.run pins s σ H Q I (i σ H Q q)⟩
theorem PW.imp {e : Expr} {t t' : TT} (h : PW X e t) (i : ∀ σ H Q, t' σ H Q → t σ H Q) : PW X e t' := ⟨fun wh pins s σ H Q I q => h.run wh pins s σ H Q I (i σ H Q q)⟩
theorem PA.imp {e : List Expr} {t t' : TA} (h : PA X e t) (i : ∀ σ H Q, t' σ H Q → t σ H Q) : PA X e t' := ⟨fun pos pins s σ H Q I q => h.run pos pins s σ H Q I (i σ H Q q)⟩
theorem PO.imp {e : Option Expr} {t t' : TO} (h : PO X e t) (i : ∀ σ H Q, t' σ H Q → t σ H Q) : PO X e t' := ⟨fun pins s σ H Q I q => h.run pins s σ H Q I (i σ H Q q)⟩
theorem PI.imp {tg e : Expr} {t t' : TI} (h : PI X tg e t) (i : ∀ σ H Q, t' σ H Q → t σ H Q) : PI X tg e t' := ⟨fun pins s σ H Q I q => h.run pins s σ H Q I (i σ H Q q)⟩
theorem PI.or {tg e : Expr} {t t' : TI} (h : PI X tg e t) (h' : PI X tg e t') : PI X tg e (fun σ H R => t σ H R ∨ t' σ H R) := ⟨fun pins s σ H R I q => q.elim (h.run pins s σ H R I) (h'.run pins s σ H R I)⟩
theorem PS.imp {e : Stmt} {t t' : TS} (h : PS X e t) (i : ∀ D σ H, t' D σ H → t D σ H) : PS X e t' := ⟨fun pins s σ H D I q => h.run pins s σ H D I (i D σ H q)⟩
theorem PSs.imp {e : List Stmt} {t t' : TS} (h : PSs X e t) (i : ∀ D σ H, t' D σ H → t D σ H) : PSs X e t' := ⟨fun pins s σ H D I q => h.run pins s σ H D I (i D σ H q)⟩
theorem PG.or {tg : Expr} {t t' : TG} (h : PG X tg t) (h' : PG X tg t') : PG X tg (fun v σ H Q => t v σ H Q ∨ t' v σ H Q) := ⟨fun pins s σ H v u Q I r q => q.elim (h.run pins s σ H v u Q I r) (h'.run pins s σ H v u Q I r)⟩
theorem PG.imp {tg : Expr} {t t' : TG} (h : PG X tg t) (i : ∀ v σ H Q, t' v σ H Q → t v σ H Q) : PG X tg t' := ⟨fun pins s σ H v u Q I r q => h.run pins s σ H v u Q I r (i v σ H Q q)⟩
theorem OpR.exi {α : Type} {f : Value → Value → Sem Value} {r : α → R2} (h : ∀ a, OpR X f (r a)) : OpR X f (fun x y H Q => ∃ a, r a x y H Q) := fun pins s σ H x y v u Q I rx ry ⟨a, q⟩ => h a pins s σ H x y v u Q I rx ry q
theorem CallR.exi {α : Type} {f : Value} {r : α → List V → Hp → VK → Prop} (h : ∀ a, CallR X f (r a)) : CallR X f (fun xs H Q => ∃ a, r a xs H Q) := fun pins s σ H xs us Q I rs ⟨a, q⟩ => h a pins s σ H xs us Q I rs q
theorem MtR.exi {α : Type} {id : String} {r : α → V → List V → Hp → VK → Prop} (h : ∀ a, MtR X id (r a)) : MtR X id (fun x xs H Q => ∃ a, r a x xs H Q) := fun pins s σ H x xs v us Q I rx rs ⟨a, q⟩ => h a pins s σ H x xs v us Q I rx rs q
theorem SlR.exi {α : Type} {r : α → V → Option Int → Option Int → Hp → VK → Prop} (h : ∀ a, L2.SlR X (r a)) : L2.SlR X (fun x lo hi H Q => ∃ a, r a x lo hi H Q) := fun pins s σ H x v vl vu lo hi sl Q I rx hs pl pu ⟨a, q⟩ => h a pins s σ H x v vl vu lo hi sl Q I rx hs pl pu q
theorem IxR.exi {α : Type} {r : α → R2} (h : ∀ a, IxR X (r a)) : IxR X (fun x y H Q => ∃ a, r a x y H Q) := fun value slice pins s σ H x y v u Q I rx ry ⟨a, q⟩ hs => h a value slice pins s σ H x y v u Q I rx ry q hs
end
/-! ### targets -/
def setAll : L2.St → List Nat → List V → L2.St
  | σ, i :: is, v :: vs => setAll (σ.set i (some v)) is vs
  | σ, _, _ => σ
def gD (K : PySem.W.Frag) : Tg → TG
  | .nm i => fun v σ H Q => Q (σ.set i (some v)) H
  | .tp is => fun v σ H Q => ∃ a xs, v = .ref a ∧ (SqL K H a xs ∨ SqT K H a xs) ∧ xs.length = is.length ∧ Q (setAll σ is xs) H
def nmC (N : List Str) (sc : Scope) (i : Nat) (n : Str) : Bool := decide (N[i]? = some n) && (decide (sc.names.lookup n = some .local) || decide (sc.names.lookup n = some .cell))
theorem nmC_ok {N : List Str} {sc : Scope} {i : Nat} {n : Str} (h : nmC N sc i n = true) : N[i]? = some n ∧ Loc sc n := by
  unfold nmC at h
  rw [Bool.and_eq_true, Bool.or_eq_true] at h
  exact ⟨of_decide_eq_true h.1, h.2.imp of_decide_eq_true of_decide_eq_true⟩
def nmsC (N : List Str) (sc : Scope) : List Nat → List Expr → Bool
  | [], [] => true
  | i :: is, .Name n _ :: es => nmC N sc i n && nmsC N sc is es
  | _, _ => false
def tgC (N : List Str) (sc : Scope) : Tg → Expr → Bool
  | .nm i, .Name n _ => nmC N sc i n
  | .tp is, .Tuple es _ _ => nmsC N sc is es
  | _, _ => false
section
variable {X : Cx} {sc : Scope}
theorem names_each {N : List Str} {env : PySem.Env} : ∀ {is : List Nat} {es : List Expr}, nmsC N sc is es = true → (assignEach es env).length = is.length ∧ (assignEach es env).findIdx? (·.1) = none ∧ es.length = is.length
  | [], [], _ => ⟨rfl, rfl, rfl⟩
  | [], _ :: _, h => by cases h
  | _ :: _, [], h => by cases h
  | i :: is, e :: es, h => by
    cases e <;> first | (cases h; done) | skip
    rename_i n p
    have h' : (nmC N sc i n && nmsC N sc is es) = true := h
    rw [Bool.and_eq_true] at h'
    obtain ⟨a, b, c⟩ := names_each (env := env) h'.2
    refine ⟨?_, ?_, ?_⟩
    · show (assignEach es env).length + 1 = _
      rw [a] <;> rfl
    · show ((false, assign (.Name n p) env) :: assignEach es env).findIdx? (·.1) = none
      rw [List.findIdx?_cons, b] <;> rfl
    · show es.length + 1 = _
      rw [c] <;> rfl
theorem pgs_names (hN : X.N.Nodup) (hL : ∀ n, Loc sc n → Loc X.env.scope n ∧ (X.fn n = true ∨ X.env.scope.names.lookup n = some .local)) : ∀ {is : List Nat} {es : List Expr}, nmsC X.N sc is es = true → PGs X es (fun vs σ H Q => vs.length = is.length ∧ Q (setAll σ is vs) H)
  | [], [], _ => ⟨fun pins s σ H vs us Q I r h => pgs_nil.run pins s σ H vs us Q I r (by
      obtain ⟨h1, h2⟩ := h
      have : vs = [] := List.length_eq_zero_iff.mp h1
      subst this
      exact ⟨rfl, h2⟩)⟩
  | [], _ :: _, h => by cases h
  | _ :: _, [], h => by cases h
  | i :: is, e :: es, h => by
    cases e <;> first | (cases h; done) | skip
    rename_i n p
    have h' : (nmC X.N sc i n && nmsC X.N sc is es) = true := h
    rw [Bool.and_eq_true] at h'
    obtain ⟨h1, h2⟩ := nmC_ok h'.1
    obtain ⟨h3, h4⟩ := hL n h2
    have ih := pgs_names hN hL h'.2
    refine ⟨fun pins s σ H vs us Q I r q => (pgs_cons (pg_name hN h1 h3 h4) ih rfl).run pins s σ H vs us Q I r ?_⟩
    obtain ⟨q1, q2⟩ := q
    cases vs with
    | nil => simp at q1
    | cons v vs => exact ⟨v, vs, rfl, by simpa using q1, q2⟩
theorem pg_D (hc : X.calm = true) (hN : X.N.Nodup) (hL : ∀ n, Loc sc n → Loc X.env.scope n ∧ (X.fn n = true ∨ X.env.scope.names.lookup n = some .local)) {tg : Tg} {e : Expr} (h : tgC X.N sc tg e = true) : PG X e (gD X.K tg) := by
  unfold tgC at h
  split at h
  · obtain ⟨h1, h2⟩ := nmC_ok h
    obtain ⟨h3, h4⟩ := hL _ h2
    exact pg_name hN h1 h3 h4
  · rename_i is es k p
    obtain ⟨a, b, c⟩ := names_each (env := X.env) h
    have ps := pgs_names hN hL h
    refine PG.imp (PG.or (pg_tup (k := k) (pos := p) hc ps a b) (pg_unl (k := k) (pos := p) hc ps a b)) fun v σ H Q q => ?_
    obtain ⟨x, xs, rfl, q1, q2, q3⟩ := q
    rcases q1 with q1 | q1
    · exact .inr ⟨x, xs, rfl, q1, q2, q2, q3⟩
    · exact .inl ⟨x, xs, rfl, q1, q2, q2, q3⟩
  · cases h
end
/-- the names are set -/
theorem setAll_len : ∀ (is : List Nat) (vs : List V) (σ : L2.St), (setAll σ is vs).length = σ.length
  | [], _, _ => rfl
  | _ :: _, [], _ => rfl
  | i :: is, v :: vs, σ => by rw [setAll, setAll_len is vs, List.length_set]
theorem foldl_rep {K : PySem.W.Frag} {W : Wd} {H : Hp} : ∀ {is : List Nat} {ds : List D} {vs : List V} {env : Env} {σ : L2.St}, Reps K W H ds vs → EnvRep K W H env σ →
    EnvRep K W H ((is.zip ds).foldl (fun e p => e.set p.1 (some p.2)) env) (setAll σ is vs)
  | [], _, _, _, _, _, h => by rw [List.zip_nil_left]; exact h
  | i :: is, _, _, _, _, .nil, h => h
  | i :: is, _, _, _, _, .cons r t, h => by
    rw [List.zip_cons_cons, List.foldl_cons, setAll]
    exact foldl_rep t (h.set r)
theorem asg_rep {K : PySem.W.Frag} {W : Wd} {H : Hp} {tg : Tg} {d : D} {v : V} {env env' : Env} {σ : L2.St} (r : Rep K W H d v) (he : EnvRep K W H env σ) (h : asg tg d env = some env') :
    ∃ σ', EnvRep K W H env' σ' ∧ (∀ Q : L2.St → Hp → Prop, Q σ' H → gD K tg v σ H Q) ∧ ((∃ i, tg = .nm i ∧ σ' = σ.set i (some v)) ∨ ∃ is xs, tg = .tp is ∧ σ' = setAll σ is xs) := by
  unfold asg at h
  split at h
  · cases h
    exact ⟨_, he.set r, fun Q q => q, .inl ⟨_, rfl, rfl⟩⟩
  · split at h
    · split at h
      · rename_i hl
        cases h
        obtain ⟨a, vs, rfl, h1, h2⟩ := rep_tup r
        exact ⟨_, foldl_rep h2 he, fun Q q => ⟨a, vs, rfl, .inr (SqT.of h1), by rw [← h2.length]; exact hl, q⟩, .inr ⟨_, _, rfl, rfl⟩⟩
      · cases h
    · split at h
      · rename_i hl
        cases h
        cases r with
        | lst h1 h2 => exact ⟨_, foldl_rep h2 he, fun Q q => ⟨_, _, rfl, .inl (SqL.of h1.1), by rw [← h2.length]; exact hl, q⟩, .inr ⟨_, _, rfl, rfl⟩⟩
      · cases h
    · cases h
end Ev
/-! Ev10: what is walked. -/
namespace Ev
open PySem PySem.Spec PyProof.Rows L2
section
variable (K : PySem.W.Frag) (nm : Nm) (W : Wd) (H : Hp)
/-- J walks the items of wk, from the world (W, H) on -/
def IsWalk (wk : Walk) (J : L2.It) : Prop := ∀ W' H' st', Mo W H W' H' → StRep K nm W' H' st' → wk.w st' = true → ∀ i,
  (∀ d, wk.ds[i]? = some d → J.go i H' ∧ ∀ x H'', J.yld i H' x H'' → ∃ W'', Ext W' H' W'' H'' ∧ StRep K nm W'' H'' st' ∧ Rep K W'' H'' d x) ∧ (wk.ds[i]? = none → J.stop i H')
/-- the items stand there -/
def Stays (wk : Walk) (sq : Hp → List V → Prop) : Prop := ∀ W' H' st', Mo W H W' H' → StRep K nm W' H' st' → wk.w st' = true → ∃ vs, sq H' vs ∧ Reps K W' H' wk.ds vs
end
section
variable {K : PySem.W.Frag} {nm : Nm} {W : Wd} {H : Hp} {st : St}
theorem ScrAt.sqm {W' : Wd} {H' : Hp} {a : Addr} {vs : List V} (m : Mo W H W' H') (h : ScrAt K W H a vs) : SqL K H' a vs := (h.mo m).sq
theorem walk_now {d : D} {wk : Walk} (h : walkOf st d = some wk) : wk.w st = true := by
  unfold walkOf at h
  split at h <;> first | (cases h; rfl) | skip
  · split at h
    · rename_i e
      cases h
      exact decide_eq_true e
    · cases h
  · cases h
theorem walk_seq {d : D} {v : V} {wk : Walk} {b : Bool} (r : Rep K W H d v) (h : walkOf st d = some wk) (hl : lkD d = some b) :
    ∃ a, v = .ref a ∧ Stays K nm W H wk (fun H vs => if b = true then SqL K H a vs else SqT K H a vs) := by
  unfold walkOf at h
  split at h
  · cases h
    cases hl
    cases r with
    | tup h1 h2 => exact ⟨_, rfl, fun W' H' st' m _ _ => ⟨_, SqT.of (h1.mo m).1, Reps.mo m _ _ h2⟩⟩
  · cases h
    cases hl
    cases r with
    | lst h1 h2 => exact ⟨_, rfl, fun W' H' st' m _ _ => ⟨_, SqL.of (h1.mo m).1, Reps.mo m _ _ h2⟩⟩
  · cases h
    cases hl
    cases r with
    | scr h1 h2 => exact ⟨_, rfl, fun W' H' st' m _ _ => ⟨_, h1.sqm m, Reps.mo m _ _ h2⟩⟩
  · cases h
    cases hl
    cases r with
    | kon h1 h2 => exact ⟨_, rfl, fun W' H' st' m _ _ => ⟨_, h1.sq, Reps.mo m _ _ h2⟩⟩
  · cases hl
  · rename_i n
    split at h
    · rename_i ds e
      cases h
      cases hl
      cases r with
      | ref h1 =>
        refine ⟨_, rfl, fun W' H' st' m hs' w => ?_⟩
        have e' : st'[n]? = some (.lst ds) := of_decide_eq_true w
        have ob := hs'.ob n _ _ (m.rf _ _ h1) e'
        cases ob with
        | lst k1 k2 => exact ⟨_, SqL.of k1, k2⟩
    · cases h
  · cases h
theorem Mo.refl : Mo W H W H := ⟨fun _ _ h n1 n2 => ⟨h, n1, n2⟩, fun _ _ h => h⟩
theorem get_none {ds : List D} {vs : List V} (r : Reps K W H ds vs) {i : Nat} (h : ds[i]? = none) : vs.length ≤ i := by
  rw [← r.length]
  exact List.getElem?_eq_none_iff.mp h
theorem walk_Itl {a : Addr} {wk : Walk} (s : Stays K nm W H wk (SqL K · a)) : IsWalk K nm W H wk (Itl K a) := fun W' H' st' m hs w i => by
  obtain ⟨vs, q, r⟩ := s W' H' st' m hs w
  refine ⟨fun d e => ?_, fun e => ⟨vs, q, get_none r e⟩⟩
  obtain ⟨v, e1, r1⟩ := r.get e
  refine ⟨⟨vs, v, q, e1⟩, fun x H'' y => ?_⟩
  obtain ⟨rfl, y⟩ := y
  have z := y vs q
  rw [e1] at z
  cases z
  exact ⟨W', Ext.refl, hs, r1⟩
theorem walk_Itt {a : Addr} {wk : Walk} (s : Stays K nm W H wk (SqT K · a)) : IsWalk K nm W H wk (Itt K a) := fun W' H' st' m hs w i => by
  obtain ⟨vs, q, r⟩ := s W' H' st' m hs w
  refine ⟨fun d e => ?_, fun e => ⟨vs, q, get_none r e⟩⟩
  obtain ⟨v, e1, r1⟩ := r.get e
  refine ⟨⟨vs, v, q, e1⟩, fun x H'' y => ?_⟩
  obtain ⟨rfl, y⟩ := y
  have z := y vs q
  rw [e1] at z
  cases z
  exact ⟨W', Ext.refl, hs, r1⟩
theorem walk_Its {x : Str} : IsWalk K nm W H ⟨x.cps.toList.map fun c => .str ⟨#[c]⟩, fun _ => true⟩ (Its x) := fun W' H' st' m hs w i => by
  refine ⟨fun d e => ?_, fun e => ?_⟩
  · have hl := (List.getElem?_eq_some_iff.mp e).1
    refine ⟨(by simpa using hl : i < x.cps.size), fun v H'' y => ?_⟩
    obtain ⟨rfl, c, ec, rfl⟩ := y
    have e' : (x.cps.toList.map fun c => D.str ⟨#[c]⟩)[i]? = some d := e
    rw [List.getElem?_map, Array.getElem?_toList, ec] at e'
    cases e'
    exact ⟨W', Ext.refl, hs, .str _⟩
  · have := List.getElem?_eq_none_iff.mp e
    show x.cps.size ≤ i
    simpa using this
theorem walk_Itr {lo hi : Int} : IsWalk K nm W H ⟨rangeD lo hi, fun _ => true⟩ (Itr lo (hi - lo).toNat) := fun W' H' st' m hs w i => by
  refine ⟨fun d e => ?_, fun e => ?_⟩
  · have e' : (rangeD lo hi)[i]? = some d := e
    unfold rangeD at e'
    rw [List.getElem?_map] at e'
    have hl := (List.getElem?_eq_some_iff.mp e).1
    have hl2 : i < (hi - lo).toNat := by
      have : (rangeD lo hi).length = (hi - lo).toNat := by simp [rangeD]
      rw [← this]; exact hl
    rw [List.getElem?_range hl2] at e'
    cases e'
    refine ⟨hl2, fun v H'' y => ?_⟩
    obtain ⟨rfl, rfl⟩ := y
    exact ⟨W', Ext.refl, hs, .int _⟩
  · have := List.getElem?_eq_none_iff.mp e
    have h2 : (rangeD lo hi).length = (hi - lo).toNat := by simp [rangeD]
    show (hi - lo).toNat ≤ i
    rw [← h2]; exact this
theorem pair_new {K : PySem.W.Frag} {nm : Nm} {W : Wd} {H : Hp} {st : St} {T : Addr} {d e : D} {v u : V} (hs : StRep K nm W H st) (q : H T = none) (r : Rep K W H d v) (r' : Rep K W H e u) :
    ∃ W'', Ext W H W'' (upd H T (.tup [v, u])) ∧ StRep K nm W'' (upd H T (.tup [v, u])) st ∧ Rep K W'' (upd H T (.tup [v, u])) (.tup [d, e]) (.ref T) :=
  ⟨W, Ext.fresh q, hs.fresh q, Rep.newT hs q (.cons r (.one r'))⟩
theorem zip_get {x y : List D} {i : Nat} {d : D} (h : (zipD x y)[i]? = some d) : ∃ a b, x[i]? = some a ∧ y[i]? = some b ∧ d = .tup [a, b] := by
  unfold zipD at h
  rw [List.getElem?_map] at h
  cases e : (x.zip y)[i]? with
  | none => rw [e] at h; cases h
  | some p =>
    rw [e] at h
    cases h
    obtain ⟨h1, h2⟩ := List.getElem?_zip_eq_some.mp e
    exact ⟨_, _, h1, h2, rfl⟩
theorem zip_none {x y : List D} {i : Nat} (h : (zipD x y)[i]? = none) : x.length ≤ i ∨ y.length ≤ i := by
  unfold zipD at h
  have := List.getElem?_eq_none_iff.mp h
  rw [List.length_map, List.length_zip] at this
  omega
theorem walk_Itz {a b : Addr} {p q : Walk} (s : Stays K nm W H p (SqL K · a)) (s' : Stays K nm W H q (SqL K · b)) : IsWalk K nm W H ⟨zipD p.ds q.ds, fun st => p.w st && q.w st⟩ (Itz K a b) := fun W' H' st' m hs w i => by
  have w' := Bool.and_eq_true_iff.mp w
  obtain ⟨vs, q1, r1⟩ := s W' H' st' m hs w'.1
  obtain ⟨us, q2, r2⟩ := s' W' H' st' m hs w'.2
  refine ⟨fun d e => ?_, fun e => ?_⟩
  · obtain ⟨x, y, e1, e2, rfl⟩ := zip_get e
    obtain ⟨v, f1, g1⟩ := r1.get e1
    obtain ⟨u, f2, g2⟩ := r2.get e2
    refine ⟨⟨vs, us, v, u, q1, q2, f1, f2⟩, fun z H'' y => ?_⟩
    obtain ⟨T, x', y', rfl, hT, rfl, h1, h2⟩ := y
    have z1 := h1 vs q1
    have z2 := h2 us q2
    rw [f1] at z1
    rw [f2] at z2
    cases z1
    cases z2
    exact pair_new hs hT g1 g2
  · refine ⟨vs, us, q1, q2, ?_⟩
    rw [← r1.length, ← r2.length]
    exact zip_none e
theorem walk_ItzT {a b : Addr} {p q : Walk} (s : Stays K nm W H p (SqT K · a)) (s' : Stays K nm W H q (SqT K · b)) : IsWalk K nm W H ⟨zipD p.ds q.ds, fun st => p.w st && q.w st⟩ (RZ.ItzT K a b) := fun W' H' st' m hs w i => by
  have w' := Bool.and_eq_true_iff.mp w
  obtain ⟨vs, q1, r1⟩ := s W' H' st' m hs w'.1
  obtain ⟨us, q2, r2⟩ := s' W' H' st' m hs w'.2
  refine ⟨fun d e => ?_, fun e => ?_⟩
  · obtain ⟨x, y, e1, e2, rfl⟩ := zip_get e
    obtain ⟨v, f1, g1⟩ := r1.get e1
    obtain ⟨u, f2, g2⟩ := r2.get e2
    refine ⟨⟨vs, us, v, u, q1, q2, f1, f2⟩, fun z H'' y => ?_⟩
    obtain ⟨T, x', y', rfl, hT, rfl, h1, h2⟩ := y
    have z1 := h1 vs q1
    have z2 := h2 us q2
    rw [f1] at z1
    rw [f2] at z2
    cases z1
    cases z2
    exact pair_new hs hT g1 g2
  · refine ⟨vs, us, q1, q2, ?_⟩
    rw [← r1.length, ← r2.length]
    exact zip_none e
theorem enum_get {x : List D} {i : Nat} {d : D} (h : (enumD x)[i]? = some d) : ∃ a, x[i]? = some a ∧ d = .tup [.int (i : Nat), a] := by
  unfold enumD at h
  rw [List.getElem?_map] at h
  cases e : ((List.range x.length).zip x)[i]? with
  | none => rw [e] at h; cases h
  | some p =>
    rw [e] at h
    cases h
    obtain ⟨h1, h2⟩ := List.getElem?_zip_eq_some.mp e
    have hl := (List.getElem?_eq_some_iff.mp h2).1
    rw [List.getElem?_range hl] at h1
    cases h1
    exact ⟨_, h2, by rfl⟩
theorem enum_len (x : List D) : (enumD x).length = x.length := by unfold enumD; rw [List.length_map, List.length_zip, List.length_range]; omega
theorem walk_Ite {a : Addr} {p : Walk} (s : Stays K nm W H p (SqL K · a)) : IsWalk K nm W H ⟨enumD p.ds, p.w⟩ (Ite K a) := fun W' H' st' m hs w i => by
  obtain ⟨vs, q1, r1⟩ := s W' H' st' m hs w
  refine ⟨fun d e => ?_, fun e => ?_⟩
  · obtain ⟨x, e1, rfl⟩ := enum_get e
    obtain ⟨v, f1, g1⟩ := r1.get e1
    refine ⟨⟨vs, v, q1, f1⟩, fun z H'' y => ?_⟩
    obtain ⟨T, x', rfl, hT, rfl, h1⟩ := y
    have z1 := h1 vs q1
    rw [f1] at z1
    cases z1
    exact pair_new hs hT (.int _) g1
  · refine ⟨vs, q1, ?_⟩
    rw [← r1.length, ← enum_len]
    exact List.getElem?_eq_none_iff.mp e
theorem walk_Itv {a : Addr} {p : Walk} (s : Stays K nm W H p (SqL K · a)) {n : Nat} (hn : n = p.ds.length) : IsWalk K nm W H ⟨p.ds.reverse, p.w⟩ (Itv K a n) := fun W' H' st' m hs w i => by
  obtain ⟨vs, q1, r1⟩ := s W' H' st' m hs w
  refine ⟨fun d e => ?_, fun e => ?_⟩
  · have hl := (List.getElem?_eq_some_iff.mp e).1
    have hl' : i < p.ds.length := by simpa using hl
    have e1 : p.ds[n - 1 - i]? = some d := by
      have e' : p.ds.reverse[i]? = some d := e
      rw [List.getElem?_reverse hl'] at e'
      rw [hn]; exact e'
    obtain ⟨v, f1, g1⟩ := r1.get e1
    refine ⟨⟨by omega, vs, v, q1, f1⟩, fun z H'' y => ?_⟩
    obtain ⟨rfl, h1⟩ := y
    have z1 := h1 vs q1
    rw [f1] at z1
    cases z1
    exact ⟨W', Ext.refl, hs, g1⟩
  · have := List.getElem?_eq_none_iff.mp e
    rw [List.length_reverse] at this
    show n ≤ i
    omega
theorem walk_ItvT {a : Addr} {p : Walk} (s : Stays K nm W H p (SqT K · a)) {n : Nat} (hn : n = p.ds.length) : IsWalk K nm W H ⟨p.ds.reverse, p.w⟩ (RT.ItvT K a n) := fun W' H' st' m hs w i => by
  obtain ⟨vs, q1, r1⟩ := s W' H' st' m hs w
  refine ⟨fun d e => ?_, fun e => ?_⟩
  · have hl := (List.getElem?_eq_some_iff.mp e).1
    have hl' : i < p.ds.length := by simpa using hl
    have e1 : p.ds[n - 1 - i]? = some d := by
      have e' : p.ds.reverse[i]? = some d := e
      rw [List.getElem?_reverse hl'] at e'
      rw [hn]; exact e'
    obtain ⟨v, f1, g1⟩ := r1.get e1
    refine ⟨⟨by omega, vs, v, q1, f1⟩, fun z H'' y => ?_⟩
    obtain ⟨rfl, h1⟩ := y
    have z1 := h1 vs q1
    rw [f1] at z1
    cases z1
    exact ⟨W', Ext.refl, hs, g1⟩
  · have := List.getElem?_eq_none_iff.mp e
    rw [List.length_reverse] at this
    show n ≤ i
    omega
end
end Ev
/-! Ev11: does a term of Ev stand for the text's expression, statement? -/
namespace Ev
open PySem PySem.Spec PyProof.Rows L2
structure Row where
  id : Nat
  d : He.DefD
  N : List Str
  fn : Fn
structure Lw where
  rows : List Row
  nm : Nm
  con : List (Str × D)
  free : List Str
  excs : List Nat
  sub : Nat → Nat → Bool
def Lw.row (L : Lw) (f : Nat) : Option Row := L.rows.find? fun r => r.id == f
def Lw.T (L : Lw) : Prog := ⟨fun f => (L.row f).map (·.fn), L.sub⟩
/-- f stands at that place and takes n values -/
def chkF (L : Lw) (f : Nat) (at_ : Str × Option Str) (n : Nat) : Bool := match L.row f with
  | some r => decide (r.d.at_ = at_) && (decide (n ≤ r.fn.np) && decide (r.fn.np ≤ n + r.fn.dfl.length))
  | none => false
def okName (n : Str) : Bool := !(n == ("__debug__" : Str)) && !(n == ("__classdict__" : Str))
def visC (sc : Scope) (n : Str) : Bool := decide (sc.names.lookup n = some .local) || (decide (sc.names.lookup n = some .cell) || decide (sc.names.lookup n = some .free))
def glC (sc : Scope) (n : Str) : Bool := decide (sc.names.lookup n = some .globalImplicit)
def frC (L : Lw) (sc : Scope) (n : Str) : Bool := glC sc n && decide (n ∈ L.free)
def chkC (d : D) (x : Expr) : Bool := match d, x with
  | .non, .Constant .none _ _ => true
  | .bl b, .Constant (.bool c) _ _ => b == c
  | .int i, .Constant (.int j) _ _ => decide (i = j)
  | .str s, .Constant (.str t) _ _ => decide (s = t)
  | _, _ => false
def biN : BI → Str
  | .len => "len" | .abs => "abs" | .int => "int" | .str => "str" | .tuple => "tuple" | .list => "list" | .sorted => "sorted" | .all => "all" | .any => "any" | .min => "min"
def biOk : BI → Bool
  | .list => false | .min => false | _ => true
def bmN : BM → Str
  | .append => "append" | .pop => "pop" | .popat => "pop" | .index => "index" | .tindex => "index" | .join => "join" | .split => "split" | .get => "get" | .extend => "extend" | .dpop => "pop" | .upper => "upper" | .remove => "remove"
def bmOk : BM → Bool
  | .append => true | .pop => true | .popat => true | .join => true | .split => true | .get => true | .extend => true | .upper => true | _ => false
def isTupE : Expr → Bool
  | .Tuple .. => true
  | _ => false
def ownN (N : List Str) (own : List Nat) : List (Str × Nat) := own.filterMap fun i => (N[i]?).map fun n => (n, i)
def tgSub (own : List Nat) : Tg → Bool
  | .nm i => decide (i ∈ own)
  | .tp is => is.all fun i => decide (i ∈ own)
def Es.len : Es → Nat
  | .nil => 0
  | .cons _ es => es.len + 1
section
variable (L : Lw) (N : List Str)
mutual
def chkE : E → Scope → Expr → Bool
  | .c d, _, x => chkC d x
  | .v i, sc, x => (match x with
    | .Name n _ => decide (N[i]? = some n) && (visC sc n && okName n)
    | _ => false)
  | .g y d, sc, x => (match x with
    | .Name n _ => decide (n = y) && (glC sc n && (decide (L.con.lookup n = some d) && okName n))
    | _ => false)
  | .bin op _ a b, sc, x => (match x with
    | .BinOp l o r _ => decide (o = pyOp op) && (chkE a sc l && chkE b sc r)
    | _ => false)
  | .neg a, sc, x => (match x with
    | .UnaryOp .USub y _ => chkE a sc y
    | _ => false)
  | .bo t, sc, x => chkB t sc .And [x]
  | .ifx t a b, sc, x => (match x with
    | .IfExp c y z _ => chkB t sc .And [c] && (chkE a sc y && chkE b sc z)
    | _ => false)
  | .tup es, sc, x => (match x with
    | .Tuple ys _ _ => decide (ys.length ≤ 1000) && chkEs es sc ys
    | _ => false)
  | .lst _ es, sc, x => (match x with
    | .List ys _ => chkEs es sc ys
    | _ => false)
  | .dic _, _, x => (match x with
    | .Dict [] [] _ => true
    | _ => false)
  | .ix a i, sc, x => (match x with
    | .Subscript y z _ => noSlice z && (chkE a sc y && chkE i sc z)
    | _ => false)
  | .sl _ a lo hi, sc, x => (match x with
    | .Subscript y (.Slice l h none _) _ => chkE a sc y && (chkO lo sc l && chkO hi sc h)
    | _ => false)
  | .call f es, sc, x => (match x with
    | .Call (.Name n _) ys [] _ => glC sc n && (okName n && (chkF L f (n, none) ys.length && chkEs es sc ys))
    | _ => false)
  | .meth _ _ _ _, _, _ => false
  | .make _ _ _, _, _ => false
  | .fld _ _ _, _, _ => false
  | .bi f _ es, sc, x => (match x with
    | .Call (.Name n _) (y :: ys) [] _ => decide (n = biN f) && (biOk f && (frC L sc n && chkEs es sc (y :: ys)))
    | _ => false)
  | .isi t e, sc, x => (match x with
    | .Call (.Name n _) [y, .Name tn _] [] _ => decide (n = "isinstance") && (frC L sc n && (decide (t.nm.map Str.ofString = some tn) && (frC L sc tn && (noStar y && chkE e sc y))))
    | _ => false)
  | .sortk _ e, sc, x => (match x with
    | .Call (.Name n _) [.Call (.Attribute y k ap) [] [] cp] [] _ => decide (n = "sorted") && (frC L sc n && (decide (k = "keys") && (okBase y && ((ap.endLine == cp.line) && chkE e sc y))))
    | _ => false)
  | .bm f _ o es, sc, x => (match x with
    | .Call (.Attribute y k ap) ys [] cp => decide (k = bmN f) && (bmOk f && (okBase y && ((ap.endLine == cp.line) && (decide (ys.length < 30) && (chkE o sc y && chkEs es sc ys)))))
    | _ => false)
  | .lc _ own tg it t e, sc, x => (match x with
    | .ListComp elt [⟨tgx, iter, ifs, 0⟩] scope _ => noSet iter && (blkC N sc scope (ownN N own) && (decide ((ownN N own).map (·.2) = own) && (tgSub own tg && (tgC N scope tg tgx && (chkI it sc (isTupE tgx) iter && (chkOB t (relS scope sc) ifs && chkE e (relS scope sc) elt))))))
    | _ => false)
def chkO : OE → Scope → Option Expr → Bool
  | .no, _, x => (match x with
    | none => true
    | some _ => false)
  | .so e, sc, x => (match x with
    | some y => chkE e sc y
    | none => false)
def chkOB : OB → Scope → List Expr → Bool
  | .yes, _, x => (match x with
    | [] => true
    | _ => false)
  | .so t, sc, x => (match x with
    | [y] => chkB t sc .And [y]
    | _ => false)
def chkEs : Es → Scope → List Expr → Bool
  | .nil, _, xs => (match xs with
    | [] => true
    | _ => false)
  | .cons e es, sc, xs => (match xs with
    | x :: xs => noStar x && (chkE e sc x && chkEs es sc xs)
    | [] => false)
def chkB : B → Scope → BoolOp → List Expr → Bool
  | .cmp op a b, sc, _, xs => (match xs with
    | [.Compare l [o] [r] _] => decide (o = pyCmp op) && (noSet r && (chkE a sc l && chkE b sc r))
    | _ => false)
  | .chain op op' a b c, sc, _, xs => (match xs with
    | [.Compare l [o, o'] [r, r'] _] => decide (o = pyCmp op) && (decide (o' = pyCmp op') && (noSet r' && (chkE a sc l && (chkE b sc r && chkE c sc r'))))
    | _ => false)
  | .isN neg a, sc, _, xs => (match xs with
    | [.Compare l [o] [.Constant .none _ _] _] => decide (o = if neg then .IsNot else .Is) && chkE a sc l
    | _ => false)
  | .and a b, sc, o, xs => (match xs with
    | [.BoolOp .And (y :: z :: r) _] => chkB a sc .And [y] && chkB b sc .And (z :: r)
    | y :: z :: r => decide (o = .And) && (chkB a sc .And [y] && chkB b sc .And (z :: r))
    | _ => false)
  | .or a b, sc, o, xs => (match xs with
    | [.BoolOp .Or (y :: z :: r) _] => chkB a sc .Or [y] && chkB b sc .Or (z :: r)
    | y :: z :: r => decide (o = .Or) && (chkB a sc .Or [y] && chkB b sc .Or (z :: r))
    | _ => false)
  | .not a, sc, _, xs => (match xs with
    | [.UnaryOp .Not y _] => chkB a sc .And [y]
    | _ => false)
  | .val e, sc, _, xs => (match xs with
    | [y] => plainT y && chkE e sc y
    | _ => false)
def chkI : It → Scope → Bool → Expr → Bool
  | .of e, sc, _, x => chkE e sc x
  | .rng a, sc, _, x => (match x with
    | .Call (.Name n _) [y] [] _ => decide (n = "range") && (frC L sc n && (noStar y && chkE a sc y))
    | _ => false)
  | .rng2 a b, sc, _, x => (match x with
    | .Call (.Name n _) [y, z] [] _ => decide (n = "range") && (frC L sc n && (noStar y && (noStar z && (chkE a sc y && chkE b sc z))))
    | _ => false)
  | .zip a b, sc, tp, x => (match x with
    | .Call (.Name n _) [y, z] [] _ => tp && (decide (n = "zip") && (frC L sc n && (noStar y && (noStar z && (chkE a sc y && chkE b sc z)))))
    | _ => false)
  | .enum a, sc, tp, x => (match x with
    | .Call (.Name n _) [y] [] _ => tp && (decide (n = "enumerate") && (frC L sc n && (noStar y && chkE a sc y)))
    | _ => false)
  | .rev a, sc, _, x => (match x with
    | .Call (.Name n _) [y] [] _ => decide (n = "reversed") && (frC L sc n && (noStar y && chkE a sc y))
    | _ => false)
end
/-- a list comprehension whose value goes into the name t on its line -/
def swapC (sc : Scope) (t : Str) (tp : Pos) : Expr → Bool
  | .ListComp _ _ s p => decide (sc.names.lookup t = some .local) && ((tp.line == p.line) && !(s.names.any fun (n, k) => n == t && (k == .local || k == .cell)))
  | _ => false
def isLc : E → Bool
  | .lc .. => true
  | _ => false
def docC : Expr → Bool
  | .Constant (.str _) _ _ => true
  | _ => false
mutual
def chkS : S → Scope → Stmt → Bool
  | .set i e, sc, x => (match x with
    | .Assign [.Name n tp] y p => nmC N sc i n && ((noComp y || (isLc e && swapC sc n tp y)) && chkE L N e sc y)
    | _ => false)
  | .setT is e, sc, x => (match x with
    | .Assign [.Tuple ts k tp] y p => nmsC N sc is ts && (noComp y && (noTuple y && chkE L N e sc y))
    | _ => false)
  | .par i j a b, sc, x => (match x with
    | .Assign [.Tuple [.Name m mp, .Name n np] _ _] (.Tuple [y, z] _ _) _ => false
    | _ => false)
  | .setIx o i e, sc, x => (match x with
    | .Assign [.Subscript y z sp] v p => noSlice z && (noComp v && (chkE L N o sc y && (chkE L N i sc z && chkE L N e sc v)))
    | _ => false)
  | .setF _ _ _ _, _, _ => false
  | .ex e, sc, x => (match x with
    | .Expr y _ => noComp y && chkE L N e sc y
    | _ => false)
  | .ret e, sc, x => (match x with
    | .Return (some y) _ => chkE L N e sc y
    | _ => false)
  | .retN, _, x => (match x with
    | .Return none _ => true
    | _ => false)
  | .ite t a b, sc, x => (match x with
    | .If c y z _ => chkB L N t sc .And [c] && (chkSs a sc y && chkSs b sc z)
    | _ => false)
  | .loop tg it b, sc, x => (match x with
    | .For tgx iter y [] _ => noSet iter && (tgC N sc tg tgx && (chkI L N it sc (isTupE tgx) iter && chkSs b sc y))
    | _ => false)
  | .wh t b, sc, x => (match x with
    | .While c y [] _ => chkB L N t sc .And [c] && chkSs b sc y
    | _ => false)
  | .raise c, sc, x => (match x with
    | .Raise (some (.Call (.Name n _) [] [] _)) none _ => decide (n = L.nm.cls c) && (glC sc n && (okName n && decide (c ∈ L.excs)))
    | _ => false)
  | .tr _ _, _, _ => false
  | .pass, _, x => (match x with
    | .Pass _ => true
    | .Expr (.Constant (.str _) _ _) _ => true
    | _ => false)
def chkSs : Ss → Scope → List Stmt → Bool
  | .nil, _, xs => (match xs with
    | [] => true
    | _ => false)
  | .cons s ss, sc, xs => (match xs with
    | x :: xs => chkS s sc x && chkSs ss sc xs
    | [] => false)
end
end
end Ev
/-! Ev12: expressions that are checked do what Ev says. -/
namespace Ev
open PySem PySem.Spec PyProof.Rows L2
def Wof (K : PySem.W.Frag) (nm : Nm) (XQ : L2.St → Nat → Hp → Prop) : WX := fun cls d σ H => ∃ x, cls = .ref (He.ga K (nm.cls x)) ∧ d = none ∧ XQ σ x H
/-- what a def that Ev computes promises -/
def spC (K : PySem.W.Frag) (nm : Nm) (C : Oracle) (f np : Nat) : Sp := fun vs H Q E => ∃ W ds st, StRep K nm W H st ∧ Reps K W H ds vs ∧ ds.length = np ∧ Post K nm W H (C f ds st) (Rep K) Q (fun x H => E (.ref (He.ga K (nm.cls x))) none H)
structure Callee (L : Lw) (C : Oracle) (k : Nat) (P : Program) (w : World) (K : PySem.W.Frag) (mg : Str → Option Value) (base : Heap) (f n : Nat) (a : Addr) : Prop where
  ex : ∃ (fd : FuncData) (ps : List Str) (np : Nat) (dvs : List V) (ds : List Value) (e : List D), FnOk P w K mg base (L2.CX P w) k a fd ps (spC K L.nm C f np) ∧ Binds K fd ps ds ∧ Vals dvs ds ∧ n + e.length = np ∧
    (∀ xs st, xs.length = n → C f xs st = C f (xs ++ e) st) ∧ ∀ W H, Reps K W H e dvs
  kp : PySem.W.keepIn K (.ref a) = true
structure Facts (L : Lw) (C : Oracle) (k : Nat) (P : Program) (w : World) (K : PySem.W.Frag) (mg : Str → Option Value) (base : Heap) : Prop where
  con : ∀ x d, L.con.lookup x = some d → ∃ v u, mg x = some u ∧ RelV v u ∧ ∀ W H, Rep K W H d v
  free : ∀ x ∈ L.free, mg x = none
  exc : ∀ c ∈ L.excs, mg (L.nm.cls c) = some (.ref (He.ga K (L.nm.cls c))) ∧ (He.Fa.exc (L.nm.cls c)).ok K = true
  call : ∀ f x n, chkF L f (x, none) n = true → mg x = some (.ref (He.ga K x)) ∧ Callee L C k P w K mg base f n (He.ga K x)
structure Cxt (L : Lw) (C : Oracle) (k : Nat) (N : List Str) (sc : Scope) (XQ : L2.St → Nat → Hp → Prop) (X : Cx) : Prop where
  calm : X.calm = true
  nn : X.N = N
  nd : N.Nodup
  scp : X.env.scope = sc
  room : Room (k + 1) X.A
  fx : Facts L C k X.prog X.w X.K X.mg X.base
  tk : Takes X (Wof X.K L.nm XQ)
/-- the reading of an evaluation -/
def Tr {α β : Type} (K : PySem.W.Frag) (nm : Nm) (XQ : L2.St → Nat → Hp → Prop) (rep : Wd → Hp → α → β → Prop) (run : Env → St → R α) : L2.St → Hp → (β → Hp → Prop) → Prop :=
  fun σ H Q => ∃ W env st, StRep K nm W H st ∧ EnvRep K W H env σ ∧ Post K nm W H (run env st) rep Q (XQ σ)
section
variable {K : PySem.W.Frag} {nm : Nm} {XQ : L2.St → Nat → Hp → Prop} {W : Wd} {H : Hp} {σ : L2.St} {env : Env} {st : St}
theorem Tr.mono {α β : Type} {rep : Wd → Hp → α → β → Prop} {run : Env → St → R α} {Q Q' : β → Hp → Prop} (h : Tr K nm XQ rep run σ H Q) (q : ∀ b H, Q b H → Q' b H) : Tr K nm XQ rep run σ H Q' :=
  let ⟨W, env, st, hs, he, h⟩ := h; ⟨W, env, st, hs, he, h.mono q⟩
theorem Tr.bind {α β γ δ : Type} {run : Env → St → R α} {f : α → St → R γ} {rep : Wd → Hp → α → β → Prop} {rep' : Wd → Hp → γ → δ → Prop} {Q : δ → Hp → Prop} (hs : StRep K nm W H st) (he : EnvRep K W H env σ)
    (h : Post K nm W H ((run env st).bind f) rep' Q (XQ σ)) :
    Tr K nm XQ rep run σ H (fun b H1 => ∃ W1 a st1, Ext W H W1 H1 ∧ StRep K nm W1 H1 st1 ∧ EnvRep K W1 H1 env σ ∧ rep W1 H1 a b ∧ Post K nm W1 H1 (f a st1) rep' Q (XQ σ)) :=
  ⟨W, env, st, hs, he, (Post.bind (rep := rep) h).mono fun b H1 ⟨W1, a, st1, e, hs1, r, q⟩ => ⟨W1, a, st1, e, hs1, he.ext e, r, q⟩⟩
end
section
variable (L : Lw) (C : Oracle) (X : Cx) (XQ : L2.St → Nat → Hp → Prop)
def tE (e : E) : TE := Tr X.K L.nm XQ (Rep X.K) (ev ⟨L.sub, C⟩ e)
def tB1 (t : B) : TT := Tr X.K L.nm XQ (fun _ _ b c => b = c) (evB ⟨L.sub, C⟩ t)
def tB2 (t : B) : TE := Tr X.K L.nm XQ (fun _ _ b v => v = V.bl b) (evB ⟨L.sub, C⟩ t)
def tEs (es : Es) : TA := Tr X.K L.nm XQ (fun W H ds vs => Reps X.K W H ds vs ∧ ds.length = es.len) (evs ⟨L.sub, C⟩ es)
def tO (o : OE) : TO := Tr X.K L.nm XQ (fun _ _ a b => a = b) (evO ⟨L.sub, C⟩ o)
def tI (it : It) : TI := Tr X.K L.nm XQ (fun W H wk J => IsWalk X.K L.nm W H wk J) (evI ⟨L.sub, C⟩ it)
def obB (t : OB) (env : Env) (st : St) : R Bool := match t with
  | .yes => .ok true st
  | .so t => evB ⟨L.sub, C⟩ t env st
def tOB (t : OB) : TT := Tr X.K L.nm XQ (fun _ _ b c => b = c) (obB L C t)
end
theorem band {a b : Bool} (h : (a && b) = true) : a = true ∧ b = true := Bool.and_eq_true_iff.mp h
theorem dec {p : Prop} [Decidable p] (h : decide p = true) : p := of_decide_eq_true h
section
variable {L : Lw} {C : Oracle} {k : Nat} {N : List Str} {sc : Scope} {XQ : L2.St → Nat → Hp → Prop} {X : Cx}
theorem Cxt.hu (c : Cxt L C k N sc XQ X) : X.A.units + 65 < cLine := by have := c.room.un; omega
theorem Cxt.gl (c : Cxt L C k N sc XQ X) {n : Str} (h : glC sc n = true) : Gl X n := by
  show X.env.kindOf n = _
  unfold Env.kindOf
  rw [c.scp]
  exact dec h
theorem Cxt.fr (c : Cxt L C k N sc XQ X) {n : Str} (h : frC L sc n = true) : Gl X n ∧ X.mg n = none := by
  obtain ⟨h1, h2⟩ := band h
  exact ⟨c.gl h1, c.fx.free n (dec h2)⟩
theorem okName_ok {n : Str} (h : okName n = true) : (n == ("__debug__" : Str)) = false ∧ (n == ("__classdict__" : Str)) = false := by
  obtain ⟨h1, h2⟩ := band h
  exact ⟨by simpa using h1, by simpa using h2⟩
theorem Cxt.vis (c : Cxt L C k N sc XQ X) {n : Str} (h : visC sc n = true) : Vis X.env.scope n := by
  rw [c.scp]
  unfold visC at h
  rw [Bool.or_eq_true, Bool.or_eq_true] at h
  exact h.imp dec fun h => h.imp dec dec
theorem chkEs_len : ∀ {es : Es} {xs : List Expr}, chkEs L N es sc xs = true → es.len = xs.length ∧ xs.all noStar = true
  | .nil, xs, h => by
    unfold chkEs at h
    split at h
    · exact ⟨rfl, rfl⟩
    · cases h
  | .cons e es, xs, h => by
    unfold chkEs at h
    split at h
    · rename_i x xs
      obtain ⟨h1, h2⟩ := band h
      obtain ⟨h2, h3⟩ := band h2
      obtain ⟨h4, h5⟩ := chkEs_len h3
      exact ⟨congrArg Nat.succ h4, by rw [List.all_cons, h1, h5]; rfl⟩
    · cases h
/-- a call of a def that Ev computes -/
theorem call_run (c : Cxt L C k N sc XQ X) {f n : Nat} {a : Addr} (F : Callee L C k X.prog X.w X.K X.mg X.base f n a) {pins : List (Addr × Obj)} {s : Shared} {σ : L2.St} {H : Hp} {us : List Value} {vs : List V} {Q : VK} {W : Wd} {ds : List D} {st : St}
    (I : Inv X pins σ H s) (r : Vals vs us) (hs : StRep X.K L.nm W H st) (rs : Reps X.K W H ds vs) (hn : ds.length = n) (h : Post X.K L.nm W H (C f ds st) (Rep X.K) Q (XQ σ)) :
    wpAny (model X.prog X.w) X.A (PySem.call (.ref a) us) (EP X pins σ Q) X.xe s := by
  obtain ⟨fd, ps, np, dvs, dz, e, F1, hb, hd, hl, he, hr⟩ := F.ex
  have r2 : Vals (vs ++ dvs) (us ++ dz) := r.append hd
  have sp : spC X.K L.nm C f np (vs ++ dvs) H Q (fun cls d H' => ∃ x, cls = .ref (He.ga X.K (L.nm.cls x)) ∧ d = none ∧ XQ σ x H') := by
    refine ⟨W, ds ++ e, st, hs, rs.app (hr W H), by rw [List.length_append, hn, hl], ?_⟩
    rw [← he ds st hn]
    cases e1 : C f ds st with
    | ok d s' => rw [e1] at h; exact h
    | ex x s' => rw [e1] at h; exact fun W' H' g hs' => ⟨x, rfl, rfl, h W' H' g hs'⟩
    | bad => rw [e1] at h; exact h.elim
  have hl2 : (us ++ dz).length = ps.length := by rw [← r2.length]; exact F1.len _ _ _ _ sp
  refine wpAny_call (codeAny_mono (F1.run X.A X.stack s H ⟨us, []⟩ (us ++ dz) (vs ++ dvs) Q _ (c.room.mono (Nat.le_succ _)) I.env0 (hb s us I.kIn hl2) r2 sp) fun r s' hq => ?_)
  cases r with
  | error e => exact c.tk _ _ (XE.of_call I (fun cls d H' q => q) hq)
  | ok fl =>
    cases fl with
    | ret u => exact I.after hq
    | next => exact False.elim hq
    | brk => exact False.elim hq
    | cont => exact False.elim hq
theorem op_bin (m : Bool) (op : Op) (hu : X.A.units + 65 < cLine) : OpR X (binaryOp (pyOp op)) (fun x y H Q => ∃ XQ, r2D X.K L.nm XQ (binD op m) x y H Q) := by
  cases op
  · exact OpR.exi fun _ => op_addD
  · exact OpR.exi fun _ => op_subD
  · exact OpR.exi fun _ => op_mulD
  · exact OpR.exi fun _ => op_fdivD
  · exact OpR.exi fun _ => op_modD
  · exact OpR.exi fun _ => op_powD
theorem bi_all_ok (f : BI) (hf : biOk f = true) (m : Bool) (hc : X.calm = true) (hu : X.A.units + 65 < cLine) :
    (∃ id : String, bootBuiltins (biN f) = some (.builtin id) ∧ CallR X (.builtin id) (fun xs H Q => ∃ XQ, rBI X.K L.nm XQ f m xs H Q)) ∨ ∃ T : String, bootBuiltins (biN f) = some (.type T) ∧ CallR X (.type T) (fun xs H Q => ∃ XQ, rBI X.K L.nm XQ f m xs H Q) := by
  cases f
  · exact .inl ⟨_, PySem.boot_len, CallR.exi fun _ => bi_len⟩
  · exact .inl ⟨_, PyProof.Rows.boot_abs, CallR.exi fun _ => bi_abs⟩
  · exact .inr ⟨_, PyProof.Rows.boot_int, CallR.exi fun _ => bi_int⟩
  · exact .inr ⟨_, PyProof.Rows.boot_str, CallR.exi fun _ => bi_str⟩
  · exact .inr ⟨_, PyProof.Rows.boot_tuple, CallR.exi fun _ => bi_tuple⟩
  · cases hf
  · exact .inl ⟨_, PyProof.Rows.boot_sorted, CallR.exi fun _ => bi_sorted (by omega)⟩
  · exact .inl ⟨_, PyProof.Rows.boot_all, CallR.exi fun _ => bi_all hc⟩
  · exact .inl ⟨_, PyProof.Rows.boot_any, CallR.exi fun _ => bi_any hc⟩
  · cases hf
theorem bi_name (f : BI) : biN f ≠ "__name__" ∧ (biN f == ("__debug__" : Str)) = false := by cases f <;> exact ⟨by decide, by decide⟩
structure Mt (X : Cx) (f : BM) (id : String) : Prop where
  pa : PlainAttrs f.rc.tn
  slot : Slot f.rc.tn (bmN f) id
  ty : typeOf (.builtin id) = pure (.type "method_descriptor")
theorem bm_all_ok (f : BM) (hf : bmOk f = true) (m : Bool) (hu : X.A.units + 65 < cLine) : ∃ id, Mt X f id ∧ MtR X id (fun x xs H Q => ∃ XQ, rBM X.K L.nm XQ f m x xs H Q) := by
  cases f
  · exact ⟨_, ⟨F.plainAttrs_list, F.slot_list_append, F.type_list_append⟩, MtR.exi fun _ => bm_append⟩
  · exact ⟨_, ⟨F.plainAttrs_list, F.slot_list_pop, F.type_list_pop⟩, MtR.exi fun _ => bm_pop⟩
  · exact ⟨_, ⟨F.plainAttrs_list, F.slot_list_pop, F.type_list_pop⟩, MtR.exi fun _ => bm_popat⟩
  · cases hf
  · cases hf
  · exact ⟨_, ⟨F.plainAttrs_str, F.slot_str_join, F.type_str_join⟩, MtR.exi fun _ => bm_join⟩
  · exact ⟨_, ⟨F.plainAttrs_str, F.slot_str_split, F.type_str_split⟩, MtR.exi fun _ => bm_split⟩
  · exact ⟨_, ⟨F.plainAttrs_dict, F.slot_dict_get, F.type_dict_get⟩, MtR.exi fun _ => bm_get (by omega)⟩
  · exact ⟨_, ⟨F.plainAttrs_list, F.slot_list_extend, F.type_list_extend⟩, MtR.exi fun _ => bm_extend⟩
  · cases hf
  · exact ⟨_, ⟨F.plainAttrs_str, F.slot_str_upper, F.type_str_upper⟩, MtR.exi fun _ => bm_upper⟩
  · cases hf
theorem ty_boot {t : Ty} {s : String} {tn : Str} (h : t.nm = some s) (e : Str.ofString s = tn) : bootBuiltins tn = some (.type s) ∧ tn ≠ "__name__" ∧ (tn == ("__debug__" : Str)) = false := by
  subst e
  cases t <;> cases h <;> exact ⟨by decide +kernel, by decide, by decide⟩
end
end Ev
/-! Ev13: comprehensions. -/
namespace Ev
open PySem PySem.Spec PyProof.Rows L2
theorem wipe_get : ∀ (vs : List Nat) (σ : L2.St) (j : Nat), (wipe σ vs)[j]? = if j ∈ vs then (if j < σ.length then some none else none) else σ[j]?
  | [], σ, j => by simp [wipe]
  | v :: vs, σ, j => by
    rw [wipe, List.getElem?_set, wipe_length, wipe_get vs σ j]
    by_cases h : v = j
    · subst h
      simp
    · have h' : ¬ j = v := fun e => h e.symm
      simp [h, h']
theorem wipe_same {vs : List Nat} {σ σ' : L2.St} (hl : σ'.length = σ.length) (h : ∀ j, j ∉ vs → σ'[j]? = σ[j]?) : wipe σ' vs = wipe σ vs := by
  apply List.ext_getElem?
  intro j
  rw [wipe_get, wipe_get, hl]
  by_cases hj : j ∈ vs
  · rw [if_pos hj, if_pos hj]
  · rw [if_neg hj, if_neg hj, h j hj]
theorem setAll_get : ∀ (is : List Nat) (vs : List V) (σ : L2.St) (j : Nat), j ∉ is → (setAll σ is vs)[j]? = σ[j]?
  | [], _, _, _, _ => rfl
  | _ :: _, [], _, _, _ => rfl
  | i :: is, v :: vs, σ, j, h => by
    rw [setAll, setAll_get is vs _ j fun m => h (List.mem_cons_of_mem _ m)]
    exact List.getElem?_set_ne fun e => h (by rw [← e]; exact List.mem_cons_self)
theorem wipeD_rep {K : PySem.W.Frag} {W : Wd} {H : Hp} {env : Env} {σ : L2.St} (h : EnvRep K W H env σ) : ∀ own : List Nat, EnvRep K W H (wipeD env own) (wipe σ own)
  | [] => h
  | i :: is => (wipeD_rep h is).unset
section
variable {K : PySem.W.Frag} {nm : Nm} {W W' : Wd} {H H' : Hp} {st : St}
theorem Ext.strip {D : Addr} {φ ex : List Addr} (e : Ext ⟨φ, D :: ex⟩ H W' H') : Ext ⟨φ, ex⟩ H ⟨W'.φ, ex⟩ H' := ⟨rfl, e.pre, e.keep, e.there⟩
theorem Ext.grow {D : Addr} {o : HO} (e : Ext W H W' H') (h : H D = none) : Ext W H W' (upd H' D o) :=
  ⟨e.ex, e.pre, fun a u q n => by rw [upd_ne (ne_of_none q h)]; exact e.keep a u q n, fun a u q => by
    rw [upd_ne (ne_of_none q h)]; exact e.there a u q⟩
theorem Mo.trans {W'' : Wd} {H'' : Hp} (m : Mo W H W' H') (n : Mo W' H' W'' H'') : Mo W H W'' H'' := ⟨fun a o h n1 n2 => let ⟨q, r1, r2⟩ := m.im a o h n1 n2; n.im a o q r1 r2, fun i a h => n.rf i a (m.rf i a h)⟩
theorem Mo.inside {D : Addr} {φ ex : List Addr} (e : Ext W H ⟨φ, ex⟩ H') (h : H D = none) : Mo W H ⟨φ, D :: ex⟩ H' := ⟨fun a o q n1 n2 => by
    obtain ⟨r1, r2, r3⟩ := e.mo.im a o q n1 n2
    refine ⟨r1, r2, fun m => ?_⟩
    rcases List.mem_cons.mp m with m | m
    · subst m; rw [h] at q; cases q
    · exact r3 m, e.mo.rf⟩
theorem Mo.promote {D : Addr} {φ ex : List Addr} : Mo ⟨φ, D :: ex⟩ H ⟨φ ++ [D], ex⟩ H := ⟨fun a o q n1 n2 => ⟨q, fun m => by
    rcases List.mem_append.mp m with m | m
    · exact n1 m
    · rw [List.mem_singleton.mp m] at n2; exact n2 List.mem_cons_self, fun m => n2 (List.mem_cons_of_mem _ m)⟩, fun i a q => by
    show (φ ++ [D])[i]? = some a
    rw [List.getElem?_append_left (List.getElem?_eq_some_iff.mp q).1]; exact q⟩
theorem StRep.promote {D : Addr} {φ ex : List Addr} {ds : List Ev.D} {vs : List V} (h : StRep K nm ⟨φ, D :: ex⟩ H st) (hd : H D = some (.lst vs)) (r : Reps K ⟨φ, D :: ex⟩ H ds vs) (hx : D ∉ ex) : StRep K nm ⟨φ ++ [D], ex⟩ H (st ++ [.lst ds]) := by
  have hlen : φ.length = st.length := h.len
  have hD : D ∉ φ := (h.exs D List.mem_cons_self).1
  refine ⟨by simp [hlen], ?_, fun a m => ?_, fun i a u e1 e2 => ?_⟩
  · show (φ ++ [D]).Nodup
    rw [List.nodup_append]
    exact ⟨h.nd, by simp, fun a ha b hb => by rw [List.mem_singleton.mp hb]; intro z; exact hD (z ▸ ha)⟩
  · obtain ⟨n, ws, z⟩ := h.exs a (List.mem_cons_of_mem _ m)
    refine ⟨fun m' => ?_, ws, z⟩
    rcases List.mem_append.mp m' with m' | m'
    · exact n m'
    · rw [List.mem_singleton.mp m'] at m; exact hx m
  · by_cases hi : i < st.length
    · rw [List.getElem?_append_left hi] at e2
      have hi' : i < φ.length := by rw [hlen]; exact hi
      have e1' : φ[i]? = some a := by rw [← e1]; exact (List.getElem?_append_left hi').symm
      exact (h.ob i a u e1' e2).mo Mo.promote fun w z => z
    · have hi' : i = st.length := by
        have := (List.getElem?_eq_some_iff.mp e2).1
        rw [List.length_append] at this
        simp at this
        omega
      subst hi'
      have e1' : (φ ++ [D])[st.length]? = some a := e1
      rw [← hlen, List.getElem?_concat_length] at e1'
      rw [List.getElem?_concat_length] at e2
      cases e1'
      cases e2
      exact .lst hd (Reps.mo Mo.promote _ _ r)
end
section
variable {L : Lw} {C : Oracle} {k : Nat} {N : List Str} {sc : Scope} {XQ : L2.St → Nat → Hp → Prop} {X : Cx}
def lcB (L : Lw) (C : Oracle) (tg : Tg) (env : Env) (t : OB) (e : E) (d : D) (st : St) : R (Option D) := match asg tg d env with
  | some env' => (obB L C t env' st).bind fun b st => (match b with
    | true => (ev ⟨L.sub, C⟩ e env' st).bind fun x st => .ok (some x) st
    | false => .ok none st)
  | none => .bad
theorem ev_lc (m : Bool) (own : List Nat) (tg : Tg) (it : It) (t : OB) (e : E) (env : Env) (st : St) :
    ev ⟨L.sub, C⟩ (.lc m own tg it t e) env st = (evI ⟨L.sub, C⟩ it env st).bind fun wk st => (lcL (lcB L C tg (wipeD env own) t e) wk.w wk.ds [] st).bind fun acc st => mk m acc st := by
  rw [ev]
  refine congrArg _ (funext fun wk => funext fun st1 => ?_)
  refine congrArg (fun f => (lcL f wk.w wk.ds [] st1).bind fun acc st => mk m acc st) (funext fun d => funext fun st2 => ?_)
  unfold lcB
  cases asg tg d (wipeD env own) with
  | none => rfl
  | some env' => cases t <;> rfl
/-- the reading of a comprehension -/
theorem lc_read {own : List Nat} {tg : Tg} {it : It} {t : OB} {e : E} {m : Bool} {W : Wd} {H : Hp} {σ : L2.St} {env : Env} {st : St} {Q : VK} (hsub : tgSub own tg = true)
    (hs : StRep X.K L.nm W H st) (he : EnvRep X.K W H env σ) (h : Post X.K L.nm W H (ev ⟨L.sub, C⟩ (.lc m own tg it t e) env st) (Rep X.K) Q (XQ σ)) :
    tLc (tI L C X XQ it) (gD X.K tg) (tOB L C X (fun _ _ _ => False) t) (tE L C X (fun _ _ _ => False) e) own σ H Q := by
  rw [ev_lc] at h
  refine (Tr.bind (rep := fun W H wk J => IsWalk X.K L.nm W H wk J) hs he h).mono fun J H1 ⟨W1, wk, st1, e1, hs1, he1, hw, h1⟩ => ?_
  intro D hD
  have hDe : D ∉ W1.ex := hs1.notex hD
  refine ⟨fun i m' H2 => ∃ φ acc accV st2, m' = (wk.ds.drop i).length ∧ H2 D = some (.lst accV) ∧ StRep X.K L.nm ⟨φ, D :: W1.ex⟩ H2 st2 ∧ Reps X.K ⟨φ, D :: W1.ex⟩ H2 acc accV ∧ Ext W1 H1 ⟨φ, W1.ex⟩ H2 ∧
    Post X.K L.nm W1 H1 ((lcL (lcB L C tg (wipeD env own) t e) wk.w (wk.ds.drop i) acc st2).bind fun acc st => mk m acc st) (Rep X.K) Q (XQ σ),
    ⟨_, W1.φ, [], [], st1, rfl, upd_same, hs1.enter hD, .nil, Ext.fresh hD, h1⟩, ?_⟩
  rintro i m' H2 ⟨φ, acc, accV, st2, rfl, hD2, hs2, ra, e2, h2⟩
  cases hd : wk.ds.drop i with
  | nil =>
    rw [hd] at h2
    unfold lcL at h2
    have hn : wk.ds[i]? = none := List.getElem?_eq_none_iff.mpr (List.drop_eq_nil_iff.mp hd)
    by_cases hw2 : wk.w st2 = true
    · rw [if_pos hw2] at h2
      refine .inl ⟨(hw _ _ _ (Mo.inside e2 hD) hs2 hw2 i).2 hn, ?_⟩
      have h3 : Post X.K L.nm W1 H1 (mk m acc st2) (Rep X.K) Q (XQ σ) := h2
      unfold mk at h3
      split at h3
      · cases m with
        | true =>
          refine h3 ⟨φ ++ [D], W1.ex⟩ H2 _ ⟨rfl, ?_, e2.keep, e2.there⟩ (hs2.promote hD2 ra hDe) (.ref ?_)
          · obtain ⟨ψ, p1, p2⟩ := e2.pre
            refine ⟨ψ ++ [D], ?_, fun a ha => ?_⟩
            · show φ ++ [D] = _
              have p1' : φ = W1.φ ++ ψ := p1
              rw [p1', List.append_assoc]
            · rcases List.mem_append.mp ha with ha | ha
              · exact p2 a ha
              · rw [List.mem_singleton.mp ha]; exact hD
          · show (φ ++ [D])[st2.length]? = some D
            have hlen : φ.length = st2.length := hs2.len
            rw [← hlen, List.getElem?_concat_length]
        | false => exact h3 ⟨φ, W1.ex⟩ H2 _ e2 (StRep.leave hs2) (.lst ⟨hD2, (hs2.exs D List.mem_cons_self).1, hDe⟩ (Reps.mo Mo.leave _ _ ra))
      · exact h3.elim
    · rw [if_neg hw2] at h2
      exact h2.elim
  | cons d rest =>
    have hi : wk.ds[i]? = some d := by
      have := List.getElem?_drop (xs := wk.ds) (i := i) (j := 0)
      rw [hd] at this
      simpa using this.symm
    have hr : wk.ds.drop (i + 1) = rest := by
      have : wk.ds.drop (i + 1) = (wk.ds.drop i).drop 1 := by rw [List.drop_drop]
      rw [this, hd] <;> rfl
    rw [hd] at h2
    unfold lcL at h2
    by_cases hw2 : (wk.w st2 && decide (acc.length < sizeMax)) = true
    · rw [if_pos hw2] at h2
      obtain ⟨hw3, hac⟩ := band hw2
      have hac := dec hac
      obtain ⟨go, yl⟩ := (hw _ _ _ (Mo.inside e2 hD) hs2 hw3 i).1 d hi
      refine .inr ⟨go, fun H3 => ∃ φ acc accV st2, H3 D = some (.lst accV) ∧ StRep X.K L.nm ⟨φ, D :: W1.ex⟩ H3 st2 ∧ Reps X.K ⟨φ, D :: W1.ex⟩ H3 acc accV ∧ Ext W1 H1 ⟨φ, W1.ex⟩ H3 ∧
        Post X.K L.nm W1 H1 ((lcL (lcB L C tg (wipeD env own) t e) wk.w rest acc st2).bind fun acc st => mk m acc st) (Rep X.K) Q (XQ σ), fun H3 ⟨φ3, acc3, accV3, st3, z1, z2, z3, z4, z5⟩ => ?_, fun x H3 y => ?_⟩
      · exact ⟨_, by rw [List.length_cons]; exact Nat.lt_succ_self _, φ3, acc3, accV3, st3, by rw [hr], z1, z2, z3, z4, by rw [hr]; exact z5⟩
      obtain ⟨W3, e3, hs3, rx⟩ := yl x H3 y
      have he3 : EnvRep X.K W3 H3 (wipeD env own) (wipe σ own) := wipeD_rep (he1.mo ((Mo.inside e2 hD).trans e3.mo)) own
      cases ha : asg tg d (wipeD env own) with
      | none =>
        have : lcB L C tg (wipeD env own) t e d st2 = .bad := by unfold lcB; rw [ha]
        rw [this] at h2
        exact h2.elim
      | some env' =>
        have hb : lcB L C tg (wipeD env own) t e d st2 = (obB L C t env' st2).bind fun b st => (match b with
            | true => (ev ⟨L.sub, C⟩ e env' st).bind fun x st => .ok (some x) st
            | false => .ok none st) := by unfold lcB; rw [ha]
        rw [hb] at h2
        obtain ⟨σ', hσ, gg, sh⟩ := asg_rep rx he3 ha
        refine gg _ ⟨?_, ?_⟩
        · -- only the block's own names were set
          rcases sh with ⟨j, rfl, rfl⟩ | ⟨is, xs, rfl, rfl⟩
          · have hj : j ∈ own := dec hsub
            refine wipe_same (by rw [List.length_set, wipe_length]) fun l hl => ?_
            rw [List.getElem?_set_ne (fun (z : j = l) => hl (by rw [← z]; exact hj)), wipe_get, if_neg hl]
          · have hj : ∀ j ∈ is, j ∈ own := fun j hj => dec (List.all_eq_true.mp hsub j hj)
            refine wipe_same (by rw [setAll_len, wipe_length]) fun l hl => ?_
            rw [setAll_get is xs _ l fun m => hl (hj l m), wipe_get, if_neg hl]
        · refine ⟨W3, env', st2, hs3, hσ, ?_⟩
          have fin : ∀ {W4 : Wd} {H4 : Hp} {st4 : St} {acc' : List Ev.D} {l : Option V}, Ext W3 H3 W4 H4 → StRep X.K L.nm W4 H4 st4 → W4.ex = D :: W1.ex ∧ H4 D = some (.lst accV) ∧ Ext W1 H1 ⟨W4.φ, W1.ex⟩ H4 ∧ Reps X.K W4 H4 acc accV := by
            intro W4 H4 st4 acc' l f4 hs4
            have ex3 : W3.ex = D :: W1.ex := e3.ex
            have f4' : Ext ⟨φ, D :: W1.ex⟩ H2 W4 H4 := e3.trans f4
            exact ⟨f4'.ex, f4'.keep D _ hD2 (hs2.exs D List.mem_cons_self).1, e2.trans f4'.strip, ra.ext f4'⟩
          cases hob : obB L C t env' st2 with
          | bad => rw [hob] at h2; exact h2.elim
          | ex x' s' => rw [hob] at h2; exact h2.elim
          | ok b st3 =>
            rw [hob] at h2
            rintro W4 H4 c f4 hs4 rfl
            cases b with
            | false =>
              simp only [Bool.false_eq_true, if_false]
              obtain ⟨g1, g2, g3, g4⟩ := fin (acc' := acc) (l := none) f4 hs4
              have ew : W4 = ⟨W4.φ, D :: W1.ex⟩ := by rw [← g1]
              rw [ew] at hs4 g4
              exact ⟨W4.φ, acc, accV, st3, g2, hs4, g4, g3, h2⟩
            | true =>
              simp only [if_true]
              have he4 : EnvRep X.K W4 H4 env' σ' := hσ.ext f4
              refine ⟨W4, env', st3, hs4, he4, ?_⟩
              simp only [R.bind_ok] at h2
              cases hev : ev ⟨L.sub, C⟩ e env' st3 with
              | bad => rw [hev] at h2; exact h2.elim
              | ex x' s' => rw [hev] at h2; exact h2.elim
              | ok dx st4 =>
                rw [hev] at h2
                intro W5 H5 yv f5 hs5 ry
                obtain ⟨g1, g2, g3, g4⟩ := fin (acc' := acc) (l := none) (f4.trans f5) hs5
                have ew : W5 = ⟨W5.φ, D :: W1.ex⟩ := by rw [← g1]
                rw [ew] at hs5 g4 ry
                refine ⟨accV, g2, by rw [← ra.length, ← sizeMax_line]; exact hac, W5.φ, acc ++ [dx], accV ++ [yv], st4, upd_same, hs5.grow List.mem_cons_self, ?_, g3.grow hD, h2⟩
                exact Reps.mo (Mo.grow List.mem_cons_self) _ _ (g4.app (.one ry))
    · rw [if_neg hw2] at h2
      exact h2.elim
end
end Ev
/-! Ev14: the soundness of expressions. -/
namespace Ev
open PySem PySem.Spec PyProof.Rows L2
section
variable {L : Lw} {C : Oracle} {k : Nat} {N : List Str}
/-- the context of a comprehension's block -/
theorem Cxt.blk {sc : Scope} {XQ : L2.St → Nat → Hp → Prop} {X : Cx} (c : Cxt L C k N sc XQ X) (s : Shared) (H : Hp) (scope : Scope) (cl : List (Str × Addr)) (D : Addr) (fp : List Addr) :
    Cxt L C k N (relS scope sc) (fun _ _ _ => False) (X.blk s H scope (compEnvC scope cl D X.env) fp) :=
  ⟨c.calm, c.nn, c.nd, by show relS scope X.env.scope = _; rw [c.scp], c.room, c.fx, fun u s' ⟨_, _, _, _, _, _, _, _, _, _, _, _, _, _, _, _, _, _, _, w⟩ => w.elim⟩
theorem ownN_map {own : List Nat} (h : (ownN N own).map (·.2) = own) : (ownN N own).map (·.2) = own := h
theorem evI_nextR {P : Par} : True := trivial
/-- a test of several parts, of one -/
def Trip (X : Cx) (o : BoolOp) (x : List Expr) (t1 : TT) (t2 : TE) : Prop := (∀ pos, PW X (.BoolOp o x pos) t1) ∧ (∀ pos, PE X (.BoolOp o x pos) t2) ∧ ∀ y, x = [y] → PT X y t1 ∧ PE X y t2
theorem trip_one {X : Cx} {o : BoolOp} {y : Expr} {t1 : TT} {t2 : TE} (p : PT X y t1) (e : PE X y t2) : Trip X o [y] t1 t2 :=
  ⟨fun pos => by
    cases o with
    | And => exact pw_and1 p
    | Or => exact pw_or1 p, fun pos => pe_one e, fun y' h => by cases h; exact ⟨p, e⟩⟩
theorem b12 {C : Oracle} {X : Cx} {XQ : L2.St → Nat → Hp → Prop} {t : B} {σ : L2.St} {H : Hp} {Q : Bool → Hp → Prop} (h : tB1 L C X XQ t σ H Q) : tB2 L C X XQ t σ H (fun x H' => ∃ k, x = .bl k ∧ Q k H') := by
  obtain ⟨W, env, st, hs, he, q⟩ := h
  refine ⟨W, env, st, hs, he, ?_⟩
  cases e : evB ⟨L.sub, C⟩ t env st with
  | bad => rw [e] at q; exact q.elim
  | ex x s => rw [e] at q; exact q
  | ok b s => rw [e] at q; exact fun W' H' v f hs' r => ⟨b, r, q W' H' b f hs' rfl⟩
theorem lc_tg {sc scope : Scope} {XQ : L2.St → Nat → Hp → Prop} {X : Cx} (c : Cxt L C k N sc XQ X) {tg : Tg} {tgx : Expr} (h : tgC N scope tg tgx = true) {s : Shared} {H : Hp} {cl : List (Str × Addr)} {D : Addr} {fp : List Addr} :
    PG (X.blk s H scope (compEnvC scope cl D X.env) fp) tgx (gD X.K tg) := by
  refine pg_D (X := X.blk s H scope (compEnvC scope cl D X.env) fp) (sc := scope) c.calm (by show X.N.Nodup; rw [c.nn]; exact c.nd) (fun n hn => ?_) (by show tgC X.N scope tg tgx = true; rw [c.nn]; exact h)
  have key : ∀ kd : NameKind, kd ≠ .free → scope.names.lookup n = some kd → (relS scope X.env.scope).names.lookup n = some kd := fun kd hk hl => lookup_relS_keep hk hl
  rcases hn with hn | hn
  · exact ⟨.inl (key _ (by decide) hn), .inr (key _ (by decide) hn)⟩
  · exact ⟨.inr (key _ (by decide) hn), .inl (by show (scope.names.lookup n == some .cell) = true; rw [hn]; rfl)⟩
mutual
theorem eOk : ∀ (e : E) {sc : Scope} {XQ : L2.St → Nat → Hp → Prop} {X : Cx} {x : Expr}, Cxt L C k N sc XQ X → chkE L N e sc x = true → PE X x (tE L C X XQ e)
  | .c d, sc, XQ, X, x, c, h => by
    have h' : chkC d x = true := h
    unfold chkC at h'
    split at h'
    · exact PE.imp pe_non fun σ H Q ⟨W, env, st, hs, he, q⟩ => q.val hs .non
    · have e := eq_of_beq h'
      subst e
      exact PE.imp pe_bl fun σ H Q ⟨W, env, st, hs, he, q⟩ => q.val hs (.bl _)
    · have e := dec h'
      subst e
      exact PE.imp pe_int fun σ H Q ⟨W, env, st, hs, he, q⟩ => q.val hs (.int _)
    · have e := dec h'
      subst e
      exact PE.imp pe_str fun σ H Q ⟨W, env, st, hs, he, q⟩ => q.val hs (.str _)
    · cases h'
  | .v i, sc, XQ, X, x, c, h => by
    unfold chkE at h
    split at h
    · simp only [Bool.and_eq_true] at h
      obtain ⟨h1, h2, h3⟩ := h
      obtain ⟨n1, n2⟩ := okName_ok h3
      refine PE.imp (pe_var (i := i) (by rw [c.nn]; exact dec h1) (c.vis h2) n1 n2) fun σ H Q ⟨W, env, st, hs, he, q⟩ => ?_
      rw [ev] at q
      obtain ⟨d, e1, q⟩ := q.of
      have e2 : env[i]? = some (some d) := by
        cases e3 : env[i]? with
        | none => rw [e3] at e1; cases e1
        | some o => rw [e3] at e1; exact congrArg some e1
      obtain ⟨v, e3, r⟩ := he.2 i d e2
      exact ⟨v, e3, q.val hs r⟩
    · cases h
  | .g y d, sc, XQ, X, x, c, h => by
    unfold chkE at h
    split at h
    · simp only [Bool.and_eq_true] at h
      obtain ⟨h1, h2, h3, h4⟩ := h
      obtain ⟨n1, n2⟩ := okName_ok h4
      obtain ⟨v, u, g1, g2, g3⟩ := c.fx.con _ d (dec h3)
      exact PE.imp (pe_glob (c.gl h2) g1 g2 n1) fun σ H Q ⟨W, env, st, hs, he, q⟩ => q.val hs (g3 W H)
    · cases h
  | .bin op m a b, sc, XQ, X, x, c, h => by
    unfold chkE at h
    split at h
    · simp only [Bool.and_eq_true] at h
      obtain ⟨h1, h2, h3⟩ := h
      have e := dec h1
      subst e
      refine PE.imp (pe_op (op_bin (L := L) m op c.hu) (eOk a c h2) (eOk b c h3)) fun σ H Q ⟨W, env, st, hs, he, q⟩ => ?_
      rw [ev] at q
      refine (Tr.bind hs he q).mono fun x H1 ⟨W1, d1, st1, e1, hs1, he1, r1, q1⟩ => ?_
      exact (Tr.bind hs1 he1 q1).mono fun y H2 ⟨W2, d2, st2, e2, hs2, he2, r2, q2⟩ => ⟨XQ σ, W2, d1, d2, st2, hs2, r1.ext e2, r2, q2⟩
    · cases h
  | .neg a, sc, XQ, X, x, c, h => by
    unfold chkE at h
    split at h
    · refine PE.imp (pe_un un_neg (eOk a c h)) fun σ H Q ⟨W, env, st, hs, he, q⟩ => ?_
      rw [ev] at q
      refine (Tr.bind hs he q).mono fun x H1 ⟨W1, d1, st1, e1, hs1, he1, r1, q1⟩ => ?_
      split at q1
      · exact ⟨_, rep_int r1, q1.val hs1 (.int _)⟩
      · exact q1.elim
    · cases h
  | .bo t, sc, XQ, X, x, c, h => by
    unfold chkE at h
    refine PE.imp ((bOk t c h).2.2 x rfl).2 fun σ H Q ⟨W, env, st, hs, he, q⟩ => ?_
    rw [ev] at q
    refine (Tr.bind (rep := fun _ _ b v => v = V.bl b) hs he q).mono fun x H1 ⟨W1, d1, st1, e1, hs1, he1, r1, q1⟩ => ?_
    subst r1
    exact q1.val hs1 (.bl _)
  | .ifx t a b, sc, XQ, X, x, c, h => by
    unfold chkE at h
    split at h
    · simp only [Bool.and_eq_true] at h
      obtain ⟨h1, h2, h3⟩ := h
      refine PE.imp (pe_ifExp ((bOk t c h1).2.2 _ rfl).1 (eOk a c h2) (eOk b c h3)) fun σ H Q ⟨W, env, st, hs, he, q⟩ => ?_
      rw [ev] at q
      refine (Tr.bind (rep := fun _ _ b c => b = c) hs he q).mono fun b0 H1 ⟨W1, d1, st1, e1, hs1, he1, r1, q1⟩ => ?_
      subst r1
      cases d1 with
      | true => exact ⟨W1, env, st1, hs1, he1, q1⟩
      | false => exact ⟨W1, env, st1, hs1, he1, q1⟩
    · cases h
  | .tup es, sc, XQ, X, x, c, h => by
    unfold chkE at h
    split at h
    · simp only [Bool.and_eq_true] at h
      obtain ⟨h1, h2⟩ := h
      refine PE.imp (pe_tup (esOk es c h2)) fun σ H Q ⟨W, env, st, hs, he, q⟩ => ?_
      rw [ev] at q
      refine (Tr.bind (rep := fun W H ds vs => Reps X.K W H ds vs ∧ ds.length = es.len) hs he q).mono fun vs H1 ⟨W1, ds, st1, e1, hs1, he1, ⟨r1, l1⟩, q1⟩ => ?_
      refine ⟨?_, q1.tup hs1 r1⟩
      have := (chkEs_len h2).1
      have h0 := dec h1
      have := sizeLine_eq
      rw [← r1.length, l1]
      omega
    · cases h
  | .lst m es, sc, XQ, X, x, c, h => by
    unfold chkE at h
    split at h
    · refine PE.imp (pe_lst (esOk es c h)) fun σ H Q ⟨W, env, st, hs, he, q⟩ => ?_
      rw [ev] at q
      refine (Tr.bind (rep := fun W H ds vs => Reps X.K W H ds vs ∧ ds.length = es.len) hs he q).mono fun vs H1 ⟨W1, ds, st1, e1, hs1, he1, ⟨r1, l1⟩, q1⟩ => ?_
      exact q1.mk hs1 r1
    · cases h
  | .dic t, sc, XQ, X, x, c, h => by
    unfold chkE at h
    split at h
    · cases t with
      | true =>
        refine PE.imp pe_dnewT fun σ H Q ⟨W, env, st, hs, he, q⟩ => fun p hp => ?_
        obtain ⟨g1, g2⟩ := hs.alloc (o := .dT []) (ob := .dT []) hp (.dT upd_same rfl .nil)
        refine q _ _ _ g2 g1 (.ref ?_)
        show (W.φ ++ [p])[st.length]? = some p
        rw [← hs.len, List.getElem?_concat_length]
      | false =>
        refine PE.imp pe_dnewK fun σ H Q ⟨W, env, st, hs, he, q⟩ => fun p hp => ?_
        obtain ⟨g1, g2⟩ := hs.alloc (o := .dK []) (ob := .dK []) hp (.dK upd_same rfl .nil)
        refine q _ _ _ g2 g1 (.ref ?_)
        show (W.φ ++ [p])[st.length]? = some p
        rw [← hs.len, List.getElem?_concat_length]
    · cases h
  | .ix a i, sc, XQ, X, x, c, h => by
    unfold chkE at h
    split at h
    · simp only [Bool.and_eq_true] at h
      obtain ⟨h1, h2, h3⟩ := h
      refine PE.imp (pe_ix (ix_D (nm := L.nm) (by have := c.hu; omega)) (eOk a c h2) (eOk i c h3) (noSlice_ok h1)) fun σ H Q ⟨W, env, st, hs, he, q⟩ => ?_
      rw [ev] at q
      refine (Tr.bind hs he q).mono fun x H1 ⟨W1, d1, st1, e1, hs1, he1, r1, q1⟩ => ?_
      refine (Tr.bind hs1 he1 q1).mono fun y H2 ⟨W2, d2, st2, e2, hs2, he2, r2, q2⟩ => ?_
      obtain ⟨d, ed, q3⟩ := q2.of
      exact ⟨W2, d1, d2, st2, d, hs2, r1.ext e2, r2, ed, fun v rv => q3.val hs2 rv⟩
    · cases h
  | .sl m a lo hi, sc, XQ, X, x, c, h => by
    unfold chkE at h
    split at h
    · simp only [Bool.and_eq_true] at h
      obtain ⟨h1, h2, h3⟩ := h
      refine PE.imp (pe_slice (SlR.exi fun XQ' => sl_D (nm := L.nm) (XQ := XQ') (mm := m)) (eOk a c h1) (oOk lo c h2) (oOk hi c h3)) fun σ H Q ⟨W, env, st, hs, he, q⟩ => ?_
      rw [ev] at q
      refine (Tr.bind hs he q).mono fun x H1 ⟨W1, d1, st1, e1, hs1, he1, r1, q1⟩ => ?_
      refine (Tr.bind (rep := fun _ _ a b => a = b) hs1 he1 q1).mono fun l H2 ⟨W2, d2, st2, e2, hs2, he2, r2, q2⟩ => ?_
      subst r2
      refine (Tr.bind (rep := fun _ _ a b => a = b) hs2 he2 q2).mono fun u H3 ⟨W3, d3, st3, e3, hs3, he3, r3, q3⟩ => ?_
      subst r3
      exact ⟨XQ σ, W3, d1, st3, hs3, (r1.ext e2).ext e3, q3⟩
    · cases h
  | .call f es, sc, XQ, X, x, c, h => by
    unfold chkE at h
    split at h
    · rename_i n p ys cp
      simp only [Bool.and_eq_true] at h
      obtain ⟨h1, h2, h3, h4⟩ := h
      obtain ⟨n1, n2⟩ := okName_ok h2
      obtain ⟨g1, g2⟩ := c.fx.call f n _ h3
      obtain ⟨l1, l2⟩ := chkEs_len h4
      refine ⟨fun pins s σ H Q I ⟨W, env, st, hs, he, q⟩ => ?_⟩
      rw [ev] at q
      refine wpAny_Call_Name_kw (ld_glob I (c.gl h1) g1 ?_ n1)
      have ih := esOk es c h4
      cases ys with
      | nil =>
        cases es with
        | cons e es => cases h4
        | nil =>
          rw [evs] at q
          exact PySem.W.callWith_K0 I.kIn g2.kp (call_run c g2 I .nil hs .nil rfl q)
      | cons y ys =>
        rw [List.all_cons, Bool.and_eq_true] at l2
        refine PySem.W.callWith_K (h₀ := X.base) I.ok.mod.kin g2.kp (thn (ih.run cp pins s σ H _ I (Tr.bind (rep := fun W H ds vs => Reps X.K W H ds vs ∧ ds.length = es.len) hs he q)) fun us s1 ⟨vs, H1, I1, r, W1, ds, st1, e1, hs1, he1, ⟨r1, l3⟩, q1⟩ => ⟨I1.kIn, ?_⟩) (star_cons l2.1) (star_any l2.2)
        exact call_run c g2 I1 r hs1 r1 (l3.trans l1) q1
    · cases h
  | .meth _ _ _ _, sc, XQ, X, x, c, h => by cases h
  | .make _ _ _, sc, XQ, X, x, c, h => by cases h
  | .fld _ _ _, sc, XQ, X, x, c, h => by cases h
  | .bi f m es, sc, XQ, X, x, c, h => by
    unfold chkE at h
    split at h
    · rename_i n p y ys cp
      simp only [Bool.and_eq_true] at h
      obtain ⟨h1, h2, h3, h4⟩ := h
      have e := dec h1
      subst e
      obtain ⟨g1, g2⟩ := c.fr h3
      obtain ⟨l1, l2⟩ := chkEs_len h4
      rw [List.all_cons, Bool.and_eq_true] at l2
      have rd : ∀ σ H Q, tE L C X XQ (.bi f m es) σ H Q → tCB (fun xs H Q => ∃ XQ, rBI X.K L.nm XQ f m xs H Q) (tEs L C X XQ es) σ H Q := fun σ H Q ⟨W, env, st, hs, he, q⟩ => by
        rw [ev] at q
        exact (Tr.bind (rep := fun W H ds vs => Reps X.K W H ds vs ∧ ds.length = es.len) hs he q).mono fun vs H1 ⟨W1, ds, st1, e1, hs1, he1, ⟨r1, l1⟩, q1⟩ => ⟨XQ σ, W1, ds, st1, hs1, r1, q1⟩
      rcases bi_all_ok (L := L) (X := X) f h2 m c.calm c.hu with ⟨id, b1, b2⟩ | ⟨T, b1, b2⟩
      · exact PE.imp (pe_callB b2 g1 g2 b1 (esOk es c h4) (bi_name f).1 (bi_name f).2 (star_cons l2.1) (star_any l2.2)) rd
      · exact PE.imp (pe_callTy b2 g1 g2 b1 (esOk es c h4) (bi_name f).1 (bi_name f).2 (star_cons l2.1) (star_any l2.2)) rd
    · cases h
  | .isi t e, sc, XQ, X, x, c, h => by
    unfold chkE at h
    split at h
    · rename_i n p y tn tp cp
      simp only [Bool.and_eq_true] at h
      obtain ⟨h1, h2, h3, h4, h5, h6⟩ := h
      have e1 := dec h1
      subst e1
      obtain ⟨g1, g2⟩ := c.fr h2
      obtain ⟨g3, g4⟩ := c.fr h4
      obtain ⟨s0, ht, hn⟩ := Option.map_eq_some_iff.mp (dec h3)
      obtain ⟨b1, b2, b3⟩ := ty_boot ht hn
      refine PE.imp (pe_callB (bi_isi (X := X) (nm := L.nm) (sb := L.sub) ht) g1 g2 PyProof.Rows.boot_isinstance (pa_cons (eOk e c h6) (pa_cons (pe_bltn (v := .ty s0) g3 g4 b1 rfl b2 b3) pa_nil) (star_cons h5)) (by decide) (by decide) (star_cons h5) rfl) fun σ H Q ⟨W, env, st, hs, he, q⟩ => ?_
      rw [ev] at q
      exact (Tr.bind hs he q).mono fun x H1 ⟨W1, d1, st1, e1, hs1, he1, r1, q1⟩ => ⟨x, rfl, W1, d1, st1, XQ σ, hs1, r1, q1⟩
    · cases h
  | .sortk m e, sc, XQ, X, x, c, h => by
    unfold chkE at h
    split at h
    · rename_i n p y kk ap kp cp
      simp only [Bool.and_eq_true] at h
      obtain ⟨h1, h2, h3, h4, h5, h6⟩ := h
      have e1 := dec h1
      subst e1
      have e3 := dec h3
      subst e3
      obtain ⟨g1, g2⟩ := c.fr h2
      have pk : PE X (.Call (.Attribute y "keys" ap) [] [] kp) (tBM0 X.K "dict" rKeys (tE L C X XQ e)) :=
        pe_bm0 F.plainAttrs_dict F.slot_dict_keys F.type_dict_keys mt_keysO (eOk e c h6) (okBase_ok h4) h5
      refine ⟨fun pins s σ H Q I ⟨W, env, st, hs, he, q⟩ => ?_⟩
      rw [ev] at q
      refine wpAny_Call_Name_kw (ld_blt I g1 g2 PyProof.Rows.boot_sorted ?_ (by decide) (by decide))
      refine PyProof.Rows.callWith_builtin1 (thn ((pa_cons pk pa_nil).run cp pins s σ H (fun vs H2 => ∃ W1 d1 st1 H1 a p0 ks, StRep X.K L.nm W1 H1 st1 ∧ Rep X.K W1 H1 d1 (.ref a) ∧ keysOf st1 d1 = some ks ∧ canSort ks = true ∧ H1 p0 = none ∧ H2 = upd H1 p0 (keysO p0 a) ∧ vs = [.ref p0] ∧ Post X.K L.nm W1 H1 (mk m (sortD ks) st1) (Rep X.K) Q (XQ σ)) I ?_) fun us s1 ⟨vs, H2, I2, r2, W1, d1, st1, H1, a, p0, ks, hs1, r1, ek, cs, hp, eH, ev_, q1⟩ => ?_) rfl rfl
      · refine (Tr.bind hs he q).mono fun x H1 ⟨W1, d1, st1, e1, hs1, he1, r1, q1⟩ => ?_
        unfold sortkD at q1
        cases ek : keysOf st1 d1 with
        | none => rw [ek] at q1; exact q1.elim
        | some ks =>
          rw [ek] at q1
          by_cases cs : canSort ks = true
          · simp only [cs, if_true] at q1
            obtain ⟨a, rfl, hd⟩ := keysOf_len hs1 r1 ek
            have hd' : (∃ kws, H1 a = some (.dK kws)) ∨ ∃ kws, H1 a = some (.dT kws) := hd.imp (fun ⟨x, y, _⟩ => ⟨x, y⟩) fun ⟨x, y, _⟩ => ⟨x, y⟩
            exact ⟨.inr (.inr (.inl ⟨rfl, hd'⟩)), a, rfl, rfl, hd', fun p hp => ⟨W1, d1, st1, H1, a, p, ks, hs1, r1, ek, cs, hp, rfl, rfl, q1⟩⟩
          · simp only [cs] at q1
            exact q1.elim
      · subst eH ev_
        obtain ⟨u, rfl, ru⟩ := vals1 r2
        obtain rfl : u = Value.ref p0 := ru
        have f := Ext.fresh (W := W1) (o := keysO p0 a) hp
        refine sorted_keys c.calm (by have := c.hu; omega) I2 (hs1.fresh hp) (r1.ext f) ek upd_same cs fun vs rv => ?_
        have q2 := (q1.ext f).mk (hs1.fresh hp) (sort_rep rv)
        refine ⟨?_, q2.2⟩
        have := q2.1
        rw [List.length_map, List.length_mergeSort, List.length_zip, rv.length] at this
        omega
    · cases h
  | .bm f m o es, sc, XQ, X, x, c, h => by
    unfold chkE at h
    split at h
    · rename_i y kk ap ys cp
      simp only [Bool.and_eq_true] at h
      obtain ⟨h1, h2, h3, h4, h5, h6, h7⟩ := h
      have e1 := dec h1
      subst e1
      obtain ⟨l1, l2⟩ := chkEs_len h7
      obtain ⟨id, mt, mr⟩ := bm_all_ok (L := L) (X := X) f h2 m c.hu
      have io := eOk o c h6
      have ih := esOk es c h7
      cases ys with
      | nil =>
        cases es with
        | cons e es => cases h7
        | nil =>
          refine PE.imp (pe_bm0 mt.pa mt.slot mt.ty mr io (okBase_ok h3) h4) fun σ H Q ⟨W, env, st, hs, he, q⟩ => ?_
          rw [ev] at q
          refine (Tr.bind hs he q).mono fun x H1 ⟨W1, d1, st1, e1, hs1, he1, r1, q1⟩ => ?_
          by_cases hr : recvD f.rc st1 d1 = true
          · rw [if_pos hr] at q1
            rw [evs] at q1
            exact ⟨recv_ty hs1 r1 hr, XQ σ, W1, d1, [], st1, hs1, r1, .nil, q1⟩
          · rw [if_neg hr] at q1
            exact q1.elim
      | cons z ys =>
        have l2' := l2
        rw [List.all_cons, Bool.and_eq_true] at l2
        refine PE.imp (pe_bm mt.pa mt.slot mt.ty mr io ih (okBase_ok h3) (star_few l2' (dec h5)) h4 (star_cons l2.1) (star_any l2.2)) fun σ H Q ⟨W, env, st, hs, he, q⟩ => ?_
        rw [ev] at q
        refine (Tr.bind hs he q).mono fun x H1 ⟨W1, d1, st1, e1, hs1, he1, r1, q1⟩ => ?_
        by_cases hr : recvD f.rc st1 d1 = true
        · rw [if_pos hr] at q1
          refine ⟨recv_ty hs1 r1 hr, ?_⟩
          exact (Tr.bind (rep := fun W H ds vs => Reps X.K W H ds vs ∧ ds.length = es.len) hs1 he1 q1).mono fun vs H2 ⟨W2, ds, st2, e2, hs2, he2, ⟨r2, _⟩, q2⟩ => ⟨XQ σ, W2, d1, ds, st2, hs2, r1.ext e2, r2, q2⟩
        · rw [if_neg hr] at q1
          exact q1.elim
    · cases h
  | .lc m own tg it t e, sc, XQ, X, x, c, h => by
    unfold chkE at h
    split at h
    · rename_i elt tgx iter ifs scope lp
      simp only [Bool.and_eq_true] at h
      obtain ⟨h1, h2, h3, h4, h5, h6, h7, h8⟩ := h
      refine PE.imp (pe_lc (own := ownN N own) (g := gD X.K tg) (tt := tOB L C X (fun _ _ _ => False) t) (te := tE L C X (fun _ _ _ => False) e) c.calm (by rw [c.nn]; exact c.nd) (iOk it c tgx h6) (by rw [c.nn, c.scp]; exact blkOk_by h2)
        (fun s H D cl fp => lc_tg c h5) (fun s H D cl fp => obOk t (c.blk s H scope cl D fp) h7) (fun s H D cl fp => eOk e (c.blk s H scope cl D fp) h8) (noSet_ok h1)) fun σ H Q ⟨W, env, st, hs, he, q⟩ => ?_
      rw [dec h3]
      exact lc_read h4 hs he q
    · cases h
theorem oOk : ∀ (o : OE) {sc : Scope} {XQ : L2.St → Nat → Hp → Prop} {X : Cx} {x : Option Expr}, Cxt L C k N sc XQ X → chkO L N o sc x = true → PO X x (tO L C X XQ o)
  | .no, sc, XQ, X, x, c, h => by
    unfold chkO at h
    split at h
    · refine PO.imp po_none fun σ H Q ⟨W, env, st, hs, he, q⟩ => ?_
      rw [evO] at q
      exact q W H none Ext.refl hs rfl
    · cases h
  | .so e, sc, XQ, X, x, c, h => by
    unfold chkO at h
    split at h
    · refine PO.imp (po_some (eOk e c h)) fun σ H Q ⟨W, env, st, hs, he, q⟩ => ?_
      rw [evO] at q
      refine (Tr.bind hs he q).mono fun x H1 ⟨W1, d1, st1, e1, hs1, he1, r1, q1⟩ => ?_
      split at q1
      · exact ⟨_, rep_int r1, q1 W1 H1 _ Ext.refl hs1 rfl⟩
      · exact q1.elim
    · cases h
theorem obOk : ∀ (t : OB) {sc : Scope} {XQ : L2.St → Nat → Hp → Prop} {X : Cx} {x : List Expr}, Cxt L C k N sc XQ X → chkOB L N t sc x = true → PTs X x (tOB L C X XQ t)
  | .yes, sc, XQ, X, x, c, h => by
    unfold chkOB at h
    split at h
    · exact ⟨fun pins s σ H Q I ⟨W, env, st, hs, he, q⟩ => pts_nil.run pins s σ H Q I (q W H true Ext.refl hs rfl)⟩
    · cases h
  | .so t, sc, XQ, X, x, c, h => by
    unfold chkOB at h
    split at h
    · exact pts_one ((bOk t c h).2.2 _ rfl).1
    · cases h
theorem esOk : ∀ (es : Es) {sc : Scope} {XQ : L2.St → Nat → Hp → Prop} {X : Cx} {x : List Expr}, Cxt L C k N sc XQ X → chkEs L N es sc x = true → PA X x (tEs L C X XQ es)
  | .nil, sc, XQ, X, x, c, h => by
    unfold chkEs at h
    split at h
    · refine PA.imp pa_nil fun σ H Q ⟨W, env, st, hs, he, q⟩ => ?_
      rw [evs] at q
      exact q W H [] Ext.refl hs ⟨.nil, rfl⟩
    · cases h
  | .cons e es, sc, XQ, X, x, c, h => by
    unfold chkEs at h
    split at h
    · simp only [Bool.and_eq_true] at h
      obtain ⟨h1, h2, h3⟩ := h
      refine PA.imp (pa_cons (eOk e c h2) (esOk es c h3) (star_cons h1)) fun σ H Q ⟨W, env, st, hs, he, q⟩ => ?_
      rw [evs] at q
      refine (Tr.bind hs he q).mono fun x H1 ⟨W1, d1, st1, e1, hs1, he1, r1, q1⟩ => ?_
      refine (Tr.bind (rep := fun W H ds vs => Reps X.K W H ds vs ∧ ds.length = es.len) hs1 he1 q1).mono fun vs H2 ⟨W2, ds, st2, e2, hs2, he2, ⟨r2, l2⟩, q2⟩ => ?_
      exact q2 W2 H2 _ Ext.refl hs2 ⟨.cons (r1.ext e2) r2, congrArg Nat.succ l2⟩
    · cases h
theorem bOk : ∀ (t : B) {sc : Scope} {XQ : L2.St → Nat → Hp → Prop} {X : Cx} {o : BoolOp} {x : List Expr}, Cxt L C k N sc XQ X → chkB L N t sc o x = true → Trip X o x (tB1 L C X XQ t) (tB2 L C X XQ t)
  | .cmp op a b, sc, XQ, X, o, x, c, h => by
    unfold chkB at h
    split at h
    · simp only [Bool.and_eq_true] at h
      obtain ⟨h1, h2, h3, h4⟩ := h
      have e := dec h1
      subst e
      have rd : ∀ σ H Q, tB2 L C X XQ (.cmp op a b) σ H Q → tOp (r2B X.K L.nm (cmpD op)) (tE L C X XQ a) (tE L C X XQ b) σ H Q := fun σ H Q ⟨W, env, st, hs, he, q⟩ => by
        rw [evB] at q
        refine (Tr.bind hs he q).mono fun x H1 ⟨W1, d1, st1, e1, hs1, he1, r1, q1⟩ => ?_
        refine (Tr.bind hs1 he1 q1).mono fun y H2 ⟨W2, d2, st2, e2, hs2, he2, r2, q2⟩ => ?_
        obtain ⟨b0, eb, q3⟩ := q2.of
        exact ⟨W2, d1, d2, st2, b0, hs2, r1.ext e2, r2, eb, q3 W2 H2 _ Ext.refl hs2 rfl⟩
      exact trip_one (PT.imp (pt_cmpR (op_cmpD c.hu op) (eOk a c h3) (eOk b c h4) (noSet_in h2)) fun σ H Q q => rd _ _ _ (b12 q)) (PE.imp (pe_cmpR (op_cmpD c.hu op) (eOk a c h3) (eOk b c h4) (noSet_in h2)) rd)
    · cases h
  | .chain op op' a b d, sc, XQ, X, o, x, c, h => by
    unfold chkB at h
    split at h
    · simp only [Bool.and_eq_true] at h
      obtain ⟨h1, h1', h2, h3, h4, h5⟩ := h
      have e := dec h1
      subst e
      have e := dec h1'
      subst e
      have rd : ∀ σ H Q, tB2 L C X XQ (.chain op op' a b d) σ H Q → tChain (r2B X.K L.nm (cmpD op)) (r2B X.K L.nm (cmpD op')) (tE L C X XQ a) (tE L C X XQ b) (tE L C X XQ d) σ H Q := fun σ H Q ⟨W, env, st, hs, he, q⟩ => by
        rw [evB] at q
        refine (Tr.bind hs he q).mono fun x H1 ⟨W1, d1, st1, e1, hs1, he1, r1, q1⟩ => ?_
        refine (Tr.bind hs1 he1 q1).mono fun y H2 ⟨W2, d2, st2, e2, hs2, he2, r2, q2⟩ => ?_
        cases ec : cmpD op st2 d1 d2 with
        | none => rw [ec] at q2; exact q2.elim
        | some b0 =>
          rw [ec] at q2
          refine ⟨W2, d1, d2, st2, b0, hs2, r1.ext e2, r2, ec, b0, rfl, ?_⟩
          cases b0 with
          | false => exact q2 W2 H2 _ Ext.refl hs2 rfl
          | true =>
            simp only [if_true]
            refine (Tr.bind hs2 he2 q2).mono fun z H3 ⟨W3, d3, st3, e3, hs3, he3, r3, q3⟩ => ?_
            obtain ⟨b1, eb, q4⟩ := q3.of
            exact ⟨W3, d2, d3, st3, b1, hs3, r2.ext e3, r3, eb, q4 W3 H3 _ Ext.refl hs3 rfl⟩
      exact trip_one (PT.imp (pt_chain (op_cmpD c.hu op) (op_cmpD c.hu op') (eOk a c h3) (eOk b c h4) (eOk d c h5) (noSet_last h2)) fun σ H Q q => rd _ _ _ (b12 q)) (PE.imp (pe_chain (op_cmpD c.hu op) (op_cmpD c.hu op') (eOk a c h3) (eOk b c h4) (eOk d c h5) (noSet_last h2)) rd)
    · cases h
  | .isN neg a, sc, XQ, X, o, x, c, h => by
    unfold chkB at h
    split at h
    · simp only [Bool.and_eq_true] at h
      obtain ⟨h1, h2⟩ := h
      have e := dec h1
      subst e
      cases neg with
      | false =>
        have rd : ∀ σ H Q, tB2 L C X XQ (.isN false a) σ H Q → tIsN (tE L C X XQ a) σ H Q := fun σ H Q ⟨W, env, st, hs, he, q⟩ => by
          rw [evB] at q
          refine (Tr.bind hs he q).mono fun x H1 ⟨W1, d1, st1, e1, hs1, he1, r1, q1⟩ => ?_
          refine q1 W1 H1 _ Ext.refl hs1 ?_
          cases r1 <;> rfl
        exact trip_one (PT.imp (pt_cmp (pc_isN (eOk a c h2))) fun σ H Q q => rd _ _ _ (b12 q)) (PE.imp (pe_cmp (pc_isN (eOk a c h2))) rd)
      | true =>
        have rd : ∀ σ H Q, tB2 L C X XQ (.isN true a) σ H Q → tNotN (tE L C X XQ a) σ H Q := fun σ H Q ⟨W, env, st, hs, he, q⟩ => by
          rw [evB] at q
          refine (Tr.bind hs he q).mono fun x H1 ⟨W1, d1, st1, e1, hs1, he1, r1, q1⟩ => ?_
          refine q1 W1 H1 _ Ext.refl hs1 ?_
          cases r1 <;> rfl
        exact trip_one (PT.imp (pt_cmp (pc_notN (eOk a c h2))) fun σ H Q q => rd _ _ _ (b12 q)) (PE.imp (pe_cmp (pc_notN (eOk a c h2))) rd)
    · cases h
  | .and a b, sc, XQ, X, o, x, c, h => by
    have r1 : ∀ σ H Q, tB1 L C X XQ (.and a b) σ H Q → tAnd (tB1 L C X XQ a) (tB1 L C X XQ b) σ H Q := fun σ H Q ⟨W, env, st, hs, he, q⟩ => by
      rw [evB] at q
      refine (Tr.bind (rep := fun _ _ b c => b = c) hs he q).mono fun x H1 ⟨W1, d1, st1, e1, hs1, he1, r1, q1⟩ => ?_
      subst r1
      cases d1 with
      | true => exact ⟨W1, env, st1, hs1, he1, q1⟩
      | false => exact q1 W1 H1 _ Ext.refl hs1 rfl
    have r2 : ∀ σ H Q, tB2 L C X XQ (.and a b) σ H Q → tAndV (tB2 L C X XQ a) (tB2 L C X XQ b) σ H Q := fun σ H Q ⟨W, env, st, hs, he, q⟩ => by
      rw [evB] at q
      refine (Tr.bind (rep := fun _ _ b v => v = V.bl b) hs he q).mono fun x H1 ⟨W1, d1, st1, e1, hs1, he1, r1, q1⟩ => ?_
      subst r1
      refine ⟨d1, rfl, ?_⟩
      cases d1 with
      | true => exact ⟨W1, env, st1, hs1, he1, q1⟩
      | false => exact q1 W1 H1 _ Ext.refl hs1 rfl
    unfold chkB at h
    split at h
    · simp only [Bool.and_eq_true] at h
      obtain ⟨h1, h2⟩ := h
      have ia := (bOk a c h1).2.2 _ rfl
      have ib := bOk b c h2
      exact trip_one (PW.pt (PW.imp (pw_and ia.1 (ib.1 _)) r1)) (PE.imp (pe_and ia.2 (ib.2.1 _)) r2)
    · simp only [Bool.and_eq_true] at h
      obtain ⟨h0, h1, h2⟩ := h
      have e := dec h0
      subst e
      have ia := (bOk a c h1).2.2 _ rfl
      have ib := bOk b c h2
      exact ⟨fun pos => PW.imp (pw_and ia.1 (ib.1 pos)) r1, fun pos => PE.imp (pe_and ia.2 (ib.2.1 pos)) r2, fun y e => by cases e⟩
    · cases h
  | .or a b, sc, XQ, X, o, x, c, h => by
    have r1 : ∀ σ H Q, tB1 L C X XQ (.or a b) σ H Q → tOr (tB1 L C X XQ a) (tB1 L C X XQ b) σ H Q := fun σ H Q ⟨W, env, st, hs, he, q⟩ => by
      rw [evB] at q
      refine (Tr.bind (rep := fun _ _ b c => b = c) hs he q).mono fun x H1 ⟨W1, d1, st1, e1, hs1, he1, r1, q1⟩ => ?_
      subst r1
      cases d1 with
      | true => exact q1 W1 H1 _ Ext.refl hs1 rfl
      | false => exact ⟨W1, env, st1, hs1, he1, q1⟩
    have r2 : ∀ σ H Q, tB2 L C X XQ (.or a b) σ H Q → tOrV (tB2 L C X XQ a) (tB2 L C X XQ b) σ H Q := fun σ H Q ⟨W, env, st, hs, he, q⟩ => by
      rw [evB] at q
      refine (Tr.bind (rep := fun _ _ b v => v = V.bl b) hs he q).mono fun x H1 ⟨W1, d1, st1, e1, hs1, he1, r1, q1⟩ => ?_
      subst r1
      refine ⟨d1, rfl, ?_⟩
      cases d1 with
      | true => exact q1 W1 H1 _ Ext.refl hs1 rfl
      | false => exact ⟨W1, env, st1, hs1, he1, q1⟩
    unfold chkB at h
    split at h
    · simp only [Bool.and_eq_true] at h
      obtain ⟨h1, h2⟩ := h
      have ia := (bOk a c h1).2.2 _ rfl
      have ib := bOk b c h2
      exact trip_one (PW.pt (PW.imp (pw_or ia.1 (ib.1 _)) r1)) (PE.imp (pe_or ia.2 (ib.2.1 _)) r2)
    · simp only [Bool.and_eq_true] at h
      obtain ⟨h0, h1, h2⟩ := h
      have e := dec h0
      subst e
      have ia := (bOk a c h1).2.2 _ rfl
      have ib := bOk b c h2
      exact ⟨fun pos => PW.imp (pw_or ia.1 (ib.1 pos)) r1, fun pos => PE.imp (pe_or ia.2 (ib.2.1 pos)) r2, fun y e => by cases e⟩
    · cases h
  | .not a, sc, XQ, X, o, x, c, h => by
    unfold chkB at h
    split at h
    · have ia := (bOk a c h).2.2 _ rfl
      refine trip_one (PT.imp (pt_not ia.1) fun σ H Q ⟨W, env, st, hs, he, q⟩ => ?_) (PE.imp (pe_not ia.2) fun σ H Q ⟨W, env, st, hs, he, q⟩ => ?_)
      · rw [evB] at q
        refine (Tr.bind (rep := fun _ _ b c => b = c) hs he q).mono fun x H1 ⟨W1, d1, st1, e1, hs1, he1, r1, q1⟩ => ?_
        subst r1
        exact q1 W1 H1 _ Ext.refl hs1 rfl
      · rw [evB] at q
        refine (Tr.bind (rep := fun _ _ b v => v = V.bl b) hs he q).mono fun x H1 ⟨W1, d1, st1, e1, hs1, he1, r1, q1⟩ => ?_
        subst r1
        exact ⟨d1, rfl, q1 W1 H1 _ Ext.refl hs1 rfl⟩
    · cases h
  | .val e, sc, XQ, X, o, x, c, h => by
    unfold chkB at h
    split at h
    · simp only [Bool.and_eq_true] at h
      obtain ⟨h1, h2⟩ := h
      have rd : ∀ σ H Q, tB2 L C X XQ (.val e) σ H Q → tE L C X XQ e σ H Q := fun σ H Q ⟨W, env, st, hs, he, q⟩ => by
        rw [evB] at q
        refine (Tr.bind hs he q).mono fun x H1 ⟨W1, d1, st1, e1, hs1, he1, r1, q1⟩ => ?_
        split at q1
        · rw [rep_bl r1]
          exact q1 W1 H1 _ Ext.refl hs1 rfl
        · exact q1.elim
      exact trip_one (PT.imp (pt_val (eOk e c h2) (plainT_ok h1)) fun σ H Q q => rd _ _ _ (b12 q)) (PE.imp (eOk e c h2) rd)
    · cases h
theorem iOk : ∀ (it : It) {sc : Scope} {XQ : L2.St → Nat → Hp → Prop} {X : Cx} {x : Expr}, Cxt L C k N sc XQ X → ∀ tgx : Expr, chkI L N it sc (isTupE tgx) x = true → PI X tgx x (tI L C X XQ it)
  | .of e, sc, XQ, X, x, c, tgx, h => by
    unfold chkI at h
    have ie := eOk e c h
    refine PI.imp (PI.or (pi_list ie) (PI.or (pi_tup ie) (pi_str ie))) fun σ H R ⟨W, env, st, hs, he, q⟩ => ?_
    rw [evI] at q
    cases ee : ev ⟨L.sub, C⟩ e env st with
    | bad => rw [ee] at q; exact q.elim
    | ex x' s' =>
      rw [ee] at q
      refine .inl ⟨W, env, st, hs, he, ?_⟩
      rw [ee]
      exact q
    | ok d st1 =>
      rw [ee] at q
      simp only [Ev.R.bind_ok] at q
      cases ew : walkOf st1 d with
      | none => rw [ew] at q; exact q.elim
      | some wk =>
        rw [ew] at q
        have q : ∀ W' H' J, Ext W H W' H' → StRep X.K L.nm W' H' st1 → IsWalk X.K L.nm W' H' wk J → R J H' := q
        cases hl : lkD d with
        | some b =>
          cases b with
          | true =>
            refine .inl ⟨W, env, st, hs, he, ?_⟩
            rw [ee]
            intro W' H' v e1 hs1 r1
            obtain ⟨a, rfl, sy⟩ := walk_seq r1 ew hl
            simp only [if_true] at sy
            obtain ⟨vs, v1, _⟩ := sy W' H' st1 Mo.refl hs1 (walk_now ew)
            exact ⟨a, rfl, ⟨vs, v1⟩, q W' H' _ e1 hs1 (walk_Itl sy)⟩
          | false =>
            refine .inr (.inl ⟨W, env, st, hs, he, ?_⟩)
            rw [ee]
            intro W' H' v e1 hs1 r1
            obtain ⟨a, rfl, sy⟩ := walk_seq r1 ew hl
            simp only [Bool.false_eq_true, if_false] at sy
            obtain ⟨vs, v1, _⟩ := sy W' H' st1 Mo.refl hs1 (walk_now ew)
            exact ⟨a, rfl, ⟨vs, v1⟩, q W' H' _ e1 hs1 (walk_Itt sy)⟩
        | none =>
          refine .inr (.inr ⟨W, env, st, hs, he, ?_⟩)
          rw [ee]
          intro W' H' v e1 hs1 r1
          cases d <;> first | (cases hl; done) | (cases ew; done) | skip
          cases ew
          obtain rfl := rep_str r1
          exact ⟨_, rfl, q W' H' _ e1 hs1 walk_Its⟩
  | .rng a, sc, XQ, X, x, c, tgx, h => by
    unfold chkI at h
    split at h
    · simp only [Bool.and_eq_true] at h
      obtain ⟨h1, h2, h3, h4⟩ := h
      have e := dec h1
      subst e
      obtain ⟨g1, g2⟩ := c.fr h2
      refine PI.imp (pi_range1 g1 g2 (pa_cons (eOk a c h4) pa_nil (star_cons h3)) (star_cons h3)) fun σ H R ⟨W, env, st, hs, he, q⟩ => ?_
      rw [evI] at q
      refine (Tr.bind hs he q).mono fun x H1 ⟨W1, d1, st1, e1, hs1, he1, r1, q1⟩ => ?_
      split at q1
      · rename_i i
        split at q1
        · rename_i hi
          have hi := dec hi
          obtain rfl := rep_int r1
          refine ⟨i, rfl, by omega, by omega, ?_⟩
          have := q1 W1 H1 (Itr 0 (i - 0).toNat) Ext.refl hs1 walk_Itr
          simpa using this
        · exact q1.elim
      · exact q1.elim
    · cases h
  | .rng2 a b, sc, XQ, X, x, c, tgx, h => by
    unfold chkI at h
    split at h
    · simp only [Bool.and_eq_true] at h
      obtain ⟨h1, h2, h3, h4, h5, h6⟩ := h
      have e := dec h1
      subst e
      obtain ⟨g1, g2⟩ := c.fr h2
      refine PI.imp (pi_range2 g1 g2 (pa_cons (eOk a c h5) (pa_cons (eOk b c h6) pa_nil (star_cons h4)) (star_cons h3)) (by rw [star_cons h3, star_cons h4] <;> rfl) (star_cons h4)) fun σ H R ⟨W, env, st, hs, he, q⟩ => ?_
      rw [evI] at q
      refine (Tr.bind hs he q).mono fun x H1 ⟨W1, d1, st1, e1, hs1, he1, r1, q1⟩ => ?_
      refine (Tr.bind hs1 he1 q1).mono fun y H2 ⟨W2, d2, st2, e2, hs2, he2, r2, q2⟩ => ?_
      split at q2
      · rename_i i j _
        split at q2
        · rename_i hi
          obtain ⟨i1, i2⟩ := band hi
          have i1 := dec i1
          have i2 := dec i2
          obtain rfl := rep_int r1
          obtain rfl := rep_int r2
          exact ⟨i, j, rfl, ⟨by omega, by omega, by omega, by omega⟩, q2 W2 H2 _ Ext.refl hs2 walk_Itr⟩
        · exact q2.elim
      · exact q2.elim
    · cases h
  | .zip a b, sc, XQ, X, x, c, tgx, h => by
    unfold chkI at h
    split at h
    · simp only [Bool.and_eq_true] at h
      obtain ⟨h0, h1, h2, h3, h4, h5, h6⟩ := h
      have e := dec h1
      subst e
      obtain ⟨g1, g2⟩ := c.fr h2
      cases tgx <;> first | (cases h0; done) | skip
      refine PI.imp (RZ.pi_zipA g1 g2 (pa_cons (eOk a c h5) (pa_cons (eOk b c h6) pa_nil (star_cons h4)) (star_cons h3)) (star_cons h3) (by rw [star_cons h4] <;> rfl)) fun σ H R ⟨W, env, st, hs, he, q⟩ => ?_
      rw [evI] at q
      refine (Tr.bind hs he q).mono fun x H1 ⟨W1, d1, st1, e1, hs1, he1, r1, q1⟩ => ?_
      refine (Tr.bind hs1 he1 q1).mono fun y H2 ⟨W2, d2, st2, e2, hs2, he2, r2, q2⟩ => ?_
      split at q2
      · rename_i p p' ep ep'
        split at q2
        · rename_i hk
          obtain ⟨k1, k2⟩ := hk
          cases hl : lkD d1 with
          | none => exact absurd hl k2
          | some b0 =>
            obtain ⟨x1, rfl, s1⟩ := walk_seq (r1.ext e2) ep hl
            obtain ⟨x2, rfl, s2⟩ := walk_seq r2 ep' (k1.symm.trans hl)
            obtain ⟨us, u1, _⟩ := s1 W2 H2 st2 Mo.refl hs2 (walk_now ep)
            obtain ⟨vs, v1, _⟩ := s2 W2 H2 st2 Mo.refl hs2 (walk_now ep')
            cases b0 with
            | true =>
              simp only [if_true] at s1 s2 u1 v1
              exact ⟨x1, x2, us, vs, rfl, .inl ⟨u1, v1, q2 W2 H2 _ Ext.refl hs2 (walk_Itz s1 s2)⟩⟩
            | false =>
              simp only [Bool.false_eq_true, if_false] at s1 s2 u1 v1
              exact ⟨x1, x2, us, vs, rfl, .inr ⟨u1, v1, q2 W2 H2 _ Ext.refl hs2 (walk_ItzT s1 s2)⟩⟩
        · exact q2.elim
      · exact q2.elim
    · cases h
  | .enum a, sc, XQ, X, x, c, tgx, h => by
    unfold chkI at h
    split at h
    · simp only [Bool.and_eq_true] at h
      obtain ⟨h0, h1, h2, h3, h4⟩ := h
      have e := dec h1
      subst e
      obtain ⟨g1, g2⟩ := c.fr h2
      cases tgx <;> first | (cases h0; done) | skip
      refine PI.imp (pi_enum g1 g2 (pa_cons (eOk a c h4) pa_nil (star_cons h3)) (star_cons h3)) fun σ H R ⟨W, env, st, hs, he, q⟩ => ?_
      rw [evI] at q
      refine (Tr.bind hs he q).mono fun x H1 ⟨W1, d1, st1, e1, hs1, he1, r1, q1⟩ => ?_
      split at q1
      · rename_i p ep
        split at q1
        · rename_i hl
          obtain ⟨x1, rfl, s1⟩ := walk_seq r1 ep hl
          simp only [if_true] at s1
          obtain ⟨us, u1, _⟩ := s1 W1 H1 st1 Mo.refl hs1 (walk_now ep)
          exact ⟨x1, us, rfl, u1, q1 W1 H1 _ Ext.refl hs1 (walk_Ite s1)⟩
        · exact q1.elim
      · exact q1.elim
    · cases h
  | .rev a, sc, XQ, X, x, c, tgx, h => by
    unfold chkI at h
    split at h
    · simp only [Bool.and_eq_true] at h
      obtain ⟨h1, h2, h3, h4⟩ := h
      have e := dec h1
      subst e
      obtain ⟨g1, g2⟩ := c.fr h2
      refine PI.imp (RT.pi_revA g1 g2 (eOk a c h4) (star_cons h3)) fun σ H R ⟨W, env, st, hs, he, q⟩ => ?_
      rw [evI] at q
      refine (Tr.bind hs he q).mono fun x H1 ⟨W1, d1, st1, e1, hs1, he1, r1, q1⟩ => ?_
      split at q1
      · rename_i p ep
        split at q1
        · rename_i hk
          cases hl : lkD d1 with
          | none => exact absurd hl hk
          | some b0 =>
            obtain ⟨x1, rfl, s1⟩ := walk_seq r1 ep hl
            obtain ⟨us, u1, u2⟩ := s1 W1 H1 st1 Mo.refl hs1 (walk_now ep)
            cases b0 with
            | true =>
              simp only [if_true] at s1 u1
              exact ⟨x1, us, rfl, .inl ⟨u1, q1 W1 H1 _ Ext.refl hs1 (walk_Itv s1 u2.length.symm)⟩⟩
            | false =>
              simp only [Bool.false_eq_true, if_false] at s1 u1
              exact ⟨x1, us, rfl, .inr ⟨u1, q1 W1 H1 _ Ext.refl hs1 (walk_ItvT s1 u2.length.symm)⟩⟩
        · exact q1.elim
      · exact q1.elim
    · cases h
end
end
end Ev
/-! Ev15: the soundness of statements. -/
namespace Ev
open PySem PySem.Spec PyProof.Rows L2
/-- what follows a statement, in every later world that bears it -/
def POut (K : PySem.W.Frag) (nm : Nm) (W : Wd) (H : Hp) (o : Out) (D : Ends) (XQ : L2.St → Nat → Hp → Prop) : Prop := match o with
  | .nx env st => ∀ W' H' σ', Ext W H W' H' → StRep K nm W' H' st → EnvRep K W' H' env σ' → D.nx σ' H'
  | .bk env st => ∀ W' H' σ', Ext W H W' H' → StRep K nm W' H' st → EnvRep K W' H' env σ' → D.bk σ' H'
  | .ct env st => ∀ W' H' σ', Ext W H W' H' → StRep K nm W' H' st → EnvRep K W' H' env σ' → D.ct σ' H'
  | .rt d st => ∀ W' H' v, Ext W H W' H' → StRep K nm W' H' st → Rep K W' H' d v → D.rt v H'
  | .ex x env st => ∀ W' H' σ', Ext W H W' H' → StRep K nm W' H' st → EnvRep K W' H' env σ' → XQ σ' x H'
  | .bad => False
structure Dxt (L : Lw) (C : Oracle) (k : Nat) (N : List Str) (sc : Scope) (XQ : L2.St → Nat → Hp → Prop) (X : Cx) : Prop where
  c : Cxt L C k N sc XQ X
  po : PassesOwn (model X.prog X.w) X.A X.env X.xe
  fn : ∀ n, X.fn n = true
  knd : sc.kind = .function
section
variable {K : PySem.W.Frag} {nm : Nm} {XQ : L2.St → Nat → Hp → Prop} {W W' : Wd} {H H' : Hp} {σ : L2.St} {env : Env} {st : St} {D : Ends}
theorem POut.ext {o : Out} (e : Ext W H W' H') (h : POut K nm W H o D XQ) : POut K nm W' H' o D XQ := by
  cases o with
  | nx env s => exact fun W2 H2 b f hs hr => h W2 H2 b (e.trans f) hs hr
  | bk env s => exact fun W2 H2 b f hs hr => h W2 H2 b (e.trans f) hs hr
  | ct env s => exact fun W2 H2 b f hs hr => h W2 H2 b (e.trans f) hs hr
  | rt d s => exact fun W2 H2 b f hs hr => h W2 H2 b (e.trans f) hs hr
  | ex x env s => exact fun W2 H2 b f hs hr => h W2 H2 b (e.trans f) hs hr
  | bad => exact h
/-- behind an evaluation -/
theorem POut.of {α β : Type} {run : Env → St → R α} {rep : Wd → Hp → α → β → Prop} {f : α → St → Out} (hs : StRep K nm W H st) (he : EnvRep K W H env σ) (h : POut K nm W H (Out.of (run env st) env f) D XQ) :
    Tr K nm XQ rep run σ H (fun b H1 => ∃ W1 a st1, Ext W H W1 H1 ∧ StRep K nm W1 H1 st1 ∧ EnvRep K W1 H1 env σ ∧ rep W1 H1 a b ∧ POut K nm W1 H1 (f a st1) D XQ) := by
  refine ⟨W, env, st, hs, he, ?_⟩
  cases e : run env st with
  | ok a s => rw [e] at h; exact fun W2 H2 b g hs2 r => ⟨W2, a, s, g, hs2, he.ext g, r, POut.ext g h⟩
  | ex x s => rw [e] at h; exact fun W2 H2 g hs2 => h W2 H2 σ g hs2 (he.ext g)
  | bad => rw [e] at h; exact h
theorem POut.nx {env' : Env} {σ' : L2.St} (h : POut K nm W H (.nx env' st) D XQ) (hs : StRep K nm W H st) (he : EnvRep K W H env' σ') : D.nx σ' H := h W H σ' Ext.refl hs he
theorem POut.seq {f : Env → St → Out} {o : Out} (h : POut K nm W H (o.seq f) D XQ) :
    POut K nm W H o { D with nx := fun σ' H' => ∃ W' env' st', StRep K nm W' H' st' ∧ EnvRep K W' H' env' σ' ∧ POut K nm W' H' (f env' st') D XQ } XQ := by
  cases o with
  | nx env s => exact fun W2 H2 b g hs hr => ⟨W2, env, s, hs, hr, POut.ext g h⟩
  | bk env s => exact h
  | ct env s => exact h
  | rt d s => exact h
  | ex x env s => exact h
  | bad => exact h
end
section
variable (L : Lw) (C : Oracle) (X : Cx) (XQ : L2.St → Nat → Hp → Prop)
def tS (s : S) : TS := fun D σ H => ∃ W env st, StRep X.K L.nm W H st ∧ EnvRep X.K W H env σ ∧ POut X.K L.nm W H (exec ⟨L.sub, C⟩ s env st) D XQ
def tSs (ss : Ss) : TS := fun D σ H => ∃ W env st, StRep X.K L.nm W H st ∧ EnvRep X.K W H env σ ∧ POut X.K L.nm W H (execs ⟨L.sub, C⟩ ss env st) D XQ
end
section
variable {L : Lw} {C : Oracle} {k : Nat} {N : List Str}
theorem pmk_own0 {X : Cx} {Cl : Addr} {bmB : List Value} {Bn newId initId : String} {x : Str} {p pos : Pos} (F : ExcBaseFacts Bn newId initId bmB) (q : PySem.W.excIn X.K Cl bmB newId = true) (gC : X.mg x = some (.ref Cl)) (kC : PySem.W.keepIn X.K (.ref Cl) = true) (r : Raises X (.ref Cl)) (hg : Gl X x)
    (hdb : (x == ("__debug__" : Str)) = false) : PMk X (.Call (.Name x p) [] [] pos) (fun _ H Q => Q (.ref Cl) none H) := by
  intro pins s σ H Q I h
  refine wpAny_Call_Name_kw (ld_glob I hg gC ?_ hdb)
  refine PySem.W.callWith_K0 I.kIn kC ?_
  obtain ⟨bm, N, nm, qn, bs, hdct, sn, sub, ab, col, dd, k0, k1, k2, k3, k5, mN, hC, hN, hni, T⟩ := exc_obj I.kIn q
  refine wpAny_call_exc_subT F T hC hN hni (fun h' e hm => ?_) (by show 0 ≤ sizeLine; omega)
  exact mk_of I hm r h (I.hok.gone hm.new)
theorem noTuple_ok {t e : Expr} {env : PySem.Env} (h : noTuple e = true) : swappedStores [t] e env = pure none := by
  cases e <;> first | (cases h; done) | (cases t <;> rfl)
theorem noComp_sole {t e : Expr} {l : Nat} {env : PySem.Env} (h : noComp e = true) : swapsWithSole [t] e l env = pure false := by
  show swapsWith e (some t) l env = pure false
  exact noComp_ok h
theorem Dxt.loc {sc : Scope} {XQ : L2.St → Nat → Hp → Prop} {X : Cx} (c : Dxt L C k N sc XQ X) : ∀ n, Loc sc n → Loc X.env.scope n ∧ (X.fn n = true ∨ X.env.scope.names.lookup n = some .local) := fun n h => ⟨by rw [c.c.scp]; exact h, .inl (c.fn n)⟩
/-- the body of a loop's turn -/
def turnB (L : Lw) (C : Oracle) (tg : Tg) (b : Ss) (d : D) (env : Env) (st : St) : Out := match asg tg d env with
  | some env' => execs ⟨L.sub, C⟩ b env' st
  | none => .bad
theorem for_read {X : Cx} {XQ : L2.St → Nat → Hp → Prop} {tg : Tg} {it : It} {b : Ss} {W : Wd} {H : Hp} {σ : L2.St} {env : Env} {st : St} {D : Ends} (hs : StRep X.K L.nm W H st) (he : EnvRep X.K W H env σ)
    (h : POut X.K L.nm W H (exec ⟨L.sub, C⟩ (.loop tg it b) env st) D XQ) : tFor (tI L C X XQ it) (gD X.K tg) (tSs L C X XQ b) D σ H := by
  have h' : POut X.K L.nm W H (Out.of (evI ⟨L.sub, C⟩ it env st) env fun wk st => forL (turnB L C tg b) wk.w wk.ds env st) D XQ := by
    rw [exec] at h
    exact h
  refine (POut.of (rep := fun W H wk J => IsWalk X.K L.nm W H wk J) hs he h').mono fun J H1 ⟨W1, wk, st1, e1, hs1, he1, hw, h1⟩ => ?_
  refine ⟨fun i m σ2 H2 => ∃ W2 env2 st2, m = (wk.ds.drop i).length ∧ Ext W1 H1 W2 H2 ∧ StRep X.K L.nm W2 H2 st2 ∧ EnvRep X.K W2 H2 env2 σ2 ∧ POut X.K L.nm W1 H1 (forL (turnB L C tg b) wk.w (wk.ds.drop i) env2 st2) D XQ,
    ⟨_, W1, env, st1, rfl, Ext.refl, hs1, he1, h1⟩, ?_⟩
  rintro i m σ2 H2 ⟨W2, env2, st2, rfl, e2, hs2, he2, h2⟩
  cases hd : wk.ds.drop i with
  | nil =>
    rw [hd] at h2
    unfold forL at h2
    have hn : wk.ds[i]? = none := List.getElem?_eq_none_iff.mpr (List.drop_eq_nil_iff.mp hd)
    by_cases hw2 : wk.w st2 = true
    · rw [if_pos hw2] at h2
      exact .inl ⟨(hw _ _ _ e2.mo hs2 hw2 i).2 hn, h2 W2 H2 σ2 e2 hs2 he2⟩
    · rw [if_neg hw2] at h2
      exact h2.elim
  | cons d rest =>
    have hi : wk.ds[i]? = some d := by
      have := List.getElem?_drop (xs := wk.ds) (i := i) (j := 0)
      rw [hd] at this
      simpa using this.symm
    have hr : wk.ds.drop (i + 1) = rest := by
      have : wk.ds.drop (i + 1) = (wk.ds.drop i).drop 1 := by rw [List.drop_drop]
      rw [this, hd] <;> rfl
    rw [hd] at h2
    unfold forL at h2
    by_cases hw2 : wk.w st2 = true
    · rw [if_pos hw2] at h2
      obtain ⟨go, yl⟩ := (hw _ _ _ e2.mo hs2 hw2 i).1 d hi
      refine .inr ⟨go, fun σ3 H3 => ∃ W3 env3 st3, Ext W1 H1 W3 H3 ∧ StRep X.K L.nm W3 H3 st3 ∧ EnvRep X.K W3 H3 env3 σ3 ∧ POut X.K L.nm W1 H1 (forL (turnB L C tg b) wk.w rest env3 st3) D XQ, fun σ3 H3 ⟨W3, env3, st3, z1, z2, z3, z4⟩ => ?_, fun x H3 y => ?_⟩
      · exact ⟨_, by rw [List.length_cons]; exact Nat.lt_succ_self _, W3, env3, st3, by rw [hr], z1, z2, z3, by rw [hr]; exact z4⟩
      obtain ⟨W3, e3, hs3, rx⟩ := yl x H3 y
      have he3 := he2.ext e3
      cases ha : asg tg d env2 with
      | none =>
        have : turnB L C tg b d env2 st2 = .bad := by unfold turnB; rw [ha]
        rw [this] at h2
        exact h2.elim
      | some env' =>
        have hb : turnB L C tg b d env2 st2 = execs ⟨L.sub, C⟩ b env' st2 := by unfold turnB; rw [ha]
        rw [hb] at h2
        obtain ⟨σ', hσ, gg, _⟩ := asg_rep rx he3 ha
        refine gg _ ⟨W3, env', st2, hs3, hσ, ?_⟩
        have f3 := e2.trans e3
        cases ho : execs ⟨L.sub, C⟩ b env' st2 with
        | nx env4 st4 => rw [ho] at h2; exact fun W4 H4 σ4 g hs4 he4 => ⟨W4, env4, st4, f3.trans g, hs4, he4, h2⟩
        | ct env4 st4 => rw [ho] at h2; exact fun W4 H4 σ4 g hs4 he4 => ⟨W4, env4, st4, f3.trans g, hs4, he4, h2⟩
        | bk env4 st4 => rw [ho] at h2; exact fun W4 H4 σ4 g hs4 he4 => h2 W4 H4 σ4 (f3.trans g) hs4 he4
        | rt d4 st4 => rw [ho] at h2; exact fun W4 H4 σ4 g hs4 he4 => h2 W4 H4 σ4 (f3.trans g) hs4 he4
        | ex x4 env4 st4 => rw [ho] at h2; exact fun W4 H4 σ4 g hs4 he4 => h2 W4 H4 σ4 (f3.trans g) hs4 he4
        | bad => rw [ho] at h2; exact h2
    · rw [if_neg hw2] at h2
      exact h2.elim
theorem while_read {X : Cx} {XQ : L2.St → Nat → Hp → Prop} {t : B} {b : Ss} {W : Wd} {H : Hp} {σ : L2.St} {env : Env} {st : St} {D : Ends} (hs : StRep X.K L.nm W H st) (he : EnvRep X.K W H env σ)
    (h : POut X.K L.nm W H (exec ⟨L.sub, C⟩ (.wh t b) env st) D XQ) : tWhile (tB1 L C X XQ t) (tSs L C X XQ b) D σ H := by
  rw [exec] at h
  refine ⟨fun m σ2 H2 => ∃ W2 env2 st2, Ext W H W2 H2 ∧ StRep X.K L.nm W2 H2 st2 ∧ EnvRep X.K W2 H2 env2 σ2 ∧ POut X.K L.nm W H (whileL (fun env st => evB ⟨L.sub, C⟩ t env st) (fun env st => execs ⟨L.sub, C⟩ b env st) m env2 st2) D XQ,
    ⟨_, W, env, st, Ext.refl, hs, he, h⟩, ?_⟩
  rintro m σ2 H2 ⟨W2, env2, st2, e2, hs2, he2, h2⟩
  cases m with
  | zero => exact h2.elim
  | succ m =>
    rw [whileL] at h2
    refine ⟨W2, env2, st2, hs2, he2, ?_⟩
    cases e : evB ⟨L.sub, C⟩ t env2 st2 with
    | bad => rw [e] at h2; exact h2.elim
    | ex x s => rw [e] at h2; exact fun W3 H3 g hs3 => h2 W3 H3 σ2 (e2.trans g) hs3 (he2.ext g)
    | ok c st3 =>
      rw [e] at h2
      rintro W3 H3 _ g hs3 rfl
      have he3 := he2.ext g
      have f3 := e2.trans g
      cases c with
      | false => exact h2 W3 H3 σ2 f3 hs3 he3
      | true =>
        simp only [if_true]
        refine ⟨fun σ4 H4 => ∃ W4 env4 st4, Ext W H W4 H4 ∧ StRep X.K L.nm W4 H4 st4 ∧ EnvRep X.K W4 H4 env4 σ4 ∧ POut X.K L.nm W H (whileL (fun env st => evB ⟨L.sub, C⟩ t env st) (fun env st => execs ⟨L.sub, C⟩ b env st) m env4 st4) D XQ,
          fun σ4 H4 q => ⟨m, Nat.lt_succ_self _, q⟩, W3, env2, st3, hs3, he3, ?_⟩
        simp only [Out.of_ok] at h2
        cases ho : execs ⟨L.sub, C⟩ b env2 st3 with
        | nx env4 st4 => rw [ho] at h2; exact fun W4 H4 σ4 g hs4 he4 => ⟨W4, env4, st4, f3.trans g, hs4, he4, h2⟩
        | ct env4 st4 => rw [ho] at h2; exact fun W4 H4 σ4 g hs4 he4 => ⟨W4, env4, st4, f3.trans g, hs4, he4, h2⟩
        | bk env4 st4 => rw [ho] at h2; exact fun W4 H4 σ4 g hs4 he4 => h2 W4 H4 σ4 (f3.trans g) hs4 he4
        | rt d4 st4 => rw [ho] at h2; exact fun W4 H4 σ4 g hs4 he4 => h2 W4 H4 σ4 (f3.trans g) hs4 he4
        | ex x4 env4 st4 => rw [ho] at h2; exact fun W4 H4 σ4 g hs4 he4 => h2 W4 H4 σ4 (f3.trans g) hs4 he4
        | bad => rw [ho] at h2; exact h2
mutual
theorem sOk : ∀ (s : S) {sc : Scope} {XQ : L2.St → Nat → Hp → Prop} {X : Cx} {x : Stmt}, Dxt L C k N sc XQ X → chkS L N s sc x = true → PS X x (tS L C X XQ s)
  | .set i e, sc, XQ, X, x, c, h => by
    have rd : ∀ D σ H, tS L C X XQ (.set i e) D σ H → tAsg (tE L C X XQ e) (gName i) D σ H := fun D σ H ⟨W, env, st, hs, he, q⟩ => by
      rw [exec] at q
      refine (POut.of hs he q).mono fun v H1 ⟨W1, d1, st1, e1, hs1, he1, r1, q1⟩ => ?_
      exact q1.nx hs1 (he1.set r1)
    unfold chkS at h
    split at h
    · rename_i n tp y p
      simp only [Bool.and_eq_true, Bool.or_eq_true] at h
      obtain ⟨h1, h2, h3⟩ := h
      obtain ⟨n1, n2⟩ := nmC_ok h1
      have hN : X.N.Nodup := by rw [c.c.nn]; exact c.c.nd
      have hi : X.N[i]? = some n := by rw [c.c.nn]; exact n1
      rcases h2 with h2 | ⟨h2, h4⟩
      · exact PS.imp (ps_set hN hi (c.loc n n2).1 (eOk e c.c h3) (noComp_ok h2) (.inl (c.fn n))) rd
      · cases e <;> first | (cases h2; done) | skip
        rename_i m own tg it t e
        unfold chkE at h3
        split at h3
        · rename_i elt tgx iter ifs scope lp
          simp only [Bool.and_eq_true] at h3
          obtain ⟨h31, h32, h33, h34, h35, h36, h37, h38⟩ := h3
          unfold swapC at h4
          simp only [Bool.and_eq_true] at h4
          obtain ⟨h5, h6, h7⟩ := h4
          have hl : X.env.scope.names.lookup n = some .local := by rw [c.c.scp]; exact dec h5
          refine PS.imp (ps_setLc (i := i) (own := ownN N own) (g := gD X.K tg) (tt := tOB L C X (fun _ _ _ => False) t) (te := tE L C X (fun _ _ _ => False) e) c.c.calm hN hi hl
            (sw_true (by
              have k0 := blkOk_by h32
              rw [c.c.scp]
              exact c.knd) hl h6 (by simpa using h7)) (iOk it c.c tgx h36) (by rw [c.c.nn, c.c.scp]; exact blkOk_by h32)
            (fun s H D cl fp => lc_tg c.c h35) (fun s H D cl fp => obOk t (c.c.blk s H scope cl D fp) h37) (fun s H D cl fp => eOk e (c.c.blk s H scope cl D fp) h38) (noSet_ok h31)) fun D σ H ⟨W, env, st, hs, he, q⟩ => ?_
          have q := rd D σ H ⟨W, env, st, hs, he, q⟩
          obtain ⟨W, env, st, hs, he, q⟩ := q
          show tLc _ _ _ _ _ σ H _
          rw [dec h33]
          exact lc_read h34 hs he q
        · cases h3
    · cases h
  | .setT is e, sc, XQ, X, x, c, h => by
    unfold chkS at h
    split at h
    · rename_i ts kk tp y p
      simp only [Bool.and_eq_true] at h
      obtain ⟨h1, h2, h3, h4⟩ := h
      have hN : X.N.Nodup := by rw [c.c.nn]; exact c.c.nd
      have pg : PG X (.Tuple ts kk tp) (gD X.K (.tp is)) := pg_D (sc := sc) c.c.calm hN c.loc (by rw [c.c.nn]; exact h1)
      refine PS.imp (ps_asg (eOk e c.c h4) pg (noComp_sole h2) (noTuple_ok h3)) fun D σ H ⟨W, env, st, hs, he, q⟩ => ?_
      rw [exec] at q
      refine (POut.of hs he q).mono fun v H1 ⟨W1, d1, st1, e1, hs1, he1, r1, q1⟩ => ?_
      cases ha : asg (.tp is) d1 env with
      | none => rw [ha] at q1; exact q1.elim
      | some env' =>
        rw [ha] at q1
        obtain ⟨σ', hσ, gg, _⟩ := asg_rep r1 he1 ha
        exact gg _ (q1.nx hs1 hσ)
    · cases h
  | .par i j a b, sc, XQ, X, x, c, h => by
    unfold chkS at h
    split at h <;> cases h
  | .setIx o i e, sc, XQ, X, x, c, h => by
    unfold chkS at h
    split at h
    · rename_i y z sp v p
      simp only [Bool.and_eq_true] at h
      obtain ⟨h1, h2, h3, h4, h5⟩ := h
      refine PS.imp (ps_asg (eOk e c.c h5) (pg_sub (eOk o c.c h3) (eOk i c.c h4) (set_D (nm := L.nm) (by have := c.c.hu; omega)) ?_) (noComp_sole h2) ?_) fun D σ H ⟨W, env, st, hs, he, q⟩ => ?_
      · intro _
        cases z <;> first | rfl | cases h1
      · cases v <;> rfl
      · rw [exec] at q
        refine (POut.of hs he q).mono fun v H1 ⟨W1, d1, st1, e1, hs1, he1, r1, q1⟩ => ?_
        refine (POut.of hs1 he1 q1).mono fun o' H2 ⟨W2, d2, st2, e2, hs2, he2, r2, q2⟩ => ?_
        refine (POut.of hs2 he2 q2).mono fun i' H3 ⟨W3, d3, st3, e3, hs3, he3, r3, q3⟩ => ?_
        cases es : setIxD st3 d2 d3 d1 with
        | none => rw [es] at q3; exact q3.elim
        | some st' =>
          rw [es] at q3
          exact ⟨W3, d2, d3, d1, st3, st', hs3, r2.ext e3, r3, (r1.ext e2).ext e3, es, fun W' H' f hs' => q3 W' H' σ f hs' (he3.ext f)⟩
    · cases h
  | .setF _ _ _ _, sc, XQ, X, x, c, h => by cases h
  | .ex e, sc, XQ, X, x, c, h => by
    unfold chkS at h
    split at h
    · simp only [Bool.and_eq_true] at h
      obtain ⟨h1, h2⟩ := h
      refine PS.imp (ps_expr (eOk e c.c h2) (noComp_ok h1)) fun D σ H ⟨W, env, st, hs, he, q⟩ => ?_
      rw [exec] at q
      exact (POut.of hs he q).mono fun v H1 ⟨W1, d1, st1, e1, hs1, he1, r1, q1⟩ => q1.nx hs1 he1
    · cases h
  | .ret e, sc, XQ, X, x, c, h => by
    unfold chkS at h
    split at h
    · refine PS.imp (ps_ret (eOk e c.c h)) fun D σ H ⟨W, env, st, hs, he, q⟩ => ?_
      rw [exec] at q
      exact (POut.of hs he q).mono fun v H1 ⟨W1, d1, st1, e1, hs1, he1, r1, q1⟩ => q1 W1 H1 _ Ext.refl hs1 r1
    · cases h
  | .retN, sc, XQ, X, x, c, h => by
    unfold chkS at h
    split at h
    · exact PS.imp ps_retN fun D σ H ⟨W, env, st, hs, he, q⟩ => q W H _ Ext.refl hs .non
    · cases h
  | .ite t a b, sc, XQ, X, x, c, h => by
    unfold chkS at h
    split at h
    · simp only [Bool.and_eq_true] at h
      obtain ⟨h1, h2, h3⟩ := h
      refine PS.imp (ps_if ((bOk t c.c h1).2.2 _ rfl).1 (ssOk a c h2) (ssOk b c h3)) fun D σ H ⟨W, env, st, hs, he, q⟩ => ?_
      rw [exec] at q
      refine (POut.of (rep := fun _ _ b c => b = c) hs he q).mono fun v H1 ⟨W1, d1, st1, e1, hs1, he1, r1, q1⟩ => ?_
      subst r1
      cases d1 with
      | true => exact ⟨W1, env, st1, hs1, he1, q1⟩
      | false => exact ⟨W1, env, st1, hs1, he1, q1⟩
    · cases h
  | .loop tg it b, sc, XQ, X, x, c, h => by
    unfold chkS at h
    split at h
    · rename_i tgx iter y p
      simp only [Bool.and_eq_true] at h
      obtain ⟨h1, h2, h3, h4⟩ := h
      have hN : X.N.Nodup := by rw [c.c.nn]; exact c.c.nd
      exact PS.imp (ps_for c.po c.c.calm (iOk it c.c tgx h3) (pg_D (sc := sc) c.c.calm hN c.loc (by rw [c.c.nn]; exact h2)) (ssOk b c h4) (noSet_ok h1)) fun D σ H ⟨W, env, st, hs, he, q⟩ => for_read hs he q
    · cases h
  | .wh t b, sc, XQ, X, x, c, h => by
    unfold chkS at h
    split at h
    · simp only [Bool.and_eq_true] at h
      obtain ⟨h1, h2⟩ := h
      exact PS.imp (ps_while c.po ((bOk t c.c h1).2.2 _ rfl).1 (ssOk b c h2)) fun D σ H ⟨W, env, st, hs, he, q⟩ => while_read hs he q
    · cases h
  | .raise y, sc, XQ, X, x, c, h => by
    unfold chkS at h
    split at h
    · rename_i n np cp rp
      simp only [Bool.and_eq_true] at h
      obtain ⟨h1, h2, h3, h4⟩ := h
      have e := dec h1
      subst e
      obtain ⟨g1, g2⟩ := c.c.fx.exc y (dec h4)
      obtain ⟨x1, x2, x3, x4⟩ := He.exc_ok g2
      refine PS.imp (ps_raise c.c.calm c.c.tk (pmk_own0 PySem.F.excBase_ValueError x1 g1 x2 (raises_own x3 x4) (c.c.gl h2) (okName_ok h3).1)) fun D σ H ⟨W, env, st, hs, he, q⟩ => ?_
      exact ⟨y, rfl, rfl, q W H σ Ext.refl hs he⟩
    · cases h
  | .tr _ _, sc, XQ, X, x, c, h => by cases h
  | .pass, sc, XQ, X, x, c, h => by
    unfold chkS at h
    split at h
    · exact PS.imp ps_pass fun D σ H ⟨W, env, st, hs, he, q⟩ => q W H σ Ext.refl hs he
    · exact PS.imp ps_doc fun D σ H ⟨W, env, st, hs, he, q⟩ => q W H σ Ext.refl hs he
    · cases h
theorem ssOk : ∀ (ss : Ss) {sc : Scope} {XQ : L2.St → Nat → Hp → Prop} {X : Cx} {x : List Stmt}, Dxt L C k N sc XQ X → chkSs L N ss sc x = true → PSs X x (tSs L C X XQ ss)
  | .nil, sc, XQ, X, x, c, h => by
    unfold chkSs at h
    split at h
    · exact PSs.imp pss_nil fun D σ H ⟨W, env, st, hs, he, q⟩ => q W H σ Ext.refl hs he
    · cases h
  | .cons s ss, sc, XQ, X, x, c, h => by
    unfold chkSs at h
    split at h
    · simp only [Bool.and_eq_true] at h
      obtain ⟨h1, h2⟩ := h
      refine PSs.imp (pss_cons (sOk s c h1) (ssOk ss c h2)) fun D σ H ⟨W, env, st, hs, he, q⟩ => ?_
      rw [execs] at q
      exact ⟨W, env, st, hs, he, POut.seq q⟩
    · cases h
end
end
end Ev
/-! Ev16: defs do what Ev's call says; a law's end. -/
namespace Ev
open PySem PySem.Spec PyProof.Rows L2
theorem zip_lookup : ∀ {P : List Str} {us : List Value}, P.Nodup → us.length = P.length → ∀ n ∈ P, (List.lookup n (P.zip us)).isSome = true
  | [], _, _, _, n, h => by cases h
  | p :: P, [], _, hl, n, h => by simp at hl
  | p :: P, u :: us, nd, hl, n, h => by
    rw [List.zip_cons_cons, List.lookup_cons]
    cases e : n == p with
    | true => rfl
    | false =>
      have : n ≠ p := by simpa using e
      have hm : n ∈ P := by
        rcases List.mem_cons.mp h with h | h
        · exact absurd h this
        · exact h
      exact zip_lookup (List.nodup_cons.mp nd).2 (by simpa using hl) n hm
theorem zip_filterMap : ∀ {P : List Str} {us : List Value} {s : List (Str × Value)}, P.Nodup → us.length = P.length → (∀ n ∈ P, List.lookup n s = List.lookup n (P.zip us)) → P.filterMap (fun n => (List.lookup n s).map (n, ·)) = P.zip us
  | [], _, _, _, _, _ => rfl
  | p :: P, [], _, _, hl, _ => by simp at hl
  | p :: P, u :: us, s, nd, hl, h => by
    obtain ⟨n1, n2⟩ := List.nodup_cons.mp nd
    have h0 := h p List.mem_cons_self
    rw [List.zip_cons_cons, List.lookup_cons] at h0
    simp only [beq_self_eq_true] at h0
    rw [List.filterMap_cons, h0]
    simp only [Option.map_some]
    rw [List.zip_cons_cons, zip_filterMap n2 (by simpa using hl) fun n hn => ?_]
    rw [h n (List.mem_cons_of_mem _ hn), List.zip_cons_cons, List.lookup_cons]
    have : (n == p) = false := by
      have : n ≠ p := fun e => n1 (e ▸ hn)
      simpa using this
    rw [this]
theorem binds_gen {fd : FuncData} {us : List Value} {P : List Str} (h1 : fd.params.posonlyargs = []) (h2 : fd.params.args.map (·.arg) = P) (h3 : fd.params.vararg = none) (h4 : fd.params.kwonlyargs = []) (h5 : fd.params.kwarg = none)
    (hd : fd.defaults = .none) (nd : P.Nodup) (hl : us.length = P.length) : bindArgs fd ⟨us, []⟩ = pure (P.zip us) := by
  have e0 : seqItems? (.none : Value) = pure none := rfl
  have hm : (P.filter fun n => (List.lookup n (P.zip us)).isNone) = [] := by
    rw [List.filter_eq_nil_iff]
    intro n hn
    have := zip_lookup nd hl n hn
    cases e : List.lookup n (P.zip us) with
    | none => rw [e] at this; cases this
    | some _ => simp
  have hz := zip_filterMap (s := P.zip us) nd hl fun _ _ => rfl
  unfold bindArgs
  simp only [h1, h2, h3, h4, h5, hd, e0, List.map_nil, List.nil_append, List.append_nil, List.forIn_nil, pure_bind, Option.getD_none, List.drop_nil, List.zip_nil_right, hl, Nat.sub_zero, Nat.lt_irrefl, gt_iff_lt, decide_false, Bool.false_and, List.length_nil, List.take_length, hm, List.isEmpty_nil, Bool.not_true, Bool.false_eq_true, if_false, hz]
/-- a row's def and its term fit together -/
def rowC (L : Lw) (r : Row) : Bool :=
  chkSs L r.N r.fn.body r.d.scope r.d.body && (decide (r.fn.n = r.N.length) && (decide (r.fn.np ≤ r.fn.n) && (decide (r.d.scope.kind = .function) && (!r.d.scope.isCoroutine && (!r.d.scope.isGenerator && (decide r.N.Nodup &&
  (((r.N.take r.fn.np).all fun x => decide (r.d.scope.names.lookup x = some .local) || decide (r.d.scope.names.lookup x = some .cell)) && ((r.d.scope.names.all fun y => decide (y.2 ≠ .free)) &&
  (r.d.params.posonlyargs.isEmpty && (r.d.params.vararg.isNone && (r.d.params.kwonlyargs.isEmpty && (r.d.params.kwarg.isNone && (decide (r.d.params.args.map (·.arg) = r.N.take r.fn.np) && (r.d.dfl.isEmpty && (r.d.kwd.isEmpty && r.fn.dfl.isEmpty)))))))))))))))
structure Glob (L : Lw) (K : PySem.W.Frag) (mg : Str → Option Value) : Prop where
  con : ∀ x d, L.con.lookup x = some d → ∃ v u, mg x = some u ∧ RelV v u ∧ ∀ W H, Rep K W H d v
  free : ∀ x ∈ L.free, mg x = none
  exc : ∀ c ∈ L.excs, mg (L.nm.cls c) = some (.ref (He.ga K (L.nm.cls c))) ∧ (He.Fa.exc (L.nm.cls c)).ok K = true
  fun_ : ∀ f r, L.row f = some r → ∃ fd, FunD K r.d.name r.d.qual r.d.params r.d.body r.d.scope (r.d.dvs K) (r.d.kws K) (He.fAd K r.d.at_) fd
  glo : ∀ f r x, L.row f = some r → r.d.at_ = (x, none) → mg x = some (.ref (He.ga K x))
theorem env_start {K : PySem.W.Frag} {W : Wd} {H : Hp} {N : List Str} {ds : List D} {vs : List V} (r : Reps K W H ds vs) {n : Nat} (hn : n = N.length) (hl : ds.length ≤ n) : EnvRep K W H (ds.map some ++ List.replicate (n - ds.length) none) (L2.start N vs) := by
  have h := r.length
  refine ⟨?_, fun i d e => ?_⟩
  · unfold L2.start
    rw [List.length_append, List.length_append, List.length_map, List.length_map, List.length_replicate, List.length_replicate, hn, h]
  · unfold L2.start
    by_cases hi : i < ds.length
    · rw [List.getElem?_append_left (by simpa using hi), List.getElem?_map] at e
      cases e1 : ds[i]? with
      | none => rw [e1] at e; cases e
      | some d' =>
        rw [e1] at e
        cases e
        obtain ⟨v, e2, rv⟩ := r.get e1
        exact ⟨v, by rw [List.getElem?_append_left (by rw [List.length_map, ← h]; exact hi), List.getElem?_map, e2]; rfl, rv⟩
    · rw [List.getElem?_append_right (by simpa using hi), List.getElem?_replicate] at e
      split at e <;> cases e
/-- the end of a def's body -/
theorem fin_read {K : PySem.W.Frag} {nm : Nm} {W : Wd} {H : Hp} {st : St} {o : Out} {Q : VK} {XQ : Nat → Hp → Prop} (hs : StRep K nm W H st) (h : Post K nm W H (finish st o) (Rep K) Q XQ) :
    POut K nm W H o { nx := fun _ H' => Q .non H', rt := Q } (fun _ x H => XQ x H) := by
  have gcD : ∀ {d : D} {st' : St}, Post K nm W H (gc d st st') (Rep K) Q XQ → ∀ W' H' v, Ext W H W' H' → StRep K nm W' H' st' → Rep K W' H' d v → Q v H' := fun {d st'} h W' H' v e hs' r => by
    unfold gc at h
    split at h
    · rename_i c
      rw [Bool.and_eq_true] at c
      obtain ⟨c1, c2, c3⟩ := hs.cut e hs' c.2
      have r2 := Rep.cut (n := st.length) d v c.1 r
      rw [c3, e.ex] at r2
      exact h W H' v c2 c1 r2
    · exact h W' H' v e hs' r
  cases o with
  | nx env s => exact fun W' H' σ' e hs' he => gcD h W' H' .non e hs' .non
  | rt d s => exact fun W' H' v e hs' r => gcD h W' H' v e hs' r
  | bk env s => exact h.elim
  | ct env s => exact h.elim
  | bad => exact h.elim
  | ex x env s =>
    intro W' H' σ' e hs' he
    have h' : Post K nm W H (gcx x st s) (Rep K) Q XQ := h
    unfold gcx at h'
    split at h'
    · rename_i c
      obtain ⟨c1, c2, c3⟩ := hs.cut e hs' c
      exact h' W H' c2 c1
    · exact h' W' H' e hs'
section
variable {L : Lw} {P : Program} {w : World} {K : PySem.W.Frag} {mg : Str → Option Value} {base : Heap}
theorem call_at {k f : Nat} {r : Row} {ds : List D} {st : St} (hr : L.row f = some r) (hl : ds.length = r.fn.np) :
    call L.T (k + 1) f ds st = finish st (execs ⟨L.sub, call L.T k⟩ r.fn.body (ds.map some ++ List.replicate (r.fn.n - r.fn.np) none) st) := by
  have e : L.T.fn f = some r.fn := by show (L.row f).map (·.fn) = _; rw [hr]; rfl
  rw [call, e]
  have e2 : ds ++ r.fn.dfl.drop (r.fn.dfl.length - (r.fn.np - ds.length)) = ds := by rw [hl, Nat.sub_self, Nat.sub_zero, List.drop_length, List.append_nil]
  show (if (ds ++ r.fn.dfl.drop (r.fn.dfl.length - (r.fn.np - ds.length))).length = r.fn.np then finish st (execs ⟨L.T.isSub, call L.T k⟩ r.fn.body ((ds ++ r.fn.dfl.drop (r.fn.dfl.length - (r.fn.np - ds.length))).map some ++ List.replicate (r.fn.n - r.fn.np) none) st) else .bad) = _
  rw [e2, if_pos hl]
  rfl
theorem def_ok (G : Glob L K mg) (hc : ∀ f r, L.row f = some r → rowC L r = true) :
    ∀ (k f : Nat) (r : Row), L.row f = some r → ∀ fd, FunD K r.d.name r.d.qual r.d.params r.d.body r.d.scope (r.d.dvs K) (r.d.kws K) (He.fAd K r.d.at_) fd → FnOk P w K mg base (L2.CX P w) (2 * k + 1) (He.fAd K r.d.at_) fd (r.N.take r.fn.np) (spC K L.nm (call L.T k) f r.fn.np) ∧ Binds K fd (r.N.take r.fn.np) [] ∧ PySem.W.keepIn K (.ref (He.fAd K r.d.at_)) = true
      ∧ ∀ (s : Shared) (us : List Value), us.length = (r.N.take r.fn.np).length → BindsTo s fd ⟨us, []⟩ ((r.N.take r.fn.np).zip us) := by
  intro k
  induction k with
  | zero =>
    intro f r hr fd F
    have c := hc f r hr
    unfold rowC at c
    simp only [Bool.and_eq_true] at c
    obtain ⟨c1, c2, c3, c4, c5, c6, c7, c8, c9, c10, c11, c12, c13, c14, c15, c16, c17⟩ := c
    have ed : r.d.dvs K = [] := by unfold He.DefD.dvs; rw [List.isEmpty_iff.mp c15]; rfl
    rw [ed] at F
    have nd : (r.N.take r.fn.np).Nodup := (dec c7).sublist (List.take_sublist _ _)
    have bb := fun (kV doc pm : Value) (an : Option Addr) (cdv ct : Value) (us : List Value) (hl : us.length = (r.N.take r.fn.np).length) =>
      binds_gen (fd := PySem.W.fnOf r.d.name r.d.qual r.d.params r.d.body r.d.scope .none kV doc pm an cdv ct) (List.isEmpty_iff.mp c10) (dec c14) (Option.isNone_iff_eq_none.mp c11) (List.isEmpty_iff.mp c12) (Option.isNone_iff_eq_none.mp c13) rfl nd hl
    have S : FnScope r.N (r.N.take r.fn.np) r.d.scope := by
      refine ⟨dec c4, by simpa using c5, by simpa using c6, dec c7, by rw [List.length_take, List.take_eq_take_iff]; omega, fun x hx => ?_, fun y hy => dec (List.all_eq_true.mp c9 y hy)⟩
      have := List.all_eq_true.mp c8 x hx
      rw [Bool.or_eq_true] at this
      exact this.imp dec dec
    refine ⟨F.ok S (fun vs H Q E ⟨W, ds, st, _, _, _, h⟩ => h.elim) (fun cdv A outer s H vs Q E hr' ⟨W, ds, st, _, _, _, h⟩ => h.elim), F.bindsN bb, F.kp, fun s us hl => FunD.bindsA (ps := r.N.take r.fn.np) F bb s us hl⟩
  | succ k ih =>
    intro f r hr fd F
    have c := hc f r hr
    unfold rowC at c
    simp only [Bool.and_eq_true] at c
    obtain ⟨c1, c2, c3, c4, c5, c6, c7, c8, c9, c10, c11, c12, c13, c14, c15, c16, c17⟩ := c
    have ed : r.d.dvs K = [] := by unfold He.DefD.dvs; rw [List.isEmpty_iff.mp c15]; rfl
    rw [ed] at F
    have nd : (r.N.take r.fn.np).Nodup := (dec c7).sublist (List.take_sublist _ _)
    have bb := fun (kV doc pm : Value) (an : Option Addr) (cdv ct : Value) (us : List Value) (hl : us.length = (r.N.take r.fn.np).length) =>
      binds_gen (fd := PySem.W.fnOf r.d.name r.d.qual r.d.params r.d.body r.d.scope .none kV doc pm an cdv ct) (List.isEmpty_iff.mp c10) (dec c14) (Option.isNone_iff_eq_none.mp c11) (List.isEmpty_iff.mp c12) (Option.isNone_iff_eq_none.mp c13) rfl nd hl
    have S : FnScope r.N (r.N.take r.fn.np) r.d.scope := by
      refine ⟨dec c4, by simpa using c5, by simpa using c6, dec c7, by rw [List.length_take, List.take_eq_take_iff]; omega, fun x hx => ?_, fun y hy => dec (List.all_eq_true.mp c9 y hy)⟩
      have := List.all_eq_true.mp c8 x hx
      rw [Bool.or_eq_true] at this
      exact this.imp dec dec
    have plen : (r.N.take r.fn.np).length = r.fn.np := by
      rw [List.length_take, ← dec c2]
      have := dec c3
      omega
    have fx : Facts L (call L.T k) (2 * k + 1) P w K mg base := by
      refine ⟨G.con, G.free, G.exc, fun f' x n h => ?_⟩
      unfold chkF at h
      cases er : L.row f' with
      | none => rw [er] at h; cases h
      | some r' =>
        rw [er] at h
        simp only [Bool.and_eq_true] at h
        obtain ⟨h1, h2, h3⟩ := h
        have ea := dec h1
        obtain ⟨fd', F0⟩ := G.fun_ f' r' er
        obtain ⟨F', B', kp', _⟩ := ih f' r' er fd' F0
        have e0 : He.fAd K r'.d.at_ = He.ga K x := by rw [ea]; rfl
        rw [e0] at F' kp'
        have d0 : r'.fn.dfl = [] := by
          have c := hc f' r' er
          unfold rowC at c
          simp only [Bool.and_eq_true] at c
          exact List.isEmpty_iff.mp c.2.2.2.2.2.2.2.2.2.2.2.2.2.2.2.2
        have hn : n = r'.fn.np := by
          have h2 := dec h2
          have h3 := dec h3
          rw [d0] at h3
          simp at h3
          omega
        refine ⟨G.glo f' r' x er ea, ⟨⟨fd', _, r'.fn.np, [], [], [], F', B', .nil, by simpa using hn, fun xs st _ => by rw [List.append_nil], fun _ _ => .nil⟩, kp'⟩⟩
    have ok : FnOk P w K mg base (L2.CX P w) (2 * k + 2 + 1) (He.fAd K r.d.at_) fd (r.N.take r.fn.np) (spC K L.nm (call L.T (k + 1)) f r.fn.np) := by
      refine F.ok (k := 2 * k + 2) S (fun vs H Q E ⟨W, ds, st, _, rs, hl, _⟩ => by rw [← rs.length, hl, plen]) (fun cdv A outer s H vs Q E room ⟨W, ds, st, hs, rs, hl, h⟩ => ?_)
      refine ⟨tSs L (call L.T k) (cxOf (L2.CX P w) P w K mg base r.N r.d.qual r.d.scope (He.fAd K r.d.at_) cdv A outer s H E) (fun _ x H => E (.ref (He.ga K (L.nm.cls x))) none H) r.fn.body, ?_, ?_⟩
      · refine ssOk r.fn.body ⟨⟨rfl, rfl, dec c7, rfl, room, fx, ?_⟩, PassesOwn.leaving, fun _ => rfl, dec c4⟩ c1
        exact Takes.imp (takes_of rfl rfl rfl rfl) fun cls d σ H ⟨x, e1, e2, q⟩ => by rw [e1, e2]; exact q
      · rw [call_at hr hl] at h
        refine ⟨W, _, st, hs, ?_, fin_read hs h⟩
        have := env_start (N := r.N) rs (dec c2) (by rw [hl]; exact dec c3)
        rw [hl] at this
        exact this
    exact ⟨by have e : 2 * (k + 1) + 1 = 2 * k + 2 + 1 := by omega
              rw [e]; exact ok, F.bindsN bb, F.kp, fun s us hl => FunD.bindsA (ps := r.N.take r.fn.np) F bb s us hl⟩
end
end Ev
/-! Ev17: the head's facts of a law's rows; a law's end. -/
namespace Ev
open PySem PySem.Spec PyProof.Rows L2
def faRow (r : Row) : List He.Fa := match r.d.at_ with
  | (x, none) => [.glo x]
  | _ => []
def faCon : Str × D → List He.Fa
  | (x, .int i) => [.int x i]
  | (x, .str z) => [.str x z]
  | _ => []
def faOf (L : Lw) : List He.Fa := L.rows.flatMap faRow ++ (L.free.map .free ++ (L.excs.flatMap (fun c => [.glo (L.nm.cls c), .exc (L.nm.cls c)]) ++ L.con.flatMap faCon))
def fnOf (L : Lw) : List He.DefD := L.rows.map (·.d)
/-- constants: ints and texts alone -/
def conC : List (Str × D) → Bool
  | [] => true
  | (_, .int _) :: l => conC l
  | (_, .str _) :: l => conC l
  | _ => false
theorem lookup_mem {α : Type} : ∀ {l : List (Str × α)} {x : Str} {a : α}, l.lookup x = some a → (x, a) ∈ l
  | [], _, _, h => by cases h
  | (y, b) :: l, x, a, h => by
    rw [List.lookup_cons] at h
    cases e : x == y with
    | true =>
      rw [e] at h
      cases h
      have : x = y := by simpa using e
      rw [this]
      exact List.mem_cons_self
    | false =>
      rw [e] at h
      exact List.mem_cons_of_mem _ (lookup_mem h)
theorem conC_mem : ∀ {l : List (Str × D)} {x : Str} {d : D}, conC l = true → (x, d) ∈ l → (∃ i, d = .int i) ∨ ∃ z, d = .str z
  | [], _, _, _, h => by cases h
  | (y, e) :: l, x, d, c, h => by
    cases e <;> first | (cases c; done) | skip
    · rcases List.mem_cons.mp h with h | h
      · cases h; exact .inl ⟨_, rfl⟩
      · exact conC_mem (l := l) c h
    · rcases List.mem_cons.mp h with h | h
      · cases h; exact .inr ⟨_, rfl⟩
      · exact conC_mem (l := l) c h
theorem row_mem {L : Lw} {f : Nat} {r : Row} (h : L.row f = some r) : r ∈ L.rows := List.mem_of_find?_eq_some h
theorem glob_of {L : Lw} {K : PySem.W.Frag} {h : Heap} {mg : Str → Option Value} (X : K.In h) (G : h.Ns mainGlobals mg) (c : He.SaysD (faOf L) (fnOf L) K) (cc : conC L.con = true) : Glob L K mg := by
  have fa : ∀ f ∈ faOf L, f.ok K = true := fun f hf => c.facts hf
  refine ⟨fun x d e => ?_, fun x hx => ?_, fun y hy => ⟨?_, ?_⟩, fun f r hr => ?_, fun f r x hr e => ?_⟩
  · have hm := lookup_mem e
    rcases conC_mem cc hm with ⟨i, rfl⟩ | ⟨z, rfl⟩
    · obtain ⟨t, ht⟩ := He.int_ok X G (fa (.int x i) (List.mem_append_right _ (List.mem_append_right _ (List.mem_append_right _ (List.mem_flatMap.mpr ⟨_, hm, List.mem_singleton.mpr rfl⟩)))))
      exact ⟨.int i, _, ht, ⟨t, rfl⟩, fun _ _ => .int i⟩
    · obtain ⟨t, ht⟩ := He.str_ok X G (fa (.str x z) (List.mem_append_right _ (List.mem_append_right _ (List.mem_append_right _ (List.mem_flatMap.mpr ⟨_, hm, List.mem_singleton.mpr rfl⟩)))))
      exact ⟨.str z, _, ht, ⟨t, rfl⟩, fun _ _ => .str z⟩
  · exact He.free_ok X G (fa (.free x) (List.mem_append_right _ (List.mem_append_left _ (List.mem_map_of_mem hx))))
  · exact He.glo_ok X G (fa _ (List.mem_append_right _ (List.mem_append_right _ (List.mem_append_left _ (List.mem_flatMap.mpr ⟨y, hy, List.mem_cons_self⟩)))))
  · exact fa _ (List.mem_append_right _ (List.mem_append_right _ (List.mem_append_left _ (List.mem_flatMap.mpr ⟨y, hy, List.mem_cons_of_mem _ List.mem_cons_self⟩))))
  · exact c.defs (List.mem_map_of_mem (row_mem hr))
  · refine He.glo_ok X G (fa (.glo x) (List.mem_append_left _ (List.mem_flatMap.mpr ⟨r, row_mem hr, ?_⟩)))
    unfold faRow
    rw [e]
    exact List.mem_singleton.mpr rfl
/-- all rows are checked -/
def rowsC (L : Lw) : Bool := L.rows.all (rowC L)
theorem rowsC_ok {L : Lw} (h : rowsC L = true) : ∀ f r, L.row f = some r → rowC L r = true := fun f r hr => List.all_eq_true.mp h r (row_mem hr)
/-- what the script is to Ev -/
def scrD (ns : List Int) : D := .scr (ns.map D.int)
theorem ints_reps {K : PySem.W.Frag} {W : Wd} {H : Hp} : ∀ ns : List Int, Reps K W H (ns.map D.int) (ns.map V.int)
  | [] => .nil
  | n :: ns => .cons (.int n) (ints_reps ns)
theorem law_facts {L : Lw} {lid k : Nat} {r : Row} {x : Str} {P : Program} {w : World} {K : PySem.W.Frag} {h : Heap} {mg : Str → Option Value} {f : Addr} (X : K.In h) (G : h.Ns mainGlobals mg) (hfa : mg ("law" : Str) = some (.ref f))
    (c : He.SaysD (faOf L) (fnOf L) K) (cc : conC L.con = true) (rc : rowsC L = true) (hr : L.row lid = some r) (ha : r.d.at_ = ((("law" : Str), none) : Str × Option Str)) (hp : r.N.take r.fn.np = [x]) (hn : r.fn.np = 1) :
    ∃ fd : FuncData, (∀ (s : Shared) (v : Value), BindsTo s fd ⟨[v], []⟩ [(x, v)]) ∧ ∀ base : Heap, K.In base → base.Ns mainGlobals mg → FnOk P w K mg base (L2.CX P w) (2 * k + 1) f fd [x] (spC K L.nm (call L.T k) lid 1) := by
  have GL := glob_of (L := L) X G c cc
  have e0 : He.fAd K r.d.at_ = He.ga K "law" := by rw [ha]; rfl
  have e := hfa.symm.trans (GL.glo lid r "law" hr ha)
  cases e
  obtain ⟨fd, F⟩ := GL.fun_ lid r hr
  have main : ∀ base : Heap, _ := fun base => def_ok (P := P) (w := w) (base := base) GL (rowsC_ok rc) k lid r hr fd F
  have bb := (main h).2.2.2
  rw [hp] at bb
  refine ⟨fd, fun s v => bb s [v] rfl, fun base _ _ => ?_⟩
  have F' := (main base).1
  rw [e0, hp, hn] at F'
  exact F'
theorem law_sp {L : Lw} {lid k : Nat} {K : PySem.W.Frag} (hl : ∀ ns : List Int, ns.length ≤ 63 → ∃ st, call L.T k lid [scrD ns] [] = .ok (.bl true) st) (H : Hp) (a : Addr) (ns : List Int) (h : ns.length ≤ 63) (hq : SqL K H a (ns.map V.int)) :
    spC K L.nm (call L.T k) lid 1 [.ref a] H (fun v _ => v = .bl true) fun _ _ _ => False := by
  obtain ⟨st, e⟩ := hl ns h
  refine ⟨⟨[], []⟩, [scrD ns], [], ⟨rfl, List.nodup_nil, fun a m => (nomatch m), fun i a o e1 e2 => (by simp at e2)⟩, .one (.scr ?_ (ints_reps ns)), rfl, ?_⟩
  · rcases hq with hq | hq
    · exact .inl ⟨hq, by simp, by simp⟩
    · exact .inr (.inr hq)
  · rw [e]
    intro W' H' b _ _ r
    exact rep_bl r
/-- exceptions at the law's end, whatever the world -/
def CXe (P : Program) : CXT := fun outer H s E e s' => ∃ w, L2.CX P w outer H s E e s'
theorem fn_cx {P : Program} {w : World} {K : PySem.W.Frag} {mg : Str → Option Value} {base : Heap} {k : Nat} {f : Addr} {fd : FuncData} {ps : List Str} {sp : Sp} (F : FnOk P w K mg base (L2.CX P w) k f fd ps sp) : FnOk P w K mg base (CXe P) k f fd ps sp :=
  ⟨F.len, fun A outer s H args us vs Q E hr he hb hv hs => codeAny_mono (F.run A outer s H args us vs Q E hr he hb hv hs) fun r s' q => by
    cases r with
    | error e => exact ⟨w, q⟩
    | ok fl => cases fl <;> exact q⟩
theorem cx_end {P : Program} (H : Hp) (s : Shared) (e : Value) (s' : Shared) (h : CXe P [] H s (fun _ _ _ => False) e s') : False := by
  obtain ⟨_, _, _, _, _, _, _, _, _, _, _, _, _, h⟩ := h
  exact h
end Ev
/-! Ev18: Ev's equations, to reckon with. -/
namespace Ev
open PySem
section
variable (P : Par) (env : Env) (st : St)
@[simp] theorem ev_c (d : D) : ev P (.c d) env st = .ok d st := by first | (rw [ev]; done) | (rw [ev]; rfl)
@[simp] theorem ev_v (i : Nat) : ev P (.v i) env st = R.of (env[i]?.join) st := by first | (rw [ev]; done) | (rw [ev]; rfl)
@[simp] theorem ev_g (x : Str) (d : D) : ev P (.g x d) env st = .ok d st := by first | (rw [ev]; done) | (rw [ev]; rfl)
@[simp] theorem ev_bin (op : Op) (m : Bool) (a b : E) : ev P (.bin op m a b) env st = (ev P a env st).bind fun x st => (ev P b env st).bind fun y st => binD op m x y st := by first | (rw [ev]; done) | (rw [ev]; rfl)
@[simp] theorem ev_neg (a : E) : ev P (.neg a) env st = (ev P a env st).bind fun x st => (match x with
    | .int i => .ok (.int (-i)) st
    | _ => .bad) := by first | (rw [ev]; done) | (rw [ev]; rfl)
@[simp] theorem ev_bo (t : B) : ev P (.bo t) env st = (evB P t env st).bind fun b st => .ok (.bl b) st := by first | (rw [ev]; done) | (rw [ev]; rfl)
@[simp] theorem ev_ifx (t : B) (a b : E) : ev P (.ifx t a b) env st = (evB P t env st).bind fun c st => bif c then ev P a env st else ev P b env st := by first | (rw [ev]; done) | (rw [ev]; rfl)
@[simp] theorem ev_tup (es : Es) : ev P (.tup es) env st = (evs P es env st).bind fun ds st => .ok (.tup ds) st := by first | (rw [ev]; done) | (rw [ev]; rfl)
@[simp] theorem ev_lst (m : Bool) (es : Es) : ev P (.lst m es) env st = (evs P es env st).bind fun ds st => mk m ds st := by first | (rw [ev]; done) | (rw [ev]; rfl)
@[simp] theorem ev_dT : ev P (.dic true) env st = .ok (.ref st.length) (st ++ [.dT []]) := by first | (rw [ev]; done) | (rw [ev]; rfl)
@[simp] theorem ev_dK : ev P (.dic false) env st = .ok (.ref st.length) (st ++ [.dK []]) := by first | (rw [ev]; done) | (rw [ev]; rfl)
@[simp] theorem ev_ix (a i : E) : ev P (.ix a i) env st = (ev P a env st).bind fun x st => (ev P i env st).bind fun y st => R.of (ixD st x y) st := by first | (rw [ev]; done) | (rw [ev]; rfl)
@[simp] theorem ev_sl (m : Bool) (a : E) (lo hi : OE) : ev P (.sl m a lo hi) env st = (ev P a env st).bind fun x st => (evO P lo env st).bind fun l st => (evO P hi env st).bind fun h st => slD m st x l h := by first | (rw [ev]; done) | (rw [ev]; rfl)
@[simp] theorem ev_call (f : Nat) (es : Es) : ev P (.call f es) env st = (evs P es env st).bind fun ds st => P.C f ds st := by first | (rw [ev]; done) | (rw [ev]; rfl)
@[simp] theorem ev_bi (f : BI) (m : Bool) (es : Es) : ev P (.bi f m es) env st = (evs P es env st).bind fun ds st => biD f m st ds := by first | (rw [ev]; done) | (rw [ev]; rfl)
@[simp] theorem ev_isi (t : Ty) (e : E) : ev P (.isi t e) env st = (ev P e env st).bind fun x st => R.of ((tyD st P.isSub x t).map .bl) st := by first | (rw [ev]; done) | (rw [ev]; rfl)
@[simp] theorem ev_sortk (m : Bool) (e : E) : ev P (.sortk m e) env st = (ev P e env st).bind fun x st => sortkD m st x := by first | (rw [ev]; done) | (rw [ev]; rfl)
@[simp] theorem ev_bm (f : BM) (m : Bool) (o : E) (es : Es) : ev P (.bm f m o es) env st = (ev P o env st).bind fun x st => if recvD f.rc st x then (evs P es env st).bind fun ds st => bmD f m st x ds else .bad := by first | (rw [ev]; done) | (rw [ev]; rfl)
@[simp] theorem evO_no : evO P .no env st = .ok none st := by first | (rw [evO]; done) | (rw [evO]; rfl)
@[simp] theorem evO_so (e : E) : evO P (.so e) env st = (ev P e env st).bind fun x st => (match x with
    | .int i => .ok (some i) st
    | _ => .bad) := by first | (rw [evO]; done) | (rw [evO]; rfl)
@[simp] theorem evs_nil : evs P .nil env st = .ok [] st := by first | (rw [evs]; done) | (rw [evs]; rfl)
@[simp] theorem evs_cons (e : E) (es : Es) : evs P (.cons e es) env st = (ev P e env st).bind fun x st => (evs P es env st).bind fun xs st => .ok (x :: xs) st := by first | (rw [evs]; done) | (rw [evs]; rfl)
@[simp] theorem evB_cmp (op : Cmp) (a b : E) : evB P (.cmp op a b) env st = (ev P a env st).bind fun x st => (ev P b env st).bind fun y st => R.of (cmpD op st x y) st := by first | (rw [evB]; done) | (rw [evB]; rfl)
@[simp] theorem evB_chain (op op' : Cmp) (a b c : E) : evB P (.chain op op' a b c) env st = (ev P a env st).bind fun x st => (ev P b env st).bind fun y st => (match cmpD op st x y with
    | some true => (ev P c env st).bind fun z st => R.of (cmpD op' st y z) st
    | some false => .ok false st
    | none => .bad) := by first | (rw [evB]; done) | (rw [evB]; rfl)
@[simp] theorem evB_isN (neg : Bool) (a : E) : evB P (.isN neg a) env st = (ev P a env st).bind fun x st => .ok (match x with
    | .non => !neg
    | _ => neg) st := by first | (rw [evB]; done) | (rw [evB]; rfl)
@[simp] theorem evB_and (a b : B) : evB P (.and a b) env st = (evB P a env st).bind fun c st => bif c then evB P b env st else .ok false st := by first | (rw [evB]; done) | (rw [evB]; rfl)
@[simp] theorem evB_or (a b : B) : evB P (.or a b) env st = (evB P a env st).bind fun c st => bif c then .ok true st else evB P b env st := by first | (rw [evB]; done) | (rw [evB]; rfl)
@[simp] theorem evB_not (a : B) : evB P (.not a) env st = (evB P a env st).bind fun c st => .ok (!c) st := by first | (rw [evB]; done) | (rw [evB]; rfl)
@[simp] theorem evB_val (e : E) : evB P (.val e) env st = (ev P e env st).bind fun x st => (match x with
    | .bl b => .ok b st
    | _ => .bad) := by first | (rw [evB]; done) | (rw [evB]; rfl)
@[simp] theorem evI_of (e : E) : evI P (.of e) env st = (ev P e env st).bind fun x st => R.of (walkOf st x) st := by first | (rw [evI]; done) | (rw [evI]; rfl)
@[simp] theorem evI_rng (a : E) : evI P (.rng a) env st = (ev P a env st).bind fun x st => (match x with
    | .int i => if inRange i then .ok ⟨rangeD 0 i, fun _ => true⟩ st else .bad
    | _ => .bad) := by first | (rw [evI]; done) | (rw [evI]; rfl)
@[simp] theorem evI_rng2 (a b : E) : evI P (.rng2 a b) env st = (ev P a env st).bind fun x st => (ev P b env st).bind fun y st => (match x, y with
    | .int i, .int j => if inRange i && inRange j then .ok ⟨rangeD i j, fun _ => true⟩ st else .bad
    | _, _ => .bad) := by first | (rw [evI]; done) | (rw [evI]; rfl)
@[simp] theorem evI_zip (a b : E) : evI P (.zip a b) env st = (ev P a env st).bind fun x st => (ev P b env st).bind fun y st => (match walkOf st x, walkOf st y with
    | some p, some q => if lkD x = lkD y ∧ lkD x ≠ none then .ok ⟨zipD p.ds q.ds, fun st => p.w st && q.w st⟩ st else .bad
    | _, _ => .bad) := by first | (rw [evI]; done) | (rw [evI]; rfl)
@[simp] theorem evI_enum (a : E) : evI P (.enum a) env st = (ev P a env st).bind fun x st => (match walkOf st x with
    | some p => if lkD x = some true then .ok ⟨enumD p.ds, p.w⟩ st else .bad
    | _ => .bad) := by first | (rw [evI]; done) | (rw [evI]; rfl)
@[simp] theorem exec_set (i : Nat) (e : E) : exec P (.set i e) env st = Out.of (ev P e env st) env fun x st => .nx (env.set i (some x)) st := by first | (rw [exec]; done) | (rw [exec]; rfl)
@[simp] theorem exec_setT (is : List Nat) (e : E) : exec P (.setT is e) env st = Out.of (ev P e env st) env fun x st => (match asg (.tp is) x env with
    | some env' => .nx env' st
    | none => .bad) := by first | (rw [exec]; done) | (rw [exec]; rfl)
@[simp] theorem exec_setIx (o i e : E) : exec P (.setIx o i e) env st = Out.of (ev P e env st) env fun x st => Out.of (ev P o env st) env fun p st => Out.of (ev P i env st) env fun k st => (match setIxD st p k x with
    | some st' => .nx env st'
    | none => .bad) := by first | (rw [exec]; done) | (rw [exec]; rfl)
@[simp] theorem exec_ex (e : E) : exec P (.ex e) env st = Out.of (ev P e env st) env fun _ st => .nx env st := by first | (rw [exec]; done) | (rw [exec]; rfl)
@[simp] theorem exec_ret (e : E) : exec P (.ret e) env st = Out.of (ev P e env st) env fun x st => .rt x st := by first | (rw [exec]; done) | (rw [exec]; rfl)
@[simp] theorem exec_retN : exec P .retN env st = .rt .non st := by first | (rw [exec]; done) | (rw [exec]; rfl)
@[simp] theorem exec_ite (t : B) (a b : Ss) : exec P (.ite t a b) env st = Out.of (evB P t env st) env fun c st => bif c then execs P a env st else execs P b env st := by first | (rw [exec]; done) | (rw [exec]; rfl)
theorem exec_loop (tg : Tg) (it : It) (b : Ss) : exec P (.loop tg it b) env st = Out.of (evI P it env st) env fun wk st => forL (fun d env st => match asg tg d env with
      | some env' => execs P b env' st
      | none => .bad) wk.w wk.ds env st := by first | (rw [exec]; done) | (rw [exec]; rfl)
theorem exec_wh (t : B) (b : Ss) : exec P (.wh t b) env st = whileL (fun env st => evB P t env st) (fun env st => execs P b env st) whileMax env st := by first | (rw [exec]; done) | (rw [exec]; rfl)
@[simp] theorem exec_raise (x : Nat) : exec P (.raise x) env st = .ex x env st := by first | (rw [exec]; done) | (rw [exec]; rfl)
@[simp] theorem exec_pass : exec P .pass env st = .nx env st := by first | (rw [exec]; done) | (rw [exec]; rfl)
@[simp] theorem execs_nil : execs P .nil env st = .nx env st := by first | (rw [execs]; done) | (rw [execs]; rfl)
@[simp] theorem execs_cons (s : S) (ss : Ss) : execs P (.cons s ss) env st = (exec P s env st).seq fun env st => execs P ss env st := by first | (rw [execs]; done) | (rw [execs]; rfl)
end
@[simp] theorem finish_nx (st : St) (env : Env) (st' : St) : finish st (.nx env st') = gc .non st st' := rfl
@[simp] theorem finish_rt (st : St) (d : D) (st' : St) : finish st (.rt d st') = gc d st st' := rfl
@[simp] theorem finish_ex (st : St) (x : Nat) (env : Env) (st' : St) : finish st (.ex x env st') = gcx x st st' := rfl
theorem gcOk_self (st : St) : gcOk st.length st st = true := by
  unfold gcOk
  simp
@[simp] theorem gc_same (d : D) (st : St) : gc d st st = .ok d st := by
  unfold gc
  split
  · rw [List.take_length]
  · rfl
@[simp] theorem gcx_same (x : Nat) (st : St) : gcx x st st = .ex x st := by
  unfold gcx
  split
  · rw [List.take_length]
  · rfl
/-- new objects go, where the old ones are as they were -/
theorem gc_new {d : D} {st new : St} (h : d.lt st.length = true) : gc d st (st ++ new) = .ok d st := by
  unfold gc
  have : gcOk st.length st (st ++ new) = true := by
    unfold gcOk
    rw [Bool.and_eq_true]
    refine ⟨decide_eq_true (by simp), List.all_eq_true.mpr fun i hi => ?_⟩
    have hi := List.mem_range.mp hi
    rw [List.getElem?_append_left hi]
    simp
  rw [h, this]
  simp
/-- new objects go, where the old ones were changed but lean on none of the new ones -/
theorem gc_old {d : D} {st st' new : St} (hl : st'.length = st.length) (h : d.lt st.length = true) (ho : ∀ (i : Nat) o, st'[i]? = some o → st[i]? = some o ∨ o.lt st.length = true) : gc d st (st' ++ new) = .ok d st' := by
  unfold gc
  have : gcOk st.length st (st' ++ new) = true := by
    unfold gcOk
    rw [Bool.and_eq_true]
    refine ⟨decide_eq_true (by simp [hl]), List.all_eq_true.mpr fun i hi => ?_⟩
    have hi := List.mem_range.mp hi
    rw [List.getElem?_append_left (by rw [hl]; exact hi)]
    have hi2 : i < st'.length := by rw [hl]; exact hi
    rw [List.getElem?_eq_getElem hi2]
    rcases ho i _ (List.getElem?_eq_getElem hi2) with h | h
    · simp [h]
    · simp [h]
  rw [h, this]
  simp [← hl]
/-! ### values -/
section
variable (st : St)
@[simp] theorem view_non : view st .non = .non := rfl
@[simp] theorem view_bl (b : Bool) : view st (.bl b) = .bl b := rfl
@[simp] theorem view_int (i : Int) : view st (.int i) = .int i := rfl
@[simp] theorem view_str (i : Str) : view st (.str i) = .str i := rfl
@[simp] theorem view_tup (i : List D) : view st (.tup i) = .tup i := rfl
@[simp] theorem view_lst' (i : List D) : view st (.lst i) = .lst i := rfl
@[simp] theorem view_scr (i : List D) : view st (.scr i) = .scr i := rfl
theorem view_ref {n : Nat} {ds : List D} (h : st[n]? = some (.lst ds)) : view st (.ref n) = .lst ds := by
  show (match st[n]? with | some (.lst ds) => D.lst ds | _ => D.ref n) = _
  rw [h]
variable (m : Bool)
@[simp] theorem add_int (i j : Int) : binD .add m (.int i) (.int j) st = .ok (.int (i + j)) st := rfl
@[simp] theorem sub_int (i j : Int) : binD .sub m (.int i) (.int j) st = .ok (.int (i - j)) st := rfl
theorem mul_int (i j : Int) : binD .mul m (.int i) (.int j) st = if small i || small j then .ok (.int (i * j)) st else .bad := rfl
theorem mod_int (i j : Int) : binD .mod m (.int i) (.int j) st = if 0 < j then .ok (.int (i % j)) st else .bad := rfl
theorem fdiv_int (i j : Int) : binD .fdiv m (.int i) (.int j) st = if 0 < j ∧ j.natAbs.log2 < 9000 then .ok (.int (i / j)) st else .bad := rfl
theorem pow_int (i j : Int) : binD .pow m (.int i) (.int j) st = if 0 ≤ j ∧ j ≤ 1000000 ∧ i.natAbs < 2 ^ 64 then .ok (.int (i ^ j.toNat)) st else .bad := rfl
theorem add_tup (a b : List D) : binD .add m (.tup a) (.tup b) st = if a.length + b.length ≤ sizeMax then .ok (.tup (a ++ b)) st else .bad := rfl
theorem add_lst (a b : List D) : binD .add m (.lst a) (.lst b) st = mk m (a ++ b) st := rfl
@[simp] theorem lt_int (i j : Int) : cmpD .lt st (.int i) (.int j) = some (decide (i < j)) := rfl
@[simp] theorem le_int (i j : Int) : cmpD .le st (.int i) (.int j) = some (decide (i ≤ j)) := rfl
@[simp] theorem gt_int (i j : Int) : cmpD .gt st (.int i) (.int j) = some (decide (j < i)) := rfl
@[simp] theorem ge_int (i j : Int) : cmpD .ge st (.int i) (.int j) = some (decide (j ≤ i)) := rfl
theorem sh_int (i : Int) : shapedD (.int i) = true := rfl
theorem sh_bl (i : Bool) : shapedD (.bl i) = true := rfl
theorem eq_int (i j : Int) : cmpD .eq st (.int i) (.int j) = some (decide (i = j)) := by
  show (if shapedD (.int i) && shapedD (.int j) then some (i == j) else none) = _
  rw [sh_int, sh_int, Bool.beq_eq_decide_eq] <;> rfl
theorem ne_int (i j : Int) : cmpD .ne st (.int i) (.int j) = some (!decide (i = j)) := by
  show (cmpD .eq st (.int i) (.int j)).map (!·) = _
  rw [eq_int] <;> rfl
theorem eq_str (i j : Str) : cmpD .eq st (.str i) (.str j) = some (decide (i = j)) := rfl
theorem ne_str (i j : Str) : cmpD .ne st (.str i) (.str j) = some (!decide (i = j)) := by
  show (cmpD .eq st (.str i) (.str j)).map (!·) = _
  rw [eq_str] <;> rfl
theorem eq_bl (i j : Bool) : cmpD .eq st (.bl i) (.bl j) = some (i == j) := by
  cases i <;> cases j <;> rfl
theorem ne_bl (i j : Bool) : cmpD .ne st (.bl i) (.bl j) = some (!(i == j)) := by
  show (cmpD .eq st (.bl i) (.bl j)).map (!·) = _
  rw [eq_bl] <;> rfl
end
/-! an index within -/
end Ev
/-! Ev19: loops, places, to reckon with. -/
namespace Ev
open PySem
@[simp] theorem ixt0 (st : St) (a : D) (ds : List D) : ixD st (.tup (a :: ds)) (.int 0) = some a := L2.atI_nat (j := 0) rfl
@[simp] theorem ixt1 (st : St) (a b : D) (ds : List D) : ixD st (.tup (a :: b :: ds)) (.int 1) = some b := L2.atI_nat (j := 1) rfl
@[simp] theorem ixt2 (st : St) (a b c : D) (ds : List D) : ixD st (.tup (a :: b :: c :: ds)) (.int 2) = some c := L2.atI_nat (j := 2) rfl
@[simp] theorem ixt3 (st : St) (a b c d : D) (ds : List D) : ixD st (.tup (a :: b :: c :: d :: ds)) (.int 3) = some d := L2.atI_nat (j := 3) rfl
@[simp] theorem ixl0 (st : St) (a : D) (ds : List D) : ixD st (.lst (a :: ds)) (.int 0) = some a := L2.atI_nat (j := 0) rfl
@[simp] theorem ixl1 (st : St) (a b : D) (ds : List D) : ixD st (.lst (a :: b :: ds)) (.int 1) = some b := L2.atI_nat (j := 1) rfl
@[simp] theorem ixl2 (st : St) (a b c : D) (ds : List D) : ixD st (.lst (a :: b :: c :: ds)) (.int 2) = some c := L2.atI_nat (j := 2) rfl
@[simp] theorem ixl3 (st : St) (a b c d : D) (ds : List D) : ixD st (.lst (a :: b :: c :: d :: ds)) (.int 3) = some d := L2.atI_nat (j := 3) rfl
@[simp] theorem ixl4 (st : St) (a b c d e : D) (ds : List D) : ixD st (.lst (a :: b :: c :: d :: e :: ds)) (.int 4) = some e := L2.atI_nat (j := 4) rfl
theorem ixt_nat {st : St} {ds : List D} {k : Nat} {d : D} (h : ds[k]? = some d) : ixD st (.tup ds) (.int (k : Nat)) = some d := L2.atI_nat h
theorem ixl_nat {st : St} {ds : List D} {k : Nat} {d : D} (h : ds[k]? = some d) : ixD st (.lst ds) (.int (k : Nat)) = some d := L2.atI_nat h
/-- an index by a remainder -/
theorem ixt_int {st : St} {ds : List D} {i : Int} (h0 : 0 ≤ i) (h1 : i < ds.length) : ∃ d, ds[i.toNat]? = some d ∧ ixD st (.tup ds) (.int i) = some d := by
  have hl : i.toNat < ds.length := by omega
  refine ⟨ds[i.toNat], List.getElem?_eq_getElem hl, ?_⟩
  have := ixt_nat (st := st) (List.getElem?_eq_getElem hl)
  rwa [Int.toNat_of_nonneg h0] at this
theorem ixl_int {st : St} {ds : List D} {i : Int} (h0 : 0 ≤ i) (h1 : i < ds.length) : ∃ d, ds[i.toNat]? = some d ∧ ixD st (.lst ds) (.int i) = some d := by
  have hl : i.toNat < ds.length := by omega
  refine ⟨ds[i.toNat], List.getElem?_eq_getElem hl, ?_⟩
  have := ixl_nat (st := st) (List.getElem?_eq_getElem hl)
  rwa [Int.toNat_of_nonneg h0] at this
/-- a loop whose turns go on -/
theorem forL_all {body : D → Env → St → Out} {w : St → Bool} (I : Env → St → Prop) : ∀ {ds : List D} {env : Env} {st : St}, (∀ env st, I env st → w st = true) → (∀ d ∈ ds, ∀ env st, I env st → ∃ env' st', body d env st = .nx env' st' ∧ I env' st') → I env st → ∃ env' st', forL body w ds env st = .nx env' st' ∧ I env' st'
  | [], env, st, hw, _, i => ⟨env, st, by unfold forL; rw [if_pos (hw _ _ i)], i⟩
  | d :: ds, env, st, hw, h, i => by
    obtain ⟨env1, st1, e1, i1⟩ := h d List.mem_cons_self env st i
    obtain ⟨env2, st2, e2, i2⟩ := forL_all I (ds := ds) hw (fun d m => h d (List.mem_cons_of_mem _ m)) i1
    exact ⟨env2, st2, by unfold forL; rw [if_pos (hw _ _ i), e1]; exact e2, i2⟩
/-- .. by the turn -/
theorem forL_ix {body : D → Env → St → Out} {w : St → Bool} (I : Nat → Env → St → Prop) : ∀ {ds : List D} {n : Nat} {env : Env} {st : St}, (∀ n env st, I n env st → w st = true) → (∀ j d, ds[j]? = some d → ∀ env st, I (n + j) env st → ∃ env' st', body d env st = .nx env' st' ∧ I (n + j + 1) env' st') → I n env st → ∃ env' st', forL body w ds env st = .nx env' st' ∧ I (n + ds.length) env' st'
  | [], n, env, st, hw, _, i => ⟨env, st, by unfold forL; rw [if_pos (hw _ _ _ i)], i⟩
  | d :: ds, n, env, st, hw, h, i => by
    obtain ⟨env1, st1, e1, i1⟩ := h 0 d rfl env st i
    obtain ⟨env2, st2, e2, i2⟩ := forL_ix I (ds := ds) (n := n + 1) hw (fun j d' m env st q => by
      have := h (j + 1) d' (by simpa using m) env st (by rw [show n + (j + 1) = n + 1 + j by omega]; exact q)
      rwa [show n + (j + 1) + 1 = n + 1 + j + 1 by omega] at this) i1
    refine ⟨env2, st2, by unfold forL; rw [if_pos (hw _ _ _ i), e1]; exact e2, ?_⟩
    rwa [show n + (d :: ds).length = n + 1 + ds.length by simp only [List.length_cons]; omega]
/-- for, by what stays true -/
theorem exec_for {P : Par} {tg : Tg} {it : It} {b : Ss} {env : Env} {st st1 : St} {wk : Walk} (I : Env → St → Prop) (hi : evI P it env st = .ok wk st1) (hw : ∀ env st, I env st → wk.w st = true)
    (turn : ∀ d ∈ wk.ds, ∀ env st, I env st → ∃ env1 env' st', asg tg d env = some env1 ∧ execs P b env1 st = .nx env' st' ∧ I env' st') (h0 : I env st1) : ∃ env' st', exec P (.loop tg it b) env st = .nx env' st' ∧ I env' st' := by
  rw [exec_loop, hi]
  refine forL_all I hw (fun d m env st i => ?_) h0
  obtain ⟨env1, env', st', e1, e2, i'⟩ := turn d m env st i
  exact ⟨env', st', by rw [e1]; exact e2, i'⟩
/-- .. and by the turn -/
theorem exec_forI {P : Par} {tg : Tg} {it : It} {b : Ss} {env : Env} {st st1 : St} {wk : Walk} (I : Nat → Env → St → Prop) (hi : evI P it env st = .ok wk st1) (hw : ∀ n env st, I n env st → wk.w st = true)
    (turn : ∀ j d, wk.ds[j]? = some d → ∀ env st, I j env st → ∃ env1 env' st', asg tg d env = some env1 ∧ execs P b env1 st = .nx env' st' ∧ I (j + 1) env' st') (h0 : I 0 env st1) : ∃ env' st', exec P (.loop tg it b) env st = .nx env' st' ∧ I wk.ds.length env' st' := by
  rw [exec_loop, hi]
  have := forL_ix (body := fun d env st => match asg tg d env with
      | some env' => execs P b env' st
      | none => .bad) (ds := wk.ds) (n := 0) I hw (fun j d m env st i => by
    rw [Nat.zero_add] at i ⊢
    obtain ⟨env1, env', st', e1, e2, i'⟩ := turn j d m env st i
    exact ⟨env', st', by rw [e1]; exact e2, i'⟩) h0
  rwa [Nat.zero_add] at this
/-- a comprehension that takes every item -/
theorem lcL_map {body : D → St → R (Option D)} {w : St → Bool} {st : St} (f : D → D) (hw : w st = true) : ∀ {ds acc : List D}, (∀ d ∈ ds, body d st = .ok (some (f d)) st) → acc.length + ds.length ≤ sizeMax → lcL body w ds acc st = .ok (acc ++ ds.map f) st
  | [], acc, _, _ => by unfold lcL; rw [if_pos hw]; simp
  | d :: ds, acc, h, hl => by
    unfold lcL
    have h1 : (w st && decide (acc.length < sizeMax)) = true := by
      rw [hw, decide_eq_true (by simp only [List.length_cons] at hl; omega)] <;> rfl
    rw [if_pos h1, h d List.mem_cons_self]
    show lcL body w ds (acc ++ [f d]) st = _
    rw [lcL_map f hw (ds := ds) (fun d m => h d (List.mem_cons_of_mem _ m)) (by simp only [List.length_append, List.length_cons, List.length_nil] at hl ⊢; omega)]
    simp
theorem ev_lcMap {L : Lw} {C : Oracle} {own : List Nat} {tg : Tg} {it : It} {e : E} {env : Env} {st st1 : St} {wk : Walk} (f : D → D) (hi : evI ⟨L.sub, C⟩ it env st = .ok wk st1) (hw : wk.w st1 = true) (hl : wk.ds.length ≤ sizeMax)
    (h : ∀ d ∈ wk.ds, ∃ env', asg tg d (wipeD env own) = some env' ∧ ev ⟨L.sub, C⟩ e env' st1 = .ok (f d) st1) : ev ⟨L.sub, C⟩ (.lc false own tg it .yes e) env st = .ok (.lst (wk.ds.map f)) st1 := by
  rw [ev_lc, hi]
  simp only [R.bind_ok]
  rw [lcL_map f hw (fun d m => ?_) (by simpa using hl)]
  · simp only [R.bind_ok, List.nil_append]
    unfold mk
    rw [if_pos (by simpa using hl)]
  · obtain ⟨env', e1, e2⟩ := h d m
    unfold lcB
    rw [e1]
    simp only [obB, R.bind_ok, e2]
theorem mk_val {ds : List D} {st : St} (h : ds.length ≤ sizeMax) : mk false ds st = .ok (.lst ds) st := by
  unfold mk; rw [if_pos h]
@[simp] theorem mk_f (ds : List D) (st : St) : mk false ds st = if ds.length ≤ 16777216 then .ok (.lst ds) st else .bad := rfl
@[simp] theorem mk_t (ds : List D) (st : St) : mk true ds st = if ds.length ≤ 16777216 then .ok (.ref st.length) (st ++ [.lst ds]) else .bad := rfl
theorem mk_obj {ds : List D} {st : St} (h : ds.length ≤ sizeMax) : mk true ds st = .ok (.ref st.length) (st ++ [.lst ds]) := by
  unfold mk; rw [if_pos h]
@[simp] theorem sizeMax_eq : sizeMax = 16777216 := rfl
theorem boolsOf_map {α : Type} (f : α → Bool) : ∀ xs : List α, boolsOf (xs.map fun x => .bl (f x)) = some (xs.map f)
  | [] => rfl
  | x :: xs => by simp [boolsOf, boolsOf_map f xs]
theorem strsOf_map {α : Type} (f : α → Str) : ∀ xs : List α, strsOf (xs.map fun x => .str (f x)) = some (xs.map f)
  | [] => rfl
  | x :: xs => by simp [strsOf, strsOf_map f xs]
theorem biall (m : Bool) (st : St) (ds : List D) : biD .all m st [.lst ds] = R.of ((boolsOf ds).map fun bs => .bl (bs.all id)) st := rfl
theorem rangeD_get {lo hi : Int} {j : Nat} {d : D} (h : (rangeD lo hi)[j]? = some d) : d = .int (lo + j) ∧ lo + j < hi := by
  unfold rangeD at h
  rw [List.getElem?_map] at h
  cases e : (List.range (hi - lo).toNat)[j]? with
  | none => rw [e] at h; cases h
  | some x =>
    rw [e] at h
    have hl := (List.getElem?_eq_some_iff.mp e).1
    rw [List.length_range] at hl
    rw [List.getElem?_range hl] at e
    cases e
    cases h
    exact ⟨rfl, by omega⟩
theorem inRange_nat {n : Nat} (h : n < 2 ^ 62) : inRange (n : Nat) = true := by
  unfold inRange
  exact decide_eq_true (by omega)
theorem last_get (st : St) (o : Ob) : (st ++ [o])[st.length]? = some o := by simp
theorem last_set (st : St) (o o' : Ob) : (st ++ [o]).set st.length o' = st ++ [o'] := by simp
theorem app_at {st : St} {n : Nat} {ds : List D} {x : D} {m : Bool} (h : st[n]? = some (.lst ds)) (hl : ds.length < sizeMax) : bmD .append m st (.ref n) [x] = .ok .non (st.set n (.lst (ds ++ [x]))) := by
  show (match st[n]? with
    | some (.lst ds) => if ds.length < sizeMax then R.ok D.non (st.set n (.lst (ds ++ [x]))) else .bad
    | _ => .bad) = _
  rw [h]
  exact if_pos hl
theorem rc_ref {st : St} {n : Nat} {ds : List D} (h : st[n]? = some (.lst ds)) : recvD Rc.list st (.ref n) = true := by
  unfold recvD
  rw [view_ref st h]
theorem bmjoin_at {m : Bool} {st : St} {y : Str} {d : D} {parts : List Str} (hd : seqOf st d = some (parts.map .str)) (h : (parts.map fun z => z.length).sum + parts.length * y.length ≤ sizeMax) : bmD .join m st (.str y) [d] = .ok (.str (Txt.join y parts)) st := by
  have e : strsOf (parts.map D.str) = some parts := by
    have := strsOf_map (fun x : Str => x) parts
    simpa using this
  show (match seqOf st d with
    | some ds => (match strsOf ds with
      | some ys => if (ys.map fun z : Str => z.length).sum + ys.length * y.length ≤ sizeMax then R.ok (D.str (Txt.join y ys)) st else .bad
      | none => .bad)
    | none => .bad) = _
  rw [hd]
  show (match strsOf (parts.map D.str) with
      | some ys => if (ys.map fun z : Str => z.length).sum + ys.length * y.length ≤ sizeMax then R.ok (D.str (Txt.join y ys)) st else .bad
      | none => .bad) = _
  rw [e]
  exact if_pos h
theorem seq_ref {st : St} {n : Nat} {ds : List D} (h : st[n]? = some (.lst ds)) : seqOf st (.ref n) = some ds := by
  unfold seqOf
  rw [view_ref st h]
/-- while, by a measure -/
theorem whileL_by {test : Env → St → R Bool} {body : Env → St → Out} (I : Env → St → Prop) (μ : Env → St → Nat)
    (turn : ∀ env st, I env st → test env st = .ok false st ∨ (test env st = .ok true st ∧ ∃ env' st', body env st = .nx env' st' ∧ I env' st' ∧ μ env' st' < μ env st)) :
    ∀ (k : Nat) (env : Env) (st : St), I env st → μ env st < k → ∃ env' st', whileL test body k env st = .nx env' st' ∧ I env' st' ∧ test env' st' = .ok false st'
  | 0, _, _, _, h => absurd h (Nat.not_lt_zero _)
  | k + 1, env, st, i, h => by
    rw [whileL]
    rcases turn env st i with e | ⟨e, env1, st1, e1, i1, m1⟩
    · exact ⟨env, st, by rw [e]; rfl, i, e⟩
    · obtain ⟨env2, st2, e2, i2, e3⟩ := whileL_by I μ turn k env1 st1 i1 (by omega)
      refine ⟨env2, st2, ?_, i2, e3⟩
      rw [e]
      show (match body env st with
        | .nx env' st' => whileL test body k env' st'
        | .ct env' st' => whileL test body k env' st'
        | .bk env' st' => .nx env' st'
        | o => o) = _
      rw [e1]
      exact e2
theorem exec_while {P : Par} {t : B} {b : Ss} {env : Env} {st : St} (I : Env → St → Prop) (μ : Env → St → Nat)
    (turn : ∀ env st, I env st → evB P t env st = .ok false st ∨ (evB P t env st = .ok true st ∧ ∃ env' st', execs P b env st = .nx env' st' ∧ I env' st' ∧ μ env' st' < μ env st)) (h0 : I env st) (hm : μ env st < whileMax) :
    ∃ env' st', exec P (.wh t b) env st = .nx env' st' ∧ I env' st' := by
  rw [exec_wh]
  obtain ⟨env', st', e, i, _⟩ := whileL_by I μ turn whileMax env st h0 hm
  exact ⟨env', st', e, i⟩
theorem gc_len {d : D} {st st' : St} (h : st'.length = st.length) : gc d st st' = .ok d st' := by
  unfold gc
  split
  · rw [← h, List.take_length]
  · rfl
theorem ix_ref {st : St} {n : Nat} {ds : List D} (h : st[n]? = some (.lst ds)) (i : Int) : ixD st (.ref n) (.int i) = L2.atI ds i := by
  unfold ixD
  rw [view_ref st h]
theorem ints_at {ns : List Int} {i : Int} (h0 : 0 ≤ i) (h1 : i < ns.length) : ∃ p, p ∈ ns ∧ L2.atI (ns.map D.int) i = some (.int p) := by
  have hl : i.toNat < ns.length := by omega
  refine ⟨ns[i.toNat], List.getElem_mem hl, ?_⟩
  have : (ns.map D.int)[i.toNat]? = some (.int ns[i.toNat]) := by rw [List.getElem?_map, List.getElem?_eq_getElem hl]; rfl
  have := L2.atI_nat this
  rwa [Int.toNat_of_nonneg h0] at this
theorem pow5 (st : St) {x : Int} (h0 : 0 ≤ x) (h1 : x < 18446744073709551616) : binD .pow false (.int x) (.int 5) st = .ok (.int (x ^ 5)) st := by
  rw [pow_int, if_pos ⟨by decide, by decide, by omega⟩] <;> rfl
theorem mod_pos (m : Bool) (st : St) (i : Int) {j : Int} (h : 0 < j) : binD .mod m (.int i) (.int j) st = .ok (.int (i % j)) st := by rw [mod_int, if_pos h]
theorem log_small {j : Int} (h0 : 0 < j) (h1 : j < 4294967296) : j.natAbs.log2 < 9000 := by
  have h : j.natAbs ≠ 0 := by omega
  exact (Nat.log2_lt h).mpr (Nat.lt_of_lt_of_le (show j.natAbs < 2 ^ 32 by omega) (Nat.pow_le_pow_right (by decide) (by decide)))
theorem div_pos (m : Bool) (st : St) (i : Int) {j : Int} (h : 0 < j) (h1 : j < 4294967296) : binD .fdiv m (.int i) (.int j) st = .ok (.int (i / j)) st := by rw [fdiv_int, if_pos ⟨h, log_small h h1⟩]
theorem mul_l (m : Bool) (st : St) {i : Int} (j : Int) (h : i.natAbs < 18446744073709551616) : binD .mul m (.int i) (.int j) st = .ok (.int (i * j)) st := by
  rw [mul_int, if_pos]
  unfold small
  rw [decide_eq_true h]
  rfl
mutual
theorem shape_int : ∀ ns : List Int, PyData.canLayAll0 (D.pys (ns.map D.int)) = true
  | [] => rfl
  | n :: ns => by
    show (true && PyData.canLayAll0 (D.pys (ns.map D.int))) = true
    rw [shape_int ns] <;> rfl
end
theorem pure_ints : ∀ ns : List Int, D.pures (ns.map D.int) = true
  | [] => rfl
  | n :: ns => by rw [List.map_cons, D.pures, pure_ints ns]; rfl
theorem setIx_dT {st : St} {n : Nat} {kvs : List (List L2.Key × D)} {k x : D} {z : List L2.Key} (h : st[n]? = some (.dT kvs)) (hk : keyT k = some z) (hl : kvs.length < sizeMax) : setIxD st (.ref n) k x = some (st.set n (.dT (putV z x kvs))) := by
  simp only [setIxD, h, hk, if_pos hl]
theorem setIx_dK {st : St} {n : Nat} {kvs : List (L2.Key × D)} {k x : D} {z : L2.Key} (h : st[n]? = some (.dK kvs)) (hk : keyD k = some z) (hl : kvs.length < sizeMax) : setIxD st (.ref n) k x = some (st.set n (.dK (putV z x kvs))) := by
  simp only [setIxD, h, hk, if_pos hl]
theorem keysOf_dT {st : St} {n : Nat} {kvs : List (List L2.Key × D)} (h : st[n]? = some (.dT kvs)) : keysOf st (.ref n) = some (kvs.map fun p => .tup (p.1.map kD)) := by
  simp only [keysOf, h]
theorem keysOf_dK {st : St} {n : Nat} {kvs : List (L2.Key × D)} (h : st[n]? = some (.dK kvs)) : keysOf st (.ref n) = some (kvs.map fun p => kD p.1) := by
  simp only [keysOf, h]
theorem lookD_dT {st : St} {n : Nat} {kvs : List (List L2.Key × D)} {k : D} {z : List L2.Key} (h : st[n]? = some (.dT kvs)) (hk : keyT k = some z) : lookD st (.ref n) k = some (valV z kvs) := by
  simp only [lookD, h, hk, Option.map_some]
theorem lookD_dK {st : St} {n : Nat} {kvs : List (L2.Key × D)} {k : D} {z : L2.Key} (h : st[n]? = some (.dK kvs)) (hk : keyD k = some z) : lookD st (.ref n) k = some (valV z kvs) := by
  simp only [lookD, h, hk, Option.map_some]
theorem view_dT {st : St} {n : Nat} {kvs : List (List L2.Key × D)} (h : st[n]? = some (.dT kvs)) : view st (.ref n) = .ref n := by
  simp only [view, h]
theorem view_dK {st : St} {n : Nat} {kvs : List (L2.Key × D)} (h : st[n]? = some (.dK kvs)) : view st (.ref n) = .ref n := by
  simp only [view, h]
theorem ix_dT {st : St} {n : Nat} {kvs : List (List L2.Key × D)} {k v : D} {z : List L2.Key} (h : st[n]? = some (.dT kvs)) (hk : keyT k = some z) (hv : valV z kvs = some v) : ixD st (.ref n) k = some v := by
  unfold ixD
  rw [view_dT h]
  simp only [lookD_dT h hk, hv]
theorem ix_dK {st : St} {n : Nat} {kvs : List (L2.Key × D)} {k v : D} {z : L2.Key} (h : st[n]? = some (.dK kvs)) (hk : keyD k = some z) (hv : valV z kvs = some v) : ixD st (.ref n) k = some v := by
  unfold ixD
  rw [view_dK h]
  simp only [lookD_dK h hk, hv]
end Ev
namespace Ev
open PySem PySem.Spec PyProof.Rows L2 TL
def F_is_from : Fn := ⟨3, 3, [],
  (.cons (.ret (.bo (.and (.val (.isi .int (.v 0))) (.and (.not (.val (.isi .bool (.v 0)))) (.chain .le .le (.v 1) (.v 0) (.v 2))))))
  .nil)⟩
def F_is_day : Fn := ⟨1, 1, [],
  (.cons (.ret (.call 11 (.cons (.v 0) (.cons (.c (.int 0)) (.cons (.g (Str.ofString "LAST_DAY") (.int 1000000000)) .nil)))))
  .nil)⟩
def F_is_one : Fn := ⟨1, 1, [],
  (.cons (.ret (.call 11 (.cons (.v 0) (.cons (.c (.int 0)) (.cons (.g (Str.ofString "LAST_ONE") (.int 99)) .nil)))))
  .nil)⟩
def F_is_row : Fn := ⟨3, 3, [],
  (.cons (.ret (.bo (.and (.val (.isi .tuple (.v 0))) (.chain .le .le (.v 1) (.bi .len false (.cons (.v 0) .nil)) (.v 2)))))
  .nil)⟩
def F_rises_b1 : Ss := (.cons (.ite (.cmp .ge (.sl false (.ix (.v 0) (.bin .sub false (.v 2) (.c (.int 1)))) .no (.so (.v 1))) (.sl false (.ix (.v 0) (.v 2)) .no (.so (.v 1)))) (.cons (.ret (.c (.bl false)))
  .nil) .nil)
  .nil)
def F_rises : Fn := ⟨2, 3, [],
  (.cons (.loop (.nm 2) (.rng2 (.c (.int 1)) (.bi .len false (.cons (.v 0) .nil))) F_rises_b1)
  (.cons (.ret (.c (.bl true)))
  .nil))⟩
def F_is_at : Fn := ⟨3, 3, [],
  (.cons (.ite (.or (.not (.val (.call 14 (.cons (.v 0) (.cons (.c (.int 2)) (.cons (.c (.int 2)) .nil)))))) (.not (.val (.isi .str (.ix (.v 0) (.c (.int 0))))))) (.cons (.ret (.c (.bl false)))
  .nil) .nil)
  (.cons (.ite (.cmp .eq (.ix (.v 0) (.c (.int 0))) (.c (.str (Str.ofString "in")))) (.cons (.ret (.call 11 (.cons (.ix (.v 0) (.c (.int 1))) (.cons (.c (.int 0)) (.cons (.bin .sub false (.v 2) (.c (.int 1))) .nil)))))
  .nil) .nil)
  (.cons (.ret (.bo (.and (.cmp .eq (.ix (.v 0) (.c (.int 0))) (.c (.str (Str.ofString "with")))) (.and (.val (.call 13 (.cons (.ix (.v 0) (.c (.int 1))) .nil))) (.cmp .ne (.ix (.v 0) (.c (.int 1))) (.v 1))))))
  .nil)))⟩
def F_is_fact : Fn := ⟨2, 2, [],
  (.cons (.ite (.or (.not (.val (.call 14 (.cons (.v 0) (.cons (.c (.int 4)) (.cons (.c (.int 4)) .nil)))))) (.or (.not (.val (.call 13 (.cons (.ix (.v 0) (.c (.int 0))) .nil)))) (.or (.not (.val (.call 11 (.cons (.ix (.v 0) (.c (.int 1))) (.cons (.c (.int 0)) (.cons (.c (.int 3)) .nil)))))) (.not (.val (.call 12 (.cons (.ix (.v 0) (.c (.int 2))) .nil))))))) (.cons (.ret (.c (.bl false)))
  .nil) .nil)
  (.cons (.ret (.call 16 (.cons (.ix (.v 0) (.c (.int 3))) (.cons (.ix (.v 0) (.c (.int 0))) (.cons (.v 1) .nil)))))
  .nil))⟩
def F_is_book_l1 : E := .lc false [2] (.nm 2) (.of (.v 1)) .yes (.call 17 (.cons (.v 2) (.cons (.bi .len false (.cons (.v 0) .nil)) .nil)))
def F_is_book : Fn := ⟨2, 3, [],
  (.cons (.ite (.or (.not (.val (.call 14 (.cons (.v 1) (.cons (.c (.int 0)) (.cons (.g (Str.ofString "MOST_FACTS") (.int 60)) .nil)))))) (.not (.val (.bi .all false (.cons F_is_book_l1 .nil))))) (.cons (.ret (.c (.bl false)))
  .nil) .nil)
  (.cons (.ret (.call 116 (.cons (.v 1) (.cons (.c (.int 3)) .nil))))
  .nil))⟩
def F_made_of_l1 : E := .lc false [2] (.nm 2) (.of (.v 0)) .yes (.bo (.cmp .isin (.v 2) (.v 1)))
def F_made_of : Fn := ⟨2, 3, [],
  (.cons (.ret (.bo (.and (.cmp .ne (.v 0) (.c (.str (Str.ofString "")))) (.val (.bi .all false (.cons F_made_of_l1 .nil))))))
  .nil)⟩
def F_number_in : Fn := ⟨1, 1, [],
  (.cons (.ite (.or (.cmp .gt (.bi .len false (.cons (.v 0) .nil)) (.g (Str.ofString "MOST_FIGURES") (.int 10))) (.not (.val (.call 118 (.cons (.v 0) (.cons (.g (Str.ofString "FIGURES") (.str (Str.ofString "0123456789"))) .nil)))))) (.cons (.ret (.c .non))
  .nil) .nil)
  (.cons (.ite (.and (.cmp .eq (.ix (.v 0) (.c (.int 0))) (.c (.str (Str.ofString "0")))) (.cmp .gt (.bi .len false (.cons (.v 0) .nil)) (.c (.int 1)))) (.cons (.ret (.c .non))
  .nil) .nil)
  (.cons (.ret (.bi .int false (.cons (.v 0) .nil)))
  .nil)))⟩
def F_numbers_in_l1 : E := .lc false [2] (.nm 2) (.of (.v 0)) .yes (.call 119 (.cons (.v 2) .nil))
def F_numbers_in : Fn := ⟨1, 3, [],
  (.cons (.set 1 F_numbers_in_l1)
  (.cons (.ite (.cmp .isin (.c .non) (.v 1)) (.cons (.ret (.c .non))
  .nil) .nil)
  (.cons (.ret (.bi .tuple false (.cons (.v 1) .nil)))
  .nil)))⟩
def F_fact_in : Fn := ⟨1, 2, [],
  (.cons (.ite (.or (.cmp .ne (.bi .len false (.cons (.v 0) .nil)) (.c (.int 5))) (.cmp .notin (.ix (.v 0) (.c (.int 3))) (.tup (.cons (.c (.str (Str.ofString "in"))) (.cons (.c (.str (Str.ofString "with"))) .nil))))) (.cons (.ret (.c .non))
  .nil) .nil)
  (.cons (.set 1 (.call 120 (.cons (.bin .add false (.sl false (.v 0) .no (.so (.c (.int 3)))) (.sl false (.v 0) (.so (.c (.int 4))) .no)) .nil)))
  (.cons (.ite (.isN false (.v 1)) (.cons (.ret (.c .non))
  .nil) .nil)
  (.cons (.ret (.bin .add false (.sl false (.v 1) .no (.so (.c (.int 3)))) (.tup (.cons (.tup (.cons (.ix (.v 0) (.c (.int 3))) (.cons (.ix (.v 1) (.c (.int 3))) .nil))) .nil))))
  .nil))))⟩
def F_fact_text : Fn := ⟨1, 5, [],
  (.cons (.setT [1, 2, 3, 4] (.v 0))
  (.cons (.ret (.bm .join false (.c (.str (Str.ofString " "))) (.cons (.lst false (.cons (.bi .str false (.cons (.v 1) .nil)) (.cons (.bi .str false (.cons (.v 2) .nil)) (.cons (.bi .str false (.cons (.v 3) .nil)) (.cons (.ix (.v 4) (.c (.int 0))) (.cons (.bi .str false (.cons (.ix (.v 4) (.c (.int 1))) .nil)) .nil)))))) .nil)))
  .nil))⟩
def F_book_text_l1 : E := .lc false [1] (.nm 1) (.of (.v 0)) .yes (.call 122 (.cons (.v 1) .nil))
def F_book_text : Fn := ⟨1, 2, [],
  (.cons (.ret (.bm .join false (.c (.str (Str.ofString "\n"))) (.cons F_book_text_l1 .nil)))
  .nil)⟩
def F_facts_in_l1 : E := .lc false [1] (.nm 1) (.of (.bm .split false (.v 0) (.cons (.c (.str (Str.ofString "\n"))) .nil))) .yes (.call 121 (.cons (.bm .split false (.v 1) (.cons (.c (.str (Str.ofString " "))) .nil)) .nil))
def F_facts_in : Fn := ⟨1, 2, [],
  (.cons (.ite (.cmp .eq (.v 0) (.c (.str (Str.ofString "")))) (.cons (.ret (.tup .nil))
  .nil) .nil)
  (.cons (.ret (.bi .tuple false (.cons F_facts_in_l1 .nil)))
  .nil))⟩
def F_read_book : Fn := ⟨2, 3, [],
  (.cons (.ite (.not (.val (.isi .str (.v 1)))) (.cons (.raise 8)
  .nil) .nil)
  (.cons (.set 2 (.call 124 (.cons (.v 1) .nil)))
  (.cons (.ite (.not (.val (.call 117 (.cons (.v 0) (.cons (.v 2) .nil))))) (.cons (.raise 8)
  .nil) .nil)
  (.cons (.ret (.v 2))
  .nil))))⟩
def F__law_deck_b1 : Ss := (.cons (.ex (.bm .append false (.v 1) (.cons (.bin .mod false (.v 3) (.c (.int 2147483629))) .nil)))
  (.cons (.set 3 (.bin .fdiv false (.v 3) (.c (.int 2147483629))))
  .nil))
def F__law_deck_b2 : Ss := (.cons (.set 3 (.bi .abs false (.cons (.v 3) .nil)))
  (.cons (.ex (.bm .append false (.v 2) (.cons (.bin .mod false (.v 3) (.c (.int 2147483629))) .nil)))
  (.cons (.wh (.and (.cmp .ge (.v 3) (.bin .pow false (.c (.int 10)) (.c (.int 18)))) (.cmp .lt (.bi .len false (.cons (.v 1) .nil)) (.c (.int 900)))) F__law_deck_b1)
  .nil)))
def F__law_deck : Fn := ⟨1, 4, [],
  (.cons (.set 1 (.lst true .nil))
  (.cons (.set 2 (.lst true (.cons (.bi .len false (.cons (.v 0) .nil)) .nil)))
  (.cons (.loop (.nm 3) (.of (.sl false (.v 0) .no (.so (.c (.int 63))))) F__law_deck_b2)
  (.cons (.ret (.lst true (.cons (.v 1) (.cons (.v 2) (.cons (.c (.int 0)) .nil)))))
  .nil))))⟩
def F__law_next : Fn := ⟨1, 5, [],
  (.cons (.ite (.cmp .ne (.ix (.v 0) (.c (.int 0))) (.lst false .nil)) (.cons (.ret (.bm .popat false (.ix (.v 0) (.c (.int 0))) (.cons (.c (.int 0)) .nil)))
  .nil) .nil)
  (.cons (.set 1 (.ix (.v 0) (.c (.int 2))))
  (.cons (.setIx (.v 0) (.c (.int 2)) (.bin .add false (.v 1) (.c (.int 1))))
  (.cons (.set 2 (.tup (.cons (.c (.int 48271)) (.cons (.c (.int 69621)) (.cons (.c (.int 16807)) (.cons (.c (.int 39373)) (.cons (.c (.int 30323)) (.cons (.c (.int 51749)) (.cons (.c (.int 44417)) (.cons (.c (.int 27449)) (.cons (.c (.int 63073)) (.cons (.c (.int 55001)) (.cons (.c (.int 33791)) (.cons (.c (.int 40009)) .nil))))))))))))))
  (.cons (.set 3 (.bin .add false (.ix (.ix (.v 0) (.c (.int 1))) (.bin .mod false (.bin .add false (.v 1) (.c (.int 1))) (.bi .len false (.cons (.ix (.v 0) (.c (.int 1))) .nil)))) (.bin .mul false (.c (.int 7)) (.v 1))))
  (.cons (.set 4 (.bin .mod false (.bin .pow false (.bin .add false (.v 3) (.bin .mul false (.ix (.v 2) (.bin .mod false (.v 1) (.c (.int 12)))) (.bin .add false (.v 1) (.c (.int 1))))) (.c (.int 5))) (.c (.int 2147483647))))
  (.cons (.ret (.bin .mod false (.bin .add false (.v 4) (.bin .mul false (.ix (.v 2) (.bin .mod false (.bin .add false (.v 1) (.c (.int 5))) (.c (.int 12)))) (.v 3))) (.c (.int 2147483629))))
  .nil)))))))⟩
def F__law_span : Fn := ⟨1, 1, [],
  (.cons (.ret (.ix (.lst false (.cons (.c (.int 5)) (.cons (.c (.int 12)) (.cons (.c (.int 1000000001)) .nil)))) (.bin .mod false (.call 27 (.cons (.v 0) .nil)) (.c (.int 3)))))
  .nil)⟩
def F__law_book_l1 : E := .lc false [12] (.nm 12) (.of (.sortk false (.v 5))) .yes (.bin .add false (.v 12) (.tup (.cons (.ix (.v 5) (.v 12)) .nil)))
def F__law_book_b1 : Ss := (.cons (.set 7 (.call 27 (.cons (.v 0) .nil)))
  (.cons (.set 8 (.bin .mod false (.v 7) (.v 3)))
  (.cons (.set 9 (.ix (.lst false (.cons (.c (.int 0)) (.cons (.bin .mod false (.call 27 (.cons (.v 0) .nil)) (.v 2)) .nil))) (.bin .mod false (.bin .fdiv false (.v 7) (.c (.int 512))) (.c (.int 2)))))
  (.cons (.set 10 (.call 27 (.cons (.v 0) .nil)))
  (.cons (.set 11 (.tup (.cons (.c (.str (Str.ofString "in"))) (.cons (.bin .mod false (.bin .fdiv false (.v 10) (.c (.int 3))) (.v 1)) .nil))))
  (.cons (.ite (.and (.cmp .eq (.bin .mod false (.v 10) (.c (.int 3))) (.c (.int 0))) (.cmp .gt (.v 3) (.c (.int 1)))) (.cons (.set 11 (.tup (.cons (.c (.str (Str.ofString "with"))) (.cons (.bin .mod false (.bin .add false (.bin .add false (.v 8) (.c (.int 1))) (.bin .mod false (.bin .fdiv false (.v 10) (.c (.int 3))) (.bin .sub false (.v 3) (.c (.int 1))))) (.v 3)) .nil))))
  .nil) .nil)
  (.cons (.setIx (.v 5) (.tup (.cons (.v 8) (.cons (.bin .mod false (.bin .fdiv false (.v 7) (.c (.int 128))) (.c (.int 4))) (.cons (.v 9) .nil)))) (.v 11))
  .nil)))))))
def F__law_book : Fn := ⟨5, 13, [],
  (.cons (.set 5 (.dic true))
  (.cons (.loop (.nm 6) (.rng (.bin .mod false (.call 27 (.cons (.v 0) .nil)) (.bin .add false (.v 4) (.c (.int 1))))) F__law_book_b1)
  (.cons (.ret (.bi .tuple false (.cons F__law_book_l1 .nil)))
  .nil)))⟩
def F__law_same_l1 : E := .lc false [2, 3] (.tp [2, 3]) (.zip (.v 0) (.v 1)) .yes (.call 26 (.cons (.v 2) (.cons (.v 3) .nil)))
def F__law_same : Fn := ⟨2, 4, [],
  (.cons (.ite (.val (.isi .tuple (.v 1))) (.cons (.ite (.or (.not (.val (.isi .tuple (.v 0)))) (.cmp .ne (.bi .len false (.cons (.v 0) .nil)) (.bi .len false (.cons (.v 1) .nil)))) (.cons (.ret (.c (.bl false)))
  .nil) .nil)
  (.cons (.ret (.bi .all false (.cons F__law_same_l1 .nil)))
  .nil)) .nil)
  (.cons (.ite (.isN false (.v 1)) (.cons (.ret (.bo (.isN false (.v 0))))
  .nil) .nil)
  (.cons (.ite (.or (.cmp .ne (.isi .bool (.v 0)) (.isi .bool (.v 1))) (.cmp .ne (.isi .str (.v 0)) (.isi .str (.v 1)))) (.cons (.ret (.c (.bl false)))
  .nil) .nil)
  (.cons (.ret (.bo (.cmp .eq (.v 0) (.v 1))))
  .nil))))⟩
def F__law_bare_lands : Fn := ⟨1, 1, [],
  (.cons (.ret (.bin .mul false (.tup (.cons (.tup (.cons (.tup .nil) (.cons (.tup .nil) (.cons (.tup .nil) (.cons (.tup .nil) (.cons (.tup .nil) .nil)))))) .nil)) (.v 0)))
  .nil)⟩
def F__law_book_text_b1 : Ss := (.cons (.set 6 (.lst false (.cons (.bi .str false (.cons (.v 2) .nil)) (.cons (.bi .str false (.cons (.v 3) .nil)) (.cons (.bi .str false (.cons (.v 4) .nil)) (.cons (.ix (.v 5) (.c (.int 0))) (.cons (.bi .str false (.cons (.ix (.v 5) (.c (.int 1))) .nil)) .nil)))))))
  (.cons (.ex (.bm .append false (.v 1) (.cons (.bm .join false (.c (.str (Str.ofString " "))) (.cons (.v 6) .nil)) .nil)))
  .nil))
def F__law_book_text : Fn := ⟨1, 7, [],
  (.cons (.set 1 (.lst true .nil))
  (.cons (.loop (.tp [2, 3, 4, 5]) (.of (.v 0)) F__law_book_text_b1)
  (.cons (.ret (.bm .join false (.c (.str (Str.ofString "\n"))) (.cons (.v 1) .nil)))
  .nil)))⟩
def F__law_drawn_book_b1 : Ss := (.cons (.set 6 (.call 27 (.cons (.v 0) .nil)))
  (.cons (.set 7 (.ix (.lst false (.cons (.bin .add false (.v 5) (.bin .mul false (.c (.int 40)) (.bin .fdiv false (.v 5) (.c (.int 30))))) (.cons (.bin .fdiv false (.v 5) (.c (.int 4))) .nil))) (.bin .mod false (.bin .fdiv false (.v 3) (.c (.int 6))) (.c (.int 2)))))
  (.cons (.set 8 (.ix (.lst false (.cons (.bin .mod false (.bin .fdiv false (.v 6) (.c (.int 256))) (.c (.int 4))) (.cons (.bin .mod false (.v 5) (.c (.int 4))) .nil))) (.bin .mod false (.bin .fdiv false (.v 3) (.c (.int 6))) (.c (.int 2)))))
  (.cons (.set 9 (.ix (.lst false (.cons (.tup (.cons (.c (.str (Str.ofString "in"))) (.cons (.bin .mod false (.v 6) (.v 1)) .nil))) (.cons (.tup (.cons (.c (.str (Str.ofString "with"))) (.cons (.bin .mod false (.bin .add false (.bin .add false (.v 7) (.c (.int 1))) (.bin .mod false (.v 6) (.c (.int 99)))) (.c (.int 100))) .nil))) .nil))) (.bin .mod false (.bin .fdiv false (.v 6) (.c (.int 128))) (.c (.int 2)))))
  (.cons (.ex (.bm .append false (.v 4) (.cons (.tup (.cons (.v 7) (.cons (.v 8) (.cons (.ix (.lst false (.cons (.bin .pow false (.c (.int 10)) (.c (.int 9))) (.cons (.c (.int 0)) (.cons (.bin .mod false (.v 6) (.v 2)) .nil)))) (.bin .mod false (.bin .fdiv false (.v 6) (.c (.int 1024))) (.c (.int 3)))) (.cons (.v 9) .nil))))) .nil)))
  .nil)))))
def F__law_drawn_book : Fn := ⟨3, 10, [],
  (.cons (.set 3 (.call 27 (.cons (.v 0) .nil)))
  (.cons (.ite (.cmp .gt (.bin .mod false (.v 3) (.c (.int 6))) (.c (.int 0))) (.cons (.ret (.call 24 (.cons (.v 0) (.cons (.v 1) (.cons (.v 2) (.cons (.ix (.lst false (.cons (.c (.int 6)) (.cons (.c (.int 2)) (.cons (.c (.int 100)) (.cons (.c (.int 100)) (.cons (.c (.int 6)) .nil)))))) (.bin .sub false (.bin .mod false (.v 3) (.c (.int 6))) (.c (.int 1)))) (.cons (.c (.int 40)) .nil)))))))
  .nil) .nil)
  (.cons (.set 4 (.lst true .nil))
  (.cons (.loop (.nm 5) (.rng (.c (.int 60))) F__law_drawn_book_b1)
  (.cons (.ret (.bi .tuple false (.cons (.v 4) .nil)))
  .nil)))))⟩
def F__law_right : Fn := ⟨2, 4, [],
  (.cons (.set 2 (.call 127 (.cons (.v 1) .nil)))
  (.cons (.set 3 (.call 123 (.cons (.v 0) .nil)))
  (.cons (.ite (.or (.not (.val (.isi .str (.v 3)))) (.cmp .ne (.v 3) (.call 128 (.cons (.v 0) .nil)))) (.cons (.ret (.c (.bl false)))
  .nil) .nil)
  (.cons (.ret (.bo (.and (.val (.call 26 (.cons (.call 125 (.cons (.v 2) (.cons (.v 3) .nil))) (.cons (.v 0) .nil)))) (.val (.call 26 (.cons (.call 125 (.cons (.call 127 (.cons (.c (.int 5)) .nil)) (.cons (.v 3) .nil))) (.cons (.v 0) .nil)))))))
  .nil))))⟩
def F_law : Fn := ⟨1, 6, [],
  (.cons (.set 1 (.call 19 (.cons (.v 0) .nil)))
  (.cons (.set 2 (.bin .add false (.c (.int 1)) (.bin .mod false (.call 27 (.cons (.v 1) .nil)) (.c (.int 5)))))
  (.cons (.set 3 (.call 126 (.cons (.v 1) .nil)))
  (.cons (.set 4 (.call 129 (.cons (.v 1) (.cons (.v 2) (.cons (.v 3) .nil)))))
  (.cons (.set 5 (.call 129 (.cons (.v 1) (.cons (.v 2) (.cons (.v 3) .nil)))))
  (.cons (.ite (.or (.not (.val (.call 130 (.cons (.v 4) (.cons (.v 2) .nil))))) (.or (.not (.val (.call 130 (.cons (.v 5) (.cons (.v 2) .nil))))) (.not (.val (.call 130 (.cons (.v 4) (.cons (.v 2) .nil))))))) (.cons (.ret (.c (.bl false)))
  .nil) .nil)
  (.cons (.ret (.bo (.and (.cmp .eq (.call 123 (.cons (.tup .nil) .nil)) (.c (.str (Str.ofString "")))) (.val (.call 26 (.cons (.call 125 (.cons (.call 127 (.cons (.v 2) .nil)) (.cons (.c (.str (Str.ofString ""))) .nil))) (.cons (.tup .nil) .nil)))))))
  .nil)))))))⟩
def clsN (c : Nat) : Str := ([(Str.ofString "LawError"), (Str.ofString "NotHeld"), (Str.ofString "NoTurn"), (Str.ofString "NoFact"), (Str.ofString "Twice"), (Str.ofString "TooMany"), (Str.ofString "NotTold"), (Str.ofString "NoRule"), (Str.ofString "NoText"), (Str.ofString "Realm"), (Str.ofString "Folk"), (Str.ofString "Case"), (Str.ofString "Docket"), (Str.ofString "Desk"), (Str.ofString "Names")] : List Str).getD c Str.empty
def fldN (c : Nat) : List Str := ([[], [], [], [], [], [], [], [], [], [(Str.ofString "now")], [(Str.ofString "many"), (Str.ofString "facts")], [(Str.ofString "court"), (Str.ofString "question"), (Str.ofString "kept")], [(Str.ofString "realm"), (Str.ofString "folk"), (Str.ofString "cases")], [(Str.ofString "realm"), (Str.ofString "folk"), (Str.ofString "docket")], [(Str.ofString "rules"), (Str.ofString "facts"), (Str.ofString "pairs")]] : List (List Str)).getD c []
def top (i : Nat) : Stmt := PySem.Challenge.pw_whoselaw_k73_books_written_and_read.main.body.getD i (.Pass ⟨0, 0, 0, 0⟩)
def rows : List Row := ([⟨11, ⟨("is_from", none), "is_from", "is_from", defArgs (top 6), defBody (top 6), defScope (top 6), [], []⟩, [(Str.ofString "thing"), (Str.ofString "low"), (Str.ofString "high")], F_is_from⟩, ⟨12, ⟨("is_day", none), "is_day", "is_day", defArgs (top 7), defBody (top 7), defScope (top 7), [], []⟩, [(Str.ofString "thing")], F_is_day⟩, ⟨13, ⟨("is_one", none), "is_one", "is_one", defArgs (top 8), defBody (top 8), defScope (top 8), [], []⟩, [(Str.ofString "thing")], F_is_one⟩, ⟨14, ⟨("is_row", none), "is_row", "is_row", defArgs (top 9), defBody (top 9), defScope (top 9), [], []⟩, [(Str.ofString "thing"), (Str.ofString "least"), (Str.ofString "most")], F_is_row⟩, ⟨116, ⟨("rises", none), "rises", "rises", defArgs (top 10), defBody (top 10), defScope (top 10), [], []⟩, [(Str.ofString "rows"), (Str.ofString "long"), (Str.ofString "k")], F_rises⟩, ⟨16, ⟨("is_at", none), "is_at", "is_at", defArgs (top 13), defBody (top 13), defScope (top 13), [], []⟩, [(Str.ofString "thing"), (Str.ofString "who"), (Str.ofString "many")], F_is_at⟩, ⟨17, ⟨("is_fact", none), "is_fact", "is_fact", defArgs (top 14), defBody (top 14), defScope (top 14), [], []⟩, [(Str.ofString "thing"), (Str.ofString "many")], F_is_fact⟩, ⟨117, ⟨("is_book", none), "is_book", "is_book", defArgs (top 15), defBody (top 15), defScope (top 15), [], []⟩, [(Str.ofString "lands"), (Str.ofString "thing"), (Str.ofString "fact")], F_is_book⟩, ⟨118, ⟨("made_of", none), "made_of", "made_of", defArgs (top 19), defBody (top 19), defScope (top 19), [], []⟩, [(Str.ofString "word"), (Str.ofString "signs"), (Str.ofString "sign")], F_made_of⟩, ⟨119, ⟨("number_in", none), "number_in", "number_in", defArgs (top 20), defBody (top 20), defScope (top 20), [], []⟩, [(Str.ofString "word")], F_number_in⟩] : List Row) ++
  ([⟨120, ⟨("numbers_in", none), "numbers_in", "numbers_in", defArgs (top 21), defBody (top 21), defScope (top 21), [], []⟩, [(Str.ofString "words"), (Str.ofString "found"), (Str.ofString "word")], F_numbers_in⟩, ⟨121, ⟨("fact_in", none), "fact_in", "fact_in", defArgs (top 22), defBody (top 22), defScope (top 22), [], []⟩, [(Str.ofString "words"), (Str.ofString "numbers")], F_fact_in⟩, ⟨122, ⟨("fact_text", none), "fact_text", "fact_text", defArgs (top 24), defBody (top 24), defScope (top 24), [], []⟩, [(Str.ofString "fact"), (Str.ofString "who"), (Str.ofString "role"), (Str.ofString "day"), (Str.ofString "at")], F_fact_text⟩, ⟨123, ⟨("book_text", none), "book_text", "book_text", defArgs (top 25), defBody (top 25), defScope (top 25), [], []⟩, [(Str.ofString "book"), (Str.ofString "fact")], F_book_text⟩, ⟨124, ⟨("facts_in", none), "facts_in", "facts_in", defArgs (top 26), defBody (top 26), defScope (top 26), [], []⟩, [(Str.ofString "text"), (Str.ofString "row")], F_facts_in⟩, ⟨125, ⟨("read_book", none), "read_book", "read_book", defArgs (top 27), defBody (top 27), defScope (top 27), [], []⟩, [(Str.ofString "lands"), (Str.ofString "thing"), (Str.ofString "found")], F_read_book⟩, ⟨19, ⟨("_law_deck", none), "_law_deck", "_law_deck", defArgs (top 29), defBody (top 29), defScope (top 29), [], []⟩, [(Str.ofString "_law_script"), (Str.ofString "_law_digits"), (Str.ofString "_law_cells"), (Str.ofString "_law_cell")], F__law_deck⟩, ⟨27, ⟨("_law_next", none), "_law_next", "_law_next", defArgs (top 30), defBody (top 30), defScope (top 30), [], []⟩, [(Str.ofString "_law_deck_here"), (Str.ofString "_law_at"), (Str.ofString "_law_primes"), (Str.ofString "_law_cell"), (Str.ofString "_law_mixed")], F__law_next⟩, ⟨126, ⟨("_law_span", none), "_law_span", "_law_span", defArgs (top 31), defBody (top 31), defScope (top 31), [], []⟩, [(Str.ofString "_law_deck_here")], F__law_span⟩, ⟨24, ⟨("_law_book", none), "_law_book", "_law_book", defArgs (top 32), defBody (top 32), defScope (top 32), [], []⟩, [(Str.ofString "_law_deck_here"), (Str.ofString "_law_many"), (Str.ofString "_law_span_here"), (Str.ofString "_law_ones"), (Str.ofString "_law_most"), (Str.ofString "_law_kept"), (Str.ofString "_law_k"), (Str.ofString "_law_number"), (Str.ofString "_law_who"), (Str.ofString "_law_day"), (Str.ofString "_law_more"), (Str.ofString "_law_there"), (Str.ofString "_law_key")], F__law_book⟩] : List Row) ++
  ([⟨26, ⟨("_law_same", none), "_law_same", "_law_same", defArgs (top 33), defBody (top 33), defScope (top 33), [], []⟩, [(Str.ofString "_law_found"), (Str.ofString "_law_due"), (Str.ofString "_law_one"), (Str.ofString "_law_other")], F__law_same⟩, ⟨127, ⟨("_law_bare_lands", none), "_law_bare_lands", "_law_bare_lands", defArgs (top 34), defBody (top 34), defScope (top 34), [], []⟩, [(Str.ofString "_law_many")], F__law_bare_lands⟩, ⟨128, ⟨("_law_book_text", none), "_law_book_text", "_law_book_text", defArgs (top 35), defBody (top 35), defScope (top 35), [], []⟩, [(Str.ofString "_law_book_here"), (Str.ofString "_law_rows"), (Str.ofString "_law_who"), (Str.ofString "_law_role"), (Str.ofString "_law_day"), (Str.ofString "_law_there"), (Str.ofString "_law_words")], F__law_book_text⟩, ⟨129, ⟨("_law_drawn_book", none), "_law_drawn_book", "_law_drawn_book", defArgs (top 36), defBody (top 36), defScope (top 36), [], []⟩, [(Str.ofString "_law_deck_here"), (Str.ofString "_law_many"), (Str.ofString "_law_span_here"), (Str.ofString "_law_number"), (Str.ofString "_law_found"), (Str.ofString "_law_k"), (Str.ofString "_law_more"), (Str.ofString "_law_who"), (Str.ofString "_law_role"), (Str.ofString "_law_there")], F__law_drawn_book⟩, ⟨130, ⟨("_law_right", none), "_law_right", "_law_right", defArgs (top 37), defBody (top 37), defScope (top 37), [], []⟩, [(Str.ofString "_law_book_here"), (Str.ofString "_law_many"), (Str.ofString "_law_lands"), (Str.ofString "_law_text")], F__law_right⟩, ⟨35, ⟨("law", none), "law", "law", defArgs (top 38), defBody (top 38), defScope (top 38), [], []⟩, [(Str.ofString "_law_script"), (Str.ofString "_law_deck_here"), (Str.ofString "_law_many"), (Str.ofString "_law_span_here"), (Str.ofString "_law_book_here"), (Str.ofString "_law_other")], F_law⟩] : List Row)
def L : Lw := ⟨rows, ⟨clsN, fldN⟩, [((Str.ofString "FIGURES"), (.str (Str.ofString "0123456789"))), ((Str.ofString "LAST_DAY"), (.int 1000000000)), ((Str.ofString "LAST_ONE"), (.int 99)), ((Str.ofString "MOST_FACTS"), (.int 60)), ((Str.ofString "MOST_FIGURES"), (.int 10))], [(Str.ofString "abs"), (Str.ofString "all"), (Str.ofString "bool"), (Str.ofString "int"), (Str.ofString "isinstance"), (Str.ofString "len"), (Str.ofString "range"), (Str.ofString "sorted"), (Str.ofString "str"), (Str.ofString "tuple"), (Str.ofString "zip")], [8], fun x y => x == y || y == 0⟩
theorem c_is_from (k : Nat) (a0 a1 a2 : D) (st : St) : call L.T (k + 1) 11 [a0, a1, a2] st = finish st (execs ⟨L.sub, call L.T k⟩ F_is_from.body [some a0, some a1, some a2] st) := rfl
theorem c_is_day (k : Nat) (a0 : D) (st : St) : call L.T (k + 1) 12 [a0] st = finish st (execs ⟨L.sub, call L.T k⟩ F_is_day.body [some a0] st) := rfl
theorem c_is_one (k : Nat) (a0 : D) (st : St) : call L.T (k + 1) 13 [a0] st = finish st (execs ⟨L.sub, call L.T k⟩ F_is_one.body [some a0] st) := rfl
theorem c_is_row (k : Nat) (a0 a1 a2 : D) (st : St) : call L.T (k + 1) 14 [a0, a1, a2] st = finish st (execs ⟨L.sub, call L.T k⟩ F_is_row.body [some a0, some a1, some a2] st) := rfl
theorem c_rises (k : Nat) (a0 a1 : D) (st : St) : call L.T (k + 1) 116 [a0, a1] st = finish st (execs ⟨L.sub, call L.T k⟩ F_rises.body [some a0, some a1, none] st) := rfl
theorem c_is_at (k : Nat) (a0 a1 a2 : D) (st : St) : call L.T (k + 1) 16 [a0, a1, a2] st = finish st (execs ⟨L.sub, call L.T k⟩ F_is_at.body [some a0, some a1, some a2] st) := rfl
theorem c_is_fact (k : Nat) (a0 a1 : D) (st : St) : call L.T (k + 1) 17 [a0, a1] st = finish st (execs ⟨L.sub, call L.T k⟩ F_is_fact.body [some a0, some a1] st) := rfl
theorem c_is_book (k : Nat) (a0 a1 : D) (st : St) : call L.T (k + 1) 117 [a0, a1] st = finish st (execs ⟨L.sub, call L.T k⟩ F_is_book.body [some a0, some a1, none] st) := rfl
theorem c_made_of (k : Nat) (a0 a1 : D) (st : St) : call L.T (k + 1) 118 [a0, a1] st = finish st (execs ⟨L.sub, call L.T k⟩ F_made_of.body [some a0, some a1, none] st) := rfl
theorem c_number_in (k : Nat) (a0 : D) (st : St) : call L.T (k + 1) 119 [a0] st = finish st (execs ⟨L.sub, call L.T k⟩ F_number_in.body [some a0] st) := rfl
theorem c_numbers_in (k : Nat) (a0 : D) (st : St) : call L.T (k + 1) 120 [a0] st = finish st (execs ⟨L.sub, call L.T k⟩ F_numbers_in.body [some a0, none, none] st) := rfl
theorem c_fact_in (k : Nat) (a0 : D) (st : St) : call L.T (k + 1) 121 [a0] st = finish st (execs ⟨L.sub, call L.T k⟩ F_fact_in.body [some a0, none] st) := rfl
theorem c_fact_text (k : Nat) (a0 : D) (st : St) : call L.T (k + 1) 122 [a0] st = finish st (execs ⟨L.sub, call L.T k⟩ F_fact_text.body [some a0, none, none, none, none] st) := rfl
theorem c_book_text (k : Nat) (a0 : D) (st : St) : call L.T (k + 1) 123 [a0] st = finish st (execs ⟨L.sub, call L.T k⟩ F_book_text.body [some a0, none] st) := rfl
theorem c_facts_in (k : Nat) (a0 : D) (st : St) : call L.T (k + 1) 124 [a0] st = finish st (execs ⟨L.sub, call L.T k⟩ F_facts_in.body [some a0, none] st) := rfl
theorem c_read_book (k : Nat) (a0 a1 : D) (st : St) : call L.T (k + 1) 125 [a0, a1] st = finish st (execs ⟨L.sub, call L.T k⟩ F_read_book.body [some a0, some a1, none] st) := rfl
theorem c__law_deck (k : Nat) (a0 : D) (st : St) : call L.T (k + 1) 19 [a0] st = finish st (execs ⟨L.sub, call L.T k⟩ F__law_deck.body [some a0, none, none, none] st) := rfl
theorem c__law_next (k : Nat) (a0 : D) (st : St) : call L.T (k + 1) 27 [a0] st = finish st (execs ⟨L.sub, call L.T k⟩ F__law_next.body [some a0, none, none, none, none] st) := rfl
theorem c__law_span (k : Nat) (a0 : D) (st : St) : call L.T (k + 1) 126 [a0] st = finish st (execs ⟨L.sub, call L.T k⟩ F__law_span.body [some a0] st) := rfl
theorem c__law_book (k : Nat) (a0 a1 a2 a3 a4 : D) (st : St) : call L.T (k + 1) 24 [a0, a1, a2, a3, a4] st = finish st (execs ⟨L.sub, call L.T k⟩ F__law_book.body [some a0, some a1, some a2, some a3, some a4, none, none, none, none, none, none, none, none] st) := rfl
theorem c__law_same (k : Nat) (a0 a1 : D) (st : St) : call L.T (k + 1) 26 [a0, a1] st = finish st (execs ⟨L.sub, call L.T k⟩ F__law_same.body [some a0, some a1, none, none] st) := rfl
theorem c__law_bare_lands (k : Nat) (a0 : D) (st : St) : call L.T (k + 1) 127 [a0] st = finish st (execs ⟨L.sub, call L.T k⟩ F__law_bare_lands.body [some a0] st) := rfl
theorem c__law_book_text (k : Nat) (a0 : D) (st : St) : call L.T (k + 1) 128 [a0] st = finish st (execs ⟨L.sub, call L.T k⟩ F__law_book_text.body [some a0, none, none, none, none, none, none] st) := rfl
theorem c__law_drawn_book (k : Nat) (a0 a1 a2 : D) (st : St) : call L.T (k + 1) 129 [a0, a1, a2] st = finish st (execs ⟨L.sub, call L.T k⟩ F__law_drawn_book.body [some a0, some a1, some a2, none, none, none, none, none, none, none] st) := rfl
theorem c__law_right (k : Nat) (a0 a1 : D) (st : St) : call L.T (k + 1) 130 [a0, a1] st = finish st (execs ⟨L.sub, call L.T k⟩ F__law_right.body [some a0, some a1, none, none] st) := rfl
theorem c_law (k : Nat) (a0 : D) (st : St) : call L.T (k + 1) 35 [a0] st = finish st (execs ⟨L.sub, call L.T k⟩ F_law.body [some a0, none, none, none, none, none] st) := rfl
/-! ### facts, books (any law's table with these defs) -/
structure Fact where
  who : Int
  role : Int
  day : Int
  isIn : Bool
  n : Int
def Fact.word (f : Fact) : Str := if f.isIn then Str.ofString "in" else Str.ofString "with"
def fD (f : Fact) : D := .tup [.int f.who, .int f.role, .int f.day, .tup [.str f.word, .int f.n]]
structure Fact.ok (many : Int) (f : Fact) : Prop where
  w0 : 0 ≤ f.who
  w1 : f.who ≤ 99
  r0 : 0 ≤ f.role
  r1 : f.role ≤ 3
  d0 : 0 ≤ f.day
  d1 : f.day ≤ 1000000000
  n0 : 0 ≤ f.n
  n1 : f.isIn = true → f.n ≤ many - 1
  n2 : f.isIn = false → f.n ≤ 99 ∧ f.n ≠ f.who
def keyF (f : Fact) : List Int := [f.who, f.role, f.day]
theorem is_from_int (k : Nat) (i a b : Int) (st : St) : call L.T (k + 1) 11 [.int i, .int a, .int b] st = .ok (.bl (decide (a ≤ i) && decide (i ≤ b))) st := by
  rw [c_is_from]
  have e : tyD st L.sub (.int i) .bool = some false := rfl
  have e2 : tyD st L.sub (.int i) .int = some true := rfl
  by_cases h : a ≤ i <;> simp [F_is_from, e, e2, h]
theorem is_day_int (k : Nat) (i : Int) (st : St) : call L.T (k + 2) 12 [.int i] st = .ok (.bl (decide (0 ≤ i) && decide (i ≤ 1000000000))) st := by
  rw [c_is_day]
  simp [F_is_day, is_from_int]
theorem is_one_int (k : Nat) (i : Int) (st : St) : call L.T (k + 2) 13 [.int i] st = .ok (.bl (decide (0 ≤ i) && decide (i ≤ 99))) st := by
  rw [c_is_one]
  simp [F_is_one, is_from_int]
theorem is_row_tup (k : Nat) (ds : List D) (a b : Int) (st : St) : call L.T (k + 1) 14 [.tup ds, .int a, .int b] st = .ok (.bl (decide (a ≤ (ds.length : Int)) && decide ((ds.length : Int) ≤ b))) st := by
  rw [c_is_row]
  have e2 : tyD st L.sub (.tup ds) .tuple = some true := rfl
  by_cases h : a ≤ (ds.length : Int) <;> simp [F_is_row, e2, h, biD]
theorem word_in (f : Fact) : decide (f.word = Str.ofString "in") = f.isIn := by
  unfold Fact.word
  cases f.isIn
  · decide
  · decide
theorem word_with (f : Fact) (h : f.isIn = false) : decide (f.word = Str.ofString "with") = true := by
  unfold Fact.word
  rw [h]
  decide
theorem is_at_ok (k : Nat) (f : Fact) (many : Int) (h : f.ok many) (st : St) : call L.T (k + 3) 16 [.tup [.str f.word, .int f.n], .int f.who, .int many] st = .ok (.bl true) st := by
  rw [c_is_at]
  have e2 : tyD st L.sub (.str f.word) .str = some true := rfl
  have w := word_in f
  cases hi : f.isIn with
  | true =>
    rw [hi] at w
    have h1 := h.n1 hi
    have h0 := h.n0
    simp [F_is_at, is_row_tup, e2, eq_str, w, is_from_int, h0, h1]
  | false =>
    rw [hi] at w
    have h1 := h.n2 hi
    have h0 := h.n0
    simp [F_is_at, is_row_tup, e2, eq_str, w, word_with f hi, is_one_int, ne_int, h0, h1.1, h1.2]
theorem is_fact_ok (k : Nat) (f : Fact) (many : Int) (h : f.ok many) (st : St) : call L.T (k + 4) 17 [fD f, .int many] st = .ok (.bl true) st := by
  rw [c_is_fact]
  unfold fD
  simp [F_is_fact, is_row_tup, is_one_int, is_from_int, is_day_int, is_at_ok _ f many h, h.w0, h.w1, h.r0, h.r1, h.d0, h.d1]
theorem cut3 (a b c d : D) : cut [a, b, c, d] none (some 3) = [a, b, c] := rfl
theorem ge_keys (f g : Fact) (st : St) (h : HT.lexLt (keyF f) (keyF g) = true) : cmpD .ge st (.tup [.int f.who, .int f.role, .int f.day]) (.tup [.int g.who, .int g.role, .int g.day]) = some false := by
  show some (geL (keyF f) (keyF g)) = some false
  unfold geL
  rw [h] <;> rfl
def Rises (fs : List Fact) : Prop := ∀ i a b, fs[i]? = some a → fs[i + 1]? = some b → HT.lexLt (keyF a) (keyF b) = true
theorem rises_ok (k : Nat) (fs : List Fact) (h : Rises fs) (hl : fs.length ≤ 60) (st : St) : call L.T (k + 1) 116 [.tup (fs.map fD), .int 3] st = .ok (.bl true) st := by
  rw [c_rises]
  have e1 : inRange 1 = true := by simpa using inRange_nat (n := 1) (by omega)
  have e2 : inRange (fs.length : Int) = true := inRange_nat (by omega)
  have e3 : biD .len false st [.tup (fs.map fD)] = .ok (.int fs.length) st := by simp [biD]
  obtain ⟨env', st', e, i⟩ := exec_for (P := ⟨L.sub, call L.T k⟩) (tg := .nm 2) (it := .rng2 (.c (.int 1)) (.bi .len false (.cons (.v 0) .nil))) (b := F_rises_b1) (env := [some (.tup (fs.map fD)), some (.int 3), none]) (st := st) (wk := ⟨rangeD 1 fs.length, fun _ => true⟩) (st1 := st)
    (fun env s => s = st ∧ ∃ z, env = [some (.tup (fs.map fD)), some (.int 3), z]) (by simp [e1, e2, e3]) (fun _ _ _ => rfl)
    (fun d m env s ⟨hs, z, he⟩ => by
      subst hs he
      obtain ⟨j, hj⟩ := List.getElem?_of_mem m
      obtain ⟨rfl, hlt⟩ := rangeD_get hj
      have hj1 : j < fs.length := by omega
      have hj2 : j + 1 < fs.length := by omega
      have g1 : (fs.map fD)[j]? = some (fD fs[j]) := by rw [List.getElem?_map, List.getElem?_eq_getElem hj1]; rfl
      have g2 : (fs.map fD)[j + 1]? = some (fD fs[j + 1]) := by rw [List.getElem?_map, List.getElem?_eq_getElem hj2]; rfl
      have i1 : ixD s (.tup (fs.map fD)) (.int (1 + (j : Int) - 1)) = some (fD fs[j]) := by
        rw [show 1 + (j : Int) - 1 = (j : Nat) by omega]; exact ixt_nat g1
      have i2 : ixD s (.tup (fs.map fD)) (.int (1 + (j : Int))) = some (fD fs[j + 1]) := by
        rw [show 1 + (j : Int) = ((j + 1 : Nat) : Int) by omega]; exact ixt_nat g2
      have hk := ge_keys fs[j] fs[j + 1] s (h j _ _ (List.getElem?_eq_getElem hj1) (List.getElem?_eq_getElem hj2))
      refine ⟨[some (.tup (fs.map fD)), some (.int 3), some (.int (1 + j))], [some (.tup (fs.map fD)), some (.int 3), some (.int (1 + j))], s, rfl, ?_, rfl, _, rfl⟩
      simp [F_rises_b1, i1, i2, slD, fD, cut3, hk])
    ⟨rfl, _, rfl⟩
  obtain ⟨rfl, z, rfl⟩ := i
  simp [F_rises, e]
theorem is_book_ok (k : Nat) (fs : List Fact) (lands : List D) (h : ∀ f ∈ fs, f.ok lands.length) (hr : Rises fs) (hl : fs.length ≤ 60) (st : St) : call L.T (k + 5) 117 [.tup lands, .tup (fs.map fD)] st = .ok (.bl true) st := by
  rw [c_is_book]
  have e3 : biD .len false st [.tup lands] = .ok (.int lands.length) st := by simp [biD]
  have lc : ev ⟨L.sub, call L.T (k + 4)⟩ F_is_book_l1 [some (.tup lands), some (.tup (fs.map fD)), none] st = .ok (.lst ((fs.map fD).map fun _ => .bl true)) st := by
    refine ev_lcMap (fun _ => .bl true) (wk := ⟨fs.map fD, fun _ => true⟩) (by simp [walkOf]) rfl (by simp; omega) fun d m => ?_
    obtain ⟨f, hf, rfl⟩ := List.mem_map.mp m
    exact ⟨_, rfl, by simp [wipeD, e3, is_fact_ok _ f _ (h f hf)]⟩
  have hb := boolsOf_map (fun _ : Fact => true) fs
  have ha : (fs.all fun _ => true) = true := by simp
  have hl' : ((fs.length : Int) ≤ 60) := by omega
  have e5 : biD .all false st [.lst ((fs.map fD).map fun _ => .bl true)] = .ok (.bl true) st := by
    rw [List.map_map, biall]
    have : boolsOf (fs.map ((fun _ => D.bl true) ∘ fD)) = _ := hb
    rw [this]
    simp
  simp [F_is_book, is_row_tup, hl', lc, rises_ok _ fs hr hl, -List.map_map, e5]
/-! ### texts of numbers, facts, books -/
def numS (i : Int) : Str := Str.ofString (toString i)
theorem numS_nat (n : Nat) : tl (numS (n : Nat)) = numL n := tl_num n
theorem numS_len {i : Int} (h0 : 0 ≤ i) (h1 : i ≤ 1000000000) : (numS i).length ≤ 10 := by
  obtain ⟨n, rfl⟩ := Int.eq_ofNat_of_zero_le h0
  rw [len_tl, numS_nat]
  exact numL_len (by omega) (by omega)
theorem numS_free {i : Int} (h0 : 0 ≤ i) {s : Nat} (h : s < 48 ∨ 57 < s) : s ∉ tl (numS i) := by
  obtain ⟨n, rfl⟩ := Int.eq_ofNat_of_zero_le h0
  rw [numS_nat]
  exact numL_free h
theorem log2_small {i : Int} (h0 : 0 ≤ i) (h1 : i ≤ 1000000000) : i.natAbs.log2 < 1920 := by
  have h : i.natAbs ≤ 1000000000 := by omega
  have : i.natAbs < 2 ^ 1920 := Nat.lt_of_le_of_lt h (Nat.lt_of_lt_of_le (show 1000000000 < 2 ^ 30 by decide) (Nat.pow_le_pow_right (by decide) (by decide)))
  by_cases hz : i.natAbs = 0
  · rw [hz]; decide
  · exact (Nat.log2_lt hz).mpr this
theorem bistr (m : Bool) (st : St) {i : Int} (h0 : 0 ≤ i) (h1 : i ≤ 1000000000) : biD .str m st [.int i] = .ok (.str (numS i)) st := by
  show (if i.natAbs.log2 < 1920 then R.ok (D.str (Str.ofString (toString i))) st else .bad) = _
  rw [if_pos (log2_small h0 h1)] <;> rfl
def wordsF (f : Fact) : List Str := [numS f.who, numS f.role, numS f.day, f.word, numS f.n]
def txtF (f : Fact) : Str := Txt.join (Str.ofString " ") (wordsF f)
def txtB (fs : List Fact) : Str := Txt.join (Str.ofString "\n") (fs.map txtF)
theorem word_len (f : Fact) : f.word.length ≤ 4 := by
  unfold Fact.word
  cases f.isIn <;> decide
structure Fact.num (f : Fact) : Prop where
  w0 : 0 ≤ f.who
  w1 : f.who ≤ 1000000000
  r0 : 0 ≤ f.role
  r1 : f.role ≤ 1000000000
  d0 : 0 ≤ f.day
  d1 : f.day ≤ 1000000000
  n0 : 0 ≤ f.n
  n1 : f.n ≤ 1000000000
theorem tl_len_join (y : Str) : ∀ parts : List Str, (tl (Str.join y parts)).length ≤ (parts.map (·.length)).sum + parts.length * y.length
  | [] => by simp [tl_join, joinL]
  | [p] => by rw [tl_join]; show (tl p).length ≤ _; rw [← len_tl]; simp
  | p :: q :: r => by
    have ih := tl_len_join y (q :: r)
    rw [tl_join] at ih ⊢
    show (tl p ++ (tl y ++ joinL (tl y) ((q :: r).map tl))).length ≤ _
    rw [List.length_append, List.length_append, ← len_tl, ← len_tl]
    simp only [List.map_cons, List.sum_cons, List.length_cons] at ih ⊢
    have : (r.length + 1 + 1) * y.length = (r.length + 1) * y.length + y.length := by rw [Nat.add_mul]; omega
    omega
theorem join_len (y : Str) (parts : List Str) : (Txt.join y parts).length ≤ (parts.map (·.length)).sum + parts.length * y.length := by
  rw [join_eq, len_tl]; exact tl_len_join y parts
theorem words_sum (f : Fact) (h : f.num) : ((wordsF f).map (·.length)).sum ≤ 44 := by
  have a := numS_len h.w0 h.w1
  have b := numS_len h.r0 h.r1
  have c := numS_len h.d0 h.d1
  have d := numS_len h.n0 h.n1
  have e := word_len f
  simp only [wordsF, List.map_cons, List.map_nil, List.sum_cons, List.sum_nil]
  omega
theorem sp_len : (Str.ofString " ").length = 1 := by decide
theorem nl_len : (Str.ofString "\n").length = 1 := by decide
theorem txtF_len (f : Fact) (h : f.num) : (txtF f).length ≤ 49 := by
  have := join_len (Str.ofString " ") (wordsF f)
  have h2 := words_sum f h
  rw [sp_len] at this
  have h3 : (wordsF f).length = 5 := rfl
  unfold txtF
  omega
theorem bmjoin (m : Bool) (st : St) (y : Str) (parts : List Str) (h : (parts.map (·.length)).sum + parts.length * y.length ≤ sizeMax) : bmD .join m st (.str y) [.lst (parts.map .str)] = .ok (.str (Txt.join y parts)) st := by
  have := strsOf_map (fun x : Str => x) parts
  simp only [List.map_id'] at this
  have e : strsOf (parts.map D.str) = some parts := this
  show (match seqOf st (.lst (parts.map .str)) with
    | some ds => (match strsOf ds with
      | some ys => if (ys.map fun z : Str => z.length).sum + ys.length * y.length ≤ sizeMax then R.ok (D.str (Txt.join y ys)) st else .bad
      | none => .bad)
    | none => .bad) = _
  show (match strsOf (parts.map D.str) with
      | some ys => if (ys.map fun z : Str => z.length).sum + ys.length * y.length ≤ sizeMax then R.ok (D.str (Txt.join y ys)) st else .bad
      | none => .bad) = _
  rw [e]
  exact if_pos h
theorem rc_str (st : St) (y : Str) : recvD Rc.str st (.str y) = true := rfl
theorem fact_text_ok (k : Nat) (f : Fact) (h : f.num) (st : St) : call L.T (k + 1) 122 [fD f] st = .ok (.str (txtF f)) st := by
  rw [c_fact_text]
  have hj := bmjoin false st (Str.ofString " ") (wordsF f) (by
    have := words_sum f h
    have h3 : (wordsF f).length = 5 := rfl
    rw [sp_len, h3]
    simp
    omega)
  have e : (wordsF f).map D.str = [.str (numS f.who), .str (numS f.role), .str (numS f.day), .str f.word, .str (numS f.n)] := rfl
  rw [e] at hj
  simp [F_fact_text, fD, asg, bistr _ _ h.w0 h.w1, bistr _ _ h.r0 h.r1, bistr _ _ h.d0 h.d1, bistr _ _ h.n0 h.n1, mk_val, BM.rc, rc_str, hj, txtF]
theorem txts_sum (fs : List Fact) (h : ∀ f ∈ fs, f.num) : ((fs.map txtF).map (·.length)).sum ≤ 49 * fs.length := by
  induction fs with
  | nil => simp
  | cons f fs ih =>
    have a := txtF_len f (h f List.mem_cons_self)
    have b := ih fun g m => h g (List.mem_cons_of_mem _ m)
    simp only [List.map_cons, List.sum_cons, List.length_cons] at b ⊢
    omega
theorem book_text_ok (k : Nat) (fs : List Fact) (h : ∀ f ∈ fs, f.num) (hl : fs.length ≤ 60) (st : St) : call L.T (k + 2) 123 [.tup (fs.map fD)] st = .ok (.str (txtB fs)) st := by
  rw [c_book_text]
  have lc : ev ⟨L.sub, call L.T (k + 1)⟩ F_book_text_l1 [some (.tup (fs.map fD)), none] st = .ok (.lst ((fs.map txtF).map .str)) st := by
    have hd : ∀ d : D, True := fun _ => trivial
    have := ev_lcMap (L := L) (C := call L.T (k + 1)) (own := [1]) (tg := .nm 1) (it := .of (.v 0)) (e := .call 122 (.cons (.v 1) .nil)) (env := [some (.tup (fs.map fD)), none]) (st := st) (st1 := st) (wk := ⟨fs.map fD, fun _ => true⟩)
      (fun d => match call L.T (k + 1) 122 [d] st with | .ok x _ => x | _ => .non) (by simp [walkOf]) rfl (by simp; omega) fun d m => ?_
    · rw [F_book_text_l1, this]
      congr 2
      rw [List.map_map, List.map_map]
      refine List.map_congr_left fun f hf => ?_
      simp only [Function.comp, fact_text_ok k f (h f hf) st]
    · obtain ⟨f, hf, rfl⟩ := List.mem_map.mp m
      exact ⟨_, rfl, by simp [wipeD, fact_text_ok k f (h f hf)]⟩
  have hj := bmjoin false st (Str.ofString "\n") (fs.map txtF) (by
    have := txts_sum fs h
    rw [nl_len]
    simp only [List.length_map, sizeMax_eq]
    omega)
  simp [F_book_text, lc, BM.rc, rc_str, hj, txtB, -List.map_map]
/-- the law's own text of a book -/
theorem law_book_text_ok (k : Nat) (fs : List Fact) (h : ∀ f ∈ fs, f.num) (hl : fs.length ≤ 60) (st : St) : call L.T (k + 2) 128 [.tup (fs.map fD)] st = .ok (.str (txtB fs)) st := by
  rw [c__law_book_text]
  obtain ⟨env', s', e, i⟩ := exec_forI (P := ⟨L.sub, call L.T (k + 1)⟩) (tg := .tp [2, 3, 4, 5]) (it := .of (.v 0)) (b := F__law_book_text_b1) (env := [some (.tup (fs.map fD)), some (.ref st.length), none, none, none, none, none]) (st := st ++ [.lst []]) (st1 := st ++ [.lst []]) (wk := ⟨fs.map fD, fun _ => true⟩)
    (fun j env s => s = st ++ [.lst (((fs.take j).map txtF).map .str)] ∧ ∃ a b c d e, env = [some (.tup (fs.map fD)), some (.ref st.length), a, b, c, d, e]) (by simp [walkOf]) (fun _ _ _ _ => rfl)
    (fun j d hj env s ⟨hs, x1, x2, x3, x4, x5, he⟩ => by
      subst hs he
      have hj' : (fs.map fD)[j]? = some d := hj
      rw [List.getElem?_map] at hj'
      obtain ⟨f, hf, rfl⟩ := Option.map_eq_some_iff.mp hj'
      have hjl : j < fs.length := (List.getElem?_eq_some_iff.mp hf).1
      have hn := h f (List.mem_of_getElem? hf)
      have hjoin := bmjoin_at (m := false) (st := st ++ [.lst (((fs.take j).map txtF).map .str)]) (y := Str.ofString " ") (d := .lst ((wordsF f).map .str)) (parts := wordsF f) rfl (by
        have := words_sum f hn
        have h3 : (wordsF f).length = 5 := rfl
        rw [sp_len, h3]
        simp
        omega)
      have e0 : (wordsF f).map D.str = [.str (numS f.who), .str (numS f.role), .str (numS f.day), .str f.word, .str (numS f.n)] := rfl
      rw [e0, show Txt.join (Str.ofString " ") (wordsF f) = txtF f from rfl] at hjoin
      have happ := app_at (m := false) (x := .str (txtF f)) (last_get st (.lst (((fs.take j).map txtF).map .str))) (by simp; omega)
      rw [last_set] at happ
      refine ⟨[some (.tup (fs.map fD)), some (.ref st.length), some (.int f.who), some (.int f.role), some (.int f.day), some (.tup [.str f.word, .int f.n]), x5], _, st ++ [.lst (((fs.take (j + 1)).map txtF).map .str)], rfl, ?_, rfl, some (.int f.who), some (.int f.role), some (.int f.day), some (.tup [.str f.word, .int f.n]), some (.lst ((wordsF f).map .str)), rfl⟩
      have ht : fs.take (j + 1) = fs.take j ++ [f] := by rw [List.take_add_one, hf]; rfl
      rw [ht, e0]
      have hr := rc_ref (last_get st (.lst (((fs.take j).map txtF).map .str)))
      simp only [List.map_append, List.map_cons, List.map_nil] at happ ⊢
      generalize ((fs.take j).map txtF).map D.str = A at happ hjoin hr ⊢
      simp [F__law_book_text_b1, bistr _ _ hn.w0 hn.w1, bistr _ _ hn.r0 hn.r1, bistr _ _ hn.d0 hn.d1, bistr _ _ hn.n0 hn.n1, BM.rc, rc_str, hjoin, hr, happ, -List.map_map])
    ⟨by simp, none, none, none, none, none, rfl⟩
  obtain ⟨rfl, x1, x2, x3, x4, x5, rfl⟩ := i
  have ht : fs.take (fs.map fD).length = fs := by rw [List.length_map, List.take_length]
  rw [ht] at e
  have hj := bmjoin_at (m := false) (y := Str.ofString "\n") (seq_ref (last_get st (.lst ((fs.map txtF).map .str)))) (by
    have := txts_sum fs h
    rw [nl_len]
    simp only [List.length_map, sizeMax_eq]
    have e : (fs.map txtF).map (fun z => z.length) = (fs.map txtF).map (·.length) := rfl
    omega)
  simp [F__law_book_text, e, BM.rc, rc_str, hj, -List.map_map]
  exact gc_new rfl
/-! ### texts read -/
theorem figs_tl : tl (Str.ofString "0123456789") = [48, 49, 50, 51, 52, 53, 54, 55, 56, 57] := by decide
theorem in_figs {c : Nat} (h : 48 ≤ c ∧ c ≤ 57) (st : St) : cmpD .isin st (.str ⟨#[c]⟩) (.str (Str.ofString "0123456789")) = some true := by
  show some (!(Builtin.Str.occurrences (Str.ofString "0123456789") ⟨#[c]⟩ 0 (Str.ofString "0123456789").length 1).isEmpty) = _
  have e := PySem.StrLaws.found_one (Str.ofString "0123456789") c
  rw [e]
  have : c ∈ (Str.ofString "0123456789").cps.toList := by
    show c ∈ tl (Str.ofString "0123456789")
    rw [figs_tl]
    have : c = 48 ∨ c = 49 ∨ c = 50 ∨ c = 51 ∨ c = 52 ∨ c = 53 ∨ c = 54 ∨ c = 55 ∨ c = 56 ∨ c = 57 := by omega
    simp only [List.mem_cons, List.not_mem_nil, or_false]
    exact this
  rw [decide_eq_true this]
theorem numS_ne {i : Int} (h0 : 0 ≤ i) : numS i ≠ Str.ofString "" := by
  obtain ⟨n, rfl⟩ := Int.eq_ofNat_of_zero_le h0
  intro e
  have := congrArg tl e
  rw [numS_nat] at this
  exact numL_ne n this
theorem made_of_num (k : Nat) {i : Int} (h0 : 0 ≤ i) (h1 : i ≤ 1000000000) (st : St) : call L.T (k + 1) 118 [.str (numS i), .str (Str.ofString "0123456789")] st = .ok (.bl true) st := by
  rw [c_made_of]
  have hl := numS_len h0 h1
  have lc : ev ⟨L.sub, call L.T k⟩ F_made_of_l1 [some (.str (numS i)), some (.str (Str.ofString "0123456789")), none] st = .ok (.lst (((tl (numS i)).map fun c => D.str ⟨#[c]⟩).map fun _ => .bl true)) st := by
    refine ev_lcMap (fun _ => .bl true) (wk := ⟨(tl (numS i)).map fun c => D.str ⟨#[c]⟩, fun _ => true⟩) (by simp [walkOf]) rfl (by rw [len_tl] at hl; simp only [List.length_map, sizeMax_eq]; omega) fun d m => ?_
    obtain ⟨c, hc, rfl⟩ := List.mem_map.mp m
    obtain ⟨n, rfl⟩ := Int.eq_ofNat_of_zero_le h0
    rw [numS_nat] at hc
    have hd := numL_digits n c hc
    exact ⟨_, rfl, by simp [wipeD, in_figs hd]⟩
  have hb : boolsOf (((tl (numS i)).map fun c => D.str ⟨#[c]⟩).map fun _ => D.bl true) = some ((tl (numS i)).map fun _ => true) := by
    rw [List.map_map]; exact boolsOf_map (fun _ : Nat => true) (tl (numS i))
  have e5 : biD .all false st [.lst (((tl (numS i)).map fun c => D.str ⟨#[c]⟩).map fun _ => .bl true)] = .ok (.bl true) st := by
    rw [biall, hb]; simp
  simp [F_made_of, ne_str, numS_ne h0, lc, e5, -List.map_map]
theorem numS_head {i : Int} (h0 : 0 ≤ i) (h1 : i ≤ 1000000000) : (numS i).length = 1 ∨ ∃ c, (tl (numS i))[0]? = some c ∧ c ≠ 48 := by
  obtain ⟨n, rfl⟩ := Int.eq_ofNat_of_zero_le h0
  rw [len_tl, numS_nat]
  by_cases hn : n < 10
  · exact .inl (by rw [numL_lt hn] <;> rfl)
  · refine .inr ?_
    clear h0 h1
    have key : ∀ m : Nat, 0 < m → ∃ c, (numL m)[0]? = some c ∧ c ≠ 48 := by
      intro m
      induction m using Nat.strongRecOn with
      | _ m ih =>
        intro hm
        by_cases h : m < 10
        · exact ⟨48 + m, by rw [numL_lt h] <;> rfl, by omega⟩
        · obtain ⟨c, e, ne⟩ := ih (m / 10) (by omega) (by omega)
          refine ⟨c, ?_, ne⟩
          rw [numL_step (by omega), List.getElem?_append_left (List.getElem?_eq_some_iff.mp e).1]
          exact e
    exact key n (by omega)
theorem ix_str0 {s : Str} {c : Nat} (h : (tl s)[0]? = some c) (hl : s.length ≤ sizeMax) (st : St) : ixD st (.str s) (.int 0) = some (.str ⟨#[c]⟩) := by
  show (if s.length ≤ sizeMax then (L2.atI s.cps.toList 0).map fun c => D.str ⟨#[c]⟩ else none) = _
  rw [if_pos hl]
  have : L2.atI s.cps.toList ((0 : Nat) : Int) = some c := L2.atI_nat h
  have this : L2.atI s.cps.toList 0 = some c := this
  rw [this] <;> rfl
theorem number_in_ok (k : Nat) {i : Int} (h0 : 0 ≤ i) (h1 : i ≤ 1000000000) (st : St) : call L.T (k + 2) 119 [.str (numS i)] st = .ok (.int i) st := by
  rw [c_number_in]
  have hl := numS_len h0 h1
  have hl' : ¬ (10 < ((numS i).length : Int)) := by omega
  have hl2 : (numS i).length ≤ 16777216 := by omega
  have e1 : biD .len false st [.str (numS i)] = .ok (.int (numS i).length) st := by
    show (if (numS i).length ≤ sizeMax then R.ok (D.int (numS i).length) st else .bad) = _
    exact if_pos hl2
  have hint : intText? (numS i) = some i := by
    obtain ⟨n, rfl⟩ := Int.eq_ofNat_of_zero_le h0
    rw [len_tl, numS_nat] at hl
    exact int_num (by omega)
  have e2 : biD .int false st [.str (numS i)] = .ok (.int i) st := by
    show (match PySem.intText? (numS i) with
      | some n => if (numS i).length ≤ 640 then R.ok (D.int n) st else .bad
      | none => .bad) = _
    rw [hint]
    exact if_pos (by omega)
  have hne : ∃ c, (tl (numS i))[0]? = some c := by
    obtain ⟨n, rfl⟩ := Int.eq_ofNat_of_zero_le h0
    rw [numS_nat]
    cases e : numL n with
    | nil => exact absurd e (numL_ne n)
    | cons c r => exact ⟨c, rfl⟩
  obtain ⟨c, hc⟩ := hne
  have i0 := ix_str0 hc hl2 st
  rcases numS_head h0 h1 with hh | ⟨c', hc', hn⟩
  · by_cases hz : (⟨#[c]⟩ : Str) = Str.ofString "0"
    · simp [F_number_in, e1, hl', made_of_num _ h0 h1, i0, eq_str, hh, e2, hz]
    · simp [F_number_in, e1, hl', made_of_num _ h0 h1, i0, eq_str, hh, e2, hz]
  · rw [hc] at hc'
    cases hc'
    have hz : ¬ (⟨#[c]⟩ : Str) = Str.ofString "0" := by
      intro e
      have := congrArg tl e
      have e2 : tl (Str.ofString "0") = [48] := by decide
      rw [e2] at this
      have : [c] = [48] := this
      simp at this
      exact hn this
    simp [F_number_in, e1, hl', made_of_num _ h0 h1, i0, eq_str, e2, hz]
theorem numbers_in_ok (k : Nat) (ns : List Int) (h : ∀ i ∈ ns, 0 ≤ i ∧ i ≤ 1000000000) (hl : ns.length ≤ 100) (st : St) : call L.T (k + 3) 120 [.lst (ns.map fun i => .str (numS i))] st = .ok (.tup (ns.map .int)) st := by
  rw [c_numbers_in]
  have lc : ev ⟨L.sub, call L.T (k + 2)⟩ F_numbers_in_l1 [some (.lst (ns.map fun i => .str (numS i))), none, none] st = .ok (.lst (ns.map .int)) st := by
    have := ev_lcMap (L := L) (C := call L.T (k + 2)) (own := [2]) (tg := .nm 2) (it := .of (.v 0)) (e := .call 119 (.cons (.v 2) .nil)) (env := [some (.lst (ns.map fun i => .str (numS i))), none, none]) (st := st) (st1 := st) (wk := ⟨ns.map fun i => .str (numS i), fun _ => true⟩)
      (fun d => match call L.T (k + 2) 119 [d] st with | .ok x _ => x | _ => .non) (by simp [walkOf]) rfl (by simp; omega) fun d m => ?_
    · rw [F_numbers_in_l1, this]
      congr 2
      rw [List.map_map]
      refine List.map_congr_left fun i hi => ?_
      simp only [Function.comp, number_in_ok k (h i hi).1 (h i hi).2 st]
    · obtain ⟨i, hi, rfl⟩ := List.mem_map.mp m
      exact ⟨_, rfl, by simp [wipeD, number_in_ok k (h i hi).1 (h i hi).2]⟩
  have hin : cmpD .isin st .non (.lst (ns.map .int)) = some false := by
    have hf : (ns.map D.int).all flatD = true := by
      rw [List.all_map]; exact List.all_eq_true.mpr fun _ _ => rfl
    show (if flatD .non && (ns.map D.int).all flatD then some ((ns.map D.int).any fun z => PyData.eqv z.py D.non.py) else _) = _
    rw [hf]
    show some ((ns.map D.int).any fun z => PyData.eqv z.py D.non.py) = some false
    rw [List.any_map]
    congr 1
    rw [List.any_eq_false]
    intro x _
    simp [Function.comp, D.py, PyData.eqv]
  have ht : biD .tuple false st [.lst (ns.map .int)] = .ok (.tup (ns.map .int)) st := rfl
  simp [F_numbers_in, lc, hin, ht]
theorem cutL3 (a b c d e : D) : cut [a, b, c, d, e] none (some 3) = [a, b, c] := rfl
theorem cutL4 (a b c d e : D) : cut [a, b, c, d, e] (some 4) none = [e] := rfl
theorem word_notin (f : Fact) (st : St) : cmpD .notin st (.str f.word) (.tup [.str (Str.ofString "in"), .str (Str.ofString "with")]) = some false := by
  unfold Fact.word
  cases f.isIn <;> rfl
theorem Fact.ok.num {f : Fact} {many : Int} (h : f.ok many) (hm : many ≤ 1000) : f.num := by
  refine ⟨h.w0, by have := h.w1; omega, h.r0, by have := h.r1; omega, h.d0, h.d1, h.n0, ?_⟩
  cases e : f.isIn with
  | true => have := h.n1 e; omega
  | false => have := (h.n2 e).1; omega
theorem fact_in_ok (k : Nat) (f : Fact) (h : f.num) (st : St) : call L.T (k + 4) 121 [.lst ((wordsF f).map .str)] st = .ok (fD f) st := by
  rw [c_fact_in]
  have e : (wordsF f).map D.str = [.str (numS f.who), .str (numS f.role), .str (numS f.day), .str f.word, .str (numS f.n)] := rfl
  have hn := numbers_in_ok k [f.who, f.role, f.day, f.n] (by
    intro i hi
    simp only [List.mem_cons, List.not_mem_nil, or_false] at hi
    rcases hi with rfl | rfl | rfl | rfl
    · exact ⟨h.w0, h.w1⟩
    · exact ⟨h.r0, h.r1⟩
    · exact ⟨h.d0, h.d1⟩
    · exact ⟨h.n0, h.n1⟩) (by simp) st
  simp only [List.map_cons, List.map_nil] at hn
  have e1 : biD .len false st [.lst [.str (numS f.who), .str (numS f.role), .str (numS f.day), .str f.word, .str (numS f.n)]] = .ok (.int 5) st := rfl
  rw [e]
  simp [F_fact_in, e1, ne_int, word_notin, slD, cutL3, cutL4, add_lst, hn, cut3, add_tup, fD]
theorem sp_tl : tl (Str.ofString " ") = [32] := by decide
theorem nl_tl : tl (Str.ofString "\n") = [10] := by decide
theorem word_free (f : Fact) {s : Nat} (h : s < 48 ∨ 57 < s) (h2 : s < 97) : s ∉ tl f.word := by
  unfold Fact.word
  cases f.isIn
  · have : tl (Str.ofString "with") = [119, 105, 116, 104] := by decide
    simp only [Bool.false_eq_true, if_false, this, List.mem_cons, List.not_mem_nil, or_false]
    omega
  · have : tl (Str.ofString "in") = [105, 110] := by decide
    simp only [if_true, this, List.mem_cons, List.not_mem_nil, or_false]
    omega
theorem words_free (f : Fact) (hf : f.num) {s : Nat} (h : s < 48) : ∀ p ∈ wordsF f, s ∉ tl p := by
  intro p hp
  simp only [wordsF, List.mem_cons, List.not_mem_nil, or_false] at hp
  rcases hp with rfl | rfl | rfl | rfl | rfl
  · exact numS_free hf.w0 (.inl h)
  · exact numS_free hf.r0 (.inl h)
  · exact numS_free hf.d0 (.inl h)
  · exact word_free f (.inl h) (by omega)
  · exact numS_free hf.n0 (.inl h)
theorem split_fact (f : Fact) (hf : f.num) : Txt.split (txtF f) (Str.ofString " ") = wordsF f :=
  split_join sp_tl (by decide +kernel) (by simp [wordsF]) (words_free f hf (by decide))
theorem mem_joinL {S : List Nat} {c : Nat} : ∀ {parts : List (List Nat)}, c ∈ joinL S parts → c ∈ S ∨ ∃ p ∈ parts, c ∈ p
  | [], h => by cases h
  | [p], h => .inr ⟨p, List.mem_cons_self, h⟩
  | p :: q :: r, h => by
    have h : c ∈ p ++ (S ++ joinL S (q :: r)) := h
    rcases List.mem_append.mp h with h | h
    · exact .inr ⟨p, List.mem_cons_self, h⟩
    · rcases List.mem_append.mp h with h | h
      · exact .inl h
      · rcases mem_joinL h with h | ⟨x, hx, h⟩
        · exact .inl h
        · exact .inr ⟨x, List.mem_cons_of_mem _ hx, h⟩
theorem txtF_free (f : Fact) (hf : f.num) : 10 ∉ tl (txtF f) := by
  intro h
  unfold txtF at h
  rw [join_eq, tl_join] at h
  rcases mem_joinL h with h | ⟨p, hp, h⟩
  · rw [sp_tl] at h; simp at h
  · obtain ⟨q, hq, rfl⟩ := List.mem_map.mp hp
    exact words_free f hf (by decide) q hq h
theorem split_book (fs : List Fact) (h : ∀ f ∈ fs, f.num) (hn : fs ≠ []) : Txt.split (txtB fs) (Str.ofString "\n") = fs.map txtF :=
  split_join nl_tl (by decide +kernel) (by simpa using hn) fun p hp => by
    obtain ⟨f, hf, rfl⟩ := List.mem_map.mp hp
    exact txtF_free f (h f hf)
theorem txtB_nil : txtB [] = Str.ofString "" := rfl
theorem txtF_ne (f : Fact) (hf : f.num) : tl (txtF f) ≠ [] := by
  unfold txtF
  rw [join_eq, tl_join]
  intro e
  have e : tl (numS f.who) ++ _ = [] := e
  obtain ⟨n, hn⟩ := Int.eq_ofNat_of_zero_le hf.w0
  rw [hn, numS_nat] at e
  exact numL_ne n (List.append_eq_nil_iff.mp e).1
theorem txtB_ne (fs : List Fact) (h : ∀ f ∈ fs, f.num) (hn : fs ≠ []) : txtB fs ≠ Str.ofString "" := by
  intro e
  have e := congrArg tl e
  unfold txtB at e
  rw [join_eq, tl_join] at e
  cases fs with
  | nil => exact hn rfl
  | cons f fs =>
    have e0 : tl (Str.ofString "") = [] := by decide
    rw [e0] at e
    cases fs with
    | nil => exact txtF_ne f (h f List.mem_cons_self) e
    | cons g r =>
      have e : tl (txtF f) ++ _ = [] := e
      exact txtF_ne f (h f List.mem_cons_self) (List.append_eq_nil_iff.mp e).1
theorem txtB_len (fs : List Fact) (h : ∀ f ∈ fs, f.num) : (txtB fs).length ≤ 50 * fs.length := by
  have a := join_len (Str.ofString "\n") (fs.map txtF)
  have b := txts_sum fs h
  rw [nl_len, List.length_map] at a
  unfold txtB
  omega
theorem bmsplit (m : Bool) (st : St) (a b : Str) (h : b.length ≠ 0 ∧ a.length + 2 ≤ sizeMax) : bmD .split m st (.str a) [.str b] = mk m ((Txt.split a b).map .str) st := by
  show (if b.length ≠ 0 ∧ a.length + 2 ≤ sizeMax then mk m ((Txt.split a b).map .str) st else .bad) = _
  exact if_pos h
theorem facts_in_ok (k : Nat) (fs : List Fact) (h : ∀ f ∈ fs, f.num) (hl : fs.length ≤ 60) (st : St) : call L.T (k + 5) 124 [.str (txtB fs)] st = .ok (.tup (fs.map fD)) st := by
  rw [c_facts_in]
  by_cases hn : fs = []
  · subst hn
    simp [F_facts_in, txtB_nil, eq_str]
  · have hb := txtB_len fs h
    have hs := bmsplit false st (txtB fs) (Str.ofString "\n") ⟨by decide, by rw [sizeMax_eq]; omega⟩
    rw [split_book fs h hn] at hs
    have lc : ev ⟨L.sub, call L.T (k + 4)⟩ F_facts_in_l1 [some (.str (txtB fs)), none] st = .ok (.lst (fs.map fD)) st := by
      have hx : ∀ f ∈ fs, bmD .split false st (.str (txtF f)) [.str (Str.ofString " ")] = .ok (.lst ((wordsF f).map .str)) st := fun f hf => by
        have h49 := txtF_len f (h f hf)
        rw [bmsplit false st _ _ ⟨by decide, by rw [sizeMax_eq]; omega⟩, split_fact f (h f hf)]
        exact if_pos (by simp [wordsF])
      have := ev_lcMap (L := L) (C := call L.T (k + 4)) (own := [1]) (tg := .nm 1) (it := .of (.bm .split false (.v 0) (.cons (.c (.str (Str.ofString "\n"))) .nil))) (e := .call 121 (.cons (.bm .split false (.v 1) (.cons (.c (.str (Str.ofString " "))) .nil)) .nil)) (env := [some (.str (txtB fs)), none]) (st := st) (st1 := st) (wk := ⟨(fs.map txtF).map .str, fun _ => true⟩)
        (fun d => match d with | .str s => (match call L.T (k + 4) 121 [.lst ((Txt.split s (Str.ofString " ")).map .str)] st with | .ok x _ => x | _ => .non) | _ => .non)
        (by
          have hz : ((fs.map txtF).map D.str).length ≤ 16777216 := by simp; omega
          simp only [evI_of, ev_bm, ev_v, List.getElem?_cons_zero, Option.join_some, R.of_some, R.bind_ok, BM.rc, rc_str, if_true, evs_cons, ev_c, evs_nil, hs]
          rw [mk_f, if_pos hz]
          simp [walkOf]) rfl (by simp; omega) fun d m => ?_
      · rw [F_facts_in_l1, this]
        congr 2
        rw [List.map_map, List.map_map]
        refine List.map_congr_left fun f hf => ?_
        simp only [Function.comp, split_fact f (h f hf), fact_in_ok k f (h f hf) st]
      · obtain ⟨s, hs', rfl⟩ := List.mem_map.mp m
        obtain ⟨f, hf, rfl⟩ := List.mem_map.mp hs'
        refine ⟨_, rfl, ?_⟩
        have hw := fact_in_ok k f (h f hf) st
        simp only [split_fact f (h f hf), hw]
        simp [wipeD, BM.rc, rc_str, hx f hf, hw, -List.map_map]
    have ht : biD .tuple false st [.lst (fs.map fD)] = .ok (.tup (fs.map fD)) st := rfl
    simp [F_facts_in, eq_str, txtB_ne fs h hn, lc, ht]
theorem read_book_ok (k : Nat) (fs : List Fact) (lands : List D) (hm : lands.length ≤ 1000) (h : ∀ f ∈ fs, f.ok lands.length) (hr : Rises fs) (hl : fs.length ≤ 60) (st : St) : call L.T (k + 6) 125 [.tup lands, .str (txtB fs)] st = .ok (.tup (fs.map fD)) st := by
  rw [c_read_book]
  have hn : ∀ f ∈ fs, f.num := fun f hf => (h f hf).num (by omega)
  have e2 : tyD st L.sub (.str (txtB fs)) .str = some true := rfl
  simp [F_read_book, e2, facts_in_ok k fs hn hl, is_book_ok k fs lands h hr hl]
/-! ### the same -/
theorem same_int (k : Nat) (i : Int) (st : St) : call L.T (k + 1) 26 [.int i, .int i] st = .ok (.bl true) st := by
  rw [c__law_same]
  have e1 : tyD st L.sub (.int i) .tuple = some false := rfl
  have e2 : tyD st L.sub (.int i) .bool = some false := rfl
  have e3 : tyD st L.sub (.int i) .str = some false := rfl
  simp [F__law_same, e1, e2, e3, eq_int, ne_bl]
theorem same_str (k : Nat) (i : Str) (st : St) : call L.T (k + 1) 26 [.str i, .str i] st = .ok (.bl true) st := by
  rw [c__law_same]
  have e1 : tyD st L.sub (.str i) .tuple = some false := rfl
  have e2 : tyD st L.sub (.str i) .bool = some false := rfl
  have e3 : tyD st L.sub (.str i) .str = some true := rfl
  simp [F__law_same, e1, e2, e3, eq_str, ne_bl]
theorem same_tup (k : Nat) (ds : List D) (hl : ds.length ≤ 1000) (st : St) (h : ∀ d ∈ ds, call L.T k 26 [d, d] st = .ok (.bl true) st) : call L.T (k + 1) 26 [.tup ds, .tup ds] st = .ok (.bl true) st := by
  rw [c__law_same]
  have e1 : tyD st L.sub (.tup ds) .tuple = some true := rfl
  have e3 : biD .len false st [.tup ds] = .ok (.int ds.length) st := by simp [biD]
  have lc : ev ⟨L.sub, call L.T k⟩ F__law_same_l1 [some (.tup ds), some (.tup ds), none, none] st = .ok (.lst ((zipD ds ds).map fun _ => .bl true)) st := by
    refine ev_lcMap (fun _ => .bl true) (wk := ⟨zipD ds ds, fun _ => true⟩) (by simp [walkOf, lkD]) rfl (by simp [zipD]; omega) fun d m => ?_
    unfold zipD at m
    obtain ⟨p, hp, rfl⟩ := List.mem_map.mp m
    have hp' : p.1 = p.2 ∧ p.1 ∈ ds := by
      obtain ⟨i, hi⟩ := List.getElem?_of_mem hp
      obtain ⟨h1, h2⟩ := List.getElem?_zip_eq_some.mp hi
      exact ⟨Option.some.inj (h1.symm.trans h2), List.mem_of_getElem? h1⟩
    refine ⟨_, rfl, ?_⟩
    have := h p.1 hp'.2
    rw [hp'.1] at this
    simp [wipeD, hp'.1, this]
  have hb : boolsOf ((zipD ds ds).map fun _ => D.bl true) = _ := boolsOf_map (fun _ : D => true) (zipD ds ds)
  have e5 : biD .all false st [.lst ((zipD ds ds).map fun _ => .bl true)] = .ok (.bl true) st := by
    rw [biall, hb]; simp
  simp [F__law_same, e1, e3, ne_int, lc, e5, -List.map_const]
/-! ### the deck of the law's draws -/
structure Deck where
  dg : List Int
  cs : List Int
  at_ : Int
def Deck.st (g : Deck) (st : St) : St := .lst (g.dg.map .int) :: .lst (g.cs.map .int) :: .lst [.ref 0, .ref 1, .int g.at_] :: st
def Cell (x : Int) : Prop := 0 ≤ x ∧ x < 2147483629
structure Deck.Good (g : Deck) : Prop where
  dg : ∀ x ∈ g.dg, Cell x
  cs : ∀ x ∈ g.cs, Cell x
  ne : 0 < g.cs.length
  le : g.cs.length ≤ 64
  a0 : 0 ≤ g.at_
theorem depth_ints : ∀ ns : List Int, PyData.depthAll (D.pys (ns.map D.int)) ≤ 1
  | [] => by show PyData.depthAll [] ≤ 1; simp [PyData.depthAll]
  | n :: ns => by
    have ih := depth_ints ns
    show PyData.depthAll (.int n :: D.pys (ns.map D.int)) ≤ 1
    have : PyData.depth (.int n) ≤ 1 := by simp [PyData.depth]
    rw [PyData.depthAll]
    omega
theorem shaped_ints (ns : List Int) : shapedD (.lst (ns.map .int)) = true := by
  unfold shapedD SeqAt.shaped
  have h1 : D.pure (.lst (ns.map .int)) = true := by rw [D.pure]; exact pure_ints ns
  have h2 : PyData.canLay0 (D.py (.lst (ns.map .int))) = true := by rw [D.py, PyData.canLay0]; exact shape_int ns
  have h3 : PyData.depth (D.py (.lst (ns.map .int))) ≤ 64 := by
    rw [D.py, PyData.depth]
    have := depth_ints ns
    omega
  rw [h1, h2, decide_eq_true h3] <;> rfl
theorem ne_nil {st : St} {n : Nat} {ns : List Int} (h : st[n]? = some (.lst (ns.map .int))) : cmpD .ne st (.ref n) (.lst []) = some (!ns.isEmpty) := by
  show (eqD st (.ref n) (.lst [])).map (!·) = _
  unfold eqD
  simp only [view_ref st h, view_lst']
  have e1 : shapedD (.lst []) = true := shaped_ints []
  rw [shaped_ints, e1]
  show some (!PyData.eqv (.list (D.pys (ns.map D.int))) (.list [])) = _
  cases ns with
  | nil => rfl
  | cons n ns => rfl
def primes : List Int := [48271, 69621, 16807, 39373, 30323, 51749, 44417, 27449, 63073, 55001, 33791, 40009]
theorem primes_le : ∀ p ∈ primes, 0 ≤ p ∧ p ≤ 69621 := by decide
theorem prime_at (st : St) (i : Int) : ∃ p, (0 ≤ p ∧ p ≤ 69621) ∧ ixD st (.tup (primes.map .int)) (.int (i % 12)) = some (.int p) := by
  obtain ⟨p, hp, e⟩ := ints_at (ns := primes) (i := i % 12) (Int.emod_nonneg _ (by decide)) (by have := Int.emod_lt_of_pos i (show (0 : Int) < 12 by decide); show i % 12 < 12; exact this)
  exact ⟨p, primes_le p hp, e⟩
/-- a draw -/
theorem next_ok (k : Nat) (g : Deck) (hg : g.Good) (ha : g.at_ ≤ 1099511627776) (st : St) : ∃ (i : Int) (g' : Deck), call L.T (k + 1) 27 [.ref 2] (g.st st) = .ok (.int i) (g'.st st) ∧ Cell i ∧ g'.Good ∧ g'.at_ ≤ g.at_ + 1 := by
  rw [c__law_next]
  obtain ⟨dg, cs, a⟩ := g
  obtain ⟨h1, h2, h3, h4, h5⟩ := hg
  simp only at h1 h2 h3 h4 h5 ha
  have r0 : (Deck.st ⟨dg, cs, a⟩ st)[0]? = some (.lst (dg.map .int)) := rfl
  have r1 : (Deck.st ⟨dg, cs, a⟩ st)[1]? = some (.lst (cs.map .int)) := rfl
  have r2 : (Deck.st ⟨dg, cs, a⟩ st)[2]? = some (.lst [.ref 0, .ref 1, .int a]) := rfl
  have i0 : ixD (Deck.st ⟨dg, cs, a⟩ st) (.ref 2) (.int 0) = some (.ref 0) := by rw [ix_ref r2]; rfl
  have n0 := ne_nil r0
  cases dg with
  | cons x dg =>
    have hp : bmD .popat false (Deck.st ⟨x :: dg, cs, a⟩ st) (.ref 0) [.int 0] = .ok (.int x) (Deck.st ⟨dg, cs, a⟩ st) := rfl
    refine ⟨x, ⟨dg, cs, a⟩, ?_, h1 x List.mem_cons_self, ⟨fun y m => h1 y (List.mem_cons_of_mem _ m), h2, h3, h4, h5⟩, by simp only; omega⟩
    have hr := rc_ref r0
    simp [F__law_next, i0, n0, BM.rc, hr, hp, -mk_f, mk_val (ds := []) (by decide)]
    exact gc_len rfl
  | nil =>
    have i2 : ixD (Deck.st ⟨[], cs, a⟩ st) (.ref 2) (.int 2) = some (.int a) := by rw [ix_ref r2]; rfl
    have s2 : setIxD (Deck.st ⟨[], cs, a⟩ st) (.ref 2) (.int 2) (.int (a + 1)) = some (Deck.st ⟨[], cs, a + 1⟩ st) := rfl
    have r1' : (Deck.st ⟨[], cs, a + 1⟩ st)[1]? = some (.lst (cs.map .int)) := rfl
    have r2' : (Deck.st ⟨[], cs, a + 1⟩ st)[2]? = some (.lst [.ref 0, .ref 1, .int (a + 1)]) := rfl
    have i1 : ixD (Deck.st ⟨[], cs, a + 1⟩ st) (.ref 2) (.int 1) = some (.ref 1) := by rw [ix_ref r2']; rfl
    have l1 : biD .len false (Deck.st ⟨[], cs, a + 1⟩ st) [.ref 1] = .ok (.int cs.length) (Deck.st ⟨[], cs, a + 1⟩ st) := by
      simp only [biD, view_ref _ r1', List.length_map]
    have hcl : (0 : Int) < cs.length := by omega
    obtain ⟨c, hc, ec⟩ := ints_at (ns := cs) (i := (a + 1) % cs.length) (Int.emod_nonneg _ (by omega)) (Int.emod_lt_of_pos _ hcl)
    have ec' : ixD (Deck.st ⟨[], cs, a + 1⟩ st) (.ref 1) (.int ((a + 1) % cs.length)) = some (.int c) := by rw [ix_ref r1']; exact ec
    obtain ⟨c0, c1⟩ := h2 c hc
    obtain ⟨p, ⟨p0, p1⟩, ep⟩ := prime_at (Deck.st ⟨[], cs, a + 1⟩ st) a
    obtain ⟨q, ⟨q0, q1⟩, eq⟩ := prime_at (Deck.st ⟨[], cs, a + 1⟩ st) (a + 5)
    have em : primes.map D.int = [.int 48271, .int 69621, .int 16807, .int 39373, .int 30323, .int 51749, .int 44417, .int 27449, .int 63073, .int 55001, .int 33791, .int 40009] := rfl
    rw [em] at ep eq
    have b1 : 0 ≤ p * (a + 1) := Int.mul_nonneg p0 (by omega)
    have b2 : p * (a + 1) ≤ 69621 * 1099511627777 := Int.mul_le_mul p1 (by omega) (by omega) (by decide)
    have hx0 : 0 ≤ c + 7 * a + p * (a + 1) := by omega
    have hx1 : c + 7 * a + p * (a + 1) < 18446744073709551616 := by omega
    have m7 := mul_l false (Deck.st ⟨[], cs, a + 1⟩ st) (i := 7) a (by decide)
    have mp := mul_l false (Deck.st ⟨[], cs, a + 1⟩ st) (i := p) (a + 1) (by omega)
    have mq := mul_l false (Deck.st ⟨[], cs, a + 1⟩ st) (i := q) (c + 7 * a) (by omega)
    refine ⟨((c + 7 * a + p * (a + 1)) ^ 5 % 2147483647 + q * (c + 7 * a)) % 2147483629, ⟨[], cs, a + 1⟩, ?_, ⟨Int.emod_nonneg _ (by decide), Int.emod_lt_of_pos _ (by decide)⟩, ⟨fun y m => by simp at m, h2, h3, h4, by simp only; omega⟩, by simp only; omega⟩
    simp [F__law_next, i0, n0, -mk_f, mk_val (ds := []) (by decide), i2, s2, i1, l1, mod_pos false _ _ hcl, ec', m7, ep, mp, pow5 _ hx0 hx1, mod_pos false _ _ (show (0 : Int) < 12 by decide), eq, mq, mod_pos false _ _ (show (0 : Int) < 2147483647 by decide), mod_pos false _ _ (show (0 : Int) < 2147483629 by decide)]
    exact gc_len rfl
theorem cell_mod (x : Int) : Cell (x % 2147483629) := ⟨Int.emod_nonneg _ (by decide), Int.emod_lt_of_pos _ (by decide)⟩
theorem p10_18 (st : St) : binD .pow false (.int 10) (.int 18) st = .ok (.int 1000000000000000000) st := by
  rw [pow_int, if_pos ⟨by decide, by decide, by decide⟩] <;> rfl
theorem mem_cut {α : Type} {xs : List α} {lo hi : Option Int} {x : α} (h : x ∈ cut xs lo hi) : x ∈ xs := List.mem_of_mem_drop (List.mem_of_mem_take h)
theorem cut_len {α : Type} (xs : List α) (lo hi : Option Int) : (cut xs lo hi).length ≤ xs.length := by
  unfold cut
  rw [List.length_take, List.length_drop]
  omega
def dk2 (dg cs : List Int) : St := [.lst (dg.map .int), .lst (cs.map .int)]
theorem deck_ok (k : Nat) (ns : List Int) (hl : ns.length ≤ 63) : ∃ g : Deck, call L.T (k + 1) 19 [scrD ns] [] = .ok (.ref 2) (g.st []) ∧ g.Good ∧ g.at_ = 0 := by
  rw [c__law_deck]
  have e1 : biD .len false [.lst []] [scrD ns] = .ok (.int ns.length) [.lst []] := by simp [biD, scrD]
  have hcut : (cut (ns.map D.int) none (some 63)).length ≤ 63 := Nat.le_trans (cut_len _ _ _) (by simpa using hl)
  have e2 : slD false (dk2 [] [(ns.length : Int)]) (scrD ns) none (some 63) = .ok (.lst (cut (ns.map D.int) none (some 63))) (dk2 [] [(ns.length : Int)]) := by
    show mk false (cut (ns.map D.int) none (some 63)) _ = _
    exact if_pos (by rw [sizeMax_eq]; omega)
  obtain ⟨env', s', e, dg, cs, rfl, ⟨z, rfl⟩, q1, q2, q3⟩ := exec_forI (P := ⟨L.sub, call L.T k⟩) (tg := .nm 3) (it := .of (.sl false (.v 0) .no (.so (.c (.int 63))))) (b := F__law_deck_b2) (env := [some (scrD ns), some (.ref 0), some (.ref 1), none]) (st := dk2 [] [(ns.length : Int)]) (st1 := dk2 [] [(ns.length : Int)]) (wk := ⟨cut (ns.map D.int) none (some 63), fun _ => true⟩)
    (fun j env s => ∃ dg cs : List Int, s = dk2 dg cs ∧ (∃ z, env = [some (scrD ns), some (.ref 0), some (.ref 1), z]) ∧ (∀ x ∈ dg, Cell x) ∧ (∀ x ∈ cs, Cell x) ∧ cs.length = 1 + j) (by simp [e2, walkOf]) (fun _ _ _ _ => rfl)
    (fun j d hj env s ⟨dg, cs, hs, ⟨z, he⟩, q1, q2, q3⟩ => by
      subst hs he
      have hjl : j < 63 := Nat.lt_of_lt_of_le (List.getElem?_eq_some_iff.mp hj).1 hcut
      obtain ⟨n, hn, rfl⟩ := List.mem_map.mp (mem_cut (List.mem_of_getElem? hj))
      have a1 : biD .abs false (dk2 dg cs) [.int n] = .ok (.int (if n < 0 then -n else n)) (dk2 dg cs) := rfl
      generalize hx : (if n < 0 then -n else n) = x at a1
      have hx0 : 0 ≤ x := by rw [← hx]; split <;> omega
      have hc1 : (dk2 dg cs)[1]? = some (.lst (cs.map .int)) := rfl
      have ap := app_at (m := false) (x := .int (x % 2147483629)) hc1 (by simp; omega)
      have ap2 : (dk2 dg cs).set 1 (.lst (cs.map D.int ++ [.int (x % 2147483629)])) = dk2 dg (cs ++ [x % 2147483629]) := by simp [dk2]
      rw [ap2] at ap
      obtain ⟨env2, s2, e2, dg2, rfl, y, rfl, hy, w1⟩ := exec_while (P := ⟨L.sub, call L.T k⟩) (t := .and (.cmp .ge (.v 3) (.bin .pow false (.c (.int 10)) (.c (.int 18)))) (.cmp .lt (.bi .len false (.cons (.v 1) .nil)) (.c (.int 900)))) (b := F__law_deck_b1)
        (env := [some (scrD ns), some (.ref 0), some (.ref 1), some (.int x)]) (st := dk2 dg (cs ++ [x % 2147483629]))
        (fun env s => ∃ dg2 : List Int, s = dk2 dg2 (cs ++ [x % 2147483629]) ∧ ∃ y : Int, env = [some (scrD ns), some (.ref 0), some (.ref 1), some (.int y)] ∧ 0 ≤ y ∧ ∀ x ∈ dg2, Cell x)
        (fun env s => 900 - (match (s[0]? : Option Ob) with | some (Ob.lst ds) => ds.length | _ => 0))
        (fun env s ⟨dg2, hs, y, he, hy, w1⟩ => by
          subst hs he
          have l1 : biD .len false (dk2 dg2 (cs ++ [x % 2147483629])) [.ref 0] = .ok (.int dg2.length) (dk2 dg2 (cs ++ [x % 2147483629])) := by
            have hv : (dk2 dg2 (cs ++ [x % 2147483629]))[0]? = some (.lst (dg2.map .int)) := rfl
            simp only [biD, view_ref _ hv, List.length_map]
          by_cases hb : (1000000000000000000 : Int) ≤ y
          · by_cases hc : (dg2.length : Int) < 900
            · refine .inr ⟨by simp [p10_18, hb, l1, hc], ?_⟩
              have h0 : (dk2 dg2 (cs ++ [x % 2147483629]))[0]? = some (.lst (dg2.map .int)) := rfl
              have ap := app_at (m := false) (x := .int (y % 2147483629)) h0 (by simp; omega)
              have ap2 : (dk2 dg2 (cs ++ [x % 2147483629])).set 0 (.lst (dg2.map D.int ++ [.int (y % 2147483629)])) = dk2 (dg2 ++ [y % 2147483629]) (cs ++ [x % 2147483629]) := by simp [dk2]
              rw [ap2] at ap
              have hr := rc_ref h0
              refine ⟨[some (scrD ns), some (.ref 0), some (.ref 1), some (.int (y / 2147483629))], dk2 (dg2 ++ [y % 2147483629]) (cs ++ [x % 2147483629]), ?_, ⟨_, rfl, _, rfl, Int.ediv_nonneg hy (by decide), fun u hu => ?_⟩, ?_⟩
              · simp [F__law_deck_b1, BM.rc, hr, mod_pos false _ _ (show (0 : Int) < 2147483629 by decide), ap, div_pos false _ _ (show (0 : Int) < 2147483629 by decide) (by decide)]
              · rcases List.mem_append.mp hu with hu | hu
                · exact w1 u hu
                · rw [List.mem_singleton.mp hu]; exact cell_mod y
              · show 900 - ((dg2 ++ [y % 2147483629]).map D.int).length < 900 - (dg2.map D.int).length
                simp only [List.length_map, List.length_append, List.length_cons, List.length_nil]
                omega
            · exact .inl (by simp [p10_18, hb, l1, hc])
          · exact .inl (by simp [p10_18, hb]))
        ⟨dg, rfl, x, rfl, hx0, q1⟩ (by show 900 - _ < 100000; omega)
      have hr := rc_ref hc1
      refine ⟨[some (scrD ns), some (.ref 0), some (.ref 1), some (.int n)], [some (scrD ns), some (.ref 0), some (.ref 1), some (.int y)], dk2 dg2 (cs ++ [x % 2147483629]), rfl, ?_, dg2, cs ++ [x % 2147483629], rfl, ⟨_, rfl⟩, w1, fun u hu => ?_, ?_⟩
      · simp [F__law_deck_b2, a1, BM.rc, hr, mod_pos false _ _ (show (0 : Int) < 2147483629 by decide), ap, e2]
      · rcases List.mem_append.mp hu with hu | hu
        · exact q2 u hu
        · rw [List.mem_singleton.mp hu]; exact cell_mod x
      · rw [List.length_append, q3]
        simp only [List.length_cons, List.length_nil]
        omega)
    ⟨[], [(ns.length : Int)], rfl, ⟨_, rfl⟩, fun _ m => (nomatch m), fun x m => by rw [List.mem_singleton.mp m]; exact ⟨by omega, by omega⟩, rfl⟩
  have eq0 : ([.lst [], .lst [.int (ns.length : Int)]] : St) = dk2 [] [(ns.length : Int)] := rfl
  refine ⟨⟨dg, cs, 0⟩, ?_, ⟨q1, q2, by simp only; omega, by simp only at q3 ⊢; omega, Int.le_refl 0⟩, rfl⟩
  simp [F__law_deck, e1, eq0, e]
  rfl
/-! ### drawn books -/
def ent (f : Fact) : List L2.Key × D := ([.inl f.who, .inl f.role, .inl f.day], .tup [.str f.word, .int f.n])
def keyDF (f : Fact) : D := .tup [.int f.who, .int f.role, .int f.day]
theorem ints_lt (n : Nat) : ∀ ns : List Int, D.lts n (ns.map D.int) = true
  | [] => rfl
  | x :: ns => by rw [List.map_cons, D.lts, ints_lt n ns]; rfl
theorem fD_lt (n : Nat) : ∀ fs : List Fact, D.lts n (fs.map fD) = true
  | [] => rfl
  | f :: fs => by rw [List.map_cons, D.lts, fD_lt n fs]; rfl
theorem gc_deck {d : D} {g g' : Deck} {st new : St} (h : d.lt 3 = true → d.lt (g.st st).length = true) (h3 : d.lt 3 = true) : gc d (g.st st) (g'.st (st ++ new)) = .ok d (g'.st st) := by
  have e : g'.st (st ++ new) = g'.st st ++ new := rfl
  rw [e]
  refine gc_old rfl (h h3) fun i o q => ?_
  have hl : (g.st st).length = st.length + 3 := rfl
  match i, q with
  | 0, q => cases q; exact .inr (ints_lt _ _)
  | 1, q => cases q; exact .inr (ints_lt _ _)
  | 2, q =>
    cases q
    refine .inr ?_
    rw [hl]
    simp [Ob.lt, D.lts, D.lt]
  | i + 3, q => exact .inl q
theorem dict_get (g : Deck) (st : St) (o : Ob) : (g.st (st ++ [o]))[st.length + 3]? = some o := by
  simp [Deck.st]
theorem dict_set (g : Deck) (st : St) (o o' : Ob) : (g.st (st ++ [o])).set (st.length + 3) o' = g.st (st ++ [o']) := by
  simp [Deck.st]
theorem put_facts (f : Fact) (fs : List Fact) : ∃ fs' : List Fact, putV [.inl f.who, .inl f.role, .inl f.day] (.tup [.str f.word, .int f.n]) (fs.map ent) = fs'.map ent ∧ (∀ h ∈ fs', h = f ∨ h ∈ fs) ∧ fs'.length ≤ fs.length + 1 ∧ ((fs.map keyF).Nodup → (fs'.map keyF).Nodup) := by
  have hk : ∀ h : Fact, (ent h).1 = [.inl f.who, .inl f.role, .inl f.day] ↔ keyF h = keyF f := fun h => by
    simp [ent, keyF]
  by_cases ha : ((fs.map ent).any fun kv => decide (kv.1 = [.inl f.who, .inl f.role, .inl f.day])) = true
  · refine ⟨fs.map fun h => if keyF h = keyF f then f else h, ?_, fun h hh => ?_, by simp, fun nd => ?_⟩
    · unfold putV
      rw [if_pos ha, List.map_map, List.map_map]
      refine List.map_congr_left fun h _ => ?_
      simp only [Function.comp]
      by_cases e : keyF h = keyF f
      · rw [if_pos ((hk h).mpr e), if_pos e]
        have := (hk h).mpr e
        rw [this]
        rfl
      · rw [if_neg fun q => e ((hk h).mp q), if_neg e]
    · obtain ⟨x, hx, rfl⟩ := List.mem_map.mp hh
      split
      · exact .inl rfl
      · exact .inr hx
    · rw [List.map_map]
      have : ((keyF ∘ fun h => if keyF h = keyF f then f else h)) = keyF := by
        funext h
        simp only [Function.comp]
        split
        · rename_i e; exact e.symm
        · rfl
      rw [this]
      exact nd
  · refine ⟨fs ++ [f], ?_, fun h hh => ?_, by simp, fun nd => ?_⟩
    · unfold putV
      rw [if_neg ha]
      simp [ent]
    · rcases List.mem_append.mp hh with hh | hh
      · exact .inr hh
      · exact .inl (List.mem_singleton.mp hh)
    · rw [List.map_append, List.nodup_append]
      refine ⟨nd, by simp, fun a ha' b hb => ?_⟩
      rw [List.mem_singleton.mp hb]
      intro e
      obtain ⟨x, hx, rfl⟩ := List.mem_map.mp ha'
      apply ha
      rw [List.any_map]
      exact List.any_eq_true.mpr ⟨x, hx, decide_eq_true ((hk x).mpr e)⟩
/-! the keys sorted -/
theorem lex_lt : ∀ xs ys : List Int, HT.lexLt xs ys = decide (xs < ys)
  | [], [] => by simp [HT.lexLt]
  | [], y :: ys => by simp [HT.lexLt]
  | x :: xs, [] => by simp [HT.lexLt]
  | x :: xs, y :: ys => by
    rw [HT.lexLt_cons, lex_lt xs ys]
    by_cases h : x = y
    · rw [if_pos h]; simp [h, List.cons_lt_cons_iff]
    · rw [if_neg h]; simp [h, List.cons_lt_cons_iff]
theorem le_keys (f g : Fact) : PySem.W.dataLe false D.py (keyDF f) (keyDF g) = decide (keyF f ≤ keyF g) := by
  show (!PySem.W.dataLt (.tuple ((keyF g).map .int)) (.tuple ((keyF f).map .int))) = _
  rw [PySem.W.dataLt_tuple]
  show (!PySem.W.rowLt ((keyF g).map .int) ((keyF f).map .int)) = _
  rw [PySem.W.dataLt_ints]
  by_cases h : keyF g < keyF f
  · have h' : ¬ keyF f ≤ keyF g := fun r => List.not_lt.mpr r h
    simp [h, h']
  · have h' : keyF f ≤ keyF g := List.not_lt.mp h
    simp [h, h']
def sortF (fs : List Fact) : List Fact := fs.mergeSort fun f g => decide (keyF f ≤ keyF g)
theorem sort_keys (fs : List Fact) : sortD (fs.map keyDF) = (sortF fs).map keyDF := by
  unfold sortD sortF
  exact (PySem.W.sort_maps keyDF (fun a _ b _ => (le_keys a b).symm)).symm
theorem sortF_mem {fs : List Fact} {f : Fact} : f ∈ sortF fs ↔ f ∈ fs := (List.mergeSort_perm _ _).mem_iff
theorem sortF_len (fs : List Fact) : (sortF fs).length = fs.length := List.length_mergeSort _
theorem sortF_rises (fs : List Fact) (nd : (fs.map keyF).Nodup) : Rises (sortF fs) := by
  have hp : (sortF fs).Pairwise (fun a b => decide (keyF a ≤ keyF b) = true) := by
    unfold sortF
    refine List.pairwise_mergeSort (le := fun f g => decide (keyF f ≤ keyF g)) (fun a b c h1 h2 => ?_) (fun a b => ?_) fs
    · exact decide_eq_true (List.le_trans (of_decide_eq_true h1) (of_decide_eq_true h2))
    · rw [Bool.or_eq_true]
      exact (List.le_total (keyF a) (keyF b)).imp decide_eq_true decide_eq_true
  have hn : ((sortF fs).map keyF).Nodup := ((List.mergeSort_perm fs _).map keyF).nodup_iff.mpr nd
  intro i a b ha hb
  obtain ⟨h1, rfl⟩ := List.getElem?_eq_some_iff.mp ha
  obtain ⟨h2, rfl⟩ := List.getElem?_eq_some_iff.mp hb
  have hle := of_decide_eq_true (List.pairwise_iff_getElem.mp hp i (i + 1) h1 h2 (by omega))
  have hne : keyF (sortF fs)[i] ≠ keyF (sortF fs)[i + 1] := by
    intro e
    have := (List.getElem_inj (xs := (sortF fs).map keyF) (i := i) (j := i + 1) (h₀ := by simpa using h1) (h₁ := by simpa using h2) hn).mp (by simpa using e)
    omega
  rw [lex_lt]
  refine decide_eq_true ?_
  rcases List.le_iff_lt_or_eq.mp hle with h | h
  · exact h
  · exact absurd h hne
theorem canSort_keys (fs : List Fact) : canSort (fs.map keyDF) = true := by
  unfold canSort
  have p : D.pures (fs.map keyDF) = true := by
    induction fs with
    | nil => rfl
    | cons f fs ih => rw [List.map_cons, D.pures, ih]; rfl
  have a : allAlike (fs.map keyDF) = true := by
    unfold allAlike
    rw [List.all_map]
    refine List.all_eq_true.mpr fun f _ => ?_
    simp only [Function.comp]
    rw [List.all_map]
    exact List.all_eq_true.mpr fun g _ => rfl
  have s : sortable (fs.map keyDF) = true := by
    unfold sortable
    rw [Bool.or_eq_true]
    left
    rw [List.all_map]
    exact List.all_eq_true.mpr fun f _ => rfl
  have d : depthOk (fs.map keyDF) = true := by
    unfold depthOk
    rw [List.all_map]
    refine List.all_eq_true.mpr fun f _ => ?_
    have : PyData.depth (.tuple [.int f.who, .int f.role, .int f.day]) ≤ 60 := by simp [PyData.depth, PyData.depthAll]
    exact decide_eq_true this
  rw [p, a, s, d] <;> rfl
theorem look_fact {fs : List Fact} (nd : (fs.map keyF).Nodup) {f : Fact} (hf : f ∈ fs) : valV [.inl f.who, .inl f.role, .inl f.day] (fs.map ent) = some (.tup [.str f.word, .int f.n]) := by
  induction fs with
  | nil => cases hf
  | cons h fs ih =>
    rw [List.map_cons, List.nodup_cons] at nd
    unfold valV
    rw [List.map_cons, List.find?_cons]
    by_cases e : (ent h).1 = [.inl f.who, .inl f.role, .inl f.day]
    · have hk : keyF h = keyF f := by simpa [ent, keyF] using e
      rw [decide_eq_true e]
      rcases List.mem_cons.mp hf with rfl | hf
      · rfl
      · exact absurd (List.mem_map.mpr ⟨f, hf, hk.symm⟩) nd.1
    · rw [decide_eq_false e]
      rcases List.mem_cons.mp hf with rfl | hf
      · exact absurd rfl e
      · exact ih nd.2 hf
theorem pick2 (st : St) (a b : D) (i : Int) : ixD st (.lst [a, b]) (.int (i % 2)) = some a ∨ ixD st (.lst [a, b]) (.int (i % 2)) = some b := by
  have h0 := Int.emod_nonneg i (show (2 : Int) ≠ 0 by decide)
  have h1 := Int.emod_lt_of_pos i (show (0 : Int) < 2 by decide)
  have : i % 2 = 0 ∨ i % 2 = 1 := by omega
  rcases this with e | e
  · rw [e]; exact .inl (ixl0 st a [b])
  · rw [e]; exact .inr (ixl1 st a b [])
theorem mod_rng (i : Int) {j : Int} (h : 0 < j) : 0 ≤ i % j ∧ i % j < j := ⟨Int.emod_nonneg _ (by omega), Int.emod_lt_of_pos _ h⟩
theorem other_one {w t o : Int} (hw0 : 0 ≤ w) (hw1 : w < o) (ht0 : 0 ≤ t) (ht1 : t < o - 1) : 0 ≤ (w + 1 + t) % o ∧ (w + 1 + t) % o < o ∧ (w + 1 + t) % o ≠ w := by
  have h := mod_rng (w + 1 + t) (j := o) (by omega)
  refine ⟨h.1, h.2, ?_⟩
  by_cases c : w + 1 + t < o
  · rw [Int.emod_eq_of_lt (by omega) c]; omega
  · have e : w + 1 + t = (w + 1 + t - o) + o * 1 := by omega
    rw [e, Int.add_mul_emod_self_left, Int.emod_eq_of_lt (by omega) (by omega)]
    omega
theorem wIn (f : Fact) (h : f.isIn = true) : f.word = Str.ofString "in" := by unfold Fact.word; rw [h]; rfl
theorem span_ok (k : Nat) (g : Deck) (hg : g.Good) (ha : g.at_ ≤ 1099511627776) (st : St) : ∃ (i : Int) (g' : Deck), call L.T (k + 2) 126 [.ref 2] (g.st st) = .ok (.int i) (g'.st st) ∧ (1 ≤ i ∧ i ≤ 1000000001) ∧ g'.Good ∧ g'.at_ ≤ g.at_ + 1 := by
  obtain ⟨x, g', e, _, h1, h2⟩ := next_ok k g hg ha st
  obtain ⟨p, hp, ep⟩ := ints_at (ns := [5, 12, 1000000001]) (i := x % 3) (mod_rng x (by decide)).1 (mod_rng x (show (0 : Int) < 3 by decide)).2
  refine ⟨p, g', ?_, ?_, h1, h2⟩
  · rw [c__law_span]
    have ep' : ixD (g'.st st) (.lst [.int 5, .int 12, .int 1000000001]) (.int (x % 3)) = some (.int p) := ep
    have hm : ∀ s : St, mk false [.int 5, .int 12, .int 1000000001] s = .ok (.lst [.int 5, .int 12, .int 1000000001]) s := fun s => rfl
    simp [F__law_span, -mk_f, hm, e, mod_pos false _ _ (show (0 : Int) < 3 by decide), ep']
    exact gc_len rfl
  · simp only [List.mem_cons, List.not_mem_nil, or_false] at hp
    omega
theorem law_book_ok (k : Nat) (g : Deck) (hg : g.Good) (ha : g.at_ + 200 ≤ 1099511627776) (st : St) (many span ones most : Int) (hm0 : 1 ≤ many) (hm1 : many ≤ 5) (hs0 : 1 ≤ span) (hs1 : span ≤ 1000000001) (ho0 : 1 ≤ ones) (ho1 : ones ≤ 100) (hx0 : 0 ≤ most) (hx1 : most ≤ 40) :
    ∃ (fs : List Fact) (g' : Deck), call L.T (k + 2) 24 [.ref 2, .int many, .int span, .int ones, .int most] (g.st st) = .ok (.tup (fs.map fD)) (g'.st st) ∧ g'.Good ∧ g'.at_ ≤ g.at_ + 200 ∧ (∀ f ∈ fs, f.ok many) ∧ Rises fs ∧ fs.length ≤ 60 := by
  rw [c__law_book]
  obtain ⟨n, g1, en, hn, hg1, ha1⟩ := next_ok k g hg (by omega) (st ++ [.dT []])
  have hr := mod_rng n (j := most + 1) (by omega)
  obtain ⟨env', s', e, fs, g2, rfl, ⟨a6, a7, a8, a9, a10, a11, rfl⟩, hg2, ha2, hok, hnd, hlen⟩ := exec_forI (P := ⟨L.sub, call L.T (k + 1)⟩) (tg := .nm 6) (it := .rng (.bin .mod false (.call 27 (.cons (.v 0) .nil)) (.bin .add false (.v 4) (.c (.int 1))))) (b := F__law_book_b1)
    (env := [some (.ref 2), some (.int many), some (.int span), some (.int ones), some (.int most), some (.ref (st.length + 3)), none, none, none, none, none, none, none]) (st := g.st (st ++ [.dT []])) (st1 := g1.st (st ++ [.dT []])) (wk := ⟨rangeD 0 (n % (most + 1)), fun _ => true⟩)
    (fun j env s => ∃ (fs : List Fact) (g2 : Deck), s = g2.st (st ++ [.dT (fs.map ent)]) ∧ (∃ a6 a7 a8 a9 a10 a11, env = [some (.ref 2), some (.int many), some (.int span), some (.int ones), some (.int most), some (.ref (st.length + 3)), a6, a7, a8, a9, a10, a11, none]) ∧ g2.Good ∧ g2.at_ ≤ g1.at_ + 3 * j ∧ (∀ f ∈ fs, f.ok many) ∧ (fs.map keyF).Nodup ∧ fs.length ≤ j)
    (by
      have hir : inRange (n % (most + 1)) = true := by unfold inRange; exact decide_eq_true (by omega)
      simp [en, mod_pos false _ _ (show (0 : Int) < most + 1 by omega), hir]) (fun _ _ _ _ => rfl)
    (fun j d hj env s ⟨fs, g2, hs, ⟨a6, a7, a8, a9, a10, a11, he⟩, hg2, ha2, hok, hnd, hlen⟩ => by
      subst hs he
      obtain ⟨rfl, hjl⟩ := rangeD_get hj
      obtain ⟨n7, g3, e3, h7, hg3, ha3⟩ := next_ok k g2 hg2 (by omega) (st ++ [.dT (fs.map ent)])
      obtain ⟨n9, g4, e4, h9, hg4, ha4⟩ := next_ok k g3 hg3 (by omega) (st ++ [.dT (fs.map ent)])
      obtain ⟨n10, g5, e5, h10, hg5, ha5⟩ := next_ok k g4 hg4 (by omega) (st ++ [.dT (fs.map ent)])
      obtain ⟨w0, w1⟩ := mod_rng n7 (j := ones) (by omega)
      obtain ⟨r0, r1⟩ := mod_rng (n7 / 128) (j := 4) (by decide)
      obtain ⟨y0, y1⟩ := mod_rng n9 (j := span) (by omega)
      obtain ⟨t0, t1⟩ := mod_rng (n10 / 3) (j := many) (by omega)
      obtain ⟨day, hday0, hday1, eday⟩ : ∃ day : Int, 0 ≤ day ∧ day ≤ 1000000000 ∧ ixD (g4.st (st ++ [.dT (fs.map ent)])) (.lst [.int 0, .int (n9 % span)]) (.int (n7 / 512 % 2)) = some (.int day) := by
        rcases pick2 (g4.st (st ++ [.dT (fs.map ent)])) (.int 0) (.int (n9 % span)) (n7 / 512) with e | e
        · exact ⟨0, by omega, by omega, e⟩
        · exact ⟨n9 % span, y0, by omega, e⟩
      have hmk : ∀ s : St, mk false [.int 0, .int (n9 % span)] s = .ok (.lst [.int 0, .int (n9 % span)]) s := fun s => rfl
      -- the fact that is drawn
      obtain ⟨f, fw, fr, fd, hfok, hwd⟩ : ∃ f : Fact, f.who = n7 % ones ∧ f.role = n7 / 128 % 4 ∧ f.day = day ∧ f.ok many ∧
          ((n10 % 3 = 0 ∧ 1 < ones ∧ (Str.ofString "with" = f.word ∧ (n7 % ones + 1 + n10 / 3 % (ones - 1)) % ones = f.n)) ∨ (¬ (n10 % 3 = 0 ∧ 1 < ones) ∧ (Str.ofString "in" = f.word ∧ n10 / 3 % many = f.n))) := by
        by_cases hc : n10 % 3 = 0 ∧ 1 < ones
        · obtain ⟨u0, u1⟩ := mod_rng (n10 / 3) (j := ones - 1) (by omega)
          obtain ⟨v0, v1, v2⟩ := other_one w0 w1 u0 u1
          exact ⟨⟨n7 % ones, n7 / 128 % 4, day, false, (n7 % ones + 1 + n10 / 3 % (ones - 1)) % ones⟩, rfl, rfl, rfl, ⟨w0, by simp only; omega, r0, by simp only; omega, hday0, hday1, v0, fun h => (nomatch h), fun _ => ⟨by simp only; omega, v2⟩⟩, .inl ⟨hc.1, hc.2, rfl, rfl⟩⟩
        · exact ⟨⟨n7 % ones, n7 / 128 % 4, day, true, n10 / 3 % many⟩, rfl, rfl, rfl, ⟨w0, by simp only; omega, r0, by simp only; omega, hday0, hday1, t0, fun _ => (by simp only; omega), fun h => (nomatch h)⟩, .inr ⟨hc, rfl, rfl⟩⟩
      obtain ⟨fs', ep, hmem, hl', hnd'⟩ := put_facts f fs
      have hset : setIxD (g5.st (st ++ [.dT (fs.map ent)])) (.ref (st.length + 3)) (.tup [.int (n7 % ones), .int (n7 / 128 % 4), .int day]) (.tup [.str f.word, .int f.n]) = some (g5.st (st ++ [.dT (fs'.map ent)])) := by
        have hk : keyT (.tup [.int (n7 % ones), .int (n7 / 128 % 4), .int day]) = some [.inl f.who, .inl f.role, .inl f.day] := by rw [fw, fr, fd]; rfl
        rw [setIx_dT (dict_get _ _ _) hk (by rw [List.length_map, sizeMax_eq]; omega), ep, dict_set]
      have d1 := fun s : St => mod_pos false s n7 (show (0 : Int) < ones by omega)
      have d2 := fun (s : St) (i : Int) => mod_pos false s i (show (0 : Int) < span by omega)
      have d3 := fun (s : St) (i : Int) => div_pos false s i (show (0 : Int) < 512 by decide) (by decide)
      have d4 := fun (s : St) (i : Int) => mod_pos false s i (show (0 : Int) < 2 by decide)
      have d5 := fun (s : St) (i : Int) => div_pos false s i (show (0 : Int) < 3 by decide) (by decide)
      have d6 := fun (s : St) (i : Int) => mod_pos false s i (show (0 : Int) < many by omega)
      have d7 := fun (s : St) (i : Int) => mod_pos false s i (show (0 : Int) < 3 by decide)
      have d8 := fun (s : St) (i : Int) => div_pos false s i (show (0 : Int) < 128 by decide) (by decide)
      have d9 := fun (s : St) (i : Int) => mod_pos false s i (show (0 : Int) < 4 by decide)
      have d10 := fun (s : St) (i : Int) => mod_pos false s i (show (0 : Int) < ones by omega)
      refine ⟨[some (.ref 2), some (.int many), some (.int span), some (.int ones), some (.int most), some (.ref (st.length + 3)), some (.int (0 + j)), a7, a8, a9, a10, a11, none],
        [some (.ref 2), some (.int many), some (.int span), some (.int ones), some (.int most), some (.ref (st.length + 3)), some (.int (0 + j)), some (.int n7), some (.int (n7 % ones)), some (.int day), some (.int n10), some (.tup [.str f.word, .int f.n]), none], g5.st (st ++ [.dT (fs'.map ent)]), rfl, ?_, fs', g5, rfl, ⟨_, _, _, _, _, _, rfl⟩, hg5, by omega, fun h hh => ?_, hnd' hnd, by omega⟩
      · rcases hwd with ⟨c1, c2, hw, hf⟩ | ⟨hc, hw, hf⟩
        · have d11 := fun (s : St) (i : Int) => mod_pos false s i (show (0 : Int) < ones - 1 by omega)
          simp [F__law_book_b1, e3, e4, e5, -mk_f, hmk, d1, d2, d3, d4, d5, d6, d7, d8, d9, d10, d11, eday, eq_int, c1, c2, hw, hf, hset]
        · by_cases c1 : n10 % 3 = 0
          · have c2 : ¬ 1 < ones := fun h => hc ⟨c1, h⟩
            simp [F__law_book_b1, e3, e4, e5, -mk_f, hmk, d1, d2, d3, d4, d5, d6, d7, d8, d9, d10, eday, eq_int, c1, c2, hw, hf, hset]
          · simp [F__law_book_b1, e3, e4, e5, -mk_f, hmk, d1, d2, d3, d4, d5, d6, d7, d8, d9, d10, eday, eq_int, c1, hw, hf, hset]
      · rcases hmem h hh with rfl | hh
        · exact hfok
        · exact hok h hh)
    ⟨[], g1, rfl, ⟨none, none, none, none, none, none, rfl⟩, hg1, by omega, fun _ m => (nomatch m), List.nodup_nil, Nat.le_refl _⟩
  have hwl : (rangeD 0 (n % (most + 1))).length = (n % (most + 1) - 0).toNat := by simp [rangeD]
  have hfl : fs.length ≤ 40 := by
    have : fs.length ≤ (rangeD 0 (n % (most + 1))).length := hlen
    omega
  have ha2' : g2.at_ ≤ g1.at_ + 3 * ((rangeD 0 (n % (most + 1))).length : Nat) := ha2
  have lc : ev ⟨L.sub, call L.T (k + 1)⟩ F__law_book_l1 [some (.ref 2), some (.int many), some (.int span), some (.int ones), some (.int most), some (.ref (st.length + 3)), a6, a7, a8, a9, a10, a11, none] (g2.st (st ++ [.dT (fs.map ent)])) = .ok (.lst ((sortF fs).map fD)) (g2.st (st ++ [.dT (fs.map ent)])) := by
    have hkeys : keysOf (g2.st (st ++ [.dT (fs.map ent)])) (.ref (st.length + 3)) = some (fs.map keyDF) := by
      rw [keysOf_dT (dict_get _ _ _), List.map_map]
      rfl
    have hsk : sortkD false (g2.st (st ++ [.dT (fs.map ent)])) (.ref (st.length + 3)) = .ok (.lst ((sortF fs).map keyDF)) (g2.st (st ++ [.dT (fs.map ent)])) := by
      unfold sortkD
      rw [hkeys]
      simp only [canSort_keys, if_true]
      rw [sort_keys, mk_f, if_pos (by rw [List.length_map, sortF_len]; omega)]
    have := ev_lcMap (L := L) (C := call L.T (k + 1)) (own := [12]) (tg := .nm 12) (it := .of (.sortk false (.v 5))) (e := .bin .add false (.v 12) (.tup (.cons (.ix (.v 5) (.v 12)) .nil))) (env := [some (.ref 2), some (.int many), some (.int span), some (.int ones), some (.int most), some (.ref (st.length + 3)), a6, a7, a8, a9, a10, a11, none]) (st := g2.st (st ++ [.dT (fs.map ent)])) (st1 := g2.st (st ++ [.dT (fs.map ent)])) (wk := ⟨(sortF fs).map keyDF, fun _ => true⟩)
      (fun d => match ixD (g2.st (st ++ [.dT (fs.map ent)])) (.ref (st.length + 3)) d, d with | some v, .tup ds => .tup (ds ++ [v]) | _, _ => .non) (by simp [hsk, walkOf]) rfl (by simp only [List.length_map, sortF_len, sizeMax_eq]; omega) fun d m => ?_
    · rw [F__law_book_l1, this]
      congr 2
      rw [List.map_map]
      refine List.map_congr_left fun f hf => ?_
      have hix : ixD (g2.st (st ++ [.dT (fs.map ent)])) (.ref (st.length + 3)) (keyDF f) = some (.tup [.str f.word, .int f.n]) := by
        exact ix_dT (dict_get _ _ _) (z := [.inl f.who, .inl f.role, .inl f.day]) rfl (look_fact hnd (sortF_mem.mp hf))
      simp only [Function.comp, hix]
      rfl
    · obtain ⟨f, hf, rfl⟩ := List.mem_map.mp m
      refine ⟨_, rfl, ?_⟩
      have hix : ixD (g2.st (st ++ [.dT (fs.map ent)])) (.ref (st.length + 3)) (keyDF f) = some (.tup [.str f.word, .int f.n]) := by
        exact ix_dT (dict_get _ _ _) (z := [.inl f.who, .inl f.role, .inl f.day]) rfl (look_fact hnd (sortF_mem.mp hf))
      simp only [hix]
      simp [wipeD, hix]
      simp [keyDF, add_tup]
  have ht : ∀ s : St, biD .tuple false s [.lst ((sortF fs).map fD)] = .ok (.tup ((sortF fs).map fD)) s := fun s => rfl
  refine ⟨sortF fs, g2, ?_, hg2, by omega, fun f hf => hok f (sortF_mem.mp hf), sortF_rises fs hnd, by rw [sortF_len]; omega⟩
  have es : g.st st ++ [.dT []] = g.st (st ++ [.dT []]) := rfl
  have el : (g.st st).length = st.length + 3 := rfl
  simp [F__law_book, es, el, e, lc, ht]
  exact gc_deck (fun _ => fD_lt _ _) (fD_lt _ _)
/-! ### law k73 -/
theorem pick3 (st : St) (a b c : D) (i : Int) : ixD st (.lst [a, b, c]) (.int (i % 3)) = some a ∨ ixD st (.lst [a, b, c]) (.int (i % 3)) = some b ∨ ixD st (.lst [a, b, c]) (.int (i % 3)) = some c := by
  have h0 := Int.emod_nonneg i (show (3 : Int) ≠ 0 by decide)
  have h1 := Int.emod_lt_of_pos i (show (0 : Int) < 3 by decide)
  have : i % 3 = 0 ∨ i % 3 = 1 ∨ i % 3 = 2 := by omega
  rcases this with e | e | e
  · rw [e]; exact .inl (ixl0 st a [b, c])
  · rw [e]; exact .inr (.inl (ixl1 st a b [c]))
  · rw [e]; exact .inr (.inr (ixl2 st a b c []))
theorem pick2' (st : St) (a b : D) (i : Int) : ixD st (.lst [a, b]) (.int (i % 2)) = some (if i % 2 = 0 then a else b) := by
  have h0 := Int.emod_nonneg i (show (2 : Int) ≠ 0 by decide)
  have h1 := Int.emod_lt_of_pos i (show (0 : Int) < 2 by decide)
  have : i % 2 = 0 ∨ i % 2 = 1 := by omega
  rcases this with e | e
  · rw [e]; exact ixl0 st a [b]
  · rw [e]; exact ixl1 st a b []
/-- the row's key in a book of sixty -/
def Kv (v : Int) (i : Nat) (f : Fact) : Prop := if v % 2 = 0 then f.who = i + 40 * ((i : Int) / 30) else f.who = (i : Int) / 4 ∧ f.role = (i : Int) % 4
theorem kv_rises {v : Int} {i : Nat} {f g : Fact} (hf : Kv v i f) (hg : Kv v (i + 1) g) : HT.lexLt (keyF f) (keyF g) = true := by
  unfold Kv at hf hg
  unfold keyF
  rw [HT.lexLt_cons]
  split at hf
  · rename_i h
    rw [if_pos h] at hg
    rw [if_neg (by omega), decide_eq_true]
    omega
  · rename_i h
    rw [if_neg h] at hg
    by_cases e : f.who = g.who
    · rw [if_pos e, HT.lexLt_cons, if_neg (by omega), decide_eq_true]
      omega
    · rw [if_neg e, decide_eq_true]
      omega
theorem p10_9 (st : St) : binD .pow false (.int 10) (.int 9) st = .ok (.int 1000000000) st := by
  rw [pow_int, if_pos ⟨by decide, by decide, by decide⟩] <;> rfl
theorem drawn_book_ok (k : Nat) (g : Deck) (hg : g.Good) (ha : g.at_ + 400 ≤ 1099511627776) (st : St) (many span : Int) (hm0 : 1 ≤ many) (hm1 : many ≤ 5) (hs0 : 1 ≤ span) (hs1 : span ≤ 1000000001) :
    ∃ (fs : List Fact) (g' : Deck), call L.T (k + 3) 129 [.ref 2, .int many, .int span] (g.st st) = .ok (.tup (fs.map fD)) (g'.st st) ∧ g'.Good ∧ g'.at_ ≤ g.at_ + 400 ∧ (∀ f ∈ fs, f.ok many) ∧ Rises fs ∧ fs.length ≤ 60 := by
  rw [c__law_drawn_book]
  obtain ⟨n, g1, en, hn, hg1, ha1⟩ := next_ok (k + 1) g hg (by omega) st
  by_cases hc : 0 < n % 6
  · obtain ⟨ones, ho, eo⟩ := ints_at (ns := [6, 2, 100, 100, 6]) (i := n % 6 - 1) (by omega) (by have := (mod_rng n (show (0 : Int) < 6 by decide)).2; show n % 6 - 1 < 5; omega)
    have ho' : 1 ≤ ones ∧ ones ≤ 100 := by
      simp only [List.mem_cons, List.not_mem_nil, or_false] at ho
      omega
    obtain ⟨fs, g2, e2, hg2, ha2, h1, h2, h3⟩ := law_book_ok k g1 hg1 (by omega) st many span ones 40 hm0 hm1 hs0 hs1 ho'.1 ho'.2 (by decide) (by decide)
    refine ⟨fs, g2, ?_, hg2, by omega, h1, h2, h3⟩
    have eo' : ixD (g1.st st) (.lst [.int 6, .int 2, .int 100, .int 100, .int 6]) (.int (n % 6 - 1)) = some (.int ones) := eo
    simp [F__law_drawn_book, en, mod_pos false _ _ (show (0 : Int) < 6 by decide), hc, eo', e2]
    exact gc_len rfl
  · obtain ⟨env', s', e, fs, g2, rfl, ⟨a5, a6, a7, a8, a9, rfl⟩, hg2, ha2, hok, hkv, hlen⟩ := exec_forI (P := ⟨L.sub, call L.T (k + 2)⟩) (tg := .nm 5) (it := .rng (.c (.int 60))) (b := F__law_drawn_book_b1)
      (env := [some (.ref 2), some (.int many), some (.int span), some (.int n), some (.ref (st.length + 3)), none, none, none, none, none]) (st := g1.st (st ++ [.lst []])) (st1 := g1.st (st ++ [.lst []])) (wk := ⟨rangeD 0 60, fun _ => true⟩)
      (fun j env s => ∃ (fs : List Fact) (g2 : Deck), s = g2.st (st ++ [.lst (fs.map fD)]) ∧ (∃ a5 a6 a7 a8 a9, env = [some (.ref 2), some (.int many), some (.int span), some (.int n), some (.ref (st.length + 3)), a5, a6, a7, a8, a9]) ∧ g2.Good ∧ g2.at_ ≤ g1.at_ + j ∧ (∀ f ∈ fs, f.ok many) ∧ (∀ i f, fs[i]? = some f → Kv (n / 6) i f) ∧ fs.length = j)
      (by
        have hir : inRange 60 = true := by simpa using inRange_nat (n := 60) (by omega)
        simp [hir]) (fun _ _ _ _ => rfl)
      (fun j d hj env s ⟨fs, g2, hs, ⟨a5, a6, a7, a8, a9, he⟩, hg2, ha2, hok, hkv, hlen⟩ => by
        subst hs he
        obtain ⟨rfl, hjl⟩ := rangeD_get hj
        obtain ⟨m, g3, e3, h7, hg3, ha3⟩ := next_ok (k + 1) g2 hg2 (by omega) (st ++ [.lst (fs.map fD)])
        obtain ⟨m0, m1⟩ := h7
        obtain ⟨who, hwho, ew⟩ : ∃ who : Int, (if n / 6 % 2 = 0 then who = (0 + (j : Int)) + 40 * ((0 + (j : Int)) / 30) else who = (0 + (j : Int)) / 4) ∧ ixD (g3.st (st ++ [.lst (fs.map fD)])) (.lst [.int (0 + (j : Int) + 40 * ((0 + (j : Int)) / 30)), .int ((0 + (j : Int)) / 4)]) (.int (n / 6 % 2)) = some (.int who) := by
          by_cases h : n / 6 % 2 = 0
          · exact ⟨_, by rw [if_pos h], by rw [pick2', if_pos h]⟩
          · exact ⟨_, by rw [if_neg h], by rw [pick2', if_neg h]⟩
        obtain ⟨role, hrole, hr0, hr1, er⟩ : ∃ role : Int, (¬ n / 6 % 2 = 0 → role = (0 + (j : Int)) % 4) ∧ 0 ≤ role ∧ role ≤ 3 ∧ ixD (g3.st (st ++ [.lst (fs.map fD)])) (.lst [.int (m / 256 % 4), .int ((0 + (j : Int)) % 4)]) (.int (n / 6 % 2)) = some (.int role) := by
          have q := mod_rng (m / 256) (show (0 : Int) < 4 by decide)
          by_cases h : n / 6 % 2 = 0
          · exact ⟨m / 256 % 4, fun h' => absurd h h', q.1, by omega, by rw [pick2', if_pos h]⟩
          · exact ⟨(0 + (j : Int)) % 4, fun _ => rfl, by omega, by omega, by rw [pick2', if_neg h]⟩
        have hw0 : 0 ≤ who := by split at hwho <;> omega
        have hw1 : who < 100 := by split at hwho <;> omega
        obtain ⟨v0, v1, v2⟩ := other_one hw0 hw1 (mod_rng m (show (0 : Int) < 99 by decide)).1 (by have := (mod_rng m (show (0 : Int) < 99 by decide)).2; omega)
        obtain ⟨t0, t1⟩ := mod_rng m (j := many) (by omega)
        obtain ⟨y0, y1⟩ := mod_rng m (j := span) (by omega)
        obtain ⟨day, hd0, hd1, ed⟩ : ∃ day : Int, 0 ≤ day ∧ day ≤ 1000000000 ∧ ixD (g3.st (st ++ [.lst (fs.map fD)])) (.lst [.int 1000000000, .int 0, .int (m % span)]) (.int (m / 1024 % 3)) = some (.int day) := by
          rcases pick3 (g3.st (st ++ [.lst (fs.map fD)])) (.int 1000000000) (.int 0) (.int (m % span)) (m / 1024) with e | e | e
          · exact ⟨_, by omega, by omega, e⟩
          · exact ⟨_, by omega, by omega, e⟩
          · exact ⟨_, y0, by omega, e⟩
        obtain ⟨f, fw, fr, fd, hfok, ef⟩ : ∃ f : Fact, f.who = who ∧ f.role = role ∧ f.day = day ∧ f.ok many ∧ ixD (g3.st (st ++ [.lst (fs.map fD)])) (.lst [.tup [.str (Str.ofString "in"), .int (m % many)], .tup [.str (Str.ofString "with"), .int ((who + 1 + m % 99) % 100)]]) (.int (m / 128 % 2)) = some (.tup [.str f.word, .int f.n]) := by
          by_cases h : m / 128 % 2 = 0
          · exact ⟨⟨who, role, day, true, m % many⟩, rfl, rfl, rfl, ⟨hw0, by simp only; omega, hr0, hr1, hd0, hd1, t0, fun _ => (by simp only; omega), fun h => (nomatch h)⟩, by rw [pick2', if_pos h]; rfl⟩
          · exact ⟨⟨who, role, day, false, (who + 1 + m % 99) % 100⟩, rfl, rfl, rfl, ⟨hw0, by simp only; omega, hr0, hr1, hd0, hd1, v0, fun h => (nomatch h), fun _ => ⟨by simp only; omega, v2⟩⟩, by rw [pick2', if_neg h]; rfl⟩
        have hget := dict_get g3 st (.lst (fs.map fD))
        have happ := app_at (m := false) (x := fD f) hget (by rw [List.length_map, sizeMax_eq]; omega)
        rw [dict_set] at happ
        have hrr := rc_ref hget
        have efd : fD f = .tup [.int who, .int role, .int day, .tup [.str f.word, .int f.n]] := by unfold fD; rw [fw, fr, fd]
        rw [efd] at happ
        have d1 := fun (s : St) (i : Int) => div_pos false s i (show (0 : Int) < 30 by decide) (by decide)
        have d2 := fun (s : St) (j : Int) => mul_l false s (i := 40) j (by decide)
        have d3 := fun (s : St) (i : Int) => div_pos false s i (show (0 : Int) < 4 by decide) (by decide)
        have d4 := fun (s : St) (i : Int) => div_pos false s i (show (0 : Int) < 6 by decide) (by decide)
        have d5 := fun (s : St) (i : Int) => mod_pos false s i (show (0 : Int) < 2 by decide)
        have d6 := fun (s : St) (i : Int) => div_pos false s i (show (0 : Int) < 256 by decide) (by decide)
        have d7 := fun (s : St) (i : Int) => mod_pos false s i (show (0 : Int) < 4 by decide)
        have d8 := fun (s : St) (i : Int) => mod_pos false s i (show (0 : Int) < many by omega)
        have d9 := fun (s : St) (i : Int) => mod_pos false s i (show (0 : Int) < 99 by decide)
        have d10 := fun (s : St) (i : Int) => mod_pos false s i (show (0 : Int) < 100 by decide)
        have d11 := fun (s : St) (i : Int) => div_pos false s i (show (0 : Int) < 128 by decide) (by decide)
        have d12 := fun (s : St) (i : Int) => div_pos false s i (show (0 : Int) < 1024 by decide) (by decide)
        have d13 := fun (s : St) (i : Int) => mod_pos false s i (show (0 : Int) < 3 by decide)
        have d14 := fun (s : St) (i : Int) => mod_pos false s i (show (0 : Int) < span by omega)
        generalize hz : (0 + (j : Int)) = z at ew er hwho hrole
        refine ⟨[some (.ref 2), some (.int many), some (.int span), some (.int n), some (.ref (st.length + 3)), some (.int z), a6, a7, a8, a9],
          [some (.ref 2), some (.int many), some (.int span), some (.int n), some (.ref (st.length + 3)), some (.int z), some (.int m), some (.int who), some (.int role), some (.tup [.str f.word, .int f.n])], g3.st (st ++ [.lst ((fs ++ [f]).map fD)]), by rw [← hz]; rfl, ?_, fs ++ [f], g3, rfl, ⟨_, _, _, _, _, rfl⟩, hg3, by omega, fun h hh => ?_, fun i h hh => ?_, ?_⟩
        · rw [List.map_append, List.map_cons, List.map_nil, efd]
          generalize fs.map fD = A at *
          simp [F__law_drawn_book_b1, e3, d1, d2, d3, d4, d5, d6, d7, d8, d9, d10, d11, d12, d13, d14, p10_9, ew, er, ed, ef, BM.rc, hrr, happ]
        · rcases List.mem_append.mp hh with hh | hh
          · exact hok h hh
          · rw [List.mem_singleton.mp hh]; exact hfok
        · by_cases hi : i < fs.length
          · rw [List.getElem?_append_left hi] at hh
            exact hkv i h hh
          · have hi2 : i = fs.length := by
              have := (List.getElem?_eq_some_iff.mp hh).1
              rw [List.length_append] at this
              simp at this
              omega
            subst hi2
            rw [List.getElem?_concat_length] at hh
            cases hh
            unfold Kv
            rw [hlen, fw, fr]
            have hzj : z = (j : Int) := by omega
            rw [hzj] at hwho hrole
            split
            · rename_i hv; rw [if_pos hv] at hwho; exact hwho
            · rename_i hv; rw [if_neg hv] at hwho; exact ⟨hwho, hrole hv⟩
        · rw [List.length_append, hlen]; rfl)
      ⟨[], g1, rfl, ⟨none, none, none, none, none, rfl⟩, hg1, by omega, fun _ m => (nomatch m), fun _ _ h => by simp at h, rfl⟩
    have hl60 : fs.length = 60 := by
      have : fs.length = (rangeD 0 60).length := hlen
      simpa [rangeD] using this
    have ha2' : g2.at_ ≤ g1.at_ + ((rangeD 0 60).length : Nat) := ha2
    have hr60 : (rangeD 0 60).length = 60 := by simp [rangeD]
    have ht : biD .tuple false (g2.st (st ++ [.lst (fs.map fD)])) [.ref (st.length + 3)] = .ok (.tup (fs.map fD)) (g2.st (st ++ [.lst (fs.map fD)])) := by
      simp only [biD, view_ref _ (dict_get g2 st (.lst (fs.map fD)))]
    refine ⟨fs, g2, ?_, hg2, by omega, hok, fun i a b ha hb => kv_rises (hkv i a ha) (hkv (i + 1) b hb), by omega⟩
    have es : g1.st st ++ [.lst []] = g1.st (st ++ [.lst []]) := rfl
    have el : (g1.st st).length = st.length + 3 := rfl
    simp [F__law_drawn_book, en, mod_pos false _ _ (show (0 : Int) < 6 by decide), hc, es, el, e, ht]
    exact gc_deck (fun _ => fD_lt _ _) (fD_lt _ _)
theorem same_fact (k : Nat) (f : Fact) (st : St) : call L.T (k + 3) 26 [fD f, fD f] st = .ok (.bl true) st := by
  unfold fD
  refine same_tup _ _ (by simp) st fun d hd => ?_
  simp only [List.mem_cons, List.not_mem_nil, or_false] at hd
  rcases hd with rfl | rfl | rfl | rfl
  · exact same_int _ _ st
  · exact same_int _ _ st
  · exact same_int _ _ st
  · refine same_tup _ _ (by simp) st fun d hd => ?_
    simp only [List.mem_cons, List.not_mem_nil, or_false] at hd
    rcases hd with rfl | rfl
    · exact same_str _ _ st
    · exact same_int _ _ st
theorem same_book (k : Nat) (fs : List Fact) (hl : fs.length ≤ 60) (st : St) : call L.T (k + 4) 26 [.tup (fs.map fD), .tup (fs.map fD)] st = .ok (.bl true) st := by
  refine same_tup _ _ (by rw [List.length_map]; omega) st fun d hd => ?_
  obtain ⟨f, _, rfl⟩ := List.mem_map.mp hd
  exact same_fact k f st
def bare (m : Int) : List D := (List.replicate m.toNat [D.tup [.tup [], .tup [], .tup [], .tup [], .tup []]]).flatten
theorem bare_len {m : Int} (h : 0 ≤ m) : ((bare m).length : Int) = m := by
  unfold bare
  rw [List.length_flatten, List.map_replicate, List.sum_replicate_nat]
  simp
  omega
theorem bare_ok (k : Nat) (m : Int) (h0 : 1 ≤ m) (h1 : m ≤ 5) (st : St) : call L.T (k + 1) 127 [.int m] st = .ok (.tup (bare m)) st := by
  rw [c__law_bare_lands]
  have hb : binD .mul false (.tup [.tup [.tup [], .tup [], .tup [], .tup [], .tup []]]) (.int m) st = .ok (.tup (bare m)) st := by
    show (if 1 ≤ m ∧ m ≤ 1000 ∧ [D.tup [.tup [], .tup [], .tup [], .tup [], .tup []]] ≠ [] ∧ [D.tup [.tup [], .tup [], .tup [], .tup [], .tup []]].length ≤ 1000 then R.ok (D.tup (List.replicate m.toNat [D.tup [.tup [], .tup [], .tup [], .tup [], .tup []]]).flatten) st else .bad) = _
    rw [if_pos ⟨h0, by omega, by simp, by simp⟩] <;> rfl
  simp [F__law_bare_lands, hb]
theorem Fact.ok.up {f : Fact} {a b : Int} (h : f.ok a) (hab : a ≤ b) : f.ok b := ⟨h.w0, h.w1, h.r0, h.r1, h.d0, h.d1, h.n0, fun e => by have := h.n1 e; omega, h.n2⟩
theorem right_ok (k : Nat) (fs : List Fact) (many : Int) (hm0 : 1 ≤ many) (hm1 : many ≤ 5) (h : ∀ f ∈ fs, f.ok many) (hr : Rises fs) (hl : fs.length ≤ 60) (st : St) : call L.T (k + 8) 130 [.tup (fs.map fD), .int many] st = .ok (.bl true) st := by
  rw [c__law_right]
  have hn : ∀ f ∈ fs, f.num := fun f hf => (h f hf).num (by omega)
  have e2 : tyD st L.sub (.str (txtB fs)) .str = some true := rfl
  have l1 := bare_len (m := many) (by omega)
  have l5 := bare_len (m := 5) (by decide)
  have r1 := read_book_ok (k + 1) fs (bare many) (by omega) (fun f hf => by rw [l1]; exact h f hf) hr hl st
  have r2 := read_book_ok (k + 1) fs (bare 5) (by omega) (fun f hf => by rw [l5]; exact (h f hf).up hm1) hr hl st
  simp [F__law_right, bare_ok _ many hm0 hm1, bare_ok _ 5 (by decide) (by decide), book_text_ok _ fs hn hl, law_book_text_ok _ fs hn hl, e2, ne_str, r1, r2, same_book _ fs hl]
def fuel : Nat := 10
theorem law_true (ns : List Int) (hl : ns.length ≤ 63) : ∃ st, call L.T fuel 35 [scrD ns] [] = .ok (.bl true) st := by
  obtain ⟨g, eg, hg, ha⟩ := deck_ok 8 ns hl
  obtain ⟨n, g1, en, hn, hg1, ha1⟩ := next_ok 8 g hg (by omega) []
  obtain ⟨span, g2, es, hs, hg2, ha2⟩ := span_ok 7 g1 hg1 (by omega) []
  have hm := mod_rng n (show (0 : Int) < 5 by decide)
  obtain ⟨fs, g3, eb, hg3, ha3, f1, f2, f3⟩ := drawn_book_ok 6 g2 hg2 (by omega) [] (1 + n % 5) span (by omega) (by omega) hs.1 hs.2
  obtain ⟨fs', g4, eb', hg4, ha4, f1', f2', f3'⟩ := drawn_book_ok 6 g3 hg3 (by omega) [] (1 + n % 5) span (by omega) (by omega) hs.1 hs.2
  have q1 := right_ok 1 fs (1 + n % 5) (by omega) (by omega) f1 f2 f3 (g4.st [])
  have q2 := right_ok 1 fs' (1 + n % 5) (by omega) (by omega) f1' f2' f3' (g4.st [])
  have t0 : call L.T 9 123 [.tup []] (g4.st []) = .ok (.str (Str.ofString "")) (g4.st []) := book_text_ok 7 [] (fun _ h => (nomatch h)) (by decide) (g4.st [])
  have b0 := bare_ok 8 (1 + n % 5) (by omega) (by omega) (g4.st [])
  have r0 : call L.T 9 125 [.tup (bare (1 + n % 5)), .str (Str.ofString "")] (g4.st []) = .ok (.tup []) (g4.st []) := read_book_ok 3 [] (bare (1 + n % 5)) (by have := bare_len (m := 1 + n % 5) (by omega); omega) (fun _ h => (nomatch h)) (fun i a b h => by simp at h) (by decide) (g4.st [])
  have s0 : call L.T 9 26 [.tup [], .tup []] (g4.st []) = .ok (.bl true) (g4.st []) := same_tup 8 [] (by decide) (g4.st []) (fun _ h => (nomatch h))
  refine ⟨[], ?_⟩
  show call L.T (9 + 1) 35 [scrD ns] [] = _
  rw [c_law]
  simp [F_law, eg, en, mod_pos false _ _ (show (0 : Int) < 5 by decide), es, eb, eb', q1, q2, t0, eq_str, b0, r0, s0]
  simp [gc, gcOk, D.lt]
end Ev
set_option maxHeartbeats 0
namespace Ev
open PySem PySem.Spec PyProof.Rows L2
abbrev Rk : PySem.W.OpenRow := PySem.W.OpenLaw.row PySem.Challenge.rw_whoselaw_k73_books_written_and_read
abbrev hk : PySem.W.Hook := He.hookD 5 (faOf L) (fnOf L)
def ob (s : PySem.W.SharedT) : He.AlD := He.obsDG 5 (faOf L) (fnOf L) (HandSHeadRun.getT s)
theorem ob_eq (s : PySem.W.SharedT) : ob s = hk.obs s.abs := He.obsDG_eq (HandSHeadRun.getT_eq s)
def loose : List Str := (["is_from", "is_day", "is_one", "is_row", "rises", "is_at", "is_fact", "is_book", "made_of", "number_in", "numbers_in", "fact_in", "fact_text", "book_text", "facts_in", "read_book", "_law_deck", "_law_next", "_law_span", "_law_book", "_law_same", "_law_bare_lands", "_law_book_text", "_law_drawn_book", "_law_right", "LawError", "NoText", "LAST_DAY", "LAST_ONE", "MOST_FACTS"] : List Str) ++
  (["FIGURES", "MOST_FIGURES"] : List Str)
theorem run (w : World) : HandSHeadRun.RunEq Rk (PySem.W.view Rk.prog [38]) hk ob 30000 loose w := by
  intro os
  kernel_rfl
theorem rows_ok : rowsC L = true := by decide +kernel
end Ev
open PySem PySem.W PySem.Calls PyProof.Rows
theorem PySem.Challenge.cw_whoselaw_k73_books_written_and_read_holds : PySem.Challenge.rw_whoselaw_k73_books_written_and_read.Holds := by
  w_on; o_law
  refine HandSHeadRun.head_any (r := OpenLaw.row PySem.Challenge.rw_whoselaw_k73_books_written_and_read) (q := view (OpenLaw.row PySem.Challenge.rw_whoselaw_k73_books_written_and_read).prog [38]) (H := Ev.hk) (ob := Ev.ob) (M := 30000) (loose := Ev.loose) (d := HandSHeadRun.topDef (OpenLaw.row PySem.Challenge.rw_whoselaw_k73_books_written_and_read).prog 38) (kwd := []) Ev.ob_eq
    (by kernel_rfl) (fun s => by kernel_rfl) Ev.run (by kernel_rfl) (by kernel_rfl) (by kernel_rfl) (by rfl) (by first | assumption | decide +kernel) (by decide +kernel) ⟨rfl, rfl, rfl, rfl, rfl, by decide +kernel⟩ ?hw ?hc
  case hw => w_witness2
  case hc =>
    refine L2.walk_ofE (l := PySem.Challenge.rw_whoselaw_k73_books_written_and_read) (n := 63) (k := 2 * Ev.fuel + 1) (x := "_law_script") (CX := Ev.CXe (PySem.Challenge.rw_whoselaw_k73_books_written_and_read).prog) rfl (by decide) (by kernel_rfl) ⟨rfl, by decide, by decide⟩ ?F (fun H s e s' z => Ev.cx_end H s e s' z)
    intro w mg fa h Y G hmg0
    obtain ⟨K, KX, c⟩ := Y
    have hmg : mg ("law" : PySem.Str) = some (.ref fa) := by
      have e : (HandSHeadRun.topDef (OpenLaw.row PySem.Challenge.rw_whoselaw_k73_books_written_and_read).prog 38).name = ("law" : PySem.Str) := by kernel_rfl
      rw [← e]
      exact hmg0
    obtain ⟨fd, hb, hF⟩ := Ev.law_facts (L := Ev.L) (lid := 35) (k := Ev.fuel) (x := "_law_script") (P := (PySem.Challenge.rw_whoselaw_k73_books_written_and_read).prog) (w := w) KX G hmg c (by decide +kernel) Ev.rows_ok (by rfl) (by decide +kernel) (by decide +kernel) (by rfl)
    exact ⟨K, fd, _, KX, hb, fun H a ns hl _ hS => Ev.law_sp Ev.law_true H a ns hl hS, fun base b1 b2 => Ev.fn_cx (hF base b1 b2)⟩
