import PyProof.Rows.All
import Wide.All
import OpenK.AllK
import Wide.FinOn
import HandS.ForMost
import HandS.Exc
import HandS.Walk
import HandS.Deep
import HandS.StrSplit
import HandS.Text
import KE.LtData
import KE.SortData
import PyProof.StrCalls6
import HandS.HeadHook2
import HandS.ExcOwn
import HandS.ExcField
import HandS.ExcInit
import HandS.TryMany
import HandS.Flow
import HandS.Style
import HandS.TupAny
import HandS.TupMul
import HandS.IsInst
import HandS.Zip
import HandS.TupLe
import PyProof.ReprReads
import KE.DataCmp
import KE.DataMinMax
import PyProof.P3In
import HandS.Dict
import HandS.SortKw
import HandS.TupSets
import HandS.DictTup
import HandS.More
import PyProof.ReprRoads
import HandS.NoneIn
import HandS.Small
import HandS.ForSpec
import HandS.ExcIs
import HandS.Ends
import HandS.HeadEnd
import HandS.HeadHook4
import HandS.Codes
import HandS.Head0
import HandS.Head1
import HandS.Head2
import HandS.HeadHook1
import PySem.Challenge.RW_textatrest_k42_cut_on_schedule
set_option Elab.async false
set_option linter.all false
set_option maxRecDepth 100000
/-! TX, part 1: values, terms, the run (plain Lean). -/
namespace TX
open PySem

/-- a value as a tree; loc l: the l-th cell of the store -/
inductive D where
  | non | bl (b : Bool) | int (i : Int) | str (s : Str) | tup (xs : List D) | lst (xs : List D) | loc (l : Nat) | scr (xs : List D) | wtp (xs : List D)
/-- what a slot holds: nothing, a value, a list of its own -/
inductive C where
  | und | lck | val (d : D) | ownL (xs : List D)
/-- what is shared: a list, an instance, a dict by ints and texts, a dict by tuples of them (true: one walks over it) -/
inductive Cell where
  | lst (xs : List D) | ins (c : Str) (fs : List (Str × D)) | dK (kvs : List (L2.Key × D)) (w : Bool) | dT (kvs : List (List L2.Key × D)) (w : Bool)
abbrev Env := List C
abbrev Sto := List Cell
mutual
def D.beq : D → D → Bool
  | .non, .non => true
  | .bl a, .bl b => a == b
  | .int a, .int b => decide (a = b)
  | .str a, .str b => decide (a = b)
  | .tup a, .tup b => D.beqs a b
  | .lst a, .lst b => D.beqs a b
  | .loc a, .loc b => decide (a = b)
  | .scr a, .scr b => D.beqs a b
  | .wtp a, .wtp b => D.beqs a b
  | _, _ => false
def D.beqs : List D → List D → Bool
  | [], [] => true
  | a :: as, b :: bs => D.beq a b && D.beqs as bs
  | _, _ => false
end
mutual
theorem D.beq_eq : ∀ {a b : D}, D.beq a b = true → a = b
  | .non, b, h => by cases b <;> first | rfl | cases h
  | .bl a, b, h => by
    cases b <;> first | (cases h; done) | skip
    rename_i c
    have h : (a == c) = true := h
    rw [eq_of_beq h]
  | .int a, b, h => by
    cases b <;> first | (cases h; done) | skip
    rename_i c
    have h : decide (a = c) = true := h
    rw [of_decide_eq_true h]
  | .str a, b, h => by
    cases b <;> first | (cases h; done) | skip
    rename_i c
    have h : decide (a = c) = true := h
    rw [of_decide_eq_true h]
  | .loc a, b, h => by
    cases b <;> first | (cases h; done) | skip
    rename_i c
    have h : decide (a = c) = true := h
    rw [of_decide_eq_true h]
  | .tup a, b, h => by
    cases b <;> first | (cases h; done) | skip
    rename_i c
    have h : D.beqs a c = true := h
    rw [D.beqs_eq h]
  | .lst a, b, h => by
    cases b <;> first | (cases h; done) | skip
    rename_i c
    have h : D.beqs a c = true := h
    rw [D.beqs_eq h]
  | .scr a, b, h => by
    cases b <;> first | (cases h; done) | skip
    rename_i c
    have h : D.beqs a c = true := h
    rw [D.beqs_eq h]
  | .wtp a, b, h => by
    cases b <;> first | (cases h; done) | skip
    rename_i c
    have h : D.beqs a c = true := h
    rw [D.beqs_eq h]
theorem D.beqs_eq : ∀ {a b : List D}, D.beqs a b = true → a = b
  | [], b, h => by cases b <;> first | rfl | cases h
  | a :: as, b, h => by
    cases b <;> first | (cases h; done) | skip
    rename_i c cs
    have h : (D.beq a c && D.beqs as cs) = true := h
    rw [Bool.and_eq_true] at h
    rw [D.beq_eq h.1, D.beqs_eq h.2]
end
mutual
theorem D.beq_refl : ∀ a : D, D.beq a a = true
  | .non => rfl
  | .bl a => by show (a == a) = true; cases a <;> rfl
  | .int a => decide_eq_true rfl
  | .str a => decide_eq_true rfl
  | .loc a => decide_eq_true rfl
  | .tup a => D.beqs_refl a
  | .lst a => D.beqs_refl a
  | .scr a => D.beqs_refl a
  | .wtp a => D.beqs_refl a
theorem D.beqs_refl : ∀ a : List D, D.beqs a a = true
  | [] => rfl
  | a :: as => by
    show (D.beq a a && D.beqs as as) = true
    rw [D.beq_refl a, D.beqs_refl as]
    rfl
end

inductive BOp where | add | sub | mul | fdiv | mod | band
inductive COp where | lt | le | gt | ge | eq | ne | is | isn | inn | nin
inductive Bi where | len | int | max2 | min2 | ord | repr | list | tuple | all | any | isList | isTup | str | max1 | min1 | maxd | sum
/-- methods of built-in types -/
inductive Mth where | append | extend | popAt | insert | remove | index | count | split | splitN | part | repl | get1 | get2 | dpop
/-- targets -/
inductive Tg where | nm (i : Nat) | tp (l : Tg) | nil | cons (a r : Tg)
inductive Tm where
  | cst (d : D) | var (i : Nat) | bor (i : Nat)
  | nil | cons (a r : Tm)
  | tup (as : Tm) | lst (as : Tm) | rep (as k : Tm)
  | bin (o : BOp) (a b : Tm) | neg (a : Tm)
  | cmp (o : COp) (a b : Tm) | chn (o p : COp) (a b c : Tm)
  | and (a b : Tm) | or (a b : Tm) | not (a : Tm) | ite (c a b : Tm)
  | ix (a b : Tm) | sl (a lo hi : Tm)
  | call (f : Str) (as : Tm) | mk (c : Str) (as : Tm) | met (m : Str) (o as : Tm)
  | fld (o : Tm) (f : Str)
  | bi (b : Bi) (as : Tm) | join (s x : Tm) | rev (a : Tm) | mth (m : Mth) (o as : Tm) | srt (a : Tm) | srtK (f : Str) (rev : Bool) (a : Tm) | dnK | dnT
  | comp (tg : Tg) (it tt el : Tm) (ws : List Nat)
  | rng1 (a : Tm) | rng2 (a b : Tm) | rng3 (a b c : Tm) | zip (a b : Tm) | enm (a : Tm) | its (i : Nat) | it (a : Tm)
  | shr (a : Tm) | part (a : Tm)

inductive Res (α : Type) where
  | ok (a : α) (S : Sto) | exc (c : Str) (x : Option D) (S : Sto) | stk
def Res.bind {α β : Type} : Res α → (α → Sto → Res β) → Res β
  | .ok a S, f => f a S
  | .exc c x S, _ => .exc c x S
  | .stk, _ => .stk
/-- nothing may be raised here -/
def Res.noX {α : Type} : Res α → Res α
  | .ok a S => .ok a S
  | _ => .stk
@[simp] theorem Res.noX_ok {α : Type} (a : α) (S : Sto) : (Res.ok a S).noX = .ok a S := (rfl)
def Res.of {α : Type} (S : Sto) : Option α → Res α
  | some a => .ok a S
  | none => .stk
@[simp] theorem Res.bind_ok {α β : Type} (a : α) (S : Sto) (f : α → Sto → Res β) : (Res.ok a S).bind f = f a S := (rfl)
@[simp] theorem Res.bind_exc {α β : Type} (c x S) (f : α → Sto → Res β) : (Res.exc c x S : Res α).bind f = .exc c x S := (rfl)
@[simp] theorem Res.bind_stk {α β : Type} (f : α → Sto → Res β) : (Res.stk : Res α).bind f = .stk := (rfl)
@[simp] theorem Res.of_some {α : Type} (S : Sto) (a : α) : Res.of S (some a) = .ok a S := (rfl)
@[simp] theorem Res.of_none {α : Type} (S : Sto) : Res.of S (none : Option α) = .stk := (rfl)

/-! ### operations -/
mutual
/-- the tree as the library's data (no cell within) -/
def toP : D → Option PyData
  | .non => some .none
  | .bl b => some (.bool b)
  | .int i => some (.int i)
  | .str s => some (.str s)
  | .tup xs => (toPs xs).map .tuple
  | .lst xs => (toPs xs).map .list
  | .loc _ => none
  | .scr _ => none
  | .wtp _ => none
def toPs : List D → Option (List PyData)
  | [] => some []
  | x :: xs => (toP x).bind fun p => (toPs xs).map fun ps => p :: ps
end
/-- a list, by value or in the store -/
def asL (S : Sto) : D → Option (List D)
  | .lst xs => some xs
  | .loc l => match S[l]? with
    | some (.lst xs) => some xs
    | _ => none
  | _ => none
/-- a list or a tuple -/
def asQ (S : Sto) : D → Option (List D)
  | .tup xs => some xs
  | .scr xs => some xs
  | .wtp xs => some xs
  | d => asL S d
/-- a list of the store as a tree -/
def see (S : Sto) (d : D) : D := match asL S d with
  | some xs => .lst xs
  | none => d
def eqT (S : Sto) (x y : D) : Option Bool :=
  (toP (see S x)).bind fun p => (toP (see S y)).bind fun q => if SeqAt.shaped p && SeqAt.shaped q then some (PyData.eqv p q) else none
def eqD (S : Sto) (x y : D) : Option Bool := match x, y with
  | .str a, .str b => some (decide (a = b))
  | x, y => eqT S x y
def flat : D → Bool
  | .non => true | .bl _ => true | .int _ => true | .str _ => true | _ => false
/-! ### dicts -/
def kOf : D → Option L2.Key
  | .int i => some (.inl i)
  | .str s => some (.inr s)
  | _ => none
def ksOf : List D → Option (List L2.Key)
  | [] => some []
  | x :: xs => (kOf x).bind fun k => (ksOf xs).map fun ks => k :: ks
def tkOf : D → Option (List L2.Key)
  | .tup xs => ksOf xs
  | _ => none
def valD {κ : Type} [DecidableEq κ] (kvs : List (κ × D)) (k : κ) : Option D := (kvs.find? fun kv => decide (kv.1 = k)).map (·.2)
def putD {κ : Type} [DecidableEq κ] (kvs : List (κ × D)) (k : κ) (v : D) : List (κ × D) :=
  if kvs.any (fun kv => decide (kv.1 = k)) = true then kvs.map (fun kv => if kv.1 = k then (kv.1, v) else kv) else kvs ++ [(k, v)]
def dropD {κ : Type} [DecidableEq κ] (kvs : List (κ × D)) (k : κ) : List (κ × D) := kvs.filter fun kv => decide (kv.1 ≠ k)
/-- what a dict has at a key -/
def dGet (S : Sto) (o y : D) : Option (Option D) := match o with
  | .loc l => match S[l]? with
    | some (.dK kvs _) => (kOf y).map fun k => valD kvs k
    | some (.dT kvs _) => (tkOf y).map fun k => valD kvs k
    | _ => none
  | _ => none
/-- a dict with another value at a key -/
def dPut (S : Sto) (o y v : D) : Option Sto := match o with
  | .loc l => match S[l]? with
    | some (.dK kvs false) => if kvs.length < sizeLine then (kOf y).map fun k => S.set l (.dK (putD kvs k v) false) else none
    | some (.dT kvs false) => if kvs.length < sizeLine then (tkOf y).map fun k => S.set l (.dT (putD kvs k v) false) else none
    | _ => none
  | _ => none
/-- x in y, y no tuple -/
def inL (S : Sto) (x y : D) : Option Bool := (asL S y).bind fun ys => (toP x).bind fun p => (toPs ys).bind fun ps => if SeqAt.shaped p && SeqAt.shaped (.list ps) then some (ps.any fun z => PyData.eqv z p) else none
/-- x in y -/
def inD (S : Sto) (x y : D) : Option Bool := match y with
  | .str z => match x with
    | .str c => if c.cps.size = 1 then some (decide (c.cps.getD 0 0 ∈ z.cps.toList)) else none
    | _ => none
  | .tup ys => if flat x && ys.all flat then some (ys.any fun z => match toP z, toP x with | some p, some q => PyData.eqv p q | _, _ => false)
    else (toP x).bind fun p => (toPs ys).bind fun ps => if SeqAt.shaped p && SeqAt.shaped (.tuple ps) then some (ps.any fun z => PyData.eqv z p) else none
  | .wtp ys => if flat x && ys.all flat then some (ys.any fun z => match toP z, toP x with | some p, some q => PyData.eqv p q | _, _ => false) else none
  | .loc l => match S[l]? with
    | some (.lst _) => inL S x (.loc l)
    | _ => (dGet S (.loc l) x).map Option.isSome
  | y => inL S x y
def strLe (a b : Str) : Bool := !decide (b.cps.toList < a.cps.toList)
def ordI : COp → Int → Int → Option Bool
  | .lt, i, j => some (decide (i < j))
  | .le, i, j => some (decide (i ≤ j))
  | .gt, i, j => some (decide (j < i))
  | .ge, i, j => some (decide (j ≤ i))
  | _, _, _ => none
/-- less of alike data -/
def ltT (x y : D) : Option Bool := (toP x).bind fun p => (toP y).bind fun q => if PySem.W.alike p q && PySem.W.alike q p && decide (p.depth ≤ 60) && decide (q.depth ≤ 60) then some (PySem.W.dataLt p q) else none
def cmpOp (o : COp) (S : Sto) (x y : D) : Option Bool := match o with
  | .eq => eqD S x y
  | .ne => (eqD S x y).map not
  | .inn => inD S x y
  | .nin => (inD S x y).map not
  | .is => match x, y with
    | .non, .non => some true
    | _, .non => some false
    | .bl a, .bl b => some (decide (a = b))
    | _, _ => none
  | .isn => match x, y with
    | .non, .non => some false
    | _, .non => some true
    | .bl a, .bl b => some (!decide (a = b))
    | _, _ => none
  | o => match x, y with
    | .int i, .int j => ordI o i j
    | .str a, .str b => match o with
      | .lt => some (decide (a.cps.toList < b.cps.toList))
      | .le => some (strLe a b)
      | _ => none
    | .tup a, .tup b => match o with
      | .lt => ltT (.tup a) (.tup b)
      | .gt => ltT (.tup b) (.tup a)
      | _ => none
    | _, _ => none
def binOp (o : BOp) (S : Sto) (x y : D) : Option D := match o with
  | .add => match x, y with
    | .int i, .int j => some (.int (i + j))
    | .str a, .str b => if a.length + b.length ≤ sizeLine then some (.str (a ++ b)) else none
    | .tup a, .tup b => if a.length + b.length ≤ sizeLine then some (.tup (a ++ b)) else none
    | x, y => (asL S x).bind fun a => (asL S y).bind fun b => if a.length + b.length ≤ sizeLine then some (.lst (a ++ b)) else none
  | .sub => match x, y with
    | .int i, .int j => some (.int (i - j))
    | _, _ => none
  | .mul => match x, y with
    | .int i, .int j => if (-(2 ^ 64) < i ∧ i < 2 ^ 64) ∨ (-(2 ^ 64) < j ∧ j < 2 ^ 64) then some (.int (i * j)) else none
    | .tup a, .int n => if a.isEmpty = false ∧ 2 ≤ n ∧ n ≤ 1000 ∧ a.length ≤ 1000 then some (.tup (List.replicate n.toNat a).flatten) else none
    | .str a, .int n => if 0 ≤ n ∧ n < 2 ^ 62 ∧ a.length * n.toNat ≤ sizeLine ∧ (Txt.mul a n).length ≤ sizeLine then some (.str (Txt.mul a n)) else none
    | _, _ => none
  | .fdiv => match x, y with
    | .int i, .int j => if 0 < j ∧ j < 1073741824 then some (.int (i / j)) else none
    | _, _ => none
  | .mod => match x, y with
    | .int i, .int j => if 0 < j then some (.int (i % j)) else none
    | _, _ => none
  | .band => match x, y with
    | .int i, .int j => some (.int (Builtin.bitAnd i j))
    | _, _ => none
def isDct (S : Sto) (x : D) : Bool := match x with
  | .loc l => match S[l]? with
    | some (.dK _ _) => true
    | some (.dT _ _) => true
    | _ => false
  | _ => false
def ixD (S : Sto) (x y : D) : Option D := match y with
  | .int k => match x with
    | .str z => (L2.atI z.cps.toList k).map fun c => .str ⟨#[c]⟩
    | x => if isDct S x then (dGet S x (.int k)).bind id else (asQ S x).bind fun xs => L2.atI xs k
  | y => (dGet S x y).bind id
def cut {α : Type} (xs : List α) (lo hi : Option Int) : List α := (xs.drop (HT.sIx xs.length 0 lo)).take (HT.sIx xs.length xs.length hi - HT.sIx xs.length 0 lo)
def slD (S : Sto) (x : D) (l h : Option Int) : Option D := match x with
  | .str z => some (.str ⟨(cut z.cps.toList l h).toArray⟩)
  | .tup xs => some (.tup (cut xs l h))
  | x => (asL S x).map fun xs => .lst (cut xs l h)
/-- truth -/
def tru (S : Sto) : D → Option Bool
  | .non => some false
  | .bl b => some b
  | .int i => some (i != 0)
  | .str z => some (z.length != 0)
  | x => (asQ S x).map fun xs => !xs.isEmpty
def bools : List D → Option (List Bool)
  | [] => some []
  | .bl b :: r => (bools r).map fun bs => b :: bs
  | _ => none
def intsD : List D → Option (List Int)
  | [] => some []
  | .int i :: r => (intsD r).map fun is => i :: is
  | _ => none
def strsD : List D → Option (List Str)
  | [] => some []
  | .str s :: r => (strsD r).map fun ss => s :: ss
  | _ => none
def maxI : Int → List Int → Int
  | m, [] => m
  | m, x :: xs => maxI (if x > m then x else m) xs
def minI : Int → List Int → Int
  | m, [] => m
  | m, x :: xs => minI (if x < m then x else m) xs
def biOp (b : Bi) (S : Sto) (as : List D) : Option D := match b, as with
  | .len, [.str z] => some (.int z.length)
  | .len, [x] => (asQ S x).map fun xs => .int xs.length
  | .int, [.int i] => some (.int i)
  | .int, [.bl b] => some (.int (if b then 1 else 0))
  | .int, [.str a] => if a.length ≤ 640 then (PySem.intText? a).map .int else none
  | .str, [.int i] => if i.natAbs.log2 < 1920 ∧ (Str.ofString (toString i)).length ≤ sizeLine then some (.str (Str.ofString (toString i))) else none
  | .max1, [x] => (asL S x).bind fun xs => match intsD xs with
    | some (m :: is) => some (.int (maxI m is))
    | _ => none
  | .min1, [x] => match x with
    | .tup xs => match intsD xs with
      | some (m :: is) => some (.int (minI m is))
      | _ => none
    | _ => none
  | .maxd, [x, d] => (asL S x).bind fun xs => match intsD xs with
    | some (m :: is) => some (.int (maxI m is))
    | some [] => some d
    | none => none
  | .sum, [x] => (asL S x).bind fun xs => (intsD xs).map fun is => .int is.sum
  | .max2, [.int i, .int j] => some (.int (if j > i then j else i))
  | .min2, [.int i, .int j] => some (.int (if j < i then j else i))
  | .ord, [.str z] => if z.length = 1 then some (.int (z.cps.getD 0 0 : Nat)) else none
  | .repr, [x] => (toP (see S x)).bind fun p => if p.showable && SeqAt.shaped p && decide (p.shown.length + 64 ≤ sizeLine) then some (.str p.shown) else none
  | .list, [x] => (asQ S x).map .lst
  | .tuple, [x] => match x with
    | .wtp _ => none
    | x => (asQ S x).map .tup
  | .all, [x] => (asL S x).bind fun xs => (bools xs).map fun bs => .bl (bs.all id)
  | .any, [x] => (asL S x).bind fun xs => match bools xs with
    | some bs => some (.bl (bs.any id))
    | none => (intsD xs).map fun is => .bl (is.any fun i => i != 0)
  | .isList, [x] => match x with
    | .loc l => match S[l]? with
      | some (.lst _) => some (.bl true)
      | _ => none
    | .lst _ => some (.bl true)
    | .scr _ => none
    | .wtp _ => none
    | _ => some (.bl false)
  | .isTup, [x] => match x with
    | .loc l => match S[l]? with
      | some (.lst _) => some (.bl false)
      | _ => none
    | .tup _ => some (.bl true)
    | .scr _ => none
    | .wtp _ => none
    | _ => some (.bl false)
  | _, _ => none
/-- the place of the first that equals -/
def idxP (p : PyData) : List PyData → Option Nat
  | [] => none
  | q :: r => if PyData.eqv q p = true then some 0 else (idxP p r).map (· + 1)
/-- what a method is a method of -/
def mthTy (m : Mth) (S : Sto) (x : D) : Bool := match m with
  | .split => match x with
    | .str _ => true
    | _ => false
  | .splitN => match x with
    | .str _ => true
    | _ => false
  | .part => match x with
    | .str _ => true
    | _ => false
  | .repl => match x with
    | .str _ => true
    | _ => false
  | .get1 => isDct S x
  | .get2 => isDct S x
  | .dpop => match x with
    | .loc l => match S[l]? with
      | some (.dT _ false) => true
      | _ => false
    | _ => false
  | .index => (asL S x).isSome
  | _ => match x with
    | .loc l => match S[l]? with
      | some (.lst _) => true
      | _ => false
    | _ => false
/-- methods of built-in types -/
def mthOp (m : Mth) (S : Sto) (o : D) (as : List D) : Option (D × Sto) := match m, as with
  | .append, [d] => match o with
    | .loc l => match S[l]? with
      | some (.lst xs) => if xs.length < sizeLine then some (.non, S.set l (.lst (xs ++ [d]))) else none
      | _ => none
    | _ => none
  | .extend, [d] => match o with
    | .loc l => match S[l]? with
      | some (.lst xs) => (asL S d).bind fun ys => if xs.length + ys.length ≤ sizeLine then some (.non, S.set l (.lst (xs ++ ys))) else none
      | _ => none
    | _ => none
  | .popAt, [.int i] => match o with
    | .loc l => match S[l]? with
      | some (.lst xs) => (L2.ixN xs.length i).bind fun k => if -(2 ^ 63) ≤ i ∧ i < 2 ^ 63 then (xs[k]?).map fun y => (y, S.set l (.lst (xs.eraseIdx k))) else none
      | _ => none
    | _ => none
  | .insert, [.int i, d] => match o with
    | .loc l => match S[l]? with
      | some (.lst xs) => if xs.length < sizeLine ∧ 0 ≤ i ∧ i < 2 ^ 63 then some (.non, S.set l (.lst (xs.take i.toNat ++ [d] ++ xs.drop i.toNat))) else none
      | _ => none
    | _ => none
  | .remove, [d] => match o with
    | .loc l => match S[l]? with
      | some (.lst xs) => (toP d).bind fun p => (toPs xs).bind fun ps => if SeqAt.shaped p && SeqAt.shaped (.list ps) then (idxP p ps).map fun k => (.non, S.set l (.lst (xs.eraseIdx k))) else none
      | _ => none
    | _ => none
  | .index, [d] => (asL S o).bind fun xs => (toP d).bind fun p => (toPs xs).bind fun ps => if SeqAt.shaped p && SeqAt.shaped (.list ps) then (idxP p ps).map fun k => (.int (k : Nat), S) else none
  | .split, [.str b] => match o with
    | .str a => if (b.length == 0) = false ∧ a.length + 2 ≤ sizeLine ∧ (Txt.split a b).length ≤ sizeLine ∧ (Txt.split a b).all (fun z => decide (z.length ≤ sizeLine)) = true then some (.lst ((Txt.split a b).map .str), S) else none
    | _ => none
  | .splitN, [.str b, .int k] => match o with
    | .str a => if (b.length == 0) = false ∧ -(2 ^ 63) ≤ k ∧ k < 2 ^ 63 ∧ a.length + 2 ≤ sizeLine ∧ (Txt.splitMax a b k).length ≤ sizeLine ∧ (Txt.splitMax a b k).all (fun z => decide (z.length ≤ sizeLine)) = true then some (.lst ((Txt.splitMax a b k).map .str), S) else none
    | _ => none
  | .part, [.str b] => match o with
    | .str a => if (b.length == 0) = false ∧ a.length ≤ sizeLine ∧ (Txt.partition a b).1.length ≤ sizeLine ∧ (Txt.partition a b).2.1.length ≤ sizeLine ∧ (Txt.partition a b).2.2.length ≤ sizeLine then some (.tup [.str (Txt.partition a b).1, .str (Txt.partition a b).2.1, .str (Txt.partition a b).2.2], S) else none
    | _ => none
  | .repl, [.str b, .str c] => match o with
    | .str a => if (b == c) = false ∧ a.length + (a.length + 1) * c.length ≤ 16777216 ∧ (Txt.replace a b c).length ≤ sizeLine then some (.str (Txt.replace a b c), S) else none
    | _ => none
  | .get1, [k] => (dGet S o k).map fun r => (r.getD .non, S)
  | .get2, [k, d] => (dGet S o k).map fun r => (r.getD d, S)
  | .dpop, [k, d] => match o with
    | .loc l => match S[l]? with
      | some (.dT kvs false) => (tkOf k).map fun k => match valD kvs k with
        | some v => (v, S.set l (.dT (dropD kvs k) false))
        | none => (d, S)
      | _ => none
    | _ => none
  | _, _ => none
/-- sorted, by data -/
def srtL (rev : Bool) (ks : List PyData) (xs : List D) : List D := ((ks.zip xs).mergeSort (PySem.W.dataLe rev (·.1))).map (·.2)
def srtOk (ks : List PyData) : Bool := ks.all (fun p => ks.all fun q => PySem.W.alike p q) && ((ks.all fun p => match p with
    | .tuple (_ :: _) => true
    | _ => false) || ks.all fun p => match p with
    | .none => false
    | .tuple _ => false
    | _ => true) && ks.all fun p => decide (p.depth ≤ 60)
def joinLen (a : Str) (ys : List Str) : Nat := (ys.map Str.length).sum + ys.length * a.length

/-! ### targets -/
mutual
def bindT : Tg → D → Env → Option Env
  | .nm i, d, ρ => if i < ρ.length then some (ρ.set i (.val d)) else none
  | .tp l, .tup xs, ρ => bindL l xs ρ
  | .tp l, .lst xs, ρ => bindL l xs ρ
  | _, _, _ => none
def bindL : Tg → List D → Env → Option Env
  | .nil, [], ρ => some ρ
  | .cons a r, x :: xs, ρ => (bindT a x ρ).bind fun ρ' => bindL r xs ρ'
  | _, _, _ => none
end
/-- the names of a block forgotten -/
def wipeC (ρ : Env) : List Nat → Env
  | [] => ρ
  | v :: vs => (wipeC ρ vs).set v .und

/-- no list of one's own is hidden by the block's names -/
def wsOk (ρ : Env) (ws : List Nat) : Bool := ws.all fun i => match ρ[i]? with
  | some (.ownL _) => false
  | _ => true
def tgIx : Tg → List Nat
  | .nm i => [i]
  | .tp l => tgIx l
  | .nil => []
  | .cons a r => tgIx a ++ tgIx r
/-! ### walks -/
/-- what is walked: a list, a tuple, another thing -/
inductive Sk where | l | t | o
/-- a list that is walked where it stands: a slot's is shut meanwhile, a shared one must be the same at each turn -/
inductive Lk where | slot (i : Nat) | cell (l : Nat)
structure ItV where
  k : Sk
  xs : List D
  ls : List Lk
def setFs (f : Str) (d : D) : List (Str × D) → List (Str × D)
  | [] => [(f, d)]
  | (g, e) :: r => if g = f then (g, d) :: r else (g, e) :: setFs f d r
def putFld (S : Sto) (l : Nat) (f : Str) (d : D) : Option Sto := match S[l]? with
  | some (.ins n fs) => if fs.length < 900 then some (S.set l (.ins n (setFs f d fs))) else none
  | _ => none
def isCell : Lk → Bool
  | .cell _ => true
  | _ => false
/-- what must stay -/
def chks (S : Sto) (ls : List Lk) : List (Nat × List D) := ls.filterMap fun l => match l with
  | .cell l => match S[l]? with
    | some (.lst xs) => some (l, xs)
    | _ => none
  | _ => none
def okC (cs : List (Nat × List D)) (S : Sto) : Bool := cs.all fun c => match S[c.1]? with
  | some (.lst xs) => D.beqs xs c.2
  | _ => false
def lock1 (ρ : Env) (S : Sto) : Lk → Option (Env × Sto)
  | .slot i => match ρ[i]? with
    | some (.ownL _) => some (ρ.set i .lck, S)
    | _ => none
  | .cell _ => none
def unlock1 (ρ : Env) (S : Sto) (xs : List D) : Lk → Env × Sto
  | .slot i => match ρ[i]? with
    | some .lck => (ρ.set i (.ownL xs), S)
    | _ => (ρ, S)
  | .cell _ => (ρ, S)
def lockedOf (ρ : Env) : Lk → List D
  | .slot i => match ρ[i]? with
    | some (.ownL xs) => xs
    | _ => []
  | _ => []
def enmF : Nat → List D → List D
  | _, [] => []
  | k, x :: xs => .tup [.int (k : Nat), x] :: enmF (k + 1) xs
/-- what stands there now -/
def ItV.now (ρ : Env) (S : Sto) (v : ItV) : Option ItV := match v.ls with
  | [] => some v
  | [.slot i] => match ρ[i]? with
    | some (.ownL xs) => some ⟨v.k, xs, v.ls⟩
    | _ => none
  | [.cell l] => match S[l]? with
    | some (.lst xs) => some ⟨v.k, xs, v.ls⟩
    | _ => none
  | _ => none
def zipI (a b : ItV) : Option ItV := match a.k, b.k with
  | .l, .l => some ⟨.o, List.zipWith (fun x y => .tup [x, y]) a.xs b.xs, a.ls ++ b.ls⟩
  | .t, .t => some ⟨.o, List.zipWith (fun x y => .tup [x, y]) a.xs b.xs, []⟩
  | _, _ => none
def enmI (a : ItV) : Option ItV := match a.k with
  | .l => some ⟨.o, enmF 0 a.xs, a.ls⟩
  | _ => none
def FUEL : Nat := 33554432
/-- a list made item by item: nothing, or one item more at each turn -/
def compL (turn : D → Sto → Res (Option D)) : List D → Sto → Res (List D)
  | [], S => .ok [] S
  | x :: xs, S => (turn x S).bind fun o S1 => (compL turn xs S1).bind fun ys S2 => .ok (match o with
    | some y => y :: ys
    | none => ys) S2
/-- .. what is walked being the same at each turn -/
def compC (cs : List (Nat × List D)) (turn : D → Sto → Res (Option D)) : List D → Sto → Res (List D)
  | [], S => if okC cs S then .ok [] S else .stk
  | x :: xs, S => if okC cs S then (turn x S).bind fun o S1 => (compC cs turn xs S1).bind fun ys S2 => .ok (match o with
    | some y => y :: ys
    | none => ys) S2 else .stk
theorem compC_nil (turn : D → Sto → Res (Option D)) : ∀ (xs : List D) (S : Sto), compC [] turn xs S = compL turn xs S
  | [], _ => (rfl)
  | x :: xs, S => by
    show ((turn x S).bind fun o S1 => (compC [] turn xs S1).bind fun ys S2 => .ok (match o with
      | some y => y :: ys
      | none => ys) S2) = (turn x S).bind fun o S1 => (compL turn xs S1).bind fun ys S2 => .ok (match o with
      | some y => y :: ys
      | none => ys) S2
    congr 1
    funext o S1
    rw [compC_nil turn xs S1]
/-- run f with these shut -/
def shutR {α : Type} (ls : List Lk) (ρ : Env) (S : Sto) (f : Env → Sto → Res α) : Res α := if ls.all isCell then f ρ S else match ls with
  | [l] => match lock1 ρ S l with
    | none => .stk
    | some (ρ1, S1) => (f ρ1 S1).bind fun a S2 => .ok a (unlock1 ρ1 S2 (lockedOf ρ l) l).2
  | _ => .stk
def keyD : L2.Key → D
  | .inl i => .int i
  | .inr s => .str s
/-! ### expressions -/
/-- a def's name: of the module, of a class; a class that makes an instance -/
inductive Ky where | fn (x : Str) | me (c m : Str) | mk (c : Str)
  deriving DecidableEq
abbrev Orc := Ky → List D → Sto → Res D
def fldOf (S : Sto) (o : D) (f : Str) : Option D := match o with
  | .loc l => match S[l]? with
    | some (.ins _ fs) => fs.lookup f
    | _ => none
  | _ => none
/-- the methods of the classes -/
def mtab : List (Str × List Str) := [
  ("View", ["__init__", "_add", "has_left", "deed", "is_active", "is_final", "put_of", "cuts_of", "is_shown", "is_dead", "path", "signs", "marks", "_value", "shown", "is_allowed"]),
  ("Knowledge", ["__init__", "waiting_hands", "is_gone"]),
  ("Hand", ["__init__", "_view", "check_here", "next_deed", "check", "take", "do", "put", "_signs_at", "cut", "mark", "toggle", "note", "leave", "_is_new", "_ready", "hear", "copy", "number", "version", "has_left", "waiting", "history", "news", "text", "shown", "kept"]),
  ("Disk", ["__init__", "size", "_check_at", "read", "_cut", "_spend", "write", "flush", "pending_count", "cut_count", "cut_power", "schedule_cut"]),
  ("Log", ["__init__", "check_open", "head", "deeds", "_blocks_of", "room", "check_room", "append", "sync", "free_blocks"]),
  ("House", ["__init__", "do", "hear", "news", "sync", "history", "version", "text", "shown", "kept", "has_left", "free_blocks"]),
  ("Link", ["__init__", "_check_hand", "_opened", "do", "sync", "send", "letters", "_check_letter", "drop", "duplicate", "deliver", "histories", "text", "kept", "is_open", "cut_power", "schedule_cut", "reopen"])]
def mtabOf (c : Str) : List Str := (mtab.lookup c).getD []
def clsOf (S : Sto) (o : D) (m : Str) : Option Str := match o with
  | .loc l => match S[l]? with
    | some (.ins c fs) => if (fs.lookup m).isNone && (mtabOf c).any (fun y => decide (y = m)) then some c else none
    | _ => none
  | _ => none
/-- the keys of the items, one after the other -/
def keysL (f : D → Sto → Res D) : List D → Sto → Res (List D)
  | [], S => .ok [] S
  | x :: xs, S => (f x S).bind fun k S1 => (keysL f xs S1).bind fun ks S2 => .ok (k :: ks) S2
mutual
def ev (Ω : Orc) (ρ : Env) : Tm → Sto → Res D
  | .cst d, S => .ok d S
  | .var i, S => match ρ[i]? with
    | some (.val d) => .ok d S
    | _ => .stk
  | .bor i, S => match ρ[i]? with
    | some (.val d) => .ok d S
    | some (.ownL xs) => .ok (.lst xs) S
    | _ => .stk
  | .tup as, S => (evs Ω ρ as S).bind fun xs S1 => if xs.length ≤ sizeLine then .ok (.tup xs) S1 else .stk
  | .lst as, S => (evs Ω ρ as S).bind fun xs S1 => if xs.length ≤ sizeLine then .ok (.lst xs) S1 else .stk
  | .rep as k, S => (evs Ω ρ as S).bind fun xs S1 => if xs.length ≤ sizeLine then (ev Ω ρ k S1).bind fun d S2 => (match d with
    | .int n => if -(2 ^ 63) ≤ n ∧ n < 2 ^ 63 ∧ xs.length * n.toNat ≤ sizeLine then .ok (.lst (List.replicate n.toNat xs).flatten) S2 else .stk
    | _ => .stk) else .stk
  | .bin o a b, S => (ev Ω ρ a S).bind fun x S1 => (ev Ω ρ b S1).bind fun y S2 => Res.of S2 (binOp o S2 x y)
  | .neg a, S => (ev Ω ρ a S).bind fun x S1 => match x with
    | .int i => .ok (.int (-i)) S1
    | _ => .stk
  | .cmp o a b, S => (ev Ω ρ a S).bind fun x S1 => (ev Ω ρ b S1).bind fun y S2 => Res.of S2 ((cmpOp o S2 x y).map .bl)
  | .chn o p a b c, S => (ev Ω ρ a S).bind fun x S1 => (ev Ω ρ b S1).bind fun y S2 => match cmpOp o S2 x y with
    | none => .stk
    | some false => .ok (.bl false) S2
    | some true => (ev Ω ρ c S2).bind fun z S3 => Res.of S3 ((cmpOp p S3 y z).map .bl)
  | .and a b, S => (ev Ω ρ a S).bind fun x S1 => match tru S1 x with
    | none => .stk
    | some false => .ok x S1
    | some true => ev Ω ρ b S1
  | .or a b, S => (ev Ω ρ a S).bind fun x S1 => match tru S1 x with
    | none => .stk
    | some true => .ok x S1
    | some false => ev Ω ρ b S1
  | .not a, S => (ev Ω ρ a S).bind fun x S1 => Res.of S1 ((tru S1 x).map fun b => .bl (!b))
  | .ite c a b, S => (ev Ω ρ c S).bind fun x S1 => match tru S1 x with
    | none => .stk
    | some true => ev Ω ρ a S1
    | some false => ev Ω ρ b S1
  | .ix a b, S => (ev Ω ρ a S).bind fun x S1 => (ev Ω ρ b S1).bind fun y S2 => Res.of S2 (ixD S2 x y)
  | .sl a lo hi, S => (ev Ω ρ a S).bind fun x S1 => (evO Ω ρ lo S1).bind fun l S2 => (evO Ω ρ hi S2).bind fun h S3 => Res.of S3 (slD S3 x l h)
  | .call f as, S => (evs Ω ρ as S).bind fun xs S1 => Ω (.fn f) xs S1
  | .mk c as, S => (evs Ω ρ as S).bind fun xs S1 => Ω (.mk c) xs S1
  | .met m o as, S => (ev Ω ρ o S).bind fun x S1 => match clsOf S1 x m with
    | none => .stk
    | some c => (evs Ω ρ as S1).bind fun xs S2 => Ω (.me c m) (x :: xs) S2
  | .fld o f, S => (ev Ω ρ o S).bind fun x S1 => Res.of S1 (fldOf S1 x f)
  | .shr a, S => (ev Ω ρ a S).bind fun x S1 => match x with
    | .lst xs => .ok (.loc S1.length) (S1 ++ [.lst xs])
    | _ => .stk
  | .bi b as, S => (evs Ω ρ as S).bind fun xs S1 => Res.of S1 (biOp b S1 xs)
  | .join s x, S => (ev Ω ρ s S).bind fun d S1 => match d with
    | .str a => (ev Ω ρ x S1).bind fun y S2 => Res.of S2 ((asL S2 y).bind fun ys => (strsD ys).bind fun zs => if joinLen a zs ≤ 16777216 ∧ (Txt.join a zs).length ≤ sizeLine then some (.str (Txt.join a zs)) else none)
    | _ => .stk
  | .rev a, S => (ev Ω ρ a S).bind fun x S1 => Res.of S1 ((asL S1 x).map fun xs => .lst xs.reverse)
  | .mth m o as, S => (ev Ω ρ o S).bind fun x S1 => if mthTy m S1 x then (evs Ω ρ as S1).bind fun xs S2 => (match mthOp m S2 x xs with
    | some (d, S3) => .ok d S3
    | none => .stk) else .stk
  | .srt a, S => (ev Ω ρ a S).bind fun x S1 => Res.of S1 ((asL S1 x).bind fun xs => (toPs xs).bind fun ps => if srtOk ps then some (.lst (srtL false ps xs)) else none)
  | .srtK f rev a, S => (ev Ω ρ a S).bind fun x S1 => match asL S1 x with
    | none => .stk
    | some xs => ((keysL (fun y => Ω (.fn f) [y]) xs S1).bind fun ks S2 => Res.of S2 ((toPs ks).bind fun ps => if srtOk ps && decide (xs.length ≤ sizeLine) then some (.lst (srtL rev ps xs)) else none)).noX
  | .dnK, S => .ok (.loc S.length) (S ++ [.dK [] false])
  | .dnT, S => .ok (.loc S.length) (S ++ [.dT [] false])
  | .comp tg it tt el ws, S => (evI Ω ρ it S).bind fun v S1 => (shutR v.ls ρ S1 fun ρ1 S2 => if wsOk ρ1 ws then (compC (chks S1 v.ls) (fun x S3 => match bindT tg x (wipeC ρ1 ws) with
      | none => .stk
      | some ρ' => (ev Ω ρ' tt S3).bind fun c S4 => match tru S4 c with
        | none => .stk
        | some false => .ok none S4
        | some true => (ev Ω ρ' el S4).bind fun y S5 => .ok (some y) S5) v.xs S2).noX else .stk).bind fun ys S2 => .ok (.lst ys) S2
  | _, _ => .stk
def evs (Ω : Orc) (ρ : Env) : Tm → Sto → Res (List D)
  | .nil, S => .ok [] S
  | .cons a r, S => (ev Ω ρ a S).bind fun x S1 => (evs Ω ρ r S1).bind fun xs S2 => .ok (x :: xs) S2
  | _, _ => .stk
def evO (Ω : Orc) (ρ : Env) : Tm → Sto → Res (Option Int)
  | .nil, S => .ok none S
  | .part a, S => (ev Ω ρ a S).bind fun x S1 => match x with
    | .int i => .ok (some i) S1
    | _ => .stk
  | _, _ => .stk
def evI (Ω : Orc) (ρ : Env) : Tm → Sto → Res ItV
  | .rng1 a, S => (ev Ω ρ a S).bind fun x S1 => match x with
    | .int j => if -(2 ^ 62) ≤ j ∧ j ≤ 16777216 then .ok ⟨.o, (List.range j.toNat).map fun (n : Nat) => .int n, []⟩ S1 else .stk
    | _ => .stk
  | .rng2 a b, S => (ev Ω ρ a S).bind fun x S1 => (ev Ω ρ b S1).bind fun y S2 => match x, y with
    | .int i, .int j => if -(2 ^ 62) ≤ i ∧ i < 2 ^ 62 ∧ -(2 ^ 62) ≤ j ∧ j < 2 ^ 62 ∧ j - i ≤ 16777216 then .ok ⟨.o, (List.range (j - i).toNat).map fun (n : Nat) => .int (i + n), []⟩ S2 else .stk
    | _, _ => .stk
  | .rng3 a b c, S => (ev Ω ρ a S).bind fun x S1 => (ev Ω ρ b S1).bind fun y S2 => (ev Ω ρ c S2).bind fun z S3 => match x, y, z with
    | .int i, .int j, .int k => if k ≠ 0 ∧ k.natAbs < 1073741824 ∧ Builtin.Range.small i j k = true ∧ 0 ≤ Builtin.Range.rangeSize i j k ∧ Builtin.Range.rangeSize i j k ≤ 16777216 then
        .ok ⟨.o, (List.range (Builtin.Range.rangeSize i j k).toNat).map fun (n : Nat) => .int (i + n * k), []⟩ S3 else .stk
    | _, _, _ => .stk
  | .zip a b, S => (evI Ω ρ a S).bind fun x S1 => (evI Ω ρ b S1).bind fun y S2 => Res.of S2 ((x.now ρ S2).bind fun x => (y.now ρ S2).bind fun y => zipI x y)
  | .enm a, S => (evI Ω ρ a S).bind fun x S1 => Res.of S1 ((x.now ρ S1).bind enmI)
  | .its i, S => match ρ[i]? with
    | some (.ownL xs) => .ok ⟨.l, xs, [.slot i]⟩ S
    | some (.val (.lst xs)) => .ok ⟨.l, xs, []⟩ S
    | some (.val (.tup xs)) => .ok ⟨.t, xs, []⟩ S
    | some (.val (.scr xs)) => .ok ⟨.l, xs, []⟩ S
    | some (.val (.str z)) => .ok ⟨.o, z.cps.toList.map fun c => .str ⟨#[c]⟩, []⟩ S
    | some (.val (.loc l)) => match S[l]? with
      | some (.lst xs) => .ok ⟨.l, xs, [.cell l]⟩ S
      | _ => .stk
    | _ => .stk
  | .it t, S => (ev Ω ρ t S).bind fun x S1 => match x with
    | .lst xs => .ok ⟨.l, xs, []⟩ S1
    | .tup xs => .ok ⟨.t, xs, []⟩ S1
    | .scr xs => .ok ⟨.l, xs, []⟩ S1
    | .str z => .ok ⟨.o, z.cps.toList.map fun c => .str ⟨#[c]⟩, []⟩ S1
    | .loc l => match S1[l]? with
      | some (.lst xs) => .ok ⟨.l, xs, [.cell l]⟩ S1
      | _ => .stk
    | _ => .stk
  | _, _ => .stk
end

/-! ### statements -/
inductive Pl where | slot (i : Nat) | tm (t : Tm)
/-- what an except suite does: returns a constant, the error's field, a tuple of these; stores a constant -/
inductive HI where | cst (d : D) | exn
inductive HR where | one (h : HI) | tup (hs : List HI) | asg (i : Nat) (d : D) | isi (a b : Str) (r1 r2 : List HI)
/-- a clause: its class, its name's slot, its suite; the classes that are known to it -/
structure Hd where
  h : Str
  i : Option Nat
  r : HR
  ks : List Str
inductive St where
  | skip | seq (a b : St)
  | asg (tg : Tg) (e : Tm) | own (i : Nat) (e : Tm)
  | setF (o : Tm) (f : Str) (e : Tm)
  | setI (p : Pl) (i e : Tm) | app (i : Nat) (e : Tm) | del (o i : Tm)
  | expr (e : Tm) | ret (e : Tm) | retO (i : Nat)
  | ite (c : Tm) (a b : St) | loop (tg : Tg) (it : Tm) (b : St) | itms (tg : Tg) (i : Nat) (f : Str) (b : St) | whl (c : Tm) (b : St) | brk | cnt
  | raise (c : Str) (a : Option Tm) | tryc (b : St) (hs : List Hd)
inductive Out where
  | nx (ρ : Env) (S : Sto) | ret (d : D) (S : Sto) | brk (ρ : Env) (S : Sto) | cnt (ρ : Env) (S : Sto) | exc (c : Str) (x : Option D) (ρ : Env) (S : Sto) | stk
def Res.run {α : Type} (ρ : Env) : Res α → (α → Sto → Out) → Out
  | .ok a S, f => f a S
  | .exc c x S, _ => .exc c x ρ S
  | .stk, _ => .stk
def Out.next : Out → (Env → Sto → Out) → Out
  | .nx ρ S, f => f ρ S
  | o, _ => o
@[simp] theorem Res.run_ok {α : Type} (ρ : Env) (a : α) (S : Sto) (f : α → Sto → Out) : (Res.ok a S).run ρ f = f a S := (rfl)
@[simp] theorem Res.run_exc {α : Type} (ρ : Env) (c x S) (f : α → Sto → Out) : (Res.exc c x S : Res α).run ρ f = .exc c x ρ S := (rfl)
@[simp] theorem Res.run_stk {α : Type} (ρ : Env) (f : α → Sto → Out) : (Res.stk : Res α).run ρ f = .stk := (rfl)
@[simp] theorem Out.next_nx (ρ S) (f : Env → Sto → Out) : (Out.nx ρ S).next f = f ρ S := (rfl)
@[simp] theorem Out.next_ret (d S) (f : Env → Sto → Out) : (Out.ret d S).next f = .ret d S := (rfl)
@[simp] theorem Out.next_brk (ρ S) (f : Env → Sto → Out) : (Out.brk ρ S).next f = .brk ρ S := (rfl)
@[simp] theorem Out.next_cnt (ρ S) (f : Env → Sto → Out) : (Out.cnt ρ S).next f = .cnt ρ S := (rfl)
@[simp] theorem Out.next_exc (c x ρ S) (f : Env → Sto → Out) : (Out.exc c x ρ S).next f = .exc c x ρ S := (rfl)
@[simp] theorem Out.next_stk (f : Env → Sto → Out) : Out.stk.next f = .stk := (rfl)
/-- behind a turn: on, out, or left -/
def Out.turn : Out → (Env → Sto → Out) → Out
  | .nx ρ S, f => f ρ S
  | .cnt ρ S, f => f ρ S
  | .brk ρ S, _ => .nx ρ S
  | o, _ => o
@[simp] theorem Out.turn_nx (ρ S) (f : Env → Sto → Out) : (Out.nx ρ S).turn f = f ρ S := (rfl)
@[simp] theorem Out.turn_ret (d S) (f : Env → Sto → Out) : (Out.ret d S).turn f = .ret d S := (rfl)
@[simp] theorem Out.turn_brk (ρ S) (f : Env → Sto → Out) : (Out.brk ρ S).turn f = .nx ρ S := (rfl)
@[simp] theorem Out.turn_cnt (ρ S) (f : Env → Sto → Out) : (Out.cnt ρ S).turn f = f ρ S := (rfl)
@[simp] theorem Out.turn_exc (c x ρ S) (f : Env → Sto → Out) : (Out.exc c x ρ S).turn f = .exc c x ρ S := (rfl)
@[simp] theorem Out.turn_stk (f : Env → Sto → Out) : Out.stk.turn f = .stk := (rfl)
/-- .. what is walked being the same at each turn -/
def loopC (cs : List (Nat × List D)) (turn : D → Env → Sto → Out) : List D → Env → Sto → Out
  | [], ρ, S => if okC cs S then .nx ρ S else .stk
  | x :: xs, ρ, S => if okC cs S then (turn x ρ S).turn fun ρ' S' => loopC cs turn xs ρ' S' else .stk
def loopL (turn : D → Env → Sto → Out) : List D → Env → Sto → Out
  | [], ρ, S => .nx ρ S
  | x :: xs, ρ, S => (turn x ρ S).turn fun ρ' S' => loopL turn xs ρ' S'
theorem loopC_nil (turn : D → Env → Sto → Out) : ∀ (xs : List D) (ρ : Env) (S : Sto), loopC [] turn xs ρ S = loopL turn xs ρ S
  | [], _, _ => (rfl)
  | x :: xs, ρ, S => by
    show ((turn x ρ S).turn fun ρ' S' => loopC [] turn xs ρ' S') = (turn x ρ S).turn fun ρ' S' => loopL turn xs ρ' S'
    congr 1
    funext ρ' S'
    rw [loopC_nil turn xs ρ' S']
def Out.unl (l : Lk) (xs : List D) : Out → Out
  | .nx ρ S => .nx (unlock1 ρ S xs l).1 (unlock1 ρ S xs l).2
  | .brk ρ S => .brk (unlock1 ρ S xs l).1 (unlock1 ρ S xs l).2
  | .cnt ρ S => .cnt (unlock1 ρ S xs l).1 (unlock1 ρ S xs l).2
  | .exc c x ρ S => .exc c x (unlock1 ρ S xs l).1 (unlock1 ρ S xs l).2
  | .ret d S => .ret d (unlock1 [] S xs l).2
  | .stk => .stk
def shutO (ls : List Lk) (ρ : Env) (S : Sto) (f : Env → Sto → Out) : Out := if ls.all isCell then f ρ S else match ls with
  | [l] => match lock1 ρ S l with
    | none => .stk
    | some (ρ1, S1) => (f ρ1 S1).unl l (lockedOf ρ l)
  | _ => .stk
/-- a dict that was walked may be written again -/
def unD (l : Nat) (S : Sto) : Sto := match S[l]? with
  | some (.dT kvs true) => S.set l (.dT kvs false)
  | _ => S
def Out.unD (l : Nat) : Out → Out
  | .nx ρ S => .nx ρ (TX.unD l S)
  | .brk ρ S => .brk ρ (TX.unD l S)
  | .cnt ρ S => .cnt ρ (TX.unD l S)
  | .exc c x ρ S => .exc c x ρ (TX.unD l S)
  | .ret d S => .ret d (TX.unD l S)
  | .stk => .stk
def whileN (test : Env → Sto → Res D) (body : Env → Sto → Out) : Nat → Env → Sto → Out
  | 0, _, _ => .stk
  | m + 1, ρ, S => (test ρ S).run ρ fun x S1 => match tru S1 x with
    | none => .stk
    | some false => .nx ρ S1
    | some true => (body ρ S1).turn fun ρ' S' => whileN test body m ρ' S'
/-- a place's item is changed -/
def plPut (ρ : Env) (S : Sto) (p : Pl) (o k d : D) : Out := match p with
  | .slot i => match ρ[i]?, k with
    | some (.ownL xs), .int k => match L2.ixN xs.length k with
      | some j => .nx (ρ.set i (.ownL (xs.set j d))) S
      | none => .stk
    | _, _ => .stk
  | .tm _ => if isDct S o then (match dPut S o k d with
      | some S' => .nx ρ S'
      | none => .stk) else match o, k with
    | .loc l, .int k => match S[l]? with
      | some (.lst xs) => match L2.ixN xs.length k with
        | some j => .nx ρ (S.set l (.lst (xs.set j d)))
        | none => .stk
      | _ => .stk
    | _, _ => .stk
/-- the place's object -/
def plObj (Ω : Orc) (ρ : Env) : Pl → Sto → Res D
  | .slot i, S => match ρ[i]? with
    | some (.ownL _) => .ok .non S
    | _ => .stk
  | .tm t, S => ev Ω ρ t S
/-- a constant of a suite -/
def cstD : D → Bool
  | .non => true
  | .bl _ => true
  | .int _ => true
  | .str z => decide (z.length ≤ sizeLine)
  | _ => false
def hiD (x : Option D) : HI → Option D
  | .cst d => if cstD d then some d else none
  | .exn => x
def hiDs (x : Option D) : List HI → Option (List D)
  | [] => some []
  | h :: r => (hiD x h).bind fun d => (hiDs x r).map fun ds => d :: ds
def isSub (c h : Str) : Bool := decide (c = h) || decide (h = Str.ofString "RestError")
def hrD (nm : Bool) (c : Str) (eq : Bool) (x : Option D) (ρ : Env) (S : Sto) : HR → Out
  | .one h => match hiD x h with
    | some d => .ret d S
    | none => .stk
  | .tup hs => match hiDs x hs with
    | some ds => if ds.length ≤ sizeLine then .ret (.tup ds) S else .stk
    | none => .stk
  | .asg i d => if i < ρ.length ∧ nm = false ∧ cstD d = true then .nx (ρ.set i (.val d)) S else .stk
  | .isi a b r1 r2 => if nm = true ∧ eq = true ∧ x.isNone = true then (match hiDs none (if isSub c a && !isSub c b then r1 else r2) with
    | some ds => if ds.length ≤ sizeLine then .ret (.tup ds) S else .stk
    | none => .stk) else .stk
def handle (c : Str) (x : Option D) (ρ : Env) (S : Sto) : List Hd → Out
  | [] => .exc c x ρ S
  | q :: hs => if q.ks.any (fun y => decide (y = c)) then (if isSub c q.h then (match q.i with
      | none => hrD false c (decide (c = q.h)) (if c = q.h then x else none) ρ S q.r
      | some i => if i < ρ.length then hrD true c (decide (c = q.h)) (if c = q.h then x else none) (ρ.set i .und) S q.r else .stk) else handle c x ρ S hs) else .stk
def ex (Ω : Orc) : St → Env → Sto → Out
  | .skip, ρ, S => .nx ρ S
  | .seq a b, ρ, S => (ex Ω a ρ S).next fun ρ' S' => ex Ω b ρ' S'
  | .asg tg e, ρ, S => (ev Ω ρ e S).run ρ fun d S1 => match bindT tg d ρ with
    | some ρ' => .nx ρ' S1
    | none => .stk
  | .own i e, ρ, S => (ev Ω ρ e S).run ρ fun d S1 => match d with
    | .lst xs => if i < ρ.length then .nx (ρ.set i (.ownL xs)) S1 else .stk
    | _ => .stk
  | .setF o f e, ρ, S => (ev Ω ρ e S).run ρ fun d S1 => (ev Ω ρ o S1).run ρ fun x S2 => match x with
    | .loc l => match putFld S2 l f d with
      | some S3 => .nx ρ S3
      | none => .stk
    | _ => .stk
  | .setI p i e, ρ, S => (ev Ω ρ e S).run ρ fun d S1 => (plObj Ω ρ p S1).run ρ fun o S2 => (ev Ω ρ i S2).run ρ fun k S3 => plPut ρ S3 p o k d
  | .app i e, ρ, S => match ρ[i]? with
    | some (.ownL _) => (ev Ω ρ e S).run ρ fun d S2 => match ρ[i]? with
      | some (.ownL xs) => if xs.length < sizeLine then .nx (ρ.set i (.ownL (xs ++ [d]))) S2 else .stk
      | _ => .stk
    | _ => .stk
  | .del o i, ρ, S => (ev Ω ρ o S).run ρ fun o S1 => (ev Ω ρ i S1).run ρ fun k S2 => match o, k with
    | .loc l, .int k => match S2[l]? with
      | some (.lst xs) => match L2.ixN xs.length k with
        | some j => .nx ρ (S2.set l (.lst (xs.eraseIdx j)))
        | none => .stk
      | _ => .stk
    | _, _ => .stk
  | .expr e, ρ, S => (ev Ω ρ e S).run ρ fun _ S1 => .nx ρ S1
  | .ret e, ρ, S => (ev Ω ρ e S).run ρ fun d S1 => .ret d S1
  | .retO i, ρ, S => match ρ[i]? with
    | some (.ownL xs) => .ret (.lst xs) S
    | _ => .stk
  | .ite c a b, ρ, S => (ev Ω ρ c S).run ρ fun x S1 => match tru S1 x with
    | none => .stk
    | some true => ex Ω a ρ S1
    | some false => ex Ω b ρ S1
  | .loop tg it b, ρ, S => (evI Ω ρ it S).run ρ fun v S1 => shutO v.ls ρ S1 fun ρ1 S2 => loopC (chks S1 v.ls) (fun x ρ' S' => match bindT tg x ρ' with
    | none => .stk
    | some ρ2 => ex Ω b ρ2 S') v.xs ρ1 S2
  | .itms tg i f b, ρ, S => match ρ[i]? with
    | some (.val o) => match fldOf S o f with
      | some (.loc l) => match S[l]? with
        | some (.dT kvs false) => Out.unD l (loopL (fun x ρ' S' => match bindT tg x ρ' with
          | none => .stk
          | some ρ2 => ex Ω b ρ2 S') (kvs.map fun kv => .tup [.tup (kv.1.map keyD), kv.2]) ρ (S.set l (.dT kvs true)))
        | _ => .stk
      | _ => .stk
    | _ => .stk
  | .whl c b, ρ, S => whileN (fun ρ' S' => ev Ω ρ' c S') (fun ρ' S' => ex Ω b ρ' S') FUEL ρ S
  | .brk, ρ, S => .brk ρ S
  | .cnt, ρ, S => .cnt ρ S
  | .raise c none, ρ, S => .exc c none ρ S
  | .raise c (some a), ρ, S => (ev Ω ρ a S).run ρ fun d S1 => .exc c (some d) ρ S1
  | .tryc b hs, ρ, S => match ex Ω b ρ S with
    | .exc c x ρ' S' => handle c x ρ' S' hs
    | o => o

/-! ### defs -/
structure Df where
  par : Nat
  siz : Nat
  body : St
def Df.start (d : Df) (xs : List D) : Env := xs.map .val ++ List.replicate (d.siz - xs.length) .und
def Df.run (Ω : Orc) (d : Df) (xs : List D) (S : Sto) : Res D :=
  if xs.length = d.par then match ex Ω d.body (d.start xs) S with
    | .nx _ S' => .ok .non S'
    | .ret v S' => .ok v S'
    | .exc c x _ S' => .exc c x S'
    | _ => .stk
  else .stk
/-- the defs by their names, called to the depth n -/
def dfOf : List (Ky × Df) → Ky → Option Df
  | [], _ => none
  | (k, d) :: r, x => if k = x then some d else dfOf r x
def runN (T : List (Ky × Df)) : Nat → Orc
  | 0 => fun _ _ _ => .stk
  | n + 1 => fun f xs S => match f with
    | .mk c => (runN T n (.me c (Str.ofString "__init__")) (.loc S.length :: xs) (S ++ [.ins c []])).bind fun d S2 => match d with
      | .non => .ok (.loc S.length) S2
      | _ => .stk
    | f => match dfOf T f with
      | some d => d.run (runN T n) xs S
      | none => .stk
end TX

set_option maxRecDepth 100000
/-! TX, part 2: from the model's syntax to terms. -/
namespace TX
open PySem

/-- what the text is about: defs, classes, constants of the module, built-ins left alone; names whose lists are shared, attributes whose lists are an object's own -/
structure Cfg where
  fns : List Str
  clss : List Str
  cst : List (Str × D)
  free : List Str
  mets : List Str := []
  objs : List Str := []
  excs : List (Str × Bool) := []
  shr : List Str := []
  shrA : List Str := []
  fShr : List Str := []
  dTs : List Str := []

def mem (x : Str) (l : List Str) : Bool := l.any fun y => decide (y = x)
/-- the place of x in the list -/
def ixOf : List Str → Str → Option Nat
  | [], _ => none
  | y :: r, x => if y = x then some 0 else (ixOf r x).map (· + 1)
def isVis : Option NameKind → Bool
  | some .local => true | some .cell => true | some .free => true | _ => false
def isLoc : Option NameKind → Bool
  | some .local => true | some .cell => true | _ => false
def isGl : Option NameKind → Bool
  | some .globalImplicit => true | _ => false
def okNm (x : Str) : Bool := !(x == Str.ofString "__debug__") && !(x == Str.ofString "__classdict__") && !(x == Str.ofString "__name__")
/-- where one stands: the slots' names, the scope, the names that may be stored -/
structure Pos' where
  N : List Str
  sc : Scope
  stn : List (Str × NameKind)
def slotOf (p : Pos') (x : Str) : Option Nat := if isVis (p.sc.names.lookup x) && okNm x then ixOf p.N x else none
def stOf (p : Pos') (x : Str) : Option Nat := if isLoc (p.stn.lookup x) && okNm x then ixOf p.N x else none
def gl (p : Pos') (x : Str) : Bool := isGl (p.sc.names.lookup x) && okNm x
def bltin (g : Cfg) (p : Pos') (x : Str) : Bool := gl p x && mem x g.free
def plainIx : Expr → Bool
  | .Slice _ _ _ _ => false | .Starred _ _ => false | _ => true
/-- a truth that is asked of the value -/
def plainT : Expr → Bool
  | .UnaryOp _ _ _ => false | .BoolOp _ _ _ => false | .IfExp _ _ _ _ => false | .Compare _ _ _ _ => false | _ => true
def plainA : Expr → Bool
  | .Starred _ _ => false | _ => true
/-- the base of an attribute: not a call without arguments of a name -/
def plainB : Expr → Bool
  | .Call (.Name _ _) [] [] _ => false | _ => true
/-- a comprehension's value goes to a name by another road -/
def isLc : Expr → Bool
  | .ListComp _ _ _ _ => true | .SetComp _ _ _ _ => true | .DictComp _ _ _ _ _ => true | _ => false
def bopOf : Operator → Option BOp
  | .Add => some .add | .Sub => some .sub | .Mult => some .mul | .FloorDiv => some .fdiv | .Mod => some .mod | .BitAnd => some .band | _ => none
def copOf : CmpOp → Option COp
  | .Lt => some .lt | .LtE => some .le | .Gt => some .gt | .GtE => some .ge | .Eq => some .eq | .NotEq => some .ne | .Is => some .is | .IsNot => some .isn | .In => some .inn | .NotIn => some .nin
def bi1 (x : Str) : Option Bi :=
  if x = Str.ofString "len" then some .len else if x = Str.ofString "int" then some .int
  else if x = Str.ofString "ord" then some .ord else if x = Str.ofString "repr" then some .repr
  else if x = Str.ofString "list" then some .list else if x = Str.ofString "tuple" then some .tuple
  else if x = Str.ofString "all" then some .all else if x = Str.ofString "any" then some .any else none
def bi2 (x : Str) : Option Bi := if x = Str.ofString "max" then some .max2 else if x = Str.ofString "min" then some .min2 else none
def bi1' (x : Str) : Option Bi := if x = Str.ofString "str" then some .str else if x = Str.ofString "max" then some .max1 else if x = Str.ofString "min" then some .min1 else if x = Str.ofString "sum" then some .sum else bi1 x
/-- methods of built-in types, with one argument, with two -/
def bm1 (x : Str) : Option Mth :=
  if x = Str.ofString "append" then some .append else if x = Str.ofString "extend" then some .extend else if x = Str.ofString "pop" then some .popAt
  else if x = Str.ofString "index" then some .index else if x = Str.ofString "split" then some .split
  else if x = Str.ofString "partition" then some .part else if x = Str.ofString "get" then some .get1 else none
def bm2 (x : Str) : Option Mth :=
  if x = Str.ofString "insert" then some .insert else if x = Str.ofString "split" then some .splitN
  else if x = Str.ofString "get" then some .get2 else if x = Str.ofString "pop" then some .dpop else none
/-- a name or an attribute that holds an instance -/
def objE (g : Cfg) : Expr → Bool
  | .Name x _ => mem x g.objs
  | .Attribute _ f _ => mem f g.objs
  | _ => false
/-- a method of one's own -/
def ownM (g : Cfg) (o : Expr) (m : Str) : Bool := mem m g.mets && (!((bm1 m).isSome || (bm2 m).isSome) || objE g o)
def isiOf (y : Str) : Option Bi := if y = Str.ofString "list" then some .isList else if y = Str.ofString "tuple" then some .isTup else none
def notSet : Expr → Bool
  | .Set _ _ _ => false | _ => true
def plainC : Expr → Bool
  | .SetComp _ _ _ _ => false | .DictComp _ _ _ _ _ => false | _ => true
def isTupE : Expr → Bool
  | .Tuple _ _ _ => true | _ => false
/-- the names of the objects' fields -/
def attrs : List Str := [Str.ofString "_deeds", Str.ofString "_toggles", Str.ofString "_writings", Str.ofString "_cuts", Str.ofString "_left", Str.ofString "_bound", Str.ofString "view", Str.ofString "versions", Str.ofString "_views", Str.ofString "_hands", Str.ofString "_number", Str.ofString "_history", Str.ofString "_waiting", Str.ofString "_blocks", Str.ofString "_pending", Str.ofString "_torn", Str.ofString "_disk", Str.ofString "_head", Str.ofString "_end", Str.ofString "_log", Str.ofString "_hand", Str.ofString "_disks", Str.ofString "_houses", Str.ofString "_letters"]
/-- terms that touch no heap -/
def hf : Tm → Bool
  | .cst (.int _) => true | .cst (.non) => true | .var _ => true
  | .bin .add a b => hf a && hf b | .bin .sub a b => hf a && hf b | .bin .mul a b => hf a && hf b
  | .neg a => hf a | .ix (.bor _) b => hf b | _ => false
def hfO : Tm → Bool
  | .nil => true | .part a => hf a | _ => false
def ownNames (N : List Str) (names : List (Str × NameKind)) : List (Str × Nat) :=
  names.filterMap fun y => if isLoc (some y.2) then (ixOf N y.1).map fun i => (y.1, i) else none
def blkB (N : List Str) (sc scope : Scope) : Bool := L2.blkC N sc scope (ownNames N scope.names)

mutual
/-- targets -/
def cTg (p : Pos') : Nat → Expr → Option Tg
  | 0, _ => none
  | k + 1, e => match e with
    | .Name x _ => (stOf p x).map .nm
    | .Tuple es _ _ => (cTgs p k es).map .tp
    | _ => none
def cTgs (p : Pos') : Nat → List Expr → Option Tg
  | 0, _ => none
  | k + 1, es => match es with
    | [] => some .nil
    | e :: r => (cTg p k e).bind fun a => (cTgs p k r).map fun b => .cons a b
end
mutual
def cE (g : Cfg) : Nat → Pos' → Expr → Option Tm
  | 0, _, _ => none
  | k + 1, p, e => match e with
    | .Constant c _ _ => match c with
      | .int i => some (.cst (.int i))
      | .bool b => some (.cst (.bl b))
      | .none => some (.cst .non)
      | .str z => if z.length ≤ sizeLine then some (.cst (.str z)) else none
      | _ => none
    | .Name x _ => match slotOf p x with
      | some i => some (.var i)
      | none => if gl p x then (g.cst.lookup x).map .cst else none
    | .Tuple es _ _ => (cAs g k p es).map .tup
    | .List es _ => (cAs g k p es).map .lst
    | .BinOp a op b _ => cBin g k p a op b
    | .UnaryOp op a _ => match op with
      | .USub => (cE g k p a).map .neg
      | .Not => (cL g k p a).map .not
      | _ => none
    | .BoolOp op es _ => cBo g k p op es
    | .Compare a ops bs _ => match ops, bs with
      | [o], [b] => if notSet b then (copOf o).bind fun o => (cB g k p a).bind fun s => (cL g k p b).map fun t => .cmp o s t else none
      | [o, o'], [b, c] => if notSet c then (copOf o).bind fun o => (copOf o').bind fun o' => (cE g k p a).bind fun s => (cE g k p b).bind fun t => (cE g k p c).map fun u => .chn o o' s t u else none
      | _, _ => none
    | .IfExp c a b _ => (cT g k p c).bind fun s => (cE g k p a).bind fun t => (cE g k p b).map fun u => .ite s t u
    | .Subscript a b _ => match b with
      | .Slice lo hi st _ => match st with
        | none => (cO g k p lo).bind fun l => (cO g k p hi).bind fun h => (cB g k p a).map fun s => .sl s l h
        | some (.UnaryOp .USub (.Constant (.int i) _ _) _) => (match lo, hi with
          | none, none => if i = 1 then (cB g k p a).map .rev else none
          | _, _ => none)
        | _ => none
      | b => if plainIx b then (cB g k p a).bind fun s => (cE g k p b).map fun t => .ix s t else none
    | .Call fn as kw cp => match kw with
      | [] => match fn with
        | .Name x _ => if gl p x then cCall g k p x as else none
        | .Attribute o m ap => if m = Str.ofString "join" then (match as with
            | [a] => if (ap.endLine == cp.line) && plainB o && plainA a then (cE g k p o).bind fun s => (cL g k p a).map fun t => .join s t else none
            | _ => none)
          else if (ap.endLine == cp.line) && plainB o && as.all plainA && decide (as.length < 30) then (if ownM g o m then (cE g k p o).bind fun s => (cAs g k p as).map fun t => .met m s t
            else (cB g k p o).bind fun s => (match as with
              | [a] => bm1 m
              | [a, b] => bm2 m
              | _ => none).bind fun b => (cAs g k p as).map fun t => .mth b s t)
          else none
        | _ => none
      | [⟨some kn, ke, _⟩] => match fn with
        | .Name x _ => match as with
          | [a] => if bltin g p x && plainA a && x = Str.ofString "max" && kn = Str.ofString "default" then (cE g k p a).bind fun s => (cE g k p ke).map fun t => .bi .maxd (.cons s (.cons t .nil)) else none
          | _ => none
        | _ => none
      | _ => none
    | .Attribute o f _ => if plainB o && mem f attrs then (cE g k p o).map fun s => .fld s f else none
    | .ListComp el gs scope _ => match gs with
      | [⟨tg, it, ifs, n⟩] => if n = 0 then cLc g k p el tg it ifs scope else none
      | _ => none
    | _ => none
def cBin (g : Cfg) : Nat → Pos' → Expr → Operator → Expr → Option Tm
  | 0, _, _, _, _ => none
  | k + 1, p, a, op, b => match op with
    | .Mult => match a with
      | .List es _ => (cAs g k p es).bind fun as => (cE g k p b).map fun t => .rep as t
      | a => (cE g k p a).bind fun s => (cE g k p b).map fun t => .bin .mul s t
    | .Add => (cB g k p a).bind fun s => (cL g k p b).map fun t => .bin .add s t
    | op => (bopOf op).bind fun o => if o matches .add then none else (cE g k p a).bind fun s => (cE g k p b).map fun t => .bin o s t
def cCall (g : Cfg) : Nat → Pos' → Str → List Expr → Option Tm
  | 0, _, _, _ => none
  | k + 1, p, x, as =>
    if mem x g.fns then (if as.all plainA then (cAs g k p as).map (.call x) else none)
    else if mem x g.clss then (if as.all plainA then (cAs g k p as).map (.mk x) else none)
    else if mem x g.free then (match as with
      | [a] => if plainA a then (if x = Str.ofString "sorted" then (cL g k p a).map .srt else (bi1' x).bind fun b => (cL g k p a).map fun t => .bi b (.cons t .nil)) else none
      | [a, b] => match b with
        | .Name y _ => if x = Str.ofString "isinstance" then (if plainA a && bltin g p y then (isiOf y).bind fun i => (cL g k p a).map fun t => .bi i (.cons t .nil) else none)
          else if plainA a && plainA b then (bi2 x).bind fun i => (cAs g k p [a, b]).map (.bi i) else none
        | b => if plainA a && plainA b then (bi2 x).bind fun i => (cAs g k p [a, b]).map (.bi i) else none
      | _ => none)
    else none
def cLc (g : Cfg) : Nat → Pos' → Expr → Expr → Expr → List Expr → Scope → Option Tm
  | 0, _, _, _, _, _, _ => none
  | k + 1, p, el, tg, it, ifs, scope => if blkB p.N p.sc scope && notSet it then
      (cI g k p (isTupE tg) it).bind fun i => (cTg ⟨p.N, L2.relS scope p.sc, scope.names⟩ k tg).bind fun t => (cIf g k ⟨p.N, L2.relS scope p.sc, scope.names⟩ ifs).bind fun c =>
        (cE g k ⟨p.N, L2.relS scope p.sc, scope.names⟩ el).bind fun l => if (tgIx t).all (fun i => (List.map Prod.snd (ownNames p.N scope.names)).contains i) then some (.comp t i c l (List.map Prod.snd (ownNames p.N scope.names))) else none
    else none
def cIf (g : Cfg) : Nat → Pos' → List Expr → Option Tm
  | 0, _, _ => none
  | k + 1, p, ifs => match ifs with
    | [] => some (.cst (.bl true))
    | [c] => cT g k p c
    | _ => none
/-- the left one of two: a list of the def's own may be read -/
def cB (g : Cfg) : Nat → Pos' → Expr → Option Tm
  | 0, _, _ => none
  | k + 1, p, e => match e with
    | .Name x _ => match slotOf p x with
      | some i => some (.bor i)
      | none => cE g k p e
    | e => cE g k p e
/-- the last one: an object's own list too -/
def cL (g : Cfg) : Nat → Pos' → Expr → Option Tm
  | 0, _, _ => none
  | k + 1, p, e => cB g k p e
/-- a part of a slice -/
def cO (g : Cfg) : Nat → Pos' → Option Expr → Option Tm
  | 0, _, _ => none
  | k + 1, p, o => match o with
    | none => some .nil
    | some e => (cE g k p e).map .part
def cAs (g : Cfg) : Nat → Pos' → List Expr → Option Tm
  | 0, _, _ => none
  | k + 1, p, es => match es with
    | [] => some .nil
    | e :: r => if plainA e then (cE g k p e).bind fun a => (cAs g k p r).map fun b => .cons a b else none
/-- and, or: values by truth -/
def cBo (g : Cfg) : Nat → Pos' → BoolOp → List Expr → Option Tm
  | 0, _, _, _ => none
  | k + 1, p, op, es => match es with
    | [] => none
    | e :: r => match r with
      | [] => cE g k p e
      | b :: r' => (cE g k p e).bind fun s => (cBo g k p op (b :: r')).map fun t => match op with
        | .And => .and s t
        | .Or => .or s t
/-- tests -/
def cT (g : Cfg) : Nat → Pos' → Expr → Option Tm
  | 0, _, _ => none
  | k + 1, p, e => match e with
    | .UnaryOp op a _ => match op with
      | .Not => (cT g k p a).map .not
      | _ => none
    | .BoolOp op es _ => cTo g k p op es
    | .Compare a ops bs _ => match ops, bs with
      | [o], [b] => if notSet b then (copOf o).bind fun o => (cB g k p a).bind fun s => (cL g k p b).map fun t => .cmp o s t else none
      | [o, o'], [b, c] => if notSet c then (copOf o).bind fun o => (copOf o').bind fun o' => (cE g k p a).bind fun s => (cE g k p b).bind fun t => (cE g k p c).map fun u => .chn o o' s t u else none
      | _, _ => none
    | e => if plainT e then cL g k p e else none
def cTo (g : Cfg) : Nat → Pos' → BoolOp → List Expr → Option Tm
  | 0, _, _, _ => none
  | k + 1, p, op, es => match es with
    | [] => none
    | e :: r => match r with
      | [] => cT g k p e
      | b :: r' => (cT g k p e).bind fun s => (cTo g k p op (b :: r')).map fun t => match op with
        | .And => .and s t
        | .Or => .or s t
/-- what is walked; pr: the target is a tuple -/
def cI (g : Cfg) : Nat → Pos' → Bool → Expr → Option Tm
  | 0, _, _, _ => none
  | k + 1, p, pr, e => match e with
    | .Call fn as kw _ => match kw with
      | [] => match fn with
        | .Name x _ => if bltin g p x then (if x = Str.ofString "range" then (match as with
            | [a] => if plainA a then (cE g k p a).map fun s => .rng1 s else none
            | [a, b] => if plainA a && plainA b then (cE g k p a).bind fun s => (cE g k p b).map fun t => .rng2 s t else none
            | [a, b, c] => if plainA a && plainA b && plainA c then (cE g k p a).bind fun s => (cE g k p b).bind fun t => (cE g k p c).map fun u => .rng3 s t u else none
            | _ => none)
          else if x = Str.ofString "zip" then (match as with
            | [a, b] => if plainA a && plainA b && pr then (cI1 g k p a).bind fun s => (cI1 g k p b).map fun t => .zip s t else none
            | _ => none)
          else if x = Str.ofString "enumerate" then (match as with
            | [a] => if plainA a && pr then (cI1 g k p a).map .enm else none
            | _ => none)
          else (cE g k p e).map .it)
          else (cE g k p e).map .it
        | _ => (cE g k p e).map .it
      | _ => none
    | e => cI1 g k p e
def cI1 (g : Cfg) : Nat → Pos' → Expr → Option Tm
  | 0, _, _ => none
  | k + 1, p, e => match e with
    | .Name x _ => match slotOf p x with
      | some i => some (.its i)
      | none => (cE g k p e).map .it
    | e => (cE g k p e).map .it
end
/-- an expression that makes a new list -/
def fresh : Tm → Bool
  | .lst _ => true | .rep _ _ => true | .comp _ _ _ _ _ => true | .bi .list _ => true | .sl _ _ _ => true | .bin .add _ _ => true | .mth .split _ _ => true | .mth .splitN _ _ => true | .srt _ => true | .rev _ => true | _ => false
/-- the places of lists -/
def cPl (g : Cfg) (own : List Str) (k : Nat) (p : Pos') : Expr → Option Pl
  | .Name x q => if mem x own then (slotOf p x).map .slot else (cE g k p (.Name x q)).map .tm
  | e => (cE g k p e).map .tm
/-- a value to be stored under a name: a list of its own, shared ones -/
def cV (g : Cfg) (k : Nat) (p : Pos') (sh dt : Bool) (e : Expr) : Option Tm := match e with
  | .Dict [] [] _ => some (if dt then .dnT else .dnK)
  | e => (cE g k p e).bind fun t => if sh && fresh t then some (.shr t) else some t
/-- what a suite returns -/
def cHi : Expr → Option HI
  | .Constant c _ _ => match c with
    | .bool b => some (.cst (.bl b))
    | .int i => some (.cst (.int i))
    | .none => some (.cst .non)
    | .str z => if z.length ≤ sizeLine then some (.cst (.str z)) else none
    | _ => none
  | _ => none
/-- e.name, e the caught one -/
def isExn (n : Option Str) : Expr → Bool
  | .Attribute (.Name x _) f _ => decide (n = some x) && decide (f = Str.ofString "name") && okNm x
  | _ => false
def cHe (own : Bool) (n : Option Str) (e : Expr) : Option HI := if isExn n e then (if own then some .exn else none) else cHi e
def cHs (own : Bool) (n : Option Str) : List Expr → Option (List HI)
  | [] => some []
  | e :: r => if plainA e then (cHe own n e).bind fun h => (cHs own n r).map fun hs => h :: hs else none
def cHr (own : Bool) (n : Option Str) : Expr → Option HR
  | .Tuple es _ _ => (cHs own n es).map .tup
  | e => (cHe own n e).map .one
def isLocal : Option NameKind → Bool
  | some .local => true
  | _ => false
/-- a clause -/
def cHd (g : Cfg) (p : Pos') : ExceptHandler → Option Hd
  | .ExceptHandler (some (.Name x _)) n su _ => if gl p x then (g.excs.lookup x).bind fun own => (match n with
    | none => (match su with
      | [.Return (some e) _] => (cHr own none e).map fun r => ⟨x, none, r, g.excs.map (·.1)⟩
      | [.Assign [.Name y _] (.Constant c j q) _] => (stOf p y).bind fun i => (match cHi (.Constant c j q) with
        | some (.cst d) => some ⟨x, none, .asg i d, g.excs.map (·.1)⟩
        | _ => none)
      | _ => none)
    | some y => (match su with
      | [.Return (some e) _] => if isLocal (p.sc.names.lookup y) then (ixOf p.N y).bind fun i => (cHr own (some y) e).map fun r => ⟨x, some i, r, g.excs.map (·.1)⟩ else none
      | [.If (.BoolOp .And [.Call (.Name f1 _) [.Name y1 _, .Name A _] [] _, .UnaryOp .Not (.Call (.Name f2 _) [.Name y2 _, .Name B _] [] _) _] _) [.Return (some (.Tuple e1 _ _)) _] [] _, .Return (some (.Tuple e2 _ _)) _] =>
        if isLocal (p.sc.names.lookup y) && !own && decide (f1 = Str.ofString "isinstance") && decide (f2 = Str.ofString "isinstance") && bltin g p (Str.ofString "isinstance") && decide (y1 = y) && decide (y2 = y) && okNm y && gl p A && gl p B && (g.excs.lookup A).isSome && (g.excs.lookup B).isSome
        then (ixOf p.N y).bind fun i => (cHs false none e1).bind fun r1 => (cHs false none e2).map fun r2 => ⟨x, some i, .isi A B r1 r2, g.excs.map (·.1)⟩ else none
      | _ => none)) else none
  | _ => none
def cHds (g : Cfg) (p : Pos') : List ExceptHandler → Option (List Hd)
  | [] => some []
  | h :: hs => (cHd g p h).bind fun a => (cHds g p hs).map fun b => a :: b
/-- x.f.items(), x a name -/
def itmsOf (g : Cfg) (p : Pos') (pr : Bool) : Expr → Option (Nat × Str)
  | .Call (.Attribute (.Attribute (.Name x _) f _) m ap) [] [] cp => if pr && m = Str.ofString "items" && mem f attrs && (ap.endLine == cp.line) then (slotOf p x).map fun i => (i, f) else none
  | _ => none
mutual
def cS (g : Cfg) (own : List Str) : Nat → Pos' → Stmt → Option St
  | 0, _, _ => none
  | k + 1, p, st => match st with
    | .Pass _ => some .skip
    | .Break _ => some .brk
    | .Continue _ => some .cnt
    | .Expr e _ => cX g own k p e
    | .Return v _ => match v with
      | none => some (.ret (.cst .non))
      | some e => match e with
        | .Name x _ => if mem x own then (slotOf p x).map .retO else (cE g k p e).map .ret
        | e => (cV g k p (mem (Str.ofString "return") own) false e).map .ret
    | .If c a b _ => (cT g k p c).bind fun t => (cSs g own k p a).bind fun u => (cSs g own k p b).map fun v => .ite t u v
    | .For tg it b orelse _ => match orelse with
      | [] => if notSet it then (cTg p k tg).bind fun t => (cI g k p (isTupE tg) it).bind fun i => (cSs g own k p b).map fun u => .loop t i u else none
      | _ => none
    | .While c b orelse _ => match orelse with
      | [] => (cT g k p c).bind fun t => (cSs g own k p b).map fun u => .whl t u
      | _ => none
    | .Assign ts e _ => match ts with
      | [tg] => cA g own k p tg e
      | _ => none
    | .Delete ts _ => match ts with
      | [.Subscript o ie _] => if plainIx ie then (cE g k p o).bind fun s => (cE g k p ie).map fun t => .del s t else none
      | _ => none
    | .Raise (some e) none _ => match e with
      | .Call (.Name x _) [a] [] _ => if gl p x then (match g.excs.lookup x with
        | some true => if plainA a then (cE g k p a).map fun t => .raise x (some t) else none
        | some false => (match a with
          | .Constant (.str _) _ _ => some (.raise x none)
          | _ => none)
        | none => none) else none
      | _ => none
    | .Try b (h :: hs) [] [] _ => (cSs g own k p b).bind fun u => (cHds g p (h :: hs)).map fun l => .tryc u l
    | _ => none
def cX (g : Cfg) (own : List Str) : Nat → Pos' → Expr → Option St
  | 0, _, _ => none
  | k + 1, p, e => match e with
    | .Constant c _ _ => match c with
      | .str _ => some .skip
      | _ => none
    | .Call fn as kw cp => match fn with
      | .Attribute o m ap => match as, kw with
        | [a], [] => if m = Str.ofString "append" && !(ownM g o m) then (if plainA a && plainB o && (ap.endLine == cp.line) then (cPl g own k p o).bind fun pl => (cV g k p (match o with
              | .Name x _ => mem x g.shrA
              | _ => false) false a).map fun t => match pl with
            | .slot i => .app i t
            | .tm s => .expr (.mth .append s (.cons t .nil)) else none) else (cE g k p e).map .expr
        | _, _ => (cE g k p e).map .expr
      | _ => (cE g k p e).map .expr
    | _ => none
def cA (g : Cfg) (own : List Str) : Nat → Pos' → Expr → Expr → Option St
  | 0, _, _, _ => none
  | k + 1, p, tg, e => match tg with
    | .Name x _ => if plainC e then (stOf p x).bind fun i => if mem x own then (cE g k p e).bind fun t => (if fresh t then some (.own i t) else none)
        else (cV g k p (mem x g.shr) (mem x g.dTs) e).map fun t => .asg (.nm i) t else none
    | .Subscript o ie _ => if plainIx ie && !isLc e then (cPl g own k p o).bind fun pl => (cE g k p ie).bind fun i => (cE g k p e).map fun t => .setI pl i t else none
    | .Tuple es n q => if !isTupE e && plainC e then (cTg p k (.Tuple es n q)).bind fun t => (cE g k p e).map fun u => .asg t u else none
    | .Attribute o f _ => if mem f attrs && plainC e then (cE g k p o).bind fun s => (cV g k p (mem f g.fShr) (mem f g.dTs) e).map fun t => .setF s f t else none
    | _ => none
def cSs (g : Cfg) (own : List Str) : Nat → Pos' → List Stmt → Option St
  | 0, _, _ => none
  | k + 1, p, sts => match sts with
    | [] => some .skip
    | st :: r => (cS g own k p st).bind fun a => (cSs g own k p r).map fun b => .seq a b
end
end TX

set_option maxRecDepth 100000
/-! TX, part 3: how the run's values lie in the heap. -/
namespace TX
open PySem PySem.Spec PyProof.Rows L2 He

/-- whose an address is -/
inductive Ow where | slot (i : Nat) | cell (l : Nat) | dx (l : Nat) | fld (l : Nat) (f : Str)
structure Wd where
  io : Nat → Addr
  dx : Nat → Addr
  fa : Nat → Str → Addr
  F : Hp
  lab : Addr → Option Ow
  n : Nat
def upl (lab : Addr → Option Ow) (a : Addr) (o : Ow) : Addr → Option Ow := fun b => if b = a then some o else lab b
theorem upl_same {lab : Addr → Option Ow} {a : Addr} {o : Ow} : upl lab a o a = some o := if_pos rfl
theorem upl_ne {lab : Addr → Option Ow} {a b : Addr} {o : Ow} (h : b ≠ a) : upl lab a o b = lab b := if_neg h

section
variable (K : PySem.W.Frag) (w : Wd)
mutual
inductive Rp : V → D → Prop
  | non : Rp .non .non
  | bl (b : Bool) : Rp (.bl b) (.bl b)
  | int (i : Int) : Rp (.int i) (.int i)
  | str (s : Str) : s.length ≤ sizeLine → Rp (.str s) (.str s)
  | lst {a : Addr} {vs : List V} {ds : List D} : w.F a = some (.lst vs) → vs.length ≤ sizeLine → RpAll vs ds → Rp (.ref a) (.lst ds)
  | tup {a : Addr} {vs : List V} {ds : List D} : w.F a = some (.tup vs) → vs.length ≤ sizeLine → RpAll vs ds → Rp (.ref a) (.tup ds)
  | wtp {a : Addr} {vs : List V} {ds : List D} : SqT K w.F a vs → vs.length ≤ sizeLine → RpAll vs ds → Rp (.ref a) (.wtp ds)
  | scr {a : Addr} {vs : List V} {ds : List D} : SqL K w.F a vs → vs.length ≤ sizeLine → RpAll vs ds → Rp (.ref a) (.scr ds)
  | loc {l : Nat} : l < w.n → Rp (.ref (w.io l)) (.loc l)
inductive RpAll : List V → List D → Prop
  | nil : RpAll [] []
  | cons {v : V} {d : D} {vs : List V} {ds : List D} : Rp v d → RpAll vs ds → RpAll (v :: vs) (d :: ds)
end
end
variable {K : PySem.W.Frag}

structure Wle (w w' : Wd) : Prop where
  n : w.n ≤ w'.n
  io : ∀ l, l < w.n → w'.io l = w.io l
  F : Same w.F w'.F
theorem Wle.refl (w : Wd) : Wle w w := ⟨Nat.le_refl _, fun _ _ => rfl, Same.refl _⟩
theorem Wle.trans {a b c : Wd} (h : Wle a b) (k : Wle b c) : Wle a c :=
  ⟨Nat.le_trans h.n k.n, fun l hl => (k.io l (Nat.lt_of_lt_of_le hl h.n)).trans (h.io l hl), h.F.trans k.F⟩
theorem sqT_mono {H H' : Hp} {a : Addr} {xs : List V} (e : Same H H') (h : SqT K H a xs) : SqT K H' a xs := by
  rcases h with (h | ⟨o, h⟩) | h
  · exact .inl (.inl (e _ _ h))
  · exact .inl (.inr ⟨o, e _ _ h⟩)
  · exact .inr h
theorem tupT {H H' : Hp} {a : Addr} {xs : List V} (e : Same H H') (h : H a = some (.tup xs)) : SqT K H' a xs := .inl (.inl (e _ _ h))
mutual
theorem Rp.mono {w w' : Wd} (e : Wle w w') : ∀ {v : V} {d : D}, Rp K w v d → Rp K w' v d
  | _, _, .non => .non
  | _, _, .bl b => .bl b
  | _, _, .int i => .int i
  | _, _, .str s h => .str s h
  | _, _, .lst h z r => .lst (e.F _ _ h) z (RpAll.mono e r)
  | _, _, .tup h z r => .tup (e.F _ _ h) z (RpAll.mono e r)
  | _, _, .wtp h z r => .wtp (sqT_mono e.F h) z (RpAll.mono e r)
  | _, _, .scr h z r => .scr (e.F.seq h) z (RpAll.mono e r)
  | _, _, .loc (l := l) h => by
    rw [← e.io l h]
    exact .loc (Nat.lt_of_lt_of_le h e.n)
theorem RpAll.mono {w w' : Wd} (e : Wle w w') : ∀ {vs : List V} {ds : List D}, RpAll K w vs ds → RpAll K w' vs ds
  | _, _, .nil => .nil
  | _, _, .cons r t => .cons (Rp.mono e r) (RpAll.mono e t)
end
theorem RpAll.length {w : Wd} : ∀ {vs : List V} {ds : List D}, RpAll K w vs ds → vs.length = ds.length
  | _, _, .nil => rfl
  | _, _, .cons _ t => by rw [List.length_cons, List.length_cons, RpAll.length t]
theorem RpAll.get {w : Wd} : ∀ {vs : List V} {ds : List D} {i : Nat} {d : D}, RpAll K w vs ds → ds[i]? = some d → ∃ v, vs[i]? = some v ∧ Rp K w v d
  | _, _, _, _, .nil, h => by simp at h
  | _, _, 0, _, .cons r _, h => by
    simp at h
    subst h
    exact ⟨_, rfl, r⟩
  | _, _, i + 1, d, .cons _ t, h => by
    obtain ⟨v, h1, h2⟩ := RpAll.get (i := i) (d := d) t (by simpa using h)
    exact ⟨v, by simpa using h1, h2⟩
theorem RpAll.getV {w : Wd} {vs : List V} {ds : List D} {i : Nat} {v : V} (r : RpAll K w vs ds) (h : vs[i]? = some v) : ∃ d, ds[i]? = some d ∧ Rp K w v d := by
  have hi : i < ds.length := by
    rw [← r.length]
    exact (List.getElem?_eq_some_iff.mp h).1
  obtain ⟨v', h1, h2⟩ := r.get (List.getElem?_eq_getElem hi)
  rw [h] at h1
  cases h1
  exact ⟨_, List.getElem?_eq_getElem hi, h2⟩
theorem RpAll.append {w : Wd} : ∀ {vs us : List V} {ds es : List D}, RpAll K w vs ds → RpAll K w us es → RpAll K w (vs ++ us) (ds ++ es)
  | _, _, _, _, .nil, s => s
  | _, _, _, _, .cons r t, s => .cons r (RpAll.append t s)
theorem RpAll.set {w : Wd} {v : V} {d : D} (r : Rp K w v d) : ∀ {vs : List V} {ds : List D} (i : Nat), RpAll K w vs ds → RpAll K w (vs.set i v) (ds.set i d)
  | _, _, _, .nil => .nil
  | _, _, 0, .cons _ t => .cons r t
  | _, _, i + 1, .cons q t => .cons q (RpAll.set r i t)
theorem RpAll.erase {w : Wd} : ∀ {vs : List V} {ds : List D} (i : Nat), RpAll K w vs ds → RpAll K w (vs.eraseIdx i) (ds.eraseIdx i)
  | _, _, _, .nil => .nil
  | _, _, 0, .cons _ t => t
  | _, _, i + 1, .cons q t => .cons q (RpAll.erase i t)
theorem RpAll.take {w : Wd} : ∀ {vs : List V} {ds : List D} (n : Nat), RpAll K w vs ds → RpAll K w (vs.take n) (ds.take n)
  | _, _, 0, _ => .nil
  | _, _, _ + 1, .nil => .nil
  | _, _, n + 1, .cons r t => .cons r (RpAll.take n t)
theorem RpAll.drop {w : Wd} : ∀ {vs : List V} {ds : List D} (n : Nat), RpAll K w vs ds → RpAll K w (vs.drop n) (ds.drop n)
  | _, _, 0, r => r
  | _, _, _ + 1, .nil => .nil
  | _, _, n + 1, .cons _ t => RpAll.drop n t
theorem RpAll.rep {w : Wd} {vs : List V} {ds : List D} (h : RpAll K w vs ds) : ∀ k : Nat, RpAll K w (List.replicate k vs).flatten (List.replicate k ds).flatten
  | 0 => .nil
  | k + 1 => by
    rw [List.replicate_succ, List.replicate_succ, List.flatten_cons, List.flatten_cons]
    exact h.append (RpAll.rep h k)

/-- what is fixed meanwhile: what is guarded, where the shut lists lie -/
structure Gu where
  G : Hp
  ls : Nat → Addr
  lo : Nat → Obj
/-- an object's fields -/
def FdR (K : PySem.W.Frag) (w : Wd) (p : Str × D) (q : Str × V) : Prop := p.1 = q.1 ∧ Rp K w q.2 p.2
abbrev FsR (K : PySem.W.Frag) (w : Wd) : List (Str × D) → List (Str × V) → Prop := Paired (FdR K w)
/-- a dict's pairs -/
def KvR {κ : Type} (K : PySem.W.Frag) (w : Wd) (p : κ × D) (q : κ × V) : Prop := p.1 = q.1 ∧ Rp K w q.2 p.2
abbrev KvsR {κ : Type} (K : PySem.W.Frag) (w : Wd) : List (κ × D) → List (κ × V) → Prop := Paired (KvR K w)
/-- shut, if one walks over it -/
def frzIf (b : Bool) (o : Obj) (u : HO) : HO := if b then .frz o u else u
structure ClsOk (K : PySem.W.Frag) (c : Str) : Prop where
  cl : Cls K (ga K c)
  no : ∀ f, mem f attrs = true → NoAttr K (ga K c) f
  me : ∀ m, mem m (mtabOf c) = true → Meth K (ga K c) m (He.ma K (ga K c) m)
def CellR (K : PySem.W.Frag) (g : Gu) (w : Wd) (H : Hp) (l : Nat) : Cell → Prop
  | .lst xs => w.lab (w.io l) = some (.cell l) ∧ ∃ vs, H (w.io l) = some (.lst vs) ∧ vs.length ≤ sizeLine ∧ RpAll K w vs xs
  | .ins c fs => w.lab (w.io l) = some (.cell l) ∧ w.lab (w.dx l) = some (.dx l) ∧ H (w.dx l) = some (.own (w.io l)) ∧ ClsOk K c ∧ ∃ fvs, H (w.io l) = some (.ins (ga K c) (w.dx l) fvs) ∧ FsR K w fs fvs
  | .dK kvs b => w.lab (w.io l) = some (.cell l) ∧ ∃ us, H (w.io l) = some (frzIf b (g.lo l) (.dK us)) ∧ KvsR K w kvs us
  | .dT kvs b => w.lab (w.io l) = some (.cell l) ∧ ∃ us, H (w.io l) = some (frzIf b (g.lo l) (.dT us)) ∧ KvsR K w kvs us
def SlotR (K : PySem.W.Frag) (g : Gu) (w : Wd) (H : Hp) (i : Nat) (o : Option (Option V)) : C → Prop
  | .und => True
  | .lck => o = some (some (.ref (g.ls i)))
  | .val d => ∃ v, o = some (some v) ∧ Rp K w v d
  | .ownL xs => ∃ p vs, o = some (some (.ref p)) ∧ w.lab p = some (.slot i) ∧ H p = some (.lst vs) ∧ vs.length ≤ sizeLine ∧ RpAll K w vs xs

structure Rel (K : PySem.W.Frag) (G : Gu) (w : Wd) (ρ : Env) (S : Sto) (σ : L2.St) (H : Hp) : Prop where
  fz : ∀ a o, w.F a = some o → H a = some o ∧ w.lab a = none
  gd : ∀ a o, G.G a = some o → H a = some o ∧ w.lab a = none ∧ w.F a = none
  tr : ∀ a, w.lab a ≠ none → H a ≠ none
  len : ρ.length = σ.length
  slot : ∀ i c, ρ[i]? = some c → SlotR K G w H i σ[i]? c
  n : w.n = S.length
  cell : ∀ l c, S[l]? = some c → CellR K G w H l c

section
variable {G : Gu} {w w' : Wd} {ρ : Env} {S : Sto} {σ : L2.St} {H H' : Hp}
theorem Rel.F_none (R : Rel K G w ρ S σ H) {p : Addr} (h : H p = none) : w.F p = none := by
  cases q : w.F p with
  | none => rfl
  | some o =>
    rw [(R.fz p o q).1] at h
    cases h
theorem Rel.G_none (R : Rel K G w ρ S σ H) {p : Addr} (h : H p = none) : G.G p = none := by
  cases q : G.G p with
  | none => rfl
  | some o =>
    rw [(R.gd p o q).1] at h
    cases h
theorem Rel.lab_none (R : Rel K G w ρ S σ H) {p : Addr} (h : H p = none) : w.lab p = none := by
  cases q : w.lab p with
  | none => rfl
  | some o => exact absurd h (R.tr p (by rw [q]; exact fun z => nomatch z))
theorem paired_imp {α β : Type} {F F' : α → β → Prop} (h : ∀ a b, F a b → F' a b) : ∀ {xs : List α} {ys : List β}, Paired F xs ys → Paired F' xs ys
  | _, _, .nil => .nil
  | _, _, .cons r t => .cons (h _ _ r) (paired_imp h t)
/-- the rest of the world as it was: for what bears a mark -/
theorem CellR.imp {l : Nat} {c : Cell} (e : Wle w w') (hl : l < w.n) (hd : w'.dx l = w.dx l) (hf : ∀ f, w'.fa l f = w.fa l f)
    (ho : ∀ a o, w.lab a = some o → o = .cell l ∨ o = .dx l ∨ (∃ f, o = .fld l f) → w'.lab a = some o ∧ H' a = H a) (h : CellR K G w H l c) : CellR K G w' H' l c := by
  cases c with
  | lst xs =>
    obtain ⟨h1, vs, h2, h3, h4⟩ := h
    obtain ⟨e1, e2⟩ := ho _ _ h1 (.inl rfl)
    exact ⟨by rw [e.io l hl]; exact e1, vs, by rw [e.io l hl, e2]; exact h2, h3, h4.mono e⟩
  | ins n fs =>
    obtain ⟨h1, h2, h3, hc, fvs, h4, h5⟩ := h
    obtain ⟨e1, e2⟩ := ho _ _ h1 (.inl rfl)
    obtain ⟨e3, e4⟩ := ho _ _ h2 (.inr (.inl rfl))
    exact ⟨by rw [e.io l hl]; exact e1, by rw [hd]; exact e3, by rw [hd, e.io l hl, e4]; exact h3, hc, fvs, by rw [e.io l hl, hd, e2]; exact h4, paired_imp (fun p q r => ⟨r.1, Rp.mono e r.2⟩) h5⟩
  | dK kvs b =>
    obtain ⟨h1, us, h2, h3⟩ := h
    obtain ⟨e1, e2⟩ := ho _ _ h1 (.inl rfl)
    exact ⟨by rw [e.io l hl]; exact e1, us, by rw [e.io l hl, e2]; exact h2, paired_imp (fun p q r => ⟨r.1, Rp.mono e r.2⟩) h3⟩
  | dT kvs b =>
    obtain ⟨h1, us, h2, h3⟩ := h
    obtain ⟨e1, e2⟩ := ho _ _ h1 (.inl rfl)
    exact ⟨by rw [e.io l hl]; exact e1, us, by rw [e.io l hl, e2]; exact h2, paired_imp (fun p q r => ⟨r.1, Rp.mono e r.2⟩) h3⟩
theorem SlotR.imp {i : Nat} {o : Option (Option V)} {c : C} (e : Wle w w') (ho : ∀ a, w.lab a = some (.slot i) → w'.lab a = some (.slot i) ∧ H' a = H a) (h : SlotR K G w H i o c) : SlotR K G w' H' i o c := by
  cases c with
  | und => exact True.intro
  | lck => exact h
  | val d =>
    obtain ⟨v, h1, h2⟩ := h
    exact ⟨v, h1, h2.mono e⟩
  | ownL xs =>
    obtain ⟨p, vs, h1, h2, h3, h4, h5⟩ := h
    obtain ⟨e1, e2⟩ := ho _ h2
    exact ⟨p, vs, h1, e1, by rw [e2]; exact h3, h4, h5.mono e⟩
theorem Rel.lt (R : Rel K G w ρ S σ H) {l : Nat} {c : Cell} (h : S[l]? = some c) : l < w.n := by
  rw [R.n]
  exact (List.getElem?_eq_some_iff.mp h).1
/-- a new object, tracked; not yet anybody's -/
theorem Rel.raw (R : Rel K G w ρ S σ H) {p : Addr} {o : HO} (hp : H p = none) : Rel K G w ρ S σ (upd H p o) where
  fz := fun a u h => ⟨by rw [upd_ne (ne_of_none (R.fz a u h).1 hp)]; exact (R.fz a u h).1, (R.fz a u h).2⟩
  gd := fun a u h => ⟨by rw [upd_ne (ne_of_none (R.gd a u h).1 hp)]; exact (R.gd a u h).1, (R.gd a u h).2⟩
  tr := fun a h z => by
    by_cases e : a = p
    · rw [e, upd_same] at z
      cases z
    · rw [upd_ne e] at z
      exact R.tr a h z
  len := R.len
  slot := fun i c h => (R.slot i c h).imp (Wle.refl w) fun a ha => ⟨ha, upd_ne fun e => R.tr a (by rw [ha]; exact fun z => nomatch z) (e ▸ hp)⟩
  n := R.n
  cell := fun l c h => (R.cell l c h).imp (Wle.refl w) (R.lt h) rfl (fun _ => rfl) fun a o ha _ => ⟨ha, upd_ne fun e => R.tr a (by rw [ha]; exact fun z => nomatch z) (e ▸ hp)⟩
/-- an address that is nobody's is put to the frozen ones -/
def Wd.put (w : Wd) (p : Addr) (o : HO) : Wd := { w with F := upd w.F p o }
theorem Wle.put {p : Addr} {o : HO} (h : w.F p = none) : Wle w (w.put p o) :=
  ⟨Nat.le_refl _, fun _ _ => rfl, fun a u q => by
    show upd w.F p o a = some u
    rw [upd_ne (ne_of_none q h)]
    exact q⟩
theorem Rel.frozen (R : Rel K G w ρ S σ H) {p : Addr} {o : HO} (hp : H p = some o) (hl : w.lab p = none) (hF : w.F p = none) (hG : G.G p = none) : Rel K G (w.put p o) ρ S σ H where
  fz := fun a u h => by
    have h : upd w.F p o a = some u := h
    by_cases e : a = p
    · subst e
      rw [upd_same] at h
      cases h
      exact ⟨hp, hl⟩
    · rw [upd_ne e] at h
      exact R.fz a u h
  gd := fun a u h => ⟨(R.gd a u h).1, (R.gd a u h).2.1, by
    show upd w.F p o a = none
    rw [upd_ne (ne_of_none h hG)]
    exact (R.gd a u h).2.2⟩
  tr := R.tr
  len := R.len
  slot := fun i c h => (R.slot i c h).imp (Wle.put hF) fun a ha => ⟨ha, rfl⟩
  n := R.n
  cell := fun l c h => (R.cell l c h).imp (Wle.put hF) (R.lt h) rfl (fun _ => rfl) fun a o ha _ => ⟨ha, rfl⟩
theorem Rel.born (R : Rel K G w ρ S σ H) {p : Addr} {o : HO} (hp : H p = none) : Rel K G (w.put p o) ρ S σ (upd H p o) :=
  (R.raw hp).frozen upd_same (R.lab_none hp) (R.F_none hp) (R.G_none hp)
/-- .. is guarded -/
def Gu.put (G : Gu) (p : Addr) (o : HO) : Gu := { G with G := upd G.G p o }
theorem Rel.guard (R : Rel K G w ρ S σ H) {p : Addr} {o : HO} (hp : H p = some o) (hl : w.lab p = none) (hF : w.F p = none) : Rel K (G.put p o) w ρ S σ H :=
  ⟨R.fz, fun a u h => by
    have h : upd G.G p o a = some u := h
    by_cases e : a = p
    · rw [e] at h ⊢
      rw [upd_same] at h
      cases h
      exact ⟨hp, hl, hF⟩
    · rw [upd_ne e] at h
      exact R.gd a u h, R.tr, R.len, R.slot, R.n, R.cell⟩
theorem Rel.unguard {p : Addr} {o : HO} (R : Rel K (G.put p o) w ρ S σ H) (h : G.G p = none) : Rel K G w ρ S σ H :=
  ⟨R.fz, fun a u q => R.gd a u (by
    show upd G.G p o a = some u
    rw [upd_ne (ne_of_none q h)]
    exact q), R.tr, R.len, R.slot, R.n, R.cell⟩
/-- a guarded one that is nobody's is changed -/
theorem Rel.reguard {p : Addr} {o u : HO} (R : Rel K (G.put p o) w ρ S σ H) (hG : G.G p = none) : Rel K (G.put p u) w ρ S σ (upd H p u) := by
  obtain ⟨h1, h2, h3⟩ := R.gd p o upd_same
  have hne : ∀ a ow, w.lab a = some ow → a ≠ p := fun a ow h e => by
    rw [e, h2] at h
    cases h
  refine ⟨fun a v h => ?_, fun a v h => ?_, fun a h z => ?_, R.len, fun i c h => SlotR.imp (G := G.put p u) (Wle.refl w) (fun a ha => ⟨ha, upd_ne (hne _ _ ha)⟩) (R.slot i c h), R.n, fun l c h => CellR.imp (G := G.put p u) (Wle.refl w) (R.lt h) rfl (fun _ => rfl) (fun a o ha _ => ⟨ha, upd_ne (hne _ _ ha)⟩) (R.cell l c h)⟩
  · have e : a ≠ p := ne_of_none h h3
    rw [upd_ne e]
    exact R.fz a v h
  · have h : upd G.G p u a = some v := h
    by_cases e : a = p
    · rw [e] at h ⊢
      rw [upd_same] at h
      cases h
      exact ⟨upd_same, h2, h3⟩
    · rw [upd_ne e] at h
      have := R.gd a v (show upd G.G p o a = some v by rw [upd_ne e]; exact h)
      exact ⟨by rw [upd_ne e]; exact this.1, this.2⟩
  · by_cases e : a = p
    · rw [e, upd_same] at z
      cases z
    · rw [upd_ne e] at z
      exact R.tr a h z
/-- the slots alone change, no own list among the new ones but those that stood -/
theorem Rel.slots {ρ' : Env} {σ' : L2.St} (R : Rel K G w ρ S σ H) (hl : ρ'.length = σ'.length) (h : ∀ i c, ρ'[i]? = some c → SlotR K G w H i σ'[i]? c) : Rel K G w ρ' S σ' H :=
  { R with len := hl, slot := h }
theorem Rel.val {i : Nat} {v : V} {d : D} (R : Rel K G w ρ S σ H) (r : Rp K w v d) : Rel K G w (ρ.set i (.val d)) S (σ.set i (some v)) H :=
  R.slots (by rw [List.length_set, List.length_set, R.len]) fun j c h => by
    by_cases e : i = j
    · subst e
      have hi : i < ρ.length := by
        have := (List.getElem?_eq_some_iff.mp h).1
        rwa [List.length_set] at this
      rw [List.getElem?_set_self hi] at h
      cases h
      rw [List.getElem?_set_self (by rw [← R.len]; exact hi)]
      exact ⟨v, rfl, r⟩
    · rw [List.getElem?_set_ne e] at h
      rw [List.getElem?_set_ne e]
      exact R.slot j c h
/-- a list that is nobody's becomes the slot's own -/
def Wd.mark (w : Wd) (p : Addr) (o : Ow) : Wd := { w with lab := upl w.lab p o }
theorem Wle.mark {p : Addr} {o : Ow} : Wle w (w.mark p o) := ⟨Nat.le_refl _, fun _ _ => rfl, Same.refl _⟩
theorem Rel.marked (R : Rel K G w ρ S σ H) {p : Addr} {o : HO} {ow : Ow} (hp : H p = some o) (hl : w.lab p = none) (hF : w.F p = none) (hG : G.G p = none) : Rel K G (w.mark p ow) ρ S σ H := by
  have hne : ∀ a ow', w.lab a = some ow' → a ≠ p := fun a ow' h e => by
    rw [e, hl] at h
    cases h
  refine ⟨fun a v h => ⟨(R.fz a v h).1, ?_⟩, fun a v h => ⟨(R.gd a v h).1, ?_, (R.gd a v h).2.2⟩, fun a h z => ?_, R.len, fun i c h => (R.slot i c h).imp Wle.mark fun a ha => ⟨?_, rfl⟩, R.n, fun l c h => (R.cell l c h).imp Wle.mark (R.lt h) rfl (fun _ => rfl) fun a o ha _ => ⟨?_, rfl⟩⟩
  · show upl w.lab p ow a = none
    rw [upl_ne (ne_of_none h hF)]
    exact (R.fz a v h).2
  · show upl w.lab p ow a = none
    rw [upl_ne (ne_of_none h hG)]
    exact (R.gd a v h).2.1
  · by_cases e : a = p
    · rw [e, hp] at z
      cases z
    · have h : upl w.lab p ow a ≠ none := h
      rw [upl_ne e] at h
      exact R.tr a h z
  · show upl w.lab p ow a = _
    rw [upl_ne (hne _ _ ha)]
    exact ha
  · show upl w.lab p ow a = _
    rw [upl_ne (hne _ _ ha)]
    exact ha
theorem Rel.own {i : Nat} {p : Addr} {vs : List V} {xs : List D} (R : Rel K G w ρ S σ H) (hp : H p = some (.lst vs)) (hz : vs.length ≤ sizeLine) (r : RpAll K w vs xs) (hl : w.lab p = none) (hF : w.F p = none) (hG : G.G p = none) :
    Rel K G (w.mark p (.slot i)) (ρ.set i (.ownL xs)) S (σ.set i (some (.ref p))) H := by
  have R' := R.marked (ow := .slot i) hp hl hF hG
  refine R'.slots (by rw [List.length_set, List.length_set, R.len]) fun j c h => ?_
  by_cases e : i = j
  · subst e
    have hi : i < ρ.length := by
      have := (List.getElem?_eq_some_iff.mp h).1
      rwa [List.length_set] at this
    rw [List.getElem?_set_self hi] at h
    cases h
    rw [List.getElem?_set_self (by rw [← R.len]; exact hi)]
    exact ⟨p, vs, rfl, upl_same, hp, hz, r.mono Wle.mark⟩
  · rw [List.getElem?_set_ne e] at h
    rw [List.getElem?_set_ne e]
    exact R'.slot j c h
/-- the slot's own list is changed -/
theorem Rel.change {i : Nat} {p : Addr} {vs us : List V} {xs ys : List D} (R : Rel K G w ρ S σ H) (hs : ρ[i]? = some (.ownL xs)) (hσ : σ[i]? = some (some (.ref p))) (hl : w.lab p = some (.slot i)) (hz : us.length ≤ sizeLine) (r : RpAll K w us ys) :
    Rel K G w (ρ.set i (.ownL ys)) S σ (upd H p (.lst us)) := by
  have hne : ∀ a ow', w.lab a = some ow' → ow' ≠ .slot i → a ≠ p := fun a ow' h n e => by
    rw [e, hl] at h
    cases h
    exact n rfl
  have hno : ∀ a, w.lab a = none → a ≠ p := fun a h e => by
    rw [e, hl] at h
    cases h
  refine ⟨fun a v h => ⟨?_, (R.fz a v h).2⟩, fun a v h => ⟨?_, (R.gd a v h).2⟩, fun a h z => ?_, by rw [List.length_set]; exact R.len, fun j c h => ?_, R.n, fun l c h => (R.cell l c h).imp (Wle.refl w) (R.lt h) rfl (fun _ => rfl) fun a o ha ho => ⟨ha, upd_ne (hne _ _ ha ?_)⟩⟩
  · rw [upd_ne (hno a (R.fz a v h).2)]
    exact (R.fz a v h).1
  · rw [upd_ne (hno a (R.gd a v h).2.1)]
    exact (R.gd a v h).1
  · by_cases e : a = p
    · rw [e, upd_same] at z
      cases z
    · rw [upd_ne e] at z
      exact R.tr a h z
  · by_cases e : i = j
    · subst e
      rw [List.getElem?_set_self (List.getElem?_eq_some_iff.mp hs).1] at h
      cases h
      exact ⟨p, us, hσ, hl, upd_same, hz, r⟩
    · rw [List.getElem?_set_ne e] at h
      exact (R.slot j c h).imp (Wle.refl w) fun a ha => ⟨ha, upd_ne (hne _ _ ha fun z => e (by cases z; rfl))⟩
  · rintro rfl
    rcases ho with z | z | ⟨f, z⟩ <;> cases z
/-- the marks but those of the slots -/
def strip : Option Ow → Option Ow
  | some (.slot _) => none
  | o => o
/-- what a callee finds: no slots; what is not frozen and no cell's is guarded -/
def Wd.bare (w : Wd) : Wd := { w with lab := fun a => strip (w.lab a) }
def guardOf (w : Wd) (H : Hp) : Hp := fun a => match w.F a with
  | some _ => none
  | none => match strip (w.lab a) with
    | some _ => none
    | none => H a
theorem guardOf_some {w : Wd} {H : Hp} {a : Addr} {o : HO} (h : guardOf w H a = some o) : H a = some o ∧ strip (w.lab a) = none ∧ w.F a = none := by
  unfold guardOf at h
  cases hF : w.F a with
  | some u =>
    rw [hF] at h
    cases h
  | none =>
    rw [hF] at h
    cases hl : strip (w.lab a) with
    | some u =>
      simp only [hl] at h
      cases h
    | none =>
      simp only [hl] at h
      exact ⟨h, rfl, rfl⟩
theorem guardOf_of {w : Wd} {H : Hp} {a : Addr} {o : HO} (h : H a = some o) (hl : strip (w.lab a) = none) (hF : w.F a = none) : guardOf w H a = some o := by
  unfold guardOf
  rw [hF]
  simp only [hl]
  exact h
theorem strip_cell {o : Option Ow} {x : Ow} (h : o = some x) (n : ∀ i, x ≠ .slot i) : strip o = some x := by
  subst h
  cases x with
  | slot i => exact absurd rfl (n i)
  | _ => rfl
theorem not_slot {o : Ow} {l : Nat} (ho : o = .cell l ∨ o = .dx l ∨ ∃ f, o = .fld l f) : ∀ i, o ≠ .slot i := fun i z => by
  subst z
  rcases ho with z | z | ⟨f, z⟩ <;> cases z
theorem Wle.bare : Wle w w.bare := ⟨Nat.le_refl _, fun _ _ => rfl, Same.refl _⟩
theorem Wle.unbare (h : Wle w.bare w') : Wle w w' := ⟨h.n, h.io, h.F⟩
def Gu.of (G : Gu) (w : Wd) (H : Hp) : Gu := { G with G := guardOf w H }
theorem Rel.callee (R : Rel K G w ρ S σ H) : Rel K (G.of w H) w.bare [] S [] H where
  fz := fun a o h => ⟨(R.fz a o h).1, by
    show strip (w.lab a) = none
    rw [(R.fz a o h).2]
    rfl⟩
  gd := fun a o h => ⟨(guardOf_some h).1, (guardOf_some h).2.1, (guardOf_some h).2.2⟩
  tr := fun a h => R.tr a fun z => h (by
    show strip (w.lab a) = none
    rw [z]
    rfl)
  len := rfl
  slot := fun i c h => by simp at h
  n := R.n
  cell := fun l c h => CellR.imp (G := G) Wle.bare (R.lt h) rfl (fun _ => rfl) (fun a o ha ho => ⟨strip_cell ha (not_slot ho), rfl⟩) (R.cell l c h)
/-- behind the call -/
def Wd.back (w w1 : Wd) : Wd := { w1 with lab := fun a => match w.lab a with
  | some (.slot i) => some (.slot i)
  | _ => strip (w1.lab a) }
theorem back_slot {w w1 : Wd} {a : Addr} {i : Nat} (h : w.lab a = some (.slot i)) : (w.back w1).lab a = some (.slot i) := by
  show (match w.lab a with
    | some (Ow.slot i) => some (Ow.slot i)
    | _ => strip (w1.lab a)) = _
  rw [h]
theorem back_no {w w1 : Wd} {a : Addr} (h : ∀ i, w.lab a ≠ some (.slot i)) : (w.back w1).lab a = strip (w1.lab a) := by
  show (match w.lab a with
    | some (Ow.slot i) => some (Ow.slot i)
    | _ => strip (w1.lab a)) = _
  cases q : w.lab a with
  | none => rfl
  | some o =>
    cases o with
    | slot i => exact absurd q (h i)
    | _ => rfl
theorem Wle.back {w1 : Wd} (h : Wle w.bare w1) : Wle w (w.back w1) := ⟨h.n, h.io, h.F⟩
theorem Wle.back' {w1 : Wd} : Wle w1 (w.back w1) := ⟨Nat.le_refl _, fun _ _ => rfl, Same.refl _⟩
theorem Rel.back {w1 : Wd} {S' : Sto} (R : Rel K G w ρ S σ H) (e : Wle w.bare w1) (R1 : Rel K (G.of w H) w1 [] S' [] H') : Rel K G (w.back w1) ρ S' σ H' := by
  -- what a slot's mark is on stands guarded
  have own : ∀ a i, w.lab a = some (.slot i) → H' a = H a ∧ w1.lab a = none ∧ w1.F a = none := fun a i h => by
    cases q : H a with
    | none => exact absurd q (R.tr a (by rw [h]; exact fun z => nomatch z))
    | some o =>
      have hF : w.F a = none := by
        cases q : w.F a with
        | none => rfl
        | some u =>
          have := (R.fz a u q).2
          rw [h] at this
          cases this
      have := R1.gd a o (guardOf_of q (by rw [h]; rfl) hF)
      exact ⟨this.1, this.2⟩
  refine ⟨fun a o h => ⟨(R1.fz a o h).1, ?_⟩, fun a o h => ?_, fun a h z => ?_, R.len, fun i c h => (R.slot i c h).imp (Wle.back e) fun a ha => ⟨back_slot ha, (own a i ha).1⟩, R1.n, fun l c h => CellR.imp (G := G) Wle.back' (R1.lt h) rfl (fun _ => rfl) (fun a o ha ho => ⟨?_, rfl⟩) (R1.cell l c h)⟩
  · have hn : ∀ i, w.lab a ≠ some (.slot i) := fun i z => by
      have := (own a i z).2.2
      rw [show w1.F a = some o from h] at this
      cases this
    rw [back_no hn, (R1.fz a o h).2]
    rfl
  · obtain ⟨h1, h2, h3⟩ := R.gd a o h
    have := R1.gd a o (guardOf_of h1 (by rw [h2]; rfl) h3)
    refine ⟨this.1, ?_, this.2.2⟩
    have hn : ∀ i, w.lab a ≠ some (.slot i) := fun i z => by
      rw [h2] at z
      cases z
    rw [back_no hn, this.2.1]
    rfl
  · cases q : w.lab a with
    | none =>
      have hn : ∀ i, w.lab a ≠ some (.slot i) := fun i z => by
        rw [q] at z
        cases z
      rw [back_no hn] at h
      exact R1.tr a (fun y => h (by rw [y]; rfl)) z
    | some ow =>
      by_cases hs : ∃ i, ow = Ow.slot i
      · obtain ⟨i, rfl⟩ := hs
        have := (own a i q).1
        rw [z] at this
        exact R.tr a (by rw [q]; exact fun y => nomatch y) this.symm
      · have hn : ∀ i, w.lab a ≠ some (.slot i) := fun i z => by
          rw [q] at z
          cases z
          exact hs ⟨i, rfl⟩
        rw [back_no hn] at h
        exact R1.tr a (fun y => h (by rw [y]; rfl)) z
  · have hn : ∀ i, w.lab a ≠ some (.slot i) := fun i z => by
      have := (own a i z).2.1
      rw [ha] at this
      cases this
    rw [back_no hn]
    exact strip_cell ha (not_slot ho)
end

/-! ### what a run leads to -/
/-- an exception of ours -/
def ExcR (K : PySem.W.Frag) (w : Wd) (cls : Value) (d : Option Addr) (c : Str) (x : Option D) : Prop :=
  cls = .ref (ga K c) ∧ match x with
    | none => d = none
    | some y => ∃ dd v, d = some dd ∧ w.F dd = some (.xd [(Str.ofString "name", v)]) ∧ Rp K w v y
def Post {α : Type} (K : PySem.W.Frag) (G : Gu) (ρ : Env) (σ : L2.St) (Wi : WX) (w : Wd) : Res α → (α → Sto → Wd → Hp → Prop) → Prop
  | .ok a S, k => ∀ w' H', Wle w w' → Rel K G w' ρ S σ H' → k a S w' H'
  | .exc c x S, _ => ∀ w' H' cls d, Wle w w' → Rel K G w' ρ S σ H' → ExcR K w' cls d c x → Wi cls d σ H'
  | .stk, _ => False
section
variable {α β : Type} {G : Gu} {ρ : Env} {σ : L2.St} {Wi : WX} {w w' : Wd}
theorem Post.mono {r : Res α} {k : α → Sto → Wd → Hp → Prop} (e : Wle w w') (h : Post K G ρ σ Wi w r k) : Post K G ρ σ Wi w' r k := by
  cases r with
  | ok a S => exact fun w2 H2 e2 R => h w2 H2 (e.trans e2) R
  | exc c x S => exact fun w2 H2 cls d e2 R x => h w2 H2 cls d (e.trans e2) R x
  | stk => exact h
theorem Post.bind {r : Res α} {f : α → Sto → Res β} {k : β → Sto → Wd → Hp → Prop} (h : Post K G ρ σ Wi w (r.bind f) k) : Post K G ρ σ Wi w r fun a S' w' _ => Post K G ρ σ Wi w' (f a S') k := by
  cases r with
  | ok a S => exact fun w2 H2 e2 R => Post.mono e2 h
  | exc c x S => exact h
  | stk => exact h
theorem Post.imp {r : Res α} {k k' : α → Sto → Wd → Hp → Prop} (h : Post K G ρ σ Wi w r k) (f : ∀ a S w' H', Wle w w' → Rel K G w' ρ S σ H' → k a S w' H' → k' a S w' H') : Post K G ρ σ Wi w r k' := by
  cases r with
  | ok a S => exact fun w2 H2 e2 R => f _ _ _ _ e2 R (h w2 H2 e2 R)
  | exc c x S => exact h
  | stk => exact h
theorem Post.of {S : Sto} {o : Option α} {k : α → Sto → Wd → Hp → Prop} (h : Post K G ρ σ Wi w (Res.of S o) k) : ∃ a, o = some a ∧ ∀ w' H', Wle w w' → Rel K G w' ρ S σ H' → k a S w' H' := by
  cases o with
  | none => exact False.elim h
  | some a => exact ⟨a, rfl, h⟩
end
/-- as a value; as the own list of a slot that is read; as it stands now -/
abbrev RX := Wd → L2.St → Env → Hp → V → D → Prop
def rE (K : PySem.W.Frag) : RX := fun w _ _ _ v d => Rp K w v d
def rB (K : PySem.W.Frag) : RX := fun w σ ρ _ v d => Rp K w v d ∨ ∃ (i : Nat) (xs : List D) (p : Addr), v = .ref p ∧ d = .lst xs ∧ ρ[i]? = some (.ownL xs) ∧ σ[i]? = some (some (.ref p))
def rL (K : PySem.W.Frag) : RX := fun w _ _ H v d => Rp K w v d ∨ ∃ p vs xs, v = .ref p ∧ d = .lst xs ∧ H p = some (.lst vs) ∧ vs.length ≤ sizeLine ∧ RpAll K w vs xs
/-- a new list that is nobody's -/
def rF (K : PySem.W.Frag) (G : Gu) (w : Wd) (H : Hp) (v : V) (d : D) : Prop := ∃ p vs xs, v = .ref p ∧ d = .lst xs ∧ H p = some (.lst vs) ∧ vs.length ≤ sizeLine ∧ RpAll K w vs xs ∧ w.lab p = none ∧ w.F p = none ∧ G.G p = none
def rd (K : PySem.W.Frag) (Ω : Orc) (Wi : WX) (r : RX) (t : Tm) : TE := fun σ H Q => ∃ G w ρ S, Rel K G w ρ S σ H ∧ Post K G ρ σ Wi w (ev Ω ρ t S) fun d S' w' H' => ∀ v, r w' σ ρ H' v d → Q v H'
/-- the result new, if it is a list -/
def rdF (K : PySem.W.Frag) (Ω : Orc) (Wi : WX) (t : Tm) : TE := fun σ H Q => ∃ G w ρ S, Rel K G w ρ S σ H ∧ Post K G ρ σ Wi w (ev Ω ρ t S) fun d S' w' H' => ∀ v, (Rp K w' v d ∧ ∀ xs, d ≠ .lst xs) ∨ rF K G w' H' v d → Q v H'
def rdA (K : PySem.W.Frag) (Ω : Orc) (Wi : WX) (t : Tm) : TA := fun σ H Q => ∃ G w ρ S, Rel K G w ρ S σ H ∧ Post K G ρ σ Wi w (evs Ω ρ t S) fun ds S' w' H' => ∀ vs, RpAll K w' vs ds → Q vs H'
def rdT (K : PySem.W.Frag) (Ω : Orc) (Wi : WX) (t : Tm) : TT := fun σ H Q => ∃ G w ρ S, Rel K G w ρ S σ H ∧ Post K G ρ σ Wi w (ev Ω ρ t S) fun d S' w' H' => ∃ b, tru S' d = some b ∧ Q b H'
def rdO (K : PySem.W.Frag) (Ω : Orc) (Wi : WX) (t : Tm) : TO := fun σ H Q => ∃ G w ρ S, Rel K G w ρ S σ H ∧ Post K G ρ σ Wi w (evO Ω ρ t S) fun o S' w' H' => Q o H'
theorem PE.imp {X : Cx} {e : Expr} {t t' : TE} (h : PE X e t) (f : ∀ σ H Q, t' σ H Q → t σ H Q) : PE X e t' := ⟨fun pins s σ H Q I q => h.run pins s σ H Q I (f σ H Q q)⟩
theorem PT.imp {X : Cx} {e : Expr} {t t' : TT} (h : PT X e t) (f : ∀ σ H Q, t' σ H Q → t σ H Q) : PT X e t' := ⟨fun pins s σ H Q I q => h.run pins s σ H Q I (f σ H Q q)⟩
theorem PW.imp {X : Cx} {e : Expr} {t t' : TT} (h : PW X e t) (f : ∀ σ H Q, t' σ H Q → t σ H Q) : PW X e t' := ⟨fun wh pins s σ H Q I q => h.run wh pins s σ H Q I (f σ H Q q)⟩
theorem PA.imp {X : Cx} {e : List Expr} {t t' : TA} (h : PA X e t) (f : ∀ σ H Q, t' σ H Q → t σ H Q) : PA X e t' := ⟨fun pos pins s σ H Q I q => h.run pos pins s σ H Q I (f σ H Q q)⟩
end TX

set_option maxRecDepth 100000
set_option maxHeartbeats 4000000
/-! TX, part 4: each construct does in the model what the run says. -/
namespace TX
open PySem PySem.Spec PyProof.Rows L2 He

section
variable {K : PySem.W.Frag} {G : Gu} {w : Wd} {ρ : Env} {S : Sto} {σ : L2.St} {H : Hp} {Ω : Orc} {Wi : WX}
/-! ### seen values -/
theorem Rel.same (R : Rel K G w ρ S σ H) : Same w.F H := fun a o h => (R.fz a o h).1
theorem seen_B (R : Rel K G w ρ S σ H) {w0 : Wd} {H0 : Hp} {v : V} {d : D} (e : Wle w0 w) (h : rB K w0 σ ρ H0 v d) : rL K w σ ρ H v d := by
  rcases h with h | ⟨i, xs, p, h1, h2, h3, h4⟩
  · exact .inl (h.mono e)
  · obtain ⟨q, vs, e1, _, e3, e4, e5⟩ := R.slot i _ h3
    rw [h4] at e1
    cases e1
    exact .inr ⟨p, vs, xs, h1, h2, e3, e4, e5⟩
theorem seen_E {w0 : Wd} {v : V} {d : D} (e : Wle w0 w) (h : Rp K w0 v d) : rL K w σ ρ H v d := .inl (h.mono e)
theorem asL_ok (R : Rel K G w ρ S σ H) {v : V} {d : D} {xs : List D} (h : rL K w σ ρ H v d) (e : asL S d = some xs) : ∃ p vs, v = .ref p ∧ H p = some (.lst vs) ∧ vs.length ≤ sizeLine ∧ RpAll K w vs xs := by
  rcases h with h | ⟨p, vs, ys, rfl, rfl, h3, h4, h5⟩
  · cases h with
    | lst h1 h2 h3 =>
      cases e
      exact ⟨_, _, rfl, R.same _ _ h1, h2, h3⟩
    | loc hl =>
      rename_i l
      have e : (match S[l]? with
        | some (.lst xs) => some xs
        | _ => none) = some xs := e
      cases q : S[l]? with
      | none =>
        rw [q] at e
        cases e
      | some c =>
        rw [q] at e
        cases c with
        | lst ys =>
          cases e
          obtain ⟨_, vs, h2, h3, h4⟩ := R.cell l _ q
          exact ⟨_, vs, rfl, h2, h3, h4⟩
        | _ => cases e
    | _ => cases e
  · cases e
    exact ⟨p, vs, rfl, h3, h4, h5⟩
theorem asQ_ok (R : Rel K G w ρ S σ H) {v : V} {d : D} {xs : List D} (h : rL K w σ ρ H v d) (e : asQ S d = some xs) : ∃ p vs, v = .ref p ∧ (SqL K H p vs ∨ SqT K H p vs) ∧ vs.length ≤ sizeLine ∧ RpAll K w vs xs := by
  have go : asL S d = some xs → ∃ p vs, v = .ref p ∧ (SqL K H p vs ∨ SqT K H p vs) ∧ vs.length ≤ sizeLine ∧ RpAll K w vs xs := fun e => by
    obtain ⟨p, vs, h1, h2, h3, h4⟩ := asL_ok R h e
    exact ⟨p, vs, h1, .inl (.inl (.inl h2)), h3, h4⟩
  cases d with
  | tup ys =>
    cases e
    rcases h with h | ⟨_, _, _, _, h2, _⟩
    · cases h with
      | tup h1 h2 h3 => exact ⟨_, _, rfl, .inr (tupT R.same h1), h2, h3⟩
    · cases h2
  | wtp ys =>
    cases e
    rcases h with h | ⟨_, _, _, _, h2, _⟩
    · cases h with
      | wtp h1 h2 h3 => exact ⟨_, _, rfl, .inr (sqT_mono R.same h1), h2, h3⟩
    · cases h2
  | scr ys =>
    cases e
    rcases h with h | ⟨_, _, _, _, h2, _⟩
    · cases h with
      | scr h1 h2 h3 => exact ⟨_, _, rfl, .inl (R.same.seq h1), h2, h3⟩
    · cases h2
  | lst _ => exact go e
  | loc _ => exact go e
  | non => exact go e
  | bl _ => exact go e
  | int _ => exact go e
  | str _ => exact go e
mutual
theorem Rp.dp (R : Same w.F H) : ∀ {v : V} {d : D} {p : PyData}, Rp K w v d → toP d = some p → Dp K H v p
  | _, _, p, .non, h => by
    cases h
    exact .non
  | _, _, p, .bl b, h => by
    cases h
    exact .bl b
  | _, _, p, .int i, h => by
    cases h
    exact .int i
  | _, _, p, .str s _, h => by
    cases h
    exact .str s
  | _, _, p, .lst (ds := ds) h1 _ h3, h => by
    have h : (toPs ds).map PyData.list = some p := h
    cases q : toPs ds with
    | none =>
      rw [q] at h
      cases h
    | some ps =>
      rw [q] at h
      cases h
      exact .lst (.inl (.inl (R _ _ h1))) (RpAll.dp R h3 q)
  | _, _, p, .tup (ds := ds) h1 _ h3, h => by
    have h : (toPs ds).map PyData.tuple = some p := h
    cases q : toPs ds with
    | none =>
      rw [q] at h
      cases h
    | some ps =>
      rw [q] at h
      cases h
      exact .tup (tupT R h1) (RpAll.dp R h3 q)
  | _, _, p, .scr _ _ _, h => by cases h
  | _, _, p, .wtp _ _ _, h => by cases h
  | _, _, p, .loc _, h => by cases h
theorem RpAll.dp (R : Same w.F H) : ∀ {vs : List V} {ds : List D} {ps : List PyData}, RpAll K w vs ds → toPs ds = some ps → DpAll K H vs ps
  | _, _, ps, .nil, h => by
    cases h
    exact .nil
  | _, _, ps, .cons (d := d) (ds := ds) r t, h => by
    have h : ((toP d).bind fun p => (toPs ds).map fun ps => p :: ps) = some ps := h
    cases q : toP d with
    | none =>
      rw [q] at h
      cases h
    | some a =>
      rw [q] at h
      cases q2 : toPs ds with
      | none =>
        rw [Option.bind_some, q2] at h
        cases h
      | some as =>
        rw [Option.bind_some, q2] at h
        cases h
        exact .cons (Rp.dp R r q) (RpAll.dp R t q2)
end
theorem see_dp (R : Rel K G w ρ S σ H) {v : V} {d : D} {p : PyData} (h : rL K w σ ρ H v d) (e : toP (see S d) = some p) : Dp K H v p := by
  unfold see at e
  cases q : asL S d with
  | some xs =>
    simp only [q] at e
    obtain ⟨a, vs, rfl, h2, h3, h4⟩ := asL_ok R h q
    have e : (toPs xs).map PyData.list = some p := e
    cases q2 : toPs xs with
    | none =>
      rw [q2] at e
      cases e
    | some ps =>
      rw [q2] at e
      cases e
      exact .lst (.inl (.inl h2)) (h4.dp R.same q2)
  | none =>
    simp only [q] at e
    rcases h with h | ⟨_, _, _, rfl, rfl, _⟩
    · exact h.dp R.same e
    · cases q
theorem tru_okV (R : Rel K G w ρ S σ H) {v : V} {d : D} {b : Bool} (h : rL K w σ ρ H v d) (e : tru S d = some b) : TruV K v H b := by
  have go : (asQ S d).map (fun xs => !xs.isEmpty) = some b → TruV K v H b := fun e => by
    cases q : asQ S d with
    | none =>
      rw [q] at e
      cases e
    | some xs =>
      rw [q] at e
      cases e
      obtain ⟨p, vs, rfl, h2, h3, h4⟩ := asQ_ok R h q
      have em : xs.isEmpty = vs.isEmpty := by
        cases h4 <;> rfl
      rcases h2 with h2 | h2
      · exact .inl ⟨vs, h2, congrArg not em⟩
      · exact .inr (.inl ⟨vs, h2, congrArg not em⟩)
  have nl : (∀ xs, d ≠ .lst xs) → Rp K w v d := fun n => by
    rcases h with h | ⟨_, _, xs, _, h2, _⟩
    · exact h
    · exact absurd h2 (n xs)
  cases d with
  | non =>
    cases e
    cases nl fun _ z => nomatch z
    rfl
  | bl _ =>
    cases e
    cases nl fun _ z => nomatch z
    rfl
  | int i =>
    cases e
    cases nl fun _ z => nomatch z
    rfl
  | str z =>
    have e : some (z.length != 0) = some b := e
    cases e
    cases nl fun _ z => nomatch z with
    | str _ hz => exact ⟨hz, by
        show (z.length != 0) = ((z.length : Int) != 0)
        cases h : z.length with
        | zero => rfl
        | succ n =>
          have : ((n + 1 : Nat) : Int) ≠ 0 := by omega
          simp [bne, this]
          omega⟩
  | lst _ => exact go e
  | tup _ => exact go e
  | scr _ => exact go e
  | wtp _ => exact go e
  | loc _ => exact go e
end

section
variable {X : Cx} {Ω : Orc} {Wi : WX}
/-! ### constants, names -/
theorem s_cst {e : Expr} {v : V} {d : D} (h : PE X e (tC v)) (r : ∀ w, Rp X.K w v d) : PE X e (rd X.K Ω Wi (rE X.K) (.cst d)) :=
  PE.imp h fun σ H Q ⟨G, w, ρ, S, R, P⟩ => P w H (Wle.refl w) R v (r w)
theorem s_var {e : Expr} {i : Nat} (h : PE X e (tVar i)) : PE X e (rd X.K Ω Wi (rE X.K) (.var i)) :=
  PE.imp h fun σ H Q ⟨G, w, ρ, S, R, P⟩ => by
    have P : Post X.K G ρ σ Wi w (match ρ[i]? with
      | some (.val d) => .ok d S
      | _ => .stk) _ := P
    cases q : ρ[i]? with
    | none =>
      rw [q] at P
      exact P.elim
    | some c =>
      rw [q] at P
      cases c with
      | val d =>
        obtain ⟨v, h1, h2⟩ := R.slot i _ q
        exact ⟨v, h1, P w H (Wle.refl w) R v h2⟩
      | _ => exact P.elim
theorem s_bor {e : Expr} {i : Nat} (h : PE X e (tVar i)) : PE X e (rd X.K Ω Wi (rB X.K) (.bor i)) :=
  PE.imp h fun σ H Q ⟨G, w, ρ, S, R, P⟩ => by
    have P : Post X.K G ρ σ Wi w (match ρ[i]? with
      | some (.val d) => .ok d S
      | some (.ownL xs) => .ok (.lst xs) S
      | _ => .stk) _ := P
    cases q : ρ[i]? with
    | none =>
      rw [q] at P
      exact P.elim
    | some c =>
      rw [q] at P
      cases c with
      | val d =>
        obtain ⟨v, h1, h2⟩ := R.slot i _ q
        exact ⟨v, h1, P w H (Wle.refl w) R v (.inl h2)⟩
      | ownL xs =>
        obtain ⟨p, vs, h1, h2, h3, h4, h5⟩ := R.slot i _ q
        exact ⟨_, h1, P w H (Wle.refl w) R _ (.inr ⟨i, xs, p, rfl, rfl, q, h1⟩)⟩
      | _ => exact P.elim
theorem rB_of {e : Expr} {t : Tm} (h : PE X e (rd X.K Ω Wi (rE X.K) t)) : PE X e (rd X.K Ω Wi (rB X.K) t) :=
  PE.imp h fun σ H Q ⟨G, w, ρ, S, R, P⟩ => ⟨G, w, ρ, S, R, P.imp fun a S' w' H' _ _ k v hv => k v (.inl hv)⟩
theorem rL_of {e : Expr} {t : Tm} (h : PE X e (rd X.K Ω Wi (rB X.K) t)) : PE X e (rd X.K Ω Wi (rL X.K) t) :=
  PE.imp h fun σ H Q ⟨G, w, ρ, S, R, P⟩ => ⟨G, w, ρ, S, R, P.imp fun a S' w' H' _ R' k v hv => k v (seen_B R' (Wle.refl _) hv)⟩
/-- what is new is frozen -/
theorem frz {t : Tm} {σ : L2.St} {H : Hp} {Q : VK} (h : rd X.K Ω Wi (rE X.K) t σ H Q) : rdF X.K Ω Wi t σ H Q := by
  obtain ⟨G, w, ρ, S, R, P⟩ := h
  refine ⟨G, w, ρ, S, R, ?_⟩
  revert P
  cases ev Ω ρ t S with
  | stk => exact fun P => P
  | exc c x S' => exact fun P => P
  | ok d S' =>
    intro P w' H' e' R' v hv
    rcases hv with ⟨hv, _⟩ | ⟨p, vs, xs, rfl, rfl, h3, h4, h5, h6, h7, h8⟩
    · exact P w' H' e' R' v hv
    · exact P (w'.put p (.lst vs)) H' (e'.trans (Wle.put h7)) (R'.frozen h3 h6 h7 h8) (.ref p) (.lst upd_same h4 (h5.mono (Wle.put h7)))
theorem rE_of {e : Expr} {t : Tm} (h : PE X e (rdF X.K Ω Wi t)) : PE X e (rd X.K Ω Wi (rE X.K) t) := PE.imp h fun _ _ _ h => frz h
/-! ### argument lists, displays -/
theorem s_nil : PA X [] (rdA X.K Ω Wi .nil) := PA.imp pa_nil fun σ H Q ⟨G, w, ρ, S, R, P⟩ => P w H (Wle.refl w) R [] .nil
theorem star_plain {e : Expr} {es : List Expr} {env : PySem.Env} (h : plainA e = true) : starEach (e :: es) env = (false, eval e env) :: starEach es env := by
  cases e <;> first | rfl | cases h
theorem s_cons {e : Expr} {es : List Expr} {a r : Tm} (he : PE X e (rd X.K Ω Wi (rE X.K) a)) (hr : PA X es (rdA X.K Ω Wi r)) (hp : plainA e = true) : PA X (e :: es) (rdA X.K Ω Wi (.cons a r)) :=
  PA.imp (pa_cons he hr (star_plain hp)) fun σ H Q ⟨G, w, ρ, S, R, P⟩ => ⟨G, w, ρ, S, R, (Post.bind P).imp fun d S1 w1 H1 e1 R1 P1 v hv =>
    ⟨G, w1, ρ, S1, R1, (Post.bind P1).imp fun ds S2 w2 H2 e2 R2 P2 vs hvs => P2 w2 H2 (Wle.refl _) R2 _ (.cons (hv.mono e2) hvs)⟩⟩
theorem s_tup {es : List Expr} {as : Tm} {n : Nat} {pos : Pos} (h : PA X es (rdA X.K Ω Wi as)) : PE X (.Tuple es n pos) (rd X.K Ω Wi (rE X.K) (.tup as)) :=
  PE.imp (pe_tup h) fun σ H Q ⟨G, w, ρ, S, R, P⟩ => ⟨G, w, ρ, S, R, (Post.bind P).imp fun ds S1 w1 H1 e1 R1 P1 vs hvs => by
    by_cases z : ds.length ≤ sizeLine
    · rw [if_pos z] at P1
      refine ⟨by rw [hvs.length]; exact z, fun p hp => ?_⟩
      exact P1 (w1.put p (.tup vs)) _ (Wle.put (R1.F_none hp)) (R1.born hp) _ (.tup upd_same (by rw [hvs.length]; exact z) (hvs.mono (Wle.put (R1.F_none hp))))
    · rw [if_neg z] at P1
      exact P1.elim⟩
theorem raw_fresh {K : PySem.W.Frag} {G : Gu} {w : Wd} {ρ : Env} {S : Sto} {σ : L2.St} {H : Hp} (R : Rel K G w ρ S σ H) {p : Addr} {vs : List V} {xs : List D} (hp : H p = none) (hz : vs.length ≤ sizeLine) (r : RpAll K w vs xs) : rF K G w (upd H p (.lst vs)) (.ref p) (.lst xs) :=
  ⟨p, vs, xs, rfl, rfl, upd_same, hz, r, R.lab_none hp, R.F_none hp, R.G_none hp⟩
theorem s_lst {es : List Expr} {as : Tm} {pos : Pos} (h : PA X es (rdA X.K Ω Wi as)) : PE X (.List es pos) (rdF X.K Ω Wi (.lst as)) :=
  PE.imp (pe_lst h) fun σ H Q ⟨G, w, ρ, S, R, P⟩ => ⟨G, w, ρ, S, R, (Post.bind P).imp fun ds S1 w1 H1 e1 R1 P1 vs hvs => by
    by_cases z : ds.length ≤ sizeLine
    · rw [if_pos z] at P1
      have z' : vs.length ≤ sizeLine := by
        rw [hvs.length]
        exact z
      exact ⟨z', fun p hp => P1 w1 _ (Wle.refl _) (R1.raw hp) _ (.inr (raw_fresh R1 hp z' hvs))⟩
    · rw [if_neg z] at P1
      exact P1.elim⟩
/-! ### operators -/

theorem s_two {e : Expr} {s t u : Tm} {r : R2} {f : Sto → D → D → Option D} (he : PE X e (tOp r (rd X.K Ω Wi (rB X.K) s) (rd X.K Ω Wi (rL X.K) t)))
    (hu : ∀ (ρ : Env) (S : Sto), ev Ω ρ u S = (ev Ω ρ s S).bind fun x S1 => (ev Ω ρ t S1).bind fun y S2 => Res.of S2 (f S2 x y))
    (ok : ∀ (G : Gu) (w : Wd) (ρ : Env) (S : Sto) (σ : L2.St) (H : Hp) (x y : V) (d d' z : D) (Q : VK), Rel X.K G w ρ S σ H → rL X.K w σ ρ H x d → rL X.K w σ ρ H y d' → f S d d' = some z →
      (∀ w' H', Wle w w' → Rel X.K G w' ρ S σ H' → ∀ v, (Rp X.K w' v z ∧ ∀ xs, z ≠ .lst xs) ∨ rF X.K G w' H' v z → Q v H') → r x y H Q) : PE X e (rdF X.K Ω Wi u) :=
  PE.imp he fun σ H Q ⟨G, w, ρ, S, R, P⟩ => ⟨G, w, ρ, S, R, by
    rw [hu] at P
    exact (Post.bind P).imp fun d S1 w1 H1 e1 R1 P1 x hx => ⟨G, w1, ρ, S1, R1, (Post.bind P1).imp fun d' S2 w2 H2 e2 R2 P2 y hy => by
      obtain ⟨z, hz, k⟩ := Post.of P2
      exact ok G w2 ρ S2 σ H2 x y d d' z Q R2 (seen_B R2 e2 hx) hy hz fun w' H' e' R' v hv => k w' H' e' R' v hv⟩⟩
/-- .. that gives no list -/
theorem rE_of' {e : Expr} {t : Tm} (h : PE X e (rdF X.K Ω Wi t)) : PE X e (rd X.K Ω Wi (rE X.K) t) := rE_of h
/-- the value that is meant: nothing but itself -/
theorem rL_flat {K : PySem.W.Frag} {w : Wd} {ρ : Env} {σ : L2.St} {H : Hp} {v : V} {d : D} (h : rL K w σ ρ H v d) (n : ∀ xs, d ≠ .lst xs) : Rp K w v d := by
  rcases h with h | ⟨_, _, xs, _, h2, _⟩
  · exact h
  · exact absurd h2 (n xs)
theorem rL_int {K : PySem.W.Frag} {w : Wd} {ρ : Env} {σ : L2.St} {H : Hp} {v : V} {i : Int} (h : rL K w σ ρ H v (.int i)) : v = .int i := by
  cases rL_flat h fun _ z => nomatch z
  rfl
theorem rL_str {K : PySem.W.Frag} {w : Wd} {ρ : Env} {σ : L2.St} {H : Hp} {v : V} {i : Str} (h : rL K w σ ρ H v (.str i)) : v = .str i ∧ i.length ≤ sizeLine := by
  cases rL_flat h fun _ z => nomatch z with
  | str _ hz => exact ⟨rfl, hz⟩
theorem rL_bl {K : PySem.W.Frag} {w : Wd} {ρ : Env} {σ : L2.St} {H : Hp} {v : V} {b : Bool} (h : rL K w σ ρ H v (.bl b)) : v = .bl b := by
  cases rL_flat h fun _ z => nomatch z
  rfl
theorem rL_non {K : PySem.W.Frag} {w : Wd} {ρ : Env} {σ : L2.St} {H : Hp} {v : V} (h : rL K w σ ρ H v .non) : v = .non := by
  cases rL_flat h fun _ z => nomatch z
  rfl
theorem rL_tup {K : PySem.W.Frag} {w : Wd} {ρ : Env} {σ : L2.St} {H : Hp} {v : V} {xs : List D} (h : rL K w σ ρ H v (.tup xs)) : ∃ a vs, v = .ref a ∧ w.F a = some (.tup vs) ∧ vs.length ≤ sizeLine ∧ RpAll K w vs xs := by
  cases rL_flat h fun _ z => nomatch z with
  | tup h1 h2 h3 => exact ⟨_, _, rfl, h1, h2, h3⟩
theorem str_cat_len {a b : Str} : (a ++ b).length = a.length + b.length := by
  show (a.cps ++ b.cps).size = a.cps.size + b.cps.size
  exact Array.size_append
theorem s_add {a b : Expr} {s t : Tm} {pos : Pos} (ha : PE X a (rd X.K Ω Wi (rB X.K) s)) (hb : PE X b (rd X.K Ω Wi (rL X.K) t)) : PE X (.BinOp a .Add b pos) (rdF X.K Ω Wi (.bin .add s t)) := by
  refine s_two (pe_op (op_add.or (op_add_str.or (op_catA.or op_cat))) ha hb) (fun _ _ => rfl) fun G w ρ S σ H x y d d' z Q R hx hy hz k => ?_
  have lists : ((asL S d).bind fun a => (asL S d').bind fun b => if a.length + b.length ≤ sizeLine then some (D.lst (a ++ b)) else none) = some z → rCat x y H Q := fun hz => by
    cases q : asL S d with
    | none =>
      rw [q] at hz
      cases hz
    | some xs =>
      rw [q, Option.bind_some] at hz
      cases q2 : asL S d' with
      | none =>
        rw [q2] at hz
        cases hz
      | some ys =>
        rw [q2, Option.bind_some] at hz
        by_cases hl : xs.length + ys.length ≤ sizeLine
        · rw [if_pos hl] at hz
          cases hz
          obtain ⟨p, vs, rfl, h2, h3, h4⟩ := asL_ok R hx q
          obtain ⟨p', us, rfl, g2, g3, g4⟩ := asL_ok R hy q2
          have hl' : vs.length + us.length ≤ sizeLine := by
            rw [h4.length, g4.length]
            exact hl
          exact ⟨p, p', vs, us, rfl, rfl, h2, g2, hl', fun c hc => k w _ (Wle.refl _) (R.raw hc) _ (.inr (raw_fresh R hc (by rw [List.length_append]; exact hl') (h4.append g4)))⟩
        · rw [if_neg hl] at hz
          cases hz
  cases d with
  | int i =>
    cases d' with
    | int j =>
      cases hz
      exact .inl ⟨i, j, rL_int hx, rL_int hy, k w H (Wle.refl _) R _ (.inl ⟨.int _, fun _ z => nomatch z⟩)⟩
    | _ => exact .inr (.inr (.inr (lists hz)))
  | str i =>
    cases d' with
    | str j =>
      have hz : (if i.length + j.length ≤ sizeLine then some (D.str (i ++ j)) else none) = some z := hz
      by_cases hl : i.length + j.length ≤ sizeLine
      · rw [if_pos hl] at hz
        cases hz
        exact .inr (.inl ⟨i, j, (rL_str hx).1, (rL_str hy).1, hl, k w H (Wle.refl _) R _ (.inl ⟨.str _ (by rw [str_cat_len]; exact hl), fun _ z => nomatch z⟩)⟩)
      · rw [if_neg hl] at hz
        cases hz
    | _ => exact .inr (.inr (.inr (lists hz)))
  | tup i =>
    cases d' with
    | tup j =>
      have hz : (if i.length + j.length ≤ sizeLine then some (D.tup (i ++ j)) else none) = some z := hz
      by_cases hl : i.length + j.length ≤ sizeLine
      · rw [if_pos hl] at hz
        cases hz
        obtain ⟨p, vs, rfl, h2, h3, h4⟩ := rL_tup hx
        obtain ⟨p', us, rfl, g2, g3, g4⟩ := rL_tup hy
        have hl' : vs.length + us.length ≤ sizeLine := by
          rw [h4.length, g4.length]
          exact hl
        refine .inr (.inr (.inl ⟨p, p', vs, us, rfl, rfl, tupT R.same h2, tupT R.same g2, hl', fun e => ?_, fun _ e => ?_, fun _ _ c hc => ?_⟩))
        · subst e
          cases h4
          exact k w H (Wle.refl _) R _ (.inl ⟨.tup g2 g3 g4, fun _ z => nomatch z⟩)
        · subst e
          cases g4
          refine k w H (Wle.refl _) R _ (.inl ⟨?_, fun _ z => nomatch z⟩)
          rw [List.append_nil]
          exact .tup h2 h3 h4
        · exact k _ _ (Wle.put (R.F_none hc)) (R.born hc) _ (.inl ⟨.tup upd_same (by rw [List.length_append]; exact hl') ((h4.append g4).mono (Wle.put (R.F_none hc))), fun _ z => nomatch z⟩)
      · rw [if_neg hl] at hz
        cases hz
    | _ => exact .inr (.inr (.inr (lists hz)))
  | non => exact .inr (.inr (.inr (lists hz)))
  | bl _ => exact .inr (.inr (.inr (lists hz)))
  | lst _ => exact .inr (.inr (.inr (lists hz)))
  | loc _ => exact .inr (.inr (.inr (lists hz)))
  | scr _ => exact .inr (.inr (.inr (lists hz)))
  | wtp _ => exact .inr (.inr (.inr (lists hz)))
/-- the other operators: two ints -/
theorem s_int2 {a b : Expr} {s t : Tm} {pos : Pos} {op : Operator} {o : BOp} {Cd : Int → Int → Prop} {g : Int → Int → Int} (ho : OpR X (binaryOp op) (rI Cd fun i j => .int (g i j)))
    (hf : ∀ S x y z, binOp o S x y = some z → ∃ i j, x = .int i ∧ y = .int j ∧ Cd i j ∧ z = .int (g i j))
    (ha : PE X a (rd X.K Ω Wi (rE X.K) s)) (hb : PE X b (rd X.K Ω Wi (rE X.K) t)) : PE X (.BinOp a op b pos) (rd X.K Ω Wi (rE X.K) (.bin o s t)) := by
  refine rE_of (s_two (pe_op ho (rB_of ha) (rL_of (rB_of hb))) (fun _ _ => rfl) fun G w ρ S σ H x y d d' z Q R hx hy hz k => ?_)
  obtain ⟨i, j, rfl, rfl, hc, rfl⟩ := hf _ _ _ _ hz
  exact ⟨i, j, rL_int hx, rL_int hy, hc, k w H (Wle.refl _) R _ (.inl ⟨.int _, fun _ z => nomatch z⟩)⟩
theorem rI_of {f : Value → Value → Sem Value} {g : Int → Int → V} (h : OpR X f (rI0 g)) : OpR X f (rI (fun _ _ => True) g) := fun pins s σ H x y v u Q I rx ry ⟨i, j, e1, e2, _, q⟩ => h pins s σ H x y v u Q I rx ry ⟨i, j, e1, e2, q⟩
theorem mul_text {x : Str} {n : Int} (h0 : 0 ≤ n) (h1 : n < 2 ^ 62) (h2 : x.length * n.toNat ≤ sizeLine) : MulOk x n := by
  refine ⟨?_, fun h3 h4 h5 => ?_, fun h3 h4 => ?_⟩
  · rw [decide_eq_false (by omega), decide_eq_false (by omega)]
    rfl
  · have hs : sizeLine = 16777216 := rfl
    have h6 : ((x.length : Int)) * n ≤ 16777216 := by
      have : (x.length * n.toNat : Nat) ≤ 16777216 := by rw [← hs]; exact h2
      have e : ((x.length * n.toNat : Nat) : Int) = (x.length : Int) * n := by rw [Int.natCast_mul, Int.toNat_of_nonneg h0]
      rw [← e]
      exact Int.ofNat_le.mpr this
    have h7 : (x.length : Int) ≤ (2 ^ 63 - 1) / n := (Int.le_ediv_iff_mul_le (by omega)).mpr (by omega)
    omega
  · show decide (x.length * n.toNat > sizeLine) = false
    exact decide_eq_false (Nat.not_lt.mpr h2)
theorem op_mulS : OpR X (binaryOp .Mult) (fun x y H Q => ∃ s n, x = .str s ∧ y = .int n ∧ MulOk s n ∧ Q (.str (Txt.mul s n)) H) := by
  intro pins s σ H x y v u Q I rx ry h
  obtain ⟨z, n, rfl, rfl, ok, q⟩ := h
  obtain ⟨t, rfl⟩ := rx
  obtain ⟨t', rfl⟩ := ry
  exact SB.mul ok fun t' k => ⟨.str _, H, I.tok _, ⟨_, rfl⟩, q⟩
theorem rep_len {α : Type} (xs : List α) (n : Nat) : (List.replicate n xs).flatten.length = xs.length * n := by
  rw [List.length_flatten, List.map_replicate, List.sum_replicate_nat, Nat.mul_comm]
theorem s_mul {a b : Expr} {s t : Tm} {pos : Pos} (ha : PE X a (rd X.K Ω Wi (rE X.K) s)) (hb : PE X b (rd X.K Ω Wi (rE X.K) t)) : PE X (.BinOp a .Mult b pos) (rd X.K Ω Wi (rE X.K) (.bin .mul s t)) := by
  refine rE_of (s_two (pe_op (op_mul.or (op_mulS.or op_repT)) (rB_of ha) (rL_of (rB_of hb))) (fun _ _ => rfl) fun G w ρ S σ H x y d d' z Q R hx hy hz k => ?_)
  cases d <;> try cases hz
  case int i =>
    cases d' <;> try cases hz
    case int j =>
      have hz : (if (-(2 ^ 64) < i ∧ i < 2 ^ 64) ∨ (-(2 ^ 64) < j ∧ j < 2 ^ 64) then some (D.int (i * j)) else none) = some z := hz
      by_cases c : (-(2 ^ 64) < i ∧ i < 2 ^ 64) ∨ (-(2 ^ 64) < j ∧ j < 2 ^ 64)
      · rw [if_pos c] at hz
        cases hz
        exact .inl ⟨i, j, rL_int hx, rL_int hy, c, k w H (Wle.refl _) R _ (.inl ⟨.int _, fun _ z => nomatch z⟩)⟩
      · rw [if_neg c] at hz
        cases hz
  case str i =>
    cases d' <;> try cases hz
    case int j =>
      have hz : (if 0 ≤ j ∧ j < 2 ^ 62 ∧ i.length * j.toNat ≤ sizeLine ∧ (Txt.mul i j).length ≤ sizeLine then some (D.str (Txt.mul i j)) else none) = some z := hz
      by_cases c : 0 ≤ j ∧ j < 2 ^ 62 ∧ i.length * j.toNat ≤ sizeLine ∧ (Txt.mul i j).length ≤ sizeLine
      · rw [if_pos c] at hz
        cases hz
        exact .inr (.inl ⟨i, j, (rL_str hx).1, rL_int hy, mul_text c.1 c.2.1 c.2.2.1, k w H (Wle.refl _) R _ (.inl ⟨.str _ c.2.2.2, fun _ z => nomatch z⟩)⟩)
      · rw [if_neg c] at hz
        cases hz
  case tup xs =>
    cases d' <;> try cases hz
    case int j =>
      have hz : (if xs.isEmpty = false ∧ 2 ≤ j ∧ j ≤ 1000 ∧ xs.length ≤ 1000 then some (D.tup (List.replicate j.toNat xs).flatten) else none) = some z := hz
      by_cases c : xs.isEmpty = false ∧ 2 ≤ j ∧ j ≤ 1000 ∧ xs.length ≤ 1000
      · rw [if_pos c] at hz
        cases hz
        obtain ⟨p, vs, rfl, h2, h3, h4⟩ := rL_tup hx
        have hv : vs ≠ [] := fun e => by
          subst e
          cases h4
          cases c.1
        refine .inr (.inr ⟨p, j, vs, rfl, rL_int hy, tupT R.same h2, hv, c.2.1, c.2.2.1, by rw [h4.length]; exact c.2.2.2, fun q hq => ?_⟩)
        have hz : (List.replicate j.toNat vs).flatten.length ≤ sizeLine := by
          rw [rep_len, h4.length]
          have := Nat.mul_le_mul c.2.2.2 (show j.toNat ≤ 1000 by omega)
          rw [sizeLine_eq]
          omega
        exact k _ _ (Wle.put (R.F_none hq)) (R.born hq) _ (.inl ⟨.tup upd_same hz ((h4.rep _).mono (Wle.put (R.F_none hq))), fun _ z => nomatch z⟩)
      · rw [if_neg c] at hz
        cases hz
theorem s_bin {a b : Expr} {s t : Tm} {pos : Pos} {op : Operator} {o : BOp} (ho : bopOf op = some o) (hn : o ≠ .add)
    (ha : PE X a (rd X.K Ω Wi (rE X.K) s)) (hb : PE X b (rd X.K Ω Wi (rE X.K) t)) : PE X (.BinOp a op b pos) (rd X.K Ω Wi (rE X.K) (.bin o s t)) := by
  have two : ∀ {S : Sto} {x y z : D} {o : BOp} {Cd : Int → Int → Prop} [∀ i j, Decidable (Cd i j)] {g : Int → Int → Int}, (∀ i j, binOp o S (.int i) (.int j) = if Cd i j then some (.int (g i j)) else none) → (∀ x y, (∀ i j, ¬ (x = .int i ∧ y = .int j)) → o ≠ .add → binOp o S x y = none) → o ≠ .add →
      binOp o S x y = some z → ∃ i j, x = .int i ∧ y = .int j ∧ Cd i j ∧ z = .int (g i j) := fun {S x y z o Cd _ g} h1 h2 hn h => by
    by_cases q : ∃ i j, x = .int i ∧ y = .int j
    · obtain ⟨i, j, rfl, rfl⟩ := q
      rw [h1] at h
      by_cases c : Cd i j
      · rw [if_pos c] at h
        cases h
        exact ⟨i, j, rfl, rfl, c, rfl⟩
      · rw [if_neg c] at h
        cases h
    · rw [h2 x y (fun i j e => q ⟨i, j, e⟩) hn] at h
      cases h
  have no : ∀ {S : Sto} {o : BOp}, o ≠ .mul → ∀ (x y : D), (∀ i j, ¬ (x = .int i ∧ y = .int j)) → o ≠ .add → binOp o S x y = none := fun {S o} hm x y h hn => by
    cases o with
    | add => exact absurd rfl hn
    | mul => exact absurd rfl hm
    | _ => cases x <;> first | rfl | (cases y <;> first | rfl | exact absurd ⟨rfl, rfl⟩ (h _ _))
  cases op with
  | Add =>
    cases ho
    exact absurd rfl hn
  | Sub =>
    cases ho
    exact s_int2 (rI_of op_sub) (fun S x y z h => two (Cd := fun _ _ => True) (fun i j => (if_pos trivial).symm) (no (o := .sub) (fun z => nomatch z)) hn h) ha hb
  | Mult =>
    cases ho
    exact s_mul ha hb
  | FloorDiv =>
    cases ho
    exact s_int2 op_fdiv (fun S x y z h => two (Cd := fun _ j => 0 < j ∧ j < 1073741824) (fun i j => rfl) (no (o := .fdiv) (fun z => nomatch z)) hn h) ha hb
  | Mod =>
    cases ho
    exact s_int2 op_mod (fun S x y z h => two (Cd := fun _ j => 0 < j) (fun i j => rfl) (no (o := .mod) (fun z => nomatch z)) hn h) ha hb
  | BitAnd =>
    cases ho
    exact s_int2 (rI_of op_and) (fun S x y z h => two (Cd := fun _ _ => True) (fun i j => (if_pos trivial).symm) (no (o := .band) (fun z => nomatch z)) hn h) ha hb
  | _ => cases ho
end
end TX

set_option maxRecDepth 100000
set_option maxHeartbeats 4000000
/-! TX, part 5: comparisons, truth, items, slices, built-ins. -/
namespace TX
open PySem PySem.Spec PyProof.Rows L2 He

section
variable {X : Cx} {Ω : Orc} {Wi : WX}
theorem s_neg {a : Expr} {s : Tm} {pos : Pos} (ha : PE X a (rd X.K Ω Wi (rE X.K) s)) : PE X (.UnaryOp .USub a pos) (rd X.K Ω Wi (rE X.K) (.neg s)) :=
  PE.imp (pe_un un_neg ha) fun σ H Q ⟨G, w, ρ, S, R, P⟩ => ⟨G, w, ρ, S, R, (Post.bind P).imp fun d S1 w1 H1 e1 R1 P1 v hv => by
    cases d with
    | int i =>
      cases hv
      exact ⟨i, rfl, P1 w1 H1 (Wle.refl _) R1 _ (.int _)⟩
    | _ => exact P1.elim⟩
theorem s_rep {es : List Expr} {b : Expr} {as t : Tm} {p1 pos : Pos} (ha : PA X es (rdA X.K Ω Wi as)) (hb : PE X b (rd X.K Ω Wi (rE X.K) t)) : PE X (.BinOp (.List es p1) .Mult b pos) (rdF X.K Ω Wi (.rep as t)) :=
  PE.imp (pe_op op_rep (pe_lst ha) hb) fun σ H Q ⟨G, w, ρ, S, R, P⟩ => ⟨G, w, ρ, S, R, (Post.bind P).imp fun ds S1 w1 H1 e1 R1 P1 vs hvs => by
    by_cases z : ds.length ≤ sizeLine
    · rw [if_pos z] at P1
      have z' : vs.length ≤ sizeLine := by
        rw [hvs.length]
        exact z
      refine ⟨z', fun p hp => ?_⟩
      have R2 := (R1.raw (o := .lst vs) hp).guard upd_same (R1.lab_none hp) (R1.F_none hp)
      refine ⟨G.put p (.lst vs), w1, ρ, S1, R2, ?_⟩
      revert P1
      cases ev Ω ρ t S1 with
      | stk => exact fun P1 => P1
      | exc c x S2 => exact fun P1 w2 H2 cls d e2 R3 ex => P1 w2 H2 cls d e2 (R3.unguard (R1.G_none hp)) ex
      | ok d S2 =>
        intro P1 w2 H2 e2 R3 v hv
        cases d with
        | int n =>
          cases hv
          have P1 : Post X.K G ρ σ Wi w1 (if -(2 ^ 63) ≤ n ∧ n < 2 ^ 63 ∧ ds.length * n.toNat ≤ sizeLine then Res.ok (D.lst (List.replicate n.toNat ds).flatten) S2 else .stk) _ := P1
          by_cases c : -(2 ^ 63) ≤ n ∧ n < 2 ^ 63 ∧ ds.length * n.toNat ≤ sizeLine
          · rw [if_pos c] at P1
            have hl : vs.length * n.toNat ≤ sizeLine := by
              rw [hvs.length]
              exact c.2.2
            have R4 := R3.unguard (R1.G_none hp)
            have hh := (R3.gd p (.lst vs) upd_same).1
            refine ⟨p, n, vs, rfl, rfl, hh, c.1, c.2.1, hl, fun q hq => ?_⟩
            have hrl : (List.replicate n.toNat vs).flatten.length ≤ sizeLine := by
              rw [List.length_flatten, List.map_replicate, List.sum_replicate_nat, Nat.mul_comm]
              exact hl
            exact P1 w2 _ e2 (R4.raw hq) _ (.inr (raw_fresh R4 hq hrl ((hvs.mono e2).rep _)))
          · rw [if_neg c] at P1
            exact P1.elim
        | _ => exact P1.elim
    · rw [if_neg z] at P1
      exact P1.elim⟩
/-! ### comparisons -/
/-- alike data, less -/
def rLtD (K : PySem.W.Frag) (sw : Bool) : R2 := fun x y H Q => ∃ p q, Dp K H x p ∧ Dp K H y q ∧ PySem.W.alike p q = true ∧ p ≠ .none ∧ p.depth ≤ 60 ∧ Q (.bl (if sw then PySem.W.dataLt q p else PySem.W.dataLt p q)) H
theorem op_ltD (hu : X.A.units + 65 < cLine) : OpR X (compareOp .Lt) (rLtD X.K false) := by
  intro pins s σ H x y v u Q I rx ry ⟨p, q, dx, dy, al, nn, dep, z⟩
  obtain ⟨as, ra⟩ := Dp.reads I p x v dx rx
  obtain ⟨bs, rb⟩ := Dp.reads I q y u dy ry
  exact PySem.W.lt_data ra rb al nn (by omega) ⟨.bl _, H, I, rfl, z⟩
theorem op_gtD (hu : X.A.units + 65 < cLine) : OpR X (compareOp .Gt) (rLtD X.K true) := by
  intro pins s σ H x y v u Q I rx ry ⟨p, q, dx, dy, al, nn, dep, z⟩
  obtain ⟨as, ra⟩ := Dp.reads I p x v dx rx
  obtain ⟨bs, rb⟩ := Dp.reads I q y u dy ry
  exact PySem.W.gt_data ra rb al nn (by omega) ⟨.bl _, H, I, rfl, z⟩
def rInTD (K : PySem.W.Frag) (neg : Bool) : R2 := fun x y H Q => ∃ d ds, Dp K H x d ∧ Dp K H y (.tuple ds) ∧ SeqAt.shaped d = true ∧ SeqAt.shaped (.tuple ds) = true ∧ Q (.bl (if neg then !(ds.any fun z => PyData.eqv z d) else ds.any fun z => PyData.eqv z d)) H
theorem op_inTD (hu : X.A.units + 65 < cLine) : OpR X (compareOp .In) (rInTD X.K false) := by
  intro pins s σ H x y v u Q I rx ry h
  obtain ⟨d, ds, hd, he, sd, se, q⟩ := h
  obtain ⟨as, r1⟩ := Dp.reads I d x v hd rx
  obtain ⟨bs, r2⟩ := Dp.reads I (.tuple ds) y u he ry
  exact SeqAt.in_tuple_reads r2 r1 (SeqAt.canLay_of_shaped se) (SeqAt.canLay_of_shaped sd) (room_in_shaped sd hu) ⟨.bl _, H, I, rfl, q⟩
theorem op_notInTD (hu : X.A.units + 65 < cLine) : OpR X (compareOp .NotIn) (rInTD X.K true) := by
  intro pins s σ H x y v u Q I rx ry h
  obtain ⟨d, ds, hd, he, sd, se, q⟩ := h
  obtain ⟨as, r1⟩ := Dp.reads I d x v hd rx
  obtain ⟨bs, r2⟩ := Dp.reads I (.tuple ds) y u he ry
  exact SeqAt.notIn_tuple_reads r2 r1 (SeqAt.canLay_of_shaped se) (SeqAt.canLay_of_shaped sd) (room_in_shaped sd hu) ⟨.bl _, H, I, rfl, q⟩
def rInDc (neg : Bool) : R2 := fun x y H Q => ∃ a o, y = .ref a ∧ DGet H a x o ∧ Q (.bl (if neg then !o.isSome else o.isSome)) H
theorem op_inDc (hu : X.A.units + 65 < cLine) : OpR X (compareOp .In) (rInDc false) := by
  intro pins s σ H x y v u Q I rx ry ⟨a, o, ey, g, q⟩
  subst ey
  cases ry
  exact d_in (by omega) I g rx fun s' I' => ⟨.bl _, H, I', rfl, q⟩
theorem op_notInDc (hu : X.A.units + 65 < cLine) : OpR X (compareOp .NotIn) (rInDc true) := by
  intro pins s σ H x y v u Q I rx ry ⟨a, o, ey, g, q⟩
  subst ey
  cases ry
  exact d_notIn (by omega) I g rx fun s' I' => ⟨.bl _, H, I', rfl, q⟩
/-- by its operator: what is asked of the two values -/
def rOf (K : PySem.W.Frag) : COp → R2
  | .lt => fun x y H Q => (rI0 (fun i j => V.bl (decide (i < j))) x y H Q) ∨ (∃ i j, x = .str i ∧ y = .str j ∧ Q (.bl (decide (i.cps.toList < j.cps.toList))) H) ∨ rLtD K false x y H Q
  | .le => fun x y H Q => (rI0 (fun i j => V.bl (decide (i ≤ j))) x y H Q) ∨ ∃ i j : Str, x = .str i ∧ y = .str j ∧ Q (.bl (strLe i j)) H
  | .gt => fun x y H Q => rI0 (fun i j => .bl (decide (j < i))) x y H Q ∨ rLtD K true x y H Q
  | .ge => rI0 fun i j => .bl (decide (j ≤ i))
  | .eq => fun x y H Q => rEq x y H Q ∨ rEqD K x y H Q
  | .ne => fun x y H Q => rNe x y H Q ∨ rNeD K x y H Q
  | .is => fun x y H Q => (y = .non ∧ Q (.bl (decide (x = .non))) H) ∨ rIsB x y H Q
  | .isn => fun x y H Q => (y = .non ∧ Q (.bl (!decide (x = .non))) H) ∨ rNotB x y H Q
  | .inn => fun x y H Q => (∃ (c : Nat) (z : Str), x = .str ⟨#[c]⟩ ∧ y = .str z ∧ Q (.bl (decide (c ∈ z.cps.toList))) H) ∨ rIn K false x y H Q ∨ rInD K x y H Q ∨ rInTD K false x y H Q ∨ rInDc false x y H Q
  | .nin => fun x y H Q => (∃ (c : Nat) (z : Str), x = .str ⟨#[c]⟩ ∧ y = .str z ∧ Q (.bl (!decide (c ∈ z.cps.toList))) H) ∨ rIn K true x y H Q ∨ rNotInD K x y H Q ∨ rInTD K true x y H Q ∨ rInDc true x y H Q
theorem op_of (hu : X.A.units + 65 < cLine) {op : CmpOp} {o : COp} (h : copOf op = some o) : OpR X (compareOp op) (rOf X.K o) := by
  cases op <;> cases h
  · exact op_eq.or (op_eqD (Nat.lt_of_succ_lt hu))
  · exact op_ne.or (op_neD (Nat.lt_of_succ_lt hu))
  · exact op_lt.or (op_lt_str.or (op_ltD hu))
  · refine op_le.or (fun pins s σ H x y v u Q I rx ry q => op_le_str pins s σ H x y v u Q I rx ry ?_)
    exact q
  · exact op_gt.or (op_gtD hu)
  · exact op_ge
  · exact op_isN.or op_isBl
  · exact op_notN.or op_notBl
  · exact op_in_sign.or (op_in_seq.or ((op_inD hu).or ((op_inTD hu).or (op_inDc hu))))
  · exact op_notIn_sign.or (op_notIn_seq.or ((op_notInD hu).or ((op_notInTD hu).or (op_notInDc hu))))
end
section
variable {K : PySem.W.Frag} {G : Gu} {w : Wd} {ρ : Env} {S : Sto} {σ : L2.St} {H : Hp}
theorem flat_V {v : V} {d : D} (h : rL K w σ ρ H v d) (f : flat d = true) : flatV v = true ∧ Rp K w v d := by
  have n : ∀ xs, d ≠ .lst xs := fun xs z => by
    subst z
    cases f
  have r := rL_flat h n
  refine ⟨?_, r⟩
  cases r <;> first | rfl | cases f
theorem flat_eq {v u : V} {d e : D} (h : Rp K w v d) (k : Rp K w u e) (f : flat d = true) (g : flat e = true) : ∃ p q, toP d = some p ∧ toP e = some q ∧ eqV v u = PyData.eqv p q := by
  cases h <;> first | (cases f; done) | (cases k <;> first | (cases g; done) | exact ⟨_, _, rfl, rfl, by first | rfl | simp [eqV, PyData.eqv]⟩)
theorem flat_all {vs : List V} {ds : List D} (r : RpAll K w vs ds) (f : ds.all flat = true) {v : V} {d : D} (h : Rp K w v d) (g : flat d = true) :
    vs.all flatV = true ∧ inV v vs = ds.any fun z => match toP z, toP d with
      | some p, some q => PyData.eqv p q
      | _, _ => false := by
  induction ds generalizing vs with
  | nil =>
    cases r
    exact ⟨rfl, rfl⟩
  | cons e ds ih =>
    cases r with
    | cons r1 r2 =>
      rename_i u us
      have f : (flat e && ds.all flat) = true := f
      obtain ⟨f1, f2⟩ := Bool.and_eq_true_iff.mp f
      obtain ⟨i1, i2⟩ := ih r2 f2
      obtain ⟨p, q, e1, e2, e3⟩ := flat_eq r1 h f1 g
      obtain ⟨fv, _⟩ := flat_V (ρ := []) (σ := []) (H := fun _ => none) (.inl r1) f1
      refine ⟨by
        rw [List.all_cons, fv, i1]
        rfl, ?_⟩
      unfold inV at i2 ⊢
      rw [List.any_cons, List.any_cons, i2, e3]
      simp only [e1, e2]
theorem eq_ok (R : Rel K G w ρ S σ H) {x y : V} {d d' : D} {b : Bool} (hx : rL K w σ ρ H x d) (hy : rL K w σ ρ H y d') (e : eqT S d d' = some b) :
    ∃ p q, Dp K H x p ∧ Dp K H y q ∧ SeqAt.shaped p = true ∧ SeqAt.shaped q = true ∧ b = PyData.eqv p q := by
  unfold eqT at e
  cases q1 : toP (see S d) with
  | none =>
    rw [q1] at e
    cases e
  | some p =>
    rw [q1, Option.bind_some] at e
    cases q2 : toP (see S d') with
    | none =>
      rw [q2] at e
      cases e
    | some q =>
      rw [q2, Option.bind_some] at e
      by_cases c : (SeqAt.shaped p && SeqAt.shaped q) = true
      · rw [if_pos c] at e
        cases e
        obtain ⟨c1, c2⟩ := Bool.and_eq_true_iff.mp c
        exact ⟨p, q, see_dp R hx q1, see_dp R hy q2, c1, c2, rfl⟩
      · rw [if_neg c] at e
        cases e
theorem eqD_ok (R : Rel K G w ρ S σ H) {x y : V} {d d' : D} {b : Bool} (hx : rL K w σ ρ H x d) (hy : rL K w σ ρ H y d') (e : eqD S d d' = some b) :
    (∃ a c : Str, x = .str a ∧ y = .str c ∧ b = decide (a = c)) ∨ ∃ p q, Dp K H x p ∧ Dp K H y q ∧ SeqAt.shaped p = true ∧ SeqAt.shaped q = true ∧ b = PyData.eqv p q := by
  unfold eqD at e
  split at e
  · cases e
    exact .inl ⟨_, _, (rL_str hx).1, (rL_str hy).1, rfl⟩
  · exact .inr (eq_ok R hx hy e)
theorem dec_strV {a c : Str} : decide (V.str a = V.str c) = decide (a = c) := by
  by_cases h : a = c
  · rw [decide_eq_true h, decide_eq_true (congrArg V.str h)]
  · rw [decide_eq_false h, decide_eq_false fun z => h (V.str.inj z)]
/-! ### dicts -/
theorem keyV {v : V} {d : D} {k : L2.Key} (h : Rp K w v d) (e : kOf d = some k) : v = kV k := by
  cases h <;> cases e <;> rfl
theorem keysV {vs : List V} : ∀ {ds : List D} {ks : List L2.Key}, RpAll K w vs ds → ksOf ds = some ks → vs = ks.map kV := fun {ds} => by
  induction ds generalizing vs with
  | nil =>
    intro ks h e
    cases e
    cases h
    rfl
  | cons d ds ih =>
    intro ks h e
    have e : ((kOf d).bind fun k => (ksOf ds).map fun ks => k :: ks) = some ks := e
    rw [Option.bind_eq_some_iff] at e
    obtain ⟨k, e1, e2⟩ := e
    rw [Option.map_eq_some_iff] at e2
    obtain ⟨ks', e2, rfl⟩ := e2
    cases h with
    | cons r t =>
      rw [keyV r e1, ih t e2]
      rfl
theorem kvs_val {κ : Type} [DecidableEq κ] {k : κ} : ∀ {kvs : List (κ × D)} {us : List (κ × V)}, KvsR K w kvs us → (valV us k = none ↔ valD kvs k = none) ∧ ∀ d, valD kvs k = some d → ∃ v, valV us k = some v ∧ Rp K w v d
  | _, _, .nil => ⟨⟨fun _ => rfl, fun _ => rfl⟩, fun d e => by cases e⟩
  | _, _, .cons (a := p) (b := q) (l₁ := kvs) (l₂ := us) r t => by
    obtain ⟨k1, d1⟩ := p
    obtain ⟨k2, v2⟩ := q
    obtain ⟨r1, r2⟩ := r
    have r1 : k1 = k2 := r1
    subst r1
    obtain ⟨i1, i2⟩ := kvs_val (k := k) t
    by_cases c : k1 = k
    · have e1 : valV ((k1, v2) :: us) k = some v2 := L2.valV_pos c
      have e2 : valD ((k1, d1) :: kvs) k = some d1 := by simp [valD, List.find?_cons, c]
      rw [e1, e2]
      refine ⟨⟨(fun z => by cases z), (fun z => by cases z)⟩, fun d e => ?_⟩
      cases e
      exact ⟨v2, rfl, r2⟩
    · have e1 : valV ((k1, v2) :: us) k = valV us k := L2.valV_neg c
      have e2 : valD ((k1, d1) :: kvs) k = valD kvs k := by simp [valD, List.find?_cons, c]
      rw [e1, e2]
      exact ⟨i1, i2⟩
/-- what a dict has at a key -/
theorem dget_ok (R : Rel K G w ρ S σ H) {x y : V} {o d : D} {r : Option D} (hx : Rp K w x o) (hy : Rp K w y d) (e : dGet S o d = some r) : ∃ a z, x = .ref a ∧ DGet H a y z ∧ (r = none ↔ z = none) ∧ ∀ d', r = some d' → ∃ v, z = some v ∧ Rp K w v d' := by
  cases hx <;> try (cases e; done)
  rename_i l hl
  have e : (match S[l]? with
    | some (.dK kvs _) => (kOf d).map fun k => valD kvs k
    | some (.dT kvs _) => (tkOf d).map fun k => valD kvs k
    | _ => none) = some r := e
  cases q : S[l]? with
  | none =>
    rw [q] at e
    cases e
  | some c =>
    rw [q] at e
    cases c with
    | dK kvs b =>
      have e : (kOf d).map (fun k => valD kvs k) = some r := e
      rw [Option.map_eq_some_iff] at e
      obtain ⟨k, e1, e2⟩ := e
      obtain ⟨_, us, h2, h3⟩ := R.cell l _ q
      rw [keyV hy e1]
      obtain ⟨i1, i2⟩ := kvs_val (k := k) h3
      have hr : Rd H (w.io l) (.dK us) := by
        cases b with
        | false => exact .inl h2
        | true => exact .inr ⟨_, h2⟩
      refine ⟨_, valV us k, rfl, .inl ⟨us, k, hr, rfl, rfl⟩, ?_, fun d' e3 => i2 d' (e2.trans e3)⟩
      rw [← e2]
      exact i1.symm
    | dT kvs b =>
      have e : (tkOf d).map (fun k => valD kvs k) = some r := e
      rw [Option.map_eq_some_iff] at e
      obtain ⟨k, e1, e2⟩ := e
      obtain ⟨_, us, h2, h3⟩ := R.cell l _ q
      cases hy with
      | @tup a vs ds g1 g2 g3 =>
        have e1 : ksOf ds = some k := e1
        have ev := keysV g3 e1
        subst ev
        obtain ⟨i1, i2⟩ := kvs_val (k := k) h3
        have hr : Rd H (w.io l) (.dT us) := by
          cases b with
          | false => exact .inl h2
          | true => exact .inr ⟨_, h2⟩
        refine ⟨_, valV us k, rfl, .inr ⟨us, k, a, hr, rfl, R.same _ _ g1, rfl⟩, ?_, fun d' e3 => i2 d' (e2.trans e3)⟩
        rw [← e2]
        exact i1.symm
      | _ => cases e1
    | _ => cases e
theorem in_ok (R : Rel K G w ρ S σ H) {x y : V} {d d' : D} {b : Bool} (hx : rL K w σ ρ H x d) (hy : rL K w σ ρ H y d') (e : inD S d d' = some b) (Q : VK) (neg : Bool) (q : Q (.bl (if neg then !b else b)) H) :
    (∃ (c : Nat) (z : Str), x = .str ⟨#[c]⟩ ∧ y = .str z ∧ Q (.bl (if neg then !decide (c ∈ z.cps.toList) else decide (c ∈ z.cps.toList))) H) ∨ rIn K neg x y H Q ∨ (if neg then rNotInD K else rInD K) x y H Q ∨ rInTD K neg x y H Q ∨ rInDc neg x y H Q := by
  have lists : (asL S d').bind (fun ys => (toP d).bind fun p => (toPs ys).bind fun ps => if SeqAt.shaped p && SeqAt.shaped (.list ps) then some (ps.any fun z => PyData.eqv z p) else none) = some b → (if neg then rNotInD K else rInD K) x y H Q ∨ rInTD K neg x y H Q ∨ rInDc neg x y H Q := fun e => by
    refine .inl ?_
    cases q1 : asL S d' with
    | none =>
      rw [q1] at e
      cases e
    | some ys =>
      rw [q1, Option.bind_some] at e
      cases q2 : toP d with
      | none =>
        rw [q2] at e
        cases e
      | some p =>
        rw [q2, Option.bind_some] at e
        cases q3 : toPs ys with
        | none =>
          rw [q3] at e
          cases e
        | some ps =>
          rw [q3, Option.bind_some] at e
          by_cases c : (SeqAt.shaped p && SeqAt.shaped (.list ps)) = true
          · rw [if_pos c] at e
            cases e
            obtain ⟨c1, c2⟩ := Bool.and_eq_true_iff.mp c
            obtain ⟨a, vs, rfl, h2, h3, h4⟩ := asL_ok R hy q1
            have dy : Dp K H (.ref a) (.list ps) := .lst (.inl (.inl h2)) (h4.dp R.same q3)
            have dx : Dp K H x p := by
              rcases hx with hx | ⟨a', vs', xs', rfl, rfl, g1, g2, g3⟩
              · exact hx.dp R.same q2
              · have q2 : (toPs xs').map PyData.list = some p := q2
                cases q4 : toPs xs' with
                | none =>
                  rw [q4] at q2
                  cases q2
                | some as =>
                  rw [q4] at q2
                  cases q2
                  exact .lst (.inl (.inl g1)) (g3.dp R.same q4)
            cases neg with
            | true => exact ⟨p, ps, dx, dy, c1, c2, q⟩
            | false => exact ⟨p, ps, dx, dy, c1, c2, q⟩
          · rw [if_neg c] at e
            cases e
  cases d' with
  | str z =>
    cases d with
    | str c =>
      have e : (if c.cps.size = 1 then some (decide (c.cps.getD 0 0 ∈ z.cps.toList)) else none) = some b := e
      by_cases hc : c.cps.size = 1
      · rw [if_pos hc] at e
        cases e
        refine .inl ⟨c.cps.getD 0 0, z, ?_, (rL_str hy).1, q⟩
        rw [(rL_str hx).1]
        obtain ⟨⟨l⟩⟩ := c
        cases l with
        | nil => cases hc
        | cons a r =>
          cases r with
          | nil => rfl
          | cons b r =>
            have hc : (a :: b :: r).length = 1 := hc
            rw [List.length_cons, List.length_cons] at hc
            omega
      · rw [if_neg hc] at e
        cases e
    | _ => cases e
  | tup ys =>
    have e : (if (flat d && ys.all flat) = true then some (ys.any fun z => match toP z, toP d with
      | some p, some q => PyData.eqv p q
      | _, _ => false) else (toP d).bind fun p => (toPs ys).bind fun ps => if SeqAt.shaped p && SeqAt.shaped (.tuple ps) then some (ps.any fun z => PyData.eqv z p) else none) = some b := e
    by_cases c : (flat d && ys.all flat) = true
    · rw [if_pos c] at e
      cases e
      obtain ⟨c1, c2⟩ := Bool.and_eq_true_iff.mp c
      obtain ⟨a, vs, rfl, h2, h3, h4⟩ := rL_tup hy
      obtain ⟨fx, rx⟩ := flat_V hx c1
      obtain ⟨f1, f2⟩ := flat_all h4 c2 rx c1
      refine .inr (.inl ⟨a, vs, rfl, .inr (tupT R.same h2), fx, f1, ?_⟩)
      rw [f2]
      exact q
    · rw [if_neg c, Option.bind_eq_some_iff] at e
      obtain ⟨p, e1, e⟩ := e
      rw [Option.bind_eq_some_iff] at e
      obtain ⟨ps, e2, e⟩ := e
      by_cases c : (SeqAt.shaped p && SeqAt.shaped (.tuple ps)) = true
      · rw [if_pos c] at e
        cases e
        obtain ⟨c1, c2⟩ := Bool.and_eq_true_iff.mp c
        obtain ⟨a, vs, rfl, h2, h3, h4⟩ := rL_tup hy
        have dy : Dp K H (.ref a) (.tuple ps) := .tup (tupT R.same h2) (h4.dp R.same e2)
        have dx : Dp K H x p := by
          rcases hx with hx | ⟨a', vs', xs', rfl, rfl, g1, g2, g3⟩
          · exact hx.dp R.same e1
          · have e1 : (toPs xs').map PyData.list = some p := e1
            rw [Option.map_eq_some_iff] at e1
            obtain ⟨as, e3, rfl⟩ := e1
            exact .lst (.inl (.inl g1)) (g3.dp R.same e3)
        exact .inr (.inr (.inr (.inl ⟨p, ps, dx, dy, c1, c2, q⟩)))
      · rw [if_neg c] at e
        cases e
  | wtp ys =>
    have e : (if (flat d && ys.all flat) = true then some (ys.any fun z => match toP z, toP d with
      | some p, some q => PyData.eqv p q
      | _, _ => false) else none) = some b := e
    by_cases c : (flat d && ys.all flat) = true
    · rw [if_pos c] at e
      cases e
      obtain ⟨c1, c2⟩ := Bool.and_eq_true_iff.mp c
      cases rL_flat hy fun _ z => nomatch z with
      | wtp h2 h3 h4 =>
        obtain ⟨fx, rx⟩ := flat_V hx c1
        obtain ⟨f1, f2⟩ := flat_all h4 c2 rx c1
        refine .inr (.inl ⟨_, _, rfl, .inr (sqT_mono R.same h2), fx, f1, ?_⟩)
        rw [f2]
        exact q
    · rw [if_neg c] at e
      cases e
  | loc l =>
    have e : (match S[l]? with
      | some (.lst _) => inL S d (.loc l)
      | _ => (dGet S (.loc l) d).map Option.isSome) = some b := e
    have dct : (dGet S (.loc l) d).map Option.isSome = some b → rInDc neg x y H Q := fun e => by
      rw [Option.map_eq_some_iff] at e
      obtain ⟨r, e1, e2⟩ := e
      have nl : ∀ xs, d ≠ .lst xs := fun xs z => by
        subst z
        have e1 : (match S[l]? with
          | some (.dK kvs _) => (kOf (.lst xs)).map fun k => valD kvs k
          | some (.dT kvs _) => (tkOf (.lst xs)).map fun k => valD kvs k
          | _ => none) = some r := e1
        split at e1 <;> cases e1
      obtain ⟨a, z, rfl, h1, h2, h3⟩ := dget_ok R (rL_flat hy fun _ z => nomatch z) (rL_flat hx nl) e1
      refine ⟨a, z, rfl, h1, ?_⟩
      have ez : z.isSome = b := by
        rw [← e2]
        cases r with
        | none =>
          rw [h2.mp rfl]
          rfl
        | some d' =>
          obtain ⟨v, hv, _⟩ := h3 d' rfl
          rw [hv]
          rfl
      rw [ez]
      exact q
    split at e
    · exact .inr (.inr (lists e))
    · exact .inr (.inr (.inr (.inr (dct e))))
  | non => exact .inr (.inr (lists e))
  | bl _ => exact .inr (.inr (lists e))
  | int _ => exact .inr (.inr (lists e))
  | lst _ => exact .inr (.inr (lists e))
  | scr _ => exact .inr (.inr (lists e))
/-- alike data -/
theorem lt_ok (R : Rel K G w ρ S σ H) {x y : V} {d d' : List D} {b : Bool} (hx : rL K w σ ρ H x (.tup d)) (hy : rL K w σ ρ H y (.tup d')) :
    (ltT (.tup d) (.tup d') = some b → ∀ Q : VK, Q (.bl b) H → rLtD K false x y H Q) ∧ (ltT (.tup d') (.tup d) = some b → ∀ Q : VK, Q (.bl b) H → rLtD K true x y H Q) := by
  have hx := rL_flat hx fun _ z => nomatch z
  have hy := rL_flat hy fun _ z => nomatch z
  have go : ∀ {e e' : D}, ltT e e' = some b → ∃ p q, toP e = some p ∧ toP e' = some q ∧ PySem.W.alike p q = true ∧ PySem.W.alike q p = true ∧ p.depth ≤ 60 ∧ q.depth ≤ 60 ∧ b = PySem.W.dataLt p q := fun {e e'} h => by
    have h : ((toP e).bind fun p => (toP e').bind fun q => if PySem.W.alike p q && PySem.W.alike q p && decide (p.depth ≤ 60) && decide (q.depth ≤ 60) then some (PySem.W.dataLt p q) else none) = some b := h
    rw [Option.bind_eq_some_iff] at h
    obtain ⟨p, e1, h⟩ := h
    rw [Option.bind_eq_some_iff] at h
    obtain ⟨q, e2, h⟩ := h
    by_cases c : (PySem.W.alike p q && PySem.W.alike q p && decide (p.depth ≤ 60) && decide (q.depth ≤ 60)) = true
    · rw [if_pos c] at h
      cases h
      rw [Bool.and_eq_true, Bool.and_eq_true, Bool.and_eq_true, decide_eq_true_eq, decide_eq_true_eq] at c
      exact ⟨p, q, e1, e2, c.1.1.1, c.1.1.2, c.1.2, c.2, rfl⟩
    · rw [if_neg c] at h
      cases h
  have tup : ∀ {ds : List D} {p : PyData}, toP (.tup ds) = some p → p ≠ .none := fun {ds p} h z => by
    subst z
    have h : (toPs ds).map PyData.tuple = some .none := h
    rw [Option.map_eq_some_iff] at h
    obtain ⟨_, _, z⟩ := h
    cases z
  refine ⟨fun h Q q => ?_, fun h Q q => ?_⟩
  · obtain ⟨p, r, e1, e2, a1, a2, d1, d2, rfl⟩ := go h
    exact ⟨p, r, hx.dp R.same e1, hy.dp R.same e2, a1, tup e1, d1, q⟩
  · obtain ⟨p, r, e1, e2, a1, a2, d1, d2, rfl⟩ := go h
    exact ⟨r, p, hx.dp R.same e2, hy.dp R.same e1, a2, tup e2, d2, q⟩
theorem cmp_ok (R : Rel K G w ρ S σ H) {x y : V} {d d' : D} {b : Bool} {o : COp} (hx : rL K w σ ρ H x d) (hy : rL K w σ ρ H y d') (e : cmpOp o S d d' = some b) (Q : VK) (q : Q (.bl b) H) : rOf K o x y H Q := by
  have isn : ∀ {x : V} {d : D}, rL K w σ ρ H x d → (∀ z, d = .non → z ≠ x) → d ≠ .non → decide (x = .non) = false := fun {x d} hx _ hn => by
    refine decide_eq_false fun z => ?_
    subst z
    rcases hx with hx | ⟨_, _, _, h1, _⟩
    · cases hx
      exact hn rfl
    · cases h1
  cases o with
  | eq =>
    rcases eqD_ok R hx hy e with ⟨a, c, rfl, rfl, rfl⟩ | ⟨p, r, h1, h2, h3, h4, rfl⟩
    · exact .inl ⟨rfl, by rw [dec_strV]; exact q⟩
    · exact .inr ⟨p, r, h1, h2, h3, h4, q⟩
  | ne =>
    have e : (eqD S d d').map not = some b := e
    cases q1 : eqD S d d' with
    | none =>
      rw [q1] at e
      cases e
    | some c =>
      rw [q1] at e
      cases e
      rcases eqD_ok R hx hy q1 with ⟨a, d, rfl, rfl, rfl⟩ | ⟨p, r, h1, h2, h3, h4, rfl⟩
      · exact .inl ⟨rfl, by rw [dec_strV]; exact q⟩
      · exact .inr ⟨p, r, h1, h2, h3, h4, q⟩
  | inn => exact in_ok R hx hy e Q false q
  | nin =>
    have e : (inD S d d').map not = some b := e
    cases q1 : inD S d d' with
    | none =>
      rw [q1] at e
      cases e
    | some c =>
      rw [q1] at e
      cases e
      exact in_ok R hx hy q1 Q true q
  | is =>
    cases d' with
    | non =>
      cases rL_non hy
      refine .inl ⟨rfl, ?_⟩
      cases d with
      | non =>
        cases rL_non hx
        cases e
        exact q
      | _ =>
        cases e
        rw [isn hx (fun _ z => nomatch z) (fun z => nomatch z)]
        exact q
    | bl c =>
      cases d with
      | bl a =>
        cases e
        exact .inr ⟨a, c, rL_bl hx, rL_bl hy, q⟩
      | _ => cases e
    | _ => cases d <;> cases e
  | isn =>
    cases d' with
    | non =>
      cases rL_non hy
      refine .inl ⟨rfl, ?_⟩
      cases d with
      | non =>
        cases rL_non hx
        cases e
        exact q
      | _ =>
        cases e
        rw [isn hx (fun _ z => nomatch z) (fun z => nomatch z)]
        exact q
    | bl c =>
      cases d with
      | bl a =>
        cases e
        exact .inr ⟨a, c, rL_bl hx, rL_bl hy, q⟩
      | _ => cases e
    | _ => cases d <;> cases e
  | lt =>
    cases d with
    | int i =>
      cases d' with
      | int j =>
        cases e
        exact .inl ⟨i, j, rL_int hx, rL_int hy, q⟩
      | _ => cases e
    | str i =>
      cases d' with
      | str j =>
        cases e
        exact .inr (.inl ⟨i, j, (rL_str hx).1, (rL_str hy).1, q⟩)
      | _ => cases e
    | tup i =>
      cases d' with
      | tup j => exact .inr (.inr ((lt_ok R hx hy).1 e Q q))
      | _ => cases e
    | _ => cases d' <;> cases e
  | le =>
    cases d with
    | int i =>
      cases d' with
      | int j =>
        cases e
        exact .inl ⟨i, j, rL_int hx, rL_int hy, q⟩
      | _ => cases e
    | str i =>
      cases d' with
      | str j =>
        cases e
        exact .inr ⟨i, j, (rL_str hx).1, (rL_str hy).1, q⟩
      | _ => cases e
    | _ => cases d' <;> cases e
  | gt =>
    cases d with
    | int i =>
      cases d' with
      | int j =>
        cases e
        exact .inl ⟨i, j, rL_int hx, rL_int hy, q⟩
      | _ => cases e
    | tup i =>
      cases d' with
      | tup j => exact .inr ((lt_ok R hx hy).2 e Q q)
      | _ => cases e
    | _ => cases d' <;> cases e
  | ge =>
    cases d with
    | int i =>
      cases d' with
      | int j =>
        cases e
        exact ⟨i, j, rL_int hx, rL_int hy, q⟩
      | _ => cases e
    | _ => cases d' <;> cases e
end
section
variable {X : Cx} {Ω : Orc} {Wi : WX}
/-- one comparison: from what is wanted of its truth -/
theorem cmp_imp {s t : Tm} {o : COp} {σ : L2.St} {H : Hp} {k : D → Sto → Wd → Hp → Prop} {Q : VK} (hk : ∀ (b : Bool) (S : Sto) (w : Wd) (H : Hp), k (.bl b) S w H → Q (.bl b) H)
    (h : ∃ G w ρ S, Rel X.K G w ρ S σ H ∧ Post X.K G ρ σ Wi w (ev Ω ρ (.cmp o s t) S) k) : tOp (rOf X.K o) (rd X.K Ω Wi (rB X.K) s) (rd X.K Ω Wi (rL X.K) t) σ H Q := by
  obtain ⟨G, w, ρ, S, R, P⟩ := h
  refine ⟨G, w, ρ, S, R, (Post.bind P).imp fun d S1 w1 H1 e1 R1 P1 x hx => ⟨G, w1, ρ, S1, R1, (Post.bind P1).imp fun d' S2 w2 H2 e2 R2 P2 y hy => ?_⟩⟩
  obtain ⟨z, hz, kk⟩ := Post.of P2
  cases q : cmpOp o S2 d d' with
  | none =>
    rw [q] at hz
    cases hz
  | some b =>
    rw [q] at hz
    cases hz
    exact cmp_ok R2 (seen_B R2 e2 hx) hy q Q (hk b S2 w2 H2 (kk w2 H2 (Wle.refl _) R2))
theorem s_cmp (hu : X.A.units + 65 < cLine) {a b : Expr} {s t : Tm} {pos : Pos} {op : CmpOp} {o : COp} (ho : copOf op = some o) (hm : behindInMarks op b = false) (ha : PE X a (rd X.K Ω Wi (rB X.K) s)) (hb : PE X b (rd X.K Ω Wi (rL X.K) t)) :
    PE X (.Compare a [op] [b] pos) (rd X.K Ω Wi (rE X.K) (.cmp o s t)) :=
  PE.imp (pe_cmpR (op_of hu ho) ha hb hm) fun σ H Q ⟨G, w, ρ, S, R, P⟩ => cmp_imp (k := fun d S' w' H' => ∀ v, rE X.K w' σ ρ H' v d → Q v H') (fun b S w H k => k _ (.bl b)) ⟨G, w, ρ, S, R, P⟩
theorem t_cmp (hu : X.A.units + 65 < cLine) {a b : Expr} {s t : Tm} {pos : Pos} {op : CmpOp} {o : COp} (ho : copOf op = some o) (hm : behindInMarks op b = false) (ha : PE X a (rd X.K Ω Wi (rB X.K) s)) (hb : PE X b (rd X.K Ω Wi (rL X.K) t)) :
    PT X (.Compare a [op] [b] pos) (rdT X.K Ω Wi (.cmp o s t)) :=
  PT.imp (pt_cmpR (op_of hu ho) ha hb hm) fun σ H Q h => cmp_imp (fun b S w H ⟨c, e, q⟩ => by
    cases e
    exact ⟨b, rfl, q⟩) h
theorem chn_imp {s t u : Tm} {o o' : COp} {σ : L2.St} {H : Hp} {k : D → Sto → Wd → Hp → Prop} {Q : VK} (hk : ∀ (b : Bool) (S : Sto) (w : Wd) (H : Hp), k (.bl b) S w H → Q (.bl b) H)
    (h : ∃ G w ρ S, Rel X.K G w ρ S σ H ∧ Post X.K G ρ σ Wi w (ev Ω ρ (.chn o o' s t u) S) k) : tChain (rOf X.K o) (rOf X.K o') (rd X.K Ω Wi (rE X.K) s) (rd X.K Ω Wi (rE X.K) t) (rd X.K Ω Wi (rE X.K) u) σ H Q := by
  obtain ⟨G, w, ρ, S, R, P⟩ := h
  refine ⟨G, w, ρ, S, R, (Post.bind P).imp fun d S1 w1 H1 e1 R1 P1 x hx => ⟨G, w1, ρ, S1, R1, (Post.bind P1).imp fun d' S2 w2 H2 e2 R2 P2 y hy => ?_⟩⟩
  cases q : cmpOp o S2 d d' with
  | none =>
    simp only [q] at P2
    exact P2.elim
  | some b =>
    refine cmp_ok R2 (seen_E e2 hx) (.inl hy) q _ ⟨b, rfl, ?_⟩
    cases b with
    | false =>
      rw [if_neg Bool.false_ne_true]
      simp only [q] at P2
      exact hk false S2 w2 H2 (P2 w2 H2 (Wle.refl _) R2)
    | true =>
      rw [if_pos rfl]
      simp only [q] at P2
      refine ⟨G, w2, ρ, S2, R2, (Post.bind P2).imp fun d3 S3 w3 H3 e3 R3 P3 z hz => ?_⟩
      obtain ⟨r, hr, kk⟩ := Post.of P3
      cases q2 : cmpOp o' S3 d' d3 with
      | none =>
        rw [q2] at hr
        cases hr
      | some b =>
        rw [q2] at hr
        cases hr
        exact cmp_ok R3 (seen_E e3 hy) (.inl hz) q2 Q (hk b S3 w3 H3 (kk w3 H3 (Wle.refl _) R3))
theorem s_chn (hu : X.A.units + 65 < cLine) {a b c : Expr} {s t u : Tm} {pos : Pos} {op op' : CmpOp} {o o' : COp} (ho : copOf op = some o) (ho' : copOf op' = some o') (hm : lastMarks [op, op'] [b, c] = false)
    (ha : PE X a (rd X.K Ω Wi (rE X.K) s)) (hb : PE X b (rd X.K Ω Wi (rE X.K) t)) (hc : PE X c (rd X.K Ω Wi (rE X.K) u)) : PE X (.Compare a [op, op'] [b, c] pos) (rd X.K Ω Wi (rE X.K) (.chn o o' s t u)) :=
  PE.imp (pe_chain (op_of hu ho) (op_of hu ho') ha hb hc hm) fun σ H Q ⟨G, w, ρ, S, R, P⟩ => chn_imp (k := fun d S' w' H' => ∀ v, rE X.K w' σ ρ H' v d → Q v H') (fun b S w H k => k _ (.bl b)) ⟨G, w, ρ, S, R, P⟩
theorem t_chn (hu : X.A.units + 65 < cLine) {a b c : Expr} {s t u : Tm} {pos : Pos} {op op' : CmpOp} {o o' : COp} (ho : copOf op = some o) (ho' : copOf op' = some o') (hm : lastMarks [op, op'] [b, c] = false)
    (ha : PE X a (rd X.K Ω Wi (rE X.K) s)) (hb : PE X b (rd X.K Ω Wi (rE X.K) t)) (hc : PE X c (rd X.K Ω Wi (rE X.K) u)) : PT X (.Compare a [op, op'] [b, c] pos) (rdT X.K Ω Wi (.chn o o' s t u)) :=
  PT.imp (pt_chain (op_of hu ho) (op_of hu ho') ha hb hc hm) fun σ H Q h => chn_imp (fun b S w H ⟨c, e, q⟩ => by
    cases e
    exact ⟨b, rfl, q⟩) h
/-! ### truth -/
theorem t_plain {a : Expr} {s : Tm} (ha : PE X a (rd X.K Ω Wi (rL X.K) s)) (hp : plainT a = true) : PT X a (rdT X.K Ω Wi s) :=
  PT.imp (pt_truth ha (fun whole => by cases a <;> first | rfl | cases hp)) fun σ H Q ⟨G, w, ρ, S, R, P⟩ => ⟨G, w, ρ, S, R, P.imp fun d S1 w1 H1 e1 R1 ⟨b, hb, q⟩ v hv => ⟨b, tru_okV R1 hv hb, q⟩⟩
theorem t_not {a : Expr} {s : Tm} {pos : Pos} (ha : PT X a (rdT X.K Ω Wi s)) : PT X (.UnaryOp .Not a pos) (rdT X.K Ω Wi (.not s)) :=
  PT.imp (pt_not ha) fun σ H Q ⟨G, w, ρ, S, R, P⟩ => ⟨G, w, ρ, S, R, (Post.bind P).imp fun d S1 w1 H1 e1 R1 P1 => by
    obtain ⟨z, hz, k⟩ := Post.of P1
    cases q : tru S1 d with
    | none =>
      rw [q] at hz
      cases hz
    | some b =>
      rw [q] at hz
      cases hz
      obtain ⟨c, hc, qq⟩ := k w1 H1 (Wle.refl _) R1
      cases hc
      exact ⟨b, rfl, qq⟩⟩
theorem s_not {a : Expr} {s : Tm} {pos : Pos} (ha : PE X a (rd X.K Ω Wi (rL X.K) s)) : PE X (.UnaryOp .Not a pos) (rd X.K Ω Wi (rE X.K) (.not s)) :=
  PE.imp (pe_notT ha) fun σ H Q ⟨G, w, ρ, S, R, P⟩ => ⟨G, w, ρ, S, R, (Post.bind P).imp fun d S1 w1 H1 e1 R1 P1 v hv => by
    obtain ⟨z, hz, k⟩ := Post.of P1
    cases q : tru S1 d with
    | none =>
      rw [q] at hz
      cases hz
    | some b =>
      rw [q] at hz
      cases hz
      exact ⟨b, tru_okV R1 hv q, k w1 H1 (Wle.refl _) R1 _ (.bl _)⟩⟩
theorem s_ite {c a b : Expr} {s t u : Tm} {pos : Pos} (hc : PT X c (rdT X.K Ω Wi s)) (ha : PE X a (rd X.K Ω Wi (rE X.K) t)) (hb : PE X b (rd X.K Ω Wi (rE X.K) u)) : PE X (.IfExp c a b pos) (rd X.K Ω Wi (rE X.K) (.ite s t u)) :=
  PE.imp (pe_ifExp hc ha hb) fun σ H Q ⟨G, w, ρ, S, R, P⟩ => ⟨G, w, ρ, S, R, (Post.bind P).imp fun d S1 w1 H1 e1 R1 P1 => by
    cases q : tru S1 d with
    | none =>
      simp only [q] at P1
      exact P1.elim
    | some k =>
      refine ⟨k, rfl, ?_⟩
      simp only [q] at P1
      cases k with
      | true => exact ⟨G, w1, ρ, S1, R1, P1⟩
      | false => exact ⟨G, w1, ρ, S1, R1, P1⟩⟩
theorem s_and {a b : Expr} {rest : List Expr} {s t : Tm} {pos : Pos} (ha : PE X a (rd X.K Ω Wi (rE X.K) s)) (hb : PE X (.BoolOp .And (b :: rest) pos) (rd X.K Ω Wi (rE X.K) t)) : PE X (.BoolOp .And (a :: b :: rest) pos) (rd X.K Ω Wi (rE X.K) (.and s t)) :=
  PE.imp (pe_andT ha hb) fun σ H Q ⟨G, w, ρ, S, R, P⟩ => ⟨G, w, ρ, S, R, (Post.bind P).imp fun d S1 w1 H1 e1 R1 P1 v hv => by
    cases q : tru S1 d with
    | none =>
      simp only [q] at P1
      exact P1.elim
    | some k =>
      refine ⟨k, tru_okV (ρ := ρ) (σ := σ) R1 (.inl hv) q, ?_⟩
      simp only [q] at P1
      cases k with
      | true => exact ⟨G, w1, ρ, S1, R1, P1⟩
      | false => exact P1 w1 H1 (Wle.refl _) R1 v hv⟩
theorem s_or {a b : Expr} {rest : List Expr} {s t : Tm} {pos : Pos} (ha : PE X a (rd X.K Ω Wi (rE X.K) s)) (hb : PE X (.BoolOp .Or (b :: rest) pos) (rd X.K Ω Wi (rE X.K) t)) : PE X (.BoolOp .Or (a :: b :: rest) pos) (rd X.K Ω Wi (rE X.K) (.or s t)) :=
  PE.imp (pe_orT ha hb) fun σ H Q ⟨G, w, ρ, S, R, P⟩ => ⟨G, w, ρ, S, R, (Post.bind P).imp fun d S1 w1 H1 e1 R1 P1 v hv => by
    cases q : tru S1 d with
    | none =>
      simp only [q] at P1
      exact P1.elim
    | some k =>
      refine ⟨k, tru_okV (ρ := ρ) (σ := σ) R1 (.inl hv) q, ?_⟩
      simp only [q] at P1
      cases k with
      | false => exact ⟨G, w1, ρ, S1, R1, P1⟩
      | true => exact P1 w1 H1 (Wle.refl _) R1 v hv⟩
theorem t_and {a b : Expr} {rest : List Expr} {s t : Tm} {pos : Pos} (ha : PT X a (rdT X.K Ω Wi s)) (hb : PW X (.BoolOp .And (b :: rest) pos) (rdT X.K Ω Wi t)) : PW X (.BoolOp .And (a :: b :: rest) pos) (rdT X.K Ω Wi (.and s t)) :=
  PW.imp (pw_and ha hb) fun σ H Q ⟨G, w, ρ, S, R, P⟩ => ⟨G, w, ρ, S, R, (Post.bind P).imp fun d S1 w1 H1 e1 R1 P1 => by
    cases q : tru S1 d with
    | none =>
      simp only [q] at P1
      exact P1.elim
    | some k =>
      refine ⟨k, rfl, ?_⟩
      simp only [q] at P1
      cases k with
      | true => exact ⟨G, w1, ρ, S1, R1, P1⟩
      | false =>
        obtain ⟨c, hc, qq⟩ := P1 w1 H1 (Wle.refl _) R1
        rw [q] at hc
        cases hc
        exact qq⟩
theorem t_or {a b : Expr} {rest : List Expr} {s t : Tm} {pos : Pos} (ha : PT X a (rdT X.K Ω Wi s)) (hb : PW X (.BoolOp .Or (b :: rest) pos) (rdT X.K Ω Wi t)) : PW X (.BoolOp .Or (a :: b :: rest) pos) (rdT X.K Ω Wi (.or s t)) :=
  PW.imp (pw_or ha hb) fun σ H Q ⟨G, w, ρ, S, R, P⟩ => ⟨G, w, ρ, S, R, (Post.bind P).imp fun d S1 w1 H1 e1 R1 P1 => by
    cases q : tru S1 d with
    | none =>
      simp only [q] at P1
      exact P1.elim
    | some k =>
      refine ⟨k, rfl, ?_⟩
      simp only [q] at P1
      cases k with
      | false => exact ⟨G, w1, ρ, S1, R1, P1⟩
      | true =>
        obtain ⟨c, hc, qq⟩ := P1 w1 H1 (Wle.refl _) R1
        rw [q] at hc
        cases hc
        exact qq⟩
/-! ### items, slices -/
theorem atI_rp {K : PySem.W.Frag} {w : Wd} {vs : List V} {xs : List D} (r : RpAll K w vs xs) {k : Int} {d : D} (h : atI xs k = some d) : ∃ v, atI vs k = some v ∧ Rp K w v d := by
  unfold atI at h ⊢
  rw [r.length]
  cases q : ixN xs.length k with
  | none =>
    rw [q] at h
    cases h
  | some j =>
    rw [q] at h
    exact r.get h
/-- d[k], there -/
def rDGet : R2 := fun x y H Q => ∃ a v, x = .ref a ∧ DGet H a y (some v) ∧ Q v H
theorem ix_dict (hu : X.A.units + 65 < cLine) : IxR X rDGet := by
  intro value slice pins s σ H x y v u Q I rx ry ⟨a, z, ex, g, q⟩ hs
  subst ex
  cases rx
  have hT : s.TypeIs (.ref a) "dict" := dict_typeIs I g
  unfold subscriptTail
  refine wpAny_bind ?_
  rw [getitemInPython_of_ne hT.not_modules]
  refine wpAny_bind (wpAny_specialOf hT PySem.F.slot_dict_getitem.lookup ?_)
  have fin : wpAny (model X.prog X.w) X.A (subscripted slice false (.ref a) u) (fun r s₃ => wpAny (model X.prog X.w) X.A (letTemporaryGo value (.ref a) r >>= fun _ => pure r) (EP X pins σ Q) X.xe s₃) X.xe s := by
    rw [hs]
    exact wpAny_operating (wpAny_mono (d_getItem (Q := EP X pins σ Q) (E := X.xe) (by omega) I g ry fun w' s' I' rw' => ⟨z, H, I', rw', q⟩) (fun r s₃ h₃ => wpAny_bind (wpAny_letTemporaryGo (wpAny_pure h₃))) fun _ _ x => x)
  first
    | exact wpAny_pure (wpAny_bind fin)
    | exact wpAny_bind fin
theorem ix_ok {K : PySem.W.Frag} {G : Gu} {w : Wd} {ρ : Env} {S : Sto} {σ : L2.St} {H : Hp} (R : Rel K G w ρ S σ H) {x y : V} {d d' z : D} (hx : rL K w σ ρ H x d) (hy : rL K w σ ρ H y d') (e : ixD S d d' = some z) (Q : VK) (q : ∀ v, Rp K w v z → Q v H) : rIx K x y H Q ∨ rDGet x y H Q := by
  have dct : (∀ xs, d ≠ .lst xs) → (∀ xs, d' ≠ .lst xs) → (dGet S d d').bind id = some z → rDGet x y H Q := fun n n' e => by
    rw [Option.bind_eq_some_iff] at e
    obtain ⟨r, e1, e2⟩ := e
    have e2 : r = some z := e2
    obtain ⟨a, u, rfl, h1, h2, h3⟩ := dget_ok R (rL_flat hx n) (rL_flat hy n') e1
    obtain ⟨v, rfl, rv⟩ := h3 z e2
    exact ⟨a, v, rfl, h1, q v rv⟩
  cases d' with
  | int k =>
    have seqs : (asQ S d).bind (fun xs => atI xs k) = some z → rIx K x y H Q := fun e => by
      cases q1 : asQ S d with
      | none =>
        rw [q1] at e
        cases e
      | some xs =>
        rw [q1, Option.bind_some] at e
        obtain ⟨p, vs, rfl, h2, h3, h4⟩ := asQ_ok R hx q1
        obtain ⟨v, hv, rv⟩ := atI_rp h4 e
        rcases h2 with h2 | h2
        · exact .inl ⟨p, vs, k, v, rfl, rL_int hy, h2, hv, q v rv⟩
        · exact .inr (.inl ⟨p, vs, k, v, rfl, rL_int hy, h2, hv, q v rv⟩)
    cases d with
    | str s =>
      have e : (atI s.cps.toList k).map (fun c => D.str ⟨#[c]⟩) = some z := e
      cases q1 : atI s.cps.toList k with
      | none =>
        rw [q1] at e
        cases e
      | some c =>
        rw [q1] at e
        cases e
        exact .inl (.inr (.inr ⟨s, k, c, (rL_str hx).1, rL_int hy, (rL_str hx).2, q1, q _ (.str _ (by
          show 1 ≤ sizeLine
          decide))⟩))
    | loc l =>
      have e : (if isDct S (.loc l) then (dGet S (.loc l) (.int k)).bind id else (asQ S (.loc l)).bind fun xs => L2.atI xs k) = some z := e
      by_cases c : isDct S (.loc l) = true
      · rw [if_pos c] at e
        exact .inr (dct (fun _ z => nomatch z) (fun _ z => nomatch z) e)
      · rw [if_neg c] at e
        exact .inl (seqs e)
    | non => exact .inl (seqs e)
    | bl _ => exact .inl (seqs e)
    | int _ => exact .inl (seqs e)
    | tup _ => exact .inl (seqs e)
    | lst _ => exact .inl (seqs e)
    | scr _ => exact .inl (seqs e)
    | wtp _ => exact .inl (seqs e)
  | lst ys =>
    exfalso
    have e : (dGet S d (.lst ys)).bind id = some z := e
    cases d with
    | loc l0 =>
      have e : ((match S[l0]? with
        | some (Cell.dK kvs _) => (kOf (.lst ys)).map fun k => valD kvs k
        | some (Cell.dT kvs _) => (tkOf (.lst ys)).map fun k => valD kvs k
        | _ => none).bind id) = some z := e
      split at e <;> cases e
    | _ => cases e
  | _ =>
    refine .inr (dct (fun xs z => ?_) (fun _ z => nomatch z) e)
    subst z
    cases e
theorem s_ix (hu : X.A.units + 65 < cLine) {a b : Expr} {s t : Tm} {pos : Pos} (ha : PE X a (rd X.K Ω Wi (rB X.K) s)) (hb : PE X b (rd X.K Ω Wi (rE X.K) t)) (hp : plainIx b = true) : PE X (.Subscript a b pos) (rd X.K Ω Wi (rE X.K) (.ix s t)) :=
  PE.imp (pe_ix (ix_seq.or (ix_dict hu)) ha hb (fun o i => by cases b <;> first | rfl | cases hp)) fun σ H Q ⟨G, w, ρ, S, R, P⟩ => ⟨G, w, ρ, S, R, (Post.bind P).imp fun d S1 w1 H1 e1 R1 P1 x hx => ⟨G, w1, ρ, S1, R1, (Post.bind P1).imp fun d' S2 w2 H2 e2 R2 P2 y hy => by
    obtain ⟨z, hz, k⟩ := Post.of P2
    exact ix_ok R2 (seen_B R2 e2 hx) (.inl hy) hz Q fun v hv => k w2 H2 (Wle.refl _) R2 v hv⟩⟩
theorem o_none : PO X none (rdO X.K Ω Wi .nil) := ⟨fun pins s σ H Q I ⟨G, w, ρ, S, R, P⟩ => po_none.run pins s σ H Q I (P w H (Wle.refl _) R)⟩
theorem o_some {e : Expr} {t : Tm} (he : PE X e (rd X.K Ω Wi (rE X.K) t)) : PO X (some e) (rdO X.K Ω Wi (.part t)) := ⟨fun pins s σ H Q I ⟨G, w, ρ, S, R, P⟩ => (po_some he).run pins s σ H Q I ⟨G, w, ρ, S, R, (Post.bind P).imp fun d S1 w1 H1 e1 R1 P1 v hv => by
  cases d with
  | int i =>
    cases hv
    exact ⟨i, rfl, P1 w1 H1 (Wle.refl _) R1⟩
  | _ => exact P1.elim⟩⟩
theorem cut_rp {K : PySem.W.Frag} {w : Wd} {vs : List V} {xs : List D} (r : RpAll K w vs xs) (l h : Option Int) : RpAll K w (cutV vs l h) (cut xs l h) := by
  unfold cutV cut
  rw [r.length]
  exact (r.drop _).take _
theorem s_sl {a : Expr} {lo hi : Option Expr} {s l h : Tm} {p2 pos : Pos} (ha : PE X a (rd X.K Ω Wi (rB X.K) s)) (hl : PO X lo (rdO X.K Ω Wi l)) (hh : PO X hi (rdO X.K Ω Wi h)) : PE X (.Subscript a (.Slice lo hi none p2) pos) (rdF X.K Ω Wi (.sl s l h)) :=
  PE.imp (pe_slice (sl_str.or (sl_tupA.or sl_list)) ha hl hh) fun σ H Q ⟨G, w, ρ, S, R, P⟩ => ⟨G, w, ρ, S, R, (Post.bind P).imp fun d S1 w1 H1 e1 R1 P1 x hx => ⟨G, w1, ρ, S1, R1, (Post.bind P1).imp fun l S2 w2 H2 e2 R2 P2 => ⟨G, w2, ρ, S2, R2, (Post.bind P2).imp fun h S3 w3 H3 e3 R3 P3 => by
    obtain ⟨z, hz, k⟩ := Post.of P3
    have hx := seen_B R3 (e2.trans e3) hx
    have lists : (asL S3 d).map (fun xs => D.lst (cut xs l h)) = some z → rSlL X.K x l h H3 Q := fun hz => by
      cases q : asL S3 d with
      | none =>
        rw [q] at hz
        cases hz
      | some xs =>
        rw [q] at hz
        cases hz
        obtain ⟨p, vs, rfl, h2, h3, h4⟩ := asL_ok R3 hx q
        exact ⟨p, vs, rfl, .inl (.inl h2), fun c hc => k w3 _ (Wle.refl _) (R3.raw hc) _ (.inr (raw_fresh R3 hc (Nat.le_trans (cutV_length _ _ _) h3) (cut_rp h4 l h)))⟩
    cases d with
    | str y =>
      cases hz
      obtain ⟨rfl, hy⟩ := rL_str hx
      exact .inl ⟨y, rfl, hy, k w3 H3 (Wle.refl _) R3 _ (.inl ⟨.str _ (Nat.le_trans (cutS_length y l h) hy), fun _ z => nomatch z⟩)⟩
    | tup xs =>
      cases hz
      obtain ⟨p, vs, rfl, h2, h3, h4⟩ := rL_tup hx
      refine .inr (.inl ⟨p, vs, rfl, tupT R3.same h2, fun e => ?_, fun _ c hc => ?_⟩)
      · refine k w3 H3 (Wle.refl _) R3 _ (.inl ⟨?_, fun _ z => nomatch z⟩)
        have ec : cut xs l h = xs := by
          unfold cut
          rw [← h4.length, e.1, e.2, h4.length]
          simp
        rw [ec]
        exact .tup h2 h3 h4
      · exact k _ _ (Wle.put (R3.F_none hc)) (R3.born hc) _ (.inl ⟨.tup upd_same (Nat.le_trans (cutV_length _ _ _) h3) ((cut_rp h4 l h).mono (Wle.put (R3.F_none hc))), fun _ z => nomatch z⟩)
    | non => exact .inr (.inr (lists hz))
    | bl _ => exact .inr (.inr (lists hz))
    | int _ => exact .inr (.inr (lists hz))
    | lst _ => exact .inr (.inr (lists hz))
    | loc _ => exact .inr (.inr (lists hz))
    | scr _ => exact .inr (.inr (lists hz))
    | wtp _ => exact .inr (.inr (lists hz))⟩⟩⟩
/-! ### built-ins -/
theorem pl_any {env : PySem.Env} {pos : Pos} : ∀ {es : List Expr}, es.all plainA = true → (backTo pos (starEach es env)).any (·.1) = false
  | [], _ => rfl
  | e :: r, h => by
    obtain ⟨h1, h2⟩ := Bool.and_eq_true_iff.mp (show (plainA e && r.all plainA) = true from h)
    have ih := pl_any (env := env) (pos := pos) h2
    rw [star_plain h1]
    show (false || (backTo pos (starEach r env)).any (·.1)) = false
    rw [ih]
    rfl
/-- one argument, read -/
theorem s_bi1 {e : Expr} {t : Tm} {b : Bi} {r : List V → Hp → VK → Prop} (he : PE X e (tCB r (tCons (rd X.K Ω Wi (rL X.K) t) tNil)))
    (ok : ∀ (G : Gu) (w : Wd) (ρ : Env) (S : Sto) (σ : L2.St) (H : Hp) (x : V) (d z : D) (Q : VK), Rel X.K G w ρ S σ H → rL X.K w σ ρ H x d → biOp b S [d] = some z →
      (∀ w' H', Wle w w' → Rel X.K G w' ρ S σ H' → ∀ v, (Rp X.K w' v z ∧ ∀ xs, z ≠ .lst xs) ∨ rF X.K G w' H' v z → Q v H') → r [x] H Q) : PE X e (rdF X.K Ω Wi (.bi b (.cons t .nil))) :=
  PE.imp he fun σ H Q ⟨G, w, ρ, S, R, P⟩ => ⟨G, w, ρ, S, R, (Post.bind (r := ev Ω ρ t S) (f := fun x S1 => Res.of S1 (biOp b S1 [x])) (by
    have P : Post X.K G ρ σ Wi w ((((ev Ω ρ t S).bind fun x S1 => .ok [x] S1)).bind fun xs S1 => Res.of S1 (biOp b S1 xs)) _ := P
    revert P
    cases ev Ω ρ t S <;> exact fun P => P)).imp fun d S1 w1 H1 e1 R1 P1 x hx => by
      obtain ⟨z, hz, k⟩ := Post.of P1
      exact ok G w1 ρ S1 σ H1 x d z Q R1 hx hz fun w' H' e' R' v hv => k w' H' e' R' v hv⟩
/-- two arguments -/
theorem s_bi2 {e : Expr} {as : Tm} {b : Bi} {r : List V → Hp → VK → Prop} (he : PE X e (tCB r (rdA X.K Ω Wi as)))
    (ok : ∀ (G : Gu) (w : Wd) (ρ : Env) (S : Sto) (σ : L2.St) (H : Hp) (xs : List V) (ds : List D) (z : D) (Q : VK), Rel X.K G w ρ S σ H → RpAll X.K w xs ds → biOp b S ds = some z →
      (∀ w' H', Wle w w' → Rel X.K G w' ρ S σ H' → ∀ v, Rp X.K w' v z → Q v H') → r xs H Q) : PE X e (rd X.K Ω Wi (rE X.K) (.bi b as)) :=
  PE.imp he fun σ H Q ⟨G, w, ρ, S, R, P⟩ => ⟨G, w, ρ, S, R, (Post.bind P).imp fun ds S1 w1 H1 e1 R1 P1 xs hxs => by
    obtain ⟨z, hz, k⟩ := Post.of P1
    exact ok G w1 ρ S1 σ H1 xs ds z Q R1 hxs hz fun w' H' e' R' v hv => k w' H' e' R' v hv⟩
theorem bools_ok {K : PySem.W.Frag} {w : Wd} : ∀ {vs : List V} {ds : List D} {bs : List Bool}, RpAll K w vs ds → bools ds = some bs → vs = bs.map V.bl
  | _, _, _, .nil, h => by
    cases h
    rfl
  | _, _, bs, .cons (d := d) (ds := ds) r t, h => by
    cases r with
    | bl b =>
      have h : (bools ds).map (fun bs => b :: bs) = some bs := h
      cases q : bools ds with
      | none =>
        rw [q] at h
        cases h
      | some cs =>
        rw [q] at h
        cases h
        rw [bools_ok t q]
        rfl
    | _ => cases h
theorem strs_ok {K : PySem.W.Frag} {w : Wd} : ∀ {vs : List V} {ds : List D} {bs : List Str}, RpAll K w vs ds → strsD ds = some bs → vs = bs.map V.str
  | _, _, _, .nil, h => by
    cases h
    rfl
  | _, _, bs, .cons (d := d) (ds := ds) r t, h => by
    cases r with
    | str b _ =>
      have h : (strsD ds).map (fun bs => b :: bs) = some bs := h
      cases q : strsD ds with
      | none =>
        rw [q] at h
        cases h
      | some cs =>
        rw [q] at h
        cases h
        rw [strs_ok t q]
        rfl
    | _ => cases h
theorem s_len {a : Expr} {t : Tm} {p pos : Pos} (hg : Gl X "len") (hm : X.mg "len" = none) (ha : PE X a (rd X.K Ω Wi (rL X.K) t)) (hp : plainA a = true) : PE X (.Call (.Name "len" p) [a] [] pos) (rd X.K Ω Wi (rE X.K) (.bi .len (.cons t .nil))) := by
  refine rE_of (s_bi1 (pe_callB call_len hg hm boot_len (pa_cons ha pa_nil (star_plain hp)) (he := star_plain hp)) fun G w ρ S σ H x d z Q R hx hz k => ?_)
  have seqs : (asQ S d).map (fun xs => D.int xs.length) = some z → ∃ x' n, [x] = [x'] ∧ LenV X.K x' H n ∧ Q (.int n) H := fun hz => by
    cases q : asQ S d with
    | none =>
      rw [q] at hz
      cases hz
    | some xs =>
      rw [q] at hz
      cases hz
      obtain ⟨a, vs, rfl, h2, h3, h4⟩ := asQ_ok R hx q
      refine ⟨_, vs.length, rfl, ?_, ?_⟩
      · rcases h2 with h2 | h2
        · exact .inl ⟨vs, h2, rfl⟩
        · exact .inr ⟨vs, h2, rfl⟩
      · rw [h4.length]
        exact k w H (Wle.refl _) R _ (.inl ⟨.int _, fun _ z => nomatch z⟩)
  cases d with
  | str y =>
    cases hz
    obtain ⟨rfl, hy⟩ := rL_str hx
    exact ⟨_, y.length, rfl, ⟨hy, rfl⟩, k w H (Wle.refl _) R _ (.inl ⟨.int _, fun _ z => nomatch z⟩)⟩
  | non => exact seqs hz
  | bl _ => exact seqs hz
  | int _ => exact seqs hz
  | tup _ => exact seqs hz
  | lst _ => exact seqs hz
  | loc _ => exact seqs hz
  | scr _ => exact seqs hz
  | wtp _ => exact seqs hz
theorem s_int {a : Expr} {t : Tm} {p pos : Pos} (hg : Gl X "int") (hm : X.mg "int" = none) (ha : PE X a (rd X.K Ω Wi (rL X.K) t)) (hp : plainA a = true) : PE X (.Call (.Name "int" p) [a] [] pos) (rd X.K Ω Wi (rE X.K) (.bi .int (.cons t .nil))) := by
  refine rE_of (s_bi1 (pe_callTy (CallR.or call_int1 call_int_str) hg hm (by decide +kernel) (pa_cons ha pa_nil (star_plain hp)) (he := star_plain hp)) fun G w ρ S σ H x d z Q R hx hz k => ?_)
  cases d with
  | int i =>
    cases hz
    cases rL_int hx
    exact .inl (.inl ⟨i, rfl, k w H (Wle.refl _) R _ (.inl ⟨.int _, fun _ z => nomatch z⟩)⟩)
  | bl b =>
    cases hz
    cases rL_bl hx
    exact .inl (.inr ⟨b, rfl, k w H (Wle.refl _) R _ (.inl ⟨.int _, fun _ z => nomatch z⟩)⟩)
  | str a =>
    have hz : (if a.length ≤ 640 then (PySem.intText? a).map D.int else none) = some z := hz
    by_cases c : a.length ≤ 640
    · rw [if_pos c, Option.map_eq_some_iff] at hz
      obtain ⟨n, h1, rfl⟩ := hz
      exact .inr ⟨a, n, by rw [(rL_str hx).1], h1, c, k w H (Wle.refl _) R _ (.inl ⟨.int _, fun _ z => nomatch z⟩)⟩
    · rw [if_neg c] at hz
      cases hz
  | _ => cases hz
theorem s_max2 (hc : X.calm = true) {a b : Expr} {as : Tm} {p pos : Pos} (hg : Gl X "max") (hm : X.mg "max" = none) (ha : PA X [a, b] (rdA X.K Ω Wi as)) (hp : plainA a = true) (hp' : plainA b = true) : PE X (.Call (.Name "max" p) [a, b] [] pos) (rd X.K Ω Wi (rE X.K) (.bi .max2 as)) := by
  refine s_bi2 (pe_callB (call_max2 hc) hg hm (by decide +kernel) ha (he := star_plain hp) (hpl := pl_any (es := [b]) (by simp only [List.all_cons, hp', List.all_nil, Bool.and_self]))) fun G w ρ S σ H xs ds z Q R hxs hz k => ?_
  have : ∃ i j, ds = [.int i, .int j] ∧ z = .int (if j > i then j else i) := by
    revert hz
    rcases ds with _ | ⟨d, _ | ⟨d', _ | ⟨_, _⟩⟩⟩
    · intro h; cases h
    · intro h; cases d <;> cases h
    · intro h
      cases d <;> first | (cases h; done) | (cases d' <;> first | (cases h; done) | exact ⟨_, _, rfl, (Option.some.inj h).symm⟩)
    · intro h; cases d <;> first | (cases h; done) | (cases d' <;> cases h)
  obtain ⟨i, j, rfl, rfl⟩ := this
  cases hxs with
  | cons r t =>
    cases t with
    | cons r2 t2 =>
      cases t2
      cases r
      cases r2
      exact ⟨i, j, rfl, k w H (Wle.refl _) R _ (.int _)⟩
theorem s_min2 (hc : X.calm = true) {a b : Expr} {as : Tm} {p pos : Pos} (hg : Gl X "min") (hm : X.mg "min" = none) (ha : PA X [a, b] (rdA X.K Ω Wi as)) (hp : plainA a = true) (hp' : plainA b = true) : PE X (.Call (.Name "min" p) [a, b] [] pos) (rd X.K Ω Wi (rE X.K) (.bi .min2 as)) := by
  refine s_bi2 (pe_callB (call_min2 hc) hg hm (by decide +kernel) ha (he := star_plain hp) (hpl := pl_any (es := [b]) (by simp only [List.all_cons, hp', List.all_nil, Bool.and_self]))) fun G w ρ S σ H xs ds z Q R hxs hz k => ?_
  have : ∃ i j, ds = [.int i, .int j] ∧ z = .int (if j < i then j else i) := by
    revert hz
    rcases ds with _ | ⟨d, _ | ⟨d', _ | ⟨_, _⟩⟩⟩
    · intro h; cases h
    · intro h; cases d <;> cases h
    · intro h
      cases d <;> first | (cases h; done) | (cases d' <;> first | (cases h; done) | exact ⟨_, _, rfl, (Option.some.inj h).symm⟩)
    · intro h; cases d <;> first | (cases h; done) | (cases d' <;> cases h)
  obtain ⟨i, j, rfl, rfl⟩ := this
  cases hxs with
  | cons r t =>
    cases t with
    | cons r2 t2 =>
      cases t2
      cases r
      cases r2
      exact ⟨i, j, rfl, k w H (Wle.refl _) R _ (.int _)⟩
theorem s_ord {a : Expr} {t : Tm} {p pos : Pos} (hg : Gl X "ord") (hm : X.mg "ord" = none) (ha : PE X a (rd X.K Ω Wi (rL X.K) t)) (hp : plainA a = true) : PE X (.Call (.Name "ord" p) [a] [] pos) (rd X.K Ω Wi (rE X.K) (.bi .ord (.cons t .nil))) := by
  refine rE_of (s_bi1 (pe_callB call_ord hg hm (by decide +kernel) (pa_cons ha pa_nil (star_plain hp)) (he := star_plain hp)) fun G w ρ S σ H x d z Q R hx hz k => ?_)
  cases d with
  | str y =>
    have hz : (if y.length = 1 then some (D.int (y.cps.getD 0 0 : Nat)) else none) = some z := hz
    by_cases c : y.length = 1
    · rw [if_pos c] at hz
      cases hz
      exact ⟨y, by rw [(rL_str hx).1], c, k w H (Wle.refl _) R _ (.inl ⟨.int _, fun _ z => nomatch z⟩)⟩
    · rw [if_neg c] at hz
      cases hz
  | _ => cases hz
theorem s_list {a : Expr} {t : Tm} {p pos : Pos} (hg : Gl X "list") (hm : X.mg "list" = none) (ha : PE X a (rd X.K Ω Wi (rL X.K) t)) (hp : plainA a = true) : PE X (.Call (.Name "list" p) [a] [] pos) (rdF X.K Ω Wi (.bi .list (.cons t .nil))) := by
  refine s_bi1 (pe_callTy call_list_of hg hm (by decide +kernel) (pa_cons ha pa_nil (star_plain hp)) (he := star_plain hp)) fun G w ρ S σ H x d z Q R hx hz k => ?_
  have hz : (asQ S d).map D.lst = some z := by
    revert hz
    cases d <;> exact fun h => h
  cases q : asQ S d with
  | none =>
    rw [q] at hz
    cases hz
  | some xs =>
    rw [q] at hz
    cases hz
    obtain ⟨a, vs, rfl, h2, h3, h4⟩ := asQ_ok R hx q
    exact ⟨a, vs, rfl, h2, fun c hc => k w _ (Wle.refl _) (R.raw hc) _ (.inr (raw_fresh R hc h3 h4))⟩
theorem s_tuple {a : Expr} {t : Tm} {p pos : Pos} (hg : Gl X "tuple") (hm : X.mg "tuple" = none) (ha : PE X a (rd X.K Ω Wi (rL X.K) t)) (hp : plainA a = true) : PE X (.Call (.Name "tuple" p) [a] [] pos) (rd X.K Ω Wi (rE X.K) (.bi .tuple (.cons t .nil))) := by
  refine rE_of (s_bi1 (pe_callTy call_tuple_of hg hm (by decide +kernel) (pa_cons ha pa_nil (star_plain hp)) (he := star_plain hp)) fun G w ρ S σ H x d z Q R hx hz k => ?_)
  have new : ∀ {p : Addr} {vs : List V} {xs : List D}, x = .ref p → SqL X.K H p vs → vs.length ≤ sizeLine → RpAll X.K w vs xs → z = .tup xs → ∃ p ys, [x] = [V.ref p] ∧ ((SqL X.K H p ys ∧ ∀ l, H l = none → Q (.ref l) (upd H l (.tup ys))) ∨ (SqT X.K H p ys ∧ Q (.ref p) H)) := fun {p vs xs} e1 h2 h3 h4 e2 => by
    subst e1 e2
    exact ⟨p, vs, rfl, .inl ⟨h2, fun c hc => k _ _ (Wle.put (R.F_none hc)) (R.born hc) _ (.inl ⟨.tup upd_same h3 (h4.mono (Wle.put (R.F_none hc))), fun _ z => nomatch z⟩)⟩⟩
  have lists : (asL S d).map D.tup = some z → ∃ p ys, [x] = [V.ref p] ∧ ((SqL X.K H p ys ∧ ∀ l, H l = none → Q (.ref l) (upd H l (.tup ys))) ∨ (SqT X.K H p ys ∧ Q (.ref p) H)) := fun hz => by
    cases q : asL S d with
    | none =>
      rw [q] at hz
      cases hz
    | some xs =>
      rw [q] at hz
      obtain ⟨p, vs, e, h2, h3, h4⟩ := asL_ok R hx q
      exact new e (.inl (.inl h2)) h3 h4 (Option.some.inj hz).symm
  cases d with
  | tup xs =>
    cases hz
    obtain ⟨p, vs, rfl, h2, h3, h4⟩ := rL_tup hx
    exact ⟨p, vs, rfl, .inr ⟨tupT R.same h2, k w H (Wle.refl _) R _ (.inl ⟨.tup h2 h3 h4, fun _ z => nomatch z⟩)⟩⟩
  | wtp xs =>
    cases hz
  | scr xs =>
    cases rL_flat hx fun _ z => nomatch z with
    | scr h1 h2 h3 => exact new rfl (R.same.seq h1) h2 h3 (Option.some.inj hz).symm
  | non => exact lists hz
  | bl _ => exact lists hz
  | int _ => exact lists hz
  | str _ => exact lists hz
  | lst _ => exact lists hz
  | loc _ => exact lists hz
theorem s_all (hc : X.calm = true) {a : Expr} {t : Tm} {p pos : Pos} (hg : Gl X "all") (hm : X.mg "all" = none) (ha : PE X a (rd X.K Ω Wi (rL X.K) t)) (hp : plainA a = true) : PE X (.Call (.Name "all" p) [a] [] pos) (rd X.K Ω Wi (rE X.K) (.bi .all (.cons t .nil))) := by
  refine rE_of (s_bi1 (pe_callB (cr_all hc) hg hm (by decide +kernel) (pa_cons ha pa_nil (star_plain hp)) (he := star_plain hp)) fun G w ρ S σ H x d z Q R hx hz k => ?_)
  have hz : (asL S d).bind (fun xs => (bools xs).map fun bs => D.bl (bs.all id)) = some z := by
    revert hz
    cases d <;> exact fun h => h
  cases q : asL S d with
  | none =>
    rw [q] at hz
    cases hz
  | some xs =>
    rw [q, Option.bind_some] at hz
    cases q2 : bools xs with
    | none =>
      rw [q2] at hz
      cases hz
    | some bs =>
      rw [q2] at hz
      cases hz
      obtain ⟨a, vs, rfl, h2, h3, h4⟩ := asL_ok R hx q
      refine ⟨a, bs, rfl, ?_, k w H (Wle.refl _) R _ (.inl ⟨.bl _, fun _ z => nomatch z⟩)⟩
      rw [← bools_ok h4 q2]
      exact .inl (.inl h2)
/-! ### any, of bools or ints -/
theorem ints_ok {K : PySem.W.Frag} {w : Wd} : ∀ {vs : List V} {ds : List D} {is : List Int}, RpAll K w vs ds → intsD ds = some is → vs = is.map V.int
  | _, _, is, .nil, h => by
    cases h
    rfl
  | _, _, is, .cons (d := d) (ds := ds) r t, h => by
    cases d <;> try cases h
    case int i =>
      have h : (intsD ds).map (fun is => i :: is) = some is := h
      cases q : intsD ds with
      | none =>
        rw [q] at h
        cases h
      | some js =>
        rw [q] at h
        cases h
        cases r
        rw [ints_ok t q]
        rfl
theorem truth_ints {prog : Program} {w : World} {A : Around} {is : List Int} {its : List Value} (r : Vals (is.map V.int) its) : TruthOf prog w A (fun i v => its.toArray[i]? = some v) (fun i => is.getD i 0 != 0) := fun i v s Q E hv hq => by
  have hv' : its[i]? = some v := by simpa using hv
  have hi : i < is.length := by
    have := (List.getElem?_eq_some_iff.mp hv').1
    rw [← r.length, List.length_map] at this
    exact this
  obtain ⟨u, hu, ru⟩ := r.get (i := i) (x := V.int is[i]) (by rw [List.getElem?_map, List.getElem?_eq_getElem hi]; rfl)
  rw [hu] at hv'
  cases hv'
  obtain ⟨t, rfl⟩ := ru
  have hg : is.getD i 0 = is[i] := by rw [List.getD_eq_getElem?_getD, List.getElem?_eq_getElem hi]; rfl
  have hq' : Q (is.getD i 0 != 0) s := hq
  rw [hg] at hq'
  exact PySem.P.truthy_int hq'
theorem any_rangeI : ∀ is : List Int, (List.range is.length).any (fun i => is.getD i 0 != 0) = is.any fun i => i != 0
  | [] => rfl
  | i :: is => by
    rw [List.length_cons, List.range_succ_eq_map, List.any_cons, List.any_map, List.any_cons, ← any_rangeI is]
    all_goals rfl
def rAnyI (K : PySem.W.Frag) : List V → Hp → VK → Prop := fun vs H Q => ∃ (a : Addr) (is : List Int), vs = [V.ref a] ∧ SqL K H a (is.map V.int) ∧ Q (.bl (is.any fun i => i != 0)) H
theorem cr_anyI (hc : X.calm = true) : CallR X (.builtin "any") (rAnyI X.K) := by
  intro pins s σ H vs us Q I r ⟨a, is, e, hs, q⟩
  subst e
  obtain ⟨its, rv, hl, _⟩ := I.list hs
  rw [Vals.ref1 r]
  refine call_any_walk (iter_any hl.isList fun s₂ e2 st hne => ?_)
  subst e2
  refine ⟨_, _, _, _, _, _, _, rfl, Walks.list (A := X.A.in1) (I.ok.hd hc) _ a hne its.toArray, st, truth_ints rv, fun h' tk kp => ⟨.bl _, H, I.kept fun b o eo => kp b o (fun hmem => ?_) (Heap.get?_push_of_some _ eo), ?_, q⟩⟩
  · rcases List.mem_cons.mp hmem with e1 | hmem
    · exact (Nat.ne_of_lt (Heap.lt_size eo)) e1
    · cases hmem
  · show Value.bool _ = Value.bool _
    rw [← any_rangeI, List.size_toArray, ← rv.length, List.length_map]
theorem cr_any2 (hc : X.calm = true) : CallR X (.builtin "any") (fun vs H Q => rAny X.K vs H Q ∨ rAnyI X.K vs H Q) := by
  intro pins s σ H vs us Q I r h
  rcases h with h | h
  · exact cr_any hc pins s σ H vs us Q I r h
  · exact cr_anyI hc pins s σ H vs us Q I r h
theorem s_any (hc : X.calm = true) {a : Expr} {t : Tm} {p pos : Pos} (hg : Gl X "any") (hm : X.mg "any" = none) (ha : PE X a (rd X.K Ω Wi (rL X.K) t)) (hp : plainA a = true) : PE X (.Call (.Name "any" p) [a] [] pos) (rd X.K Ω Wi (rE X.K) (.bi .any (.cons t .nil))) := by
  refine rE_of (s_bi1 (pe_callB (cr_any2 hc) hg hm (by decide +kernel) (pa_cons ha pa_nil (star_plain hp)) (he := star_plain hp)) fun G w ρ S σ H x d z Q R hx hz k => ?_)
  have hz : (asL S d).bind (fun xs => match bools xs with
    | some bs => some (D.bl (bs.any id))
    | none => (intsD xs).map fun is => .bl (is.any fun i => i != 0)) = some z := by
    revert hz
    cases d <;> exact fun h => h
  cases q : asL S d with
  | none =>
    rw [q] at hz
    cases hz
  | some xs =>
    rw [q, Option.bind_some] at hz
    obtain ⟨a, vs, rfl, h2, h3, h4⟩ := asL_ok R hx q
    cases q2 : bools xs with
    | some bs =>
      rw [q2] at hz
      cases hz
      refine .inl ⟨a, bs, rfl, ?_, k w H (Wle.refl _) R _ (.inl ⟨.bl _, fun _ z => nomatch z⟩)⟩
      rw [← bools_ok h4 q2]
      exact .inl (.inl h2)
    | none =>
      rw [q2] at hz
      cases q3 : intsD xs with
      | none =>
        simp only [q3] at hz
        cases hz
      | some is =>
        simp only [q3] at hz
        cases hz
        refine .inr ⟨a, is, rfl, ?_, k w H (Wle.refl _) R _ (.inl ⟨.bl _, fun _ z => nomatch z⟩)⟩
        rw [← ints_ok h4 q3]
        exact .inl (.inl h2)
/-! ### str, max, min, sum -/
theorem s_str {a : Expr} {t : Tm} {p pos : Pos} (hg : Gl X "str") (hm : X.mg "str" = none) (ha : PE X a (rd X.K Ω Wi (rL X.K) t)) (hp : plainA a = true) : PE X (.Call (.Name "str" p) [a] [] pos) (rd X.K Ω Wi (rE X.K) (.bi .str (.cons t .nil))) := by
  refine rE_of (s_bi1 (pe_callTy call_str_int hg hm (by decide +kernel) (pa_cons ha pa_nil (star_plain hp)) (he := star_plain hp)) fun G w ρ S σ H x d z Q R hx hz k => ?_)
  cases d with
  | int i =>
    have hz : (if i.natAbs.log2 < 1920 ∧ (Str.ofString (toString i)).length ≤ sizeLine then some (D.str (Str.ofString (toString i))) else none) = some z := hz
    by_cases c : i.natAbs.log2 < 1920 ∧ (Str.ofString (toString i)).length ≤ sizeLine
    · rw [if_pos c] at hz
      cases hz
      exact ⟨i, by rw [rL_int hx], c.1, k w H (Wle.refl _) R _ (.inl ⟨.str _ c.2, fun _ z => nomatch z⟩)⟩
    · rw [if_neg c] at hz
      cases hz
  | _ => cases hz
theorem max_max : ∀ (is : List Int) (m : Int), (maxI m is ∈ m :: is) ∧ ∀ y ∈ m :: is, y ≤ maxI m is
  | [], m => ⟨List.mem_singleton.mpr rfl, fun y hy => by cases List.mem_singleton.mp hy; exact Int.le_refl _⟩
  | x :: is, m => by
    obtain ⟨h1, h2⟩ := max_max is (if x > m then x else m)
    show maxI (if x > m then x else m) is ∈ _ ∧ ∀ y ∈ _, y ≤ maxI (if x > m then x else m) is
    refine ⟨?_, fun y hy => ?_⟩
    · rcases List.mem_cons.mp h1 with h | h
      · rw [h]
        split
        · exact List.mem_cons_of_mem _ List.mem_cons_self
        · exact List.mem_cons_self
      · exact List.mem_cons_of_mem _ (List.mem_cons_of_mem _ h)
    · have h0 := h2 _ List.mem_cons_self
      rcases List.mem_cons.mp hy with h | h
      · subst h
        refine Int.le_trans ?_ h0
        split <;> omega
      · rcases List.mem_cons.mp h with h | h
        · subst h
          refine Int.le_trans ?_ h0
          split <;> omega
        · exact h2 y (List.mem_cons_of_mem _ h)
theorem min_min : ∀ (is : List Int) (m : Int), (minI m is ∈ m :: is) ∧ ∀ y ∈ m :: is, minI m is ≤ y
  | [], m => ⟨List.mem_singleton.mpr rfl, fun y hy => by cases List.mem_singleton.mp hy; exact Int.le_refl _⟩
  | x :: is, m => by
    obtain ⟨h1, h2⟩ := min_min is (if x < m then x else m)
    show minI (if x < m then x else m) is ∈ _ ∧ ∀ y ∈ _, minI (if x < m then x else m) is ≤ y
    refine ⟨?_, fun y hy => ?_⟩
    · rcases List.mem_cons.mp h1 with h | h
      · rw [h]
        split
        · exact List.mem_cons_of_mem _ List.mem_cons_self
        · exact List.mem_cons_self
      · exact List.mem_cons_of_mem _ (List.mem_cons_of_mem _ h)
    · have h0 := h2 _ List.mem_cons_self
      rcases List.mem_cons.mp hy with h | h
      · subst h
        refine Int.le_trans h0 ?_
        split <;> omega
      · rcases List.mem_cons.mp h with h | h
        · subst h
          refine Int.le_trans h0 ?_
          split <;> omega
        · exact h2 y (List.mem_cons_of_mem _ h)
theorem s_max1 (hc : X.calm = true) {a : Expr} {t : Tm} {p pos : Pos} (hg : Gl X "max") (hm : X.mg "max" = none) (ha : PE X a (rd X.K Ω Wi (rL X.K) t)) (hp : plainA a = true) : PE X (.Call (.Name "max" p) [a] [] pos) (rd X.K Ω Wi (rE X.K) (.bi .max1 (.cons t .nil))) := by
  refine rE_of (s_bi1 (pe_callB (cr_max hc) hg hm (by decide +kernel) (pa_cons ha pa_nil (star_plain hp)) (he := star_plain hp)) fun G w ρ S σ H x d z Q R hx hz k => ?_)
  have hz : (asL S d).bind (fun xs => match intsD xs with
    | some (m :: is) => some (D.int (maxI m is))
    | _ => none) = some z := hz
  rw [Option.bind_eq_some_iff] at hz
  obtain ⟨xs, q, hz⟩ := hz
  obtain ⟨a, vs, rfl, h2, h3, h4⟩ := asL_ok R hx q
  cases q2 : intsD xs with
  | none =>
    rw [q2] at hz
    cases hz
  | some is =>
    rw [q2] at hz
    cases is with
    | nil => cases hz
    | cons m is =>
      cases hz
      have ev := ints_ok h4 q2
      subst ev
      refine ⟨a, m :: is, rfl, .inl (.inl h2), Nat.succ_pos _, fun m' hm' hle => ?_⟩
      have : m' = maxI m is := Int.le_antisymm ((max_max is m).2 m' hm') (hle _ (max_max is m).1)
      subst this
      exact k w H (Wle.refl _) R _ (.inl ⟨.int _, fun _ z => nomatch z⟩)
theorem s_sum (hc : X.calm = true) {a : Expr} {t : Tm} {p pos : Pos} (hg : Gl X "sum") (hm : X.mg "sum" = none) (ha : PE X a (rd X.K Ω Wi (rL X.K) t)) (hp : plainA a = true) : PE X (.Call (.Name "sum" p) [a] [] pos) (rd X.K Ω Wi (rE X.K) (.bi .sum (.cons t .nil))) := by
  refine rE_of (s_bi1 (pe_callB (cr_sum hc) hg hm (by decide +kernel) (pa_cons ha pa_nil (star_plain hp)) (he := star_plain hp)) fun G w ρ S σ H x d z Q R hx hz k => ?_)
  have hz : (asL S d).bind (fun xs => (intsD xs).map fun is => D.int is.sum) = some z := hz
  rw [Option.bind_eq_some_iff] at hz
  obtain ⟨xs, q, hz⟩ := hz
  rw [Option.map_eq_some_iff] at hz
  obtain ⟨is, q2, rfl⟩ := hz
  obtain ⟨a, vs, rfl, h2, h3, h4⟩ := asL_ok R hx q
  have ev := ints_ok h4 q2
  subst ev
  exact ⟨a, is, rfl, .inl (.inl h2), k w H (Wle.refl _) R _ (.inl ⟨.int _, fun _ z => nomatch z⟩)⟩
/-- min of a tuple of ints -/
def rMinT (K : PySem.W.Frag) : List V → Hp → VK → Prop := fun vs H Q => ∃ (a : Addr) (m : Int) (is : List Int), vs = [V.ref a] ∧ SqT K H a ((m :: is).map V.int) ∧ Q (.int (minI m is)) H
theorem reads_ints {h : Heap} : ∀ {is : List Int} {us : List Value}, Vals (is.map V.int) us → ReadsAll h us (is.map PyData.int) []
  | [], us, r => by
    cases r
    exact .nil
  | i :: is, us, r => by
    cases r with
    | cons r1 r2 =>
      obtain ⟨t, rfl⟩ := r1
      exact .cons (.int _ _) (reads_ints r2)
theorem alike_is (is : List Int) : PySem.W.AlikeAll (is.map PyData.int) := ⟨fun d hd d' hd' => by
  obtain ⟨i, _, rfl⟩ := List.mem_map.mp hd
  obtain ⟨j, _, rfl⟩ := List.mem_map.mp hd'
  rfl, fun d hd => by
  obtain ⟨i, _, rfl⟩ := List.mem_map.mp hd
  exact fun z => nomatch z⟩
theorem dep_is : ∀ is : List Int, PyData.depthAll (is.map PyData.int) = 0
  | [] => rfl
  | i :: is => by
    show max 0 _ = 0
    rw [dep_is is]
    rfl
theorem best_int {lt : PyData → PyData → Bool} : True := trivial
end
end TX

set_option maxRecDepth 100000
set_option maxHeartbeats 4000000
/-! TX, part 5b: min of a tuple, max with a default, sorted; methods of built-in types. -/
namespace TX
open PySem PySem.Spec PyProof.Rows L2 He
section
variable {X : Cx} {Ω : Orc} {Wi : WX}
theorem minD_ints : ∀ (is : List Int) (m : Int), PySem.W.minD (.int m) (is.map PyData.int) = .int (minI m is)
  | [], m => rfl
  | x :: is, m => by
    show PySem.W.minD _ _ = .int (minI (if x < m then x else m) is)
    rw [← minD_ints is]
    unfold PySem.W.minD
    rw [List.map_cons, List.foldl_cons]
    congr 1
    rw [PySem.W.dataLt_int]
    by_cases c : x < m <;> simp [c]
theorem maxD_ints : ∀ (is : List Int) (m : Int), PySem.W.maxD (.int m) (is.map PyData.int) = .int (maxI m is)
  | [], m => rfl
  | x :: is, m => by
    show PySem.W.maxD _ _ = .int (maxI (if x > m then x else m) is)
    rw [← maxD_ints is]
    unfold PySem.W.maxD
    rw [List.map_cons, List.foldl_cons]
    congr 1
    rw [PySem.W.dataLt_int]
    by_cases c : m < x <;> simp [c]
theorem reads_int {h : Heap} {v : Value} {m : Int} {bs : List Addr} (r : Reads h v (.int m) bs) : RelV (.int m) v := by
  cases r
  exact ⟨_, rfl⟩
theorem cr_minT (hc : X.calm = true) (hu : X.A.units + 65 < cLine) : CallR X (.builtin "min") (rMinT X.K) := by
  intro pins s σ H vs us Q I r ⟨a, m, is, e, hT, q⟩
  subst e
  obtain ⟨its, rv, pt, z⟩ := I.tuple hT
  rw [Vals.ref1 r]
  refine PySem.W.min_tuple_data (x := .int m) (xs := is.map PyData.int) (as := []) (I.ok.hd hc) pt (reads_ints (is := m :: is) rv) (alike_is (m :: is)) ?_ fun i v h' tk bs hi hr hk => ?_
  · have := dep_is (m :: is)
    rw [List.map_cons] at this
    rw [this]
    omega
  · rw [minD_ints] at hr
    exact ⟨.int _, H, I.kept (t' := tk) hk, reads_int hr, q⟩
theorem s_min1 (hc : X.calm = true) (hu : X.A.units + 65 < cLine) {a : Expr} {t : Tm} {p pos : Pos} (hg : Gl X "min") (hm : X.mg "min" = none) (ha : PE X a (rd X.K Ω Wi (rL X.K) t)) (hp : plainA a = true) : PE X (.Call (.Name "min" p) [a] [] pos) (rd X.K Ω Wi (rE X.K) (.bi .min1 (.cons t .nil))) := by
  refine rE_of (s_bi1 (pe_callB (cr_minT hc hu) hg hm (by decide +kernel) (pa_cons ha pa_nil (star_plain hp)) (he := star_plain hp)) fun G w ρ S σ H x d z Q R hx hz k => ?_)
  cases d with
  | tup xs =>
    have hz : (match intsD xs with
      | some (m :: is) => some (D.int (minI m is))
      | _ => none) = some z := hz
    cases q2 : intsD xs with
    | none =>
      rw [q2] at hz
      cases hz
    | some is =>
      rw [q2] at hz
      cases is with
      | nil => cases hz
      | cons m is =>
        cases hz
        obtain ⟨p, vs, rfl, h2, h3, h4⟩ := rL_tup hx
        have ev := ints_ok h4 q2
        subst ev
        exact ⟨p, m, is, rfl, tupT R.same h2, k w H (Wle.refl _) R _ (.inl ⟨.int _, fun _ z => nomatch z⟩)⟩
  | _ => cases hz
/-- max(l, default=d), l a list of ints -/
def rMaxDf (K : PySem.W.Frag) : List V → List V → Hp → VK → Prop := fun vs zs H Q => ∃ (a : Addr) (d : V) (is : List Int), vs = [V.ref a] ∧ zs = [d] ∧ SqL K H a (is.map V.int) ∧ Q (match is with
  | [] => d
  | m :: is => .int (maxI m is)) H
theorem cr_maxDf (hc : X.calm = true) (hu : X.A.units + 65 < cLine) : CallRK X (.builtin "max") [Str.ofString "default"] (rMaxDf X.K) := by
  intro pins s σ H vs zs us ws Q I r r2 ⟨a, d, is, e, e2, hT, q⟩
  subst e e2
  obtain ⟨its, rv, pt, z⟩ := I.list hT
  rw [Vals.ref1 r]
  obtain ⟨u, rfl, ru⟩ := Vals.one r2
  refine PySem.W.max_list_default (d := u) (xs := is.map PyData.int) (as := []) (I.ok.hd hc) pt.isList (reads_ints rv) (alike_is is) ?_ (fun e h' tk hk => ?_) fun y ys i v h' tk bs e hi hr hk => ?_
  · rw [dep_is]
    omega
  · cases is with
    | nil => exact ⟨d, H, I.kept (t' := tk) hk, ru, q⟩
    | cons _ _ => cases e
  · cases is with
    | nil => cases e
    | cons m is =>
      cases e
      rw [maxD_ints] at hr
      exact ⟨.int _, H, I.kept (t' := tk) hk, reads_int hr, q⟩
theorem s_maxd (hc : X.calm = true) (hu : X.A.units + 65 < cLine) {a b : Expr} {s t : Tm} {p pos kpos : Pos} (hg : Gl X "max") (hm : X.mg "max" = none) (ha : PE X a (rd X.K Ω Wi (rE X.K) s)) (hb : PE X b (rd X.K Ω Wi (rE X.K) t)) (hp : plainA a = true) :
    PE X (.Call (.Name "max" p) [a] [⟨some (Str.ofString "default"), b, kpos⟩] pos) (rd X.K Ω Wi (rE X.K) (.bi .maxd (.cons s (.cons t .nil)))) := by
  have he := pe_callBK (cr_maxDf hc hu) hg hm (by decide +kernel) (pa_cons ha pa_nil (star_plain hp)) (pk_cons (nm := some (Str.ofString "default")) (kpos := kpos) hb pk_nil) (p := p) (pos := pos) (he := by rw [star_plain hp]; rfl) (hpl := by rw [star_plain hp]; rfl)
  refine PE.imp he fun σ H Q ⟨G, w, ρ, S, R, P⟩ => ⟨G, w, ρ, S, R, (Post.bind (r := ev Ω ρ s S) (f := fun x S1 => (ev Ω ρ t S1).bind fun y S2 => Res.of S2 (biOp .maxd S2 [x, y])) (by
    have P : Post X.K G ρ σ Wi w (((ev Ω ρ s S).bind fun x S1 => ((ev Ω ρ t S1).bind fun y S2 => .ok [y] S2).bind fun xs S2 => .ok (x :: xs) S2).bind fun xs S1 => Res.of S1 (biOp .maxd S1 xs)) _ := P
    revert P
    cases ev Ω ρ s S with
    | ok d S1 =>
      show Post X.K G ρ σ Wi w ((((ev Ω ρ t S1).bind fun y S2 => Res.ok [y] S2).bind fun xs S2 => .ok (d :: xs) S2).bind fun xs S1 => Res.of S1 (biOp .maxd S1 xs)) _ → Post X.K G ρ σ Wi w ((ev Ω ρ t S1).bind fun y S2 => Res.of S2 (biOp .maxd S2 [d, y])) _
      cases ev Ω ρ t S1 <;> exact fun P => P
    | _ => exact fun P => P)).imp fun d S1 w1 H1 e1 R1 P1 x hx => ⟨G, w1, ρ, S1, R1, (Post.bind P1).imp fun d2 S2 w2 H2 e2 R2 P2 y hy => ?_⟩⟩
  obtain ⟨z, hz, k⟩ := Post.of P2
  have hz : (asL S2 d).bind (fun xs => match intsD xs with
    | some (m :: is) => some (D.int (maxI m is))
    | some [] => some d2
    | none => none) = some z := hz
  rw [Option.bind_eq_some_iff] at hz
  obtain ⟨xs, q, hz⟩ := hz
  obtain ⟨a, vs, rfl, h2, h3, h4⟩ := asL_ok (σ := σ) (ρ := ρ) R2 (seen_E e2 hx) q
  cases q2 : intsD xs with
  | none =>
    rw [q2] at hz
    cases hz
  | some is =>
    rw [q2] at hz
    have ev := ints_ok h4 q2
    subst ev
    refine ⟨a, y, is, rfl, rfl, .inl (.inl h2), ?_⟩
    cases is with
    | nil =>
      cases hz
      exact k w2 H2 (Wle.refl _) R2 _ hy
    | cons m is =>
      cases hz
      exact k w2 H2 (Wle.refl _) R2 _ (.int _)
/-! ### sorted, by data -/
def rSrt (K : PySem.W.Frag) : List V → Hp → VK → Prop := fun vs H Q => ∃ (a : Addr) (xs : List V) (ps : List PyData), vs = [V.ref a] ∧ SqL K H a xs ∧ DpAll K H xs ps ∧ srtOk ps = true ∧ ∀ p, H p = none → Q (.ref p) (upd H p (.lst (((ps.zip xs).mergeSort (PySem.W.dataLe false (·.1))).map (·.2))))
theorem srt_facts {ps : List PyData} (h : srtOk ps = true) : PySem.W.AllAlike ps ∧ PySem.W.Sortable ps ∧ ∀ p ∈ ps, p.depth ≤ 60 := by
  unfold srtOk at h
  rw [Bool.and_eq_true, Bool.and_eq_true] at h
  obtain ⟨⟨h1, h2⟩, h3⟩ := h
  refine ⟨fun d hd d' hd' => List.all_eq_true.mp (List.all_eq_true.mp h1 d hd) d' hd', ?_, fun p hp => of_decide_eq_true (List.all_eq_true.mp h3 p hp)⟩
  rw [Bool.or_eq_true] at h2
  rcases h2 with h2 | h2
  · refine .inl fun d hd => ?_
    have := List.all_eq_true.mp h2 d hd
    split at this
    · exact ⟨_, _, rfl⟩
    · cases this
  · refine .inr fun d hd => ?_
    have := List.all_eq_true.mp h2 d hd
    split at this
    · cases this
    · cases this
    · rename_i n1 n2
      exact ⟨n1, n2⟩
theorem dps_len {K : PySem.W.Frag} {H : Hp} : ∀ {xs : List V} {ps : List PyData}, DpAll K H xs ps → xs.length = ps.length
  | _, _, .nil => rfl
  | _, _, .cons _ t => by rw [List.length_cons, List.length_cons, dps_len t]
theorem each_zip {pins : List (Addr × Obj)} {s : Shared} {σ : L2.St} {H : Hp} (I : Inv X pins σ H s) : ∀ {xs : List V} {ps : List PyData} {its : List Value}, DpAll X.K H xs ps → Vals xs its →
    PySem.W.EachIs (fun (v : Value) (b : PyData × V) => RelV b.2 v) its (ps.zip xs) ∧ PySem.W.EachIs (fun (v : Value) (b : PyData × V) => ∃ as, Reads s.heap v b.1 as) its (ps.zip xs)
  | _, _, _, .nil, .nil => ⟨.nil, .nil⟩
  | _, _, _, .cons d t, .cons r rs => by
    obtain ⟨h1, h2⟩ := each_zip I t rs
    exact ⟨.cons r h1, .cons (Dp.reads I _ _ _ d r) h2⟩
theorem each_vals : ∀ {out : List Value} {bs : List (PyData × V)}, PySem.W.EachIs (fun (v : Value) (b : PyData × V) => RelV b.2 v) out bs → Vals (bs.map (·.2)) out
  | _, _, .nil => .nil
  | _, _, .cons r t => .cons r (each_vals t)
theorem zip_fst {α β : Type} : ∀ {ps : List α} {xs : List β}, xs.length = ps.length → (ps.zip xs).map (·.1) = ps
  | [], _, _ => rfl
  | p :: ps, [], h => by cases h
  | p :: ps, x :: xs, h => by
    rw [List.zip_cons_cons, List.map_cons, zip_fst (Nat.succ.inj h)]
theorem cr_srt (hu : X.A.units + 65 < cLine) : CallR X (.builtin "sorted") (rSrt X.K) := by
  intro pins s σ H vs us Q I r ⟨a, xs, ps, e, hs, dp, ok, q⟩
  subst e
  obtain ⟨its, rv, pl, z⟩ := I.list hs
  rw [Vals.ref1 r]
  obtain ⟨h1, h2, h3⟩ := srt_facts ok
  have hl := dps_len dp
  have ez := zip_fst hl
  obtain ⟨e1, e2⟩ := each_zip I dp rv
  have hlen : (ps.zip xs).length = xs.length := by rw [List.length_zip, hl, Nat.min_self]
  refine PySem.W.sorted_data (enc := fun b : PyData × V => b.1) pl.isList e1 e2 (by rw [show (ps.zip xs).map (fun b : PyData × V => b.1) = ps from ez]; exact h1) (by rw [show (ps.zip xs).map (fun b : PyData × V => b.1) = ps from ez]; exact h2) (by rw [hlen]; exact z) (fun b hb => ?_) fun out ho eo => ?_
  · have := h3 b.1 (by rw [← ez]; exact List.mem_map_of_mem hb)
    omega
  · obtain ⟨c, hc⟩ := sortedAll_at s.heap its out.toArray
    have rv2 := each_vals eo
    refine ⟨.ref (s.heap.objs.size + 1), _, I.laid (a := s.heap.objs.size + 1) (o := .lst (((ps.zip xs).mergeSort (PySem.W.dataLe false (·.1))).map (·.2))) (t' := s.toks) (fun b u q => sortedAll_old q) (Nat.le_succ _) ⟨?_, out, c, rv2, hc⟩, rfl, q _ (I.hok.fresh (Nat.le_succ _))⟩
    rw [List.length_map, List.length_mergeSort, hlen]
    exact z
theorem rp_zip {K : PySem.W.Frag} {w : Wd} : ∀ {vs : List V} {ds : List D} (ps : List PyData), RpAll K w vs ds → Paired (fun (a : PyData × V) (b : PyData × D) => a.1 = b.1 ∧ Rp K w a.2 b.2) (ps.zip vs) (ps.zip ds)
  | _, _, [], _ => by
    rw [List.zip_nil_left, List.zip_nil_left]
    exact .nil
  | _, _, p :: ps, .nil => .nil
  | _, _, p :: ps, .cons r t => .cons ⟨rfl, r⟩ (rp_zip ps t)
theorem paired_each {α β : Type} {F : α → β → Prop} : ∀ {l₁ : List α} {l₂ : List β}, Paired F l₁ l₂ → PySem.W.EachIs F l₁ l₂
  | _, _, .nil => .nil
  | _, _, .cons r t => .cons r (paired_each t)
/-- merge sort of two rows that go together -/
theorem rp_sort {K : PySem.W.Frag} {w : Wd} {rev : Bool} {vs : List V} {ds : List D} (ps : List PyData) (r : RpAll K w vs ds) : RpAll K w (((ps.zip vs).mergeSort (PySem.W.dataLe rev (·.1))).map (·.2)) (srtL rev ps ds) := by
  -- the triples
  let ts : List (PyData × (V × D)) := ps.zip (vs.zip ds)
  have hl := r.length
  have ev : ps.zip vs = ts.map fun t => (t.1, t.2.1) := by
    show _ = (ps.zip (vs.zip ds)).map _
    clear ts
    revert ps
    clear r
    revert ds
    induction vs with
    | nil =>
      intro ds hl ps
      cases ds with
      | nil => cases ps <;> rfl
      | cons _ _ => cases hl
    | cons v vs ih =>
      intro ds hl ps
      cases ds with
      | nil => cases hl
      | cons d ds =>
        cases ps with
        | nil => rfl
        | cons p ps =>
          rw [List.zip_cons_cons, List.zip_cons_cons, List.zip_cons_cons, List.map_cons, ih (Nat.succ.inj hl)]
  have ed : ps.zip ds = ts.map fun t => (t.1, t.2.2) := by
    show _ = (ps.zip (vs.zip ds)).map _
    clear ts ev
    revert ps
    clear r
    revert ds
    induction vs with
    | nil =>
      intro ds hl ps
      cases ds with
      | nil => cases ps <;> rfl
      | cons _ _ => cases hl
    | cons v vs ih =>
      intro ds hl ps
      cases ds with
      | nil => cases hl
      | cons d ds =>
        cases ps with
        | nil => rfl
        | cons p ps =>
          rw [List.zip_cons_cons, List.zip_cons_cons, List.zip_cons_cons, List.map_cons, ih (Nat.succ.inj hl)]
  have hr : ∀ t ∈ ts, Rp K w t.2.1 t.2.2 := by
    have : ∀ {vs : List V} {ds : List D}, RpAll K w vs ds → ∀ p ∈ vs.zip ds, Rp K w p.1 p.2 := fun {vs ds} r => by
      induction ds generalizing vs with
      | nil =>
        cases r
        intro p hp
        cases hp
      | cons d ds ih =>
        cases r with
        | cons r1 r2 =>
          intro p hp
          rcases List.mem_cons.mp hp with h | h
          · rw [h]
            exact r1
          · exact ih r2 p h
    exact fun t ht => this r t.2 (List.of_mem_zip ht).2
  unfold srtL
  rw [ev, ed]
  have m1 : (ts.map fun t => (t.1, t.2.1)).mergeSort (PySem.W.dataLe rev (·.1)) = (ts.mergeSort (PySem.W.dataLe rev (·.1))).map fun t => (t.1, t.2.1) := by
    rw [List.map_mergeSort]
    intro a _ b _
    rfl
  have m2 : (ts.map fun t => (t.1, t.2.2)).mergeSort (PySem.W.dataLe rev (·.1)) = (ts.mergeSort (PySem.W.dataLe rev (·.1))).map fun t => (t.1, t.2.2) := by
    rw [List.map_mergeSort]
    intro a _ b _
    rfl
  rw [m1, m2, List.map_map, List.map_map]
  have hm : ∀ t ∈ ts.mergeSort (PySem.W.dataLe rev (·.1)), Rp K w t.2.1 t.2.2 := fun t ht => hr t (List.mem_mergeSort.mp ht)
  revert hm
  generalize ts.mergeSort (PySem.W.dataLe rev (·.1)) = us
  intro hm
  induction us with
  | nil => exact .nil
  | cons u us ih => exact .cons (hm u List.mem_cons_self) (ih fun t ht => hm t (List.mem_cons_of_mem _ ht))
theorem srtL_len {rev : Bool} {ps : List PyData} {xs : List D} : (srtL rev ps xs).length ≤ xs.length := by
  unfold srtL
  rw [List.length_map, List.length_mergeSort, List.length_zip]
  exact Nat.min_le_right _ _
theorem s_srt (hu : X.A.units + 65 < cLine) {a : Expr} {t : Tm} {p pos : Pos} (hg : Gl X "sorted") (hm : X.mg "sorted" = none) (ha : PE X a (rd X.K Ω Wi (rL X.K) t)) (hp : plainA a = true) : PE X (.Call (.Name "sorted" p) [a] [] pos) (rdF X.K Ω Wi (.srt t)) :=
  PE.imp (pe_callB (cr_srt hu) hg hm (by decide +kernel) (pa_cons ha pa_nil (star_plain hp)) (he := star_plain hp)) fun σ H Q ⟨G, w, ρ, S, R, P⟩ => ⟨G, w, ρ, S, R, (Post.bind P).imp fun d S1 w1 H1 e1 R1 P1 x hx => by
    obtain ⟨z, hz, k⟩ := Post.of P1
    rw [Option.bind_eq_some_iff] at hz
    obtain ⟨xs, q, hz⟩ := hz
    rw [Option.bind_eq_some_iff] at hz
    obtain ⟨ps, q2, hz⟩ := hz
    obtain ⟨a, vs, rfl, h2, h3, h4⟩ := asL_ok R1 hx q
    by_cases c : srtOk ps = true
    · rw [if_pos c] at hz
      cases hz
      have hr := rp_sort (rev := false) ps h4
      exact ⟨a, vs, ps, rfl, .inl (.inl h2), h4.dp R1.same q2, c, fun p hp => k w1 _ (Wle.refl _) (R1.raw hp) _ (.inr (raw_fresh R1 hp (by
        rw [hr.length]
        refine Nat.le_trans srtL_len ?_
        rw [← h4.length]
        exact h3) hr))⟩
    · rw [if_neg c] at hz
      cases hz⟩
theorem RpAll.reverse {K : PySem.W.Frag} {w : Wd} : ∀ {vs : List V} {ds : List D}, RpAll K w vs ds → RpAll K w vs.reverse ds.reverse
  | _, _, .nil => .nil
  | _, _, .cons r t => by
    rw [List.reverse_cons, List.reverse_cons]
    exact (RpAll.reverse t).append (.cons r .nil)
theorem s_rev {a : Expr} {t : Tm} {k : Nat} {p1 p2 p3 pos : Pos} (ha : PE X a (rd X.K Ω Wi (rB X.K) t)) : PE X (.Subscript a (.Slice none none (some (.UnaryOp .USub (.Constant (.int 1) k p1) p2)) p3) pos) (rdF X.K Ω Wi (.rev t)) :=
  PE.imp (pe_revL ha) fun σ H Q ⟨G, w, ρ, S, R, P⟩ => ⟨G, w, ρ, S, R, (Post.bind P).imp fun d S1 w1 H1 e1 R1 P1 x hx => by
    obtain ⟨z, hz, k⟩ := Post.of P1
    rw [Option.map_eq_some_iff] at hz
    obtain ⟨xs, q, rfl⟩ := hz
    obtain ⟨a, vs, rfl, h2, h3, h4⟩ := asL_ok R1 (seen_B R1 (Wle.refl _) hx) q
    exact ⟨a, vs, rfl, .inl (.inl h2), fun p hp => k w1 _ (Wle.refl _) (R1.raw hp) _ (.inr (raw_fresh R1 hp (by rw [List.length_reverse]; exact h3) h4.reverse))⟩⟩
/-! ### methods of built-in types -/
theorem base_plain {o : Expr} {f : Str} {env : PySem.Env} {whole : Sem Value} (h : plainB o = true) : attributeBase o f env whole = whole := by
  cases o with
  | Call fn as kw p =>
    cases fn with
    | Name x q =>
      cases as with
      | nil =>
        cases kw with
        | nil => cases h
        | cons _ _ => rfl
      | cons _ _ => rfl
    | _ => rfl
  | _ => rfl
theorem few_ok {env : PySem.Env} {cpos : Pos} {es : List Expr} (h : es.all plainA = true) (hl : es.length < 30) : ((backTo cpos (starEach es env)).all (fun x => !x.1) && (backToKw cpos (keywordEach [] env)).all (fun x => x.1.isSome) && decide (es.length + ([] : List Keyword).length + (if ([] : List Keyword).isEmpty then 0 else 1) < 30)) = true := by
  have h1 : (backTo cpos (starEach es env)).all (fun x => !x.1) = true := by
    clear hl
    induction es with
    | nil => rfl
    | cons e r ih =>
      obtain ⟨h1, h2⟩ := Bool.and_eq_true_iff.mp (show (plainA e && r.all plainA) = true from h)
      rw [star_plain h1]
      show (true && (backTo cpos (starEach r env)).all fun x => !x.1) = true
      rw [ih h2]
      rfl
  rw [h1]
  have h2 : decide (es.length + ([] : List Keyword).length + (if ([] : List Keyword).isEmpty then 0 else 1) < 30) = true := decide_eq_true (by show es.length + 0 + 0 < 30; omega)
  rw [h2]
  rfl
theorem mth_post {K : PySem.W.Frag} {G : Gu} {w : Wd} {ρ : Env} {S : Sto} {σ : L2.St} {m : Mth} {d : D} {ds : List D} {k : D → Sto → Wd → Hp → Prop} (P : Post K G ρ σ Wi w (match mthOp m S d ds with
    | some (d, S3) => .ok d S3
    | none => .stk) k) : ∃ z S', mthOp m S d ds = some (z, S') ∧ ∀ w' H', Wle w w' → Rel K G w' ρ S' σ H' → k z S' w' H' := by
  cases q : mthOp m S d ds with
  | none =>
    rw [q] at P
    exact P.elim
  | some z =>
    obtain ⟨z, S'⟩ := z
    rw [q] at P
    exact ⟨z, S', rfl, P⟩
/-- a method with arguments -/
theorem s_mth0 {o e : Expr} {es : List Expr} {s t : Tm} {m : Mth} {nm : Str} {T id : String} {r : V → List V → Hp → VK → Prop} {ap pos : Pos} (pa : PlainAttrs T) (slot : Slot T nm id) (hty : typeOf (.builtin id) = pure (.type "method_descriptor")) (hm : MtR X id r)
    (ho : PE X o (rd X.K Ω Wi (rB X.K) s)) (ha : PA X (e :: es) (rdA X.K Ω Wi t)) (hb : plainB o = true) (hp : (e :: es).all plainA = true) (h30 : (e :: es).length < 30) (hl : (ap.endLine == pos.line) = true)
    (ty : ∀ (G : Gu) (w : Wd) (ρ : Env) (S : Sto) (σ : L2.St) (H : Hp) (x : V) (d : D), Rel X.K G w ρ S σ H → rL X.K w σ ρ H x d → mthTy m S d = true → tyV X.K T x H)
    (ok : ∀ (G : Gu) (w : Wd) (ρ : Env) (S S' : Sto) (σ : L2.St) (H : Hp) (x : V) (xs : List V) (d z : D) (ds : List D) (Q : VK), Rel X.K G w ρ S σ H → rL X.K w σ ρ H x d → RpAll X.K w xs ds → mthOp m S d ds = some (z, S') →
      (∀ w' H', Wle w w' → Rel X.K G w' ρ S' σ H' → ∀ v, (Rp X.K w' v z ∧ ∀ xs, z ≠ .lst xs) ∨ rF X.K G w' H' v z → Q v H') → r x xs H Q) :
    PE X (.Call (.Attribute o nm ap) (e :: es) [] pos) (rdF X.K Ω Wi (.mth m s t)) := by
  obtain ⟨p1, p2⟩ := Bool.and_eq_true_iff.mp (show (plainA e && es.all plainA) = true from hp)
  refine PE.imp (pe_bm pa slot hty hm ho ha (base_plain hb) (few_ok hp h30) hl (star_plain p1) (pl_any p2)) fun σ H Q ⟨G, w, ρ, S, R, P⟩ => ⟨G, w, ρ, S, R, (Post.bind P).imp fun d S1 w1 H1 e1 R1 P1 x hx => ?_⟩
  by_cases c : mthTy m S1 d = true
  · rw [if_pos c] at P1
    refine ⟨ty G w1 ρ S1 σ H1 x d R1 (seen_B R1 (Wle.refl _) hx) c, G, w1, ρ, S1, R1, (Post.bind P1).imp fun ds S2 w2 H2 e2 R2 P2 xs hxs => ?_⟩
    obtain ⟨z, S', hz, k⟩ := mth_post P2
    exact ok G w2 ρ S2 S' σ H2 x xs d z ds Q R2 (seen_B R2 e2 hx) hxs hz fun w' H' e' R' v hv => k w' H' e' R' v hv
  · rw [if_neg c] at P1
    exact P1.elim
theorem ty_str {m : Mth} (h : ∀ S d, mthTy m S d = true → ∃ z, d = .str z) (G : Gu) (w : Wd) (ρ : Env) (S : Sto) (σ : L2.St) (H : Hp) (x : V) (d : D) (_R : Rel X.K G w ρ S σ H) (hx : rL X.K w σ ρ H x d) (c : mthTy m S d = true) : tyV X.K "str" x H := by
  obtain ⟨z, rfl⟩ := h S d c
  rw [(rL_str hx).1]
  rfl
theorem ty_lst {m : Mth} (h : ∀ S d, mthTy m S d = true → ∃ xs, asL S d = some xs) (G : Gu) (w : Wd) (ρ : Env) (S : Sto) (σ : L2.St) (H : Hp) (x : V) (d : D) (R : Rel X.K G w ρ S σ H) (hx : rL X.K w σ ρ H x d) (c : mthTy m S d = true) : tyV X.K "list" x H := by
  obtain ⟨xs, e⟩ := h S d c
  obtain ⟨p, vs, rfl, h2, _⟩ := asL_ok R hx e
  exact .inl ⟨rfl, vs, .inl (.inl h2)⟩
theorem loc_lst {S : Sto} {d : D} (c : (match d with
    | .loc l => match S[l]? with
      | some (.lst _) => true
      | _ => false
    | _ => false) = true) : ∃ l xs, d = .loc l ∧ S[l]? = some (.lst xs) := by
  cases d with
  | loc l =>
    have c : (match S[l]? with
      | some (.lst _) => true
      | _ => false) = true := c
    cases q : S[l]? with
    | none =>
      rw [q] at c
      cases c
    | some u =>
      rw [q] at c
      cases u with
      | lst xs => exact ⟨l, xs, rfl, q⟩
      | _ => cases c
  | _ => cases c
theorem loc_asL {S : Sto} {l : Nat} {xs : List D} (h : S[l]? = some (.lst xs)) : asL S (.loc l) = some xs := by
  show (match S[l]? with
    | some (.lst xs) => some xs
    | _ => none) = _
  rw [h]
theorem rp_strs {K : PySem.W.Frag} {w : Wd} : ∀ {zs : List Str}, zs.all (fun z => decide (z.length ≤ sizeLine)) = true → RpAll K w (zs.map V.str) (zs.map D.str)
  | [], _ => .nil
  | z :: zs, h => by
    obtain ⟨h1, h2⟩ := Bool.and_eq_true_iff.mp (show (decide (z.length ≤ sizeLine) && zs.all fun z => decide (z.length ≤ sizeLine)) = true from h)
    exact .cons (.str _ (of_decide_eq_true h1)) (rp_strs h2)
theorem one_arg {K : PySem.W.Frag} {w : Wd} {xs : List V} {d : D} (h : RpAll K w xs [d]) : ∃ v, xs = [v] ∧ Rp K w v d := by
  cases h with
  | cons r t =>
    cases t
    exact ⟨_, rfl, r⟩
theorem two_arg {K : PySem.W.Frag} {w : Wd} {xs : List V} {d e : D} (h : RpAll K w xs [d, e]) : ∃ v u, xs = [v, u] ∧ Rp K w v d ∧ Rp K w u e := by
  cases h with
  | cons r t =>
    obtain ⟨u, rfl, q⟩ := one_arg t
    exact ⟨_, _, rfl, r, q⟩
section
variable {o e : Expr} {es : List Expr} {s t : Tm} {ap pos : Pos}
theorem s_split (ho : PE X o (rd X.K Ω Wi (rB X.K) s)) (ha : PA X (e :: es) (rdA X.K Ω Wi t)) (hb : plainB o = true) (hp : (e :: es).all plainA = true) (h30 : (e :: es).length < 30) (hl : (ap.endLine == pos.line) = true) :
    PE X (.Call (.Attribute o "split" ap) (e :: es) [] pos) (rdF X.K Ω Wi (.mth .split s t)) := by
  refine s_mth0 (T := "str") PySem.F.plainAttrs_str PySem.F.slot_str_split PySem.F.type_str_split mt_split ho ha hb hp h30 hl (ty_str fun S d c => ?_) fun G w ρ S S' σ H x xs d z ds Q R hx hxs hz k => ?_
  · cases d <;> first | exact ⟨_, rfl⟩ | cases c
  · have go : ∃ a b, d = .str a ∧ ds = [.str b] := by
      rcases ds with _ | ⟨b, _ | ⟨_, _⟩⟩
      · cases hz
      · cases b <;> first | (cases hz; done) | (cases d <;> first | exact ⟨_, _, rfl, rfl⟩ | cases hz)
      · cases b <;> cases hz
    obtain ⟨a, b, rfl, rfl⟩ := go
    obtain ⟨v, rfl, rv⟩ := one_arg hxs
    cases rv
    have hz : (if (b.length == 0) = false ∧ a.length + 2 ≤ sizeLine ∧ (Txt.split a b).length ≤ sizeLine ∧ (Txt.split a b).all (fun z => decide (z.length ≤ sizeLine)) = true then some (D.lst ((Txt.split a b).map .str), S) else none) = some (z, S') := hz
    by_cases c : (b.length == 0) = false ∧ a.length + 2 ≤ sizeLine ∧ (Txt.split a b).length ≤ sizeLine ∧ (Txt.split a b).all (fun z => decide (z.length ≤ sizeLine)) = true
    · rw [if_pos c] at hz
      cases hz
      exact ⟨a, b, (rL_str hx).1, rfl, c.1, c.2.1, fun p hp => k w _ (Wle.refl _) (R.raw hp) _ (.inr (raw_fresh R hp (by rw [List.length_map]; exact c.2.2.1) (rp_strs c.2.2.2)))⟩
    · rw [if_neg c] at hz
      cases hz
theorem s_splitN (ho : PE X o (rd X.K Ω Wi (rB X.K) s)) (ha : PA X (e :: es) (rdA X.K Ω Wi t)) (hb : plainB o = true) (hp : (e :: es).all plainA = true) (h30 : (e :: es).length < 30) (hl : (ap.endLine == pos.line) = true) :
    PE X (.Call (.Attribute o "split" ap) (e :: es) [] pos) (rdF X.K Ω Wi (.mth .splitN s t)) := by
  refine s_mth0 (T := "str") PySem.F.plainAttrs_str PySem.F.slot_str_split PySem.F.type_str_split mt_splitMax ho ha hb hp h30 hl (ty_str fun S d c => ?_) fun G w ρ S S' σ H x xs d z ds Q R hx hxs hz k => ?_
  · cases d <;> first | exact ⟨_, rfl⟩ | cases c
  · have go : ∃ a b i, d = .str a ∧ ds = [.str b, .int i] := by
      rcases ds with _ | ⟨b, _ | ⟨i, _ | ⟨_, _⟩⟩⟩
      · cases hz
      · cases b <;> cases hz
      · cases b <;> first | (cases hz; done) | (cases i <;> first | (cases hz; done) | (cases d <;> first | exact ⟨_, _, _, rfl, rfl⟩ | cases hz))
      · cases b <;> first | (cases hz; done) | (cases i <;> cases hz)
    obtain ⟨a, b, i, rfl, rfl⟩ := go
    obtain ⟨v, u, rfl, rv, ru⟩ := two_arg hxs
    cases rv
    cases ru
    have hz : (if (b.length == 0) = false ∧ -(2 ^ 63) ≤ i ∧ i < 2 ^ 63 ∧ a.length + 2 ≤ sizeLine ∧ (Txt.splitMax a b i).length ≤ sizeLine ∧ (Txt.splitMax a b i).all (fun z => decide (z.length ≤ sizeLine)) = true then some (D.lst ((Txt.splitMax a b i).map .str), S) else none) = some (z, S') := hz
    by_cases c : (b.length == 0) = false ∧ -(2 ^ 63) ≤ i ∧ i < 2 ^ 63 ∧ a.length + 2 ≤ sizeLine ∧ (Txt.splitMax a b i).length ≤ sizeLine ∧ (Txt.splitMax a b i).all (fun z => decide (z.length ≤ sizeLine)) = true
    · rw [if_pos c] at hz
      cases hz
      exact ⟨a, b, i, (rL_str hx).1, rfl, c.1, c.2.1, c.2.2.1, c.2.2.2.1, fun p hp => k w _ (Wle.refl _) (R.raw hp) _ (.inr (raw_fresh R hp (by rw [List.length_map]; exact c.2.2.2.2.1) (rp_strs c.2.2.2.2.2)))⟩
    · rw [if_neg c] at hz
      cases hz
theorem s_part (ho : PE X o (rd X.K Ω Wi (rB X.K) s)) (ha : PA X (e :: es) (rdA X.K Ω Wi t)) (hb : plainB o = true) (hp : (e :: es).all plainA = true) (h30 : (e :: es).length < 30) (hl : (ap.endLine == pos.line) = true) :
    PE X (.Call (.Attribute o "partition" ap) (e :: es) [] pos) (rdF X.K Ω Wi (.mth .part s t)) := by
  refine s_mth0 (T := "str") PySem.F.plainAttrs_str PySem.F.slot_str_partition PySem.F.type_str_partition mt_partition ho ha hb hp h30 hl (ty_str fun S d c => ?_) fun G w ρ S S' σ H x xs d z ds Q R hx hxs hz k => ?_
  · cases d <;> first | exact ⟨_, rfl⟩ | cases c
  · have go : ∃ a b, d = .str a ∧ ds = [.str b] := by
      rcases ds with _ | ⟨b, _ | ⟨_, _⟩⟩
      · cases hz
      · cases b <;> first | (cases hz; done) | (cases d <;> first | exact ⟨_, _, rfl, rfl⟩ | cases hz)
      · cases b <;> cases hz
    obtain ⟨a, b, rfl, rfl⟩ := go
    obtain ⟨v, rfl, rv⟩ := one_arg hxs
    cases rv
    have hz : (if (b.length == 0) = false ∧ a.length ≤ sizeLine ∧ (Txt.partition a b).1.length ≤ sizeLine ∧ (Txt.partition a b).2.1.length ≤ sizeLine ∧ (Txt.partition a b).2.2.length ≤ sizeLine then some (D.tup [.str (Txt.partition a b).1, .str (Txt.partition a b).2.1, .str (Txt.partition a b).2.2], S) else none) = some (z, S') := hz
    by_cases c : (b.length == 0) = false ∧ a.length ≤ sizeLine ∧ (Txt.partition a b).1.length ≤ sizeLine ∧ (Txt.partition a b).2.1.length ≤ sizeLine ∧ (Txt.partition a b).2.2.length ≤ sizeLine
    · rw [if_pos c] at hz
      cases hz
      exact ⟨a, b, (rL_str hx).1, rfl, c.1, c.2.1, fun p hp => k _ _ (Wle.put (R.F_none hp)) (R.born hp) _ (.inl ⟨.tup upd_same (by show 3 ≤ sizeLine; decide) (.cons (.str _ c.2.2.1) (.cons (.str _ c.2.2.2.1) (.cons (.str _ c.2.2.2.2) .nil))), fun _ z => nomatch z⟩)⟩
    · rw [if_neg c] at hz
      cases hz
theorem idxP_ok {p : PyData} : ∀ {ps : List PyData} {k : Nat}, idxP p ps = some k → ∃ z, ps[k]? = some z ∧ PyData.eqv z p = true ∧ ∀ (m : Nat) (z' : PyData), m < k → ps[m]? = some z' → PyData.eqv z' p = false
  | [], k, h => by cases h
  | q :: r, k, h => by
    have h : (if PyData.eqv q p = true then some 0 else (idxP p r).map (· + 1)) = some k := h
    by_cases c : PyData.eqv q p = true
    · rw [if_pos c] at h
      cases h
      exact ⟨q, rfl, c, fun m z' hm _ => absurd hm (Nat.not_lt_zero _)⟩
    · rw [if_neg c, Option.map_eq_some_iff] at h
      obtain ⟨j, h1, rfl⟩ := h
      obtain ⟨z, z1, z2, z3⟩ := idxP_ok h1
      refine ⟨z, by simpa using z1, z2, fun m z' hm hz' => ?_⟩
      cases m with
      | zero =>
        simp at hz'
        subst hz'
        cases q2 : PyData.eqv q p with
        | true => exact absurd q2 c
        | false => rfl
      | succ m => exact z3 m z' (by omega) (by simpa using hz')
theorem s_index (hu : X.A.units + 65 < cLine) (ho : PE X o (rd X.K Ω Wi (rB X.K) s)) (ha : PA X (e :: es) (rdA X.K Ω Wi t)) (hb : plainB o = true) (hp : (e :: es).all plainA = true) (h30 : (e :: es).length < 30) (hl : (ap.endLine == pos.line) = true) :
    PE X (.Call (.Attribute o "index" ap) (e :: es) [] pos) (rdF X.K Ω Wi (.mth .index s t)) := by
  refine s_mth0 (T := "list") PySem.F.plainAttrs_list PySem.F.slot_list_index PySem.F.type_list_index (mt_indexD hu) ho ha hb hp h30 hl (ty_lst fun S d c => ?_) fun G w ρ S S' σ H x xs d z ds Q R hx hxs hz k => ?_
  · exact Option.isSome_iff_exists.mp c
  · rcases ds with _ | ⟨b, _ | ⟨_, _⟩⟩
    · cases hz
    · have hz : ((asL S d).bind fun xs => (toP b).bind fun p => (toPs xs).bind fun ps => if SeqAt.shaped p && SeqAt.shaped (.list ps) then (idxP p ps).map fun k => (D.int (k : Nat), S) else none) = some (z, S') := hz
      rw [Option.bind_eq_some_iff] at hz
      obtain ⟨ys, h1, hz⟩ := hz
      rw [Option.bind_eq_some_iff] at hz
      obtain ⟨p, h2, hz⟩ := hz
      rw [Option.bind_eq_some_iff] at hz
      obtain ⟨ps, h3, hz⟩ := hz
      by_cases c : (SeqAt.shaped p && SeqAt.shaped (.list ps)) = true
      · rw [if_pos c, Option.map_eq_some_iff] at hz
        obtain ⟨j, h4, h5⟩ := hz
        cases h5
        obtain ⟨c1, c2⟩ := Bool.and_eq_true_iff.mp c
        obtain ⟨a, vs, rfl, g2, g3, g4⟩ := asL_ok R hx h1
        obtain ⟨v, rfl, rv⟩ := one_arg hxs
        obtain ⟨z, z1, z2, z3⟩ := idxP_ok h4
        exact ⟨a, v, p, ps, j, z, rfl, rfl, .lst (.inl (.inl g2)) (g4.dp R.same h3), rv.dp R.same h2, c2, c1, z1, z2, z3, k w H (Wle.refl _) R _ (.inl ⟨.int _, fun _ z => nomatch z⟩)⟩
      · rw [if_neg c] at hz
        cases hz
    · cases hz
end
end
end TX

set_option maxRecDepth 100000
set_option maxHeartbeats 4000000
/-! TX, part 6: repr, isinstance, join, targets, walks, comprehensions. -/
namespace TX
open PySem PySem.Spec PyProof.Rows L2 He

section
variable {X : Cx} {Ω : Orc} {Wi : WX}
/-! ### repr of data: no repr runs around -/
theorem cr_repr (hg : X.A.guards = some []) (hu : X.A.units + 66 < cLine) : CallR X (.builtin "repr") (fun xs H Q => ∃ x p, xs = [x] ∧ Dp X.K H x p ∧ p.showable = true ∧ SeqAt.shaped p = true ∧ p.shown.length + 64 ≤ sizeLine ∧ Q (.str p.shown) H) := by
  intro pins s σ H xs us Q I r h
  obtain ⟨x, p, rfl, hd, hs, hsh, hz, q⟩ := h
  obtain ⟨u, rfl, rx⟩ := vals1 r
  obtain ⟨as, rd⟩ := Dp.reads I p x u hd rx
  have hz' : p.shown.length ≤ sizeLine := Nat.le_trans (Nat.le_add_right _ _) hz
  have sh : (p.canLay0 && decide (p.depth ≤ 64)) = true := hsh
  obtain ⟨s1, s2⟩ := Bool.and_eq_true_iff.mp sh
  have dep : p.depth ≤ 64 := of_decide_eq_true s2
  have nod : p.hasDict = false := PyData.hasDict_of_canLay p s1
  cases hd with
  | non =>
    cases rx
    exact P.repr_of_none ⟨.str _, H, I.tok _, ⟨_, rfl⟩, q⟩
  | bl b =>
    cases rx
    exact P.repr_of_bool ⟨.str _, H, I.tok _, ⟨_, rfl⟩, q⟩
  | int i =>
    obtain ⟨t, rfl⟩ := rx
    have hs : decide (i.natAbs.log2 < 1920) = true := hs
    exact P.repr_of_int (of_decide_eq_true hs) ⟨.str _, H, I.tok _, ⟨_, rfl⟩, q⟩
  | str z =>
    obtain ⟨t, rfl⟩ := rx
    exact P.repr_of_str ⟨.str _, H, I.tok _, ⟨_, rfl⟩, q⟩ hz'
  | lst h1 h2 =>
    cases rx
    exact repr_of_reads' rd hs (PyData.noDict_hsm nod) hg (by omega) (fun _ _ e => e) (fun h' u tk hk => ⟨.str _, H, I.kept (t' := tk) hk, ⟨u, rfl⟩, q⟩) hz'
  | tup h1 h2 =>
    cases rx
    exact repr_of_reads' rd hs (PyData.noDict_hsm nod) hg (by omega) (fun _ _ e => e) (fun h' u tk hk => ⟨.str _, H, I.kept (t' := tk) hk, ⟨u, rfl⟩, q⟩) hz'
theorem s_repr (hgd : X.A.guards = some []) (hu : X.A.units + 66 < cLine) {a : Expr} {t : Tm} {p pos : Pos} (hg : Gl X "repr") (hm : X.mg "repr" = none) (ha : PE X a (rd X.K Ω Wi (rL X.K) t)) (hp : plainA a = true) : PE X (.Call (.Name "repr" p) [a] [] pos) (rd X.K Ω Wi (rE X.K) (.bi .repr (.cons t .nil))) := by
  refine rE_of (s_bi1 (pe_callB (cr_repr hgd hu) hg hm (by decide +kernel) (pa_cons ha pa_nil (star_plain hp)) (he := star_plain hp)) fun G w ρ S σ H x d z Q R hx hz k => ?_)
  have hz : ((toP (see S d)).bind fun p => if p.showable && SeqAt.shaped p && decide (p.shown.length + 64 ≤ sizeLine) then some (D.str p.shown) else none) = some z := by
    revert hz
    cases d <;> exact fun h => h
  cases q : toP (see S d) with
  | none =>
    rw [q] at hz
    cases hz
  | some p =>
    rw [q, Option.bind_some] at hz
    by_cases c : (p.showable && SeqAt.shaped p && decide (p.shown.length + 64 ≤ sizeLine)) = true
    · rw [if_pos c] at hz
      cases hz
      obtain ⟨c1, c3⟩ := Bool.and_eq_true_iff.mp c
      obtain ⟨c1, c2⟩ := Bool.and_eq_true_iff.mp c1
      have c3 := of_decide_eq_true c3
      exact ⟨x, p, rfl, see_dp R hx q, c1, c2, c3, k w H (Wle.refl _) R _ (.inl ⟨.str _ (by omega), fun _ z => nomatch z⟩)⟩
    · rw [if_neg c] at hz
      cases hz
/-! ### join -/
theorem s_join {o a : Expr} {s t : Tm} {ap pos : Pos} (ho : PE X o (rd X.K Ω Wi (rE X.K) s)) (ha : PE X a (rd X.K Ω Wi (rL X.K) t)) (hb : plainB o = true) (hp : plainA a = true) (hl : (ap.endLine == pos.line) = true) :
    PE X (.Call (.Attribute o "join" ap) [a] [] pos) (rd X.K Ω Wi (rE X.K) (.join s t)) :=
  PE.imp (pe_join ho ha (star_plain hp) (base_plain hb) hl) fun σ H Q ⟨G, w, ρ, S, R, P⟩ => ⟨G, w, ρ, S, R, (Post.bind P).imp fun d S1 w1 H1 e1 R1 P1 v hv => by
    cases d with
    | str z =>
      cases hv with
      | str _ hz =>
        refine ⟨⟨z, rfl⟩, G, w1, ρ, S1, R1, (Post.bind P1).imp fun d2 S2 w2 H2 e2 R2 P2 y hy => ?_⟩
        obtain ⟨r, hr, k⟩ := Post.of P2
        cases q : asL S2 d2 with
        | none =>
          rw [q] at hr
          cases hr
        | some ys =>
          rw [q, Option.bind_some] at hr
          cases q2 : strsD ys with
          | none =>
            rw [q2] at hr
            cases hr
          | some zs =>
            rw [q2, Option.bind_some] at hr
            by_cases c : joinLen z zs ≤ 16777216 ∧ (Txt.join z zs).length ≤ sizeLine
            · rw [if_pos c] at hr
              cases hr
              obtain ⟨p, vs, rfl, h2, h3, h4⟩ := asL_ok R2 hy q
              have ev := strs_ok h4 q2
              subst ev
              exact ⟨z, p, zs, rfl, rfl, .inl (.inl (.inl h2)), c.1, k w2 H2 (Wle.refl _) R2 _ (.str _ c.2)⟩
            · rw [if_neg c] at hr
              cases hr
    | _ => exact P1.elim⟩
/-! ### isinstance -/
theorem s_isi {a : Expr} {t : Tm} {p q pos : Pos} {T : String} {y : Str} {b : Bi} (hg : Gl X "isinstance") (hm : X.mg "isinstance" = none) (ha : PE X a (rd X.K Ω Wi (rL X.K) t)) (hp : plainA a = true)
    (hy : PE X (.Name y q) (tC (.ty T))) (ok : ∀ (S : Sto) (d z : D), biOp b S [d] = some z → ∃ c : Bool, z = .bl c ∧ ∀ (G : Gu) (w : Wd) (ρ : Env) (σ : L2.St) (H : Hp) (x : V), Rel X.K G w ρ S σ H → rL X.K w σ ρ H x d → ∃ U, TyX X.K H x (.type U) ∧ kitB U T = some c) :
    PE X (.Call (.Name "isinstance" p) [a, .Name y q] [] pos) (rd X.K Ω Wi (rE X.K) (.bi b (.cons t .nil))) := by
  have he := pe_callB call_isi hg hm (by decide +kernel) (pa_cons ha (pa_cons hy pa_nil) (star_plain hp)) (pos := pos) (p := p) (he := star_plain hp) (hpl := rfl)
  refine rE_of (s_bi1 (r := fun xs H Q => rIsi X.K (xs ++ [.ty T]) H Q) (PE.imp he fun σ H Q h => h) fun G w ρ S σ H x d z Q R hx hz k => ?_)
  obtain ⟨c, rfl, h⟩ := ok S d z hz
  obtain ⟨U, h1, h2⟩ := h G w ρ σ H x R hx
  exact ⟨x, .ty T, .type U, .type T, c, rfl, .ty T, h1, kit_ty h2, k w H (Wle.refl _) R _ (.inl ⟨.bl _, fun _ z => nomatch z⟩)⟩
theorem tyx_of {K : PySem.W.Frag} {G : Gu} {w : Wd} {ρ : Env} {S : Sto} {σ : L2.St} {H : Hp} (R : Rel K G w ρ S σ H) {x : V} {d : D} (hx : rL K w σ ρ H x d) (hl : ∀ l, d ≠ .loc l) (hs : ∀ l, d ≠ .scr l) (hw : ∀ l, d ≠ .wtp l) :
    ∃ U, TyX K H x (.type U) ∧ ((∃ xs, d = .lst xs) ∧ U = "list" ∨ (∃ xs, d = .tup xs) ∧ U = "tuple" ∨ ((∀ xs, d ≠ .lst xs) ∧ (∀ xs, d ≠ .tup xs) ∧ (U = "NoneType" ∨ U = "bool" ∨ U = "int" ∨ U = "str"))) := by
  cases d with
  | loc l => exact absurd rfl (hl l)
  | scr l => exact absurd rfl (hs l)
  | wtp l => exact absurd rfl (hw l)
  | lst xs =>
    obtain ⟨p, vs, rfl, h2, _⟩ := asL_ok (xs := xs) R hx rfl
    exact ⟨_, .base (.lst h2), .inl ⟨⟨xs, rfl⟩, rfl⟩⟩
  | tup xs =>
    obtain ⟨p, vs, rfl, h2, _⟩ := rL_tup hx
    have h2 : SqT K H p vs := tupT R.same h2
    refine ⟨"tuple", ?_, .inr (.inl ⟨⟨xs, rfl⟩, rfl⟩)⟩
    rcases h2 with (h2 | ⟨o, h2⟩) | ⟨o, its, n, h3, h4, _⟩
    · exact .base (.tup h2)
    · exact .fTuple h2
    · exact .kTuple h3 h4
  | non =>
    cases rL_non hx
    exact ⟨_, .base .non, .inr (.inr ⟨fun _ z => (nomatch z), fun _ z => (nomatch z), .inl rfl⟩)⟩
  | bl b =>
    cases rL_bl hx
    exact ⟨_, .base (.bl b), .inr (.inr ⟨fun _ z => (nomatch z), fun _ z => (nomatch z), .inr (.inl rfl)⟩)⟩
  | int b =>
    cases rL_int hx
    exact ⟨_, .base (.int b), .inr (.inr ⟨fun _ z => (nomatch z), fun _ z => (nomatch z), .inr (.inr (.inl rfl))⟩)⟩
  | str b =>
    obtain ⟨rfl, _⟩ := rL_str hx
    exact ⟨_, .base (.str b), .inr (.inr ⟨fun _ z => (nomatch z), fun _ z => (nomatch z), .inr (.inr (.inr rfl))⟩)⟩
theorem s_isList {a : Expr} {t : Tm} {p q pos : Pos} (hg : Gl X "isinstance") (hm : X.mg "isinstance" = none) (hg2 : Gl X "list") (hm2 : X.mg "list" = none) (ha : PE X a (rd X.K Ω Wi (rL X.K) t)) (hp : plainA a = true) :
    PE X (.Call (.Name "isinstance" p) [a, .Name "list" q] [] pos) (rd X.K Ω Wi (rE X.K) (.bi .isList (.cons t .nil))) :=
  s_isi (T := "list") hg hm ha hp (pe_bltn hg2 hm2 (by decide +kernel) rfl) fun S d z hz => by
    by_cases hl : ∃ l, d = .loc l
    · obtain ⟨l, rfl⟩ := hl
      have hz : (match S[l]? with
        | some (.lst _) => some (D.bl true)
        | _ => none) = some z := hz
      cases q : S[l]? with
      | none =>
        rw [q] at hz
        cases hz
      | some c =>
        rw [q] at hz
        cases c with
        | lst xs =>
          cases hz
          refine ⟨true, rfl, fun G w ρ σ H x R hx => ?_⟩
          obtain ⟨p, vs, rfl, h2, _⟩ := asL_ok (xs := xs) R hx (by show (match S[l]? with | some (.lst xs) => some xs | _ => none) = _; rw [q])
          exact ⟨"list", .base (.lst h2), by decide +kernel⟩
        | _ => cases hz
    · have hl : ∀ l, d ≠ .loc l := fun l z => hl ⟨l, z⟩
      by_cases hs : ∃ l, d = .scr l
      · obtain ⟨l, rfl⟩ := hs
        cases hz
      · have hs : ∀ l, d ≠ .scr l := fun l z => hs ⟨l, z⟩
        have hw : ∀ l, d ≠ .wtp l := fun l z => by
          subst z
          cases hz
        have go : ∃ c : Bool, z = .bl c ∧ ((∃ xs, d = .lst xs) ∧ c = true ∨ (∀ xs, d ≠ .lst xs) ∧ c = false) := by
          cases d with
          | loc l => exact absurd rfl (hl l)
          | scr l => exact absurd rfl (hs l)
          | wtp l => exact absurd rfl (hw l)
          | lst xs =>
            cases hz
            exact ⟨true, rfl, .inl ⟨⟨xs, rfl⟩, rfl⟩⟩
          | _ =>
            cases hz
            exact ⟨false, rfl, .inr ⟨fun _ z => (nomatch z), rfl⟩⟩
        obtain ⟨c, rfl, hc⟩ := go
        refine ⟨c, rfl, fun G w ρ σ H x R hx => ?_⟩
        obtain ⟨U, h1, h2⟩ := tyx_of R hx hl hs hw
        refine ⟨U, h1, ?_⟩
        rcases h2 with ⟨⟨xs, rfl⟩, rfl⟩ | ⟨⟨xs, rfl⟩, rfl⟩ | ⟨h3, h4, h5⟩
        · rcases hc with ⟨_, rfl⟩ | ⟨n, _⟩
          · decide +kernel
          · exact absurd rfl (n xs)
        · rcases hc with ⟨⟨_, n⟩, _⟩ | ⟨_, rfl⟩
          · cases n
          · decide +kernel
        · rcases hc with ⟨⟨xs, n⟩, _⟩ | ⟨_, rfl⟩
          · exact absurd n (h3 xs)
          · rcases h5 with rfl | rfl | rfl | rfl <;> decide +kernel
theorem s_isTup {a : Expr} {t : Tm} {p q pos : Pos} (hg : Gl X "isinstance") (hm : X.mg "isinstance" = none) (hg2 : Gl X "tuple") (hm2 : X.mg "tuple" = none) (ha : PE X a (rd X.K Ω Wi (rL X.K) t)) (hp : plainA a = true) :
    PE X (.Call (.Name "isinstance" p) [a, .Name "tuple" q] [] pos) (rd X.K Ω Wi (rE X.K) (.bi .isTup (.cons t .nil))) :=
  s_isi (T := "tuple") hg hm ha hp (pe_bltn hg2 hm2 (by decide +kernel) rfl) fun S d z hz => by
    by_cases hl : ∃ l, d = .loc l
    · obtain ⟨l, rfl⟩ := hl
      have hz : (match S[l]? with
        | some (.lst _) => some (D.bl false)
        | _ => none) = some z := hz
      cases q : S[l]? with
      | none =>
        rw [q] at hz
        cases hz
      | some c =>
        rw [q] at hz
        cases c with
        | lst xs =>
          cases hz
          refine ⟨false, rfl, fun G w ρ σ H x R hx => ?_⟩
          obtain ⟨p, vs, rfl, h2, _⟩ := asL_ok (xs := xs) R hx (by show (match S[l]? with | some (.lst xs) => some xs | _ => none) = _; rw [q])
          exact ⟨"list", .base (.lst h2), by decide +kernel⟩
        | _ => cases hz
    · have hl : ∀ l, d ≠ .loc l := fun l z => hl ⟨l, z⟩
      by_cases hs : ∃ l, d = .scr l
      · obtain ⟨l, rfl⟩ := hs
        cases hz
      · have hs : ∀ l, d ≠ .scr l := fun l z => hs ⟨l, z⟩
        have hw : ∀ l, d ≠ .wtp l := fun l z => by
          subst z
          cases hz
        have go : ∃ c : Bool, z = .bl c ∧ ((∃ xs, d = .tup xs) ∧ c = true ∨ (∀ xs, d ≠ .tup xs) ∧ c = false) := by
          cases d with
          | loc l => exact absurd rfl (hl l)
          | scr l => exact absurd rfl (hs l)
          | wtp l => exact absurd rfl (hw l)
          | tup xs =>
            cases hz
            exact ⟨true, rfl, .inl ⟨⟨xs, rfl⟩, rfl⟩⟩
          | _ =>
            cases hz
            exact ⟨false, rfl, .inr ⟨fun _ z => (nomatch z), rfl⟩⟩
        obtain ⟨c, rfl, hc⟩ := go
        refine ⟨c, rfl, fun G w ρ σ H x R hx => ?_⟩
        obtain ⟨U, h1, h2⟩ := tyx_of R hx hl hs hw
        refine ⟨U, h1, ?_⟩
        rcases h2 with ⟨⟨xs, rfl⟩, rfl⟩ | ⟨⟨xs, rfl⟩, rfl⟩ | ⟨h3, h4, h5⟩
        · rcases hc with ⟨⟨_, n⟩, _⟩ | ⟨_, rfl⟩
          · cases n
          · decide +kernel
        · rcases hc with ⟨_, rfl⟩ | ⟨n, _⟩
          · decide +kernel
          · exact absurd rfl (n xs)
        · rcases hc with ⟨⟨xs, n⟩, _⟩ | ⟨_, rfl⟩
          · exact absurd n (h4 xs)
          · rcases h5 with rfl | rfl | rfl | rfl <;> decide +kernel
end
end TX

set_option maxRecDepth 100000
set_option maxHeartbeats 4000000
/-! TX, part 7: targets, walks, comprehensions. -/
namespace TX
open PySem PySem.Spec PyProof.Rows L2 He

/-! ### targets -/
theorem wipe_set (σ : L2.St) (i : Nat) (v : Option V) : ∀ {ws : List Nat}, i ∈ ws → wipe (σ.set i v) ws = wipe σ ws
  | [], h => by cases h
  | j :: ws, h => by
    have len : ∀ (σ : L2.St) (ws : List Nat), (wipe σ ws).length = σ.length := fun σ ws => wipe_length σ ws
    by_cases e : i ∈ ws
    · show (wipe (σ.set i v) ws).set j none = (wipe σ ws).set j none
      rw [wipe_set σ i v e]
    · have e2 : i = j := by
        rcases List.mem_cons.mp h with h | h
        · exact h
        · exact absurd h e
      subst e2
      have comm : ∀ (ws : List Nat) (σ : L2.St), i ∉ ws → wipe (σ.set i v) ws = (wipe σ ws).set i v := fun ws => by
        induction ws with
        | nil => exact fun σ _ => rfl
        | cons k ws ih =>
          intro σ hn
          show (wipe (σ.set i v) ws).set k none = ((wipe σ ws).set k none).set i v
          rw [ih σ fun z => hn (List.mem_cons_of_mem _ z)]
          exact List.set_comm _ _ fun z => hn (by rw [z]; exact List.mem_cons_self)
      show (wipe (σ.set i v) ws).set i none = (wipe σ ws).set i none
      rw [comm ws σ e, List.set_set]
section
variable {X : Cx}
/-- what is wanted of a target: the slots as the run has them, the others as they were -/
def rdG (K : PySem.W.Frag) (tg : Tg) : TG := fun v σ H Q => ∃ G w ρ S d ρ', Rel K G w ρ S σ H ∧ Rp K w v d ∧ bindT tg d ρ = some ρ' ∧ ∀ σ', Rel K G w ρ' S σ' H → (∀ ws, (∀ i ∈ tgIx tg, i ∈ ws) → wipe σ' ws = wipe σ ws) → Q σ' H
def rdGs (K : PySem.W.Frag) (tg : Tg) : TGs := fun vs σ H Q => ∃ G w ρ S ds ρ', Rel K G w ρ S σ H ∧ RpAll K w vs ds ∧ bindL tg ds ρ = some ρ' ∧ ∀ σ', Rel K G w ρ' S σ' H → (∀ ws, (∀ i ∈ tgIx tg, i ∈ ws) → wipe σ' ws = wipe σ ws) → Q σ' H
theorem PG.imp {e : Expr} {t t' : TG} (h : PG X e t) (f : ∀ v σ H Q, t' v σ H Q → t v σ H Q) : PG X e t' := ⟨fun pins s σ H v u Q I r q => h.run pins s σ H v u Q I r (f v σ H Q q)⟩
theorem PGs.imp {es : List Expr} {t t' : TGs} (h : PGs X es t) (f : ∀ v σ H Q, t' v σ H Q → t v σ H Q) : PGs X es t' := ⟨fun pins s σ H v u Q I r q => h.run pins s σ H v u Q I r (f v σ H Q q)⟩
theorem g_nm {i : Nat} {e : Expr} (h : PG X e (gName i)) : PG X e (rdG X.K (.nm i)) :=
  PG.imp h fun v σ H Q ⟨G, w, ρ, S, d, ρ', R, rv, hb, k⟩ => by
    have hb : (if i < ρ.length then some (ρ.set i (.val d)) else none) = some ρ' := hb
    by_cases c : i < ρ.length
    · rw [if_pos c] at hb
      cases hb
      exact k _ (R.val rv) fun ws hw => wipe_set σ i _ (hw i (List.mem_singleton.mpr rfl))
    · rw [if_neg c] at hb
      cases hb
theorem g_nil : PGs X [] (rdGs X.K .nil) := PGs.imp pgs_nil fun v σ H Q ⟨G, w, ρ, S, ds, ρ', R, rv, hb, k⟩ => by
  cases rv with
  | nil =>
    cases hb
    exact ⟨rfl, k σ R fun _ _ => rfl⟩
  | cons _ _ => cases hb
theorem each_plain {e : Expr} {es : List Expr} {env : PySem.Env} (h : plainA e = true) : assignEach (e :: es) env = (false, assign e env) :: assignEach es env := by
  cases e <;> first | rfl | cases h
theorem g_cons {e : Expr} {es : List Expr} {a r : Tg} (he : PG X e (rdG X.K a)) (hr : PGs X es (rdGs X.K r)) (hp : plainA e = true) : PGs X (e :: es) (rdGs X.K (.cons a r)) :=
  PGs.imp (pgs_cons he hr (by rw [each_plain hp]; rfl)) fun v σ H Q ⟨G, w, ρ, S, ds, ρ', R, rv, hb, k⟩ => by
    cases rv with
    | nil => cases hb
    | @cons v d vs ds r1 r2 =>
      have hb : (bindT a d ρ).bind (fun ρ1 => bindL r ds ρ1) = some ρ' := hb
      cases q : bindT a d ρ with
      | none =>
        rw [q] at hb
        cases hb
      | some ρ1 =>
        rw [q, Option.bind_some] at hb
        exact ⟨v, vs, rfl, G, w, ρ, S, d, ρ1, R, r1, q, fun σ1 R1 w1 => ⟨G, w, ρ1, S, ds, ρ', R1, r2, hb, fun σ2 R2 w2 => k σ2 R2 fun ws hw =>
          (w2 ws fun i hi => hw i (List.mem_append_right _ hi)).trans (w1 ws fun i hi => hw i (List.mem_append_left _ hi))⟩⟩
theorem bindL_len : ∀ {t : Tg} {ds : List D} {ρ ρ' : Env} {n : Nat}, bindL t ds ρ = some ρ' → (∀ es : List D, ∀ ρ ρ', bindL t es ρ = some ρ' → es.length = n) → ds.length = n := fun h k => k _ _ _ h
theorem g_tp {es : List Expr} {t : Tg} {k : Nat} {pos : Pos} (hc : X.calm = true) (h : PGs X es (rdGs X.K t)) (hp : es.all plainA = true) (hl : ∀ (ds : List D) (ρ ρ' : Env), bindL t ds ρ = some ρ' → ds.length = es.length) :
    PG X (.Tuple es k pos) (rdG X.K (.tp t)) := by
  have e1 : ∀ {es : List Expr}, es.all plainA = true → (assignEach es X.env).length = es.length ∧ (assignEach es X.env).findIdx? (·.1) = none := fun {es} => by
    induction es with
    | nil => exact fun _ => ⟨rfl, rfl⟩
    | cons e r ih =>
      intro hp
      obtain ⟨h1, h2⟩ := Bool.and_eq_true_iff.mp (show (plainA e && r.all plainA) = true from hp)
      obtain ⟨i1, i2⟩ := ih h2
      rw [each_plain h1]
      refine ⟨by rw [List.length_cons, List.length_cons, i1], ?_⟩
      rw [List.findIdx?_cons, i2]
      rfl
  have gt := pg_tup (n := es.length) (k := k) (pos := pos) hc h (e1 hp).1 (e1 hp).2
  have gl := pg_unl (n := es.length) (k := k) (pos := pos) hc h (e1 hp).1 (e1 hp).2
  refine ⟨fun pins s σ H v u Q I r ⟨G, w, ρ, S, d, ρ', R, rv, hb, kk⟩ => ?_⟩
  cases rv with
  | tup h1 h2 h3 => exact gt.run pins s σ H _ u Q I r ⟨_, _, rfl, tupT R.same h1, by rw [h3.length]; exact hl _ _ _ hb, G, w, ρ, S, _, ρ', R, h3, hb, kk⟩
  | lst h1 h2 h3 => exact gl.run pins s σ H _ u Q I r ⟨_, _, rfl, .inl (.inl (R.same _ _ h1)), by rw [h3.length]; exact hl _ _ _ hb, G, w, ρ, S, _, ρ', R, h3, hb, kk⟩
  | non => cases hb
  | bl _ => cases hb
  | int _ => cases hb
  | str _ _ => cases hb
  | scr _ _ _ => cases hb
  | wtp _ _ _ => cases hb
  | loc _ => cases hb
end
/-! ### what is walked -/
section
variable {K : PySem.W.Frag} {G : Gu} {w w' : Wd} {ρ : Env} {S : Sto} {σ : L2.St} {H : Hp}
theorem okC_get {cs : List (Nat × List D)} {S : Sto} {l : Nat} {xs : List D} (h : okC cs S = true) (hm : (l, xs) ∈ cs) : S[l]? = some (.lst xs) := by
  have h := List.all_eq_true.mp h _ hm
  have h : (match S[l]? with
    | some (.lst ys) => D.beqs ys xs
    | _ => false) = true := h
  cases q : S[l]? with
  | none =>
    rw [q] at h
    cases h
  | some c =>
    rw [q] at h
    cases c with
    | lst ys => rw [D.beqs_eq h]
    | _ => cases h
/-- a list at p that stands still, or is looked at, at each turn -/
def Heldl (K : PySem.W.Frag) (G : Gu) (w : Wd) (cs : List (Nat × List D)) (p : Addr) (xs : List D) : Prop := xs.length ≤ sizeLine ∧ ((∃ vs, vs.length ≤ sizeLine ∧ RpAll K w vs xs ∧ (w.F p = some (.lst vs) ∨ G.G p = some (.lst vs) ∨ SqL K w.F p vs)) ∨
  ∃ l, p = w.io l ∧ l < w.n ∧ (l, xs) ∈ cs)
def Heldt (K : PySem.W.Frag) (w : Wd) (p : Addr) (xs : List D) : Prop := ∃ vs, vs.length ≤ sizeLine ∧ RpAll K w vs xs ∧ w.F p = some (.tup vs)
theorem Heldl.mono {G' : Gu} {cs : List (Nat × List D)} {p : Addr} {xs : List D} (h : Heldl K G w cs p xs) (e : Wle w w') (g : Same G.G G'.G) : Heldl K G' w' cs p xs := by
  obtain ⟨hz, h⟩ := h
  refine ⟨hz, ?_⟩
  rcases h with ⟨vs, h1, h2, h3⟩ | ⟨l, h1, h2, h3⟩
  · refine .inl ⟨vs, h1, h2.mono e, ?_⟩
    rcases h3 with h3 | h3 | h3
    · exact .inl (e.F _ _ h3)
    · exact .inr (.inl (g _ _ h3))
    · exact .inr (.inr (e.F.seq h3))
  · exact .inr ⟨l, by rw [e.io l h2]; exact h1, Nat.lt_of_lt_of_le h2 e.n, h3⟩
theorem Heldl.now {cs : List (Nat × List D)} {p : Addr} {xs : List D} (h : Heldl K G w cs p xs) {w' : Wd} {ρ : Env} {S : Sto} {σ : L2.St} {H : Hp} (e : Wle w w') (R : Rel K G w' ρ S σ H) (c : okC cs S = true) : ∃ vs, vs.length ≤ sizeLine ∧ RpAll K w' vs xs ∧ SqL K H p vs := by
  obtain ⟨hz, h⟩ := h
  rcases h with ⟨vs, h1, h2, h3⟩ | ⟨l, h1, h2, h3⟩
  · refine ⟨vs, h1, h2.mono e, ?_⟩
    rcases h3 with h3 | h3 | h3
    · exact .inl (.inl (R.same _ _ (e.F _ _ h3)))
    · exact .inl (.inl (R.gd _ _ h3).1)
    · exact R.same.seq (e.F.seq h3)
  · obtain ⟨_, vs, g1, g2, g3⟩ := R.cell l _ (okC_get c h3)
    exact ⟨vs, g2, g3, .inl (.inl (by rw [h1, ← e.io l h2]; exact g1))⟩
structure Sim (K : PySem.W.Frag) (G : Gu) (w : Wd) (cs : List (Nat × List D)) (xs : List D) (J : It) : Prop where
  len : xs.length ≤ sizeLine
  go : ∀ (w' : Wd) (ρ : Env) (S : Sto) (σ : L2.St) (H : Hp), Wle w w' → Rel K G w' ρ S σ H → okC cs S = true → ∀ (k : Nat) (d : D), xs[k]? = some d → J.go k H ∧ ∀ x H2, J.yld k H x H2 → ∃ w2, Wle w' w2 ∧ Rel K G w2 ρ S σ H2 ∧ Rp K w2 x d
  stop : ∀ (w' : Wd) (ρ : Env) (S : Sto) (σ : L2.St) (H : Hp), Wle w w' → Rel K G w' ρ S σ H → okC cs S = true → ∀ k : Nat, xs[k]? = none → J.stop k H
variable {cs : List (Nat × List D)}
theorem sim_l {p : Addr} {xs : List D} (h : Heldl K G w cs p xs) : Sim K G w cs xs (Itl K p) := by
  refine ⟨h.1, fun w' ρ S σ H e R c k d hk => ?_, fun w' ρ S σ H e R c k hk => ?_⟩
  · obtain ⟨vs, h1, h2, h3⟩ := h.now e R c
    obtain ⟨v, hv, rv⟩ := h2.get hk
    refine ⟨⟨vs, v, h3, hv⟩, fun x H2 hy => ?_⟩
    obtain ⟨rfl, hy⟩ := hy
    have hx := hy vs h3
    rw [hv] at hx
    cases hx
    exact ⟨w', Wle.refl _, R, rv⟩
  · obtain ⟨vs, h1, h2, h3⟩ := h.now e R c
    refine ⟨vs, h3, ?_⟩
    rw [h2.length]
    exact List.getElem?_eq_none_iff.mp hk
theorem sim_t {p : Addr} {xs : List D} (h : Heldt K w p xs) : Sim K G w cs xs (Itt K p) := by
  obtain ⟨vs, h1, h2, h3⟩ := h
  have now : ∀ (w' : Wd) (ρ : Env) (S : Sto) (σ : L2.St) (H : Hp), Wle w w' → Rel K G w' ρ S σ H → SqT K H p vs := fun w' ρ S σ H e R => tupT R.same (e.F _ _ h3)
  refine ⟨by rw [← h2.length]; exact h1, fun w' ρ S σ H e R _ k d hk => ?_, fun w' ρ S σ H e R _ k hk => ⟨vs, now w' ρ S σ H e R, ?_⟩⟩
  · obtain ⟨v, hv, rv⟩ := h2.get hk
    refine ⟨⟨vs, v, now w' ρ S σ H e R, hv⟩, fun x H2 hy => ?_⟩
    obtain ⟨rfl, hy⟩ := hy
    have hx := hy vs (now w' ρ S σ H2 e R)
    rw [hv] at hx
    cases hx
    exact ⟨w', Wle.refl _, R, rv.mono e⟩
  · rw [h2.length]
    exact List.getElem?_eq_none_iff.mp hk
theorem sim_str {z : Str} (hz : z.length ≤ sizeLine) : Sim K G w cs (z.cps.toList.map fun c => .str ⟨#[c]⟩) (Its z) := by
  refine ⟨by rw [List.length_map, Array.length_toList]; exact hz, fun w' ρ S σ H e R _ k d hk => ?_, fun w' ρ S σ H e R _ k hk => ?_⟩
  · rw [List.getElem?_map] at hk
    cases q : z.cps.toList[k]? with
    | none =>
      rw [q] at hk
      cases hk
    | some c =>
      rw [q] at hk
      cases hk
      have q' : z.cps[k]? = some c := by
        rw [← q]
        exact (Array.getElem?_toList).symm
      refine ⟨(Array.getElem?_eq_some_iff.mp q').1, fun x H2 hy => ?_⟩
      obtain ⟨rfl, c', h1, rfl⟩ := hy
      rw [q'] at h1
      cases h1
      exact ⟨w', Wle.refl _, R, .str _ (by show 1 ≤ sizeLine; decide)⟩
  · have := List.getElem?_eq_none_iff.mp hk
    rw [List.length_map, Array.length_toList] at this
    exact this
theorem sim_rng {lo c : Int} {n : Nat} (hn : n ≤ sizeLine) : Sim K G w cs ((List.range n).map fun (i : Nat) => .int (lo + i * c)) (Itc lo c n) := by
  refine ⟨by rw [List.length_map, List.length_range]; exact hn, fun w' ρ S σ H e R _ k d hk => ?_, fun w' ρ S σ H e R _ k hk => ?_⟩
  · rw [List.getElem?_map] at hk
    by_cases h : k < n
    · rw [List.getElem?_range h] at hk
      cases hk
      refine ⟨h, fun x H2 hy => ?_⟩
      obtain ⟨rfl, rfl⟩ := hy
      exact ⟨w', Wle.refl _, R, .int _⟩
    · rw [List.getElem?_eq_none (by rw [List.length_range]; omega)] at hk
      cases hk
  · have := List.getElem?_eq_none_iff.mp hk
    rw [List.length_map, List.length_range] at this
    exact this
theorem pair_born (R : Rel K G w ρ S σ H) {T : Addr} {x y : V} {d e : D} (hT : H T = none) (r1 : Rp K w x d) (r2 : Rp K w y e) : ∃ w2, Wle w w2 ∧ Rel K G w2 ρ S σ (upd H T (.tup [x, y])) ∧ Rp K w2 (.ref T) (.tup [d, e]) :=
  ⟨w.put T (.tup [x, y]), Wle.put (R.F_none hT), R.born hT, .tup upd_same (by show 2 ≤ sizeLine; decide) (.cons (r1.mono (Wle.put (R.F_none hT))) (.cons (r2.mono (Wle.put (R.F_none hT))) .nil))⟩
theorem zip_get {xs ys : List D} {k : Nat} {d : D} (h : (List.zipWith (fun x y => D.tup [x, y]) xs ys)[k]? = some d) : ∃ x y, xs[k]? = some x ∧ ys[k]? = some y ∧ d = .tup [x, y] := by
  rw [List.getElem?_zipWith] at h
  cases q : xs[k]? with
  | none =>
    rw [q] at h
    cases h
  | some x =>
    cases q2 : ys[k]? with
    | none =>
      rw [q, q2] at h
      cases h
    | some y =>
      rw [q, q2] at h
      cases h
      exact ⟨x, y, rfl, rfl, rfl⟩
theorem sim_zl {p q : Addr} {xs ys : List D} (h : Heldl K G w cs p xs) (g : Heldl K G w cs q ys) : Sim K G w cs (List.zipWith (fun x y => .tup [x, y]) xs ys) (Itz K p q) := by
  refine ⟨by rw [List.length_zipWith]; have := h.1; omega, fun w' ρ S σ H e R c k d hk => ?_, fun w' ρ S σ H e R c k hk => ?_⟩
  · obtain ⟨vs, h1, h2, h3⟩ := h.now e R c
    obtain ⟨us, g1, g2, g3⟩ := g.now e R c
    obtain ⟨x, y, e1, e2, rfl⟩ := zip_get hk
    obtain ⟨v, hv, rv⟩ := h2.get e1
    obtain ⟨u, hu, ru⟩ := g2.get e2
    refine ⟨⟨vs, us, v, u, h3, g3, hv, hu⟩, fun z H2 hy => ?_⟩
    obtain ⟨T, x', y', rfl, hT, rfl, k1, k2⟩ := hy
    have e1 := k1 vs h3
    have e2 := k2 us g3
    rw [hv] at e1
    rw [hu] at e2
    cases e1
    cases e2
    exact pair_born R hT rv ru
  · obtain ⟨vs, h1, h2, h3⟩ := h.now e R c
    obtain ⟨us, g1, g2, g3⟩ := g.now e R c
    refine ⟨vs, us, h3, g3, ?_⟩
    have := List.getElem?_eq_none_iff.mp hk
    rw [List.length_zipWith] at this
    rw [h2.length, g2.length]
    omega
theorem sim_zt {p q : Addr} {xs ys : List D} (h : Heldt K w p xs) (g : Heldt K w q ys) : Sim K G w cs (List.zipWith (fun x y => .tup [x, y]) xs ys) (RZ.ItzT K p q) := by
  obtain ⟨vs, h1, h2, h3⟩ := h
  obtain ⟨us, g1, g2, g3⟩ := g
  refine ⟨by rw [List.length_zipWith, ← h2.length]; omega, fun w' ρ S σ H e R _ k d hk => ?_, fun w' ρ S σ H e R _ k hk => ⟨vs, us, tupT R.same (e.F _ _ h3), tupT R.same (e.F _ _ g3), ?_⟩⟩
  · obtain ⟨x, y, e1, e2, rfl⟩ := zip_get hk
    obtain ⟨v, hv, rv⟩ := h2.get e1
    obtain ⟨u, hu, ru⟩ := g2.get e2
    refine ⟨⟨vs, us, v, u, tupT R.same (e.F _ _ h3), tupT R.same (e.F _ _ g3), hv, hu⟩, fun z H2 hy => ?_⟩
    obtain ⟨T, x', y', rfl, hT, rfl, k1, k2⟩ := hy
    have e1 := k1 vs (tupT R.same (e.F _ _ h3))
    have e2 := k2 us (tupT R.same (e.F _ _ g3))
    rw [hv] at e1
    rw [hu] at e2
    cases e1
    cases e2
    exact pair_born R hT (rv.mono e) (ru.mono e)
  · have := List.getElem?_eq_none_iff.mp hk
    rw [List.length_zipWith] at this
    rw [h2.length, g2.length]
    omega
theorem enm_get : ∀ {xs : List D} {j k : Nat}, (enmF j xs)[k]? = xs[k]?.map fun x => .tup [.int ((j + k : Nat) : Int), x]
  | [], j, k => by simp [enmF]
  | x :: xs, j, 0 => by simp [enmF]
  | x :: xs, j, k + 1 => by
    show (enmF (j + 1) xs)[k]? = _
    rw [enm_get (xs := xs), List.getElem?_cons_succ, show j + 1 + k = j + (k + 1) by omega]
theorem enm_len : ∀ {xs : List D} {j : Nat}, (enmF j xs).length = xs.length
  | [], _ => rfl
  | x :: xs, j => by
    show (enmF (j + 1) xs).length + 1 = xs.length + 1
    rw [enm_len]
theorem sim_en {p : Addr} {xs : List D} (h : Heldl K G w cs p xs) : Sim K G w cs (enmF 0 xs) (Ite K p) := by
  refine ⟨by rw [enm_len]; exact h.1, fun w' ρ S σ H e R c k d hk => ?_, fun w' ρ S σ H e R c k hk => ?_⟩
  · obtain ⟨vs, h1, h2, h3⟩ := h.now e R c
    rw [enm_get, Nat.zero_add] at hk
    cases q : xs[k]? with
    | none =>
      rw [q] at hk
      cases hk
    | some x =>
      rw [q] at hk
      cases hk
      obtain ⟨v, hv, rv⟩ := h2.get q
      refine ⟨⟨vs, v, h3, hv⟩, fun z H2 hy => ?_⟩
      obtain ⟨T, x', rfl, hT, rfl, k1⟩ := hy
      have e1 := k1 vs h3
      rw [hv] at e1
      cases e1
      exact pair_born R hT (.int _) rv
  · obtain ⟨vs, h1, h2, h3⟩ := h.now e R c
    refine ⟨vs, h3, ?_⟩
    have := List.getElem?_eq_none_iff.mp hk
    rw [enm_len] at this
    rw [h2.length]
    exact this
end
end TX

set_option maxRecDepth 100000
set_option maxHeartbeats 4000000
/-! TX, part 8: what is walked is shut; comprehensions. -/
namespace TX
open PySem PySem.Spec PyProof.Rows L2 He

section
variable {K : PySem.W.Frag} {G G' : Gu} {w w' : Wd} {ρ : Env} {S : Sto} {σ : L2.St} {H : Hp}
theorem SlotR.gu {i : Nat} {o : Option (Option V)} {c : C} (e : G'.ls i = G.ls i) (h : SlotR K G w H i o c) : SlotR K G' w H i o c := by
  cases c with
  | lck =>
    show o = some (some (.ref (G'.ls i)))
    rw [e]
    exact h
  | _ => exact h
theorem CellR.gu {l : Nat} {c : Cell} (e : G'.lo l = G.lo l) (h : CellR K G w H l c) : CellR K G' w H l c := by
  cases c with
  | dK kvs b =>
    obtain ⟨h1, us, h2, h3⟩ := h
    exact ⟨h1, us, by rw [e]; exact h2, h3⟩
  | dT kvs b =>
    obtain ⟨h1, us, h2, h3⟩ := h
    exact ⟨h1, us, by rw [e]; exact h2, h3⟩
  | _ => exact h
/-- where the thing lies, what it holds -/
def LkAt (w : Wd) (ρ : Env) (S : Sto) (σ : L2.St) (p : Addr) (xs : List D) : Lk → Prop
  | .slot i => σ[i]? = some (some (.ref p)) ∧ ρ[i]? = some (.ownL xs)
  | .cell l => p = w.io l ∧ S[l]? = some (.lst xs)
theorem mem_chks {S : Sto} {ls : List Lk} {l : Nat} {xs : List D} (hm : Lk.cell l ∈ ls) (h : S[l]? = some (.lst xs)) : (l, xs) ∈ chks S ls := by
  refine List.mem_filterMap.mpr ⟨.cell l, hm, ?_⟩
  show (match S[l]? with
    | some (.lst xs) => some (l, xs)
    | _ => none) = _
  rw [h]
theorem Rel.cellHeld (R : Rel K G w ρ S σ H) {ls : List Lk} {l : Nat} {xs : List D} (hm : Lk.cell l ∈ ls) (h : S[l]? = some (.lst xs)) {G1 : Gu} {w1 : Wd} (e : Wle w w1) : Heldl K G1 w1 (chks S ls) (w.io l) xs := by
  obtain ⟨_, vs, h2, h3, h4⟩ := R.cell l _ h
  exact ⟨by rw [← h4.length]; exact h3, .inr ⟨l, (e.io l (R.lt h)).symm, Nat.lt_of_lt_of_le (R.lt h) e.n, mem_chks hm h⟩⟩
def unlab (w : Wd) (p : Addr) : Wd := { w with lab := fun a => if a = p then none else w.lab a }
theorem Wle.unlab {p : Addr} : Wle w (unlab w p) := ⟨Nat.le_refl _, fun _ _ => rfl, Same.refl _⟩
theorem unl_slot {xs : List D} {i : Nat} : unlock1 ρ S xs (.slot i) = (match ρ[i]? with
  | some .lck => (ρ.set i (.ownL xs), S)
  | _ => (ρ, S)) := rfl
theorem lock_slot (R : Rel K G w ρ S σ H) {i : Nat} {xs : List D} (h : ρ[i]? = some (.ownL xs)) : ∃ G1 w1, Wle w w1 ∧ Same G.G G1.G ∧ Rel K G1 w1 (ρ.set i .lck) S σ H ∧ (∀ cs p, σ[i]? = some (some (.ref p)) → Heldl K G1 w1 cs p xs) ∧
    ∀ (w2 : Wd) (ρ2 : Env) (S2 : Sto) (σ2 : L2.St) (H2 : Hp), Wle w1 w2 → Rel K G1 w2 ρ2 S2 σ2 H2 → ∃ w3, Wle w2 w3 ∧ w3.F = w2.F ∧ (∀ a, G1.G a = none → w3.lab a = w2.lab a) ∧ Rel K G w3 (unlock1 ρ2 S2 xs (.slot i)).1 (unlock1 ρ2 S2 xs (.slot i)).2 σ2 H2 := by
  obtain ⟨p, vs, hσ, hl, hp, hz, hr⟩ := R.slot i _ h
  have hF : w.F p = none := by
    cases q : w.F p with
    | none => rfl
    | some o =>
      have := (R.fz p o q).2
      rw [hl] at this
      cases this
  have hG : G.G p = none := by
    cases q : G.G p with
    | none => rfl
    | some o =>
      have := (R.gd p o q).2.1
      rw [hl] at this
      cases this
  have hne : ∀ a ow, w.lab a = some ow → ow ≠ .slot i → a ≠ p := fun a ow h n e => by
    rw [e, hl] at h
    cases h
    exact n rfl
  refine ⟨{ G := upd G.G p (.lst vs), ls := fun j => if j = i then p else G.ls j, lo := G.lo }, unlab w p, Wle.unlab, fun a o q => ?_, ⟨fun a o q => ⟨(R.fz a o q).1, ?_⟩, fun a o q => ?_, fun a q z => ?_, ?_, fun j c q => ?_, R.n, fun l c q => ?_⟩, fun cs p' hp' => ?_, ?_⟩
  · show upd G.G p (.lst vs) a = some o
    rw [upd_ne (ne_of_none q hG)]
    exact q
  · show (if a = p then none else w.lab a) = none
    rw [(R.fz a o q).2]
    split <;> rfl
  · have q : upd G.G p (.lst vs) a = some o := q
    by_cases e : a = p
    · rw [e] at q ⊢
      rw [upd_same] at q
      cases q
      exact ⟨hp, if_pos rfl, hF⟩
    · rw [upd_ne e] at q
      obtain ⟨h1, h2, h3⟩ := R.gd a o q
      exact ⟨h1, (if_neg e).trans h2, h3⟩
  · have q : (if a = p then none else w.lab a) ≠ none := q
    by_cases e : a = p
    · rw [if_pos e] at q
      exact q rfl
    · rw [if_neg e] at q
      exact R.tr a q z
  · rw [List.length_set]
    exact R.len
  · by_cases e : i = j
    · subst e
      rw [List.getElem?_set_self (List.getElem?_eq_some_iff.mp h).1] at q
      cases q
      show σ[i]? = some (some (.ref (if i = i then p else G.ls i)))
      rw [if_pos rfl]
      exact hσ
    · rw [List.getElem?_set_ne e] at q
      refine SlotR.gu (G := G) (if_neg fun z => e z.symm) ((R.slot j c q).imp Wle.unlab fun a ha => ⟨?_, rfl⟩)
      show (if a = p then none else w.lab a) = _
      rw [if_neg (hne a _ ha fun z => e (by cases z; rfl))]
      exact ha
  · refine CellR.gu (G := G) rfl ((R.cell l c q).imp Wle.unlab (R.lt q) rfl (fun _ => rfl) fun a o ha ho => ⟨?_, rfl⟩)
    show (if a = p then none else w.lab a) = _
    rw [if_neg (hne a _ ha (by rintro rfl; rcases ho with z | z | ⟨f, z⟩ <;> cases z))]
    exact ha
  · rw [hσ] at hp'
    cases hp'
    exact ⟨by rw [← hr.length]; exact hz, .inl ⟨vs, hz, hr.mono Wle.unlab, .inr (.inl upd_same)⟩⟩
  · intro w2 ρ2 S2 σ2 H2 e2 R2
    obtain ⟨g1, g2, g3⟩ := R2.gd p (.lst vs) upd_same
    have hn2 : ∀ a ow, w2.lab a = some ow → a ≠ p := fun a ow h e => by
      rw [e, g2] at h
      cases h
    refine ⟨w2.mark p (.slot i), Wle.mark, rfl, fun a ha => upl_ne fun e => ?_, ?_⟩
    · have ha : upd G.G p (.lst vs) a = none := ha
      rw [e, upd_same] at ha
      cases ha
    have base : Rel K G (w2.mark p (.slot i)) (unlock1 ρ2 S2 xs (.slot i)).1 S2 σ2 H2 := by
      refine ⟨fun a o q => ⟨(R2.fz a o q).1, ?_⟩, fun a o q => ?_, fun a q z => ?_, ?_, fun j c q => ?_, R2.n, fun l c q => ?_⟩
      · show upl w2.lab p _ a = none
        rw [upl_ne (ne_of_none q g3)]
        exact (R2.fz a o q).2
      · have e : a ≠ p := ne_of_none q hG
        obtain ⟨h1, h2, h3⟩ := R2.gd a o (show upd G.G p (.lst vs) a = some o by rw [upd_ne e]; exact q)
        exact ⟨h1, (upl_ne e).trans h2, h3⟩
      · by_cases e : a = p
        · rw [e, g1] at z
          cases z
        · have q : upl w2.lab p (.slot i) a ≠ none := q
          rw [upl_ne e] at q
          exact R2.tr a q z
      · rw [unl_slot]
        split
        · show (ρ2.set i (.ownL xs)).length = _
          rw [List.length_set]
          exact R2.len
        · exact R2.len
      · have other : ∀ j c, ρ2[j]? = some c → (j = i → c ≠ .lck) → SlotR K G (w2.mark p (.slot i)) H2 j σ2[j]? c := fun j c q n => by
          have s1 := (R2.slot j c q).imp (w' := w2.mark p (.slot i)) (H' := H2) Wle.mark fun a ha => ⟨(upl_ne (hn2 a _ ha)).trans ha, rfl⟩
          by_cases e : j = i
          · cases c with
            | lck => exact absurd rfl (n e)
            | und => exact s1
            | val _ => exact s1
            | ownL _ => exact s1
          · exact SlotR.gu (if_neg e).symm s1
        have q : (match ρ2[i]? with
          | some .lck => (ρ2.set i (.ownL xs), S2)
          | _ => (ρ2, S2)).1[j]? = some c := q
        cases q2 : ρ2[i]? with
        | none =>
          rw [q2] at q
          exact other j c q fun e => by
            subst e
            rw [q2] at q
            cases q
        | some c2 =>
          rw [q2] at q
          cases c2 with
          | lck =>
            have q : (ρ2.set i (.ownL xs))[j]? = some c := q
            by_cases e : i = j
            · subst e
              rw [List.getElem?_set_self (List.getElem?_eq_some_iff.mp q2).1] at q
              cases q
              have hs : σ2[i]? = some (some (.ref (if i = i then p else G.ls i))) := R2.slot i _ q2
              rw [if_pos rfl] at hs
              exact ⟨p, vs, hs, upl_same, g1, hz, hr.mono ((Wle.unlab (p := p)).trans (e2.trans Wle.mark))⟩
            · rw [List.getElem?_set_ne e] at q
              exact other j c q fun z => absurd z.symm e
          | _ =>
            have q' : ρ2[j]? = some c := q
            exact other j c q' fun e z => by
              rw [e, z, q2] at q'
              cases q'
      · refine CellR.gu (G' := G) rfl ((R2.cell l c q).imp (w' := w2.mark p (.slot i)) (H' := H2) Wle.mark (R2.lt q) rfl (fun _ => rfl) fun a o ha _ => ⟨(upl_ne (hn2 a _ ha)).trans ha, rfl⟩)
    have e : (unlock1 ρ2 S2 xs (.slot i)).2 = S2 := by
      rw [unl_slot]
      split <;> rfl
    rw [e]
    exact base
/-- one thing is shut -/
theorem lock_ok (R : Rel K G w ρ S σ H) {l : Lk} {ρ1 : Env} {S1 : Sto} (h : lock1 ρ S l = some (ρ1, S1)) : ∃ G1 w1, Wle w w1 ∧ Same G.G G1.G ∧ Rel K G1 w1 ρ1 S1 σ H ∧ (∀ cs p xs, LkAt w ρ S σ p xs l → Heldl K G1 w1 cs p xs) ∧
    ∀ (w2 : Wd) (ρ2 : Env) (S2 : Sto) (σ2 : L2.St) (H2 : Hp), Wle w1 w2 → Rel K G1 w2 ρ2 S2 σ2 H2 → ∃ w3, Wle w2 w3 ∧ w3.F = w2.F ∧ (∀ a, G1.G a = none → w3.lab a = w2.lab a) ∧ Rel K G w3 (unlock1 ρ2 S2 (lockedOf ρ l) l).1 (unlock1 ρ2 S2 (lockedOf ρ l) l).2 σ2 H2 := by
  cases l with
  | slot i =>
    have h : (match ρ[i]? with
      | some (.ownL _) => some (ρ.set i .lck, S)
      | _ => none) = some (ρ1, S1) := h
    cases q : ρ[i]? with
    | none =>
      rw [q] at h
      cases h
    | some c =>
      rw [q] at h
      cases c with
      | ownL xs =>
        cases h
        have e : lockedOf ρ (.slot i) = xs := by
          show (match ρ[i]? with
            | some (.ownL xs) => xs
            | _ => []) = xs
          rw [q]
        rw [e]
        obtain ⟨G1, w1, k1, k2, k3, k4, k5⟩ := lock_slot R q
        refine ⟨G1, w1, k1, k2, k3, fun cs p ys hp => ?_, k5⟩
        obtain ⟨hp1, hp2⟩ := hp
        rw [q] at hp2
        cases hp2
        exact k4 cs p hp1
      | _ => cases h
  | cell l => cases h
/-- the walked thing, once what it asks is shut -/
def ItR (K : PySem.W.Frag) (G : Gu) (w : Wd) (ρ : Env) (S : Sto) (σ : L2.St) (v : ItV) (J : It) : Prop :=
  ∀ G1 w1, Wle w w1 → Same G.G G1.G → (∀ l ∈ v.ls, ∀ p xs, LkAt w ρ S σ p xs l → Heldl K G1 w1 (chks S v.ls) p xs) → Sim K G1 w1 (chks S v.ls) v.xs J
def rdI (K : PySem.W.Frag) (Ω : Orc) (Wi : WX) (t : Tm) : TI := fun σ H R => ∃ G w ρ S, Rel K G w ρ S σ H ∧ Post K G ρ σ Wi w (evI Ω ρ t S) fun v S' w' H' => ∀ J, ItR K G w' ρ S' σ v J → R J H'
end
section
variable {X : Cx} {Ω : Orc} {Wi : WX} {tg : Expr}
theorem i_its {e : Expr} {i : Nat} (h : PE X e (tVar i)) : PI X tg e (rdI X.K Ω Wi (.its i)) := by
  refine ⟨fun pins s σ H Rr I ⟨G, w, ρ, S, R, P⟩ => ?_⟩
  cases q : ρ[i]? with
  | none =>
    simp only [evI, q] at P
    exact P.elim
  | some c =>
    cases c with
    | ownL xs =>
      simp only [evI, q] at P
      obtain ⟨p, vs, hσ, hl, hp, hz, hr⟩ := R.slot i _ q
      refine (pi_list h).run pins s σ H Rr I ⟨_, hσ, p, rfl, ⟨vs, .inl (.inl hp)⟩, P w H (Wle.refl _) R _ fun G1 w1 e1 g1 hh => ?_⟩
      exact sim_l (hh (.slot i) (List.mem_singleton.mpr rfl) p xs ⟨hσ, q⟩)
    | val d =>
      obtain ⟨v, hσ, rv⟩ := R.slot i _ q
      cases rv <;> simp only [evI, q] at P
      case lst h1 h2 h3 => exact (pi_list h).run pins s σ H Rr I ⟨_, hσ, _, rfl, ⟨_, .inl (.inl (R.same _ _ h1))⟩, P w H (Wle.refl _) R _ fun G1 w1 e1 g1 hh => sim_l ⟨by rw [← h3.length]; exact h2, .inl ⟨_, h2, h3.mono e1, .inl (e1.F _ _ h1)⟩⟩⟩
      case scr h1 h2 h3 => exact (pi_list h).run pins s σ H Rr I ⟨_, hσ, _, rfl, ⟨_, R.same.seq h1⟩, P w H (Wle.refl _) R _ fun G1 w1 e1 g1 hh => sim_l ⟨by rw [← h3.length]; exact h2, .inl ⟨_, h2, h3.mono e1, .inr (.inr (e1.F.seq h1))⟩⟩⟩
      case tup h1 h2 h3 => exact (pi_tup h).run pins s σ H Rr I ⟨_, hσ, _, rfl, ⟨_, tupT R.same h1⟩, P w H (Wle.refl _) R _ fun G1 w1 e1 g1 hh => sim_t ⟨_, h2, h3.mono e1, e1.F _ _ h1⟩⟩
      case str z hz => exact (pi_str h).run pins s σ H Rr I ⟨_, hσ, z, rfl, P w H (Wle.refl _) R _ fun G1 w1 e1 g1 hh => sim_str hz⟩
      case loc l hl =>
        cases q2 : S[l]? with
        | none =>
          simp only [q2] at P
          exact P.elim
        | some c =>
          cases c with
          | lst xs =>
            simp only [q2] at P
            obtain ⟨_, vs, h2, h3, h4⟩ := R.cell l _ q2
            refine (pi_list h).run pins s σ H Rr I ⟨_, hσ, _, rfl, ⟨vs, .inl (.inl h2)⟩, P w H (Wle.refl _) R _ fun G1 w1 e1 g1 hh => ?_⟩
            exact sim_l (hh (.cell l) (List.mem_singleton.mpr rfl) _ xs ⟨rfl, q2⟩)
          | _ =>
            simp only [q2] at P
            exact P.elim
      case non => exact P.elim
      case bl => exact P.elim
      case int => exact P.elim
      case wtp => exact P.elim
    | _ =>
      simp only [evI, q] at P
      exact P.elim
theorem i_it {e : Expr} {t : Tm} (h : PE X e (rd X.K Ω Wi (rE X.K) t)) : PI X tg e (rdI X.K Ω Wi (.it t)) := by
  refine ⟨fun pins s σ H Rr I ⟨G, w, ρ, S, R, P⟩ => ?_⟩
  cases q : ev Ω ρ t S with
  | stk =>
    simp only [evI, q, Res.bind_stk] at P
    exact P.elim
  | exc c x S1 =>
    simp only [evI, q, Res.bind_exc] at P
    exact (pi_list h).run pins s σ H Rr I ⟨G, w, ρ, S, R, by rw [q]; exact P⟩
  | ok d S1 =>
    simp only [evI, q, Res.bind_ok] at P
    cases d with
    | lst xs =>
      refine (pi_list h).run pins s σ H Rr I ⟨G, w, ρ, S, R, ?_⟩
      rw [q]
      intro w' H' e' R' v hv
      cases hv with
      | lst h1 h2 h3 => exact ⟨_, rfl, ⟨_, .inl (.inl (R'.same _ _ h1))⟩, P w' H' e' R' _ fun G1 w1 e1 g1 hh => sim_l ⟨by rw [← h3.length]; exact h2, .inl ⟨_, h2, h3.mono e1, .inl (e1.F _ _ h1)⟩⟩⟩
    | scr xs =>
      refine (pi_list h).run pins s σ H Rr I ⟨G, w, ρ, S, R, ?_⟩
      rw [q]
      intro w' H' e' R' v hv
      cases hv with
      | scr h1 h2 h3 => exact ⟨_, rfl, ⟨_, R'.same.seq h1⟩, P w' H' e' R' _ fun G1 w1 e1 g1 hh => sim_l ⟨by rw [← h3.length]; exact h2, .inl ⟨_, h2, h3.mono e1, .inr (.inr (e1.F.seq h1))⟩⟩⟩
    | tup xs =>
      refine (pi_tup h).run pins s σ H Rr I ⟨G, w, ρ, S, R, ?_⟩
      rw [q]
      intro w' H' e' R' v hv
      cases hv with
      | tup h1 h2 h3 => exact ⟨_, rfl, ⟨_, tupT R'.same h1⟩, P w' H' e' R' _ fun G1 w1 e1 g1 hh => sim_t ⟨_, h2, h3.mono e1, e1.F _ _ h1⟩⟩
    | str z =>
      refine (pi_str h).run pins s σ H Rr I ⟨G, w, ρ, S, R, ?_⟩
      rw [q]
      intro w' H' e' R' v hv
      cases hv with
      | str _ hz => exact ⟨z, rfl, P w' H' e' R' _ fun G1 w1 e1 g1 hh => sim_str hz⟩
    | loc l =>
      refine (pi_list h).run pins s σ H Rr I ⟨G, w, ρ, S, R, ?_⟩
      rw [q]
      intro w' H' e' R' v hv
      cases hv with
      | loc hl =>
        cases q2 : S1[l]? with
        | none =>
          simp only [q2] at P
          exact P.elim
        | some c =>
          cases c with
          | lst xs =>
            simp only [q2] at P
            obtain ⟨_, vs, h2, h3, h4⟩ := R'.cell l _ q2
            refine ⟨_, rfl, ⟨vs, .inl (.inl h2)⟩, P w' H' e' R' _ fun G1 w1 e1 g1 hh => ?_⟩
            exact sim_l (hh (.cell l) (List.mem_singleton.mpr rfl) _ xs ⟨rfl, q2⟩)
          | _ =>
            simp only [q2] at P
            exact P.elim
    | non => exact P.elim
    | bl _ => exact P.elim
    | int _ => exact P.elim
    | wtp _ => exact P.elim
theorem i_rng1 {a : Expr} {s : Tm} {p pos : Pos} (hg : Gl X "range") (hm : X.mg "range" = none) (ha : PE X a (rd X.K Ω Wi (rE X.K) s)) (hp : plainA a = true) : PI X tg (.Call (.Name "range" p) [a] [] pos) (rdI X.K Ω Wi (.rng1 s)) := by
  refine ⟨fun pins st σ H Rr I ⟨G, w, ρ, S, R, P⟩ => (pi_range1 hg hm (pa_cons ha pa_nil (star_plain hp)) (star_plain hp)).run pins st σ H Rr I ⟨G, w, ρ, S, R, (Post.bind P).imp fun d S1 w1 H1 e1 R1 P1 v hv => ?_⟩⟩
  cases d with
  | int j =>
    cases hv
    have P1 : Post X.K G ρ σ Wi w1 (if -(2 ^ 62) ≤ j ∧ j ≤ 16777216 then Res.ok (⟨.o, (List.range j.toNat).map fun (n : Nat) => D.int n, []⟩ : ItV) S1 else .stk) _ := P1
    by_cases c : -(2 ^ 62) ≤ j ∧ j ≤ 16777216
    · rw [if_pos c] at P1
      refine ⟨j, rfl, c.1, Int.lt_of_le_of_lt c.2 (by decide), P1 w1 H1 (Wle.refl _) R1 _ fun G1 w2 e2 g1 hh => ?_⟩
      have hn : j.toNat ≤ sizeLine := by
        rw [sizeLine_eq]
        omega
      have hs := sim_rng (K := X.K) (cs := []) (G := G1) (w := w2) (lo := 0) (c := 1) hn
      refine ⟨by rw [List.length_map, List.length_range]; exact hn, fun w' ρ S σ H e R _ k d hk => ?_, fun w' ρ S σ H e R _ k hk => ?_⟩
      · have hk' : ((List.range j.toNat).map fun (i : Nat) => D.int (0 + i * 1))[k]? = some d := by
          rw [← hk]
          simp
        obtain ⟨h1, h2⟩ := hs.go w' ρ S σ H e R rfl k d hk'
        exact ⟨h1, fun x H2 hy => h2 x H2 ⟨hy.1, by rw [hy.2]; simp⟩⟩
      · have := List.getElem?_eq_none_iff.mp hk
        rw [List.length_map, List.length_range] at this
        exact this
    · rw [if_neg c] at P1
      exact P1.elim
  | _ => exact P1.elim
theorem i_rng2 {a b : Expr} {s t : Tm} {p pos : Pos} (hg : Gl X "range") (hm : X.mg "range" = none) (ha : PE X a (rd X.K Ω Wi (rE X.K) s)) (hb : PE X b (rd X.K Ω Wi (rE X.K) t)) (hp : plainA a = true) (hp' : plainA b = true) : PI X tg (.Call (.Name "range" p) [a, b] [] pos) (rdI X.K Ω Wi (.rng2 s t)) := by
  refine ⟨fun pins st σ H Rr I ⟨G, w, ρ, S, R, P⟩ => (pi_range2 hg hm (pa_cons ha (pa_cons hb pa_nil (star_plain hp')) (star_plain hp)) (by rw [star_plain hp, star_plain hp']; rfl) (star_plain hp')).run pins st σ H Rr I ⟨G, w, ρ, S, R, (Post.bind P).imp fun d S1 w1 H1 e1 R1 P1 v hv => ⟨G, w1, ρ, S1, R1, (Post.bind P1).imp fun d2 S2 w2 H2 e2 R2 P2 u hu => ?_⟩⟩⟩
  cases d with
  | int i =>
    cases hv
    cases d2 with
    | int j =>
      cases hu
      have P2 : Post X.K G ρ σ Wi w2 (if -(2 ^ 62) ≤ i ∧ i < 2 ^ 62 ∧ -(2 ^ 62) ≤ j ∧ j < 2 ^ 62 ∧ j - i ≤ 16777216 then Res.ok (⟨.o, (List.range (j - i).toNat).map fun (n : Nat) => D.int (i + n), []⟩ : ItV) S2 else .stk) _ := P2
      by_cases c : -(2 ^ 62) ≤ i ∧ i < 2 ^ 62 ∧ -(2 ^ 62) ≤ j ∧ j < 2 ^ 62 ∧ j - i ≤ 16777216
      · rw [if_pos c] at P2
        refine ⟨i, j, rfl, ⟨c.1, c.2.1, c.2.2.1, c.2.2.2.1⟩, P2 w2 H2 (Wle.refl _) R2 _ fun G1 w3 e3 g1 hh => ?_⟩
        have hn : (j - i).toNat ≤ sizeLine := by
          rw [sizeLine_eq]
          omega
        have hs := sim_rng (K := X.K) (cs := []) (G := G1) (w := w3) (lo := i) (c := 1) hn
        refine ⟨by rw [List.length_map, List.length_range]; exact hn, fun w' ρ S σ H e R _ k d hk => ?_, fun w' ρ S σ H e R _ k hk => ?_⟩
        · have hk' : ((List.range (j - i).toNat).map fun (n : Nat) => D.int (i + n * 1))[k]? = some d := by
            rw [← hk]
            simp
          obtain ⟨h1, h2⟩ := hs.go w' ρ S σ H e R rfl k d hk'
          exact ⟨h1, fun x H2 hy => h2 x H2 ⟨hy.1, by rw [hy.2]; simp⟩⟩
        · have := List.getElem?_eq_none_iff.mp hk
          rw [List.length_map, List.length_range] at this
          exact this
      · rw [if_neg c] at P2
        exact P2.elim
    | _ => exact P2.elim
  | _ => exact False.elim P2
theorem i_rng3 {a b c : Expr} {s t u : Tm} {p pos : Pos} (hg : Gl X "range") (hm : X.mg "range" = none) (ha : PE X a (rd X.K Ω Wi (rE X.K) s)) (hb : PE X b (rd X.K Ω Wi (rE X.K) t)) (hc : PE X c (rd X.K Ω Wi (rE X.K) u)) (hp : plainA a = true) (hp' : plainA b = true) (hp2 : plainA c = true) :
    PI X tg (.Call (.Name "range" p) [a, b, c] [] pos) (rdI X.K Ω Wi (.rng3 s t u)) := by
  refine ⟨fun pins st σ H Rr I ⟨G, w, ρ, S, R, P⟩ => (pi_range3 hg hm (pa_cons ha (pa_cons hb (pa_cons hc pa_nil (star_plain hp2)) (star_plain hp')) (star_plain hp)) (star_plain hp) (pl_any (es := [b, c]) (by simp only [List.all_cons, hp', hp2, List.all_nil, Bool.and_self]))).run pins st σ H Rr I ⟨G, w, ρ, S, R, (Post.bind P).imp fun d S1 w1 H1 e1 R1 P1 v hv => ⟨G, w1, ρ, S1, R1, (Post.bind P1).imp fun d2 S2 w2 H2 e2 R2 P2 u hu => ⟨G, w2, ρ, S2, R2, (Post.bind P2).imp fun d3 S3 w3 H3 e3 R3 P3 y hy => ?_⟩⟩⟩⟩
  have ex : ∃ i j k, d = .int i ∧ d2 = .int j ∧ d3 = .int k := by
    cases d <;> first | exact P3.elim | (cases d2 <;> first | exact P3.elim | (cases d3 <;> first | exact P3.elim | exact ⟨_, _, _, rfl, rfl, rfl⟩))
  obtain ⟨i, j, k, rfl, rfl, rfl⟩ := ex
  cases hv
  cases hu
  cases hy
  have P3 : Post X.K G ρ σ Wi w3 (if k ≠ 0 ∧ k.natAbs < 1073741824 ∧ Builtin.Range.small i j k = true ∧ 0 ≤ Builtin.Range.rangeSize i j k ∧ Builtin.Range.rangeSize i j k ≤ 16777216 then Res.ok (⟨.o, (List.range (Builtin.Range.rangeSize i j k).toNat).map fun (n : Nat) => D.int (i + n * k), []⟩ : ItV) S3 else .stk) _ := P3
  by_cases c : k ≠ 0 ∧ k.natAbs < 1073741824 ∧ Builtin.Range.small i j k = true ∧ 0 ≤ Builtin.Range.rangeSize i j k ∧ Builtin.Range.rangeSize i j k ≤ 16777216
  · rw [if_pos c] at P3
    obtain ⟨c1, c2, c3, c4, c5⟩ := c
    have hn : (Builtin.Range.rangeSize i j k).toNat ≤ sizeLine := by
      rw [sizeLine_eq]
      omega
    exact ⟨i, j, k, _, rfl, ⟨c1, c2, c3, (Int.toNat_of_nonneg c4).symm⟩, P3 w3 H3 (Wle.refl _) R3 _ fun G1 w4 e4 g1 hh => sim_rng hn⟩
  · rw [if_neg c] at P3
    exact P3.elim
/-- enumerate of a walked list -/
theorem PI.imp {e : Expr} {t t' : TI} (h : PI X tg e t) (f : ∀ σ H R, t' σ H R → t σ H R) : PI X tg e t' := ⟨fun pins s σ H R I q => h.run pins s σ H R I (f σ H R q)⟩
end
/-! ### comprehensions -/
section
variable {K : PySem.W.Frag} {G : Gu} {w : Wd} {ρ : Env} {S : Sto} {σ : L2.St} {H : Hp}
theorem wipe_len (ρ : Env) : ∀ ws : List Nat, (wipeC ρ ws).length = ρ.length
  | [] => rfl
  | v :: ws => by
    show ((wipeC ρ ws).set v .und).length = _
    rw [List.length_set, wipe_len ρ ws]
theorem wipe_get (ρ : Env) (j : Nat) (c : C) : ∀ ws : List Nat, (wipeC ρ ws)[j]? = some c → c = .und ∨ (ρ[j]? = some c ∧ j ∉ ws)
  | [], h => .inr ⟨h, by simp⟩
  | v :: ws, h => by
    have h : ((wipeC ρ ws).set v .und)[j]? = some c := h
    by_cases e : v = j
    · subst e
      have hv : v < (wipeC ρ ws).length := by
        have := (List.getElem?_eq_some_iff.mp h).1
        rwa [List.length_set] at this
      rw [List.getElem?_set_self hv] at h
      exact .inl (Option.some.inj h).symm
    · rw [List.getElem?_set_ne e] at h
      rcases wipe_get ρ j c ws h with h | ⟨h1, h2⟩
      · exact .inl h
      · exact .inr ⟨h1, fun z => by
          rcases List.mem_cons.mp z with z | z
          · exact e z.symm
          · exact h2 z⟩
theorem wipe_get' (ρ : Env) (j : Nat) : ∀ ws : List Nat, j ∉ ws → (wipeC ρ ws)[j]? = ρ[j]?
  | [], _ => rfl
  | v :: ws, h => by
    show ((wipeC ρ ws).set v .und)[j]? = _
    rw [List.getElem?_set_ne fun e => h (by rw [e]; exact List.mem_cons_self)]
    exact wipe_get' ρ j ws fun z => h (List.mem_cons_of_mem _ z)
theorem wipe_out' (σ : L2.St) (j : Nat) : ∀ ws : List Nat, j ∉ ws → (wipe σ ws)[j]? = σ[j]?
  | [], _ => rfl
  | v :: ws, h => by
    show ((wipe σ ws).set v none)[j]? = _
    rw [List.getElem?_set_ne fun e => h (by rw [e]; exact List.mem_cons_self)]
    exact wipe_out' σ j ws fun z => h (List.mem_cons_of_mem _ z)
theorem wipe_at (σ : L2.St) (j : Nat) : ∀ ws : List Nat, (wipe σ ws)[j]? = if j ∈ ws then (if j < σ.length then some none else none) else σ[j]?
  | [] => by simp [wipe]
  | v :: ws => by
    show ((wipe σ ws).set v none)[j]? = _
    by_cases e : v = j
    · subst e
      rw [if_pos List.mem_cons_self]
      by_cases hl : v < σ.length
      · rw [List.getElem?_set_self (by rw [wipe_length]; exact hl), if_pos hl]
      · rw [List.getElem?_eq_none (by rw [List.length_set, wipe_length]; omega), if_neg hl]
    · rw [List.getElem?_set_ne e, wipe_at σ j ws]
      by_cases h : j ∈ ws
      · rw [if_pos h, if_pos (List.mem_cons_of_mem _ h)]
      · rw [if_neg h, if_neg fun z => by
          rcases List.mem_cons.mp z with z | z
          · exact e z.symm
          · exact h z]
theorem wipe_wipe (σ : L2.St) (ws : List Nat) : wipe (wipe σ ws) ws = wipe σ ws := by
  refine List.ext_getElem? fun j => ?_
  rw [wipe_at, wipe_at, wipe_length]
  by_cases h : j ∈ ws
  · rw [if_pos h, if_pos h]
  · rw [if_neg h, if_neg h]
theorem Rel.wiped (R : Rel K G w ρ S σ H) (ws : List Nat) : Rel K G w (wipeC ρ ws) S (wipe σ ws) H :=
  R.slots (by rw [wipe_len, wipe_length, R.len]) fun i c h => by
    rcases wipe_get ρ i c ws h with rfl | ⟨h1, h2⟩
    · exact True.intro
    · rw [wipe_out' σ i ws h2]
      exact R.slot i c h1
/-- back to the slots ahead of the block: no own list was hidden -/
theorem Rel.unwiped {w' : Wd} {ρ' : Env} {S' : Sto} {σ' : L2.St} {H' : Hp} {ws : List Nat} (R : Rel K G w ρ S σ H) (e : Wle w w') (ok : wsOk ρ ws = true) (R' : Rel K G w' ρ' S' σ' H') (hρ : ∀ i, i ∉ ws → ρ'[i]? = ρ[i]?) (hσ : wipe σ' ws = wipe σ ws) : Rel K G w' ρ S' σ H' :=
  R'.slots R.len fun i c h => by
    have h0 := R.slot i c h
    have vals : (∀ xs, c ≠ .ownL xs) → SlotR K G w' H' i σ[i]? c := fun n => by
      cases c with
      | ownL xs => exact absurd rfl (n xs)
      | und => exact True.intro
      | lck => exact h0
      | val d =>
        obtain ⟨v, h1, h2⟩ := h0
        exact ⟨v, h1, h2.mono e⟩
    by_cases hi : i ∈ ws
    · refine vals fun xs z => ?_
      subst z
      have := List.all_eq_true.mp ok i hi
      rw [h] at this
      cases this
    · have h1 := R'.slot i c (by rw [hρ i hi]; exact h)
      have h2 : σ'[i]? = σ[i]? := by
        rw [← wipe_out' σ' i ws hi, hσ, wipe_out' σ i ws hi]
      rw [h2] at h1
      exact h1
mutual
theorem bindT_out : ∀ {tg : Tg} {d : D} {ρ ρ' : Env} {i : Nat}, bindT tg d ρ = some ρ' → i ∉ tgIx tg → ρ'[i]? = ρ[i]?
  | .nm j, d, ρ, ρ', i, h, hi => by
    have h : (if j < ρ.length then some (ρ.set j (.val d)) else none) = some ρ' := h
    by_cases c : j < ρ.length
    · rw [if_pos c] at h
      cases h
      exact List.getElem?_set_ne fun e => hi (by rw [e]; exact List.mem_singleton.mpr rfl)
    · rw [if_neg c] at h
      cases h
  | .tp l, .tup xs, ρ, ρ', i, h, hi => bindL_out (tg := l) (ds := xs) h hi
  | .tp l, .lst xs, ρ, ρ', i, h, hi => bindL_out (tg := l) (ds := xs) h hi
  | .tp l, .non, ρ, ρ', i, h, hi => by cases h
  | .tp l, .bl _, ρ, ρ', i, h, hi => by cases h
  | .tp l, .int _, ρ, ρ', i, h, hi => by cases h
  | .tp l, .str _, ρ, ρ', i, h, hi => by cases h
  | .tp l, .loc _, ρ, ρ', i, h, hi => by cases h
  | .tp l, .scr _, ρ, ρ', i, h, hi => by cases h
  | .tp l, .wtp _, ρ, ρ', i, h, hi => by cases h
  | .nil, d, ρ, ρ', i, h, hi => by cases h
  | .cons a r, d, ρ, ρ', i, h, hi => by cases h
theorem bindL_out : ∀ {tg : Tg} {ds : List D} {ρ ρ' : Env} {i : Nat}, bindL tg ds ρ = some ρ' → i ∉ tgIx tg → ρ'[i]? = ρ[i]?
  | .nil, [], ρ, ρ', i, h, hi => by
    cases h
    rfl
  | .cons a r, x :: xs, ρ, ρ', i, h, hi => by
    have h : (bindT a x ρ).bind (fun ρ1 => bindL r xs ρ1) = some ρ' := h
    cases q : bindT a x ρ with
    | none =>
      rw [q] at h
      cases h
    | some ρ1 =>
      rw [q, Option.bind_some] at h
      exact (bindL_out (tg := r) h fun z => hi (List.mem_append_right _ z)).trans (bindT_out (tg := a) q fun z => hi (List.mem_append_left _ z))
  | .nil, _ :: _, ρ, ρ', i, h, hi => by cases h
  | .cons a r, [], ρ, ρ', i, h, hi => by cases h
  | .nm _, _, ρ, ρ', i, h, hi => by cases h
  | .tp _, _, ρ, ρ', i, h, hi => by cases h
end
theorem relock {l : Lk} {ρ1 : Env} {S1 S' : Sto} (h : lock1 ρ S l = some (ρ1, S1)) : (unlock1 ρ1 S' (lockedOf ρ l) l).1 = ρ := by
  cases l with
  | slot i =>
    have h : (match ρ[i]? with
      | some (.ownL _) => some (ρ.set i .lck, S)
      | _ => none) = some (ρ1, S1) := h
    cases q : ρ[i]? with
    | none =>
      rw [q] at h
      cases h
    | some c =>
      rw [q] at h
      cases c with
      | ownL xs =>
        cases h
        have hi := (List.getElem?_eq_some_iff.mp q).1
        have e : lockedOf ρ (.slot i) = xs := by
          show (match ρ[i]? with
            | some (.ownL xs) => xs
            | _ => []) = xs
          rw [q]
        rw [e, unl_slot, List.getElem?_set_self hi]
        show (ρ.set i .lck).set i (.ownL xs) = ρ
        rw [List.set_set]
        refine List.ext_getElem? fun j => ?_
        by_cases e : i = j
        · subst e
          rw [List.getElem?_set_self hi, q]
        · rw [List.getElem?_set_ne e]
      | _ => cases h
  | cell l => cases h
theorem post_noX {α : Type} {Wi Wi' : WX} {r : Res α} {k : α → Sto → Wd → Hp → Prop} (h : Post K G ρ σ Wi w r.noX k) : Post K G ρ σ Wi' w r k := by
  cases r with
  | ok a S => exact h
  | exc c x S => exact False.elim h
  | stk => exact h
theorem rF.mono {w' : Wd} {v : V} {d : D} (h : rF K G w H v d) (e : Wle w w') (hF : w'.F = w.F) (hl : ∀ a, G.G a = none → w'.lab a = w.lab a) {G' : Gu} (g : Same G'.G G.G) : rF K G' w' H v d := by
  obtain ⟨p, vs, xs, h1, h2, h3, h4, h5, h6, h7, h8⟩ := h
  exact ⟨p, vs, xs, h1, h2, h3, h4, h5.mono e, (hl p h8).trans h6, by rw [hF]; exact h7, by
    cases q : G'.G p with
    | none => rfl
    | some o =>
      rw [g p o q] at h8
      cases h8⟩
/-- run with these shut -/
theorem shut_post {α : Type} {Wi : WX} {ls : List Lk} {f : Env → Sto → Res α} {k : α → Sto → Wd → Hp → Prop} (R : Rel K G w ρ S σ H) (P : Post K G ρ σ Wi w (shutR ls ρ S fun ρ S => (f ρ S).noX) k) :
    ∃ G1 w1 ρ1 S1, Wle w w1 ∧ Same G.G G1.G ∧ Rel K G1 w1 ρ1 S1 σ H ∧ (∀ l ∈ ls, ∀ p xs, LkAt w ρ S σ p xs l → Heldl K G1 w1 (chks S ls) p xs) ∧
      ∀ Wi', Post K G1 ρ1 σ Wi' w1 (f ρ1 S1).noX fun a S' w' H' => ∃ w3 S3, Wle w' w3 ∧ w3.F = w'.F ∧ (∀ a, G1.G a = none → w3.lab a = w'.lab a) ∧ Rel K G w3 ρ S3 σ H' ∧ ∀ w'' H'', Wle w3 w'' → Rel K G w'' ρ S3 σ H'' → k a S3 w'' H'' := by
  by_cases ca : ls.all isCell = true
  · unfold shutR at P
    rw [if_pos ca] at P
    refine ⟨G, w, ρ, S, Wle.refl _, Same.refl _, R, fun l hl p xs hp => ?_, fun Wi' => ?_⟩
    · cases l with
      | slot i => exact absurd (List.all_eq_true.mp ca _ hl) Bool.false_ne_true
      | cell l =>
        obtain ⟨rfl, h⟩ := hp
        exact R.cellHeld hl h (Wle.refl _)
    · have P : Post K G ρ σ Wi w (f ρ S).noX k := P
      revert P
      cases f ρ S with
      | stk => exact fun P => P
      | exc c x S' => exact fun P => P
      | ok a S' => exact fun P w' H' e' R' => ⟨w', S', Wle.refl _, rfl, fun _ _ => rfl, R', fun w2 H2 e2 R2 => P w2 H2 (e'.trans e2) R2⟩
  · unfold shutR at P
    rw [if_neg ca] at P
    match ls with
    | [] => exact absurd rfl ca
    | [l] =>
      have P : Post K G ρ σ Wi w (match lock1 ρ S l with
        | none => .stk
        | some (ρ1, S1) => (f ρ1 S1).noX.bind fun a S2 => .ok a (unlock1 ρ1 S2 (lockedOf ρ l) l).2) k := P
      cases q : lock1 ρ S l with
      | none =>
        rw [q] at P
        exact P.elim
      | some z =>
        obtain ⟨ρ1, S1⟩ := z
        rw [q] at P
        obtain ⟨G1, w1, e1, g1, R1, h1, u1⟩ := lock_ok R q
        refine ⟨G1, w1, ρ1, S1, e1, g1, R1, fun l' hl p xs hp => ?_, fun Wi' => ?_⟩
        · cases List.mem_singleton.mp hl
          exact h1 _ p xs hp
        · have P : Post K G ρ σ Wi w ((f ρ1 S1).noX.bind fun a S2 => .ok a (unlock1 ρ1 S2 (lockedOf ρ l) l).2) k := P
          revert P
          cases f ρ1 S1 with
          | stk => exact fun P => P.elim
          | exc c x S' => exact fun P => False.elim P
          | ok a S' =>
            intro P w' H' e' R'
            obtain ⟨w3, k1, k2, k3, k4⟩ := u1 w' ρ1 S' σ H' e' R'
            rw [relock q] at k4
            exact ⟨w3, _, k1, k2, k3, k4, fun w2 H2 e2 R2 => P w2 H2 (e1.trans (e'.trans (k1.trans e2))) R2⟩
    | _ :: _ :: _ => exact False.elim P
end
section
variable {X : Cx} {Ω : Orc} {Wi : WX} {tg : Expr}
/-- nothing is raised out of a block -/
abbrev WF : WX := fun _ _ _ _ => False
theorem PTs.imp {es : List Expr} {t t' : TT} (h : PTs X es t) (f : ∀ σ H Q, t' σ H Q → t σ H Q) : PTs X es t' := ⟨fun pins s σ H Q I q => h.run pins s σ H Q I (f σ H Q q)⟩
theorem c_nil : PTs X [] (rdT X.K Ω Wi (.cst (.bl true))) := PTs.imp pts_nil fun σ H Q ⟨G, w, ρ, S, R, P⟩ => by
  obtain ⟨b, hb, q⟩ := P w H (Wle.refl _) R
  cases hb
  exact q
theorem c_one {c : Expr} {t : Tm} (h : PT X c (rdT X.K Ω Wi t)) : PTs X [c] (rdT X.K Ω Wi t) := pts_one h
theorem folded_plain {e : Expr} {env : PySem.Env} (h : notSet e = true) : ∀ x, foldedSetIterable e env x = pure x := fun x => by
  cases e <;> first | rfl | cases h
theorem comp_imp {tg' : Tg} {it' tt' el' : Tm} {ws : List Nat} (htg : ∀ i ∈ tgIx tg', i ∈ ws) {σ : L2.St} {H : Hp} {Q : VK} (h : rdF X.K Ω Wi (.comp tg' it' tt' el' ws) σ H Q) :
    tLc (rdI X.K Ω Wi it') (rdG X.K tg') (rdT X.K Ω WF tt') (rd X.K Ω WF (rE X.K) el') ws σ H Q := by
  obtain ⟨G, w, ρ, S, R, P⟩ := h
  refine ⟨G, w, ρ, S, R, (Post.bind P).imp fun v S1 w1 H1 e1 R1 P1 J hJ Dd hD => ?_⟩
  have P2 := Post.bind P1
  -- what is walked is shut
  let cs := chks S1 v.ls
  let turn : Env → D → Sto → Res (Option D) := fun ρ1 x S3 => match bindT tg' x (wipeC ρ1 ws) with
    | none => .stk
    | some ρ' => (ev Ω ρ' tt' S3).bind fun c S4 => match tru S4 c with
      | none => .stk
      | some false => .ok none S4
      | some true => (ev Ω ρ' el' S4).bind fun y S5 => .ok (some y) S5
  have hfun : (fun (ρ1 : Env) (S2 : Sto) => if wsOk ρ1 ws = true then (compC cs (turn ρ1) v.xs S2).noX else Res.stk) = fun ρ1 S2 => (if wsOk ρ1 ws = true then compC cs (turn ρ1) v.xs S2 else .stk).noX := by
    funext ρ1 S2
    split <;> rfl
  have P3 := P2
  change Post X.K G ρ σ Wi w1 (shutR v.ls ρ S1 fun (ρ1 : Env) (S2 : Sto) => if wsOk ρ1 ws = true then (compC cs (turn ρ1) v.xs S2).noX else Res.stk) _ at P3
  rw [hfun] at P3
  obtain ⟨G1, w2, ρ1, S2, e2, g2, R2, h2, P4⟩ := shut_post R1 P3
  have P4 := P4 WF
  have hok : wsOk ρ1 ws = true := by
    cases q : wsOk ρ1 ws with
    | true => rfl
    | false =>
      rw [q] at P4
      exact P4.elim
  rw [hok, if_pos rfl] at P4
  have sim := hJ G1 w2 e2 g2 h2
  have hDG : G1.G Dd = none := by
    cases q : G1.G Dd with
    | none => rfl
    | some o =>
      rw [(R2.gd _ _ q).1] at hD
      cases hD
  -- between two turns
  refine ⟨fun i m H' => ∃ w' S' acc accD, i + m = v.xs.length ∧ Wle w2 w' ∧ Rel X.K (G1.put Dd (.lst acc)) w' ρ1 S' σ H' ∧ RpAll X.K w' acc accD ∧ acc.length ≤ i ∧
    Post X.K G1 ρ1 σ WF w' (compC cs (turn ρ1) (v.xs.drop i) S').noX fun ys S3 w3 H3 => ∀ u, rF X.K G1 w3 H3 u (.lst (accD ++ ys)) → Q u H3, ⟨v.xs.length, w2, S2, [], [], Nat.zero_add _, Wle.refl _, (R2.raw hD).guard upd_same (R2.lab_none hD) (R2.F_none hD), .nil, Nat.le_refl _, ?_⟩, ?_⟩
  · rw [List.drop_zero]
    refine P4.imp fun ys S3 w3 H3 e3 R3 ⟨w4, S4, k1, k2, k3, k4, k5⟩ u hu => ?_
    have hu : rF X.K G1 w3 H3 u (.lst ys) := hu
    exact (k5 w4 H3 (Wle.refl _) k4) w4 H3 (Wle.refl _) k4 u (.inr (hu.mono k1 k2 k3 g2))
  · rintro i m H' ⟨w', S', acc, accD, him, e', R', hacc, hlen, P'⟩
    have hc : okC cs S' = true := by
      cases q : okC cs S' with
      | true => rfl
      | false =>
        exfalso
        revert P'
        cases v.xs.drop i with
        | nil =>
          show Post X.K G1 ρ1 σ WF w' (if okC cs S' then Res.ok [] S' else .stk).noX _ → False
          rw [q]
          exact fun P => P
        | cons x r =>
          show Post X.K G1 ρ1 σ WF w' (if okC cs S' then _ else Res.stk).noX _ → False
          rw [q]
          exact fun P => P
    have hDF := (R'.gd Dd (.lst acc) upd_same)
    by_cases hi' : i < v.xs.length
    · -- one turn
      have hx : v.xs[i]? = some v.xs[i] := List.getElem?_eq_getElem hi'
      have simD : Sim X.K (G1.put Dd (.lst acc)) w2 cs v.xs J := hJ (G1.put Dd (.lst acc)) w2 e2 (g2.trans fun a o q => by
        show upd G1.G Dd _ a = some o
        rw [upd_ne (ne_of_none q hDG)]
        exact q) fun l hl p xs hp => (h2 l hl p xs hp).mono (Wle.refl _) fun a o q => by
          show upd G1.G Dd _ a = some o
          rw [upd_ne (ne_of_none q hDG)]
          exact q
      obtain ⟨hgo, hyld⟩ := simD.go w' ρ1 S' σ H' e' R' hc i _ hx
      refine .inr ⟨hgo, fun H2 => ∃ w3 S3 acc3 accD3, Wle w2 w3 ∧ Rel X.K (G1.put Dd (.lst acc3)) w3 ρ1 S3 σ H2 ∧ RpAll X.K w3 acc3 accD3 ∧ acc3.length ≤ i + 1 ∧
        Post X.K G1 ρ1 σ WF w3 (compC cs (turn ρ1) (v.xs.drop (i + 1)) S3).noX fun ys S4 w4 H4 => ∀ u, rF X.K G1 w4 H4 u (.lst (accD3 ++ ys)) → Q u H4, fun H2 ⟨w3, S3, a3, b3, k1, k2, k3, k4, k5⟩ => ⟨m - 1, by omega, w3, S3, a3, b3, by omega, k1, k2, k3, k4, k5⟩, fun x H2 hy => ?_⟩
      obtain ⟨w3, e3, R3, rx⟩ := hyld x H2 hy
      rw [List.drop_eq_getElem_cons hi', show compC cs (turn ρ1) (v.xs[i] :: v.xs.drop (i + 1)) S' = _ from if_pos hc] at P'
      have P5 := Post.mono e3 P'
      change Post X.K G1 ρ1 σ WF w3 (((turn ρ1 v.xs[i] S').bind fun o S1 => (compC cs (turn ρ1) (v.xs.drop (i + 1)) S1).bind fun ys S2 => .ok (match o with
        | some y => y :: ys
        | none => ys) S2).noX) _ at P5
      -- the target
      cases q : bindT tg' v.xs[i] (wipeC ρ1 ws) with
      | none =>
        simp only [turn, q] at P5
        exact P5.elim
      | some ρ' =>
        simp only [turn, q] at P5
        refine ⟨G1.put Dd (.lst acc), w3, wipeC ρ1 ws, S', _, ρ', R3.wiped ws, rx, q, fun σ' R4 hw => ⟨by rw [hw ws htg, wipe_wipe], ?_⟩⟩
        have hwσ : wipe σ' ws = wipe σ ws := by rw [hw ws htg, wipe_wipe]
        have hρ : ∀ j, j ∉ ws → ρ'[j]? = ρ1[j]? := fun j hj => by
          rw [bindT_out q fun z => hj (htg j z)]
          exact wipe_get' ρ1 j ws hj
        -- the test
        refine ⟨G1.put Dd (.lst acc), w3, ρ', S', R4, ?_⟩
        revert P5
        cases q1 : ev Ω ρ' tt' S' with
        | stk => exact fun P5 => P5
        | exc c x S4 => exact fun P5 => False.elim P5
        | ok c S4 =>
          intro P5 w4 H4 e4 R5
          simp only [Res.bind_ok] at P5
          cases q2 : tru S4 c with
          | none =>
            simp only [q2] at P5
            exact P5.elim
          | some b =>
            refine ⟨b, rfl, ?_⟩
            have back : ∀ {w5 : Wd} {S5 : Sto} {H5 : Hp}, Wle w4 w5 → Rel X.K (G1.put Dd (.lst acc)) w5 ρ' S5 σ' H5 → Rel X.K (G1.put Dd (.lst acc)) w5 ρ1 S5 σ H5 := fun {w5 S5 H5} e5 R6 =>
              Rel.unwiped R3 (e4.trans e5) hok R6 hρ hwσ
            cases b with
            | false =>
              simp only [q2] at P5
              refine iteF ⟨w4, S4, acc, accD, e'.trans (e3.trans e4), back (Wle.refl _) R5, hacc.mono (e3.trans e4), Nat.le_succ_of_le hlen, ?_⟩
              have P6 := Post.mono e4 P5
              revert P6
              simp only [Res.bind_ok]
              cases compC cs (turn ρ1) (v.xs.drop (i + 1)) S4 <;> exact fun P => P
            | true =>
              simp only [q2] at P5
              refine iteT ⟨G1.put Dd (.lst acc), w4, ρ', S4, R5, ?_⟩
              have P6 := Post.mono e4 P5
              revert P6
              cases q3 : ev Ω ρ' el' S4 with
              | stk => exact fun P6 => P6
              | exc c x S5 => exact fun P6 => False.elim P6
              | ok y S5 =>
                intro P6 w5 H5 e5 R6 u hu
                have R7 := back e5 R6
                have hg5 := (R7.gd Dd (.lst acc) upd_same).1
                have hll : acc.length < sizeLine := by
                  have := simD.len
                  omega
                refine ⟨acc, hg5, hll, w5, S5, acc ++ [u], accD ++ [y], e'.trans (e3.trans (e4.trans e5)), R7.reguard hDG, (hacc.mono (e3.trans (e4.trans e5))).append (.cons hu .nil), by rw [List.length_append]; exact Nat.succ_le_succ hlen, ?_⟩
                have P7 := Post.mono e5 P6
                revert P7
                simp only [Res.bind_ok]
                cases compC cs (turn ρ1) (v.xs.drop (i + 1)) S5 with
                | stk => exact fun P => P
                | exc c x S6 => exact fun P => P
                | ok ys S6 =>
                  intro P7 w6 H6 e6 R8 z hz
                  rw [List.append_assoc] at hz
                  exact P7 w6 H6 e6 R8 z hz
    · have hx : v.xs[i]? = none := List.getElem?_eq_none (by omega)
      have simD : Sim X.K (G1.put Dd (.lst acc)) w2 cs v.xs J := hJ (G1.put Dd (.lst acc)) w2 e2 (g2.trans fun a o q => by
        show upd G1.G Dd _ a = some o
        rw [upd_ne (ne_of_none q hDG)]
        exact q) fun l hl p xs hp => (h2 l hl p xs hp).mono (Wle.refl _) fun a o q => by
          show upd G1.G Dd _ a = some o
          rw [upd_ne (ne_of_none q hDG)]
          exact q
      refine .inl ⟨simD.stop w' ρ1 S' σ H' e' R' hc i hx, ?_⟩
      rw [List.drop_eq_nil_of_le (by omega), show compC cs (turn ρ1) [] S' = _ from if_pos hc] at P'
      have R9 := R'.unguard hDG
      have hll : acc.length ≤ sizeLine := by
        have := simD.len
        omega
      have := P' w' H' (Wle.refl _) R9 (.ref Dd) ⟨Dd, acc, accD ++ [], rfl, rfl, hDF.1, hll, by rw [List.append_nil]; exact hacc, hDF.2.1, hDF.2.2, hDG⟩
      exact this
theorem s_comp {el it : Expr} {ifs : List Expr} {scope : Scope} {own : List (Str × Nat)} {pos : Pos} {tg' : Tg} {it' tt' el' : Tm} (hc : X.calm = true) (hN : X.N.Nodup) (hi : PI X tg it (rdI X.K Ω Wi it')) (ok : BlkOk X.N X.env.scope scope own)
    (hg : ∀ (s : Shared) (H : Hp) (C : Addr) (cl : List (Str × Addr)) (fp : List Addr), PG (X.blk s H scope (compEnvC scope cl C X.env) fp) tg (rdG X.K tg')) (ht : ∀ (s : Shared) (H : Hp) (C : Addr) (cl : List (Str × Addr)) (fp : List Addr), PTs (X.blk s H scope (compEnvC scope cl C X.env) fp) ifs (rdT X.K Ω WF tt'))
    (he : ∀ (s : Shared) (H : Hp) (C : Addr) (cl : List (Str × Addr)) (fp : List Addr), PE (X.blk s H scope (compEnvC scope cl C X.env) fp) el (rd X.K Ω WF (rE X.K) el')) (hs : notSet it = true) (htg : ∀ i ∈ tgIx tg', i ∈ own.map (·.2)) :
    PE X (.ListComp el [⟨tg, it, ifs, 0⟩] scope pos) (rdF X.K Ω Wi (.comp tg' it' tt' el' (own.map (·.2)))) :=
  PE.imp (pe_lc hc hN hi ok hg ht he (folded_plain hs)) fun _ _ _ h => comp_imp htg h
end
end TX

set_option maxRecDepth 100000
set_option maxHeartbeats 4000000
/-! TX, part 9: zip, enumerate; calls. -/
namespace TX
open PySem PySem.Spec PyProof.Rows L2 He

section
variable {X : Cx} {Ω : Orc} {Wi : WX} {tg : Expr}
/-- where a walked list or tuple lies -/
def SrcV (K : PySem.W.Frag) (w : Wd) (ρ : Env) (σ : L2.St) (v : ItV) (x : V) : Prop := match v.k with
  | .l => ∃ p, x = .ref p ∧ ((v.ls = [] ∧ ∃ vs, vs.length ≤ sizeLine ∧ RpAll K w vs v.xs ∧ (w.F p = some (.lst vs) ∨ SqL K w.F p vs)) ∨ (∃ i, v.ls = [.slot i] ∧ σ[i]? = some (some (.ref p))) ∨ ∃ l, v.ls = [.cell l] ∧ l < w.n ∧ p = w.io l)
  | .t => v.ls = [] ∧ ∃ p, x = .ref p ∧ Heldt K w p v.xs
  | .o => True
def rdV (K : PySem.W.Frag) (Ω : Orc) (Wi : WX) (t : Tm) : TE := fun σ H Q => ∃ G w ρ S, Rel K G w ρ S σ H ∧ Post K G ρ σ Wi w (evI Ω ρ t S) fun v S' w' H' => ∀ x, SrcV K w' ρ σ v x → Q x H'
theorem v_its {e : Expr} {i : Nat} (h : PE X e (tVar i)) : PE X e (rdV X.K Ω Wi (.its i)) :=
  PE.imp h fun σ H Q ⟨G, w, ρ, S, R, P⟩ => by
    cases q : ρ[i]? with
    | none =>
      simp only [evI, q] at P
      exact P.elim
    | some c =>
      cases c with
      | ownL xs =>
        simp only [evI, q] at P
        obtain ⟨p, vs, hσ, _⟩ := R.slot i _ q
        exact ⟨_, hσ, P w H (Wle.refl _) R _ ⟨p, rfl, .inr (.inl ⟨i, rfl, hσ⟩)⟩⟩
      | val d =>
        obtain ⟨v, hσ, rv⟩ := R.slot i _ q
        refine ⟨v, hσ, ?_⟩
        cases rv <;> simp only [evI, q] at P
        case lst h1 h2 h3 => exact P w H (Wle.refl _) R _ ⟨_, rfl, .inl ⟨rfl, _, h2, h3, .inl h1⟩⟩
        case scr h1 h2 h3 => exact P w H (Wle.refl _) R _ ⟨_, rfl, .inl ⟨rfl, _, h2, h3, .inr h1⟩⟩
        case tup h1 h2 h3 => exact P w H (Wle.refl _) R _ ⟨rfl, _, rfl, _, h2, h3, h1⟩
        case str z hz => exact P w H (Wle.refl _) R _ trivial
        case loc l hl =>
          cases q2 : S[l]? with
          | none =>
            simp only [q2] at P
            exact P.elim
          | some c =>
            cases c <;> simp only [q2] at P
            case lst xs => exact P w H (Wle.refl _) R _ ⟨_, rfl, .inr (.inr ⟨_, rfl, hl, rfl⟩)⟩
            all_goals exact P.elim
        all_goals exact P.elim
      | _ =>
        simp only [evI, q] at P
        exact P.elim
theorem v_it {e : Expr} {t : Tm} (h : PE X e (rd X.K Ω Wi (rE X.K) t)) : PE X e (rdV X.K Ω Wi (.it t)) :=
  PE.imp h fun σ H Q ⟨G, w, ρ, S, R, P⟩ => ⟨G, w, ρ, S, R, by
    revert P
    cases q : ev Ω ρ t S with
    | stk =>
      intro P
      simp only [evI, q, Res.bind_stk] at P
      exact P
    | exc c x S1 =>
      intro P
      simp only [evI, q, Res.bind_exc] at P
      exact P
    | ok d S1 =>
      intro P w' H' e' R' v hv
      simp only [evI, q, Res.bind_ok] at P
      cases hv
      case lst h1 h2 h3 => exact P w' H' e' R' _ ⟨_, rfl, .inl ⟨rfl, _, h2, h3, .inl h1⟩⟩
      case scr h1 h2 h3 => exact P w' H' e' R' _ ⟨_, rfl, .inl ⟨rfl, _, h2, h3, .inr h1⟩⟩
      case tup h1 h2 h3 => exact P w' H' e' R' _ ⟨rfl, _, rfl, _, h2, h3, h1⟩
      case str z hz => exact P w' H' e' R' _ trivial
      case loc l hl =>
        cases q2 : S1[l]? with
        | none =>
          simp only [q2] at P
          exact P.elim
        | some c =>
          cases c <;> simp only [q2] at P
          case lst xs => exact P w' H' e' R' _ ⟨_, rfl, .inr (.inr ⟨_, rfl, hl, rfl⟩)⟩
          all_goals exact P.elim
      all_goals exact P.elim⟩
theorem now_l {K : PySem.W.Frag} {G : Gu} {w w0 : Wd} {ρ : Env} {S : Sto} {σ : L2.St} {H : Hp} (R : Rel K G w ρ S σ H) (e : Wle w0 w) {v v' : ItV} {x : V} (h : SrcV K w0 ρ σ v x) (hn : v.now ρ S = some v') : v'.k = v.k ∧ v'.ls = v.ls ∧ (v.k = .l → ∃ p vs, x = .ref p ∧ SqL K H p vs ∧
    ∀ G1 w1 cs, Wle w w1 → Same G.G G1.G → (∀ l ∈ v.ls, ∀ p xs, LkAt w ρ S σ p xs l → Heldl K G1 w1 cs p xs) → Heldl K G1 w1 cs p v'.xs) ∧ (v.k = .t → ∃ p, x = .ref p ∧ Heldt K w p v'.xs) := by
  obtain ⟨k, xs, ls⟩ := v
  unfold ItV.now at hn
  cases ls with
  | nil =>
    cases hn
    refine ⟨rfl, rfl, fun hk => ?_, fun hk => ?_⟩
    · subst hk
      obtain ⟨p, rfl, h | ⟨i, h, _⟩ | ⟨l, h, _⟩⟩ := h
      · obtain ⟨_, vs, h1, h2, h3⟩ := h
        refine ⟨p, vs, rfl, ?_, fun G1 w1 cs e1 g1 _ => ⟨by rw [← h2.length]; exact h1, .inl ⟨vs, h1, h2.mono (e.trans e1), ?_⟩⟩⟩
        · rcases h3 with h3 | h3
          · exact .inl (.inl (R.same _ _ (e.F _ _ h3)))
          · exact R.same.seq (e.F.seq h3)
        · rcases h3 with h3 | h3
          · exact .inl (e1.F _ _ (e.F _ _ h3))
          · exact .inr (.inr (e1.F.seq (e.F.seq h3)))
      · cases h
      · cases h
    · subst hk
      obtain ⟨_, p, rfl, vs, h1, h2, h3⟩ := h
      exact ⟨p, rfl, vs, h1, h2.mono e, e.F _ _ h3⟩
  | cons l ls =>
    cases ls with
    | cons _ _ => cases l <;> cases hn
    | nil =>
      cases l with
      | cell l =>
        cases q : S[l]? with
        | none =>
          simp only [q] at hn
          cases hn
        | some c =>
          cases c with
          | lst ys =>
            simp only [q] at hn
            cases hn
            refine ⟨rfl, rfl, fun hk => ?_, fun hk => ?_⟩
            · subst hk
              obtain ⟨_, vs, h2, h3, h4⟩ := R.cell l _ q
              obtain ⟨p', rfl, h | ⟨j, h, hj⟩ | ⟨l', h, hl, rfl⟩⟩ := h
              · cases h.1
              · cases h
              · cases h
                have e2 := e.io l hl
                exact ⟨_, vs, rfl, .inl (.inl (by rw [← e2]; exact h2)), fun G1 w1 cs e1 g1 hh => hh (.cell l) (List.mem_singleton.mpr rfl) _ _ ⟨e2.symm, q⟩⟩
            · subst hk
              cases h.1
          | _ =>
            simp only [q] at hn
            cases hn
      | slot i =>
        cases q : ρ[i]? with
        | none =>
          simp only [q] at hn
          cases hn
        | some c =>
          cases c with
          | ownL ys =>
            simp only [q] at hn
            cases hn
            refine ⟨rfl, rfl, fun hk => ?_, fun hk => ?_⟩
            · subst hk
              obtain ⟨p, vs, hσ, hl, hp, hz, hr⟩ := R.slot i _ q
              obtain ⟨p', rfl, h | ⟨j, h, hj⟩ | ⟨l, h, _⟩⟩ := h
              · cases h.1
              · cases h
                rw [hσ] at hj
                cases hj
                exact ⟨p, vs, rfl, .inl (.inl hp), fun G1 w1 cs e1 g1 hh => hh (.slot i) (List.mem_singleton.mpr rfl) p _ ⟨hσ, q⟩⟩
              · cases h
            · subst hk
              cases h.1
          | _ =>
            simp only [q] at hn
            cases hn
theorem tCons2 {ta tb : TE} {σ : L2.St} {H : Hp} {Q : List V → Hp → Prop} (h : ta σ H fun x H1 => tb σ H1 fun y H2 => Q [x, y] H2) : tCons ta (tCons tb tNil) σ H Q := h
theorem i_zip {a b : Expr} {s t : Tm} {elts : List Expr} {kk : Nat} {p pos tpos : Pos} (hg : Gl X "zip") (hm : X.mg "zip" = none) (ha : PE X a (rdV X.K Ω Wi s)) (hb : PE X b (rdV X.K Ω Wi t)) (hp : plainA a = true) (hp' : plainA b = true) :
    PI X (.Tuple elts kk tpos) (.Call (.Name "zip" p) [a, b] [] pos) (rdI X.K Ω Wi (.zip s t)) :=
  PI.imp (RZ.pi_zipA hg hm (pa_cons ha (pa_cons hb pa_nil (star_plain hp')) (star_plain hp)) (star_plain hp) (pl_any (es := [b]) (by simp only [List.all_cons, hp', List.all_nil, Bool.and_self]))) fun σ H Rr ⟨G, w, ρ, S, R, P⟩ =>
    ⟨G, w, ρ, S, R, (Post.bind P).imp fun v S1 w1 H1 e1 R1 P1 x hx => ⟨G, w1, ρ, S1, R1, (Post.bind P1).imp fun v2 S2 w2 H2 e2 R2 P2 y hy => by
      obtain ⟨z, hz, k⟩ := Post.of P2
      cases q1 : v.now ρ S2 with
      | none =>
        rw [q1] at hz
        cases hz
      | some u =>
        rw [q1, Option.bind_some] at hz
        cases q2 : v2.now ρ S2 with
        | none =>
          rw [q2] at hz
          cases hz
        | some u2 =>
          rw [q2, Option.bind_some] at hz
          obtain ⟨a1, a2, a3, a4⟩ := now_l R2 e2 hx q1
          obtain ⟨b1, b2, b3, b4⟩ := now_l R2 (Wle.refl _) hy q2
          unfold zipI at hz
          cases k1 : u.k with
          | l =>
            cases k2 : u2.k with
            | l =>
              simp only [k1, k2] at hz
              cases hz
              obtain ⟨p, vs, rfl, c1, c2⟩ := a3 (a1.symm.trans k1)
              obtain ⟨p', vs', rfl, d1, d2⟩ := b3 (b1.symm.trans k2)
              refine ⟨p, p', vs, vs', rfl, .inl ⟨c1, d1, k w2 H2 (Wle.refl _) R2 _ fun G1 w3 e3 g3 hh => ?_⟩⟩
              have hh : ∀ l ∈ u.ls ++ u2.ls, ∀ p xs, LkAt w2 ρ S2 σ p xs l → Heldl X.K G1 w3 _ p xs := hh
              exact sim_zl (c2 G1 w3 _ e3 g3 fun l hl p xs hp => hh l (List.mem_append_left _ (by rw [a2]; exact hl)) p xs hp) (d2 G1 w3 _ e3 g3 fun l hl p xs hp => hh l (List.mem_append_right _ (by rw [b2]; exact hl)) p xs hp)
            | _ =>
              simp only [k1, k2] at hz
              cases hz
          | t =>
            cases k2 : u2.k with
            | t =>
              simp only [k1, k2] at hz
              cases hz
              obtain ⟨p, rfl, vs, c1, c2, c3⟩ := a4 (a1.symm.trans k1)
              obtain ⟨p', rfl, vs', d1, d2, d3⟩ := b4 (b1.symm.trans k2)
              exact ⟨p, p', vs, vs', rfl, .inr ⟨tupT R2.same c3, tupT R2.same d3, k w2 H2 (Wle.refl _) R2 _ fun G1 w3 e3 g3 hh => sim_zt ⟨vs, c1, c2.mono e3, e3.F _ _ c3⟩ ⟨vs', d1, d2.mono e3, e3.F _ _ d3⟩⟩⟩
            | _ =>
              simp only [k1, k2] at hz
              cases hz
          | o =>
            simp only [k1] at hz
            cases hz⟩⟩
theorem i_enm {a : Expr} {s : Tm} {elts : List Expr} {kk : Nat} {p pos tpos : Pos} (hg : Gl X "enumerate") (hm : X.mg "enumerate" = none) (ha : PE X a (rdV X.K Ω Wi s)) (hp : plainA a = true) :
    PI X (.Tuple elts kk tpos) (.Call (.Name "enumerate" p) [a] [] pos) (rdI X.K Ω Wi (.enm s)) :=
  PI.imp (pi_enum hg hm (pa_cons ha pa_nil (star_plain hp)) (star_plain hp)) fun σ H Rr ⟨G, w, ρ, S, R, P⟩ =>
    ⟨G, w, ρ, S, R, (Post.bind P).imp fun v S1 w1 H1 e1 R1 P1 x hx => by
      obtain ⟨z, hz, k⟩ := Post.of P1
      cases q1 : v.now ρ S1 with
      | none =>
        rw [q1] at hz
        cases hz
      | some u =>
        rw [q1, Option.bind_some] at hz
        obtain ⟨a1, a2, a3, a4⟩ := now_l R1 (Wle.refl _) hx q1
        unfold enmI at hz
        cases k1 : u.k with
        | l =>
          simp only [k1] at hz
          cases hz
          obtain ⟨p, vs, rfl, c1, c2⟩ := a3 (a1.symm.trans k1)
          exact ⟨p, vs, rfl, c1, k w1 H1 (Wle.refl _) R1 _ fun G1 w3 e3 g3 hh => sim_en (c2 G1 w3 _ e3 g3 fun l hl p xs hp => hh l (by rw [a2]; exact hl) p xs hp)⟩
        | _ =>
          simp only [k1] at hz
          cases hz⟩
end
/-! ### calls -/
/-- a def keeps its promise where no repr runs around -/
structure FnG (P : Program) (w : World) (K : PySem.W.Frag) (mg : Str → Option Value) (base : Heap) (k : Nat) (f : Addr) (fd : FuncData) (ps : List Str) (sp : Sp) : Prop where
  len : ∀ vs H Q E, sp vs H Q E → vs.length = ps.length
  run : ∀ (A : Around) (outer : List PySem.Env) (s : Shared) (H : Hp) (args : Args) (us : List Value) (vs : List V) (Q : VK) (E : XK), Room k A → A.guards = some [] → Env0 P w K mg base A outer s H → BindsTo s fd args (ps.zip us) → Vals vs us →
    sp vs H Q E → codeAny (model P w) A (.call (.ref f) args) (CR (L2.CX P w) outer P w H s Q E) s
/-- what the run says of a def -/
def spOf (K : PySem.W.Frag) (Ω : Orc) (k : Ky) : Sp := fun vs H Q E => ∃ G w S ds, Rel K G w [] S [] H ∧ RpAll K w vs ds ∧ Post K G [] [] (fun cls d _ H => E cls d H) w (Ω k ds S) fun d S' w' H' => ∀ v, Rp K w' v d → Q v H'
section
variable {X : Cx} {Ω : Orc} {Wi : WX}
/-- the run of a callee, seen by the caller -/
theorem call_sp {K : PySem.W.Frag} {G : Gu} {w : Wd} {ρ : Env} {S : Sto} {σ : L2.St} {H : Hp} {vs : List V} {ds : List D} {k : Ky} {Q : VK} (R : Rel K G w ρ S σ H) (r : RpAll K w vs ds)
    (P : Post K G ρ σ Wi w (Ω k ds S) fun d S' w' H' => ∀ v, Rp K w' v d → Q v H') : spOf K Ω k vs H Q (fun cls d H => Wi cls d σ H) := by
  refine ⟨G.of w H, w.bare, S, ds, R.callee, r.mono Wle.bare, ?_⟩
  revert P
  cases Ω k ds S with
  | stk => exact fun P => P
  | exc c x S' =>
    intro P w1 H1 cls d e1 R1 ex
    refine P (w.back w1) H1 cls d (Wle.back e1) (R.back e1 R1) ⟨ex.1, ?_⟩
    cases x with
    | none => exact ex.2
    | some y =>
      obtain ⟨dd, v, h1, h2, h3⟩ := ex.2
      exact ⟨dd, v, h1, h2, h3.mono Wle.back'⟩
  | ok d S' => exact fun P w1 H1 e1 R1 v hv => P (w.back w1) H1 (Wle.back e1) (R.back e1 R1) v (hv.mono Wle.back')
theorem run_G {k : Nat} {f : Addr} {fd : FuncData} {ps : List Str} {sp : Sp} {pins : List (Addr × Obj)} {σ : L2.St} {H : Hp} {s : Shared} {Q : VK} {us : List Value} {vs : List V} (tk : Takes X Wi) (F : FnG X.prog X.w X.K X.mg X.base k f fd ps sp) (hr : Room k X.A) (hgd : X.A.guards = some [])
    (hb : Binds X.K fd ps []) (I : Inv X pins σ H s) (r : Vals vs us) (h : sp vs H Q fun cls d H => Wi cls d σ H) : wpAny (model X.prog X.w) X.A (call (.ref f) us) (EP X pins σ Q) X.xe s := by
  have hlen : us.length = ps.length := r.length.symm.trans (F.len _ _ _ _ h)
  have bind := hb s us I.kIn (by simpa using hlen)
  rw [List.append_nil] at bind
  refine wpAny_call (codeAny_mono (F.run X.A X.stack s H ⟨us, []⟩ us vs Q _ hr hgd I.env0 bind r h) fun res s' post => ?_)
  match res, post with
  | .ok (.ret u), post => exact I.after post
  | .error e, post => exact passAt tk σ pins H s e s' I post
  | .ok .next, post => exact False.elim post
  | .ok .brk, post => exact False.elim post
  | .ok .cont, post => exact False.elim post
/-- a def of the module -/
theorem s_call0 {k : Nat} {f : Addr} {fd : FuncData} {ps : List Str} {x : Str} {p pos : Pos} (tk : Takes X Wi) (F : FnG X.prog X.w X.K X.mg X.base k f fd ps (spOf X.K Ω (.fn x))) (hr : Room k X.A) (hgd : X.A.guards = some [])
    (hg : Gl X x) (hm : X.mg x = some (.ref f)) (hk : PySem.W.keepIn X.K (.ref f) = true) (hb : Binds X.K fd ps []) (hx : (x == ("__debug__" : Str)) = false) :
    PE X (.Call (.Name x p) [] [] pos) (rd X.K Ω Wi (rE X.K) (.call x .nil)) := by
  refine ⟨fun pins s σ H Q I ⟨G, w, ρ, S, R, P⟩ => ?_⟩
  refine wpAny_Call_Name_kw (ld_glob I hg hm ?_ hx)
  exact PySem.W.callWith_K0 I.kIn hk (run_G (us := []) (vs := []) tk F hr hgd hb I .nil (call_sp R .nil P))
theorem s_call {k : Nat} {f : Addr} {fd : FuncData} {ps : List Str} {x : Str} {e : Expr} {es : List Expr} {as : Tm} {p pos : Pos} (tk : Takes X Wi) (F : FnG X.prog X.w X.K X.mg X.base k f fd ps (spOf X.K Ω (.fn x))) (hr : Room k X.A) (hgd : X.A.guards = some [])
    (hg : Gl X x) (hm : X.mg x = some (.ref f)) (hk : PySem.W.keepIn X.K (.ref f) = true) (hb : Binds X.K fd ps []) (hx : (x == ("__debug__" : Str)) = false) (ha : PA X (e :: es) (rdA X.K Ω Wi as)) (hp : (e :: es).all plainA = true) :
    PE X (.Call (.Name x p) (e :: es) [] pos) (rd X.K Ω Wi (rE X.K) (.call x as)) := by
  refine ⟨fun pins s σ H Q I ⟨G, w, ρ, S, R, P⟩ => ?_⟩
  refine wpAny_Call_Name_kw (ld_glob I hg hm ?_ hx)
  have hp2 : plainA e = true ∧ es.all plainA = true := by
    rw [List.all_cons, Bool.and_eq_true] at hp
    exact hp
  refine PySem.W.callWith_K (h₀ := X.base) I.ok.mod.kin hk (thn (ha.run pos pins s σ H (fun vs H1 => spOf X.K Ω (.fn x) vs H1 Q fun cls d H => Wi cls d σ H) I ⟨G, w, ρ, S, R, (Post.bind P).imp fun ds S1 w1 H1 e1 R1 P1 vs hvs => call_sp R1 hvs P1⟩) fun us s1 ⟨vs, H1, I1, r, q⟩ => ?_) (star_plain hp2.1) (pl_any hp2.2)
  refine ⟨I1.kIn, run_G tk F hr hgd hb I1 r q⟩
end
end TX

set_option maxRecDepth 100000
set_option maxHeartbeats 4000000
/-! TX, part 10: statements. -/
namespace TX
open PySem PySem.Spec PyProof.Rows L2 He

theorem ExcR.mono {K : PySem.W.Frag} {w w' : Wd} {cls : Value} {d : Option Addr} {c : Str} {x : Option D} (e : Wle w w') (h : ExcR K w cls d c x) : ExcR K w' cls d c x := by
  obtain ⟨h1, h2⟩ := h
  refine ⟨h1, ?_⟩
  cases x with
  | none => exact h2
  | some y =>
    obtain ⟨dd, v, k1, k2, k3⟩ := h2
    exact ⟨dd, v, k1, e.F _ _ k2, k3.mono e⟩
theorem Rel.noSlots {K : PySem.W.Frag} {G : Gu} {w : Wd} {ρ : Env} {S : Sto} {σ : L2.St} {H : Hp} (R : Rel K G w ρ S σ H) : Rel K G w [] S [] H :=
  R.slots rfl fun i c h => by simp at h
/-- what a statement's run leads to -/
def OPost (K : PySem.W.Frag) (G : Gu) (Wi : WX) (w : Wd) (D : Ends) : Out → Prop
  | .nx ρ S => ∀ w' σ' H', Wle w w' → Rel K G w' ρ S σ' H' → D.nx σ' H'
  | .brk ρ S => ∀ w' σ' H', Wle w w' → Rel K G w' ρ S σ' H' → D.bk σ' H'
  | .cnt ρ S => ∀ w' σ' H', Wle w w' → Rel K G w' ρ S σ' H' → D.ct σ' H'
  | .ret d S => ∀ w' H' v, Wle w w' → Rel K G w' [] S [] H' → Rp K w' v d → D.rt v H'
  | .exc c x ρ S => ∀ w' σ' H' cls d, Wle w w' → Rel K G w' ρ S σ' H' → ExcR K w' cls d c x → Wi cls d σ' H'
  | .stk => False
section
variable {K : PySem.W.Frag} {G : Gu} {Wi : WX} {w w' : Wd} {D : Ends} {ρ : Env} {S : Sto} {σ : L2.St} {H : Hp}
theorem OPost.mono {o : Out} (e : Wle w w') (h : OPost K G Wi w D o) : OPost K G Wi w' D o := by
  cases o with
  | nx ρ S => exact fun w2 σ2 H2 e2 => h w2 σ2 H2 (e.trans e2)
  | brk ρ S => exact fun w2 σ2 H2 e2 => h w2 σ2 H2 (e.trans e2)
  | cnt ρ S => exact fun w2 σ2 H2 e2 => h w2 σ2 H2 (e.trans e2)
  | ret d S => exact fun w2 H2 v e2 => h w2 H2 v (e.trans e2)
  | exc c x ρ S => exact fun w2 σ2 H2 cls d e2 => h w2 σ2 H2 cls d (e.trans e2)
  | stk => exact h
theorem OPost.run {α : Type} {r : Res α} {f : α → Sto → Out} (h : OPost K G Wi w D (r.run ρ f)) : Post K G ρ σ Wi w r fun a S' w' _ => OPost K G Wi w' D (f a S') := by
  cases r with
  | ok a S => exact fun w2 H2 e2 R => OPost.mono e2 h
  | exc c x S => exact fun w2 H2 cls d e2 R k => h w2 σ H2 cls d e2 R k
  | stk => exact h
theorem OPost.next {o : Out} {f : Env → Sto → Out} {N : L2.St → Hp → Prop} (h : OPost K G Wi w D (o.next f)) (k : ∀ w' ρ' S' σ' H', Rel K G w' ρ' S' σ' H' → OPost K G Wi w' D (f ρ' S') → N σ' H') : OPost K G Wi w { D with nx := N } o := by
  cases o with
  | nx ρ S => exact fun w2 σ2 H2 e2 R => k w2 ρ S σ2 H2 R (OPost.mono e2 h)
  | brk ρ S => exact h
  | cnt ρ S => exact h
  | ret d S => exact h
  | exc c x ρ S => exact h
  | stk => exact h
theorem OPost.turn {o : Out} {f : Env → Sto → Out} {N : L2.St → Hp → Prop} (h : OPost K G Wi w D (o.turn f)) (k : ∀ w' ρ' S' σ' H', Wle w w' → Rel K G w' ρ' S' σ' H' → OPost K G Wi w' D (f ρ' S') → N σ' H') : OPost K G Wi w { D with nx := N, ct := N, bk := D.nx } o := by
  cases o with
  | nx ρ S => exact fun w2 σ2 H2 e2 R => k w2 ρ S σ2 H2 e2 R (OPost.mono e2 h)
  | brk ρ S => exact h
  | cnt ρ S => exact fun w2 σ2 H2 e2 R => k w2 ρ S σ2 H2 e2 R (OPost.mono e2 h)
  | ret d S => exact h
  | exc c x ρ S => exact h
  | stk => exact h
/-- run with these shut -/
theorem shut_out {ls : List Lk} {f : Env → Sto → Out} (R : Rel K G w ρ S σ H) (P : OPost K G Wi w D (shutO ls ρ S f)) :
    ∃ G1 w1 ρ1 S1, Wle w w1 ∧ Same G.G G1.G ∧ Rel K G1 w1 ρ1 S1 σ H ∧ (∀ l ∈ ls, ∀ p xs, LkAt w ρ S σ p xs l → Heldl K G1 w1 (chks S ls) p xs) ∧ OPost K G1 Wi w1 D (f ρ1 S1) := by
  by_cases ca : ls.all isCell = true
  · unfold shutO at P
    rw [if_pos ca] at P
    refine ⟨G, w, ρ, S, Wle.refl _, Same.refl _, R, fun l hl p xs hp => ?_, P⟩
    cases l with
    | slot i => exact absurd (List.all_eq_true.mp ca _ hl) Bool.false_ne_true
    | cell l =>
      obtain ⟨rfl, h⟩ := hp
      exact R.cellHeld hl h (Wle.refl _)
  · unfold shutO at P
    rw [if_neg ca] at P
    match ls with
    | [] => exact absurd rfl ca
    | [l] =>
      have P : OPost K G Wi w D (match lock1 ρ S l with
        | none => .stk
        | some (ρ1, S1) => (f ρ1 S1).unl l (lockedOf ρ l)) := P
      cases q : lock1 ρ S l with
      | none =>
        rw [q] at P
        exact P.elim
      | some z =>
        obtain ⟨ρ1, S1⟩ := z
        rw [q] at P
        obtain ⟨G1, w1, e1, g1, R1, h1, u1⟩ := lock_ok R q
        refine ⟨G1, w1, ρ1, S1, e1, g1, R1, fun l' hl p xs hp => ?_, ?_⟩
        · cases List.mem_singleton.mp hl
          exact h1 _ p xs hp
        · have P : OPost K G Wi w D ((f ρ1 S1).unl l (lockedOf ρ l)) := P
          revert P
          cases f ρ1 S1 with
          | stk => exact fun P => P
          | nx ρ2 S2 =>
            intro P w2 σ2 H2 e2 R2
            obtain ⟨w3, k1, k2, k3, k4⟩ := u1 w2 ρ2 S2 σ2 H2 e2 R2
            exact P w3 σ2 H2 (e1.trans (e2.trans k1)) k4
          | brk ρ2 S2 =>
            intro P w2 σ2 H2 e2 R2
            obtain ⟨w3, k1, k2, k3, k4⟩ := u1 w2 ρ2 S2 σ2 H2 e2 R2
            exact P w3 σ2 H2 (e1.trans (e2.trans k1)) k4
          | cnt ρ2 S2 =>
            intro P w2 σ2 H2 e2 R2
            obtain ⟨w3, k1, k2, k3, k4⟩ := u1 w2 ρ2 S2 σ2 H2 e2 R2
            exact P w3 σ2 H2 (e1.trans (e2.trans k1)) k4
          | exc c x ρ2 S2 =>
            intro P w2 σ2 H2 cls d e2 R2 ex
            obtain ⟨w3, k1, k2, k3, k4⟩ := u1 w2 ρ2 S2 σ2 H2 e2 R2
            exact P w3 σ2 H2 cls d (e1.trans (e2.trans k1)) k4 (ex.mono k1)
          | ret d S2 =>
            intro P w2 H2 v e2 R2 rv
            obtain ⟨w3, k1, k2, k3, k4⟩ := u1 w2 [] S2 [] H2 e2 R2
            exact P w3 H2 v (e1.trans (e2.trans k1)) k4.noSlots (rv.mono k1)
    | _ :: _ :: _ => exact False.elim P
end
def rdS (K : PySem.W.Frag) (Ω : Orc) (Wi : WX) (t : St) : TS := fun D σ H => ∃ G w ρ S, Rel K G w ρ S σ H ∧ OPost K G Wi w D (ex Ω t ρ S)
theorem PS.imp {X : Cx} {st : Stmt} {t t' : TS} (h : PS X st t) (f : ∀ D σ H, t' D σ H → t D σ H) : PS X st t' := ⟨fun pins s σ H D I q => h.run pins s σ H D I (f D σ H q)⟩
theorem PSs.imp {X : Cx} {st : List Stmt} {t t' : TS} (h : PSs X st t) (f : ∀ D σ H, t' D σ H → t D σ H) : PSs X st t' := ⟨fun pins s σ H D I q => h.run pins s σ H D I (f D σ H q)⟩
section
variable {X : Cx} {Ω : Orc} {Wi : WX}
theorem b_nil : PSs X [] (rdS X.K Ω Wi .skip) := PSs.imp pss_nil fun D σ H ⟨G, w, ρ, S, R, P⟩ => P w σ H (Wle.refl _) R
theorem b_cons {st : Stmt} {rest : List Stmt} {a b : St} (h : PS X st (rdS X.K Ω Wi a)) (k : PSs X rest (rdS X.K Ω Wi b)) : PSs X (st :: rest) (rdS X.K Ω Wi (.seq a b)) :=
  PSs.imp (pss_cons h k) fun D σ H ⟨G, w, ρ, S, R, P⟩ => ⟨G, w, ρ, S, R, OPost.next (o := ex Ω a ρ S) (f := fun ρ' S' => ex Ω b ρ' S') P fun w' ρ' S' σ' H' R' P' => ⟨G, w', ρ', S', R', P'⟩⟩
theorem b_pass {pos : Pos} : PS X (.Pass pos) (rdS X.K Ω Wi .skip) := PS.imp ps_pass fun D σ H ⟨G, w, ρ, S, R, P⟩ => P w σ H (Wle.refl _) R
theorem b_doc {x j pos pos'} : PS X (.Expr (.Constant (.str x) j pos) pos') (rdS X.K Ω Wi .skip) := PS.imp ps_doc fun D σ H ⟨G, w, ρ, S, R, P⟩ => P w σ H (Wle.refl _) R
theorem b_brk {pos : Pos} : PS X (.Break pos) (rdS X.K Ω Wi .brk) := PS.imp ps_break fun D σ H ⟨G, w, ρ, S, R, P⟩ => P w σ H (Wle.refl _) R
theorem b_cnt {pos : Pos} : PS X (.Continue pos) (rdS X.K Ω Wi .cnt) := PS.imp ps_continue fun D σ H ⟨G, w, ρ, S, R, P⟩ => P w σ H (Wle.refl _) R
theorem b_ret {e : Expr} {t : Tm} {pos : Pos} (h : PE X e (rd X.K Ω Wi (rE X.K) t)) : PS X (.Return (some e) pos) (rdS X.K Ω Wi (.ret t)) :=
  PS.imp (ps_ret h) fun D σ H ⟨G, w, ρ, S, R, P⟩ => ⟨G, w, ρ, S, R, (OPost.run (σ := σ) P).imp fun d S1 w1 H1 e1 R1 P1 v hv => P1 w1 H1 v (Wle.refl _) R1.noSlots hv⟩
theorem b_retN {pos : Pos} : PS X (.Return none pos) (rdS X.K Ω Wi (.ret (.cst .non))) :=
  PS.imp ps_retN fun D σ H ⟨G, w, ρ, S, R, P⟩ => P w H _ (Wle.refl _) R.noSlots .non
/-- one's own list is given back: it is frozen -/
theorem Rel.giveSlot {K : PySem.W.Frag} {G : Gu} {w : Wd} {ρ : Env} {S : Sto} {σ : L2.St} {H : Hp} (R : Rel K G w ρ S σ H) {i : Nat} {p : Addr} {vs : List V} (hl : w.lab p = some (.slot i)) (hp : H p = some (.lst vs)) : ∃ w', Wle w w' ∧ Rel K G w' [] S [] H ∧ w'.F p = some (.lst vs) := by
  have hF : w.F p = none := by
    cases q : w.F p with
    | none => rfl
    | some o =>
      rw [(R.fz p o q).2] at hl
      cases hl
  have hG : G.G p = none := by
    cases q : G.G p with
    | none => rfl
    | some o =>
      rw [(R.gd p o q).2.1] at hl
      cases hl
  have R0 : Rel K G (unlab w p) [] S [] H := by
    have hne : ∀ a ow, w.lab a = some ow → ow ≠ .slot i → a ≠ p := fun a ow h n e => by
      rw [e, hl] at h
      cases h
      exact n rfl
    refine ⟨fun a o h => ⟨(R.fz a o h).1, ?_⟩, fun a o h => ⟨(R.gd a o h).1, ?_, (R.gd a o h).2.2⟩, fun a h z => ?_, rfl, fun i c h => by simp at h, R.n, fun l c h => (R.cell l c h).imp Wle.unlab (R.lt h) rfl (fun _ => rfl) fun a o ha ho => ⟨?_, rfl⟩⟩
    · show (if a = p then none else w.lab a) = none
      split
      · rfl
      · exact (R.fz a o h).2
    · show (if a = p then none else w.lab a) = none
      split
      · rfl
      · exact (R.gd a o h).2.1
    · by_cases e : a = p
      · rw [e, hp] at z
        cases z
      · have h : (if a = p then none else w.lab a) ≠ none := h
        rw [if_neg e] at h
        exact R.tr a h z
    · show (if a = p then none else w.lab a) = _
      rw [if_neg (hne a _ ha (not_slot ho i))]
      exact ha
  exact ⟨(unlab w p).put p (.lst vs), Wle.unlab.trans (Wle.put hF), R0.frozen hp (if_pos rfl) hF hG, upd_same⟩
theorem b_retO {e : Expr} {i : Nat} {pos : Pos} (h : PE X e (tVar i)) : PS X (.Return (some e) pos) (rdS X.K Ω Wi (.retO i)) :=
  PS.imp (ps_ret h) fun D σ H ⟨G, w, ρ, S, R, P⟩ => by
    have P : OPost X.K G Wi w D (match ρ[i]? with
      | some (.ownL xs) => .ret (.lst xs) S
      | _ => .stk) := P
    cases q : ρ[i]? with
    | none =>
      rw [q] at P
      exact P.elim
    | some c =>
      rw [q] at P
      cases c with
      | ownL xs =>
        obtain ⟨p, vs, h1, h2, h3, h4, h5⟩ := R.slot i _ q
        obtain ⟨w', e', R', f'⟩ := R.giveSlot h2 h3
        exact ⟨_, h1, P w' H (.ref p) e' R' (.lst f' h4 (h5.mono e'))⟩
      | _ => exact P.elim
theorem b_ite {c : Expr} {a b : List Stmt} {t : Tm} {u v : St} {pos : Pos} (hc : PT X c (rdT X.K Ω Wi t)) (ha : PSs X a (rdS X.K Ω Wi u)) (hb : PSs X b (rdS X.K Ω Wi v)) : PS X (.If c a b pos) (rdS X.K Ω Wi (.ite t u v)) :=
  PS.imp (ps_if hc ha hb) fun D σ H ⟨G, w, ρ, S, R, P⟩ => ⟨G, w, ρ, S, R, (OPost.run (σ := σ) P).imp fun d S1 w1 H1 e1 R1 P1 => by
    cases q : tru S1 d with
    | none =>
      simp only [q] at P1
      exact P1.elim
    | some z =>
      refine ⟨z, rfl, ?_⟩
      cases z with
      | true =>
        simp only [q] at P1
        exact ⟨G, w1, ρ, S1, R1, P1⟩
      | false =>
        simp only [q] at P1
        exact ⟨G, w1, ρ, S1, R1, P1⟩⟩
theorem b_expr {e : Expr} {t : Tm} {pos : Pos} (h : PE X e (rd X.K Ω Wi (rE X.K) t)) (hs : swapsWith e none pos.line X.env = pure false) : PS X (.Expr e pos) (rdS X.K Ω Wi (.expr t)) :=
  PS.imp (ps_expr h hs) fun D σ H ⟨G, w, ρ, S, R, P⟩ => ⟨G, w, ρ, S, R, (OPost.run (σ := σ) P).imp fun d S1 w1 H1 e1 R1 P1 v hv => P1 w1 σ H1 (Wle.refl _) R1⟩
theorem b_asg {st : Stmt} {tg : Tg} {t : Tm} (h : PS X st (tAsg (rd X.K Ω Wi (rE X.K) t) (rdG X.K tg))) : PS X st (rdS X.K Ω Wi (.asg tg t)) :=
  PS.imp h fun D σ H ⟨G, w, ρ, S, R, P⟩ => ⟨G, w, ρ, S, R, (OPost.run (σ := σ) P).imp fun d S1 w1 H1 e1 R1 P1 v hv => by
    cases q : bindT tg d ρ with
    | none =>
      simp only [q] at P1
      exact P1.elim
    | some ρ' =>
      simp only [q] at P1
      exact ⟨G, w1, ρ, S1, d, ρ', R1, hv, q, fun σ' R' _ => P1 w1 σ' H1 (Wle.refl _) R'⟩⟩
theorem g_imp {i : Nat} {v : V} {σ : L2.St} {H : Hp} {Q : L2.St → Hp → Prop} (h : rdG X.K (.nm i) v σ H Q) : gName i v σ H Q := by
  obtain ⟨G, w, ρ, S, d, ρ', R, rv, hb, k⟩ := h
  have hb : (if i < ρ.length then some (ρ.set i (.val d)) else none) = some ρ' := hb
  by_cases c : i < ρ.length
  · rw [if_pos c] at hb
    cases hb
    exact k _ (R.val rv) fun ws hw => wipe_set σ i _ (hw i (List.mem_singleton.mpr rfl))
  · rw [if_neg c] at hb
    cases hb
theorem asg_mono {te te' : TE} {g g' : TG} {st : Stmt} (h : PS X st (tAsg te g)) (f : ∀ σ H Q, te' σ H Q → te σ H Q) (k : ∀ v σ H Q, g' v σ H Q → g v σ H Q) (m : ∀ σ H (Q Q' : VK), (∀ v H, Q v H → Q' v H) → te σ H Q → te σ H Q') : PS X st (tAsg te' g') :=
  PS.imp h fun D σ H q => m σ H _ _ (fun v H1 => k v σ H1 D.nx) (f σ H _ q)
theorem rd_mono {t : Tm} {r : RX} {σ : L2.St} {H : Hp} {Q Q' : VK} (f : ∀ v H, Q v H → Q' v H) (h : rd X.K Ω Wi r t σ H Q) : rd X.K Ω Wi r t σ H Q' := by
  obtain ⟨G, w, ρ, S, R, P⟩ := h
  exact ⟨G, w, ρ, S, R, P.imp fun d S1 w1 H1 _ _ k v hv => f v H1 (k v hv)⟩
theorem rdF_mono {t : Tm} {σ : L2.St} {H : Hp} {Q Q' : VK} (f : ∀ v H, Q v H → Q' v H) (h : rdF X.K Ω Wi t σ H Q) : rdF X.K Ω Wi t σ H Q' := by
  obtain ⟨G, w, ρ, S, R, P⟩ := h
  exact ⟨G, w, ρ, S, R, P.imp fun d S1 w1 H1 _ _ k v hv => f v H1 (k v hv)⟩
/-- a name bound to a value -/
theorem b_nmE {st : Stmt} {i : Nat} {t : Tm} (h : PS X st (tAsg (rd X.K Ω Wi (rE X.K) t) (gName i))) : PS X st (rdS X.K Ω Wi (.asg (.nm i) t)) :=
  b_asg (PS.imp h fun D σ H q => rd_mono (fun v H1 => g_imp) q)
theorem b_nmF {st : Stmt} {i : Nat} {t : Tm} (h : PS X st (tAsg (rdF X.K Ω Wi t) (gName i))) : PS X st (rdS X.K Ω Wi (.asg (.nm i) t)) :=
  b_nmE (PS.imp h fun D σ H q => frz q)
/-- .. to a new list, which is its own -/
theorem b_own {st : Stmt} {i : Nat} {t : Tm} (h : PS X st (tAsg (rdF X.K Ω Wi t) (gName i))) : PS X st (rdS X.K Ω Wi (.own i t)) :=
  PS.imp h fun D σ H ⟨G, w, ρ, S, R, P⟩ => ⟨G, w, ρ, S, R, (OPost.run (σ := σ) P).imp fun d S1 w1 H1 e1 R1 P1 v hv => by
    rcases hv with ⟨_, n⟩ | ⟨p, vs, xs, rfl, rfl, h3, h4, h5, h6, h7, h8⟩
    · cases d with
      | lst xs => exact absurd rfl (n xs)
      | _ => exact P1.elim
    · have P1 : OPost X.K G Wi w1 D (if i < ρ.length then .nx (ρ.set i (.ownL xs)) S1 else .stk) := P1
      by_cases c : i < ρ.length
      · rw [if_pos c] at P1
        exact P1 _ _ H1 Wle.mark (R1.own h3 h4 h5 h6 h7 h8)
      · rw [if_neg c] at P1
        exact P1.elim⟩
/-! ### loops -/
theorem b_loop {tg iter : Expr} {body : List Stmt} {tg' : Tg} {it : Tm} {b : St} {pos : Pos} (hp : PassesOwn (model X.prog X.w) X.A X.env X.xe) (hc : X.calm = true) (hi : PI X tg iter (rdI X.K Ω Wi it)) (hg : PG X tg (rdG X.K tg')) (hb : PSs X body (rdS X.K Ω Wi b)) (hs : notSet iter = true) :
    PS X (.For tg iter body [] pos) (rdS X.K Ω Wi (.loop tg' it b)) :=
  PS.imp (ps_for hp hc hi hg hb (folded_plain hs)) fun D σ H ⟨G, w, ρ, S, R, P⟩ => ⟨G, w, ρ, S, R, (OPost.run (σ := σ) P).imp fun v S1 w1 H1 e1 R1 P1 J hJ => by
    let turn : TX.D → Env → Sto → Out := fun x ρ' S' => match bindT tg' x ρ' with
      | none => .stk
      | some ρ2 => ex Ω b ρ2 S'
    have P1 : OPost X.K G Wi w1 D (shutO v.ls ρ S1 fun ρ1 S2 => loopC (chks S1 v.ls) turn v.xs ρ1 S2) := P1
    obtain ⟨G1, w2, ρ1, S2, e2, g2, R2, h2, P2⟩ := shut_out R1 P1
    have sim := hJ G1 w2 e2 g2 h2
    refine ⟨fun i m σ' H' => ∃ w' ρ' S', i + m = v.xs.length ∧ Wle w2 w' ∧ Rel X.K G1 w' ρ' S' σ' H' ∧ OPost X.K G1 Wi w' D (loopC (chks S1 v.ls) turn (v.xs.drop i) ρ' S'), ⟨v.xs.length, w2, ρ1, S2, Nat.zero_add _, Wle.refl _, R2, by rw [List.drop_zero]; exact P2⟩, ?_⟩
    rintro i m σ' H' ⟨w', ρ', S', him, e', R', P'⟩
    have hc : okC (chks S1 v.ls) S' = true := by
      cases q : okC (chks S1 v.ls) S' with
      | true => rfl
      | false =>
        exfalso
        revert P'
        cases v.xs.drop i with
        | nil =>
          show OPost X.K G1 Wi w' D (if okC (chks S1 v.ls) S' then Out.nx ρ' S' else .stk) → False
          rw [q]
          exact fun P => P
        | cons x r =>
          show OPost X.K G1 Wi w' D (if okC (chks S1 v.ls) S' then _ else Out.stk) → False
          rw [q]
          exact fun P => P
    by_cases hi' : i < v.xs.length
    · have hx : v.xs[i]? = some v.xs[i] := List.getElem?_eq_getElem hi'
      obtain ⟨hgo, hyld⟩ := sim.go w' ρ' S' σ' H' e' R' hc i _ hx
      refine .inr ⟨hgo, fun σ3 H3 => ∃ w3 ρ3 S3, Wle w2 w3 ∧ Rel X.K G1 w3 ρ3 S3 σ3 H3 ∧ OPost X.K G1 Wi w3 D (loopC (chks S1 v.ls) turn (v.xs.drop (i + 1)) ρ3 S3), fun σ3 H3 ⟨w3, ρ3, S3, k1, k2, k3⟩ => ⟨m - 1, by omega, w3, ρ3, S3, by omega, k1, k2, k3⟩, fun x H3 hy => ?_⟩
      obtain ⟨w3, e3, R3, rx⟩ := hyld x H3 hy
      rw [List.drop_eq_getElem_cons hi', show loopC (chks S1 v.ls) turn (v.xs[i] :: v.xs.drop (i + 1)) ρ' S' = _ from if_pos hc] at P'
      have P3 : OPost X.K G1 Wi w3 D ((turn v.xs[i] ρ' S').turn fun ρ S => loopC (chks S1 v.ls) turn (v.xs.drop (i + 1)) ρ S) := OPost.mono e3 P'
      cases q : bindT tg' v.xs[i] ρ' with
      | none =>
        simp only [turn, q] at P3
        exact P3.elim
      | some ρ2 =>
        simp only [turn, q] at P3
        exact ⟨G1, w3, ρ', S', _, ρ2, R3, rx, q, fun σ4 R4 _ => ⟨G1, w3, ρ2, S', R4, OPost.turn P3 fun w5 ρ5 S5 σ5 H5 e5 R5 P5 => ⟨w5, ρ5, S5, e'.trans (e3.trans e5), R5, P5⟩⟩⟩
    · have hx : v.xs[i]? = none := List.getElem?_eq_none (by omega)
      refine .inl ⟨sim.stop w' ρ' S' σ' H' e' R' hc i hx, ?_⟩
      rw [List.drop_eq_nil_of_le (by omega), show loopC (chks S1 v.ls) turn [] ρ' S' = _ from if_pos hc] at P'
      exact P' w' σ' H' (Wle.refl _) R'⟩
theorem b_whl {c : Expr} {body : List Stmt} {t : Tm} {b : St} {pos : Pos} (hp : PassesOwn (model X.prog X.w) X.A X.env X.xe) (hc : PT X c (rdT X.K Ω Wi t)) (hb : PSs X body (rdS X.K Ω Wi b)) : PS X (.While c body [] pos) (rdS X.K Ω Wi (.whl t b)) :=
  PS.imp (ps_while hp hc hb) fun D σ H ⟨G, w, ρ, S, R, P⟩ => by
    have P : OPost X.K G Wi w D (whileN (fun ρ' S' => ev Ω ρ' t S') (fun ρ' S' => ex Ω b ρ' S') FUEL ρ S) := P
    generalize FUEL = n at P
    refine ⟨fun m σ' H' => ∃ w' ρ' S', Rel X.K G w' ρ' S' σ' H' ∧ OPost X.K G Wi w' D (whileN (fun ρ' S' => ev Ω ρ' t S') (fun ρ' S' => ex Ω b ρ' S') m ρ' S'), ⟨n, w, ρ, S, R, P⟩, ?_⟩
    rintro m σ' H' ⟨w', ρ', S', R', P'⟩
    cases m with
    | zero => exact False.elim P'
    | succ m =>
      refine ⟨G, w', ρ', S', R', (OPost.run (σ := σ') P').imp fun d S1 w1 H1 e1 R1 P1 => ?_⟩
      cases q : tru S1 d with
      | none =>
        simp only [q] at P1
        exact P1.elim
      | some z =>
        refine ⟨z, rfl, ?_⟩
        cases z with
        | false =>
          simp only [q] at P1
          exact iteF (P1 w1 σ' H1 (Wle.refl _) R1)
        | true =>
          simp only [q] at P1
          exact iteT ⟨fun σ3 H3 => ∃ w3 ρ3 S3, Rel X.K G w3 ρ3 S3 σ3 H3 ∧ OPost X.K G Wi w3 D (whileN (fun ρ' S' => ev Ω ρ' t S') (fun ρ' S' => ex Ω b ρ' S') m ρ3 S3), fun σ3 H3 h => ⟨m, Nat.lt_succ_self m, h⟩,
            G, w1, ρ', S1, R1, OPost.turn P1 fun w5 ρ5 S5 σ5 H5 e5 R5 P5 => ⟨w5, ρ5, S5, R5, P5⟩⟩
end
end TX

set_option maxRecDepth 100000
set_option maxHeartbeats 4000000
/-! TX, part 11: places, shared lists, assignment. -/
namespace TX
open PySem PySem.Spec PyProof.Rows L2 He

section
variable {K : PySem.W.Frag} {G : Gu} {w w' : Wd} {ρ : Env} {S : Sto} {σ : L2.St} {H H' : Hp}
/-- what is shared is changed -/
theorem Rel.cellPut {l : Nat} {c c' : Cell} {u : HO} (R : Rel K G w ρ S σ H) (hs : S[l]? = some c) (hl : w.lab (w.io l) = some (.cell l)) (hc : CellR K G w (upd H (w.io l) u) l c') : Rel K G w ρ (S.set l c') σ (upd H (w.io l) u) := by
  have hne : ∀ a ow', w.lab a = some ow' → ow' ≠ .cell l → a ≠ w.io l := fun a ow' h n e => by
    rw [e, hl] at h
    cases h
    exact n rfl
  have hno : ∀ a, w.lab a = none → a ≠ w.io l := fun a h e => by
    rw [e, hl] at h
    cases h
  have hlt := (List.getElem?_eq_some_iff.mp hs).1
  refine ⟨fun a v h => ⟨?_, (R.fz a v h).2⟩, fun a v h => ⟨?_, (R.gd a v h).2⟩, fun a h z => ?_, R.len, fun j c h => (R.slot j c h).imp (Wle.refl w) fun a ha => ⟨ha, upd_ne (hne _ _ ha fun z => nomatch z)⟩, by rw [List.length_set]; exact R.n, fun k c h => ?_⟩
  · rw [upd_ne (hno a (R.fz a v h).2)]
    exact (R.fz a v h).1
  · rw [upd_ne (hno a (R.gd a v h).2.1)]
    exact (R.gd a v h).1
  · by_cases e : a = w.io l
    · rw [e, upd_same] at z
      cases z
    · rw [upd_ne e] at z
      exact R.tr a h z
  · by_cases e : l = k
    · subst e
      rw [List.getElem?_set_self hlt] at h
      cases h
      exact hc
    · rw [List.getElem?_set_ne e] at h
      refine (R.cell k c h).imp (Wle.refl w) (R.lt h) rfl (fun _ => rfl) fun a o ha ho => ⟨ha, ?_⟩
      by_cases e2 : a = w.io l
      · subst e2
        rw [hl] at ha
        cases ha
        rcases ho with z | z | ⟨f, z⟩
        · cases z
          exact absurd rfl e
        · cases z
        · cases z
      · exact upd_ne e2
/-- a shared list is changed -/
theorem Rel.cellSet {l : Nat} {us : List V} {xs ys : List D} (R : Rel K G w ρ S σ H) (hs : S[l]? = some (.lst xs)) (hz : us.length ≤ sizeLine) (r : RpAll K w us ys) : Rel K G w ρ (S.set l (.lst ys)) σ (upd H (w.io l) (.lst us)) := by
  obtain ⟨hl, vs, hp, _, _⟩ := R.cell l _ hs
  exact R.cellPut hs hl ⟨hl, us, upd_same, hz, r⟩
/-! ### dicts -/
theorem kvs_put {κ : Type} [DecidableEq κ] {k : κ} {d : D} {v : V} (r : Rp K w v d) {kvs : List (κ × D)} {us : List (κ × V)} (h : KvsR K w kvs us) : KvsR K w (putD kvs k d) (putK us k v) := by
  have e : (kvs.any fun kv => decide (kv.1 = k)) = us.any fun kv => decide (kv.1 = k) := by
    induction h with
    | nil => rfl
    | cons p t ih =>
      rw [List.any_cons, List.any_cons, ih, p.1]
  unfold putD putK
  rw [e]
  split
  · rename_i hh
    clear hh e
    induction h with
    | nil => exact .nil
    | @cons a b l₁ l₂ p t ih =>
      rw [List.map_cons, List.map_cons]
      refine .cons ?_ ih
      obtain ⟨p1, p2⟩ := p
      by_cases c : a.1 = k
      · rw [if_pos c, if_pos (p1 ▸ c)]
        exact ⟨p1, r⟩
      · rw [if_neg c, if_neg fun z => c (p1.trans z)]
        exact ⟨p1, p2⟩
  · rename_i hh
    clear hh e
    induction h with
    | nil => exact .cons ⟨rfl, r⟩ .nil
    | cons p t ih => exact .cons p ih
theorem kvs_len {κ : Type} {kvs : List (κ × D)} {us : List (κ × V)} (h : KvsR K w kvs us) : kvs.length = us.length := by
  induction h with
  | nil => rfl
  | cons _ _ ih => rw [List.length_cons, List.length_cons, ih]
theorem kvs_drop {κ : Type} [DecidableEq κ] {k : κ} {kvs : List (κ × D)} {us : List (κ × V)} (h : KvsR K w kvs us) : KvsR K w (dropD kvs k) (dropK us k) := by
  unfold dropD dropK
  induction h with
  | nil => exact .nil
  | @cons a b l₁ l₂ p t ih =>
    rw [List.filter_cons, List.filter_cons]
    by_cases c : a.1 = k
    · have c2 : b.1 = k := p.1 ▸ c
      rw [if_neg (by simp [c]), if_neg (by simp [c2])]
      exact ih
    · have c2 : ¬ b.1 = k := fun z => c (p.1.trans z)
      rw [if_pos (by simp [c]), if_pos (by simp [c2])]
      exact .cons p ih
/-- a dict with another value at a key -/
theorem dput_ok (R : Rel K G w ρ S σ H) {x y v : V} {o d e : D} {S' : Sto} (hx : Rp K w x o) (hy : Rp K w y d) (hv : Rp K w v e) (h : dPut S o d e = some S') : ∃ a H', x = .ref a ∧ DPut H a y v H' ∧ Rel K G w ρ S' σ H' := by
  cases hx <;> try (cases h; done)
  rename_i l hl
  have h : (match S[l]? with
    | some (.dK kvs false) => if kvs.length < sizeLine then (kOf d).map fun k => S.set l (.dK (putD kvs k e) false) else none
    | some (.dT kvs false) => if kvs.length < sizeLine then (tkOf d).map fun k => S.set l (.dT (putD kvs k e) false) else none
    | _ => none) = some S' := h
  cases q : S[l]? with
  | none =>
    rw [q] at h
    cases h
  | some c =>
    rw [q] at h
    cases c with
    | dK kvs b =>
      cases b with
      | true => cases h
      | false =>
        have h : (if kvs.length < sizeLine then (kOf d).map fun k => S.set l (.dK (putD kvs k e) false) else none) = some S' := h
        by_cases c : kvs.length < sizeLine
        · rw [if_pos c, Option.map_eq_some_iff] at h
          obtain ⟨k, h1, rfl⟩ := h
          obtain ⟨g1, us, g2, g3⟩ := R.cell l _ q
          rw [keyV hy h1]
          exact ⟨_, _, rfl, DPut.k g2 (by rw [← kvs_len g3]; exact c), R.cellPut q g1 ⟨g1, _, upd_same, kvs_put hv g3⟩⟩
        · rw [if_neg c] at h
          cases h
    | dT kvs b =>
      cases b with
      | true => cases h
      | false =>
        have h : (if kvs.length < sizeLine then (tkOf d).map fun k => S.set l (.dT (putD kvs k e) false) else none) = some S' := h
        by_cases c : kvs.length < sizeLine
        · rw [if_pos c, Option.map_eq_some_iff] at h
          obtain ⟨k, h1, rfl⟩ := h
          obtain ⟨g1, us, g2, g3⟩ := R.cell l _ q
          cases hy with
          | @tup a vs ds g4 g5 g6 =>
            have h1 : ksOf ds = some k := h1
            have ev := keysV g6 h1
            subst ev
            exact ⟨_, _, rfl, DPut.t g2 (R.same _ _ g4) (by rw [← kvs_len g3]; exact c), R.cellPut q g1 ⟨g1, _, upd_same, kvs_put hv g3⟩⟩
          | _ => cases h1
        · rw [if_neg c] at h
          cases h
    | _ => cases h
/-- a new list goes to the store -/
def Wd.newL (w : Wd) (p : Addr) : Wd := { w with io := fun l => if l = w.n then p else w.io l, lab := upl w.lab p (.cell w.n), n := w.n + 1 }
theorem Wle.newL {p : Addr} : Wle w (w.newL p) := ⟨Nat.le_succ _, fun l hl => if_neg (Nat.ne_of_lt hl), Same.refl _⟩
theorem Rel.newL {p : Addr} {vs : List V} {xs : List D} (R : Rel K G w ρ S σ H) (hp : H p = some (.lst vs)) (hz : vs.length ≤ sizeLine) (r : RpAll K w vs xs) (hl : w.lab p = none) (hF : w.F p = none) (hG : G.G p = none) : Rel K G (w.newL p) ρ (S ++ [.lst xs]) σ H := by
  have R' := R.marked (ow := .cell w.n) hp hl hF hG
  have e' : Wle (w.mark p (.cell w.n)) (w.newL p) := ⟨Nat.le_succ _, fun l hl => if_neg (Nat.ne_of_lt hl), Same.refl _⟩
  refine ⟨R'.fz, R'.gd, R'.tr, R'.len, fun i c h => (R'.slot i c h).imp e' fun a ha => ⟨ha, rfl⟩, ?_, fun k c h => ?_⟩
  · rw [List.length_append]
    show w.n + 1 = _
    rw [R.n]
    rfl
  · by_cases c1 : k < S.length
    · rw [List.getElem?_append_left c1] at h
      exact (R'.cell k c h).imp e' (R'.lt h) rfl (fun _ => rfl) fun a o ha _ => ⟨ha, rfl⟩
    · have hk := (List.getElem?_eq_some_iff.mp h).1
      rw [List.length_append] at hk
      have e : k = S.length := by
        have : k < S.length + 1 := hk
        omega
      subst e
      rw [List.getElem?_append_right (Nat.le_refl _), Nat.sub_self] at h
      cases h
      have e2 : (w.newL p).io S.length = p := if_pos R.n.symm
      show (w.newL p).lab ((w.newL p).io S.length) = _ ∧ _
      rw [e2]
      refine ⟨?_, vs, hp, hz, r.mono Wle.newL⟩
      show upl w.lab p (.cell w.n) p = _
      rw [upl_same, R.n]
end
section
variable {X : Cx} {Ω : Orc} {Wi : WX}
theorem shr_imp {t : Tm} {σ : L2.St} {H : Hp} {Q : VK} (h : rd X.K Ω Wi (rE X.K) (.shr t) σ H Q) : rdF X.K Ω Wi t σ H Q := by
  obtain ⟨G, w, ρ, S, R, P⟩ := h
  exact ⟨G, w, ρ, S, R, (Post.bind P).imp fun d S1 w1 H1 e1 R1 P1 v hv => by
    rcases hv with ⟨_, n⟩ | ⟨p, vs, xs, rfl, rfl, h3, h4, h5, h6, h7, h8⟩
    · cases d with
      | lst xs => exact absurd rfl (n xs)
      | _ => exact P1.elim
    · have e2 : (w1.newL p).io S1.length = p := if_pos R1.n.symm
      have k := P1 (w1.newL p) H1 Wle.newL (R1.newL h3 h4 h5 h6 h7 h8) (.ref p)
      refine k ?_
      have : Rp X.K (w1.newL p) (.ref ((w1.newL p).io S1.length)) (.loc S1.length) := .loc (by rw [← R1.n]; exact Nat.lt_succ_self _)
      rw [e2] at this
      exact this⟩
theorem s_shr {e : Expr} {t : Tm} (h : PE X e (rdF X.K Ω Wi t)) : PE X e (rd X.K Ω Wi (rE X.K) (.shr t)) := PE.imp h fun σ H Q z => shr_imp z
/-! ### places -/
def PlV (K : PySem.W.Frag) (w : Wd) (σ : L2.St) (p : Pl) (d : D) (v : V) : Prop := match p with
  | .slot i => σ[i]? = some (some v)
  | .tm _ => Rp K w v d
def rdP (K : PySem.W.Frag) (Ω : Orc) (Wi : WX) (p : Pl) : TE := fun σ H Q => ∃ G w ρ S, Rel K G w ρ S σ H ∧ Post K G ρ σ Wi w (plObj Ω ρ p S) fun d S' w' H' => ∀ v, PlV K w' σ p d v → Q v H'
theorem p_slot {e : Expr} {i : Nat} (h : PE X e (tVar i)) : PE X e (rdP X.K Ω Wi (.slot i)) :=
  PE.imp h fun σ H Q ⟨G, w, ρ, S, R, P⟩ => by
    have P : Post X.K G ρ σ Wi w (match ρ[i]? with
      | some (.ownL _) => .ok D.non S
      | _ => .stk) _ := P
    cases q : ρ[i]? with
    | none =>
      rw [q] at P
      exact P.elim
    | some c =>
      rw [q] at P
      cases c with
      | ownL xs =>
        obtain ⟨p, vs, h1, _⟩ := R.slot i _ q
        exact ⟨_, h1, P w H (Wle.refl w) R _ h1⟩
      | _ => exact P.elim
theorem p_tm {e : Expr} {t : Tm} (h : PE X e (rd X.K Ω Wi (rE X.K) t)) : PE X e (rdP X.K Ω Wi (.tm t)) := PE.imp h fun σ H Q q => q
def rSetA : V → V → V → Hp → (Hp → Prop) → Prop := fun o i v H Q => rSetL o i v H Q ∨ rSetD o i v H Q
theorem set_any (hu : X.A.units + 65 < cLine) : PSet X rSetA := by
  intro pins s σ H o i v ov iv u Q I ro ri rv h
  rcases h with h | h
  · exact set_list pins s σ H o i v ov iv u Q I ro ri rv h
  · exact set_dict (by omega) pins s σ H o i v ov iv u Q I ro ri rv h
theorem b_setI (hu : X.A.units + 65 < cLine) {o ie e : Expr} {p : Pl} {ti te : Tm} {sp pos : Pos} (ho : PE X o (rdP X.K Ω Wi p)) (hi : PE X ie (rd X.K Ω Wi (rE X.K) ti)) (he : PE X e (rd X.K Ω Wi (rE X.K) te)) (hp : plainIx ie = true)
    (hs : swapsWithSole [.Subscript o ie sp] e pos.line X.env = pure false) : PS X (.Assign [.Subscript o ie sp] e pos) (rdS X.K Ω Wi (.setI p ti te)) := by
  have ha : ∀ v, assign (.Subscript o ie sp) X.env v = (do
      let ov ← holding [v] (eval o X.env)
      let iv ← holding [v, ov] (eval ie X.env)
      standAt sp
      holding [v, ov, iv] (setItem ov iv v)
      release [v, ov, iv] []) := by
    intro v
    cases ie <;> first | rfl | cases hp
  refine PS.imp (ps_asg he (pg_sub ho hi (set_any hu) ha) hs (by cases e <;> rfl)) fun D σ H ⟨G, w, ρ, S, R, P⟩ => ⟨G, w, ρ, S, R, (OPost.run (σ := σ) P).imp fun d S1 w1 H1 e1 R1 P1 v hv => ⟨G, w1, ρ, S1, R1, (OPost.run (σ := σ) P1).imp fun od S2 w2 H2 e2 R2 P2 ov hov =>
    ⟨G, w2, ρ, S2, R2, (OPost.run (σ := σ) P2).imp fun k S3 w3 H3 e3 R3 P3 kv hk => ?_⟩⟩⟩
  have hv := hv.mono (e2.trans e3)
  cases p with
  | slot i =>
    have P3 : OPost X.K G Wi w3 D (match (generalizing := false) ρ[i]?, k with
      | some (.ownL xs), .int k => match L2.ixN xs.length k with
        | some j => .nx (ρ.set i (.ownL (xs.set j d))) S3
        | none => .stk
      | _, _ => .stk) := P3
    cases q : ρ[i]? with
    | none =>
      rw [q] at P3
      exact P3.elim
    | some c =>
      rw [q] at P3
      cases c with
      | ownL xs =>
        cases k with
        | int k =>
          have P3 : OPost X.K G Wi w3 D (match L2.ixN xs.length k with
            | some j => .nx (ρ.set i (.ownL (xs.set j d))) S3
            | none => .stk) := P3
          cases q2 : ixN xs.length k with
          | none =>
            rw [q2] at P3
            exact P3.elim
          | some j =>
            rw [q2] at P3
            obtain ⟨a, vs, h1, h2, h3, h4, h5⟩ := R3.slot i _ q
            have hov : σ[i]? = some (some ov) := hov
            rw [h1] at hov
            cases hov
            cases hk
            exact .inl ⟨a, vs, k, j, rfl, rfl, h3, by rw [h5.length]; exact q2, P3 w3 σ _ (Wle.refl _) (R3.change (vs := vs) q h1 h2 (by rw [List.length_set]; exact h4) (h5.set hv j))⟩
        | _ => exact P3.elim
      | _ => exact P3.elim
  | tm t =>
    have hov : Rp X.K w2 ov od := hov
    have hov := hov.mono e3
    have P3 : OPost X.K G Wi w3 D (if isDct S3 od then (match dPut S3 od k d with
      | some S' => .nx ρ S'
      | none => .stk) else match (generalizing := false) od, k with
    | .loc l, .int k => match S3[l]? with
      | some (.lst xs) => match L2.ixN xs.length k with
        | some j => .nx ρ (S3.set l (.lst (xs.set j d)))
        | none => .stk
      | _ => .stk
    | _, _ => .stk) := P3
    by_cases c : isDct S3 od = true
    · rw [if_pos c] at P3
      cases q : dPut S3 od k d with
      | none =>
        rw [q] at P3
        exact P3.elim
      | some S' =>
        rw [q] at P3
        obtain ⟨a, H', rfl, h1, h2⟩ := dput_ok R3 hov hk hv q
        exact .inr ⟨a, H', rfl, h1, P3 w3 σ H' (Wle.refl _) h2⟩
    · rw [if_neg c] at P3
      cases od with
      | loc l =>
        cases k with
        | int k =>
          have P3 : OPost X.K G Wi w3 D (match S3[l]? with
            | some (.lst xs) => match L2.ixN xs.length k with
              | some j => .nx ρ (S3.set l (.lst (xs.set j d)))
              | none => .stk
            | _ => .stk) := P3
          cases q : S3[l]? with
          | none =>
            rw [q] at P3
            exact P3.elim
          | some c =>
            rw [q] at P3
            cases c with
            | lst xs =>
              have P3 : OPost X.K G Wi w3 D (match L2.ixN xs.length k with
                | some j => .nx ρ (S3.set l (.lst (xs.set j d)))
                | none => .stk) := P3
              cases q2 : ixN xs.length k with
              | none =>
                rw [q2] at P3
                exact P3.elim
              | some j =>
                rw [q2] at P3
                obtain ⟨h1, vs, h2, h3, h4⟩ := R3.cell l _ q
                cases hov with
                | loc hl =>
                  cases hk
                  exact .inl ⟨_, vs, k, j, rfl, rfl, h2, by rw [h4.length]; exact q2, P3 w3 σ _ (Wle.refl _) (R3.cellSet q (by rw [List.length_set]; exact h3) (h4.set hv j))⟩
            | _ => exact P3.elim
        | _ => exact P3.elim
      | _ => exact P3.elim
theorem b_app {o e : Expr} {i : Nat} {te : Tm} {ap cp pos : Pos} (ho : PE X o (rdP X.K Ω Wi (.slot i))) (he : PE X e (rd X.K Ω Wi (rE X.K) te)) (hp : plainA e = true) (hb : plainB o = true) (hl : (ap.endLine == cp.line) = true) :
    PS X (.Expr (.Call (.Attribute o "append" ap) [e] [] cp) pos) (rdS X.K Ω Wi (.app i te)) := by
  refine PS.imp (ps_expr (pe_bm PySem.F.plainAttrs_list PySem.F.slot_list_append PySem.F.type_list_append mt_append ho (pa_cons he pa_nil (star_plain hp)) (base_plain hb) (few_ok (es := [e]) (by rw [List.all_cons, hp]; rfl) (by show 1 < 30; decide)) hl (star_plain hp) rfl)) fun D σ H ⟨G, w, ρ, S, R, P⟩ => ⟨G, w, ρ, S, R, ?_⟩
  have P : OPost X.K G Wi w D (match ρ[i]? with
    | some (.ownL _) => (ev Ω ρ te S).run ρ fun d S2 => match ρ[i]? with
      | some (.ownL xs) => if xs.length < sizeLine then .nx (ρ.set i (.ownL (xs ++ [d]))) S2 else .stk
      | _ => .stk
    | _ => .stk) := P
  show Post X.K G ρ σ Wi w (match ρ[i]? with
    | some (.ownL _) => .ok TX.D.non S
    | _ => .stk) _
  cases q : ρ[i]? with
  | none =>
    rw [q] at P
    exact P.elim
  | some c =>
    rw [q] at P
    cases c with
    | ownL xs =>
      intro w1 H1 e1 R1 ov hov
      obtain ⟨a, vs, h1, h2, h3, h4, h5⟩ := R1.slot i _ q
      have hov : σ[i]? = some (some ov) := hov
      rw [h1] at hov
      cases hov
      refine ⟨.inl ⟨rfl, vs, .inl (.inl h3)⟩, G, w1, ρ, S, R1, (OPost.run (σ := σ) (OPost.mono e1 P)).imp fun d S2 w2 H2 e2 R2 P2 v hv => ?_⟩
      have P2 : OPost X.K G Wi w2 D (if xs.length < sizeLine then .nx (ρ.set i (.ownL (xs ++ [d]))) S2 else .stk) := P2
      obtain ⟨b, us, k1, k2, k3, k4, k5⟩ := R2.slot i _ q
      rw [h1] at k1
      cases k1
      by_cases c : xs.length < sizeLine
      · rw [if_pos c] at P2
        have hl := k5.length
        exact ⟨_, us, v, rfl, rfl, k3, by omega, P2 w2 σ _ (Wle.refl _) (R2.change (vs := us) q h1 k2 (by rw [List.length_append, List.length_singleton]; omega) (k5.append (.cons hv .nil)))⟩
      · rw [if_neg c] at P2
        exact P2.elim
    | _ => exact P.elim
theorem b_del {o ie : Expr} {s t : Tm} {sp pos : Pos} (ho : PE X o (rd X.K Ω Wi (rE X.K) s)) (hi : PE X ie (rd X.K Ω Wi (rE X.K) t)) : PS X (.Delete [.Subscript o ie sp] pos) (rdS X.K Ω Wi (.del s t)) :=
  PS.imp (ps_delL ho hi) fun D σ H ⟨G, w, ρ, S, R, P⟩ => ⟨G, w, ρ, S, R, (OPost.run (σ := σ) P).imp fun od S1 w1 H1 e1 R1 P1 ov hov => ⟨G, w1, ρ, S1, R1, (OPost.run (σ := σ) P1).imp fun k S2 w2 H2 e2 R2 P2 kv hk => by
    have hov := hov.mono e2
    cases od with
    | loc l =>
      cases k with
      | int k =>
        have P2 : OPost X.K G Wi w2 D (match S2[l]? with
          | some (.lst xs) => match L2.ixN xs.length k with
            | some j => .nx ρ (S2.set l (.lst (xs.eraseIdx j)))
            | none => .stk
          | _ => .stk) := P2
        cases q : S2[l]? with
        | none =>
          rw [q] at P2
          exact P2.elim
        | some c =>
          rw [q] at P2
          cases c with
          | lst xs =>
            have P2 : OPost X.K G Wi w2 D (match L2.ixN xs.length k with
              | some j => .nx ρ (S2.set l (.lst (xs.eraseIdx j)))
              | none => .stk) := P2
            cases q2 : ixN xs.length k with
            | none =>
              rw [q2] at P2
              exact P2.elim
            | some j =>
              rw [q2] at P2
              obtain ⟨h1, vs, h2, h3, h4⟩ := R2.cell l _ q
              cases hov with
              | loc hl =>
                cases hk
                rw [← h4.length] at q2
                obtain ⟨g1, g2, g3, g4⟩ := ixN_seq q2
                have hz : vs.length ≤ 16777216 := by rw [← sizeLine_eq]; exact h3
                exact ⟨_, vs, k, j, rfl, rfl, h2, by omega, by omega, g1, P2 w2 σ _ (Wle.refl _) (R2.cellSet q (Nat.le_trans (L2.len_erase _ _) h3) (h4.erase j))⟩
          | _ => exact P2.elim
      | _ => exact P2.elim
    | _ => exact P2.elim⟩⟩
/-! ### name = a comprehension on its line -/
def ownsB (scope : Scope) (y : Str) : Bool := scope.names.any fun (n, k) => n == y && (k == .local || k == .cell)
def swB (env : PySem.Env) (y : Str) (py : Pos) : Expr → Bool
  | .ListComp _ _ scope pos => (env.scope.names.lookup y == some .local) && (py.line == pos.line) && !ownsB scope y
  | _ => false
theorem sw_of {e : Expr} {y : Str} {py : Pos} {l : Nat} {env : PySem.Env} (hk : env.scope.kind = .function) (hp : plainC e = true) : swapsWith e (some (.Name y py)) l env = pure (swB env y py e) := by
  have hb : env.blockKind = .function := by unfold Env.blockKind; rw [hk]; rfl
  cases e with
  | ListComp el gs scope pos =>
    unfold swapsWith
    simp only [hb]
    rfl
  | SetComp _ _ _ _ => cases hp
  | DictComp _ _ _ _ _ => cases hp
  | _ => rfl
theorem b_set {i : Nat} {x : Str} {e : Expr} {te : TE} {p pos : Pos} (hN : X.N.Nodup) (hi : X.N[i]? = some x) (hx : Loc X.env.scope x) (he : PE X e te) (hk : X.env.scope.kind = .function) (hp : plainC e = true) (hs : swB X.env x p e = false) (hf : X.fn x = true ∨ X.env.scope.names.lookup x = some .local) :
    PS X (.Assign [.Name x p] e pos) (tAsg te (gName i)) := ps_set hN hi hx he ((sw_of hk hp).trans (by rw [hs])) hf
theorem b_tgt {tg e : Expr} {te : TE} {g : TG} {pos : Pos} (he : PE X e te) (hg : PG X tg g) (hp : plainC e = true) (ht : (match tg with | .Name _ _ => false | .Starred _ _ => false | _ => true) = true) (hw : (match e with | .Tuple _ _ _ => false | _ => true) = true) (hc : isLc e = false ∨ isLc e = true) :
    PS X (.Assign [tg] e pos) (tAsg te g) := by
  refine ps_asg he hg ?_ ?_ ?_
  · cases e <;> first | rfl | (cases tg <;> first | rfl | cases ht)
  · cases e <;> first | (cases tg <;> rfl) | cases hw
  · cases tg <;> first | rfl | cases ht
end
end TX

set_option maxRecDepth 100000
set_option maxHeartbeats 4000000
/-! TX, part 11b: methods that change lists and dicts; attributes; instances. -/
namespace TX
open PySem PySem.Spec PyProof.Rows L2 He
section
variable {X : Cx} {Ω : Orc} {Wi : WX} {o e : Expr} {es : List Expr} {s t : Tm} {ap pos : Pos}
theorem lst_cell {K : PySem.W.Frag} {G : Gu} {w : Wd} {ρ : Env} {S : Sto} {σ : L2.St} {H : Hp} (R : Rel K G w ρ S σ H) {x : V} {l : Nat} {ys : List D} (hx : rL K w σ ρ H x (.loc l)) (q : S[l]? = some (.lst ys)) : x = .ref (w.io l) ∧ ∃ vs, H (w.io l) = some (.lst vs) ∧ vs.length ≤ sizeLine ∧ RpAll K w vs ys := by
  obtain ⟨h1, vs, h2, h3, h4⟩ := R.cell l _ q
  cases rL_flat hx fun _ z => nomatch z with
  | loc hl => exact ⟨rfl, vs, h2, h3, h4⟩
theorem s_append (ho : PE X o (rd X.K Ω Wi (rB X.K) s)) (ha : PA X (e :: es) (rdA X.K Ω Wi t)) (hb : plainB o = true) (hp : (e :: es).all plainA = true) (h30 : (e :: es).length < 30) (hl : (ap.endLine == pos.line) = true) :
    PE X (.Call (.Attribute o "append" ap) (e :: es) [] pos) (rdF X.K Ω Wi (.mth .append s t)) := by
  refine s_mth0 (T := "list") PySem.F.plainAttrs_list PySem.F.slot_list_append PySem.F.type_list_append mt_append ho ha hb hp h30 hl (ty_lst fun S d c => ?_) fun G w ρ S S' σ H x xs d z ds Q R hx hxs hz k => ?_
  · obtain ⟨l, ys, rfl, q⟩ := loc_lst c
    exact ⟨ys, loc_asL q⟩
  · rcases ds with _ | ⟨b, _ | ⟨_, _⟩⟩
    · cases hz
    · cases d <;> try (cases hz; done)
      rename_i l
      have hz : (match S[l]? with
        | some (.lst xs) => if xs.length < sizeLine then some (D.non, S.set l (.lst (xs ++ [b]))) else none
        | _ => none) = some (z, S') := hz
      cases q : S[l]? with
      | none =>
        rw [q] at hz
        cases hz
      | some c =>
        rw [q] at hz
        cases c with
        | lst ys =>
          have hz : (if ys.length < sizeLine then some (D.non, S.set l (.lst (ys ++ [b]))) else none) = some (z, S') := hz
          by_cases c : ys.length < sizeLine
          · rw [if_pos c] at hz
            cases hz
            obtain ⟨rfl, vs, h2, h3, h4⟩ := lst_cell R hx q
            obtain ⟨v, rfl, rv⟩ := one_arg hxs
            have hl := h4.length
            exact ⟨_, vs, v, rfl, rfl, h2, by omega, k w _ (Wle.refl _) (R.cellSet q (by rw [List.length_append, List.length_singleton]; omega) (h4.append (.cons rv .nil))) _ (.inl ⟨.non, fun _ z => nomatch z⟩)⟩
          · rw [if_neg c] at hz
            cases hz
        | _ => cases hz
    · cases hz
theorem s_extend (ho : PE X o (rd X.K Ω Wi (rB X.K) s)) (ha : PA X (e :: es) (rdA X.K Ω Wi t)) (hb : plainB o = true) (hp : (e :: es).all plainA = true) (h30 : (e :: es).length < 30) (hl : (ap.endLine == pos.line) = true) :
    PE X (.Call (.Attribute o "extend" ap) (e :: es) [] pos) (rdF X.K Ω Wi (.mth .extend s t)) := by
  refine s_mth0 (T := "list") PySem.F.plainAttrs_list PySem.F.slot_list_extend PySem.F.type_list_extend mt_extend ho ha hb hp h30 hl (ty_lst fun S d c => ?_) fun G w ρ S S' σ H x xs d z ds Q R hx hxs hz k => ?_
  · obtain ⟨l, ys, rfl, q⟩ := loc_lst c
    exact ⟨ys, loc_asL q⟩
  · rcases ds with _ | ⟨b, _ | ⟨_, _⟩⟩
    · cases hz
    · cases d <;> try (cases hz; done)
      rename_i l
      have hz : (match S[l]? with
        | some (.lst xs) => (asL S b).bind fun ys => if xs.length + ys.length ≤ sizeLine then some (D.non, S.set l (.lst (xs ++ ys))) else none
        | _ => none) = some (z, S') := hz
      cases q : S[l]? with
      | none =>
        rw [q] at hz
        cases hz
      | some c =>
        rw [q] at hz
        cases c with
        | lst ys =>
          have hz : ((asL S b).bind fun zs => if ys.length + zs.length ≤ sizeLine then some (D.non, S.set l (.lst (ys ++ zs))) else none) = some (z, S') := hz
          rw [Option.bind_eq_some_iff] at hz
          obtain ⟨zs, h1, hz⟩ := hz
          by_cases c : ys.length + zs.length ≤ sizeLine
          · rw [if_pos c] at hz
            cases hz
            obtain ⟨rfl, vs, h2, h3, h4⟩ := lst_cell R hx q
            obtain ⟨v, rfl, rv⟩ := one_arg hxs
            obtain ⟨p, us, rfl, g2, g3, g4⟩ := asL_ok (σ := σ) (ρ := ρ) R (.inl rv) h1
            have hl := h4.length
            have hl2 := g4.length
            exact ⟨_, p, vs, us, rfl, rfl, h2, g2, by omega, k w _ (Wle.refl _) (R.cellSet q (by rw [List.length_append]; omega) (h4.append g4)) _ (.inl ⟨.non, fun _ z => nomatch z⟩)⟩
          · rw [if_neg c] at hz
            cases hz
        | _ => cases hz
    · cases hz
theorem s_popAt (ho : PE X o (rd X.K Ω Wi (rB X.K) s)) (ha : PA X (e :: es) (rdA X.K Ω Wi t)) (hb : plainB o = true) (hp : (e :: es).all plainA = true) (h30 : (e :: es).length < 30) (hl : (ap.endLine == pos.line) = true) :
    PE X (.Call (.Attribute o "pop" ap) (e :: es) [] pos) (rd X.K Ω Wi (rE X.K) (.mth .popAt s t)) := by
  have hF := PySem.F.plainAttrs_list
  obtain ⟨p1, p2⟩ := Bool.and_eq_true_iff.mp (show (plainA e && es.all plainA) = true from hp)
  refine PE.imp (pe_bm PySem.F.plainAttrs_list PySem.F.slot_list_pop PySem.F.type_list_pop mt_popAt ho ha (base_plain hb) (few_ok hp h30) hl (star_plain p1) (pl_any p2)) fun σ H Q ⟨G, w, ρ, S, R, P⟩ => ⟨G, w, ρ, S, R, (Post.bind P).imp fun d S1 w1 H1 e1 R1 P1 x hx => ?_⟩
  by_cases c : mthTy .popAt S1 d = true
  · rw [if_pos c] at P1
    have ty : tyV X.K "list" x H1 := ty_lst (m := .popAt) (fun S d c => by
      obtain ⟨l, ys, rfl, q⟩ := loc_lst c
      exact ⟨ys, loc_asL q⟩) G w1 ρ S1 σ H1 x d R1 (seen_B R1 (Wle.refl _) hx) c
    refine ⟨ty, G, w1, ρ, S1, R1, (Post.bind P1).imp fun ds S2 w2 H2 e2 R2 P2 xs hxs => ?_⟩
    obtain ⟨z, S', hz, k⟩ := mth_post P2
    have hx := seen_B R2 e2 hx
    rcases ds with _ | ⟨b, _ | ⟨_, _⟩⟩
    · cases hz
    · cases b <;> try (cases hz; done)
      rename_i i
      obtain ⟨l, rfl⟩ : ∃ l, d = .loc l := by
        cases d <;> first | exact ⟨_, rfl⟩ | cases hz
      have hz : (match S2[l]? with
        | some (.lst xs) => (L2.ixN xs.length i).bind fun k => if -(2 ^ 63) ≤ i ∧ i < 2 ^ 63 then (xs[k]?).map fun y => (y, S2.set l (.lst (xs.eraseIdx k))) else none
        | _ => none) = some (z, S') := hz
      cases q : S2[l]? with
      | none =>
        rw [q] at hz
        cases hz
      | some c =>
        rw [q] at hz
        cases c with
        | lst ys =>
          have hz : ((L2.ixN ys.length i).bind fun k => if -(2 ^ 63) ≤ i ∧ i < 2 ^ 63 then (ys[k]?).map fun y => (y, S2.set l (.lst (ys.eraseIdx k))) else none) = some (z, S') := hz
          rw [Option.bind_eq_some_iff] at hz
          obtain ⟨j, h1, hz⟩ := hz
          by_cases c : -(2 ^ 63) ≤ i ∧ i < 2 ^ 63
          · rw [if_pos c, Option.map_eq_some_iff] at hz
            obtain ⟨y, h5, h6⟩ := hz
            cases h6
            obtain ⟨rfl, vs, h2, h3, h4⟩ := lst_cell R2 hx q
            obtain ⟨v, rfl, rv⟩ := one_arg hxs
            cases rv
            rw [← h4.length] at h1
            obtain ⟨g1, g2, g3, g4⟩ := ixN_seq h1
            obtain ⟨u, hu, ru⟩ := h4.get h5
            exact ⟨_, vs, i, j, u, rfl, rfl, h2, c.1, c.2, g1, hu, k w2 _ (Wle.refl _) (R2.cellSet q (Nat.le_trans (L2.len_erase _ _) h3) (h4.erase j)) _ ru⟩
          · rw [if_neg c] at hz
            cases hz
        | _ => cases hz
    · cases b <;> cases hz
  · rw [if_neg c] at P1
    exact P1.elim
theorem s_insert (ho : PE X o (rd X.K Ω Wi (rB X.K) s)) (ha : PA X (e :: es) (rdA X.K Ω Wi t)) (hb : plainB o = true) (hp : (e :: es).all plainA = true) (h30 : (e :: es).length < 30) (hl : (ap.endLine == pos.line) = true) :
    PE X (.Call (.Attribute o "insert" ap) (e :: es) [] pos) (rdF X.K Ω Wi (.mth .insert s t)) := by
  refine s_mth0 (T := "list") PySem.F.plainAttrs_list PySem.F.slot_list_insert PySem.F.type_list_insert mt_insert ho ha hb hp h30 hl (ty_lst fun S d c => ?_) fun G w ρ S S' σ H x xs d z ds Q R hx hxs hz k => ?_
  · obtain ⟨l, ys, rfl, q⟩ := loc_lst c
    exact ⟨ys, loc_asL q⟩
  · rcases ds with _ | ⟨b, _ | ⟨y, _ | ⟨_, _⟩⟩⟩
    · cases hz
    · cases b <;> cases hz
    · cases b <;> try (cases hz; done)
      rename_i i
      cases d <;> try (cases hz; done)
      rename_i l
      have hz : (match S[l]? with
        | some (.lst xs) => if xs.length < sizeLine ∧ 0 ≤ i ∧ i < 2 ^ 63 then some (D.non, S.set l (.lst (xs.take i.toNat ++ [y] ++ xs.drop i.toNat))) else none
        | _ => none) = some (z, S') := hz
      cases q : S[l]? with
      | none =>
        rw [q] at hz
        cases hz
      | some c =>
        rw [q] at hz
        cases c with
        | lst ys =>
          have hz : (if ys.length < sizeLine ∧ 0 ≤ i ∧ i < 2 ^ 63 then some (D.non, S.set l (.lst (ys.take i.toNat ++ [y] ++ ys.drop i.toNat))) else none) = some (z, S') := hz
          by_cases c : ys.length < sizeLine ∧ 0 ≤ i ∧ i < 2 ^ 63
          · rw [if_pos c] at hz
            cases hz
            obtain ⟨rfl, vs, h2, h3, h4⟩ := lst_cell R hx q
            obtain ⟨v, u, rfl, rv, ru⟩ := two_arg hxs
            cases rv
            have hl := h4.length
            exact ⟨_, vs, i, u, rfl, rfl, h2, by omega, c.2.1, c.2.2, k w _ (Wle.refl _) (R.cellSet q (by
              rw [List.length_append, List.length_append, List.length_take, List.length_drop, List.length_singleton]
              omega) (((h4.take _).append (.cons ru .nil)).append (h4.drop _))) _ (.inl ⟨.non, fun _ z => nomatch z⟩)⟩
          · rw [if_neg c] at hz
            cases hz
        | _ => cases hz
    · cases b <;> cases hz
/-! ### dicts -/
theorem isDct_ok {K : PySem.W.Frag} {G : Gu} {w : Wd} {ρ : Env} {S : Sto} {σ : L2.St} {H : Hp} (R : Rel K G w ρ S σ H) {x : V} {d : D} (hx : rL K w σ ρ H x d) (c : isDct S d = true) : ∃ a, x = .ref a ∧ IsD H a ∧ Rp K w x d := by
  cases d with
  | loc l =>
    have hx := rL_flat hx fun _ z => nomatch z
    cases hx with
    | loc hl =>
      have c : (match S[l]? with
        | some (.dK _ _) => true
        | some (.dT _ _) => true
        | _ => false) = true := c
      cases q : S[l]? with
      | none =>
        rw [q] at c
        cases c
      | some u =>
        rw [q] at c
        cases u with
        | dK kvs b =>
          obtain ⟨_, us, h2, _⟩ := R.cell l _ q
          refine ⟨_, rfl, .inl ⟨us, ?_⟩, .loc hl⟩
          cases b with
          | false => exact .inl h2
          | true => exact .inr ⟨_, h2⟩
        | dT kvs b =>
          obtain ⟨_, us, h2, _⟩ := R.cell l _ q
          refine ⟨_, rfl, .inr ⟨us, ?_⟩, .loc hl⟩
          cases b with
          | false => exact .inl h2
          | true => exact .inr ⟨_, h2⟩
        | _ => cases c
  | _ => cases c
/-- d.get(y), d.get(y, x) -/
theorem pe_dgetA {td : TE} {ta : TA} (hu : X.A.units + 1 < cLine) (ho : PE X o td) (ha : PA X (e :: es) ta) (hb : plainB o = true) (hp : (e :: es).all plainA = true) (h30 : (e :: es).length < 30) (hl : (ap.endLine == pos.line) = true) :
    PE X (.Call (.Attribute o "get" ap) (e :: es) [] pos) (fun σ H Q => td σ H fun x H1 => ∃ a, x = .ref a ∧ IsD H1 a ∧ ta σ H1 fun ys H2 => (∃ y o, ys = [y] ∧ DGet H2 a y o ∧ Q (o.getD .non) H2) ∨ ∃ y z o, ys = [y, z] ∧ DGet H2 a y o ∧ Q (o.getD z) H2) := by
  obtain ⟨p1, p2⟩ := Bool.and_eq_true_iff.mp (show (plainA e && es.all plainA) = true from hp)
  refine ⟨fun pins s σ H Q I h => ?_⟩
  refine wpAny_Call_method (base_plain hb) (few_ok hp h30) hl PySem.F.plainAttrs_dict PySem.F.slot_dict_get PySem.F.type_dict_get (thn (ho.run pins s σ H _ I h) fun u s1 ⟨x, H1, I1, rx, a, ex, d, q1⟩ => ?_)
  subst ex
  obtain rfl : u = Value.ref a := rx
  obtain ⟨t1, t2, _⟩ := isD_at I1 d
  refine ⟨t1, t2, ?_⟩
  have hA := ha.run pos pins s1 σ H1 _ I1 q1
  rw [star_plain p1] at hA ⊢
  refine Calls.callWith_builtin (by show (false || (backTo pos (starEach es X.env)).any (·.1)) = false; rw [pl_any p2] <;> rfl) (Calls.evalArgs_plain ?_)
  refine thn hA fun us s2 ⟨vs, H2, I2, r2, q2⟩ => ?_
  rcases q2 with ⟨y, o, rfl, g, q⟩ | ⟨y, z, o, rfl, g, q⟩
  · obtain ⟨v, rfl, rv⟩ := Vals.one r2
    exact d_get1 hu I2 g rv fun w' s3 I3 rw' => ⟨_, H2, I3, rw', q⟩
  · cases r2 with
    | cons rv r3 =>
      obtain ⟨u, rfl, ru⟩ := Vals.one r3
      exact d_get2 hu I2 g rv ru fun w' s3 I3 rw' => ⟨_, H2, I3, rw', q⟩
theorem s_get {m : Mth} (hm : m = .get1 ∨ m = .get2) (hu : X.A.units + 65 < cLine) (ho : PE X o (rd X.K Ω Wi (rB X.K) s)) (ha : PA X (e :: es) (rdA X.K Ω Wi t)) (hb : plainB o = true) (hp : (e :: es).all plainA = true) (h30 : (e :: es).length < 30) (hl : (ap.endLine == pos.line) = true) :
    PE X (.Call (.Attribute o "get" ap) (e :: es) [] pos) (rd X.K Ω Wi (rE X.K) (.mth m s t)) := by
  refine PE.imp (pe_dgetA (by omega) ho ha hb hp h30 hl) fun σ H Q ⟨G, w, ρ, S, R, P⟩ => ⟨G, w, ρ, S, R, (Post.bind P).imp fun d S1 w1 H1 e1 R1 P1 x hx => ?_⟩
  by_cases c : mthTy m S1 d = true
  · rw [if_pos c] at P1
    have c : isDct S1 d = true := by
      rcases hm with rfl | rfl <;> exact c
    obtain ⟨a, rfl, hd, hx⟩ := isDct_ok R1 (seen_B R1 (Wle.refl _) hx) c
    refine ⟨a, rfl, hd, G, w1, ρ, S1, R1, (Post.bind P1).imp fun ys S2 w2 H2 e2 R2 P2 vs hvs => ?_⟩
    obtain ⟨z, S', hz, k⟩ := mth_post P2
    rcases hm with rfl | rfl
    · rcases ys with _ | ⟨y, _ | ⟨_, _⟩⟩
      · cases hz
      · obtain ⟨v, rfl, hv⟩ := one_arg hvs
        have hz : (dGet S2 d y).map (fun r => (r.getD .non, S2)) = some (z, S') := hz
        rw [Option.map_eq_some_iff] at hz
        obtain ⟨r, h1, h2⟩ := hz
        cases h2
        obtain ⟨a', u, e3, g1, g2, g3⟩ := dget_ok R2 (hx.mono e2) hv h1
        cases e3
        refine .inl ⟨v, u, rfl, g1, k w2 H2 (Wle.refl _) R2 _ ?_⟩
        cases r with
        | none =>
          rw [g2.mp rfl]
          exact .non
        | some d' =>
          obtain ⟨v', rfl, rv⟩ := g3 d' rfl
          exact rv
      · cases hz
    · rcases ys with _ | ⟨y, _ | ⟨y2, _ | ⟨_, _⟩⟩⟩
      · cases hz
      · cases hz
      · obtain ⟨v, v2, rfl, hv, hv2⟩ := two_arg hvs
        have hz : (dGet S2 d y).map (fun r => (r.getD y2, S2)) = some (z, S') := hz
        rw [Option.map_eq_some_iff] at hz
        obtain ⟨r, h1, h2⟩ := hz
        cases h2
        obtain ⟨a', u, e4, g1, g2, g3⟩ := dget_ok R2 (hx.mono e2) hv h1
        cases e4
        refine .inr ⟨v, v2, u, rfl, g1, k w2 H2 (Wle.refl _) R2 _ ?_⟩
        cases r with
        | none =>
          rw [g2.mp rfl]
          exact hv2
        | some d' =>
          obtain ⟨v', rfl, rv⟩ := g3 d' rfl
          exact rv
      · cases hz
  · rw [if_neg c] at P1
    exact P1.elim
theorem s_dpop (hu : X.A.units + 65 < cLine) (ho : PE X o (rd X.K Ω Wi (rB X.K) s)) (ha : PA X (e :: es) (rdA X.K Ω Wi t)) (hb : plainB o = true) (hp : (e :: es).all plainA = true) (h30 : (e :: es).length < 30) (hl : (ap.endLine == pos.line) = true) :
    PE X (.Call (.Attribute o "pop" ap) (e :: es) [] pos) (rd X.K Ω Wi (rE X.K) (.mth .dpop s t)) := by
  obtain ⟨p1, p2⟩ := Bool.and_eq_true_iff.mp (show (plainA e && es.all plainA) = true from hp)
  refine PE.imp (pe_bm PySem.F.plainAttrs_dict PySem.F.slot_dict_pop PySem.F.type_dict_pop (DX.mt_popT (by omega)) ho ha (base_plain hb) (few_ok hp h30) hl (star_plain p1) (pl_any p2)) fun σ H Q ⟨G, w, ρ, S, R, P⟩ => ⟨G, w, ρ, S, R, (Post.bind P).imp fun d S1 w1 H1 e1 R1 P1 x hx => ?_⟩
  by_cases c : mthTy .dpop S1 d = true
  · rw [if_pos c] at P1
    have hx1 := seen_B R1 (Wle.refl _) hx
    have ty : tyV X.K "dict" x H1 := by
      cases d with
      | loc l =>
        have c : (match S1[l]? with
          | some (.dT _ false) => true
          | _ => false) = true := c
        cases q : S1[l]? with
        | none =>
          rw [q] at c
          cases c
        | some u =>
          rw [q] at c
          cases u with
          | dT kvs b =>
            cases b with
            | true => cases c
            | false =>
              obtain ⟨_, us, h2, _⟩ := R1.cell l _ q
              cases rL_flat hx1 fun _ z => nomatch z with
              | loc hl => exact .inr (.inr (.inl ⟨rfl, .inr ⟨us, h2⟩⟩))
          | _ => cases c
      | _ => cases c
    refine ⟨ty, G, w1, ρ, S1, R1, (Post.bind P1).imp fun ds S2 w2 H2 e2 R2 P2 xs hxs => ?_⟩
    obtain ⟨z, S', hz, k⟩ := mth_post P2
    have hx := seen_B R2 e2 hx
    rcases ds with _ | ⟨b, _ | ⟨y, _ | ⟨_, _⟩⟩⟩
    · cases hz
    · cases hz
    · obtain ⟨l, rfl⟩ : ∃ l, d = .loc l := by
        cases d <;> first | exact ⟨_, rfl⟩ | cases hz
      have hz : (match S2[l]? with
        | some (.dT kvs false) => (tkOf b).map fun k => match valD kvs k with
          | some v => (v, S2.set l (.dT (dropD kvs k) false))
          | none => (y, S2)
        | _ => none) = some (z, S') := hz
      cases q : S2[l]? with
      | none =>
        rw [q] at hz
        cases hz
      | some c =>
        rw [q] at hz
        cases c with
        | dT kvs bb =>
          cases bb with
          | true => cases hz
          | false =>
            have hz : ((tkOf b).map fun k => match valD kvs k with
              | some v => (v, S2.set l (.dT (dropD kvs k) false))
              | none => (y, S2)) = some (z, S') := hz
            rw [Option.map_eq_some_iff] at hz
            obtain ⟨kk, h1, h2⟩ := hz
            obtain ⟨g1, us, g2, g3⟩ := R2.cell l _ q
            obtain ⟨v, u, rfl, rv, ru⟩ := two_arg hxs
            cases rL_flat hx fun _ z => nomatch z with
            | loc hl =>
              cases rv with
              | @tup a vs ds g4 g5 g6 =>
                have h1 : ksOf ds = some kk := h1
                have ev := keysV g6 h1
                subst ev
                obtain ⟨i1, i2⟩ := kvs_val (k := kk) g3
                refine ⟨_, us, kk, a, u, rfl, rfl, g2, R2.same _ _ g4, fun v hv => ?_, fun hn => ?_⟩
                · cases q2 : valD kvs kk with
                  | none =>
                    rw [i1.mpr q2] at hv
                    cases hv
                  | some d' =>
                    rw [q2] at h2
                    cases h2
                    obtain ⟨v', h3, rv'⟩ := i2 _ q2
                    rw [h3] at hv
                    cases hv
                    exact k w2 _ (Wle.refl _) (R2.cellPut q g1 ⟨g1, _, upd_same, kvs_drop g3⟩) _ rv'
                · rw [i1.mp hn] at h2
                  cases h2
                  exact k w2 H2 (Wle.refl _) R2 _ ru
              | _ => cases h1
        | _ => cases hz
    · cases hz
  · rw [if_neg c] at P1
    exact P1.elim
/-- a new dict -/
def Wd.newC (w : Wd) (p : Addr) : Wd := { w with io := fun l => if l = w.n then p else w.io l, lab := upl w.lab p (.cell w.n), n := w.n + 1 }
theorem Wle.newC {w : Wd} {p : Addr} : Wle w (w.newC p) := ⟨Nat.le_succ _, fun l hl => if_neg (Nat.ne_of_lt hl), Same.refl _⟩
/-- something new goes to the store -/
theorem Rel.newC {K : PySem.W.Frag} {G : Gu} {w : Wd} {ρ : Env} {S : Sto} {σ : L2.St} {H : Hp} {p : Addr} {u : HO} {c : Cell} (R : Rel K G w ρ S σ H) (hp : H p = none) (hc : CellR K G (w.newC p) (upd H p u) S.length c) : Rel K G (w.newC p) ρ (S ++ [c]) σ (upd H p u) := by
  have R' := (R.raw (o := u) hp).marked (ow := .cell w.n) upd_same (R.lab_none hp) (R.F_none hp) (R.G_none hp)
  have e' : Wle (w.mark p (.cell w.n)) (w.newC p) := ⟨Nat.le_succ _, fun l hl => if_neg (Nat.ne_of_lt hl), Same.refl _⟩
  refine ⟨R'.fz, R'.gd, R'.tr, R'.len, fun i c h => (R'.slot i c h).imp e' fun a ha => ⟨ha, rfl⟩, ?_, fun k c' h => ?_⟩
  · rw [List.length_append]
    show w.n + 1 = _
    rw [R.n]
    rfl
  · by_cases c1 : k < S.length
    · rw [List.getElem?_append_left c1] at h
      exact (R'.cell k c' h).imp e' (R'.lt h) rfl (fun _ => rfl) fun a o ha _ => ⟨ha, rfl⟩
    · have hk := (List.getElem?_eq_some_iff.mp h).1
      rw [List.length_append] at hk
      have e : k = S.length := by
        have : k < S.length + 1 := hk
        omega
      subst e
      rw [List.getElem?_append_right (Nat.le_refl _), Nat.sub_self] at h
      cases h
      exact hc
theorem newC_io {K : PySem.W.Frag} {G : Gu} {w : Wd} {ρ : Env} {S : Sto} {σ : L2.St} {H : Hp} (R : Rel K G w ρ S σ H) (p : Addr) : (w.newC p).io S.length = p ∧ (w.newC p).lab p = some (.cell S.length) ∧ S.length < (w.newC p).n :=
  ⟨if_pos R.n.symm, by
    show upl w.lab p (.cell w.n) p = _
    rw [upl_same, R.n], by
    show S.length < w.n + 1
    rw [R.n]
    exact Nat.lt_succ_self _⟩
theorem s_dnT {dpos : Pos} : PE X (.Dict [] [] dpos) (rd X.K Ω Wi (rE X.K) .dnT) :=
  PE.imp pe_dnewT fun σ H Q ⟨G, w, ρ, S, R, P⟩ p hp => by
    obtain ⟨e1, e2, e3⟩ := newC_io R p
    have R' := R.newC (u := .dT []) (c := .dT [] false) hp ⟨by rw [e1]; exact e2, [], by rw [e1]; exact upd_same, .nil⟩
    have r : Rp X.K (w.newC p) (.ref ((w.newC p).io S.length)) (.loc S.length) := .loc e3
    rw [e1] at r
    exact P _ _ Wle.newC R' _ r
theorem s_dnK {dpos : Pos} : PE X (.Dict [] [] dpos) (rd X.K Ω Wi (rE X.K) .dnK) :=
  PE.imp pe_dnewK fun σ H Q ⟨G, w, ρ, S, R, P⟩ p hp => by
    obtain ⟨e1, e2, e3⟩ := newC_io R p
    have R' := R.newC (u := .dK []) (c := .dK [] false) hp ⟨by rw [e1]; exact e2, [], by rw [e1]; exact upd_same, .nil⟩
    have r : Rp X.K (w.newC p) (.ref ((w.newC p).io S.length)) (.loc S.length) := .loc e3
    rw [e1] at r
    exact P _ _ Wle.newC R' _ r
/-! ### attributes -/
theorem fs_get {K : PySem.W.Frag} {w : Wd} {f : Str} : ∀ {fs : List (Str × D)} {us : List (Str × V)}, FsR K w fs us → (fs.lookup f = none → us.lookup f = none) ∧ ∀ d, fs.lookup f = some d → ∃ v, us.lookup f = some v ∧ Rp K w v d
  | _, _, .nil => ⟨fun _ => rfl, fun d e => by cases e⟩
  | _, _, .cons (a := p) (b := q) (l₁ := fs) (l₂ := us) r t => by
    obtain ⟨k1, d1⟩ := p
    obtain ⟨k2, v2⟩ := q
    obtain ⟨r1, r2⟩ := r
    have r1 : k1 = k2 := r1
    subst r1
    obtain ⟨i1, i2⟩ := fs_get (f := f) t
    rw [List.lookup_cons, List.lookup_cons]
    cases f == k1 with
    | true => exact ⟨(fun e => by cases e), (fun d e => by cases e; exact ⟨v2, rfl, r2⟩)⟩
    | false => exact ⟨i1, i2⟩
theorem fs_len {K : PySem.W.Frag} {w : Wd} {fs : List (Str × D)} {us : List (Str × V)} (h : FsR K w fs us) : fs.length = us.length := by
  induction h with
  | nil => rfl
  | cons _ _ ih => rw [List.length_cons, List.length_cons, ih]
theorem fs_put {K : PySem.W.Frag} {w : Wd} {f : Str} {v : V} {d : D} (r : Rp K w v d) {fs : List (Str × D)} {us : List (Str × V)} (h : FsR K w fs us) : FsR K w (setFs f d fs) (putF f v us) := by
  induction h with
  | nil => exact .cons ⟨rfl, r⟩ .nil
  | @cons a b l₁ l₂ p t ih =>
    obtain ⟨k1, d1⟩ := a
    obtain ⟨k2, v2⟩ := b
    obtain ⟨r1, r2⟩ := p
    have r1 : k1 = k2 := r1
    subst r1
    show FsR K w (if k1 = f then (k1, d) :: l₁ else (k1, d1) :: setFs f d l₁) (if k1 = f then (k1, v) :: l₂ else (k1, v2) :: putF f v l₂)
    by_cases c : k1 = f
    · rw [if_pos c, if_pos c]
      exact .cons ⟨rfl, r⟩ t
    · rw [if_neg c, if_neg c]
      exact .cons ⟨rfl, r2⟩ ih
theorem s_fld {f : Str} (ho : PE X o (rd X.K Ω Wi (rE X.K) s)) (hb : plainB o = true) (hf : mem f attrs = true) : PE X (.Attribute o f pos) (rd X.K Ω Wi (rE X.K) (.fld s f)) :=
  PE.imp (pe_fld ho (base_plain hb)) fun σ H Q ⟨G, w, ρ, S, R, P⟩ => ⟨G, w, ρ, S, R, (Post.bind P).imp fun d S1 w1 H1 e1 R1 P1 x hx => by
    obtain ⟨z, hz, k⟩ := Post.of P1
    cases d <;> try (cases hz; done)
    rename_i l
    have hz : (match S1[l]? with
      | some (.ins _ fs) => fs.lookup f
      | _ => none) = some z := hz
    cases q : S1[l]? with
    | none =>
      rw [q] at hz
      cases hz
    | some c =>
      rw [q] at hz
      cases c with
      | ins c fs =>
        have hz : fs.lookup f = some z := hz
        obtain ⟨h1, h2, h3, h4, us, h5, h6⟩ := R1.cell l _ q
        obtain ⟨v, hv, rv⟩ := (fs_get h6).2 z hz
        cases hx with
        | loc hl => exact ⟨_, _, _, us, v, rfl, h5, h4.cl, h4.no f hf, hv, k w1 H1 (Wle.refl _) R1 v rv⟩
      | _ => cases hz⟩
theorem b_setF {f : Str} {tp : Pos} (ho : PE X o (rd X.K Ω Wi (rE X.K) s)) (he : PE X e (rd X.K Ω Wi (rE X.K) t)) (hs : swapsWith e (some (.Attribute o f tp)) pos.line X.env = pure false) (hf : mem f attrs = true) : PS X (.Assign [.Attribute o f tp] e pos) (rdS X.K Ω Wi (.setF s f t)) :=
  PS.imp (ps_fld ho he hs) fun D σ H ⟨G, w, ρ, S, R, P⟩ => ⟨G, w, ρ, S, R, (OPost.run (σ := σ) P).imp fun d S1 w1 H1 e1 R1 P1 v hv => ⟨G, w1, ρ, S1, R1, (OPost.run (σ := σ) P1).imp fun od S2 w2 H2 e2 R2 P2 x hx => by
    have hv := hv.mono e2
    cases od <;> try exact P2.elim
    rename_i l
    have P2 : OPost X.K G Wi w2 D (match putFld S2 l f d with
      | some S3 => .nx ρ S3
      | none => .stk) := P2
    cases q : S2[l]? with
    | none =>
      have e : putFld S2 l f d = none := by
        unfold putFld
        rw [q]
      rw [e] at P2
      exact P2.elim
    | some c =>
      cases c with
      | ins c fs =>
        have e : putFld S2 l f d = if fs.length < 900 then some (S2.set l (.ins c (setFs f d fs))) else none := by
          unfold putFld
          rw [q]
        rw [e] at P2
        by_cases cl : fs.length < 900
        · rw [if_pos cl] at P2
          obtain ⟨h1, h2, h3, h4, us, h5, h6⟩ := R2.cell l _ q
          have hd : w2.dx l ≠ w2.io l := fun z => by
            rw [z, h1] at h2
            cases h2
          cases hx with
          | loc hl =>
            exact ⟨_, _, _, us, rfl, h5, h4.cl, h4.no f hf, by rw [← fs_len h6]; omega, P2 w2 σ _ (Wle.refl _) (R2.cellPut q h1 ⟨h1, h2, by rw [upd_ne hd]; exact h3, h4, _, upd_same, fs_put hv h6⟩)⟩
        · rw [if_neg cl] at P2
          exact P2.elim
      | _ =>
        have e : putFld S2 l f d = none := by
          unfold putFld
          rw [q]
        rw [e] at P2
        exact P2.elim⟩⟩
/-! ### methods of one's own -/
theorem meth_tree {m : Str} {env : PySem.Env} {args : List Expr} (hb : plainB o = true) (hp : args.all plainA = true) (h30 : args.length < 30) (hl : (ap.endLine == pos.line) = true) :
    eval (.Call (.Attribute o m ap) args [] pos) env = (do
      let ov ← eval o env
      standAt ap.atName
      let (f, first) ← holding [ov] (getMethod ov m (do return (← importBound o env).getD true))
      callWith pos f first (backTo pos (starEach args env)) (backToKw pos (keywordEach [] env))) := by
  have hf : methodCallForm (args.length + ([] : List Keyword).length) (backTo pos (starEach args env)) (backToKw pos (keywordEach [] env)) = true := few_ok hp h30
  show (do
    let ov ← attributeBase o m env (eval o env)
    standAt ap.atName
    methodCall o m ap pos env ov (args.length + ([] : List Keyword).length) (backTo pos (starEach args env)) (backToKw pos (keywordEach [] env))) = _
  rw [base_plain hb]
  unfold methodCall
  rw [hf]
  have hc : methodCallPos true o env ap pos = pure pos := by
    unfold methodCallPos
    rw [hl]
    rfl
  rw [hc]
  rfl
/-- a method that may be called -/
def MetF (P : Program) (w : World) (K : PySem.W.Frag) (mg : Str → Option Value) (base : Heap) (Ω : Orc) (n : Nat) (c m : Str) : Prop :=
  (∀ xs S, Ω (.me c m) xs S = .stk) ∨ ∃ fd ps, FnG P w K mg base n (He.ma K (ga K c) m) fd ps (spOf K Ω (.me c m)) ∧ Binds K fd ps []
theorem s_met {n : Nat} {m : Str} {args : List Expr} (tk : Takes X Wi) (F : ∀ c, MetF X.prog X.w X.K X.mg X.base Ω n c m) (hr : Room n X.A) (hgd : X.A.guards = some []) (ho : PE X o (rd X.K Ω Wi (rE X.K) s)) (ha : PA X args (rdA X.K Ω Wi t)) (ha0 : args = [] → t = .nil)
    (hb : plainB o = true) (hp : args.all plainA = true) (h30 : args.length < 30) (hl : (ap.endLine == pos.line) = true) : PE X (.Call (.Attribute o m ap) args [] pos) (rd X.K Ω Wi (rE X.K) (.met m s t)) := by
  refine ⟨fun pins st σ H Q I ⟨G, w, ρ, S, R, P⟩ => ?_⟩
  refine PySem.W.methodCall_KW (pl := (do return (← importBound o X.env).getD true)) (thn (ho.run pins st σ H (fun x H1 => ∃ (c : Str) (a dx : Addr) (us : List (Str × V)) (l : Nat) (w1 : Wd) (S1 : Sto), x = .ref a ∧ H1 a = some (.ins (ga X.K c) dx us) ∧ ClsOk X.K c ∧ mem m (mtabOf c) = true ∧ us.lookup m = none ∧ Rp X.K w1 x (.loc l) ∧ Rel X.K G w1 ρ S1 σ H1 ∧
      Post X.K G ρ σ Wi w1 ((evs Ω ρ t S1).bind fun xs S2 => Ω (.me c m) (.loc l :: xs) S2) fun d S' w' H' => ∀ v, rE X.K w' σ ρ H' v d → Q v H') I ⟨G, w, ρ, S, R, (Post.bind P).imp fun d S1 w1 H1 e1 R1 P1 x hx => ?_⟩) fun u s1 hu => ?_) (meth_tree hb hp h30 hl)
  · cases d with
    | loc l =>
      cases q : S1[l]? with
      | none =>
        have e : clsOf S1 (.loc l) m = none := by
          unfold clsOf
          simp only [q]
        simp only [e] at P1
        exact P1.elim
      | some c =>
        cases c with
        | ins c fs =>
          have e : clsOf S1 (.loc l) m = if (fs.lookup m).isNone && (mtabOf c).any (fun y => decide (y = m)) then some c else none := by
            unfold clsOf
            simp only [q]
          by_cases cc : ((fs.lookup m).isNone && (mtabOf c).any fun y => decide (y = m)) = true
          · rw [if_pos cc] at e
            simp only [e] at P1
            obtain ⟨c1, c2⟩ := Bool.and_eq_true_iff.mp cc
            obtain ⟨h1, h2, h3, h4, us, h5, h6⟩ := R1.cell l _ q
            have hx' : Rp X.K w1 x (.loc l) := hx
            have hx2 := hx'
            cases hx' with
            | loc hl => exact ⟨c, _, _, us, l, w1, S1, rfl, h5, h4, c2, (fs_get h6).1 (Option.isNone_iff_eq_none.mp c1), hx2, R1, P1⟩
          · rw [if_neg cc] at e
            simp only [e] at P1
            exact P1.elim
        | _ =>
          have e : clsOf S1 (.loc l) m = none := by
            unfold clsOf
            simp only [q]
          simp only [e] at P1
          exact P1.elim
    | _ => exact P1.elim
  · obtain ⟨x, H1, I1, rx, c, a, dx, us, l, w1, S1, rfl, h1, hc, hm, hn, hx, R1, P1⟩ := hu
    cases rx
    have M := hc.me m hm
    refine getmeth_ok I1 h1 hc.cl M hn ?_
    have fin : ∀ (vs : List V) (vals : List Value) (H2 : Hp) (s2 : Shared), Inv X pins σ H2 s2 → Vals vs vals → (∃ ds w2 S2, Wle w1 w2 ∧ Rel X.K G w2 ρ S2 σ H2 ∧ RpAll X.K w2 vs ds ∧ Post X.K G ρ σ Wi w2 (Ω (.me c m) (.loc l :: ds) S2) fun d S' w' H' => ∀ v, rE X.K w' σ ρ H' v d → Q v H') →
        wpAny (model X.prog X.w) X.A (call (.ref (He.ma X.K (ga X.K c) m)) (.ref a :: vals)) (EP X pins σ Q) X.xe s2 := fun vs vals H2 s2 I2 rv ⟨ds, w2, S2, e2, R2, rd2, P2⟩ => by
      rcases F c with hs | ⟨fd, ps, FG, B⟩
      · rw [hs] at P2
        exact P2.elim
      · exact run_G (us := .ref a :: vals) (vs := .ref a :: vs) tk FG hr hgd B I2 (.cons rfl rv) (call_sp R2 (.cons (hx.mono e2) rd2) P2)
    cases args with
    | nil =>
      cases ha0 rfl
      exact PySem.W.callWith_K0 (first := [.ref a]) I1.kIn M.kp (fin [] [] H1 s1 I1 .nil ⟨[], w1, S1, Wle.refl _, R1, .nil, P1⟩)
    | cons e es =>
      have hp2 : plainA e = true ∧ es.all plainA = true := by
        rw [List.all_cons, Bool.and_eq_true] at hp
        exact hp
      refine PySem.W.callWith_K (first := [.ref a]) (h₀ := X.base) I1.ok.mod.kin M.kp (thn (ha.run pos pins s1 σ H1 (fun vs H2 => ∃ ds w2 S2, Wle w1 w2 ∧ Rel X.K G w2 ρ S2 σ H2 ∧ RpAll X.K w2 vs ds ∧ Post X.K G ρ σ Wi w2 (Ω (.me c m) (.loc l :: ds) S2) fun d S' w' H' => ∀ v, rE X.K w' σ ρ H' v d → Q v H') I1
        ⟨G, w1, ρ, S1, R1, (Post.bind P1).imp fun ds S2 w2 H2 e2 R2 P2 vs hvs => ⟨ds, w2, S2, e2, R2, hvs, P2⟩⟩) fun vals s2 ⟨vs, H2, I2, r, q⟩ => ⟨I2.kIn, fin vs vals H2 s2 I2 r q⟩) (star_plain hp2.1) (pl_any hp2.2)
/-! ### instances -/
/-- a class that may be called -/
def MkF (P : Program) (w : World) (K : PySem.W.Frag) (mg : Str → Option Value) (base : Heap) (Ω : Orc) (n : Nat) (c : Str) : Prop :=
  ClsOk K c ∧ mg c = some (.ref (ga K c)) ∧ Mk K (ga K c) (He.ma K (ga K c) "__init__") ∧ ((∀ xs S, Ω (.mk c) xs S = .stk) ∨ ∃ fd ps n' Ω', n = n' + 1 ∧ FnG P w K mg base n' (He.ma K (ga K c) "__init__") fd ps (spOf K Ω' (.me c "__init__")) ∧ Binds K fd ps [] ∧
    ∀ xs S, Ω (.mk c) xs S = (Ω' (.me c "__init__") (.loc S.length :: xs) (S ++ [.ins c []])).bind fun d S2 => match d with
      | .non => .ok (.loc S.length) S2
      | _ => .stk)
theorem call_spM {K : PySem.W.Frag} {G : Gu} {w : Wd} {ρ : Env} {S : Sto} {σ : L2.St} {H : Hp} {vs : List V} {ds : List D} {c : Str} {Ω' : Orc} {Q : VK} (R : Rel K G w ρ S σ H) (r : RpAll K w vs ds) (hc : ClsOk K c)
    (P : Post K G ρ σ Wi w ((Ω' (.me c "__init__") (.loc S.length :: ds) (S ++ [.ins c []])).bind fun d S2 => match d with
      | .non => .ok (.loc S.length) S2
      | _ => .stk) fun d S' w' H' => ∀ v, Rp K w' v d → Q v H') (x dx : Addr) (hx : H x = none) (hdx : H dx = none) (hne : dx ≠ x) :
    spOf K Ω' (.me c "__init__") (.ref x :: vs) (upd (upd H dx (.own x)) x (.ins (ga K c) dx [])) (fun v H2 => v = .non ∧ Q (.ref x) H2) (fun cls d H => Wi cls d σ H) := by
  let w1 : Wd := { w with io := fun l => if l = w.n then x else w.io l, dx := fun l => if l = w.n then dx else w.dx l, lab := upl (upl w.lab dx (.dx w.n)) x (.cell w.n), n := w.n + 1 }
  have e1 : Wle w w1 := ⟨Nat.le_succ _, fun l hl => if_neg (Nat.ne_of_lt hl), Same.refl _⟩
  have ne : ∀ {a : Addr}, H a ≠ none → a ≠ x ∧ a ≠ dx := fun {a} h => ⟨fun e => h (e ▸ hx), fun e => h (e ▸ hdx)⟩
  have hu : ∀ {a : Addr}, H a ≠ none → upd (upd H dx (.own x)) x (.ins (ga K c) dx []) a = H a := fun {a} h => by
    rw [upd_ne (ne h).1, upd_ne (ne h).2]
  have hlab : ∀ {a : Addr}, H a ≠ none → w1.lab a = w.lab a := fun {a} h => by
    show upl (upl w.lab dx (.dx w.n)) x (.cell w.n) a = _
    rw [upl_ne (ne h).1, upl_ne (ne h).2]
  have some_ne : ∀ {a : Addr} {o : HO}, H a = some o → H a ≠ none := fun {a o} h z => by
    rw [h] at z
    cases z
  have io1 : w1.io S.length = x := if_pos R.n.symm
  have dx1 : w1.dx S.length = dx := if_pos R.n.symm
  have R1 : Rel K G w1 ρ (S ++ [.ins c []]) σ (upd (upd H dx (.own x)) x (.ins (ga K c) dx [])) := by
    refine ⟨fun a o h => ?_, fun a o h => ?_, fun a h z => ?_, R.len, fun i c' h => (R.slot i c' h).imp e1 fun a ha => ?_, ?_, fun k c' h => ?_⟩
    · have h := R.fz a o h
      have n := some_ne h.1
      exact ⟨(hu n).trans h.1, (hlab n).trans h.2⟩
    · have h := R.gd a o h
      have n := some_ne h.1
      exact ⟨(hu n).trans h.1, (hlab n).trans h.2.1, h.2.2⟩
    · by_cases e : a = x
      · rw [e, upd_same] at z
        cases z
      · rw [upd_ne e] at z
        by_cases e2 : a = dx
        · rw [e2, upd_same] at z
          cases z
        · rw [upd_ne e2] at z
          have h : upl (upl w.lab dx (.dx w.n)) x (.cell w.n) a ≠ none := h
          rw [upl_ne e, upl_ne e2] at h
          exact R.tr a h z
    · have n := R.tr a (by rw [ha]; exact fun z => nomatch z)
      exact ⟨(hlab n).trans ha, hu n⟩
    · rw [List.length_append]
      show w.n + 1 = _
      rw [R.n]
      rfl
    · by_cases c1 : k < S.length
      · rw [List.getElem?_append_left c1] at h
        have hk : k ≠ w.n := by
          rw [R.n]
          omega
        exact (R.cell k c' h).imp e1 (R.lt h) (if_neg hk) (fun _ => rfl) fun a o ha _ => by
          have n := R.tr a (by rw [ha]; exact fun z => nomatch z)
          exact ⟨(hlab n).trans ha, hu n⟩
      · have hk := (List.getElem?_eq_some_iff.mp h).1
        rw [List.length_append] at hk
        have e : k = S.length := by
          have : k < S.length + 1 := hk
          omega
        subst e
        rw [List.getElem?_append_right (Nat.le_refl _), Nat.sub_self] at h
        cases h
        show w1.lab (w1.io S.length) = _ ∧ w1.lab (w1.dx S.length) = _ ∧ _
        rw [io1, dx1]
        refine ⟨?_, ?_, by rw [upd_ne hne, upd_same], hc, [], upd_same, .nil⟩
        · show upl (upl w.lab dx (.dx w.n)) x (.cell w.n) x = _
          rw [upl_same, R.n]
        · show upl (upl w.lab dx (.dx w.n)) x (.cell w.n) dx = _
          rw [upl_ne hne, upl_same, R.n]
  have rx : Rp K w1 (.ref x) (.loc S.length) := by
    have : Rp K w1 (.ref (w1.io S.length)) (.loc S.length) := .loc (by
      show S.length < w.n + 1
      rw [R.n]
      exact Nat.lt_succ_self _)
    rwa [io1] at this
  refine call_sp (Wi := Wi) (Q := fun v H2 => v = .non ∧ Q (.ref x) H2) (ds := .loc S.length :: ds) R1 (.cons rx (r.mono e1)) ?_
  have P := Post.mono e1 P
  revert P
  cases Ω' (.me c "__init__") (.loc S.length :: ds) (S ++ [.ins c []]) with
  | stk => exact fun P => P
  | exc cc y S' => exact fun P => P
  | ok d S' =>
    intro P w2 H2 e2 R2 v hv
    cases d with
    | non =>
      cases hv
      exact ⟨rfl, P w2 H2 e2 R2 _ (rx.mono e2)⟩
    | _ => exact P.elim
theorem run_makeG {k : Nat} {C f : Addr} {fd : FuncData} {ps : List Str} {sp : Sp} {pins : List (Addr × Obj)} {σ : L2.St} {H : Hp} {st : Shared} {Q : VK} {us : List Value} {vs : List V} (M : Mk X.K C f) (tk : Takes X Wi) (F : FnG X.prog X.w X.K X.mg X.base k f fd ps sp) (hr : Room (k + 1) X.A) (hgd : X.A.guards = some [])
    (hb : Binds X.K fd ps []) (I : Inv X pins σ H st) (r : Vals vs us) (h : ∀ x dx, H x = none → H dx = none → dx ≠ x → sp (.ref x :: vs) (upd (upd H dx (.own x)) x (.ins C dx [])) (fun v H2 => v = .non ∧ Q (.ref x) H2) fun cls d H => Wi cls d σ H) :
    wpAny (model X.prog X.w) X.A (call (.ref C) us) (EP X pins σ Q) X.xe st := by
  have hq := h (st.heap.objs.size + 1) st.heap.objs.size (I.hok.fresh (Nat.le_succ _)) (I.hok.fresh (Nat.le_refl _)) (Nat.ne_of_lt (Nat.lt_succ_self _))
  have I2 := Inv.made (C := C) I
  have r2 : Vals (V.ref (st.heap.objs.size + 1) :: vs) (Value.ref (st.heap.objs.size + 1) :: us) := .cons rfl r
  have hl : (Value.ref (st.heap.objs.size + 1) :: us).length = ps.length := by
    have e := r2.length
    rw [F.len _ _ _ _ hq] at e
    exact e.symm
  have bind := hb _ (Value.ref (st.heap.objs.size + 1) :: us) I2.kIn (by rw [List.append_nil]; exact hl)
  rw [List.append_nil] at bind
  refine wpAny_call (make_map (f := f) I.kIn M.makes M.init (beq_iff_eq.mp M.fn) (codeAny_mono (F.run _ X.stack _ _ ⟨Value.ref (st.heap.objs.size + 1) :: us, []⟩ (Value.ref (st.heap.objs.size + 1) :: us) _ _ _ (hr.make C us []) hgd
    (I2.env0.make C us []) bind r2 hq) fun r s' hq' => ?_))
  cases r with
  | error e => exact passAt tk σ pins _ _ e s' I2 hq'
  | ok fl =>
    cases fl with
    | ret u =>
      obtain ⟨v, H', I3, rv, ev, q3⟩ := I2.after hq'
      subst ev
      exact ⟨rv, ⟨V.ref (st.heap.objs.size + 1), H', I3, rfl, q3⟩⟩
    | next => exact False.elim hq'
    | brk => exact False.elim hq'
    | cont => exact False.elim hq'
theorem s_mk {n : Nat} {x : Str} {p : Pos} {args : List Expr} (tk : Takes X Wi) (F : MkF X.prog X.w X.K X.mg X.base Ω n x) (hr : Room n X.A) (hgd : X.A.guards = some []) (hg : Gl X x) (hx : (x == ("__debug__" : Str)) = false) (ha : PA X args (rdA X.K Ω Wi t)) (ha0 : args = [] → t = .nil) (hp : args.all plainA = true) :
    PE X (.Call (.Name x p) args [] pos) (rd X.K Ω Wi (rE X.K) (.mk x t)) := by
  obtain ⟨hc, hm, M, F⟩ := F
  refine ⟨fun pins st σ H Q I ⟨G, w, ρ, S, R, P⟩ => ?_⟩
  refine wpAny_Call_Name_kw (ld_glob I hg hm ?_ hx)
  have fin : ∀ (vs : List V) (vals : List Value) (H2 : Hp) (s2 : Shared), Inv X pins σ H2 s2 → Vals vs vals → (∃ ds w2 S2, Rel X.K G w2 ρ S2 σ H2 ∧ RpAll X.K w2 vs ds ∧ Post X.K G ρ σ Wi w2 (Ω (.mk x) ds S2) fun d S' w' H' => ∀ v, rE X.K w' σ ρ H' v d → Q v H') →
      wpAny (model X.prog X.w) X.A (call (.ref (ga X.K x)) vals) (EP X pins σ Q) X.xe s2 := fun vs vals H2 s2 I2 rv ⟨ds, w2, S2, R2, rd2, P2⟩ => by
    rcases F with hs | ⟨fd, ps, n', Ω', rfl, FG, B, he⟩
    · rw [hs] at P2
      exact P2.elim
    · rw [he] at P2
      exact run_makeG M tk FG hr hgd B I2 rv fun a dx h1 h2 h3 => call_spM R2 rd2 hc P2 a dx h1 h2 h3
  cases args with
  | nil =>
    cases ha0 rfl
    exact PySem.W.callWith_K0 I.kIn M.kp (fin [] [] H st I .nil ⟨[], w, S, R, .nil, P⟩)
  | cons e es =>
    have hp2 : plainA e = true ∧ es.all plainA = true := by
      rw [List.all_cons, Bool.and_eq_true] at hp
      exact hp
    refine PySem.W.callWith_K (h₀ := X.base) I.ok.mod.kin M.kp (thn (ha.run pos pins st σ H (fun vs H2 => ∃ ds w2 S2, Rel X.K G w2 ρ S2 σ H2 ∧ RpAll X.K w2 vs ds ∧ Post X.K G ρ σ Wi w2 (Ω (.mk x) ds S2) fun d S' w' H' => ∀ v, rE X.K w' σ ρ H' v d → Q v H') I
      ⟨G, w, ρ, S, R, (Post.bind P).imp fun ds S2 w2 H2 e2 R2 P2 vs hvs => ⟨ds, w2, S2, R2, hvs, P2⟩⟩) fun vals s2 ⟨vs, H2, I2, r, q⟩ => ⟨I2.kIn, fin vs vals H2 s2 I2 r q⟩) (star_plain hp2.1) (pl_any hp2.2)
end
end TX

set_option maxRecDepth 100000
set_option maxHeartbeats 4000000
/-! TX, part 12b: try with any clauses, named or not. -/
namespace TX
open PySem PySem.Spec PyProof.Rows L2 He

/-- a clause: its class, the slot of its name, what its suite does -/
structure Cl where
  c : Value
  i : Option Nat
  t : Addr → Value → Option Addr → TS
/-- the name is forgotten behind the suite -/
def endsUn (D : Ends) (i : Nat) : Ends where
  nx := fun σ H => D.nx (σ.set i none) H
  rt := D.rt
  bk := fun σ H => D.bk (σ.set i none) H
  ct := fun σ H => D.ct (σ.set i none) H
def Cl.go (q : Cl) (a : Addr) (cls : Value) (d : Option Addr) (D : Ends) (σ : L2.St) (H : Hp) : Prop := match q.i with
  | none => q.t a cls d D σ H
  | some i => q.t a cls d (endsUn D i) (σ.set i (some (.ref a))) H
def wCl (K : PySem.W.Frag) (Wo : WX) (D : Ends) : List Cl → WX
  | [] => Wo
  | q :: r => fun cls d σ H => ∃ b, PySem.W.exmOne K cls q.c = some b ∧ (b = true → ∀ a, H a = none → q.go a cls d D σ H) ∧ (b = false → wCl K Wo D r cls d σ H)
/-- a suite keeps its promise wherever the exception lies -/
def SuOk (X : Cx) (su : List Stmt) (t : Addr → Value → Option Addr → TS) : Prop := ∀ (a : Addr) (o : Obj) (cls : Value) (d : Option Addr) (pn : List (Addr × Obj)), Zc cls d o → (∃ fs, o.data = .fields fs) → PSs (X.suite a ((a, o) :: pn)) su (t a cls d)
inductive ClOk (X : Cx) : List ExceptHandler → List Cl → Prop
  | nil : ClOk X [] []
  | pl {x : Str} {c : Value} {t : Addr → Value → Option Addr → TS} {st : Stmt} {su : List Stmt} {np p : Pos} {hs : List ExceptHandler} {l : List Cl} (n : Names X x c) (s : SuOk X (st :: su) t) (r : ClOk X hs l) :
      ClOk X (.ExceptHandler (some (.Name x np)) none (st :: su) p :: hs) (⟨c, none, t⟩ :: l)
  | nm {x y : Str} {i : Nat} {c : Value} {t : Addr → Value → Option Addr → TS} {st : Stmt} {su : List Stmt} {np p : Pos} {hs : List ExceptHandler} {l : List Cl} (n : Names X x c) (hi : X.N[i]? = some y) (hk : X.env.kindOf y = some .local) (s : SuOk X (st :: su) t) (r : ClOk X hs l) :
      ClOk X (.ExceptHandler (some (.Name x np)) (some y) (st :: su) p :: hs) (⟨c, some i, t⟩ :: l)
/-- the exception a has landed: noted nowhere, its object there -/
structure Down (X : Cx) (pins : List (Addr × Obj)) (σ : L2.St) (H : Hp) (cls : Value) (d : Option Addr) (a : Addr) (B : Heap) (sI z : Shared) : Prop where
  stack : X.stack = X.env :: X.outer
  fr : X.env.frame = some X.env.locals
  J : Inv X pins σ H sI
  nb : ∀ b o, sI.heap.get? b = some o → b ∉ frs X.stack → B.get? b = some o
  up : sI.heap.UpToSlots z.heap
  fly : HandSPX.FlyingZ B (X.env :: X.outer) a (Zc cls d) z.heap
  na : H a = none
  os : z.os = sI.os
  ag : AllBare z.gens
section
variable {X : Cx} {pins : List (Addr × Obj)} {σ : L2.St} {H : Hp} {cls : Value} {d : Option Addr} {a : Addr} {B : Heap} {sI z : Shared} {D : Ends} {Wo : WX}
theorem Down.inv (w : Down X pins σ H cls d a B sI z) : Inv X pins σ H z := w.J.landed w.nb w.fly.1 w.up w.os w.ag
theorem Down.su (w : Down X pins σ H cls d a B sI z) : ∃ o, Zc cls d o ∧ (∃ fs, o.data = .fields fs) ∧ z.heap.get? a = some o ∧ Inv (X.suite a ((a, o) :: (X.pn ++ pins))) [] σ H z := by
  obtain ⟨o, fs, e1, e2, e3⟩ := w.fly.there
  have away : a ∉ frs (X.env :: X.outer) := fun m => by
    obtain ⟨_, o2, e4, n⟩ := w.fly.2.2.1.mem m
    cases e1.symm.trans e4
    exact n _ e3
  refine ⟨o, e2, ⟨fs, e3⟩, e1, w.inv.suite e1 e3 w.na (fun q => away ?_) fun m => ?_⟩
  · exact List.mem_filterMap.mpr ⟨X.env, List.mem_cons_self, w.fr.trans (congrArg some q.symm)⟩
  · obtain ⟨e, m1, m2⟩ := List.mem_filterMap.mp m
    exact away (List.mem_filterMap.mpr ⟨e, List.mem_cons_of_mem _ m1, m2⟩)
theorem Down.again (w : Down X pins σ H cls d a B sI z) {A : Around} {E : Value → Shared → Prop} {Q : Unit → Shared → Prop} (k : ∀ z', Down X pins σ H cls d a B sI z' → Q () z') : wpAny (model X.prog X.w) A (setFlight (.ref a) none) Q E z :=
  HandSPX.lands_againZ w.fly fun h' f u => k _ { w with up := w.up.trans u, fly := f }
/-- one clause after the other -/
theorem Down.by (hN : X.N.Nodup) (tk : Takes X Wo) : ∀ {hs : List ExceptHandler} {l : List Cl}, ClOk X hs l → ∀ {z : Shared}, Down X pins σ H cls d a B sI z → wCl X.K Wo D l cls d σ H → wpAny (model X.prog X.w) X.A (handleBy (.ref a) X.env hs) (SP X pins D) X.xe z := by
  intro hs l c
  have test : ∀ {x : Str} {c : Value} {np : Pos} {z : Shared} {o : Obj} {Q E : Value → Shared → Prop}, Names X x c → Inv (X.suite a ((a, o) :: (X.pn ++ pins))) [] σ H z → Q c z → wpAny (model X.prog X.w) (X.A.mark (some (.ref a))) (eval (.Name x np) X.env) Q E z := fun {x c np z o Q E} n I q => by
    obtain ⟨g, dbg, m⟩ := n
    rcases m with m | ⟨m, v, nn⟩
    · exact ld_glob (X := X.suite a _) I g m q dbg
    · exact ld_blt (X := X.suite a _) I g m v q nn dbg
  have looks : ∀ {z : Shared} {o : Obj} {c : Value} {b : Bool}, Down X pins σ H cls d a B sI z → z.heap.get? a = some o → Zc cls d o → PySem.W.exmOne X.K cls c = some b → _ := fun {z o c b} w e1 e2 e => PySem.W.exm_one (M := model X.prog X.w) w.inv.kIn (fun _ _ _ _ k q => wpAny_typeOf_ref (k _ _ e1) (by rw [e2.1]; exact q)) e
  induction c with
  | nil =>
    intro z w p
    refine wpAny_handleBy_nil ?_
    obtain ⟨_, _, _, o, fs, T, _, _, e1, _, e3, e4, _⟩ := id w.fly
    have q : wpAny (model X.prog X.w) X.A (setFlight (.ref a) X.env.frame) (fun _ y => wpAny (model X.prog X.w) X.A (throw (.ref a) : Sem Flow) (SP X pins D) X.xe y) X.xe z := by
      rw [w.fr]
      refine HandSPX.setFlight_upZ w.fly fun h' held u => wpAny_throw (tk _ _ ⟨a, B, sI, pins, σ, H, cls, d, rfl, w.J, w.nb, w.up.trans u, .inr (.inr ?_), w.na, w.os, w.ag, p⟩)
      rw [w.stack]
      exact held
    unfold PySem.passOn
    refine wpAny_bind (wpAny_field e1 e3 e4 ?_)
    rw [if_neg (fun t : (Value.ref T == Value.none) = true => by simp at t)]
    first
    | exact wpAny_bind q
    | exact wpAny_bind (wpAny_pure (wpAny_bind q))
  | pl n s _ ih =>
    intro z w ⟨b, e, yes, no⟩
    obtain ⟨o, e2, _, e1, I⟩ := w.su
    refine wpAny_handleBy_cons (codeAny_handlers_test (test n I ((looks w e1 e2 e).here ?_))) fun t => nomatch t
    cases b with
    | false => exact ih w (no rfl)
    | true =>
      refine codeAny_handlers_suite (w.again fun y v => ?_)
      obtain ⟨o, e2, fs, e1, I⟩ := v.su
      refine wpAny_mono ((s a o cls d _ e2 fs).run [] y σ H D I (yes rfl a w.na)) (fun f y' p => ?_) fun _ _ t => t.elim
      cases f with
      | ret _ =>
        obtain ⟨v', σ', H', I', r, k⟩ := p
        exact ⟨v', σ', H', I'.unsuite w.J.ok, r, k⟩
      | _ =>
        obtain ⟨σ', H', I', k⟩ := p
        exact ⟨σ', H', I'.unsuite w.J.ok, k⟩
  | nm n hi hk s _ ih =>
    intro z w ⟨b, e, yes, no⟩
    obtain ⟨o, e2, _, e1, I⟩ := w.su
    refine wpAny_handleBy_cons (codeAny_handlers_test (test n I ((looks w e1 e2 e).here ?_))) fun t => nomatch t
    cases b with
    | false => exact ih w (no rfl)
    | true =>
      refine codeAny_handlers_suite_as (w.again fun y v => ?_)
      obtain ⟨o, e2, fs, e1, I⟩ := v.su
      refine store_ok (X := X.suite a ((a, o) :: (X.pn ++ pins))) (v := .ref a) I hN hi (.inl hk) rfl (fun y2 I2 => ?_) (.inr hk)
      refine wpAny_mono ((s a o cls d _ e2 fs).run [] y2 _ H _ I2 (yes rfl a w.na)) (fun f y' p => ?_) fun _ _ t => t.elim
      cases f with
      | ret _ =>
        obtain ⟨v', σ', H', I', r, k⟩ := p
        exact gone_ok (I'.unsuite w.J.ok) hN hi hk fun _ I3 => ⟨v', _, H', I3, r, k⟩
      | _ =>
        obtain ⟨σ', H', I', k⟩ := p
        exact gone_ok (I'.unsuite w.J.ok) hN hi hk fun _ I3 => ⟨_, H', I3, k⟩
/-- try: .. except ..: .. -/
theorem ps_tryC {body : List Stmt} {h0 : ExceptHandler} {hs : List ExceptHandler} {l : List Cl} {pos : Pos} {tb : WX → TS} (hN : X.N.Nodup) (st : X.stack = X.env :: X.outer) (fr : X.env.frame = some X.env.locals) (tk : Takes X Wo)
    (hb : ∀ (W : WX) (pn : List (Addr × Obj)) (xe : Value → Shared → Prop), Takes (X.tr pn xe) W → PassesOwn (model X.prog X.w) X.A X.env xe → PSs (X.tr pn xe) body (tb W)) (hc : ClOk X (h0 :: hs) l) :
    PS X (.Try body (h0 :: hs) [] [] pos) (fun D σ H => tb (wCl X.K Wo D l) D σ H) := by
  refine ⟨fun pins s σ H D I h => wpAny_Try_except (wpAny_mono ((hb (wCl X.K Wo D l) (X.pn ++ pins) _ (fun u y x => ?_) PassesOwn.looking).run [] s σ H D (I.toTry _) h) (fun f y p => ?_) fun _ _ t => t)⟩
  · obtain ⟨a, B, sI, ps, σ', H', cls, d, rfl, J, nb, up, sky, na, os, ag, k⟩ := x
    have sky : Sky B X.stack a (Zc cls d) X.env.locals y.heap := sky
    rw [st] at sky
    exact Sky.land Zc.steady (I.ok.frames.trans (congrArg some st)) fr sky fun h' f u => Down.by hN tk hc (B := B) (sI := sI) ⟨st, fr, J.ofTry I.ok, nb, up.trans u, f, na, os, ag⟩ k
  · cases f with
    | next =>
      obtain ⟨σ', H', J, k⟩ := p
      exact wpAny_execs_nil ⟨σ', H', J.ofTry I.ok, k⟩
    | ret _ =>
      obtain ⟨v, σ', H', J, r, k⟩ := p
      exact ⟨v, σ', H', J.ofTry I.ok, r, k⟩
    | _ =>
      obtain ⟨σ', H', J, k⟩ := p
      exact ⟨σ', H', J.ofTry I.ok, k⟩
end
end TX

set_option maxRecDepth 100000
set_option maxHeartbeats 4000000
/-! TX, part 12c: own exceptions are raised: without a field; with the field name (turned from skel/42). -/
namespace PySem
namespace XcX
open PySem.W PySem.Calls PyProof.Rows PySem.HandSPX
def iA (p1 p2 : Pos) : Arguments := { posonlyargs := [], args := [{ arg := "self", annotation := none, pos := p1 }, { arg := "name", annotation := none, pos := p2 }], vararg := none, kwonlyargs := [], kw_defaults := [], kwarg := none, defaults := [] }
def iB (q1 q2 q3 q4 : Pos) : List Stmt := [.Assign [.Attribute (.Name "self" q1) "name" q2] (.Name "name" q3) q4]
def iS : Scope := { kind := .function, names := [(PySem.Str.ofString "self", .local), (PySem.Str.ofString "name", .local)], isGenerator := false, isCoroutine := false, more := [] }
/-- what the written part says of Xc, at C, and of its __init__, at fI -/
structure XcTxt (K : Frag) (mg : Str → Option Value) (cn qn : Str) (C fI : Addr) : Prop where
  gC : mg cn = some (.ref C)
  cls : ∃ nm q N bs bm sn sub ab col dd k0 k1 k2 k3 k5, K.lookup C = some (excClassObj nm q C N bs bm true sn sub ab col dd k0 k1 k2 k3 k5 "ValueError.__new__") ∧ refsVE bm = true
  sa : findIn K (.ref C) "__setattr__" = some (some (.builtin "object.__setattr__"))
  ga : findIn K (.ref C) "__getattribute__" = some (some (.builtin "BaseException.__getattribute__"))
  gg : findIn K (.ref C) "__getattr__" = some none
  noN : findIn K (.ref C) "name" = some none
  iC : findIn K (.ref C) "__init__" = some (some (.ref fI))
  tC : typeIn K (.ref fI) = some (.type "function")
  kC : keepIn K (.ref C) = true
  exC : subIn K (.ref C) (.type "BaseException") = some true
  tyC : typeIn K (.ref C) = some (.type "type")
  hdC : hasDictIn K C = true
  fn : ∃ (oc : Value) (od : Option Addr) (kV doc pm : Value) (an : Option Addr) (cdv ct : Value) (osl : Array (Option Value)) (p1 p2 q1 q2 q3 q4 : Pos),
    K.lookup fI = some ⟨oc, od, .func (fnOf "__init__" qn (iA p1 p2) (iB q1 q2 q3 q4) iS .none kV doc pm an cdv ct), osl⟩ ∧ codeIn K cdv qn = true
theorem one_size (v : Value) : [v].length ≤ sizeLine := by
  rw [sizeLine_eq]
  exact (by decide : 1 ≤ 16777216)
theorem kept_but {K : Frag} {h h' : Heap} {x : Addr} (X : K.In h) (hx : K.lookup x = none) (k : ∀ b o, b ≠ x → h.get? b = some o → h'.get? b = some o) : K.In h' := fun a o e =>
  k a o (fun z => by rw [z, hx] at e; cases e) (X a o e)
theorem ldC {M : Model} {s : Shared} {name : Str} {scope : Scope} {L a : Addr} {cd : Value} {m : Str → Option Value} {x : Str} {pos : Pos} {v : Value} {Q : Value → Shared → Prop} {A : Around} {E : Value → Shared → Prop} (hn : s.heap.Ns L m) (hv : m x = some v) (h : Q v s)
    (hk : scope.kind = .function := by rfl) (hl : (envOfC name scope L a cd).kindOf x = some .local := by rfl) (hd : (x == ("__debug__" : Str)) = false := by decide) :
    wpAny M A (eval (.Name x pos) (envOfC name scope L a cd)) Q E s := wpAny_Name (wpAny_loadName_local hk hl hn hv h) hd
/-- what __init__ leaves of a fresh exception at x -/
structure InitEnd (h h' : Heap) (x C dx t1 : Addr) (v : Value) : Prop where
  keep : ∀ b o, b ≠ x → h.get? b = some o → h'.get? b = some o
  obj : h'.get? x = some { cls := .ref C, dict := some dx, data := .fields #[.ref t1, .none, .none, .none, .bool false, .none] }
  dbig : h.objs.size ≤ dx
  dne : dx ≠ x
  ns : h'.Ns1 dx (fun y => if y = "name" then some v else none)
/-- a made Xc -/
structure OwnMade (h h' : Heap) (e C d : Addr) (v : Value) : Prop where
  keep : ∀ b o, h.get? b = some o → h'.get? b = some o
  new : h.objs.size ≤ e
  obj : ∃ oe vs, h'.get? e = some oe ∧ oe.cls = .ref C ∧ oe.dict = some d ∧ oe.data = .fields vs ∧ vs[1]? = some .none
  dbig : h.objs.size ≤ d
  dne : d ≠ e
  ns : h'.Ns1 d (fun y => if y = "name" then some v else none)
section
variable {prog : Program} {w : World} {A : Around} {E : Value → Shared → Prop} {R : Result → Shared → Prop} {s : Shared} {K : Frag} {mg : Str → Option Value} {cn qn : Str} {C fI : Addr}
theorem xc_init (T : XcTxt K mg cn qn C fI) {x t0 : Addr} {v : Value} (X : K.In s.heap) (hlim : s.heap.NoLimit) (hx : s.heap.get? x = some (excO C t0)) (hnx : K.lookup x = none) (hroom : A.depth < recursionLimit)
    (hq : ∀ h' tk dx, InitEnd s.heap h' x C dx t0 v → R (.ok (.ret .none)) { s with heap := h', toks := tk }) :
    codeAny (model prog w) A (.call (.ref fI) ⟨[.ref x, v], []⟩) R s := by
  obtain ⟨oc, od, kV, doc, pm, an, cdv, ct, osl, p1, p2, q1, q2, q3, q4, ho, hcd⟩ := T.fn
  obtain ⟨nm, q, N, bs, bm, sn, sub, ab, col, dd, k0, k1, k2, k3, k5, hC, hbm⟩ := T.cls
  have hcl : clsIn K C = some { name := nm, bases := bs, mro := .ref C :: bm, ns := N, qualname := q, hasDict := true, slotNames := sn, subclasses := sub, abstract := ab, collection := col, hasDel := false } := by unfold clsIn; rw [hC] <;> rfl
  refine Att.call_fn (binds := [("self", .ref x), ("name", v)]) X hlim ho hcd hroom (BindsTo.of_eq (by first | rfl | with_unfolding_all rfl)) (by first | rfl | decide | with_unfolding_all rfl) (fun s₁ IC => ?_) rfl rfl rfl
  obtain ⟨h₁, tk₁, rfl⟩ := IC.toInCall.same
  have k : ∀ b o, s.heap.get? b = some o → h₁.get? b = some o := IC.toInCall.keep
  have hn := IC.toInCall.ns
  have hxL : s.heap.objs.size ≠ x := Nat.ne_of_gt (Heap.lt_size hx)
  have X₁ : K.In h₁ := X.keeps k
  have hx₁ := k _ _ hx
  -- self.by = by
  show wpAny _ _ (execs _ _) _ _ _
  refine wpAny_execs_cons (plainObj_wpAny_Assign_Attribute ?_)
  refine ldC (v := v) hn (by first | rfl | with_unfolding_all rfl | kernel_rfl) (ldC (v := .ref x) hn (by first | rfl | with_unfolding_all rfl | kernel_rfl) ?_)
  refine set_plain X₁ (ox := excO C t0) (od := none) ⟨hx₁, rfl, rfl, trivial⟩ T.sa ?_
  refine exc_osa X₁ hx₁ hcl (show refsVE (.ref C :: bm) = true from hbm) rfl T.noN (fun h₃ tk₃ dx k₃ dn dne hx₃ hn₃ => ?_)
  show wpAny _ _ (execs _ _) _ _ _
  have z : s.heap.objs.size < h₁.objs.size := hn.lt
  exact wpAny_execs_nil (hq h₃ tk₃ dx ⟨fun b o hb e => k₃ b o hb (k b o e), hx₃, Nat.le_of_lt (Nat.lt_of_lt_of_le z dn), dne, hn₃⟩)
theorem xc_made (T : XcTxt K mg cn qn C fI) {v : Value} (X : K.In s.heap) (hlim : s.heap.NoLimit) (hroom : A.depth + 1 < recursionLimit)
    (hq : ∀ h' tk e d, OwnMade s.heap h' e C d v → R (.ok (.ret (.ref e))) { s with heap := h', toks := tk }) :
    codeAny (model prog w) A (.call (.ref C) ⟨[v], []⟩) R s := by
  obtain ⟨nm, q, N, bs, bm, sn, sub, ab, col, dd, k0, k1, k2, k3, k5, hC, hbm⟩ := T.cls
  obtain ⟨hp, g, dr, tk, os⟩ := s
  have k : ∀ b o, hp.get? b = some o → ((hp.push (kdv_tup [v])).push (excO C hp.objs.size)).get? b = some o := fun b o e => Heap.get?_push_of_some _ (Heap.get?_push_of_some _ e)
  have hget : ((hp.push (kdv_tup [v])).push (excO C hp.objs.size)).get? (hp.objs.size + 1) = some (excO C hp.objs.size) := by heap_get
  have hnx : K.lookup (hp.objs.size + 1) = none := by
    cases e : K.lookup (hp.objs.size + 1) with
    | none => rfl
    | some o =>
      have z : hp.get? (hp.objs.size + 1) = some o := X _ _ e
      exact absurd (Nat.lt_of_succ_lt (Heap.lt_size z)) (Nat.lt_irrefl _)
  refine call_own F.excBase_ValueError (fun X => refsVE_contains X bm hbm) (X _ _ hC) (looks_findIn X T.iC) (fun self => bind_fn X self T.tC) (one_size v) ?_
  refine xc_init (s := ⟨(hp.push (kdv_tup [v])).push (excO C hp.objs.size), g, dr, tk, os⟩) T (X.keeps k) (hlim.keeps k) hget hnx ?_ fun h' tk' dx ⟨k', hx, dn, dne, hns⟩ => ?_
  · show A.depth + 1 < recursionLimit
    exact hroom
  · have old : ∀ b o, hp.get? b = some o → h'.get? b = some o := fun b o e => k' b o (Nat.ne_of_lt (Nat.lt_succ_of_lt (Heap.lt_size e))) (k b o e)
    have z : hp.objs.size + 1 + 1 ≤ dx := by
      first
        | (simpa only [Heap.size_push] using dn)
        | exact dn
        | (have q := dn; rw [Heap.size_push, Heap.size_push] at q; exact q)
    exact ⟨rfl, hq h' tk' (hp.objs.size + 1) dx ⟨old, Nat.le_succ _, ⟨_, _, hx, rfl, rfl, rfl, rfl⟩, Nat.le_trans (Nat.le_trans (Nat.le_succ _) (Nat.le_succ _)) z, dne, hns⟩⟩
end
end XcX
end PySem
namespace L2
open PySem PySem.Spec PyProof.Rows
theorem relO_xc {v : V} {v' : Value} (r : RelV v v') (f : Str) : RelO (List.lookup f [(("name" : Str), v)]) (if f = "name" then some v' else none) := by
  by_cases hw : f = "name"
  · subst hw
    rw [if_pos rfl]
    have q : List.lookup ("name" : Str) [(("name" : Str), v)] = some v := by simp [List.lookup]
    rw [q]
    exact r
  · rw [if_neg hw]
    have qw : (f == ("name" : Str)) = false := by simpa using hw
    have q2 : List.lookup f [(("name" : Str), v)] = none := by simp [List.lookup, qw]
    rw [q2]
    trivial
section
variable {X : Cx} {cn qn : Str} {C fI : Addr}
/-- Xc(e) -/
def tMkXc (C : Addr) (ta : TA) : St → Hp → XK → Prop := fun σ H Q => ta σ H fun vs H1 => ∃ v, vs = [v] ∧ ∀ d, H1 d = none → Q (.ref C) (some d) (upd H1 d (.xd [(("name" : Str), v)]))
theorem pmk_xc {a : Expr} {ta : TA} {p pos : Pos} {k : Nat} (T : PySem.XcX.XcTxt X.K X.mg cn qn C fI) (hr : Room k X.A) (ha : PA X [a] ta) (hg : Gl X cn) (hdb : (cn == ("__debug__" : Str)) = false)
    (he : starEach (a :: []) X.env = (false, eval a X.env) :: starEach [] X.env := by rfl) (hpl : (backTo pos (starEach [] X.env)).any (·.1) = false := by rfl) :
    PMk X (.Call (.Name cn p) [a] [] pos) (tMkXc C ta) := by
  intro pins s σ H Q I h
  refine wpAny_Call_Name_kw (ld_glob I hg T.gC ?_ hdb)
  refine PySem.W.callWith_K (h₀ := X.base) I.ok.mod.kin T.kC (thn (ha.run pos pins s σ H _ I h) fun us s1 hh => ?_) he hpl
  obtain ⟨vs, H1, I1, r1, v, ev, q1⟩ := hh
  subst ev
  refine ⟨I1.kIn, ?_⟩
  cases r1 with
  | cons rv rn =>
    rename_i v' us'
    cases rn
    show wpAny _ _ (call (.ref C) [v']) _ _ _
    have hlim := I1.nolimit
    obtain ⟨hp, g, dr, tk, os⟩ := s1
    refine wpAny_call (PySem.XcX.xc_made T I1.kIn hlim (by have := hr.dp; omega) fun h' tk' e d M => ?_)
    show MkP X pins σ Q (.ref e) ⟨h', g, dr, tk', os⟩
    obtain ⟨oe, fv, hoe, hc, hd, hdat, h1⟩ := M.obj
    have hns := M.ns
    obtain ⟨G', g1, g2⟩ := restrict h' fun b => decide (b ≠ e)
    have gk : ∀ b, b ≠ e → G'.get? b = h'.get? b := fun b hb => g1 b (decide_eq_true hb)
    have ge : G'.get? e = none := g2 e (by simp)
    have old : ∀ b o, hp.get? b = some o → G'.get? b = some o := fun b o q => (gk b (Nat.ne_of_lt (Nat.lt_of_lt_of_le (Heap.lt_size q) M.new))).trans (M.keep b o q)
    have ob : ObjOk X.prog X.w (upd H1 d (.xd [(("name" : Str), v)])) G' d (.xd [(("name" : Str), v)]) :=
      ⟨_, hns.at (fun o q => (gk d M.dne).trans q), fun f => relO_xc rv f⟩
    have J : Inv X pins σ (upd H1 d (.xd [(("name" : Str), v)])) ⟨G', g, dr, tk', os⟩ := I1.laid (t' := tk') old M.dbig ob
    refine ⟨e, oe, fv, ⟨G', g, dr, tk', os⟩, _, .ref C, some d, rfl, J, fun b o q => ?_, ge, hoe, ⟨hc, hd⟩, hdat, h1, ?_, rfl, I1.bare, raises_own T.exC T.tyC, q1 d (I1.hok.fresh M.dbig)⟩
    · by_cases hb : b = e
      · have q' : G'.get? b = some o := q
        rw [hb, ge] at q'; cases q'
      · exact (gk b hb).symm.trans q
    · rw [upd_ne (Ne.symm M.dne)]
      exact I1.hok.fresh M.new
end
end L2

set_option maxRecDepth 100000
set_option maxHeartbeats 4000000
/-! TX, part 12d: raise, try. -/
namespace TX
open PySem PySem.Spec PyProof.Rows L2 He

def vOf : D → V
  | .bl b => .bl b
  | .int i => .int i
  | .str s => .str s
  | _ => .non
theorem rp_vOf {K : PySem.W.Frag} {w : Wd} {d : D} (h : cstD d = true) : Rp K w (vOf d) d := by
  cases d <;> first | (cases h; done) | skip
  · exact .non
  · exact .bl _
  · exact .int _
  · exact .str _ (of_decide_eq_true h)
def hiT (C a : Addr) (cls : Value) (d : Option Addr) (i : Nat) : HI → TE
  | .cst x => tC (vOf x)
  | .exn => tXf a cls d C (Str.ofString "name") (tVar i)
def hisT (C a : Addr) (cls : Value) (d : Option Addr) (i : Nat) : List HI → TA
  | [] => tNil
  | h :: r => tCons (hiT C a cls d i h) (hisT C a cls d i r)
def hrT (h : Str) (C : Addr) (i : Nat) (r : HR) (a : Addr) (cls : Value) (d : Option Addr) : TS := match r with
  | .one h => tRet (hiT C a cls d i h)
  | .tup hs => tRet (tTup (hisT C a cls d i hs))
  | .asg j x => tAsg (tC (vOf x)) (gName j)
  | .isi A B r1 r2 => fun D σ H => cls = .ref C ∧ d = none ∧ σ[i]? = some (some (.ref a)) ∧ tRet (tTup (hisT C a cls d i (if isSub h A && !isSub h B then r1 else r2))) D σ H
def mkCl (K : PySem.W.Frag) (q : Hd) : Cl := ⟨.ref (ga K q.h), q.i, hrT q.h (ga K q.h) (q.i.getD 0) q.r⟩
section
variable {K : PySem.W.Frag} {G : Gu} {w : Wd} {ρ : Env} {S : Sto} {σ : L2.St} {H : Hp} {Wi : WX} {D : Ends} {cls : Value} {d : Option Addr} {c : Str} {x : Option TX.D}
theorem Rel.hide (R : Rel K G w ρ S σ H) (i : Nat) (v : Option V) : Rel K G w (ρ.set i .und) S (σ.set i v) H := by
  refine R.slots (by rw [List.length_set, List.length_set]; exact R.len) fun j c h => ?_
  by_cases e : i = j
  · subst e
    by_cases hi : i < ρ.length
    · rw [List.getElem?_set_self hi] at h
      cases h
      trivial
    · rw [List.getElem?_eq_none (by rw [List.length_set]; omega)] at h
      cases h
  · rw [List.getElem?_set_ne e] at h ⊢
    exact R.slot j c h
theorem hi_go {C a : Addr} {i : Nat} {y : Option TX.D} {q : HI} {z : TX.D} {Q : VK} (R : Rel K G w ρ S σ H) (hs : q = .exn → σ[i]? = some (some (.ref a)) ∧ cls = .ref C ∧ ∀ u, y = some u → ∃ dd v, d = some dd ∧ w.F dd = some (.xd [(Str.ofString "name", v)]) ∧ Rp K w v u) (e : hiD y q = some z) (k : ∀ v, Rp K w v z → Q v H) : hiT C a cls d i q σ H Q := by
  cases q with
  | cst x =>
    have e : (if cstD x then some x else none) = some z := e
    by_cases cx : cstD x = true
    · rw [if_pos cx] at e
      cases e
      exact k _ (rp_vOf cx)
    · rw [if_neg cx] at e
      cases e
  | exn =>
    obtain ⟨h1, h2, h3⟩ := hs rfl
    obtain ⟨dd, v, h4, h5, h6⟩ := h3 z e
    refine ⟨_, h1, rfl, h2, dd, _, v, h4, R.same _ _ h5, ?_, k v h6⟩
    simp [List.lookup]
theorem his_go {C a : Addr} {i : Nat} {y : Option TX.D} (R : Rel K G w ρ S σ H) : ∀ {qs : List HI} {zs : List TX.D} {Q : List V → Hp → Prop}, ((∃ q ∈ qs, q = .exn) → σ[i]? = some (some (.ref a)) ∧ cls = .ref C ∧ ∀ u, y = some u → ∃ dd v, d = some dd ∧ w.F dd = some (.xd [(Str.ofString "name", v)]) ∧ Rp K w v u) →
    hiDs y qs = some zs → (∀ vs, RpAll K w vs zs → Q vs H) → hisT C a cls d i qs σ H Q
  | [], zs, Q, _, e, k => by
    cases e
    exact k [] .nil
  | q :: qs, zs, Q, hs, e, k => by
    have e : ((hiD y q).bind fun d => (hiDs y qs).map fun ds => d :: ds) = some zs := e
    cases e1 : hiD y q with
    | none =>
      rw [e1] at e
      cases e
    | some z =>
      rw [e1, Option.bind_some] at e
      cases e2 : hiDs y qs with
      | none =>
        rw [e2] at e
        cases e
      | some r =>
        rw [e2] at e
        cases e
        refine hi_go R (fun n => hs ⟨q, List.mem_cons_self, n⟩) e1 fun v hv => ?_
        refine his_go R (fun ⟨p, m, n⟩ => hs ⟨p, List.mem_cons_of_mem _ m, n⟩) e2 fun vs hvs => ?_
        exact k _ (.cons hv hvs)
/-- is the exception's own field asked for? -/
def asks : HR → Bool
  | .one .exn => true
  | .tup hs => hs.any fun h => match h with
    | .exn => true
    | _ => false
  | .isi _ _ _ _ => true
  | _ => false
theorem hrD_ret (c : Str) (e : Bool) (y : Option TX.D) (ρ : Env) (S : Sto) (r : HR) : hrD true c e y ρ S r = .stk ∨ ∃ v, hrD true c e y ρ S r = .ret v S := by
  cases r with
  | one h =>
    show (match hiD y h with
      | some d => Out.ret d S
      | none => .stk) = _ ∨ ∃ v, (match hiD y h with
      | some d => Out.ret d S
      | none => .stk) = _
    cases hiD y h with
    | none => exact .inl rfl
    | some v => exact .inr ⟨v, rfl⟩
  | tup hs =>
    show (match hiDs y hs with
      | some ds => if ds.length ≤ sizeLine then Out.ret (.tup ds) S else .stk
      | none => .stk) = _ ∨ ∃ v, (match hiDs y hs with
      | some ds => if ds.length ≤ sizeLine then Out.ret (.tup ds) S else .stk
      | none => .stk) = _
    cases hiDs y hs with
    | none => exact .inl rfl
    | some zs =>
      by_cases c : zs.length ≤ sizeLine
      · exact .inr ⟨_, if_pos c⟩
      · exact .inl (if_neg c)
  | asg j z => exact .inl (if_neg fun t => Bool.false_ne_true t.2.1.symm)
  | isi A B r1 r2 =>
    by_cases k : true = true ∧ e = true ∧ y.isNone = true
    · have u : hrD true c e y ρ S (.isi A B r1 r2) = (match hiDs none (if isSub c A && !isSub c B then r1 else r2) with
        | some ds => if ds.length ≤ sizeLine then Out.ret (.tup ds) S else .stk
        | none => .stk) := if_pos k
      rw [u]
      cases hiDs none (if isSub c A && !isSub c B then r1 else r2) with
      | none => exact .inl rfl
      | some zs =>
        by_cases c : zs.length ≤ sizeLine
        · exact .inr ⟨_, if_pos c⟩
        · exact .inl (if_neg c)
    · exact .inl (if_neg k)
/-- the clauses, of the run and of the model -/
theorem handle_ok {l : List Hd} (R : Rel K G w ρ S σ H) (E : ExcR K w cls d c x) (hx : ∀ q ∈ l, ∀ c, mem c q.ks = true → PySem.W.exmOne K (.ref (ga K c)) (.ref (ga K q.h)) = some (isSub c q.h)) (hq : ∀ q ∈ l, asks q.r = true → q.i ≠ none)
    (P : OPost K G Wi w D (handle c x ρ S l)) : wCl K Wi D (l.map (mkCl K)) cls d σ H := by
  induction l with
  | nil => exact P w σ H cls d (Wle.refl _) R E
  | cons q l ih =>
    have P : OPost K G Wi w D (if q.ks.any (fun y => decide (y = c)) then (if isSub c q.h then (match q.i with
      | none => hrD false c (decide (c = q.h)) (if c = q.h then x else none) ρ S q.r
      | some i => if i < ρ.length then hrD true c (decide (c = q.h)) (if c = q.h then x else none) (ρ.set i .und) S q.r else .stk) else handle c x ρ S l) else .stk) := P
    by_cases ck : q.ks.any (fun y => decide (y = c)) = true
    · rw [if_pos ck] at P
      have ex := hx q List.mem_cons_self c ck
      obtain ⟨ec, E2⟩ := id E
      refine ⟨isSub c q.h, by rw [ec]; exact ex, fun hb a ha => ?_, fun hb => ?_⟩
      · rw [if_pos hb] at P
        have key : ∀ (ρ1 : Env) (σ1 : L2.St) (D1 : Ends), Rel K G w ρ1 S σ1 H → OPost K G Wi w D1 (hrD q.i.isSome c (decide (c = q.h)) (if c = q.h then x else none) ρ1 S q.r) → (asks q.r = true → σ1[q.i.getD 0]? = some (some (.ref a))) → hrT q.h (ga K q.h) (q.i.getD 0) q.r a cls d D1 σ1 H := fun ρ1 σ1 D1 R1 P1 ask => by
          have fld : asks q.r = true → σ1[q.i.getD 0]? = some (some (.ref a)) ∧ ∀ u, (if c = q.h then x else none) = some u → cls = .ref (ga K q.h) ∧ ∃ dd v, d = some dd ∧ w.F dd = some (.xd [(Str.ofString "name", v)]) ∧ Rp K w v u := fun n => ⟨ask n, fun u hu => by
            by_cases cc : c = q.h
            · rw [if_pos cc] at hu
              subst hu
              exact ⟨by rw [ec, cc], E2⟩
            · rw [if_neg cc] at hu
              cases hu⟩
          generalize hy : (if c = q.h then x else none) = y at P1 fld
          generalize hq0 : decide (c = q.h) = eq at P1
          cases hr : q.r with
          | one h =>
            rw [hr] at P1 fld
            have P1 : OPost K G Wi w D1 (match hiD y h with
              | some d => .ret d S
              | none => .stk) := P1
            cases e : hiD y h with
            | none =>
              rw [e] at P1
              exact P1.elim
            | some z =>
              rw [e] at P1
              refine hi_go (y := y) R1 (fun n => ?_) e fun v hv => P1 w H v (Wle.refl _) R1.noSlots hv
              subst n
              obtain ⟨f1, f2⟩ := fld rfl
              have e : y = some z := e
              exact ⟨f1, (f2 z e).1, fun u hu => (f2 u hu).2⟩
          | tup hs =>
            rw [hr] at P1 fld
            have P1 : OPost K G Wi w D1 (match hiDs y hs with
              | some ds => if ds.length ≤ sizeLine then .ret (.tup ds) S else .stk
              | none => .stk) := P1
            cases e : hiDs y hs with
            | none =>
              rw [e] at P1
              exact P1.elim
            | some zs =>
              rw [e] at P1
              by_cases hl : zs.length ≤ sizeLine
              · have P1 : OPost K G Wi w D1 (if zs.length ≤ sizeLine then .ret (.tup zs) S else .stk) := P1
                rw [if_pos hl] at P1
                refine his_go (y := y) R1 (fun ⟨p, m, n⟩ => ?_) e fun vs hvs => ⟨by rw [hvs.length]; exact hl, fun b hb => ?_⟩
                · subst n
                  have an : asks (.tup hs) = true := List.any_eq_true.mpr ⟨_, m, rfl⟩
                  obtain ⟨f1, f2⟩ := fld an
                  have ys : ∃ u, y = some u := by
                    cases y with
                    | some u => exact ⟨u, rfl⟩
                    | none =>
                      exfalso
                      have : ∀ {hs : List HI} {zs : List TX.D}, HI.exn ∈ hs → hiDs none hs = some zs → False := by
                        intro hs
                        induction hs with
                        | nil => exact fun m _ => nomatch m
                        | cons g r ihh =>
                          intro zs m e
                          have e : ((hiD none g).bind fun d => (hiDs none r).map fun ds => d :: ds) = some zs := e
                          rcases List.mem_cons.mp m with h | h
                          · subst h
                            cases e
                          · cases e1 : hiD none g with
                            | none =>
                              rw [e1] at e
                              cases e
                            | some z =>
                              rw [e1, Option.bind_some] at e
                              cases e2 : hiDs none r with
                              | none =>
                                rw [e2] at e
                                cases e
                              | some zr => exact ihh h e2
                      exact this m e
                  obtain ⟨u, hu⟩ := ys
                  exact ⟨f1, (f2 u hu).1, fun u hu => (f2 u hu).2⟩
                · exact P1 (w.put b (.tup vs)) _ _ (Wle.put (R1.F_none hb)) (R1.born hb).noSlots (.tup upd_same (by rw [hvs.length]; exact hl) (hvs.mono (Wle.put (R1.F_none hb))))
              · have P1 : OPost K G Wi w D1 (if zs.length ≤ sizeLine then .ret (.tup zs) S else .stk) := P1
                rw [if_neg hl] at P1
                exact P1.elim
          | asg j z =>
            rw [hr] at P1
            have P1 : OPost K G Wi w D1 (if j < ρ1.length ∧ q.i.isSome = false ∧ cstD z = true then .nx (ρ1.set j (.val z)) S else .stk) := P1
            by_cases cj : j < ρ1.length ∧ q.i.isSome = false ∧ cstD z = true
            · rw [if_pos cj] at P1
              exact P1 w _ H (Wle.refl _) (R1.val (rp_vOf cj.2.2))
            · rw [if_neg cj] at P1
              exact P1.elim
          | isi A B r1 r2 =>
            rw [hr] at P1 fld
            have P1 : OPost K G Wi w D1 (if q.i.isSome = true ∧ eq = true ∧ y.isNone = true then (match hiDs none (if isSub c A && !isSub c B then r1 else r2) with
              | some ds => if ds.length ≤ sizeLine then .ret (.tup ds) S else .stk
              | none => .stk) else .stk) := P1
            by_cases cj : q.i.isSome = true ∧ eq = true ∧ y.isNone = true
            · rw [if_pos cj] at P1
              have ch : c = q.h := of_decide_eq_true (hq0.trans cj.2.1)
              have xn : x = none := by
                rw [if_pos ch] at hy
                rw [hy]
                exact Option.isNone_iff_eq_none.mp cj.2.2
              have dn : d = none := by
                rw [xn] at E2
                exact E2
              rw [ch] at P1 ec
              refine ⟨ec, dn, (fld rfl).1, ?_⟩
              cases e : hiDs none (if isSub q.h A && !isSub q.h B then r1 else r2) with
              | none =>
                rw [e] at P1
                exact P1.elim
              | some zs =>
                rw [e] at P1
                have P1 : OPost K G Wi w D1 (if zs.length ≤ sizeLine then .ret (.tup zs) S else .stk) := P1
                by_cases hl : zs.length ≤ sizeLine
                · rw [if_pos hl] at P1
                  refine his_go (y := none) R1 (fun _ => ⟨(fld rfl).1, ec, fun u hu => nomatch hu⟩) e fun vs hvs => ⟨by rw [hvs.length]; exact hl, fun b hb => ?_⟩
                  exact P1 (w.put b (.tup vs)) _ _ (Wle.put (R1.F_none hb)) (R1.born hb).noSlots (.tup upd_same (by rw [hvs.length]; exact hl) (hvs.mono (Wle.put (R1.F_none hb))))
                · rw [if_neg hl] at P1
                  exact P1.elim
            · rw [if_neg cj] at P1
              exact P1.elim
        show (mkCl K q).go a cls d D σ H
        cases qi : q.i with
        | none =>
          unfold Cl.go mkCl
          simp only [qi]
          rw [qi] at P key
          exact key ρ σ D R P fun n => absurd qi (hq q List.mem_cons_self n)
        | some i =>
          unfold Cl.go mkCl
          simp only [qi]
          rw [qi] at P key
          have P : OPost K G Wi w D (if i < ρ.length then hrD true c (decide (c = q.h)) (if c = q.h then x else none) (ρ.set i .und) S q.r else .stk) := P
          by_cases hl : i < ρ.length
          case neg =>
            rw [if_neg hl] at P
            exact P.elim
          rw [if_pos hl] at P
          rw [R.len] at hl
          refine key (ρ.set i .und) _ _ (R.hide i _) ?_ fun _ => List.getElem?_set_self hl
          show OPost K G Wi w (endsUn D i) (hrD true c (decide (c = q.h)) (if c = q.h then x else none) (ρ.set i .und) S q.r)
          rcases hrD_ret c (decide (c = q.h)) (if c = q.h then x else none) (ρ.set i .und) S q.r with e | ⟨v, e⟩
          · rw [e] at P
            exact P.elim
          · rw [e] at P ⊢
            exact P
      · rw [if_neg (by rw [hb]; exact Bool.false_ne_true)] at P
        exact ih (fun q hq' => hx q (List.mem_cons_of_mem _ hq')) (fun q hq' => hq q (List.mem_cons_of_mem _ hq')) P
    · rw [if_neg ck] at P
      exact P.elim
end
/-- what is known of an exception's class -/
structure XcOk (K : PySem.W.Frag) (mg : Str → Option Value) (c : Str) (own : Bool) : Prop where
  g : mg c = some (.ref (ga K c))
  raw : own = false → PySem.W.excIn K (ga K c) He.veBase "ValueError.__new__" = true ∧ PySem.W.keepIn K (.ref (ga K c)) = true ∧ PySem.W.subIn K (.ref (ga K c)) (.type "BaseException") = some true ∧ PySem.W.typeIn K (.ref (ga K c)) = some (.type "type")
  own : own = true → ∃ qn fI, PySem.XcX.XcTxt K mg c qn (ga K c) fI
section
variable {X : Cx} {Ω : Orc} {Wi : WX}
theorem b_raise0 {x m : Str} {j : Nat} {p p2 q pos : Pos} (hc : X.calm = true) (tk : Takes X Wi) (F : XcOk X.K X.mg x false) (hg : Gl X x) (hdb : (x == ("__debug__" : Str)) = false) :
    PS X (.Raise (some (.Call (.Name x p) [.Constant (.str m) j p2] [] q)) none pos) (rdS X.K Ω Wi (.raise x none)) := by
  obtain ⟨f1, f2, f3, f4⟩ := F.raw rfl
  exact PS.imp (ps_raise hc tk (pmk_own PySem.F.excBase_ValueError f1 F.g f2 (raises_own f3 f4) hg hdb)) fun D σ H ⟨G, w, ρ, S, R, P⟩ => P w σ H _ _ (Wle.refl _) R ⟨rfl, rfl⟩
theorem b_raise1 {x : Str} {a : Expr} {t : Tm} {k : Nat} {p q pos : Pos} (hc : X.calm = true) (tk : Takes X Wi) (hr : Room k X.A) (F : XcOk X.K X.mg x true) (hg : Gl X x) (hdb : (x == ("__debug__" : Str)) = false) (ha : PE X a (rd X.K Ω Wi (rE X.K) t)) (hp : plainA a = true) :
    PS X (.Raise (some (.Call (.Name x p) [a] [] q)) none pos) (rdS X.K Ω Wi (.raise x (some t))) := by
  obtain ⟨qn, fI, T⟩ := F.own rfl
  refine PS.imp (ps_raise hc tk (pmk_xc T hr (pa_cons ha pa_nil (star_plain hp)) hg hdb (star_plain hp))) fun D σ H ⟨G, w, ρ, S, R, P⟩ => ?_
  refine ⟨G, w, ρ, S, R, (OPost.run (σ := σ) P).imp fun d S1 w1 H1 e1 R1 P1 v hv => ⟨v, rfl, fun dd hd => ?_⟩⟩
  exact P1 (w1.put dd (.xd [(Str.ofString "name", v)])) σ _ _ _ (Wle.put (R1.F_none hd)) (R1.born hd) ⟨rfl, dd, v, rfl, upd_same, hv.mono (Wle.put (R1.F_none hd))⟩
theorem b_try {body : List Stmt} {h0 : ExceptHandler} {hs : List ExceptHandler} {l : List Hd} {b : St} {pos : Pos} (hN : X.N.Nodup) (st : X.stack = X.env :: X.outer) (fr : X.env.frame = some X.env.locals) (tk : Takes X Wi)
    (hb : ∀ (W : WX) (pn : List (Addr × Obj)) (xe : Value → Shared → Prop), Takes (X.tr pn xe) W → PassesOwn (model X.prog X.w) X.A X.env xe → PSs (X.tr pn xe) body (rdS X.K Ω W b)) (hc : ClOk X (h0 :: hs) (l.map (mkCl X.K)))
    (hx : ∀ q ∈ l, ∀ c, mem c q.ks = true → PySem.W.exmOne X.K (.ref (ga X.K c)) (.ref (ga X.K q.h)) = some (isSub c q.h)) (hq : ∀ q ∈ l, asks q.r = true → q.i ≠ none) : PS X (.Try body (h0 :: hs) [] [] pos) (rdS X.K Ω Wi (.tryc b l)) := by
  refine PS.imp (ps_tryC (tb := fun W => rdS X.K Ω W b) hN st fr tk hb hc) fun D σ H ⟨G, w, ρ, S, R, P⟩ => ⟨G, w, ρ, S, R, ?_⟩
  have P : OPost X.K G Wi w D (match ex Ω b ρ S with
    | .exc c x ρ' S' => handle c x ρ' S' l
    | o => o) := P
  revert P
  cases ex Ω b ρ S with
  | exc c x ρ2 S2 => exact fun P w2 σ2 H2 cls d e2 R2 E => handle_ok R2 E hx hq (OPost.mono e2 P)
  | stk => exact fun P => P
  | nx ρ2 S2 => exact fun P => P
  | brk ρ2 S2 => exact fun P => P
  | cnt ρ2 S2 => exact fun P => P
  | ret v S2 => exact fun P => P
end
end TX

set_option maxRecDepth 100000
set_option maxHeartbeats 4000000
/-! TX, part 12: what the compiler gives holds. -/
namespace TX
open PySem PySem.Spec PyProof.Rows L2 He

/-- a def that may be called by its name -/
def FnF (P : Program) (w : World) (K : PySem.W.Frag) (mg : Str → Option Value) (base : Heap) (Ω : Orc) (n : Nat) (x : Str) : Prop :=
  ∃ f fd ps, FnG P w K mg base n f fd ps (spOf K Ω (.fn x)) ∧ mg x = some (.ref f) ∧ PySem.W.keepIn K (.ref f) = true ∧ Binds K fd ps []
structure Gd (X : Cx) (g : Cfg) (Ω : Orc) (n : Nat) (p : Pos') (Wi : WX) : Prop where
  calm : X.calm = true
  nd : X.N.Nodup
  N : X.N = p.N
  sc : X.env.scope = p.sc
  kind : X.env.scope.kind = .function
  tk : Takes X Wi
  room : Room n X.A
  gds : X.A.guards = some []
  st : ∀ x, isLoc (p.stn.lookup x) = true → Loc X.env.scope x ∧ (X.fn x = true ∨ X.env.scope.names.lookup x = some .local)
  fns : ∀ x, mem x g.fns = true → FnF X.prog X.w X.K X.mg X.base Ω n x
  mets : ∀ c m, MetF X.prog X.w X.K X.mg X.base Ω n c m
  clss : ∀ c, mem c g.clss = true → MkF X.prog X.w X.K X.mg X.base Ω n c
  free : ∀ x, mem x g.free = true → X.mg x = none
  cst : ∀ x d, g.cst.lookup x = some d → ∃ v u, X.mg x = some u ∧ RelV v u ∧ ∀ w, Rp X.K w v d
section
variable {X : Cx} {g : Cfg} {Ω : Orc} {n : Nat} {p : Pos'} {Wi : WX}
theorem ix_of : ∀ {N : List Str} {x : Str} {i : Nat}, ixOf N x = some i → N[i]? = some x
  | [], _, _, h => by cases h
  | y :: r, x, i, h => by
    have h : (if y = x then some 0 else (ixOf r x).map (· + 1)) = some i := h
    by_cases c : y = x
    · rw [if_pos c] at h
      cases h
      rw [c]
      rfl
    · rw [if_neg c] at h
      cases q : ixOf r x with
      | none =>
        rw [q] at h
        cases h
      | some j =>
        rw [q] at h
        cases h
        show r[j]? = _
        exact ix_of q
theorem okNm_d {x : Str} (h : okNm x = true) : (x == ("__debug__" : Str)) = false ∧ (x == ("__classdict__" : Str)) = false ∧ (x == ("__name__" : Str)) = false := by
  unfold okNm at h
  simp only [Bool.and_eq_true, Bool.not_eq_true'] at h
  exact ⟨h.1.1, h.1.2, h.2⟩
theorem Gd.var (A : Gd X g Ω n p Wi) {x : Str} {i : Nat} {pos : Pos} (h : slotOf p x = some i) : PE X (.Name x pos) (tVar i) := by
  unfold slotOf at h
  split at h
  · rename_i c
    rw [Bool.and_eq_true] at c
    have hN : X.N[i]? = some x := by
      rw [A.N]
      exact ix_of h
    have hv : Vis X.env.scope x := by
      rw [A.sc]
      have c1 := c.1
      unfold isVis at c1
      unfold Vis
      split at c1 <;> first | (rename_i e; first | exact .inl e | exact .inr (.inl e) | exact .inr (.inr e)) | cases c1
    exact pe_var hN hv (okNm_d c.2).1 (okNm_d c.2).2.1
  · cases h
theorem Gd.gl (A : Gd X g Ω n p Wi) {x : Str} (h : gl p x = true) : Gl X x ∧ (x == ("__debug__" : Str)) = false := by
  unfold TX.gl at h
  rw [Bool.and_eq_true] at h
  refine ⟨?_, (okNm_d h.2).1⟩
  show X.env.scope.names.lookup x = _
  rw [A.sc]
  have c1 := h.1
  unfold isGl at c1
  split at c1 <;> first | assumption | cases c1
theorem Gd.store (A : Gd X g Ω n p Wi) {x : Str} {i : Nat} (h : stOf p x = some i) : X.N[i]? = some x ∧ Loc X.env.scope x ∧ (X.fn x = true ∨ X.env.scope.names.lookup x = some .local) := by
  unfold stOf at h
  split at h
  · rename_i c
    rw [Bool.and_eq_true] at c
    exact ⟨by rw [A.N]; exact ix_of h, A.st x c.1⟩
  · cases h
/-! ### targets -/
theorem tgs_len : ∀ {t : Tg} {k : Nat} {es : List Expr}, cTgs p k es = some t → ∀ (ds : List D) (ρ ρ' : Env), bindL t ds ρ = some ρ' → ds.length = es.length
  | t, 0, es, h => by cases h
  | t, k + 1, [], h => fun ds ρ ρ' q => by
    simp only [cTgs] at h
    cases h
    cases ds with
    | nil => rfl
    | cons _ _ => cases q
  | t, k + 1, e :: r, h => fun ds ρ ρ' q => by
    simp only [cTgs, Option.bind_eq_some_iff, Option.map_eq_some_iff] at h
    obtain ⟨a, h1, b, h2, rfl⟩ := h
    cases ds with
    | nil => cases q
    | cons d ds =>
      have q : ((bindT a d ρ).bind fun ρ' => bindL b ds ρ') = some ρ' := q
      rw [Option.bind_eq_some_iff] at q
      obtain ⟨ρ1, q1, q2⟩ := q
      rw [List.length_cons, List.length_cons, tgs_len h2 ds ρ1 ρ' q2]
theorem tg_plain : ∀ {t : Tg} {k : Nat} {e : Expr}, cTg p k e = some t → plainA e = true
  | t, 0, e, h => by cases h
  | t, k + 1, e, h => by
    cases e <;> first | rfl | cases h
mutual
theorem tg_ok (A : Gd X g Ω n p Wi) : ∀ {k : Nat} {e : Expr} {t : Tg}, cTg p k e = some t → PG X e (rdG X.K t)
  | 0, e, t, h => by cases h
  | k + 1, e, t, h => by
    cases e with
    | Name x q =>
      simp only [cTg, Option.map_eq_some_iff] at h
      obtain ⟨i, h1, rfl⟩ := h
      obtain ⟨a, b, c⟩ := A.store h1
      exact g_nm (pg_name A.nd a b c)
    | Tuple es m q =>
      simp only [cTg, Option.map_eq_some_iff] at h
      obtain ⟨i, h1, rfl⟩ := h
      obtain ⟨a, b⟩ := tgs_ok A h1
      exact g_tp A.calm a b (tgs_len h1)
    | _ => cases h
theorem tgs_ok (A : Gd X g Ω n p Wi) : ∀ {k : Nat} {es : List Expr} {t : Tg}, cTgs p k es = some t → PGs X es (rdGs X.K t) ∧ es.all plainA = true
  | 0, es, t, h => by cases h
  | k + 1, [], t, h => by
    simp only [cTgs] at h
    cases h
    exact ⟨g_nil, rfl⟩
  | k + 1, e :: r, t, h => by
    simp only [cTgs, Option.bind_eq_some_iff, Option.map_eq_some_iff] at h
    obtain ⟨a, h1, b, h2, rfl⟩ := h
    obtain ⟨h3, h4⟩ := tgs_ok A h2
    refine ⟨g_cons (tg_ok A h1) h3 (tg_plain h1), ?_⟩
    rw [List.all_cons, tg_plain h1, h4]
    rfl
end
/-! ### into a block -/
theorem takesF : Takes X WF := fun _ _ x => by
  obtain ⟨_, _, _, _, _, _, _, _, _, _, _, _, _, _, _, _, z⟩ := x
  exact z.elim
theorem rel_look {sc : Scope} {x : Str} {k : NameKind} : ∀ {names : List (Str × NameKind)}, names.lookup x = some k → k ≠ .free →
    (names.map fun (n, k) => if (k == .free && sc.kind == .function && sc.names.lookup n == some .cell) then (n, .cell) else (n, k)).lookup x = some k
  | [], h, _ => by cases h
  | (y, j) :: r, h, hn => by
    rw [List.lookup_cons] at h
    rw [List.map_cons]
    have e : (if (j == NameKind.free && sc.kind == .function && sc.names.lookup y == some .cell) = true then (y, NameKind.cell) else (y, j)).1 = y := by split <;> rfl
    by_cases c : (x == y) = true
    · rw [c] at h
      cases h
      have hj : (k == NameKind.free) = false := by
        cases k <;> first | rfl | exact absurd rfl hn
      show List.lookup x ((if (k == NameKind.free && sc.kind == .function && sc.names.lookup y == some .cell) = true then (y, NameKind.cell) else (y, k)) :: _) = _
      rw [hj]
      show List.lookup x ((y, k) :: _) = _
      rw [List.lookup_cons, c]
    · have c : (x == y) = false := by
        cases q : x == y with
        | true => exact absurd q c
        | false => rfl
      rw [c] at h
      have ih := rel_look (sc := sc) h hn
      show List.lookup x ((if (j == NameKind.free && sc.kind == .function && sc.names.lookup y == some .cell) = true then (y, NameKind.cell) else (y, j)) :: _) = _
      split
      · rw [List.lookup_cons, c]
        exact ih
      · rw [List.lookup_cons, c]
        exact ih
theorem Gd.blk (A : Gd X g Ω n p Wi) {scope : Scope} {own : List (Str × Nat)} (ok : BlkOk X.N X.env.scope scope own) (s : Shared) (H : Hp) (C : Addr) (cl : List (Str × Addr)) (fp : List Addr) :
    Gd (X.blk s H scope (compEnvC scope cl C X.env) fp) g Ω n ⟨p.N, L2.relS scope p.sc, scope.names⟩ WF where
  calm := A.calm
  nd := A.nd
  N := A.N
  sc := by
    show relabel scope X.env = L2.relS scope p.sc
    rw [← A.sc]
    rfl
  kind := ok.kind
  tk := takesF
  room := A.room
  gds := A.gds
  st := fun x h => by
    have h : isLoc (scope.names.lookup x) = true := h
    unfold isLoc at h
    split at h
    · rename_i e
      have e2 : (relabel scope X.env).names.lookup x = some .local := rel_look e (fun z => nomatch z)
      exact ⟨.inl e2, .inr e2⟩
    · rename_i e
      have e2 : (relabel scope X.env).names.lookup x = some .cell := rel_look e (fun z => nomatch z)
      refine ⟨.inr e2, .inl ?_⟩
      show (scope.names.lookup x == some .cell) = true
      rw [e]
      rfl
    · cases h
  fns := A.fns
  mets := A.mets
  clss := A.clss
  free := A.free
  cst := A.cst
theorem blkB_ok (A : Gd X g Ω n p Wi) {scope : Scope} (h : blkB p.N p.sc scope = true) : BlkOk X.N X.env.scope scope (ownNames p.N scope.names) := by
  rw [A.N, A.sc]
  exact blkOk_by h
/-! ### the statement, by the fuel -/
/-- the parts of a comprehension -/
def LcOk (X : Cx) (Ω : Orc) (Wi : WX) (el tg it : Expr) (ifs : List Expr) (scope : Scope) (t : Tm) : Prop :=
  ∃ (own : List (Str × Nat)) (tg' : Tg) (i' c' l' : Tm), t = .comp tg' i' c' l' (own.map (·.2)) ∧ PI X tg it (rdI X.K Ω Wi i') ∧ BlkOk X.N X.env.scope scope own ∧
    (∀ (s : Shared) (H : Hp) (C : Addr) (cl : List (Str × Addr)) (fp : List Addr), PG (X.blk s H scope (compEnvC scope cl C X.env) fp) tg (rdG X.K tg')) ∧ (∀ (s : Shared) (H : Hp) (C : Addr) (cl : List (Str × Addr)) (fp : List Addr), PTs (X.blk s H scope (compEnvC scope cl C X.env) fp) ifs (rdT X.K Ω WF c')) ∧
    (∀ (s : Shared) (H : Hp) (C : Addr) (cl : List (Str × Addr)) (fp : List Addr), PE (X.blk s H scope (compEnvC scope cl C X.env) fp) el (rd X.K Ω WF (rE X.K) l')) ∧ notSet it = true ∧ ∀ i ∈ tgIx tg', i ∈ own.map (·.2)
def EOk (X : Cx) (Ω : Orc) (Wi : WX) (e : Expr) (t : Tm) : Prop := PE X e (rd X.K Ω Wi (rE X.K) t) ∧ (fresh t = true → PE X e (rdF X.K Ω Wi t))
theorem EOk.new {e : Expr} {t : Tm} (h : PE X e (rdF X.K Ω Wi t)) : EOk X Ω Wi e t := ⟨rE_of h, fun _ => h⟩
theorem EOk.old {e : Expr} {t : Tm} (h : PE X e (rd X.K Ω Wi (rE X.K) t)) (n : fresh t = false) : EOk X Ω Wi e t := ⟨h, fun z => by
  rw [n] at z
  cases z⟩
structure AllOk (g : Cfg) (Ω : Orc) (n k : Nat) : Prop where
  E : ∀ {X : Cx} {p : Pos'} {Wi : WX}, Gd X g Ω n p Wi → ∀ {e : Expr} {t : Tm}, cE g k p e = some t → EOk X Ω Wi e t
  Bin : ∀ {X : Cx} {p : Pos'} {Wi : WX}, Gd X g Ω n p Wi → ∀ {a : Expr} {op : Operator} {b : Expr} {t : Tm} {pos : Pos}, cBin g k p a op b = some t → EOk X Ω Wi (.BinOp a op b pos) t
  Call : ∀ {X : Cx} {p : Pos'} {Wi : WX}, Gd X g Ω n p Wi → ∀ {x : Str} {as : List Expr} {t : Tm} {q pos : Pos}, cCall g k p x as = some t → gl p x = true → EOk X Ω Wi (.Call (.Name x q) as [] pos) t
  Lc : ∀ {X : Cx} {p : Pos'} {Wi : WX}, Gd X g Ω n p Wi → ∀ {el tg it : Expr} {ifs : List Expr} {scope : Scope} {t : Tm}, cLc g k p el tg it ifs scope = some t → LcOk X Ω Wi el tg it ifs scope t
  If : ∀ {X : Cx} {p : Pos'} {Wi : WX}, Gd X g Ω n p Wi → ∀ {ifs : List Expr} {t : Tm}, cIf g k p ifs = some t → PTs X ifs (rdT X.K Ω Wi t)
  B : ∀ {X : Cx} {p : Pos'} {Wi : WX}, Gd X g Ω n p Wi → ∀ {e : Expr} {t : Tm}, cB g k p e = some t → PE X e (rd X.K Ω Wi (rB X.K) t)
  L : ∀ {X : Cx} {p : Pos'} {Wi : WX}, Gd X g Ω n p Wi → ∀ {e : Expr} {t : Tm}, cL g k p e = some t → PE X e (rd X.K Ω Wi (rL X.K) t)
  O : ∀ {X : Cx} {p : Pos'} {Wi : WX}, Gd X g Ω n p Wi → ∀ {e : Option Expr} {t : Tm}, cO g k p e = some t → PO X e (rdO X.K Ω Wi t)
  As : ∀ {X : Cx} {p : Pos'} {Wi : WX}, Gd X g Ω n p Wi → ∀ {es : List Expr} {t : Tm}, cAs g k p es = some t → PA X es (rdA X.K Ω Wi t) ∧ (es = [] → t = .nil)
  Bo : ∀ {X : Cx} {p : Pos'} {Wi : WX}, Gd X g Ω n p Wi → ∀ {op : BoolOp} {es : List Expr} {t : Tm} {pos : Pos}, cBo g k p op es = some t → EOk X Ω Wi (.BoolOp op es pos) t
  T : ∀ {X : Cx} {p : Pos'} {Wi : WX}, Gd X g Ω n p Wi → ∀ {e : Expr} {t : Tm}, cT g k p e = some t → PT X e (rdT X.K Ω Wi t)
  To : ∀ {X : Cx} {p : Pos'} {Wi : WX}, Gd X g Ω n p Wi → ∀ {op : BoolOp} {es : List Expr} {t : Tm} {pos : Pos}, cTo g k p op es = some t → PW X (.BoolOp op es pos) (rdT X.K Ω Wi t)
  I : ∀ {X : Cx} {p : Pos'} {Wi : WX}, Gd X g Ω n p Wi → ∀ {tg e : Expr} {t : Tm}, cI g k p (isTupE tg) e = some t → PI X tg e (rdI X.K Ω Wi t)
  I1 : ∀ {X : Cx} {p : Pos'} {Wi : WX}, Gd X g Ω n p Wi → ∀ {e : Expr} {t : Tm}, cI1 g k p e = some t → (∀ tg, PI X tg e (rdI X.K Ω Wi t)) ∧ PE X e (rdV X.K Ω Wi t)
theorem units_of (A : Gd X g Ω n p Wi) : X.A.units + 66 < cLine := by
  have := A.room.un
  omega
theorem cmpE_ok {k : Nat} (ih : AllOk g Ω n k) (A : Gd X g Ω n p Wi) {a : Expr} {ops : List CmpOp} {bs : List Expr} {pos : Pos} {t : Tm}
    (h : (match ops, bs with
      | [o], [b] => if notSet b then (copOf o).bind fun o => (cB g k p a).bind fun s => (cL g k p b).map fun t => .cmp o s t else none
      | [o, o'], [b, c] => if notSet c then (copOf o).bind fun o => (copOf o').bind fun o' => (cE g k p a).bind fun s => (cE g k p b).bind fun t => (cE g k p c).map fun u => .chn o o' s t u else none
      | _, _ => none) = some t) : EOk X Ω Wi (.Compare a ops bs pos) t ∧ PT X (.Compare a ops bs pos) (rdT X.K Ω Wi t) := by
  have hu := units_of A
  have hu : X.A.units + 65 < cLine := by omega
  have mk : ∀ {op : CmpOp} {b : Expr}, notSet b = true → behindInMarks op b = false := fun {op b} hb => by
    cases b <;> first | rfl | cases hb
  match ops, bs, h with
  | [o], [b], h =>
    simp only [Option.ite_none_right_eq_some, Option.bind_eq_some_iff, Option.map_eq_some_iff] at h
    obtain ⟨hb, o', h1, s, h2, u, h3, rfl⟩ := h
    exact ⟨.old (s_cmp hu h1 (mk hb) (ih.B A h2) (ih.L A h3)) rfl, t_cmp hu h1 (mk hb) (ih.B A h2) (ih.L A h3)⟩
  | [o, o'], [b, c], h =>
    simp only [Option.ite_none_right_eq_some, Option.bind_eq_some_iff, Option.map_eq_some_iff] at h
    obtain ⟨hb, o1, h1, o2, h2, s, h3, u, h4, v, h5, rfl⟩ := h
    exact ⟨.old (s_chn hu h1 h2 (mk hb) (ih.E A h3).1 (ih.E A h4).1 (ih.E A h5).1) rfl, t_chn hu h1 h2 (mk hb) (ih.E A h3).1 (ih.E A h4).1 (ih.E A h5).1⟩
  | [], _, h => cases h
  | [_], [], h => cases h
  | [_], _ :: _ :: _, h => cases h
  | [_, _], [], h => cases h
  | [_, _], [_], h => cases h
  | [_, _], _ :: _ :: _ :: _, h => cases h
  | _ :: _ :: _ :: _, _, h => cases h
theorem plain_len {as : List Expr} (h : decide (as.length < 30) = true) : as.length < 30 := of_decide_eq_true h
/-- methods of built-in types -/
theorem ok_M {k : Nat} (ih : AllOk g Ω n k) (A : Gd X g Ω n p Wi) {o : Expr} {m : Str} {as : List Expr} {ap cp : Pos} {s t : Tm} {b : Mth} (h0 : (match as with
    | [a] => bm1 m
    | [a, b] => bm2 m
    | _ => none) = some b) (h1 : cB g k p o = some s) (h2 : cAs g k p as = some t) (hl : (ap.endLine == cp.line) = true) (hb : plainB o = true) (hp : as.all plainA = true) (h30 : as.length < 30) : EOk X Ω Wi (.Call (.Attribute o m ap) as [] cp) (.mth b s t) := by
  have hu := units_of A
  have hu : X.A.units + 65 < cLine := by omega
  have ho := ih.B A h1
  match as, h0, h2, hp, h30 with
  | [a], h0, h2, hp, h30 =>
    have h0 : bm1 m = some b := h0
    have ha := (ih.As A h2).1
    unfold bm1 at h0
    split at h0
    · rename_i e; subst e; cases h0
      exact .old (rE_of (s_append ho ha hb hp h30 hl)) rfl
    split at h0
    · rename_i e; subst e; cases h0
      exact .old (rE_of (s_extend ho ha hb hp h30 hl)) rfl
    split at h0
    · rename_i e; subst e; cases h0
      exact .old (s_popAt ho ha hb hp h30 hl) rfl
    split at h0
    · rename_i e; subst e; cases h0
      exact .old (rE_of (s_index hu ho ha hb hp h30 hl)) rfl
    split at h0
    · rename_i e; subst e; cases h0
      exact .new (s_split ho ha hb hp h30 hl)
    split at h0
    · rename_i e; subst e; cases h0
      exact .old (rE_of (s_part ho ha hb hp h30 hl)) rfl
    split at h0
    · rename_i e; subst e; cases h0
      exact .old (s_get (.inl rfl) hu ho ha hb hp h30 hl) rfl
    · cases h0
  | [a, a2], h0, h2, hp, h30 =>
    have h0 : bm2 m = some b := h0
    have ha := (ih.As A h2).1
    unfold bm2 at h0
    split at h0
    · rename_i e; subst e; cases h0
      exact .old (rE_of (s_insert ho ha hb hp h30 hl)) rfl
    split at h0
    · rename_i e; subst e; cases h0
      exact .new (s_splitN ho ha hb hp h30 hl)
    split at h0
    · rename_i e; subst e; cases h0
      exact .old (s_get (.inr rfl) hu ho ha hb hp h30 hl) rfl
    split at h0
    · rename_i e; subst e; cases h0
      exact .old (s_dpop hu ho ha hb hp h30 hl) rfl
    · cases h0
/-- calls -/
theorem ok_C {k : Nat} (ih : AllOk g Ω n k) (A : Gd X g Ω n p Wi) {fn : Expr} {as : List Expr} {kw : List Keyword} {cp : Pos} {t : Tm} (hh : cE g (k + 1) p (.Call fn as kw cp) = some t) : EOk X Ω Wi (.Call fn as kw cp) t := by
  match kw, hh with
  | [], h =>
    cases fn
    case Name x q =>
      simp only [cE, Option.ite_none_right_eq_some] at h
      exact ih.Call A h.2 h.1
    case Attribute o m ap =>
      simp only [cE] at h
      split at h
      · rename_i e; subst e
        split at h
        · simp only [Option.ite_none_right_eq_some, Option.bind_eq_some_iff, Option.map_eq_some_iff, Bool.and_eq_true] at h
          obtain ⟨⟨⟨hl, pb⟩, pa⟩, s, h1, u, h2, rfl⟩ := h
          exact .old (s_join (ih.E A h1).1 (ih.L A h2) pb pa hl) rfl
        · cases h
      · simp only [Option.ite_none_right_eq_some, Bool.and_eq_true] at h
        obtain ⟨⟨⟨⟨hl, pb⟩, pa⟩, h30⟩, h⟩ := h
        split at h
        · simp only [Option.bind_eq_some_iff, Option.map_eq_some_iff] at h
          obtain ⟨s, h1, u, h2, rfl⟩ := h
          exact .old (s_met A.tk (fun c => A.mets c m) A.room A.gds (ih.E A h1).1 (ih.As A h2).1 (ih.As A h2).2 pb pa (of_decide_eq_true h30) hl) rfl
        · simp only [Option.bind_eq_some_iff, Option.map_eq_some_iff] at h
          obtain ⟨s, h1, b, h0, u, h2, rfl⟩ := h
          exact ok_M ih A h0 h1 h2 hl pb pa (of_decide_eq_true h30)
    all_goals
      simp only [cE] at h
      cases h
  | [⟨some kn, ke, kp⟩], h =>
    cases fn
    case Name x q =>
      simp only [cE] at h
      split at h
      · simp only [Option.ite_none_right_eq_some, Option.bind_eq_some_iff, Option.map_eq_some_iff, Bool.and_eq_true, decide_eq_true_eq] at h
        obtain ⟨⟨⟨⟨hb, pa⟩, rfl⟩, rfl⟩, s, h1, u, h2, rfl⟩ := h
        rw [bltin, Bool.and_eq_true] at hb
        obtain ⟨hg, hd⟩ := A.gl hb.1
        have hu := units_of A
        exact .old (s_maxd A.calm (by omega) hg (A.free _ hb.2) (ih.E A h1).1 (ih.E A h2).1 pa) rfl
      · cases h
    all_goals
      simp only [cE] at h
      cases h
  | [⟨none, ke, kp⟩], h =>
    simp only [cE] at h
    cases h
  | _ :: _ :: _, h =>
    simp only [cE] at h
    cases h
theorem ok_E {k : Nat} (ih : AllOk g Ω n k) (A : Gd X g Ω n p Wi) {e : Expr} {t : Tm} (h : cE g (k + 1) p e = some t) : EOk X Ω Wi e t := by
  cases e with
  | Constant c j pos =>
    cases c <;> simp only [cE] at h
    case int i => cases h; exact .old (s_cst pe_int fun w => .int i) rfl
    case bool b => cases h; exact .old (s_cst pe_bl fun w => .bl b) rfl
    case none => cases h; exact .old (s_cst pe_non fun w => .non) rfl
    case str z =>
      split at h
      · rename_i c
        cases h
        exact .old (s_cst pe_str fun w => .str z c) rfl
      · cases h
    all_goals cases h
  | Name x q =>
    simp only [cE] at h
    split at h
    · rename_i i hi
      cases h
      exact .old (s_var (A.var hi)) rfl
    · split at h
      · rename_i c
        simp only [Option.map_eq_some_iff] at h
        obtain ⟨d, h1, rfl⟩ := h
        obtain ⟨v, u, m, r, hw⟩ := A.cst x d h1
        exact .old (s_cst (pe_glob (A.gl c).1 m r (A.gl c).2) hw) rfl
      · cases h
  | Tuple es m q =>
    simp only [cE, Option.map_eq_some_iff] at h
    obtain ⟨as, h1, rfl⟩ := h
    exact .old (s_tup (ih.As A h1).1) rfl
  | List es q =>
    simp only [cE, Option.map_eq_some_iff] at h
    obtain ⟨as, h1, rfl⟩ := h
    exact .new (s_lst (ih.As A h1).1)
  | BinOp a op b q =>
    simp only [cE] at h
    exact ih.Bin A h
  | UnaryOp op a q =>
    cases op <;> simp only [cE, Option.map_eq_some_iff] at h
    case USub =>
      obtain ⟨s, h1, rfl⟩ := h
      exact .old (s_neg (ih.E A h1).1) rfl
    case Not =>
      obtain ⟨s, h1, rfl⟩ := h
      exact .old (s_not (ih.L A h1)) rfl
    all_goals cases h
  | BoolOp op es q =>
    have h : cBo g k p op es = some t := h
    exact ih.Bo A h
  | Compare a ops bs q =>
    simp only [cE] at h
    exact (cmpE_ok ih A h).1
  | IfExp c a b q =>
    simp only [cE, Option.bind_eq_some_iff, Option.map_eq_some_iff] at h
    obtain ⟨s, h1, u, h2, v, h3, rfl⟩ := h
    exact .old (s_ite (ih.T A h1) (ih.E A h2).1 (ih.E A h3).1) rfl
  | Subscript a b q =>
    cases b
    case Slice lo hi st q2 =>
      cases st with
      | none =>
        simp only [cE, Option.bind_eq_some_iff, Option.map_eq_some_iff] at h
        obtain ⟨l, h1, u, h2, s, h3, rfl⟩ := h
        exact .new (s_sl (ih.B A h3) (ih.O A h1) (ih.O A h2))
      | some st =>
        simp only [cE] at h
        split at h
        · rename_i e1
          cases e1
        · rename_i e1
          cases e1
          split at h
          · simp only [Option.ite_none_right_eq_some, Option.map_eq_some_iff] at h
            obtain ⟨hi, s, h1, rfl⟩ := h
            subst hi
            exact .new (s_rev (ih.B A h1))
          · cases h
        · cases h
    all_goals
      simp only [cE, Option.ite_none_right_eq_some, Option.bind_eq_some_iff, Option.map_eq_some_iff] at h
      obtain ⟨hp, s, h1, u, h2, rfl⟩ := h
      exact .old (s_ix (by have := units_of A; omega) (ih.B A h1) (ih.E A h2).1 hp) rfl
  | Call fn as kw cp => exact ok_C ih A h
  | Attribute o f q =>
    simp only [cE, Option.ite_none_right_eq_some, Option.map_eq_some_iff, Bool.and_eq_true] at h
    obtain ⟨⟨hb, hf⟩, s, h1, rfl⟩ := h
    exact .old (s_fld (ih.E A h1).1 hb hf) rfl
  | ListComp el gs scope q =>
    simp only [cE] at h
    split at h
    · split at h
      · rename_i c
        subst c
        obtain ⟨own, tg', i', c', l', rfl, h1, h2, h3, h4, h5, h6, h7⟩ := ih.Lc A h
        exact .new (s_comp A.calm A.nd h1 h2 h3 h4 h5 h6 h7)
      · cases h
    · cases h
  | _ =>
    simp only [cE] at h
    cases h
theorem ok_Bin {k : Nat} (ih : AllOk g Ω n k) (A : Gd X g Ω n p Wi) {a : Expr} {op : Operator} {b : Expr} {t : Tm} {pos : Pos} (h : cBin g (k + 1) p a op b = some t) : EOk X Ω Wi (.BinOp a op b pos) t := by
  have gen : ∀ {o : BOp} {s u : Tm}, bopOf op = some o → o ≠ .add → cE g k p a = some s → cE g k p b = some u → EOk X Ω Wi (.BinOp a op b pos) (.bin o s u) := fun {o s u} ho hn h1 h2 =>
    .old (s_bin ho hn (ih.E A h1).1 (ih.E A h2).1) (by cases o <;> first | rfl | exact absurd rfl hn)
  cases op
  case Mult =>
    cases a
    case List es q =>
      simp only [cBin, Option.bind_eq_some_iff, Option.map_eq_some_iff] at h
      obtain ⟨as, h1, u, h2, rfl⟩ := h
      exact .new (s_rep (ih.As A h1).1 (ih.E A h2).1)
    all_goals
      simp only [cBin, Option.bind_eq_some_iff, Option.map_eq_some_iff] at h
      obtain ⟨s, h1, u, h2, rfl⟩ := h
      exact gen rfl (fun z => nomatch z) h1 h2
  case Add =>
    simp only [cBin, Option.bind_eq_some_iff, Option.map_eq_some_iff] at h
    obtain ⟨s, h1, u, h2, rfl⟩ := h
    exact .new (s_add (ih.B A h1) (ih.L A h2))
  all_goals
    simp only [cBin, bopOf, Option.bind_eq_some_iff, Option.map_eq_some_iff] at h
    first
    | (obtain ⟨o, h0, h⟩ := h
       cases h0
       simp only [Bool.false_eq_true, if_false, Option.bind_eq_some_iff, Option.map_eq_some_iff] at h
       obtain ⟨s, h1, u, h2, rfl⟩ := h
       exact gen rfl (fun z => nomatch z) h1 h2)
    | (obtain ⟨o, h0, h⟩ := h
       cases h0)
theorem ok_Call {k : Nat} (ih : AllOk g Ω n k) (A : Gd X g Ω n p Wi) {x : Str} {as : List Expr} {t : Tm} {q pos : Pos} (h : cCall g (k + 1) p x as = some t) (hx : gl p x = true) : EOk X Ω Wi (.Call (.Name x q) as [] pos) t := by
  obtain ⟨hg, hd⟩ := A.gl hx
  have hu := units_of A
  have two : ∀ {a b : Expr} {t : Tm}, mem x g.free = true → (if plainA a && plainA b then (bi2 x).bind fun i => (cAs g k p [a, b]).map (.bi i) else none) = some t → EOk X Ω Wi (.Call (.Name x q) [a, b] [] pos) t := fun {a b t} hf h => by
    simp only [Option.ite_none_right_eq_some, Option.bind_eq_some_iff, Option.map_eq_some_iff, Bool.and_eq_true] at h
    obtain ⟨⟨pa, pb⟩, i, h0, s, h1, rfl⟩ := h
    unfold bi2 at h0
    split at h0
    · rename_i e
      subst e
      cases h0
      exact .old (s_max2 A.calm hg (A.free _ hf) (ih.As A h1).1 pa pb) rfl
    · split at h0
      · rename_i e
        subst e
        cases h0
        exact .old (s_min2 A.calm hg (A.free _ hf) (ih.As A h1).1 pa pb) rfl
      · cases h0
  simp only [cCall] at h
  split at h
  · rename_i c
    simp only [Option.ite_none_right_eq_some, Option.map_eq_some_iff] at h
    obtain ⟨hp, s, h1, rfl⟩ := h
    obtain ⟨f, fd, ps, F, m, kp, bd⟩ := A.fns x c
    cases as with
    | nil =>
      obtain ⟨_, e⟩ := ih.As A h1
      cases e rfl
      exact .old (s_call0 A.tk F A.room A.gds hg m kp bd hd) rfl
    | cons e r => exact .old (s_call A.tk F A.room A.gds hg m kp bd hd (ih.As A h1).1 hp) rfl
  split at h
  · rename_i c
    simp only [Option.ite_none_right_eq_some, Option.map_eq_some_iff] at h
    obtain ⟨hp, s, h1, rfl⟩ := h
    exact .old (s_mk A.tk (A.clss x c) A.room A.gds hg hd (ih.As A h1).1 (ih.As A h1).2 hp) rfl
  · split at h
    · rename_i hf
      split at h
      · simp only [Option.ite_none_right_eq_some] at h
        obtain ⟨hp, h⟩ := h
        split at h
        · rename_i e; subst e
          simp only [Option.map_eq_some_iff] at h
          obtain ⟨s, h1, rfl⟩ := h
          exact .new (s_srt (by omega) hg (A.free _ hf) (ih.L A h1) hp)
        simp only [Option.bind_eq_some_iff, Option.map_eq_some_iff] at h
        obtain ⟨i, h0, s, h1, rfl⟩ := h
        have hm := A.free _ hf
        have hs := ih.L A h1
        unfold bi1' at h0
        split at h0
        · rename_i e; subst e; cases h0
          exact .old (s_str hg hm hs hp) rfl
        split at h0
        · rename_i e; subst e; cases h0
          exact .old (s_max1 A.calm hg hm hs hp) rfl
        split at h0
        · rename_i e; subst e; cases h0
          exact .old (s_min1 A.calm (by omega) hg hm hs hp) rfl
        split at h0
        · rename_i e; subst e; cases h0
          exact .old (s_sum A.calm hg hm hs hp) rfl
        unfold bi1 at h0
        split at h0
        · rename_i e; subst e; cases h0
          exact .old (s_len hg hm hs hp) rfl
        split at h0
        · rename_i e; subst e; cases h0
          exact .old (s_int hg hm hs hp) rfl
        split at h0
        · rename_i e; subst e; cases h0
          exact .old (s_ord hg hm hs hp) rfl
        split at h0
        · rename_i e; subst e; cases h0
          exact .old (s_repr A.gds hu hg hm hs hp) rfl
        split at h0
        · rename_i e; subst e; cases h0
          exact .new (s_list hg hm hs hp)
        split at h0
        · rename_i e; subst e; cases h0
          exact .old (s_tuple hg hm hs hp) rfl
        split at h0
        · rename_i e; subst e; cases h0
          exact .old (s_all A.calm hg hm hs hp) rfl
        split at h0
        · rename_i e; subst e; cases h0
          exact .old (s_any A.calm hg hm hs hp) rfl
        · cases h0
      · split at h
        · split at h
          · rename_i e
            subst e
            simp only [Option.ite_none_right_eq_some, Option.bind_eq_some_iff, Option.map_eq_some_iff, Bool.and_eq_true, bltin] at h
            obtain ⟨⟨pa, hy, hyf⟩, i, h0, s, h1, rfl⟩ := h
            have hm := A.free _ hf
            unfold isiOf at h0
            split at h0
            · rename_i e; subst e; cases h0
              exact .old (s_isList hg hm (A.gl hy).1 (A.free _ hyf) (ih.L A h1) pa) rfl
            · split at h0
              · rename_i e; subst e; cases h0
                exact .old (s_isTup hg hm (A.gl hy).1 (A.free _ hyf) (ih.L A h1) pa) rfl
              · cases h0
          · exact two hf h
        · exact two hf h
      · cases h
    · cases h
theorem ok_Lc {k : Nat} (ih : AllOk g Ω n k) (A : Gd X g Ω n p Wi) {el tg it : Expr} {ifs : List Expr} {scope : Scope} {t : Tm} (h : cLc g (k + 1) p el tg it ifs scope = some t) : LcOk X Ω Wi el tg it ifs scope t := by
  simp only [cLc, Option.ite_none_right_eq_some, Option.bind_eq_some_iff, Bool.and_eq_true] at h
  obtain ⟨⟨hb, hs⟩, i, h1, tg', h2, c, h3, l, h4, h5, h6⟩ := h
  cases h6
  have ok := blkB_ok A hb
  refine ⟨ownNames p.N scope.names, tg', i, c, l, rfl, ih.I A h1, ok, fun s H C cl fp => tg_ok (A.blk ok s H C cl fp) h2, fun s H C cl fp => ih.If (A.blk ok s H C cl fp) h3, fun s H C cl fp => (ih.E (A.blk ok s H C cl fp) h4).1, hs, fun i hi => ?_⟩
  rw [List.all_eq_true] at h5
  exact List.contains_iff_mem.mp (h5 i hi)
theorem ok_B {k : Nat} (ih : AllOk g Ω n k) (A : Gd X g Ω n p Wi) {e : Expr} {t : Tm} (h : cB g (k + 1) p e = some t) : PE X e (rd X.K Ω Wi (rB X.K) t) := by
  cases e
  case Name x q =>
    simp only [cB] at h
    split at h
    · rename_i i hi
      cases h
      exact s_bor (A.var hi)
    · exact rB_of (ih.E A h).1
  all_goals
    simp only [cB] at h
    exact rB_of (ih.E A h).1
theorem ok_As {k : Nat} (ih : AllOk g Ω n k) (A : Gd X g Ω n p Wi) {es : List Expr} {t : Tm} (h : cAs g (k + 1) p es = some t) : PA X es (rdA X.K Ω Wi t) ∧ (es = [] → t = .nil) := by
  cases es with
  | nil =>
    simp only [cAs] at h
    cases h
    exact ⟨s_nil, fun _ => rfl⟩
  | cons e r =>
    simp only [cAs, Option.ite_none_right_eq_some, Option.bind_eq_some_iff, Option.map_eq_some_iff] at h
    obtain ⟨hp, a, h1, b, h2, rfl⟩ := h
    exact ⟨s_cons (ih.E A h1).1 (ih.As A h2).1 hp, fun z => nomatch z⟩
theorem ok_Bo {k : Nat} (ih : AllOk g Ω n k) (A : Gd X g Ω n p Wi) {op : BoolOp} {es : List Expr} {t : Tm} {pos : Pos} (h : cBo g (k + 1) p op es = some t) : EOk X Ω Wi (.BoolOp op es pos) t := by
  cases es with
  | nil =>
    simp only [cBo] at h
    cases h
  | cons e r =>
    cases r with
    | nil =>
      simp only [cBo] at h
      exact ⟨pe_one (ih.E A h).1, fun z => pe_one ((ih.E A h).2 z)⟩
    | cons b r =>
      simp only [cBo, Option.bind_eq_some_iff, Option.map_eq_some_iff] at h
      obtain ⟨s, h1, u, h2, rfl⟩ := h
      cases op with
      | And => exact .old (s_and (ih.E A h1).1 (ih.Bo A h2).1) rfl
      | Or => exact .old (s_or (ih.E A h1).1 (ih.Bo A h2).1) rfl
theorem ok_T {k : Nat} (ih : AllOk g Ω n k) (A : Gd X g Ω n p Wi) {e : Expr} {t : Tm} (h : cT g (k + 1) p e = some t) : PT X e (rdT X.K Ω Wi t) := by
  cases e
  case UnaryOp op a q =>
    cases op <;> simp only [cT, Option.map_eq_some_iff] at h
    case Not =>
      obtain ⟨s, h1, rfl⟩ := h
      exact t_not (ih.T A h1)
    all_goals cases h
  case BoolOp op es q =>
    simp only [cT] at h
    exact (ih.To A h).pt
  case Compare a ops bs q =>
    simp only [cT] at h
    exact (cmpE_ok ih A h).2
  all_goals
    simp only [cT, Option.ite_none_right_eq_some] at h
    exact t_plain (ih.L A h.2) h.1
theorem ok_To {k : Nat} (ih : AllOk g Ω n k) (A : Gd X g Ω n p Wi) {op : BoolOp} {es : List Expr} {t : Tm} {pos : Pos} (h : cTo g (k + 1) p op es = some t) : PW X (.BoolOp op es pos) (rdT X.K Ω Wi t) := by
  cases es with
  | nil =>
    simp only [cTo] at h
    cases h
  | cons e r =>
    cases r with
    | nil =>
      simp only [cTo] at h
      cases op with
      | And => exact pw_and1 (ih.T A h)
      | Or => exact pw_or1 (ih.T A h)
    | cons b r =>
      simp only [cTo, Option.bind_eq_some_iff, Option.map_eq_some_iff] at h
      obtain ⟨s, h1, u, h2, rfl⟩ := h
      cases op with
      | And => exact t_and (ih.T A h1) (ih.To A h2)
      | Or => exact t_or (ih.T A h1) (ih.To A h2)
theorem ok_I1 {k : Nat} (ih : AllOk g Ω n k) (A : Gd X g Ω n p Wi) {e : Expr} {t : Tm} (h : cI1 g (k + 1) p e = some t) : (∀ tg, PI X tg e (rdI X.K Ω Wi t)) ∧ PE X e (rdV X.K Ω Wi t) := by
  cases e
  case Name x q =>
    simp only [cI1] at h
    split at h
    · rename_i i hi
      cases h
      exact ⟨fun tg => i_its (A.var hi), v_its (A.var hi)⟩
    · simp only [Option.map_eq_some_iff] at h
      obtain ⟨s, h1, rfl⟩ := h
      exact ⟨fun tg => i_it (ih.E A h1).1, v_it (ih.E A h1).1⟩
  all_goals
    simp only [cI1, Option.map_eq_some_iff] at h
    obtain ⟨s, h1, rfl⟩ := h
    exact ⟨fun tg => i_it (ih.E A h1).1, v_it (ih.E A h1).1⟩
theorem ok_I {k : Nat} (ih : AllOk g Ω n k) (A : Gd X g Ω n p Wi) {tg e : Expr} {t : Tm} (h : cI g (k + 1) p (isTupE tg) e = some t) : PI X tg e (rdI X.K Ω Wi t) := by
  have plain : ∀ {t : Tm}, (cE g k p e).map .it = some t → PI X tg e (rdI X.K Ω Wi t) := fun {t} h => by
    simp only [Option.map_eq_some_iff] at h
    obtain ⟨s, h1, rfl⟩ := h
    exact i_it (ih.E A h1).1
  have tup : isTupE tg = true → ∃ elts kk tpos, tg = .Tuple elts kk tpos := fun z => by
    cases tg <;> first | exact ⟨_, _, _, rfl⟩ | cases z
  cases e
  case Call fn as kw q =>
    cases kw with
    | cons _ _ =>
      simp only [cI] at h
      cases h
    | nil =>
      cases fn
      case Name x q1 =>
        simp only [cI] at h
        split at h
        · rename_i c
          rw [bltin, Bool.and_eq_true] at c
          obtain ⟨hg, hd⟩ := A.gl c.1
          have hm := A.free _ c.2
          split at h
          · rename_i e; subst e
            split at h
            · simp only [Option.ite_none_right_eq_some, Option.map_eq_some_iff] at h
              obtain ⟨hp, s, h1, rfl⟩ := h
              exact i_rng1 hg hm (ih.E A h1).1 hp
            · simp only [Option.ite_none_right_eq_some, Option.bind_eq_some_iff, Option.map_eq_some_iff, Bool.and_eq_true] at h
              obtain ⟨⟨pa, pb⟩, s, h1, u, h2, rfl⟩ := h
              exact i_rng2 hg hm (ih.E A h1).1 (ih.E A h2).1 pa pb
            · simp only [Option.ite_none_right_eq_some, Option.bind_eq_some_iff, Option.map_eq_some_iff, Bool.and_eq_true] at h
              obtain ⟨⟨⟨pa, pb⟩, pc⟩, s, h1, u, h2, v, h3, rfl⟩ := h
              exact i_rng3 hg hm (ih.E A h1).1 (ih.E A h2).1 (ih.E A h3).1 pa pb pc
            · cases h
          · split at h
            · rename_i e; subst e
              split at h
              · simp only [Option.ite_none_right_eq_some, Option.bind_eq_some_iff, Option.map_eq_some_iff, Bool.and_eq_true] at h
                obtain ⟨⟨⟨pa, pb⟩, pr⟩, s, h1, u, h2, rfl⟩ := h
                obtain ⟨elts, kk, tpos, rfl⟩ := tup pr
                exact i_zip hg hm (ih.I1 A h1).2 (ih.I1 A h2).2 pa pb
              · cases h
            · split at h
              · rename_i e; subst e
                split at h
                · simp only [Option.ite_none_right_eq_some, Option.map_eq_some_iff, Bool.and_eq_true] at h
                  obtain ⟨⟨pa, pr⟩, s, h1, rfl⟩ := h
                  obtain ⟨elts, kk, tpos, rfl⟩ := tup pr
                  exact i_enm hg hm (ih.I1 A h1).2 pa
                · cases h
              · exact plain h
        · exact plain h
      all_goals
        simp only [cI] at h
        exact plain h
  all_goals
    simp only [cI] at h
    exact (ih.I1 A h).1 _
theorem ok_If {k : Nat} (ih : AllOk g Ω n k) (A : Gd X g Ω n p Wi) {ifs : List Expr} {t : Tm} (h : cIf g (k + 1) p ifs = some t) : PTs X ifs (rdT X.K Ω Wi t) := by
  match ifs, h with
  | [], h =>
    simp only [cIf] at h
    cases h
    exact c_nil
  | [c], h =>
    simp only [cIf] at h
    exact c_one (ih.T A h)
  | _ :: _ :: _, h =>
    simp only [cIf] at h
    cases h
theorem ok_O {k : Nat} (ih : AllOk g Ω n k) (A : Gd X g Ω n p Wi) {e : Option Expr} {t : Tm} (h : cO g (k + 1) p e = some t) : PO X e (rdO X.K Ω Wi t) := by
  cases e with
  | none =>
    simp only [cO] at h
    cases h
    exact o_none
  | some e =>
    simp only [cO, Option.map_eq_some_iff] at h
    obtain ⟨s, h1, rfl⟩ := h
    exact o_some (ih.E A h1).1
theorem ok_L {k : Nat} (ih : AllOk g Ω n k) (A : Gd X g Ω n p Wi) {e : Expr} {t : Tm} (h : cL g (k + 1) p e = some t) : PE X e (rd X.K Ω Wi (rL X.K) t) := by
  simp only [cL] at h
  exact rL_of (ih.B A h)
theorem all_ok (g : Cfg) (Ω : Orc) (n : Nat) : ∀ k, AllOk g Ω n k
  | 0 => by
    constructor <;> intro X p Wi A <;> intros <;> first | (rename_i h _; cases h; done) | (rename_i h; cases h)
  | k + 1 =>
    have ih := all_ok g Ω n k
    { E := fun {_ _ _} A {_ _} h => ok_E ih A h
      Bin := fun {_ _ _} A {_ _ _ _ _} h => ok_Bin ih A h
      Call := fun {_ _ _} A {_ _ _ _ _} h hx => ok_Call ih A h hx
      Lc := fun {_ _ _} A {_ _ _ _ _ _} h => ok_Lc ih A h
      If := fun {_ _ _} A {_ _} h => ok_If ih A h
      B := fun {_ _ _} A {_ _} h => ok_B ih A h
      L := fun {_ _ _} A {_ _} h => ok_L ih A h
      O := fun {_ _ _} A {_ _} h => ok_O ih A h
      As := fun {_ _ _} A {_ _} h => ok_As ih A h
      Bo := fun {_ _ _} A {_ _ _ _} h => ok_Bo ih A h
      T := fun {_ _ _} A {_ _} h => ok_T ih A h
      To := fun {_ _ _} A {_ _ _ _} h => ok_To ih A h
      I := fun {_ _ _} A {_ _ _} h => ok_I ih A h
      I1 := fun {_ _ _} A {_ _} h => ok_I1 ih A h }
end
end TX

set_option maxRecDepth 100000
set_option maxHeartbeats 4000000
/-! TX, part 13: statements of the compiler; defs. -/
namespace TX
open PySem PySem.Spec PyProof.Rows L2 He

section
variable {X : Cx} {g : Cfg} {Ω : Orc} {n : Nat} {p : Pos'} {Wi : WX} {own : List Str}
structure GdS (X : Cx) (g : Cfg) (Ω : Orc) (n : Nat) (p : Pos') (Wi : WX) : Prop extends Gd X g Ω n p Wi where
  po : PassesOwn (model X.prog X.w) X.A X.env X.xe
  exc : ∀ c b, g.excs.lookup c = some b → XcOk X.K X.mg c b
  exm : ∀ c h, mem c (g.excs.map (·.1)) = true → mem h (g.excs.map (·.1)) = true → PySem.W.exmOne X.K (.ref (ga X.K c)) (.ref (ga X.K h)) = some (isSub c h)
  kit : ∀ c h, g.excs.lookup c = some false → mem h (g.excs.map (·.1)) = true → ExcC X.K (ga X.K c) ∧ PySem.W.kitOne X.K (.ref (ga X.K c)) (.ref (ga X.K h)) = some (isSub c h)
  stk : X.stack = X.env :: X.outer
  frm : X.env.frame = some X.env.locals
/-! ### except -/
theorem okN {n : Option Str} {e : Expr} (h : isExn n e = true) : ∃ x q1 q2, e = .Attribute (.Name x q1) (Str.ofString "name") q2 ∧ n = some x ∧ okNm x = true := by
  unfold isExn at h
  split at h
  · rename_i x q1 f q2
    simp only [Bool.and_eq_true, decide_eq_true_eq] at h
    obtain ⟨⟨h1, rfl⟩, h3⟩ := h
    exact ⟨x, q1, q2, rfl, h1, h3⟩
  · cases h
theorem cst_pe {X : Cx} {c : Const} {j : Nat} {q : Pos} {d : D} (h : cHi (.Constant c j q) = some (.cst d)) : PE X (.Constant c j q) (tC (vOf d)) := by
  cases c <;> first | (cases h; done) | skip
  case bool b => cases h; exact pe_bl
  case int b => cases h; exact pe_int
  case none => cases h; exact pe_non
  case str z =>
    have h : (if z.length ≤ sizeLine then some (HI.cst (.str z)) else none) = some (.cst d) := h
    by_cases c : z.length ≤ sizeLine
    · rw [if_pos c] at h
      cases h
      exact pe_str
    · rw [if_neg c] at h
      cases h
theorem hi_cst {e : Expr} {h : HI} (k : cHi e = some h) : ∃ c j q d, e = .Constant c j q ∧ h = .cst d := by
  cases e <;> first | (cases k; done) | skip
  rename_i c j q
  cases c <;> first | (cases k; done) | skip
  case bool b => cases k; exact ⟨_, _, _, _, rfl, rfl⟩
  case int b => cases k; exact ⟨_, _, _, _, rfl, rfl⟩
  case none => cases k; exact ⟨_, _, _, _, rfl, rfl⟩
  case str z =>
    have k : (if z.length ≤ sizeLine then some (HI.cst (.str z)) else none) = some h := k
    by_cases c : z.length ≤ sizeLine
    · rw [if_pos c] at k
      cases k
      exact ⟨_, _, _, _, rfl, rfl⟩
    · rw [if_neg c] at k
      cases k
/-- the name of the caught one -/
def NmOk (X : Cx) (n : Option Str) (i : Nat) : Prop := ∀ y, n = some y → X.N[i]? = some y ∧ Vis X.env.scope y
theorem he_ok {X : Cx} {own : Bool} {n : Option Str} {e : Expr} {h : HI} {C : Addr} {i : Nat} (k : cHe own n e = some h) (hn : NmOk X n i) (ho : own = true → ∃ cn qn fI, PySem.XcX.XcTxt X.K X.mg cn qn C fI) {a : Addr} {o : Obj} {cls : Value} {d : Option Addr} {pn : List (Addr × Obj)} (hz : Zc cls d o) (hf : ∃ fs, o.data = .fields fs) :
    PE (X.suite a ((a, o) :: pn)) e (hiT C a cls d i h) ∧ (h = .exn → n ≠ none) := by
  unfold cHe at k
  split at k
  · rename_i c
    split at k
    · rename_i co
      cases k
      obtain ⟨x, q1, q2, rfl, rfl, nx⟩ := okN c
      obtain ⟨cn, qn, fI, T⟩ := ho co
      obtain ⟨h1, h2⟩ := hn x rfl
      refine ⟨pe_xf ⟨T.ga, T.gg, T.exC, T.hdC⟩ T.noN hz hf (pe_var (X := X.suite a ((a, o) :: pn)) h1 h2 (okNm_d nx).1 (okNm_d nx).2.1), fun _ z => nomatch z⟩
    · cases k
  · obtain ⟨c, j, q, dd, rfl, rfl⟩ := hi_cst k
    exact ⟨cst_pe k, fun z => nomatch z⟩
theorem hs_ok {X : Cx} {own : Bool} {n : Option Str} {C : Addr} {i : Nat} (hn : NmOk X n i) (ho : own = true → ∃ cn qn fI, PySem.XcX.XcTxt X.K X.mg cn qn C fI) {a : Addr} {o : Obj} {cls : Value} {d : Option Addr} {pn : List (Addr × Obj)} (hz : Zc cls d o) (hf : ∃ fs, o.data = .fields fs) :
    ∀ {es : List Expr} {l : List HI}, cHs own n es = some l → PA (X.suite a ((a, o) :: pn)) es (hisT C a cls d i l) ∧ (HI.exn ∈ l → n ≠ none)
  | [], l, h => by
    cases h
    exact ⟨pa_nil, fun m => nomatch m⟩
  | e :: r, l, h => by
    have h : (if plainA e then (cHe own n e).bind fun h => (cHs own n r).map fun hs => h :: hs else none) = some l := h
    simp only [Option.ite_none_right_eq_some, Option.bind_eq_some_iff, Option.map_eq_some_iff] at h
    obtain ⟨hp, h1, k1, l1, k2, rfl⟩ := h
    obtain ⟨p1, q1⟩ := he_ok k1 hn ho hz hf
    obtain ⟨p2, q2⟩ := hs_ok hn ho hz hf k2
    refine ⟨pa_cons p1 p2 (star_plain hp), fun m => ?_⟩
    rcases List.mem_cons.mp m with z | z
    · exact q1 z.symm
    · exact q2 z
theorem hr_ok {X : Cx} {own : Bool} {n : Option Str} {e : Expr} {r : HR} {hh : Str} {C : Addr} {i : Nat} {pos : Pos} (k : cHr own n e = some r) (hn : NmOk X n i) (ho : own = true → ∃ cn qn fI, PySem.XcX.XcTxt X.K X.mg cn qn C fI) : SuOk X [.Return (some e) pos] (hrT hh C i r) ∧ (asks r = true → n ≠ none) := by
  have one : ∀ {e : Expr} {r : HR}, (cHe own n e).map .one = some r → SuOk X [.Return (some e) pos] (hrT hh C i r) ∧ (asks r = true → n ≠ none) := fun {e r} k => by
    simp only [Option.map_eq_some_iff] at k
    obtain ⟨h, k1, rfl⟩ := k
    refine ⟨fun a o cls d pn hz hf => pss_one (ps_ret (he_ok k1 hn ho hz hf).1), fun z => ?_⟩
    cases h with
    | cst d => cases z
    | exn =>
      unfold cHe at k1
      split at k1
      · rename_i c
        obtain ⟨x, q1, q2, rfl, rfl, nx⟩ := okN c
        exact fun z => nomatch z
      · obtain ⟨c, j, q, dd, rfl, z⟩ := hi_cst k1
        cases z
  cases e
  case Tuple es m q =>
    have k : (cHs own n es).map .tup = some r := k
    simp only [Option.map_eq_some_iff] at k
    obtain ⟨l, k1, rfl⟩ := k
    refine ⟨fun a o cls d pn hz hf => pss_one (ps_ret (pe_tup (hs_ok hn ho hz hf k1).1)), fun z => ?_⟩
    have z : (l.any fun h => match h with
      | .exn => true
      | _ => false) = true := z
    rw [List.any_eq_true] at z
    obtain ⟨h, m, e⟩ := z
    cases h with
    | cst d => cases e
    | exn =>
      have : ∀ {es : List Expr} {l : List HI}, cHs own n es = some l → HI.exn ∈ l → n ≠ none := by
        intro es
        induction es with
        | nil =>
          intro l h m
          cases h
          cases m
        | cons e r ih =>
          intro l h m
          have h : (if plainA e then (cHe own n e).bind fun h => (cHs own n r).map fun hs => h :: hs else none) = some l := h
          simp only [Option.ite_none_right_eq_some, Option.bind_eq_some_iff, Option.map_eq_some_iff] at h
          obtain ⟨hp, h1, k1, l1, k2, rfl⟩ := h
          rcases List.mem_cons.mp m with z | z
          · subst z
            unfold cHe at k1
            split at k1
            · rename_i c
              obtain ⟨x, q1, q2, rfl, rfl, nx⟩ := okN c
              exact fun z => nomatch z
            · obtain ⟨c, j, q, dd, rfl, z⟩ := hi_cst k1
              cases z
          · exact ih k2 z
      exact this k1 m
  all_goals exact one k
/-- isinstance(e, A) and not isinstance(e, B) -/
theorem isi_ok {X : Cx} {x y A B : Str} {i : Nat} {e1 e2 : List Expr} {r1 r2 : List HI} {n1 n2 : Nat} {p1 p2 p3 p4 p5 p6 p7 p8 p9 p10 p11 p12 p13 p14 pos' : Pos} (E : ExcC X.K (ga X.K x)) (hN : X.N[i]? = some y) (hv : Vis X.env.scope y) (hy : okNm y = true)
    (hg : Gl X "isinstance") (hm : X.mg "isinstance" = none) (gA : Gl X A) (dA : (A == ("__debug__" : Str)) = false) (mA : X.mg A = some (.ref (ga X.K A))) (gB : Gl X B) (dB : (B == ("__debug__" : Str)) = false) (mB : X.mg B = some (.ref (ga X.K B)))
    (kA : PySem.W.kitOne X.K (.ref (ga X.K x)) (.ref (ga X.K A)) = some (isSub x A)) (kB : PySem.W.kitOne X.K (.ref (ga X.K x)) (.ref (ga X.K B)) = some (isSub x B)) (h1 : cHs false none e1 = some r1) (h2 : cHs false none e2 = some r2) :
    SuOk X [.If (.BoolOp .And [.Call (.Name (Str.ofString "isinstance") p1) [.Name y p2, .Name A p3] [] p4, .UnaryOp .Not (.Call (.Name (Str.ofString "isinstance") p5) [.Name y p6, .Name B p7] [] p8) p9] p10) [.Return (some (.Tuple e1 n1 p11)) p12] [] p13, .Return (some (.Tuple e2 n2 p14)) pos'] (hrT x (ga X.K x) i (.isi A B r1 r2)) := by
  intro a o cls d pn hz hf
  refine ⟨fun pins s σ H D I h => ?_⟩
  obtain ⟨rfl, rfl, hs, k⟩ := h
  have ce := call_isE (a := a) E hz hf (pn := pn)
  have pv : ∀ q : Pos, PE (X.suite a ((a, o) :: pn)) (.Name y q) (tVar i) := fun q => pe_var (X := X.suite a ((a, o) :: pn)) hN hv (okNm_d hy).1 (okNm_d hy).2.1
  have pA : PE (X.suite a ((a, o) :: pn)) (.Call (.Name (Str.ofString "isinstance") p1) [.Name y p2, .Name A p3] [] p4) (tCB (rIsE X.K (ga X.K x) a) (tCons (tVar i) (tCons (tC (.ref (ga X.K A))) tNil))) :=
    pe_callB (X := X.suite a ((a, o) :: pn)) ce hg hm PyProof.Rows.boot_isinstance (pa_cons (pv p2) (pa_cons (pe_glob (X := X.suite a ((a, o) :: pn)) (v := .ref (ga X.K A)) gA mA rfl dA) pa_nil))
  have pB : PE (X.suite a ((a, o) :: pn)) (.Call (.Name (Str.ofString "isinstance") p5) [.Name y p6, .Name B p7] [] p8) (tCB (rIsE X.K (ga X.K x) a) (tCons (tVar i) (tCons (tC (.ref (ga X.K B))) tNil))) :=
    pe_callB (X := X.suite a ((a, o) :: pn)) ce hg hm PyProof.Rows.boot_isinstance (pa_cons (pv p6) (pa_cons (pe_glob (X := X.suite a ((a, o) :: pn)) (v := .ref (ga X.K B)) gB mB rfl dB) pa_nil))
  have t1 := (hs_ok (X := X) (C := ga X.K x) (i := i) (n := none) (own := false) (fun y z => nomatch z) (fun z => nomatch z) (a := a) hz hf h1 (pn := pn)).1
  have t2 := (hs_ok (X := X) (C := ga X.K x) (i := i) (n := none) (own := false) (fun y z => nomatch z) (fun z => nomatch z) (a := a) hz hf h2 (pn := pn)).1
  refine (pss_cons (ps_if (PW.pt (pw_and (pt_val pA) (pw_and1 (pt_not (pt_val pB))))) (pss_one (ps_ret (pe_tup t1))) pss_nil) (pss_one (ps_ret (pe_tup t2)))).run pins s σ H D I ?_
  refine ⟨.ref a, hs, .ref (ga X.K A), .ref (ga X.K A), isSub x A, rfl, fun u hu => hu, kA, isSub x A, rfl, ?_⟩
  cases hA : isSub x A with
  | false =>
    rw [hA] at k
    exact k
  | true =>
    rw [hA] at k
    refine ⟨.ref a, hs, .ref (ga X.K B), .ref (ga X.K B), isSub x B, rfl, fun u hu => hu, kB, isSub x B, rfl, ?_⟩
    cases hB : isSub x B with
    | false =>
      rw [hB] at k
      exact k
    | true =>
      rw [hB] at k
      exact k
theorem hd_ok {X : Cx} {g : Cfg} {Ω : Orc} {n : Nat} {p : Pos'} {Wi : WX} (A : GdS X g Ω n p Wi) {h : ExceptHandler} {q : Hd} (k : cHd g p h = some q) {hs : List ExceptHandler} {l : List Cl} (r : ClOk X hs l) :
    ClOk X (h :: hs) (mkCl X.K q :: l) ∧ (∀ c, mem c q.ks = true → PySem.W.exmOne X.K (.ref (ga X.K c)) (.ref (ga X.K q.h)) = some (isSub c q.h)) ∧ (asks q.r = true → q.i ≠ none) := by
  obtain ⟨ty, nm, su, hp⟩ := h
  cases ty with
  | none => cases k
  | some ty =>
    cases ty <;> first | (cases k; done) | skip
    rename_i x xp
    simp only [cHd, Option.ite_none_right_eq_some, Option.bind_eq_some_iff] at k
    obtain ⟨hx, own, ho, k⟩ := k
    obtain ⟨hg, hd⟩ := A.toGd.gl hx
    have F := A.exc x own ho
    have nms : Names X x (.ref (ga X.K x)) := ⟨hg, hd, .inl F.g⟩
    have hm : mem x (g.excs.map (·.1)) = true := by
      have : ∀ {l : List (Str × Bool)}, l.lookup x = some own → mem x (l.map (·.1)) = true := by
        intro l
        induction l with
        | nil => exact fun h => nomatch h
        | cons z r ih =>
          intro h
          rw [List.lookup_cons] at h
          show (decide (z.1 = x) || mem x (r.map (·.1))) = true
          cases c : x == z.1 with
          | true => rw [decide_eq_true (eq_of_beq c).symm]; rfl
          | false =>
            rw [c] at h
            rw [ih h, Bool.or_true]
      exact this ho
    have em : ∀ c, mem c (g.excs.map (·.1)) = true → PySem.W.exmOne X.K (.ref (ga X.K c)) (.ref (ga X.K x)) = some (isSub c x) := fun c hc => A.exm c x hc hm
    have ow : own = true → ∃ cn qn fI, PySem.XcX.XcTxt X.K X.mg cn qn (ga X.K x) fI := fun z => by
      obtain ⟨qn, fI, T⟩ := F.own z
      exact ⟨x, qn, fI, T⟩
    cases nm with
    | none =>
      simp only at k
      split at k
      · simp only [Option.map_eq_some_iff] at k
        obtain ⟨rr, k1, rfl⟩ := k
        obtain ⟨s1, s2⟩ := hr_ok (i := 0) (hh := x) k1 (fun y z => nomatch z) ow
        exact ⟨.pl nms s1 r, em, fun z => absurd rfl (s2 z)⟩
      · simp only [Option.bind_eq_some_iff] at k
        obtain ⟨j, k1, k2⟩ := k
        split at k2
        · rename_i d hc
          cases k2
          obtain ⟨a1, a2, a3⟩ := A.toGd.store k1
          refine ⟨.pl nms (fun a o cls d pn hz hf => pss_one (ps_set (X := X.suite a ((a, o) :: pn)) A.nd a1 a2 (cst_pe hc) ?_ a3)) r, em, fun z => nomatch z⟩
          rfl
        · cases k2
      · cases k
    | some y =>
      simp only at k
      split at k
      · simp only [Option.ite_none_right_eq_some, Option.bind_eq_some_iff, Option.map_eq_some_iff] at k
        obtain ⟨hl, i, k1, rr, k2, rfl⟩ := k
        have hN : X.N[i]? = some y := by
          rw [A.N]
          exact ix_of k1
        have hk : X.env.scope.names.lookup y = some .local := by
          rw [A.sc]
          unfold isLocal at hl
          split at hl <;> first | assumption | cases hl
        obtain ⟨s1, s2⟩ := hr_ok (i := i) (n := some y) (hh := x) k2 (fun z hz => by cases hz; exact ⟨hN, .inl hk⟩) ow
        exact ⟨.nm nms hN hk s1 r, em, fun _ z => nomatch z⟩
      · simp only [Option.ite_none_right_eq_some, Option.bind_eq_some_iff, Option.map_eq_some_iff, Bool.and_eq_true, decide_eq_true_eq, Bool.not_eq_true'] at k
        obtain ⟨⟨⟨⟨⟨⟨⟨⟨⟨⟨⟨⟨hl, ho0⟩, rfl⟩, rfl⟩, hbl⟩, rfl⟩, rfl⟩, hok⟩, hgA⟩, hgB⟩, hxA⟩, hxB⟩, i, k1, r1, k2, r2, k3, rfl⟩ := k
        subst ho0
        have hN := ix_of k1
        rw [← A.N] at hN
        have lk : ∀ z, isLocal (p.sc.names.lookup z) = true → X.env.scope.names.lookup z = some .local := fun z h => by
          rw [A.sc]
          unfold isLocal at h
          split at h <;> first | assumption | cases h
        have hk := lk _ hl
        rw [bltin, Bool.and_eq_true] at hbl
        have mm : ∀ {h : Str}, (g.excs.lookup h).isSome = true → mem h (g.excs.map (·.1)) = true ∧ X.mg h = some (.ref (ga X.K h)) := fun {h} e => by
          obtain ⟨b, hb⟩ := Option.isSome_iff_exists.mp e
          refine ⟨?_, (A.exc h b hb).g⟩
          have : ∀ {l : List (Str × Bool)}, l.lookup h = some b → mem h (l.map (·.1)) = true := by
            intro l
            induction l with
            | nil => exact fun h => nomatch h
            | cons z r ih =>
              intro e
              rw [List.lookup_cons] at e
              show (decide (z.1 = h) || mem h (r.map (·.1))) = true
              cases c : h == z.1 with
              | true => rw [decide_eq_true (eq_of_beq c).symm]; rfl
              | false =>
                rw [c] at e
                rw [ih e, Bool.or_true]
          exact this hb
        obtain ⟨mA, vA⟩ := mm hxA
        obtain ⟨mB, vB⟩ := mm hxB
        obtain ⟨E, kA⟩ := A.kit x _ ho mA
        obtain ⟨_, kB⟩ := A.kit x _ ho mB
        obtain ⟨gA, dA⟩ := A.toGd.gl hgA
        obtain ⟨gB, dB⟩ := A.toGd.gl hgB
        exact ⟨.nm nms hN hk (isi_ok E hN (.inl hk) hok (A.toGd.gl hbl.1).1 (A.free _ hbl.2) gA dA vA gB dB vB kA kB k2 k3) r, em, fun _ z => nomatch z⟩
      · cases k
theorem hds_ok {X : Cx} {g : Cfg} {Ω : Orc} {n : Nat} {p : Pos'} {Wi : WX} (A : GdS X g Ω n p Wi) : ∀ {hs : List ExceptHandler} {l : List Hd}, cHds g p hs = some l → ClOk X hs (l.map (mkCl X.K)) ∧ (∀ q ∈ l, ∀ c, mem c q.ks = true → PySem.W.exmOne X.K (.ref (ga X.K c)) (.ref (ga X.K q.h)) = some (isSub c q.h)) ∧ (∀ q ∈ l, asks q.r = true → q.i ≠ none)
  | [], l, h => by
    cases h
    exact ⟨.nil, fun q m => (nomatch m), fun q m => (nomatch m)⟩
  | h :: hs, l, k => by
    have k : ((cHd g p h).bind fun a => (cHds g p hs).map fun b => a :: b) = some l := k
    simp only [Option.bind_eq_some_iff, Option.map_eq_some_iff] at k
    obtain ⟨a, k1, b, k2, rfl⟩ := k
    obtain ⟨r1, r2, r3⟩ := hds_ok A k2
    obtain ⟨s1, s2, s3⟩ := hd_ok A k1 r1
    exact ⟨s1, fun q m => by
      rcases List.mem_cons.mp m with rfl | m
      · exact s2
      · exact r2 q m, fun q m => by
      rcases List.mem_cons.mp m with rfl | m
      · exact s3
      · exact r3 q m⟩
/-- in a try -/
theorem GdS.tr {X : Cx} {g : Cfg} {Ω : Orc} {n : Nat} {p : Pos'} {Wi W : WX} (A : GdS X g Ω n p Wi) {pn : List (Addr × Obj)} {xe : Value → Shared → Prop} (tk : Takes (X.tr pn xe) W) (po : PassesOwn (model X.prog X.w) X.A X.env xe) : GdS (X.tr pn xe) g Ω n p W where
  calm := A.calm
  nd := A.nd
  N := A.N
  sc := A.sc
  kind := A.kind
  tk := tk
  room := A.room
  gds := A.gds
  st := A.st
  fns := A.fns
  mets := A.mets
  clss := A.clss
  free := A.free
  cst := A.cst
  po := po
  exc := A.exc
  exm := A.exm
  kit := A.kit
  stk := A.stk
  frm := A.frm
theorem pl_ok (A : Gd X g Ω n p Wi) {k : Nat} {e : Expr} {pl : Pl} (h : cPl g own k p e = some pl) : PE X e (rdP X.K Ω Wi pl) := by
  have gen : (cE g k p e).map .tm = some pl → PE X e (rdP X.K Ω Wi pl) := fun h => by
    simp only [Option.map_eq_some_iff] at h
    obtain ⟨t, h1, rfl⟩ := h
    exact p_tm ((all_ok g Ω n k).E A h1).1
  cases e
  case Name x q =>
    simp only [cPl] at h
    split at h
    · simp only [Option.map_eq_some_iff] at h
      obtain ⟨i, h1, rfl⟩ := h
      exact p_slot (A.var h1)
    · exact gen h
  all_goals exact gen h
theorem pl_slot {k : Nat} {e : Expr} {pl : Pl} (h : cPl g own k p e = some pl) : (∃ i, pl = .slot i) ∨ ∃ t, pl = .tm t ∧ cE g k p e = some t := by
  have gen : (cE g k p e).map .tm = some pl → (∃ i, pl = .slot i) ∨ ∃ t, pl = .tm t ∧ cE g k p e = some t := fun h => by
    simp only [Option.map_eq_some_iff] at h
    obtain ⟨t, h1, rfl⟩ := h
    exact .inr ⟨t, rfl, h1⟩
  cases e
  case Name x q =>
    simp only [cPl] at h
    split at h
    · simp only [Option.map_eq_some_iff] at h
      obtain ⟨i, h1, rfl⟩ := h
      exact .inl ⟨i, rfl⟩
    · exact gen h
  all_goals exact gen h
/-- a value to be stored -/
theorem v_gen (A : Gd X g Ω n p Wi) {k : Nat} {e : Expr} {t : Tm} {c : Bool} (h : ((cE g k p e).bind fun t => if c && fresh t then some (.shr t) else some t) = some t) : PE X e (rd X.K Ω Wi (rE X.K) t) := by
  simp only [Option.bind_eq_some_iff] at h
  obtain ⟨s, h1, h2⟩ := h
  obtain ⟨k1, k2⟩ := (all_ok g Ω n k).E A h1
  split at h2
  · rename_i c1
    cases h2
    rw [Bool.and_eq_true] at c1
    exact s_shr (k2 c1.2)
  · cases h2
    exact k1
theorem v_ok (A : Gd X g Ω n p Wi) {k : Nat} {e : Expr} {t : Tm} {sh dt : Bool} (h : cV g k p sh dt e = some t) : PE X e (rd X.K Ω Wi (rE X.K) t) := by
  cases e
  case Dict ks vs q =>
    cases ks with
    | nil =>
      cases vs with
      | nil =>
        have h : some (if dt then Tm.dnT else .dnK) = some t := h
        cases h
        cases dt with
        | true => exact s_dnT
        | false => exact s_dnK
      | cons _ _ => exact v_gen (k := k) (c := sh) A h
    | cons _ _ => exact v_gen (k := k) (c := sh) A h
  all_goals exact v_gen (k := k) (c := sh) A h
/-- a statement that stores a value under a name -/
theorem nm_v (A : Gd X g Ω n p Wi) {e : Expr} {t : Tm} {x : Str} {i : Nat} {q pos : Pos} (hp : plainC e = true) (hi : stOf p x = some i) (hc : isLc e = false) (h : PE X e (rd X.K Ω Wi (rE X.K) t)) :
    PS X (.Assign [.Name x q] e pos) (tAsg (rd X.K Ω Wi (rE X.K) t) (gName i)) := by
  obtain ⟨a, b, c⟩ := A.store hi
  refine b_set A.nd a b h A.kind hp ?_ c
  cases e <;> first | rfl | cases hc
/-- a statement that stores a value under a name -/
theorem nm_asg (A : Gd X g Ω n p Wi) {k : Nat} {e : Expr} {t : Tm} {x : Str} {i : Nat} {q pos : Pos} (hp : plainC e = true) (h : cE g k p e = some t) (hi : stOf p x = some i) :
    PS X (.Assign [.Name x q] e pos) (tAsg (rd X.K Ω Wi (rE X.K) t) (gName i)) ∧ (fresh t = true → PS X (.Assign [.Name x q] e pos) (tAsg (rdF X.K Ω Wi t) (gName i))) := by
  obtain ⟨a, b, c⟩ := A.store hi
  obtain ⟨h1, h2⟩ := (all_ok g Ω n k).E A h
  cases sw : swB X.env x q e with
  | false => exact ⟨b_set A.nd a b h1 A.kind hp sw c, fun f => b_set A.nd a b (h2 f) A.kind hp sw c⟩
  | true =>
    cases e with
    | ListComp el gs scope lp =>
      cases k with
      | zero => cases h
      | succ k =>
        simp only [cE] at h
        split at h
        · split at h
          · rename_i e0
            subst e0
            obtain ⟨own, tg', i', c', l', rfl, k1, k2, k3, k4, k5, k6, k7⟩ := (all_ok g Ω n k).Lc A h
            have hl : X.env.scope.names.lookup x = some .local := by
              have sw : ((X.env.scope.names.lookup x == some .local) && (q.line == lp.line) && !ownsB scope x) = true := sw
              rw [Bool.and_eq_true, Bool.and_eq_true] at sw
              have := sw.1.1
              revert this
              cases X.env.scope.names.lookup x with
              | none => exact fun z => nomatch z
              | some kd => cases kd <;> first | exact fun _ => rfl | exact fun z => nomatch z
            have := ps_setLc (spos := pos) A.calm A.nd a hl ((sw_of A.kind hp).trans (by rw [sw])) k1 k2 k3 k4 k5 (folded_plain k6)
            have hF : PS X (.Assign [.Name x q] (.ListComp el [_] scope lp) pos) (tAsg (rdF X.K Ω Wi _) (gName i)) := PS.imp this fun D σ H z => comp_imp k7 z
            exact ⟨PS.imp hF fun D σ H z => frz z, fun _ => hF⟩
          · cases h
        · cases h
    | _ => cases sw
theorem cmp_noset {e : Expr} {k : Nat} {t : Tm} (h : cE g k p e = some t) : True := trivial
structure SOk (g : Cfg) (own : List Str) (Ω : Orc) (n k : Nat) : Prop where
  S : ∀ {X : Cx} {p : Pos'} {Wi : WX}, GdS X g Ω n p Wi → ∀ {st : Stmt} {t : St}, cS g own k p st = some t → PS X st (rdS X.K Ω Wi t)
  Xx : ∀ {X : Cx} {p : Pos'} {Wi : WX}, GdS X g Ω n p Wi → ∀ {e : Expr} {t : St} {pos : Pos}, cX g own k p e = some t → PS X (.Expr e pos) (rdS X.K Ω Wi t)
  Aa : ∀ {X : Cx} {p : Pos'} {Wi : WX}, GdS X g Ω n p Wi → ∀ {tg e : Expr} {t : St} {pos : Pos}, cA g own k p tg e = some t → PS X (.Assign [tg] e pos) (rdS X.K Ω Wi t)
  Ss : ∀ {X : Cx} {p : Pos'} {Wi : WX}, GdS X g Ω n p Wi → ∀ {sts : List Stmt} {t : St}, cSs g own k p sts = some t → PSs X sts (rdS X.K Ω Wi t)
theorem ok_X {k : Nat} (A : GdS X g Ω n p Wi) {e : Expr} {t : St} {pos : Pos} (h : cX g own (k + 1) p e = some t) : PS X (.Expr e pos) (rdS X.K Ω Wi t) := by
  have A := A.toGd
  cases e
  case Constant c j q =>
    cases c <;> simp only [cX] at h
    case str z =>
      cases h
      exact b_doc
    all_goals cases h
  case Call fn as kw cp =>
    have plain : ∀ {t : St}, (cE g k p (.Call fn as kw cp)).map .expr = some t → PS X (.Expr (.Call fn as kw cp) pos) (rdS X.K Ω Wi t) := fun {t} h => by
      simp only [Option.map_eq_some_iff] at h
      obtain ⟨s, h1, rfl⟩ := h
      exact b_expr ((all_ok g Ω n k).E A h1).1 rfl
    cases fn
    case Attribute o m ap =>
      simp only [cX] at h
      split at h
      · split at h
        · rename_i e
          rw [Bool.and_eq_true, decide_eq_true_eq] at e
          obtain ⟨e, _⟩ := e
          subst e
          simp only [Option.ite_none_right_eq_some, Option.bind_eq_some_iff, Option.map_eq_some_iff, Bool.and_eq_true] at h
          obtain ⟨⟨⟨pa, pb⟩, hl⟩, pl, h1, s, h2, h3⟩ := h
          have hv := v_ok A h2
          rcases pl_slot h1 with ⟨i, rfl⟩ | ⟨u, rfl, h4⟩
          · cases h3
            exact b_app (pl_ok A h1) hv pa pb hl
          · cases h3
            exact b_expr (rE_of (s_append (rB_of ((all_ok g Ω n k).E A h4).1) (s_cons hv s_nil pa) pb (by rw [List.all_cons, pa]; rfl) (by show 1 < 30; decide) hl)) rfl
        · exact plain h
      · exact plain h
    all_goals
      simp only [cX] at h
      exact plain h
  all_goals
    simp only [cX] at h
    cases h
theorem ok_A {k : Nat} (A : GdS X g Ω n p Wi) {tg e : Expr} {t : St} {pos : Pos} (h : cA g own (k + 1) p tg e = some t) : PS X (.Assign [tg] e pos) (rdS X.K Ω Wi t) := by
  have A := A.toGd
  cases tg
  case Name x q =>
    simp only [cA, Option.ite_none_right_eq_some, Option.bind_eq_some_iff] at h
    obtain ⟨hp, i, hi, h⟩ := h
    split at h
    · simp only [Option.ite_none_right_eq_some, Option.bind_eq_some_iff] at h
      obtain ⟨s, h1, f, h⟩ := h
      cases h
      exact b_own ((nm_asg (q := q) (pos := pos) A hp h1 hi).2 f)
    · simp only [Option.map_eq_some_iff] at h
      obtain ⟨s, h1, rfl⟩ := h
      cases hc : isLc e with
      | false => exact b_nmE (nm_v A hp hi hc (v_ok A h1))
      | true =>
        have h1 : ((cE g k p e).bind fun t => if mem x g.shr && fresh t then some (.shr t) else some t) = some s := by
          cases e <;> first | exact h1 | (cases hc; done)
        simp only [Option.bind_eq_some_iff] at h1
        obtain ⟨u, h3, h4⟩ := h1
        have k1 := nm_asg (q := q) (pos := pos) A hp h3 hi
        split at h4
        · rename_i c1
          cases h4
          rw [Bool.and_eq_true] at c1
          exact b_nmE (PS.imp (k1.2 c1.2) fun D σ H z => shr_imp z)
        · cases h4
          exact b_nmE k1.1
  case Subscript o ie q =>
    simp only [cA, Option.ite_none_right_eq_some, Option.bind_eq_some_iff, Option.map_eq_some_iff, Bool.and_eq_true, Bool.not_eq_true'] at h
    obtain ⟨⟨hp, hc⟩, pl, h1, i, h2, s, h3, rfl⟩ := h
    refine b_setI (by have := units_of A; omega) (pl_ok A h1) ((all_ok g Ω n k).E A h2).1 ((all_ok g Ω n k).E A h3).1 hp ?_
    cases e <;> first | rfl | cases hc
  case Attribute o f q =>
    simp only [cA, Option.ite_none_right_eq_some, Option.bind_eq_some_iff, Option.map_eq_some_iff, Bool.and_eq_true] at h
    obtain ⟨⟨hf, hp⟩, s, h1, u, h2, rfl⟩ := h
    refine b_setF ((all_ok g Ω n k).E A h1).1 (v_ok A h2) ?_ hf
    cases e <;> first | rfl | cases hp
  case Tuple es m q =>
    simp only [cA, Option.ite_none_right_eq_some, Option.bind_eq_some_iff, Option.map_eq_some_iff, Bool.and_eq_true, Bool.not_eq_true'] at h
    obtain ⟨⟨hp, hc⟩, tg', h1, s, h2, rfl⟩ := h
    refine b_asg (b_tgt ((all_ok g Ω n k).E A h2).1 (tg_ok A h1) hc rfl ?_ (by cases isLc e <;> simp))
    cases e <;> first | rfl | cases hp
  all_goals
    simp only [cA] at h
    cases h
theorem ok_S {k : Nat} (ih : SOk g own Ω n k) (A : GdS X g Ω n p Wi) {st : Stmt} {t : St} (h : cS g own (k + 1) p st = some t) : PS X st (rdS X.K Ω Wi t) := by
  cases st
  case Pass q =>
    simp only [cS] at h
    cases h
    exact b_pass
  case Break q =>
    simp only [cS] at h
    cases h
    exact b_brk
  case Continue q =>
    simp only [cS] at h
    cases h
    exact b_cnt
  case Expr e q =>
    simp only [cS] at h
    exact ih.Xx A h
  case Return v q =>
    cases v with
    | none =>
      simp only [cS] at h
      cases h
      exact b_retN
    | some e =>
      cases e
      case Name x q =>
        simp only [cS] at h
        split at h
        · simp only [Option.map_eq_some_iff] at h
          obtain ⟨i, h1, rfl⟩ := h
          exact b_retO (A.toGd.var h1)
        · simp only [Option.map_eq_some_iff] at h
          obtain ⟨s, h1, rfl⟩ := h
          exact b_ret ((all_ok g Ω n k).E A.toGd h1).1
      all_goals
        simp only [cS, Option.map_eq_some_iff] at h
        obtain ⟨s, h1, rfl⟩ := h
        exact b_ret (v_ok A.toGd h1)
  case If c a b q =>
    simp only [cS, Option.bind_eq_some_iff, Option.map_eq_some_iff] at h
    obtain ⟨s, h1, u, h2, v, h3, rfl⟩ := h
    exact b_ite ((all_ok g Ω n k).T A.toGd h1) (ih.Ss A h2) (ih.Ss A h3)
  case For tg it b orelse q =>
    cases orelse with
    | cons _ _ =>
      simp only [cS] at h
      cases h
    | nil =>
      simp only [cS, Option.ite_none_right_eq_some, Option.bind_eq_some_iff, Option.map_eq_some_iff] at h
      obtain ⟨hs, tg', h1, i, h2, u, h3, rfl⟩ := h
      exact b_loop A.po A.calm ((all_ok g Ω n k).I A.toGd h2) (tg_ok A.toGd h1) (ih.Ss A h3) hs
  case While c b orelse q =>
    cases orelse with
    | cons _ _ =>
      simp only [cS] at h
      cases h
    | nil =>
      simp only [cS, Option.bind_eq_some_iff, Option.map_eq_some_iff] at h
      obtain ⟨s, h1, u, h2, rfl⟩ := h
      exact b_whl A.po ((all_ok g Ω n k).T A.toGd h1) (ih.Ss A h2)
  case Raise e fr q =>
    cases fr with
    | some _ => cases e <;> cases h
    | none =>
      cases e with
      | none => cases h
      | some e =>
        cases e <;> first | (cases h; done) | skip
        rename_i fn as kw cp
        cases fn <;> first | (cases h; done) | skip
        rename_i x xp
        match as, kw, h with
        | [a], [], h =>
          simp only [cS, Option.ite_none_right_eq_some] at h
          obtain ⟨hx, h⟩ := h
          obtain ⟨hg, hd⟩ := A.toGd.gl hx
          split at h
          · rename_i hl
            simp only [Option.ite_none_right_eq_some, Option.map_eq_some_iff] at h
            obtain ⟨hp, s, h1, rfl⟩ := h
            exact b_raise1 A.calm A.tk A.room (A.exc x true hl) hg hd ((all_ok g Ω n k).E A.toGd h1).1 hp
          · rename_i hl
            split at h
            · cases h
              exact b_raise0 A.calm A.tk (A.exc x false hl) hg hd
            · cases h
          · cases h
        | [], _, h => cases h
        | [_], _ :: _, h => cases h
        | _ :: _ :: _, _, h => cases h
  case Try b hs el fi q =>
    match hs, el, fi, h with
    | h0 :: hs, [], [], h =>
      simp only [cS, Option.bind_eq_some_iff, Option.map_eq_some_iff] at h
      obtain ⟨u, h1, l, h2, rfl⟩ := h
      obtain ⟨k1, k2, k3⟩ := hds_ok A h2
      exact b_try A.nd A.stk A.frm A.tk (fun W pn xe tk po => ih.Ss (A.tr tk po) h1) k1 k2 k3
    | [], _, _, h => cases h
    | _ :: _, _ :: _, _, h => cases h
    | _ :: _, [], _ :: _, h => cases h
  case Delete ts q =>
    simp only [cS] at h
    split at h
    · simp only [Option.ite_none_right_eq_some, Option.bind_eq_some_iff, Option.map_eq_some_iff] at h
      obtain ⟨hp, s, h1, u, h2, rfl⟩ := h
      exact b_del ((all_ok g Ω n k).E A.toGd h1).1 ((all_ok g Ω n k).E A.toGd h2).1
    · cases h
  case Assign ts e q =>
    simp only [cS] at h
    split at h
    · exact ih.Aa A h
    · cases h
  all_goals
    simp only [cS] at h
    cases h
theorem stm_ok (g : Cfg) (own : List Str) (Ω : Orc) (n : Nat) : ∀ k, SOk g own Ω n k
  | 0 => by
    constructor <;> intro X p Wi A <;> intros <;> (rename_i h; cases h)
  | k + 1 =>
    have ih := stm_ok g own Ω n k
    { S := fun {_ _ _} A {_ _} h => ok_S ih A h
      Xx := fun {_ _ _} A {_ _ _} h => ok_X A h
      Aa := fun {_ _ _} A {_ _ _ _} h => ok_A A h
      Ss := fun {_ _ _} A {sts t} h => by
        cases sts with
        | nil =>
          simp only [cSs] at h
          cases h
          exact b_nil
        | cons st r =>
          simp only [cSs, Option.bind_eq_some_iff, Option.map_eq_some_iff] at h
          obtain ⟨a, h1, b, h2, rfl⟩ := h
          exact b_cons (ih.S A h1) (ih.Ss A h2) }
end
end TX

set_option maxRecDepth 100000
set_option maxHeartbeats 4000000
/-! TX, part 14: a def by its text; the law's end. -/
namespace TX
open PySem PySem.Spec PyProof.Rows L2 He

section
variable {P : Program} {w : World} {K : PySem.W.Frag} {mg : Str → Option Value} {base : Heap}
theorem df_len {Ω : Orc} {d : Df} {xs : List D} {S : Sto} (h : d.run Ω xs S ≠ .stk) : xs.length = d.par := by
  by_cases c : xs.length = d.par
  · exact c
  · exact absurd (if_neg c) h
theorem Rel.begin {G : Gu} {W : Wd} {S : Sto} {H : Hp} {vs : List V} {ds : List D} {N : List Str} {t : St} {k : Nat} (R : Rel K G W [] S [] H) (r : RpAll K W vs ds) (hl : vs.length ≤ N.length) : Rel K G W (Df.start ⟨k, N.length, t⟩ ds) S (start N vs) H := by
  have hlen := r.length
  refine R.slots ?_ fun i c h => ?_
  · unfold Df.start L2.start
    simp only [List.length_append, List.length_map, List.length_replicate]
    omega
  · unfold Df.start at h
    by_cases hi : i < ds.length
    · rw [List.getElem?_append_left (by rw [List.length_map]; exact hi), List.getElem?_map, List.getElem?_eq_getElem hi] at h
      cases h
      obtain ⟨v, h1, h2⟩ := r.get (List.getElem?_eq_getElem hi)
      refine ⟨v, ?_, h2⟩
      unfold L2.start
      rw [List.getElem?_append_left (by rw [List.length_map, hlen]; exact hi), List.getElem?_map, h1]
      rfl
    · rw [List.getElem?_append_right (by rw [List.length_map]; omega), List.getElem?_replicate] at h
      split at h
      · cases h
        trivial
      · cases h
/-- what is known of the module -/
structure Md (P : Program) (w : World) (K : PySem.W.Frag) (mg : Str → Option Value) (base : Heap) (g : Cfg) (Ω : Orc) (n : Nat) : Prop where
  fns : ∀ x, mem x g.fns = true → FnF P w K mg base Ω n x
  mets : ∀ c m, MetF P w K mg base Ω n c m
  clss : ∀ c, mem c g.clss = true → MkF P w K mg base Ω n c
  free : ∀ x, mem x g.free = true → mg x = none
  cst : ∀ x d, g.cst.lookup x = some d → ∃ v u, mg x = some u ∧ RelV v u ∧ ∀ w, Rp K w v d
  exc : ∀ c b, g.excs.lookup c = some b → XcOk K mg c b
  exm : ∀ c h, mem c (g.excs.map (·.1)) = true → mem h (g.excs.map (·.1)) = true → PySem.W.exmOne K (.ref (ga K c)) (.ref (ga K h)) = some (isSub c h)
  kit : ∀ c h, g.excs.lookup c = some false → mem h (g.excs.map (·.1)) = true → ExcC K (ga K c) ∧ PySem.W.kitOne K (.ref (ga K c)) (.ref (ga K h)) = some (isSub c h)
/-- THE RULE: a def by its text -/
theorem fnG_of {x qual : Str} {params : Arguments} {body : List Stmt} {scope : Scope} {f : Addr} {fd : FuncData} {N ps : List Str} {g : Cfg} {own : List Str} {Ω Ω' : Orc} {key : Ky} {n fuel : Nat} {t : St}
    (F : FunD K x qual params body scope [] [] f fd) (S : FnScope N ps scope) (comp : cSs g own fuel ⟨N, scope, scope.names⟩ body = some t) (M : Md P w K mg base g Ω n)
    (hΩ : ∀ ds S, Ω' key ds S = Df.run Ω ⟨ps.length, N.length, t⟩ ds S) : FnG P w K mg base (n + 1) f fd ps (spOf K Ω' key) := by
  have len : ∀ vs H Q E, spOf K Ω' key vs H Q E → vs.length = ps.length := fun vs H Q E ⟨G, W, S, ds, R, r, Po⟩ => by
    rw [r.length]
    rw [hΩ] at Po
    exact df_len fun z => by
      rw [z] at Po
      exact Po
  refine ⟨len, fun A outer s H args us vs Q E hr hgd e0 hb r hsp => ?_⟩
  obtain ⟨oc, od, dV, kV, doc, pm, an, cdv, ct, osl, rfl, lk, hcd, _, _⟩ := F.ex
  have hl := len _ _ _ _ hsp
  have KX := e0.mod.kin.keeps fun b o e => (e0.bs b o e).1
  have lim := e0.mod.nolimit.keeps fun b o e => (e0.bs b o e).1
  have hkind : ∀ y ∈ ps.zip us, scope.names.lookup y.1 = some .local ∨ (scope.names.lookup y.1 = some .cell ∧ ((cellsFrom (s.heap.objs.size + 1) scope.names []).lookup y.1).isSome = true) := fun y hy => by
    rcases S.par y.1 (List.of_mem_zip (a := y.1) (b := y.2) hy).1 with q | q
    · exact .inl q
    · exact .inr ⟨q, PySem.W.cellsFrom_some _ _ _ (.inl q)⟩
  refine codeAny_call_function hr.depth (KX _ _ lk) rfl S.co S.gen rfl (PySem.W.codeRec_of KX hcd) (hb _ _ _ _ (wpAny_newFunctionEnv_cells S.kind hkind fun env he s1 z => ?_))
  subst he
  refine ⟨lim.keeps z.toInCall.keep, codeAny_func ?_⟩
  have I := inv_start (N := N) (CX := L2.CX P w) (E := E) S hr.hd e0 hl r z
  have A1 : GdS (cxOf (L2.CX P w) P w K mg base N qual scope f cdv A outer s H E) g Ω n ⟨N, scope, scope.names⟩ (fun cls d _ H => E cls d H) :=
    { calm := rfl, nd := S.nd, N := rfl, sc := rfl, kind := S.kind, tk := L2.takes_of rfl rfl rfl rfl, room := hr.deeper _, gds := hgd
      st := fun y h => by
        have h : isLoc (scope.names.lookup y) = true := h
        unfold isLoc at h
        split at h
        · rename_i e
          exact ⟨.inl e, .inl rfl⟩
        · rename_i e
          exact ⟨.inr e, .inl rfl⟩
        · cases h
      fns := M.fns, mets := M.mets, clss := M.clss, free := M.free, cst := M.cst, po := L2.passes_of rfl, exc := M.exc, exm := M.exm, kit := M.kit, stk := rfl, frm := rfl }
  obtain ⟨G, W, S0, ds, R, rd, Po⟩ := hsp
  have hlN : vs.length ≤ N.length := by
    have := congrArg List.length S.pre
    rw [List.length_take] at this
    omega
  have read : rdS K Ω (fun cls d _ H => E cls d H) t { nx := fun _ H' => Q .non H', rt := Q } (start N vs) H := by
    refine ⟨G, W, _, S0, R.begin (t := t) (k := ps.length) rd hlN, ?_⟩
    rw [hΩ] at Po
    have hds : ds.length = ps.length := by
      rw [← rd.length]
      exact hl
    unfold Df.run at Po
    rw [if_pos hds] at Po
    revert Po
    show Post K G [] [] _ W (match ex Ω t (Df.start ⟨ps.length, N.length, t⟩ ds) S0 with
      | .nx _ S' => .ok .non S'
      | .ret v S' => .ok v S'
      | .exc c x _ S' => .exc c x S'
      | _ => .stk) _ → _
    cases ex Ω t (Df.start ⟨ps.length, N.length, t⟩ ds) S0 with
    | nx ρ S' => exact fun Po w' σ' H' e R' => Po w' H' e R'.noSlots _ .non
    | ret v S' => exact fun Po w' H' u e R' ru => Po w' H' e R' u ru
    | exc c x ρ S' => exact fun Po w' σ' H' cls d e R' ex => Po w' H' cls d e R'.noSlots ex
    | brk ρ S' => exact fun Po => False.elim Po
    | cnt ρ S' => exact fun Po => False.elim Po
    | stk => exact fun Po => Po
  have fin : ∀ {σ' : L2.St} {H' : Hp} {v : V} {u : Value} {s' : Shared}, Inv (cxOf (L2.CX P w) P w K mg base N qual scope f cdv A outer s H E) [] σ' H' s' → RelV v u → Q v H' → CE outer P w H s Q u s' :=
    fun {σ' H' v u s'} J rv q => ⟨v, H', J.os, J.bare, J.base, J.hok, rv, q⟩
  refine wpAny_mono (((stm_ok g own Ω n fuel).Ss A1 comp).run [] s1 (start N vs) H _ I read) (fun fl s' hs => ?_) fun _ _ hs => hs
  match fl, hs with
  | .ret u, ⟨v, σ', H', J, rv, q⟩ => exact fin J rv q
  | .next, ⟨σ', H', J, q⟩ => exact fin (v := V.non) (u := Value.none) J rfl q
  | .brk, ⟨_, _, _, q⟩ => exact q.elim
  | .cont, ⟨_, _, _, q⟩ => exact q.elim
end
/-! ### the end of a law -/
section
variable {P : Program} {w : World} {K : PySem.W.Frag} {mg mb : Str → Option Value} {fa a : Addr} {fd : FuncData} {x : Str} {s₁ : Shared} {vs : List Value} {ns : List Int}
/-- the abstract heap at the caller: nothing but the script -/
theorem at_caller (KX : K.In s₁.heap) (hns : s₁.heap.Ns mainGlobals mg) (hb : s₁.heap.Ns builtinsNs mb) (hbb : ∀ x : Str, x ≠ "__name__" → mb x = bootBuiltins x) (hlim : s₁.heap.NoLimit) (hg : s₁.gens = #[])
    (ha : s₁.heap.get? a = some { cls := .type "list", data := .seq vs.toArray }) (hi : IntsAre vs ns) (hl : ns.length ≤ sizeLine) :
    ∃ H base, Env0 P w K mg base callerA [] s₁ H ∧ Only H ∧ SqL K H a (ns.map V.int) ∧ K.In base ∧ base.Ns mainGlobals mg ∧ ∀ (H' : Hp) (h' : Heap), Un [] [] H H' s₁.heap h' → HOk P w H' h' → OldK s₁.heap h' := by
  have rv := vals_ints hi
  have lv := hi.length
  suffices key : ∃ H : Hp, Only H ∧ SqL K H a (ns.map V.int) ∧ HOk P w H s₁.heap ∧ (∀ b, H b ≠ none → b = a) ∧ (H a ≠ none → K.lookup a = none) by
    obtain ⟨H, hO, hS, hok, hA, hK⟩ := key
    have free : ∀ {b : Addr}, b ≠ a → H b = none := fun {b} hn => Classical.byContradiction fun z => hn (hA b z)
    have dictF : ∀ {b : Addr} {o : Obj} {es : Array DictEntry} {ep : Nat}, s₁.heap.get? b = some o → o.data = .dict es ep → H b = none := fun {b o es ep} e d => free fun z => by
      subst z
      rw [ha] at e
      cases e
      exact nomatch d
    have nsK : ∀ {b : Addr} {m : Str → Option Value}, s₁.heap.Ns b m → (hidT s₁.heap H).Ns b m := fun {b m} ⟨o, es, ep, e, d, r⟩ => ⟨o, es, ep, hidT_get e (dictF e d), d, r⟩
    have hKb : K.In (hidT s₁.heap H) := fun b o e => hidT_get (KX b o e) (Classical.byContradiction fun z => by
      have eb := hA b z
      subst eb
      rw [hK z] at e
      cases e)
    refine ⟨H, hidT s₁.heap H, ⟨rfl, ⟨hKb, nsK hns, ⟨mb, nsK hb, hbb⟩, ?_⟩, fun b o e => of_hidT e, Nat.le_of_eq (hidT_size _ _), trivial, fun b hb => absurd hb List.not_mem_nil, hok, .of_eq hg⟩, hO, hS, hKb, nsK hns, fun H' h' un hok' => OldK.of_keep fun b o e => ?_⟩
    · obtain ⟨mc, h1, h2⟩ := hlim
      exact ⟨mc, nsK h1, h2⟩
    · cases q : H b with
      | none => exact un.keep b o e q List.not_mem_nil List.not_mem_nil
      | some u =>
        rcases hO b with z | ⟨ob, xs, z⟩
        · rw [q] at z
          cases z
        · obtain ⟨e1, _⟩ := hok b _ z
          obtain ⟨e2, _⟩ := hok' b _ (un.frzs b ob _ z)
          rw [e] at e1
          cases e1
          exact e2
  cases hk : K.lookup a with
  | some o =>
    have e := KX a o hk
    rw [ha] at e
    cases e
    refine ⟨fun _ => none, fun _ => .inl rfl, .inr ⟨_, vs.toArray, _, hk, rfl, rfl, rfl, by rw [List.size_toArray, lv]; exact hl, by simpa using rv⟩, ?_, fun b z => absurd rfl z, fun z => absurd rfl z⟩
    intro b u z
    have z : (none : Option HO) = some u := z
    cases z
  | none =>
    refine ⟨fun b => if b = a then some (.frz { cls := .type "list", data := .seq vs.toArray } (.lst (ns.map V.int))) else none, fun b => ?_, .inl (.inr ⟨_, if_pos rfl⟩), fun b u z => ?_, fun b z => ?_, fun _ => rfl⟩
    · by_cases c : b = a
      · exact .inr ⟨_, _, if_pos c⟩
      · exact .inl (if_neg c)
    · by_cases c : b = a
      · cases (if_pos c).symm.trans z
        subst c
        exact ⟨ha, by rw [List.length_map]; exact hl, vs, _, rv, ha⟩
      · cases (if_neg c).symm.trans z
    · exact Classical.byContradiction fun c => z (if_neg c)
theorem rp_ints {W : Wd} : ∀ ns : List Int, RpAll K W (ns.map V.int) (ns.map D.int)
  | [] => .nil
  | n :: ns => .cons (.int n) (rp_ints ns)
/-- the run says True -/
theorem law_end {Ω : Orc} {key : Ky} {k : Nat} (KX : K.In s₁.heap) (hns : s₁.heap.Ns mainGlobals mg) (hb : s₁.heap.Ns builtinsNs mb) (hbb : ∀ x : Str, x ≠ "__name__" → mb x = bootBuiltins x) (hlim : s₁.heap.NoLimit) (hg : s₁.gens = #[])
    (ha : s₁.heap.get? a = some { cls := .type "list", data := .seq vs.toArray }) (hi : IntsAre vs ns) (hl : ns.length ≤ sizeLine) (hr : Room k callerA)
    (F : ∀ base : Heap, K.In base → base.Ns mainGlobals mg → FnG P w K mg base k fa fd [x] (spOf K Ω key)) (hbind : ∀ (s : Shared) (u : Value), BindsTo s fd ⟨[u], []⟩ [(x, u)])
    (law : ∃ S, Ω key [.scr (ns.map D.int)] [] = .ok (.bl true) S) :
    codeAny (model P w) callerA (.call (.ref fa) ⟨[.ref a], []⟩) (fun r s' => r = .ok (.ret (.bool true)) ∧ OldK s₁.heap s'.heap ∧ s'.os = s₁.os ∧ AllBare s'.gens) s₁ := by
  obtain ⟨H, base, e0, hO, hS, hKb, hnb, old⟩ := at_caller (P := P) (w := w) KX hns hb hbb hlim hg ha hi hl
  obtain ⟨S, hlaw⟩ := law
  have sp : spOf K Ω key [.ref a] H (fun v _ => v = .bl true) fun _ _ _ => False := by
    let W : Wd := ⟨fun _ => 0, fun _ => 0, fun _ _ => 0, H, fun _ => none, 0⟩
    have R : Rel K ⟨fun _ => none, fun _ => 0, fun _ => ⟨.none, none, .fields #[], #[]⟩⟩ W [] [] [] H := { fz := fun b o q => ⟨q, rfl⟩, gd := fun b o q => (by have q : (none : Option HO) = some o := q; cases q), tr := fun b q => absurd rfl q, len := rfl, slot := fun i c q => (by cases q), n := rfl, cell := fun i c q => (by cases q) }
    refine ⟨_, W, [], [.scr (ns.map D.int)], R, .cons (.scr hS (by rw [List.length_map]; exact hl) (rp_ints ns)) .nil, ?_⟩
    rw [hlaw]
    intro w' H' _ _ v hv
    cases hv
    rfl
  refine codeAny_mono ((F base hKb hnb).run callerA [] s₁ H ⟨[.ref a], []⟩ [.ref a] [.ref a] _ _ hr rfl e0 (hbind s₁ (.ref a)) (.cons rfl .nil) sp) fun r s' h => ?_
  match r, h with
  | .error e, h =>
    obtain ⟨_, _, _, _, _, _, _, _, _, _, _, _, z⟩ := h
    exact z.elim
  | .ok (.ret u), ⟨v, H', os, bare, un, hok', r', q⟩ =>
    cases q
    cases (show u = Value.bool true from r')
    exact ⟨rfl, old _ _ un hok', os, bare⟩
  | .ok .next, h => exact False.elim h
  | .ok .brk, h => exact False.elim h
  | .ok .cont, h => exact False.elim h
end
/-- a law's walk: F gives what is written, the def's object, its promise -/
theorem walk_G {l : PySem.W.OpenLaw} {n k : Nat} {q : Program} {loose : List Str} {XP : (Str → Option Value) → Heap → Prop} {YP : World → Heap → Prop} {d : DefRec} {x : Str} {Ω : Orc} {key : Ky}
    (hn : l.most = some n) (hn2 : n ≤ sizeLine) (hdf : d.params.defaults = []) (hr : Room k callerA)
    (F : ∀ (w : World) (mg : Str → Option Value) (fa : Addr) (h : Heap), YP w h → h.Ns mainGlobals mg → mg d.name = some (.ref fa) →
      ∃ (K : PySem.W.Frag) (fd : FuncData), K.In h ∧ (∀ (s : Shared) (u : Value), BindsTo s fd ⟨[u], []⟩ [(x, u)]) ∧ ∀ base : Heap, K.In base → base.Ns mainGlobals mg → FnG l.prog w K mg base k fa fd [x] (spOf K Ω key))
    (law : ∀ ns : List Int, ns.length ≤ n → ∃ S, Ω key [.scr (ns.map D.int)] [] = .ok (.bl true) S) :
    PySem.W.WalkO q loose XP YP l.row.toRowW d [] (fun f vs => PySem.call f vs) := by
  refine Att.attach_call hn hdf fun w s₀ s₁ mg mb fa o pm cd doc a vs ns G Y ho hd hcd hmg hobj hints hlen hg => ?_
  obtain ⟨K, fd, KX, hb, hF⟩ := F w mg fa _ Y G.T.g hmg
  exact law_end KX G.T.g G.T.b G.T.builtins G.T.nolimit hg hobj hints (Nat.le_trans hlen hn2) hr hF hb (law ns hlen)
end TX

set_option maxRecDepth 100000
set_option maxHeartbeats 4000000
/-! TX, part 15: the table of a text's defs. -/
namespace TX
open PySem PySem.Spec PyProof.Rows L2 He

/-- a def of the text: where it stands, its slots' names, its own names, what it is to the run -/
structure Dd where
  d : DefD
  N : List Str
  ps : List Str
  own : List Str
  t : St
def Dd.df (e : Dd) : Df := ⟨e.ps.length, e.N.length, e.t⟩
abbrev Dd.name (e : Dd) : Str := e.d.name
/-- by which name it is called -/
def keyOf : Str × Option Str → Ky
  | (x, none) => .fn x
  | (c, some m) => .me c m
abbrev Dd.key (e : Dd) : Ky := keyOf e.d.at_
def tabOf (ds : List Dd) : List (Ky × Df) := ds.map fun e => (e.key, e.df)
structure DdOk (g : Cfg) (fuel : Nat) (e : Dd) : Prop where
  sc : C8.scC e.N e.ps e.d.scope = true
  comp : cSs g e.own fuel ⟨e.N, e.d.scope, e.d.scope.names⟩ e.d.body = some e.t
  bind : ∀ (kV doc pm : Value) (an : Option Addr) (cdv ct : Value) (us : List Value), us.length = e.ps.length → bindArgs (PySem.W.fnOf e.d.name e.d.qual e.d.params e.d.body e.d.scope .none kV doc pm an cdv ct) ⟨us, []⟩ = pure (e.ps.zip us)
  dfl : e.d.dfl = []
  kwd : e.d.kwd = []
theorem tab_look : ∀ {ds : List Dd} {k : Ky}, (dfOf (tabOf ds) k = none ∧ ∀ e ∈ ds, e.key ≠ k) ∨ ∃ e ∈ ds, e.key = k ∧ dfOf (tabOf ds) k = some e.df
  | [], k => .inl ⟨rfl, fun _ h => nomatch h⟩
  | e :: r, k => by
    by_cases c : e.key = k
    · exact .inr ⟨e, List.mem_cons_self, c, if_pos c⟩
    · rcases tab_look (ds := r) (k := k) with ⟨h1, h2⟩ | ⟨e', h1, h2, h3⟩
      · refine .inl ⟨(if_neg c).trans h1, fun e' h => ?_⟩
        rcases List.mem_cons.mp h with rfl | h
        · exact c
        · exact h2 e' h
      · exact .inr ⟨e', List.mem_cons_of_mem _ h1, h2, (if_neg c).trans h3⟩
/-- a constant of the module, as the head knows it -/
def cstOk (fa : List Fa) : Str × D → Bool
  | (x, .int i) => fa.any fun f => match f with
    | .int y j => decide (y = x) && decide (j = i)
    | _ => false
  | (x, .str z) => decide (z.length ≤ sizeLine) && fa.any fun f => match f with
    | .str y u => decide (y = x) && decide (u = z)
    | _ => false
  | _ => false
def gloIn (fa : List Fa) (x : Str) : Bool := fa.any fun f => match f with
  | .glo y => decide (y = x)
  | _ => false
def freeIn (fa : List Fa) (x : Str) : Bool := fa.any fun f => match f with
  | .free y => decide (y = x)
  | _ => false
/-- what the head knows of a class -/
def clsIn (fa : List Fa) (x : Str) : Bool := (fa.any fun f => match f with
  | .cls y => decide (y = x)
  | _ => false) && (fa.any fun f => match f with
  | .mkr y => decide (y = x)
  | _ => false) && (attrs.all fun a => fa.any fun f => match f with
  | .noat y b => decide (y = x) && decide (b = a)
  | _ => false) && (mtabOf x).all fun a => fa.any fun f => match f with
  | .meth y b => decide (y = x) && decide (b = a)
  | _ => false
/-- the text of an own exception's __init__ -/
structure InitShape (c : Str) (d : DefD) : Prop where
  at_ : d.at_ = (c, some (Str.ofString "__init__"))
  name : d.name = Str.ofString "__init__"
  dfl : d.dfl = []
  kwd : d.kwd = []
  sh : ∃ p1 p2 q1 q2 q3 q4 : Pos, d.params = PySem.XcX.iA p1 p2 ∧ d.body = PySem.XcX.iB q1 q2 q3 q4 ∧ d.scope = PySem.XcX.iS
/-- what the head knows of such a class -/
def xcCls (K : PySem.W.Frag) (C : Addr) : Bool := match K.lookup C with
  | some ⟨.type t, _, .cls cd, sl⟩ => decide (t = "type") && match cd.mro, sl.toList with
    | .ref C' :: bm, [_, _, _, _, some (.builtin n), _] => decide (C' = C) && decide (n = "ValueError.__new__") && !cd.hasDel && cd.hasDict && PySem.HandSPX.refsVE bm
    | _, _ => false
  | _ => false
def xcIn (K : PySem.W.Frag) (c : Str) : Bool := xcCls K (ga K c) && eqO (PySem.W.findIn K (.ref (ga K c)) "__setattr__") (some (some (.builtin "object.__setattr__"))) && eqO (PySem.W.findIn K (.ref (ga K c)) "__getattribute__") (some (some (.builtin "BaseException.__getattribute__"))) &&
  eqO (PySem.W.findIn K (.ref (ga K c)) "__getattr__") (some none) && eqO (PySem.W.findIn K (.ref (ga K c)) "name") (some none) && eqO (PySem.W.findIn K (.ref (ga K c)) "__init__") (some (some (.ref (ma K (ga K c) (Str.ofString "__init__"))))) &&
  decide (PySem.W.typeIn K (.ref (ma K (ga K c) (Str.ofString "__init__"))) = some (.type "function")) && PySem.W.keepIn K (.ref (ga K c)) && decide (PySem.W.subIn K (.ref (ga K c)) (.type "BaseException") = some true) && decide (PySem.W.typeIn K (.ref (ga K c)) = some (.type "type")) && PySem.W.hasDictIn K (ga K c)
/-- .. so that isinstance asks rightly -/
def excC (K : PySem.W.Frag) (c : Str) : Bool := eqO (PySem.W.findIn K (.ref (ga K c)) "__getattribute__") (some (some (.builtin "BaseException.__getattribute__"))) && eqO (PySem.W.findIn K (.ref (ga K c)) "__getattr__") (some none) && decide (PySem.W.subIn K (.ref (ga K c)) (.type "BaseException") = some true) &&
  PySem.W.hasDictIn K (ga K c) && eqO (PySem.W.findIn K (.ref (ga K c)) "__class__") (some (some (.builtin "object.__class__"))) && eqO (PySem.W.specialIn K (.builtin "object.__class__") "__get__") (some (some (.builtin "getset_descriptor.__get__"))) &&
  decide (PySem.W.takesIn K (.builtin "object.__class__") = some true) && decide (PySem.W.mroIn K (ga K c) (.type "object") = some true)
def xcAll (g : Cfg) (K : PySem.W.Frag) : Bool := (g.excs.all fun p => !p.2 || xcIn K p.1) && g.excs.all fun p => p.2 || (excC K p.1 && g.excs.all fun q => decide (PySem.W.kitOne K (.ref (ga K p.1)) (.ref (ga K q.1)) = some (isSub p.1 q.1)))
structure TabOk (g : Cfg) (fuel : Nat) (fa : List Fa) (fn : List DefD) (ds : List Dd) : Prop where
  ok : ∀ e ∈ ds, DdOk g fuel e
  sub : ∀ e ∈ ds, e.d ∈ fn
  fns : (g.fns.all fun x => ds.any fun e => decide (e.d.at_ = (x, none))) = true
  glo : g.fns.all (gloIn fa) = true
  cls : (g.clss.all fun x => gloIn fa x && clsIn fa x) = true
  free : g.free.all (freeIn fa) = true
  cst : g.cst.all (cstOk fa) = true
  exc : (g.excs.all fun p => gloIn fa p.1 && (p.2 || fa.any fun f => match f with
    | .exc y => decide (y = p.1)
    | _ => false)) = true
  exm : (g.excs.all fun p => g.excs.all fun q => fa.any fun f => match f with
    | .exm x y b => decide (x = p.1) && decide (y = q.1) && decide (b = isSub p.1 q.1)
    | _ => false) = true
  own : ∀ c, g.excs.lookup c = some true → ∃ d ∈ fn, InitShape c d
section
variable {P : Program} {w : World} {K : PySem.W.Frag} {mg : Str → Option Value} {g : Cfg} {fuel : Nat} {fa : List Fa} {fn : List DefD} {ds : List Dd} {h : Heap}
theorem mem_of {x : Str} : ∀ {l : List Str}, mem x l = true → x ∈ l := fun {l} h => by
  unfold mem at h
  rw [List.any_eq_true] at h
  obtain ⟨y, h1, h2⟩ := h
  cases of_decide_eq_true h2
  exact h1
theorem glo_of (X : K.In h) (G : h.Ns mainGlobals mg) (c : SaysD fa fn K) {x : Str} (q : gloIn fa x = true) : mg x = some (.ref (ga K x)) := by
  unfold gloIn at q
  rw [List.any_eq_true] at q
  obtain ⟨f, h1, h2⟩ := q
  cases f <;> first | cases h2 | skip
  rename_i y
  cases of_decide_eq_true h2
  exact He.glo_ok X G (c.facts h1)
theorem look_mem {α : Type} {x : Str} {d : α} : ∀ {l : List (Str × α)}, l.lookup x = some d → (x, d) ∈ l
  | [], h => by cases h
  | (y, e) :: r, h => by
    rw [List.lookup_cons] at h
    cases c : x == y with
    | true =>
      rw [c] at h
      cases h
      rw [eq_of_beq c]
      exact List.mem_cons_self
    | false =>
      rw [c] at h
      exact List.mem_cons_of_mem _ (look_mem h)
/-- what holds of the module, at every depth -/
theorem tab_ok (T : TabOk g fuel fa fn ds) (X : K.In h) (G : h.Ns mainGlobals mg) (c : SaysD fa fn K) (xc : xcAll g K = true) (base : Heap) : ∀ n, Md P w K mg base g (runN (tabOf ds) n) n := by
  have hfree : ∀ x, mem x g.free = true → mg x = none := fun x hx => by
    have q := List.all_eq_true.mp T.free x (mem_of hx)
    unfold freeIn at q
    rw [List.any_eq_true] at q
    obtain ⟨f, h1, h2⟩ := q
    cases f <;> first | cases h2 | skip
    rename_i y
    cases of_decide_eq_true h2
    exact He.free_ok X G (c.facts h1)
  have hcst : ∀ x d, g.cst.lookup x = some d → ∃ v u, mg x = some u ∧ RelV v u ∧ ∀ w, Rp K w v d := fun x d hx => by
    have q := List.all_eq_true.mp T.cst (x, d) (look_mem hx)
    cases d <;> first | cases q | skip
    case int i =>
      have q : (fa.any fun f => match f with
        | .int y j => decide (y = x) && decide (j = i)
        | _ => false) = true := q
      rw [List.any_eq_true] at q
      obtain ⟨f, h1, h2⟩ := q
      cases f <;> first | cases h2 | skip
      rename_i y j
      rw [Bool.and_eq_true, decide_eq_true_eq, decide_eq_true_eq] at h2
      obtain ⟨rfl, rfl⟩ := h2
      obtain ⟨t, e⟩ := He.int_ok X G (c.facts h1)
      exact ⟨.int j, _, e, ⟨t, rfl⟩, fun w => .int j⟩
    case str z =>
      have q : (decide (z.length ≤ sizeLine) && fa.any fun f => match f with
        | .str y u => decide (y = x) && decide (u = z)
        | _ => false) = true := q
      rw [Bool.and_eq_true, decide_eq_true_eq, List.any_eq_true] at q
      obtain ⟨hz, f, h1, h2⟩ := q
      cases f <;> first | cases h2 | skip
      rename_i y j
      rw [Bool.and_eq_true, decide_eq_true_eq, decide_eq_true_eq] at h2
      obtain ⟨rfl, rfl⟩ := h2
      obtain ⟨t, e⟩ := He.str_ok X G (c.facts h1)
      exact ⟨.str j, _, e, ⟨t, rfl⟩, fun w => .str j hz⟩
  have hdef : ∀ e ∈ ds, ∃ fd, FunD K e.d.name e.d.qual e.d.params e.d.body e.d.scope [] [] (fAd K e.d.at_) fd ∧ Binds K fd e.ps [] := fun e he => by
    have ok := T.ok e he
    obtain ⟨fd, F⟩ := c.defs (T.sub e he)
    have e1 : e.d.dvs K = [] := by
      unfold DefD.dvs
      rw [ok.dfl]
      rfl
    have e2 : e.d.kws K = [] := by
      unfold DefD.kws
      rw [ok.kwd]
      rfl
    rw [e1, e2] at F
    exact ⟨fd, F, F.bindsN ok.bind⟩
  have hfn : ∀ x, mem x g.fns = true → ∃ e ∈ ds, e.d.at_ = (x, none) ∧ dfOf (tabOf ds) (.fn x) = some e.df := fun x hx => by
    have q := List.all_eq_true.mp T.fns x (mem_of hx)
    rw [List.any_eq_true] at q
    obtain ⟨e0, h1, h2⟩ := q
    have h2 := of_decide_eq_true h2
    rcases tab_look (ds := ds) (k := .fn x) with ⟨_, n⟩ | ⟨e, h3, h4, h5⟩
    · exact absurd (by show keyOf e0.d.at_ = _; rw [h2]; rfl) (n e0 h1)
    · refine ⟨e, h3, ?_, h5⟩
      have h4 : keyOf e.d.at_ = .fn x := h4
      revert h4
      cases e.d.at_ with
      | mk a b =>
        cases b with
        | none =>
          intro h4
          have h4 : Ky.fn a = .fn x := h4
          cases h4
          rfl
        | some m =>
          intro h4
          have h4 : Ky.me a m = .fn x := h4
          cases h4
  have hme : ∀ cc m e, e ∈ ds → e.key = .me cc m → e.d.at_ = (cc, some m) := fun cc m e _ h4 => by
    have h4 : keyOf e.d.at_ = .me cc m := h4
    revert h4
    cases e.d.at_ with
    | mk a b =>
      cases b with
      | none =>
        intro h4
        have h4 : Ky.fn a = .me cc m := h4
        cases h4
      | some k =>
        intro h4
        have h4 : Ky.me a k = .me cc m := h4
        cases h4
        rfl
  have hcl : ∀ x, mem x g.clss = true → ClsOk K x ∧ mg x = some (.ref (ga K x)) ∧ Mk K (ga K x) (He.ma K (ga K x) "__init__") := fun x hx => by
    have q := List.all_eq_true.mp T.cls x (mem_of hx)
    simp only [clsIn, Bool.and_eq_true] at q
    obtain ⟨q0, ⟨⟨q1, q2⟩, q3⟩, q4⟩ := q
    have get : ∀ {p : Fa → Bool}, fa.any p = true → ∃ f, f.ok K = true ∧ p f = true := fun {p} h => by
      rw [List.any_eq_true] at h
      obtain ⟨f, h1, h2⟩ := h
      exact ⟨f, c.facts h1, h2⟩
    refine ⟨⟨?_, fun f hf => ?_, fun m hm => ?_⟩, glo_of X G c q0, ?_⟩
    · obtain ⟨f, h1, h2⟩ := get q1
      cases f <;> first | cases h2 | skip
      cases of_decide_eq_true h2
      exact He.cls_ok h1
    · obtain ⟨f, h1, h2⟩ := get (List.all_eq_true.mp q3 f (mem_of hf))
      cases f <;> first | cases h2 | skip
      rw [Bool.and_eq_true, decide_eq_true_eq, decide_eq_true_eq] at h2
      obtain ⟨rfl, rfl⟩ := h2
      exact He.noat_ok h1
    · obtain ⟨f, h1, h2⟩ := get (List.all_eq_true.mp q4 m (mem_of hm))
      cases f <;> first | cases h2 | skip
      rw [Bool.and_eq_true, decide_eq_true_eq, decide_eq_true_eq] at h2
      obtain ⟨rfl, rfl⟩ := h2
      exact He.meth_ok h1
    · obtain ⟨f, h1, h2⟩ := get q2
      cases f <;> first | cases h2 | skip
      cases of_decide_eq_true h2
      exact He.mkr_ok h1
  have hexc : ∀ cc b, g.excs.lookup cc = some b → XcOk K mg cc b := fun cc b hb => by
    have q := List.all_eq_true.mp T.exc (cc, b) (look_mem hb)
    rw [Bool.and_eq_true, Bool.or_eq_true] at q
    obtain ⟨q1, q2⟩ := q
    refine ⟨glo_of X G c q1, fun z => ?_, fun z => ?_⟩
    · rcases q2 with q2 | q2
      · have z : b = false := z
        have q2 : b = true := q2
        rw [z] at q2
        cases q2
      · rw [List.any_eq_true] at q2
        obtain ⟨f, h1, h2⟩ := q2
        cases f <;> first | cases h2 | skip
        cases of_decide_eq_true h2
        exact He.exc_ok (c.facts h1)
    · subst z
      obtain ⟨d, hd, I⟩ := T.own cc hb
      obtain ⟨fd, F⟩ := c.defs hd
      have e1 : d.dvs K = [] := by
        unfold DefD.dvs
        rw [I.dfl]
        rfl
      have e2 : d.kws K = [] := by
        unfold DefD.kws
        rw [I.kwd]
        rfl
      have e3 : fAd K d.at_ = ma K (ga K cc) (Str.ofString "__init__") := by
        rw [I.at_]
        rfl
      rw [e1, e2, e3, I.name] at F
      obtain ⟨p1, p2, q1', q2', q3', q4', s1, s2, s3⟩ := I.sh
      rw [s1, s2, s3] at F
      have xk := List.all_eq_true.mp (Bool.and_eq_true_iff.mp xc).1 (cc, true) (look_mem hb)
      have xk : xcIn K cc = true := xk
      simp only [xcIn, Bool.and_eq_true, decide_eq_true_eq] at xk
      obtain ⟨⟨⟨⟨⟨⟨⟨⟨⟨⟨x1, x2⟩, x3⟩, x4⟩, x5⟩, x6⟩, x7⟩, x8⟩, x9⟩, x10⟩, x11⟩ := xk
      obtain ⟨oc, od, dV, kV, doc, pm, an, cdv, ct, osl, rfl, lk, hcd, hdv, _⟩ := F.ex
      have edV : dV = .none := by
        rcases hdv with ⟨h1, _⟩ | ⟨h1, _⟩
        · first | exact h1 | (rename_i h2; exact h2)
        · exact absurd rfl h1
      subst edV
      refine ⟨d.qual, ma K (ga K cc) (Str.ofString "__init__"), ⟨glo_of X G c q1, ?_, eqO_ok x2, eqO_ok x3, eqO_ok x4, eqO_ok x5, eqO_ok x6, x7, x8, x9, x10, x11, ⟨oc, od, kV, doc, pm, an, cdv, ct, osl, p1, p2, q1', q2', q3', q4', lk, hcd⟩⟩⟩
      unfold xcCls at x1
      split at x1
      · rename_i t dd cd sl e
        rw [Bool.and_eq_true, decide_eq_true_eq] at x1
        obtain ⟨rfl, x1⟩ := x1
        split at x1
        · rename_i C' bm k0 k1 k2 k3 n k5 e1 e2
          simp only [Bool.and_eq_true, decide_eq_true_eq, Bool.not_eq_true'] at x1
          obtain ⟨⟨⟨⟨rfl, rfl⟩, x12⟩, x13⟩, x14⟩ := x1
          obtain ⟨nm, bs, mro, ns, qn, hdc, sn, sub, ab, col, del⟩ := cd
          have e1 : mro = .ref (ga K cc) :: bm := e1
          have x12 : del = false := x12
          have x13 : hdc = true := x13
          subst e1 x12 x13
          have e2 : sl = #[k0, k1, k2, k3, some (.builtin "ValueError.__new__"), k5] := by
            obtain ⟨l⟩ := sl
            have e2 : l = _ := e2
            rw [e2]
          subst e2
          exact ⟨nm, qn, ns, bs, bm, sn, sub, ab, col, dd, k0, k1, k2, k3, k5, e, x14⟩
        · cases x1
      · cases x1
  have hexm : ∀ cc hh, mem cc (g.excs.map (·.1)) = true → mem hh (g.excs.map (·.1)) = true → PySem.W.exmOne K (.ref (ga K cc)) (.ref (ga K hh)) = some (isSub cc hh) := fun cc hh h1 h2 => by
    obtain ⟨p, hp, rfl⟩ := List.mem_map.mp (mem_of h1)
    obtain ⟨q, hq, rfl⟩ := List.mem_map.mp (mem_of h2)
    have z := List.all_eq_true.mp (List.all_eq_true.mp T.exm p hp) q hq
    rw [List.any_eq_true] at z
    obtain ⟨f, h3, h4⟩ := z
    cases f <;> first | cases h4 | skip
    simp only [Bool.and_eq_true, decide_eq_true_eq] at h4
    obtain ⟨⟨rfl, rfl⟩, rfl⟩ := h4
    exact He.exm_ok (c.facts h3)
  have hkit : ∀ cc hh, g.excs.lookup cc = some false → mem hh (g.excs.map (·.1)) = true → ExcC K (ga K cc) ∧ PySem.W.kitOne K (.ref (ga K cc)) (.ref (ga K hh)) = some (isSub cc hh) := fun cc hh h1 h2 => by
    obtain ⟨q, hq, rfl⟩ := List.mem_map.mp (mem_of h2)
    have z := List.all_eq_true.mp (Bool.and_eq_true_iff.mp xc).2 (cc, false) (look_mem h1)
    have z : (excC K cc && g.excs.all fun q => decide (PySem.W.kitOne K (.ref (ga K cc)) (.ref (ga K q.1)) = some (isSub cc q.1))) = true := z
    rw [Bool.and_eq_true] at z
    obtain ⟨z1, z2⟩ := z
    simp only [excC, Bool.and_eq_true, decide_eq_true_eq] at z1
    obtain ⟨⟨⟨⟨⟨⟨⟨x1, x2⟩, x3⟩, x4⟩, x5⟩, x6⟩, x7⟩, x8⟩ := z1
    exact ⟨⟨eqO_ok x1, eqO_ok x2, x3, x4, eqO_ok x5, eqO_ok x6, x7, x8⟩, of_decide_eq_true (List.all_eq_true.mp z2 q hq)⟩
  intro n
  induction n with
  | zero =>
    refine ⟨fun x hx => ?_, fun cc m => .inl fun _ _ => rfl, fun x hx => ?_, hfree, hcst, hexc, hexm, hkit⟩
    · obtain ⟨e, he, ha, q⟩ := hfn x hx
      obtain ⟨fd, F, B⟩ := hdef e he
      rw [ha] at F
      exact ⟨_, fd, e.ps, ⟨fun vs H Q E ⟨G, W, S, ds, R, r, Po⟩ => Po.elim, fun A outer s H args us vs Q E hr hgd e0 hb r ⟨G, W, S, ds, R, rr, Po⟩ => Po.elim⟩, glo_of X G c (List.all_eq_true.mp T.glo _ (mem_of hx)), F.kp, B⟩
    · obtain ⟨h1, h2, h3⟩ := hcl x hx
      exact ⟨h1, h2, h3, .inl fun _ _ => rfl⟩
  | succ n ih =>
    refine ⟨fun x hx => ?_, fun cc m => ?_, fun x hx => ?_, hfree, hcst, hexc, hexm, hkit⟩
    · obtain ⟨e, he, ha, q⟩ := hfn x hx
      obtain ⟨fd, F, B⟩ := hdef e he
      have ok := T.ok e he
      rw [ha] at F
      refine ⟨_, fd, e.ps, fnG_of F (C8.fnScope_by ok.sc) ok.comp ih (fun xs S => ?_), glo_of X G c (List.all_eq_true.mp T.glo _ (mem_of hx)), F.kp, B⟩
      show (match dfOf (tabOf ds) (.fn x) with
        | some d => d.run (runN (tabOf ds) n) xs S
        | none => .stk) = _
      rw [q]
      rfl
    · rcases tab_look (ds := ds) (k := .me cc m) with ⟨q, _⟩ | ⟨e, he, hk, q⟩
      · refine .inl fun xs S => ?_
        show (match dfOf (tabOf ds) (.me cc m) with
          | some d => d.run (runN (tabOf ds) n) xs S
          | none => .stk) = _
        rw [q]
      · obtain ⟨fd, F, B⟩ := hdef e he
        have ok := T.ok e he
        rw [hme cc m e he hk] at F
        refine .inr ⟨fd, e.ps, fnG_of F (C8.fnScope_by ok.sc) ok.comp ih (fun xs S => ?_), B⟩
        show (match dfOf (tabOf ds) (.me cc m) with
          | some d => d.run (runN (tabOf ds) n) xs S
          | none => .stk) = _
        rw [q]
        rfl
    · obtain ⟨h1, h2, h3⟩ := hcl x hx
      refine ⟨h1, h2, h3, ?_⟩
      rcases ih.mets x "__init__" with hs | ⟨fd, ps, F, B⟩
      · refine .inl fun xs S => ?_
        show ((runN (tabOf ds) n (.me x "__init__") (.loc S.length :: xs) (S ++ [.ins x []])).bind fun (d : D) S2 => match d with
          | .non => .ok (D.loc S.length) S2
          | _ => .stk) = (.stk : Res D)
        rw [hs]
        rfl
      · exact .inr ⟨fd, ps, n, runN (tabOf ds) n, rfl, F, B, fun xs S => rfl⟩
/-- the law's def -/
theorem law_F (T : TabOk g fuel fa fn ds) (X : K.In h) (G : h.Ns mainGlobals mg) (c : SaysD fa fn K) (xc : xcAll g K = true) {x : Str} {a : Addr} (hx : mem x g.fns = true) (hm : mg x = some (.ref a)) (hp : (ds.all fun e => !decide (e.d.at_ = (x, none)) || decide (e.ps = [Str.ofString "_law_script"])) = true) (n : Nat) :
    ∃ fd : FuncData, (∀ (s : Shared) (u : Value), BindsTo s fd ⟨[u], []⟩ [("_law_script", u)]) ∧ ∀ base : Heap, K.In base → base.Ns mainGlobals mg → FnG P w K mg base n a fd ["_law_script"] (spOf K (runN (tabOf ds) n) (.fn x)) := by
  have q := List.all_eq_true.mp T.fns x (mem_of hx)
  rw [List.any_eq_true] at q
  obtain ⟨e0, g1, g2⟩ := q
  have g2 := of_decide_eq_true g2
  rcases tab_look (ds := ds) (k := .fn x) with ⟨_, nn⟩ | ⟨e, he, hk, q⟩
  · exact absurd (by show keyOf e0.d.at_ = _; rw [g2]; rfl) (nn e0 g1)
  have ha : e.d.at_ = (x, none) := by
    have h4 : keyOf e.d.at_ = .fn x := hk
    revert h4
    cases e.d.at_ with
    | mk a b =>
      cases b with
      | none =>
        intro h4
        have h4 : Ky.fn a = .fn x := h4
        cases h4
        rfl
      | some m =>
        intro h4
        have h4 : Ky.me a m = .fn x := h4
        cases h4
  have ep : e.ps = [Str.ofString "_law_script"] := by
    have := List.all_eq_true.mp hp e he
    rw [Bool.or_eq_true, Bool.not_eq_true', decide_eq_false_iff_not, decide_eq_true_eq] at this
    rcases this with h | h
    · exact absurd ha h
    · exact h
  have ok := T.ok e he
  have hg := glo_of X G c (List.all_eq_true.mp T.glo _ (mem_of hx))
  rw [hg] at hm
  cases hm
  obtain ⟨fd, F⟩ := c.defs (T.sub e he)
  have e1 : e.d.dvs K = [] := by
    unfold DefD.dvs
    rw [ok.dfl]
    rfl
  have e2 : e.d.kws K = [] := by
    unfold DefD.kws
    rw [ok.kwd]
    rfl
  have e3 : fAd K e.d.at_ = ga K x := by
    rw [ha]
    rfl
  rw [e1, e2, e3] at F
  refine ⟨fd, fun s u => ?_, fun base hK hN => ?_⟩
  · have := F.bindsA (ps := e.ps) ok.bind s [u] (by rw [ep]; rfl)
    rw [ep] at this
    exact this
  · cases n with
    | zero => exact ⟨fun vs H Q E ⟨G, W, S, ds, R, r, Po⟩ => Po.elim, fun A outer s H args us vs Q E hr hgd e0 hb r ⟨G, W, S, ds, R, rr, Po⟩ => Po.elim⟩
    | succ n =>
      have M : Md P w K mg base g (runN (tabOf ds) n) n := tab_ok T X G c xc base n
      have := fnG_of (key := .fn x) (Ω' := runN (tabOf ds) (n + 1)) F (C8.fnScope_by ok.sc) ok.comp M (fun xs S => by
        show (match dfOf (tabOf ds) (.fn x) with
          | some d => d.run (runN (tabOf ds) n) xs S
          | none => .stk) = _
        rw [q]
        rfl)
      rw [ep] at this
      exact this
end
end TX

set_option maxRecDepth 100000
set_option maxHeartbeats 4000000
/-! TX, part 16: reasoning about runs. -/
namespace TX
open PySem PySem.Spec

def Res.Ok {α : Type} (P : α → Sto → Prop) : Res α → Prop
  | .ok a S => P a S
  | _ => False
@[simp] theorem Ok_ok {α : Type} {P : α → Sto → Prop} {a : α} {S : Sto} : (Res.ok a S).Ok P ↔ P a S := (Iff.rfl)
@[simp] theorem Ok_stk {α : Type} {P : α → Sto → Prop} : (Res.stk : Res α).Ok P ↔ False := (Iff.rfl)
@[simp] theorem Ok_bind {α β : Type} {P : β → Sto → Prop} {r : Res α} {f : α → Sto → Res β} : (r.bind f).Ok P ↔ r.Ok fun a S => (f a S).Ok P := by cases r <;> exact Iff.rfl
@[simp] theorem Ok_noX {α : Type} {P : α → Sto → Prop} {r : Res α} : r.noX.Ok P ↔ r.Ok P := by cases r <;> exact Iff.rfl
@[simp] theorem Ok_of {α : Type} {P : α → Sto → Prop} {S : Sto} {o : Option α} : (Res.of S o).Ok P ↔ ∃ a, o = some a ∧ P a S := by
  cases o with
  | none => exact ⟨fun h => False.elim h, fun ⟨_, h, _⟩ => nomatch h⟩
  | some a => exact ⟨fun h => ⟨a, rfl, h⟩, fun ⟨_, h, k⟩ => by
      cases h
      exact k⟩
theorem Res.Ok.imp {α : Type} {P Q : α → Sto → Prop} {r : Res α} (h : r.Ok P) (f : ∀ a S, P a S → Q a S) : r.Ok Q := by
  cases r with
  | ok a S => exact f a S h
  | _ => exact h
theorem Res.Ok.eq {α : Type} {P : α → Sto → Prop} {r : Res α} (h : r.Ok P) : ∃ a S, r = .ok a S ∧ P a S := by
  cases r with
  | ok a S => exact ⟨a, S, rfl, h⟩
  | _ => exact h.elim
def Out.Ok (N : Env → Sto → Prop) (R : D → Sto → Prop) (B C : Env → Sto → Prop) : Out → Prop
  | .nx ρ S => N ρ S
  | .ret d S => R d S
  | .brk ρ S => B ρ S
  | .cnt ρ S => C ρ S
  | _ => False
section
variable {N : Env → Sto → Prop} {R : D → Sto → Prop} {B C : Env → Sto → Prop} {ρ : Env} {S : Sto}
@[simp] theorem Ok_nx : (Out.nx ρ S).Ok N R B C ↔ N ρ S := (Iff.rfl)
@[simp] theorem Ok_ret {d : D} : (Out.ret d S).Ok N R B C ↔ R d S := (Iff.rfl)
@[simp] theorem Ok_brk : (Out.brk ρ S).Ok N R B C ↔ B ρ S := (Iff.rfl)
@[simp] theorem Ok_cnt : (Out.cnt ρ S).Ok N R B C ↔ C ρ S := (Iff.rfl)
@[simp] theorem Ok_stuck : Out.stk.Ok N R B C ↔ False := (Iff.rfl)
@[simp] theorem Ok_next {o : Out} {f : Env → Sto → Out} : (o.next f).Ok N R B C ↔ o.Ok (fun ρ S => (f ρ S).Ok N R B C) R B C := by cases o <;> exact Iff.rfl
@[simp] theorem Ok_run {α : Type} {r : Res α} {f : α → Sto → Out} : (r.run ρ f).Ok N R B C ↔ r.Ok fun a S => (f a S).Ok N R B C := by cases r <;> exact Iff.rfl
@[simp] theorem Ok_turn {o : Out} {f : Env → Sto → Out} : (o.turn f).Ok N R B C ↔ o.Ok (fun ρ S => (f ρ S).Ok N R B C) R N (fun ρ S => (f ρ S).Ok N R B C) := by cases o <;> exact Iff.rfl
theorem Out.Ok.imp {N' : Env → Sto → Prop} {R' : D → Sto → Prop} {B' C' : Env → Sto → Prop} {o : Out} (h : o.Ok N R B C) (n : ∀ ρ S, N ρ S → N' ρ S) (r : ∀ d S, R d S → R' d S) (b : ∀ ρ S, B ρ S → B' ρ S) (c : ∀ ρ S, C ρ S → C' ρ S) : o.Ok N' R' B' C' := by
  cases o with
  | nx ρ S => exact n _ _ h
  | ret d S => exact r _ _ h
  | brk ρ S => exact b _ _ h
  | cnt ρ S => exact c _ _ h
  | _ => exact h
theorem loop_ok {turn : D → Env → Sto → Out} (I : Nat → Env → Sto → Prop) : ∀ {xs : List D} {i : Nat} {ρ : Env} {S : Sto}, I i ρ S → (∀ j x ρ S, xs[j]? = some x → I (i + j) ρ S → (turn x ρ S).Ok (I (i + j + 1)) R N (I (i + j + 1))) →
    (∀ ρ S, I (i + xs.length) ρ S → N ρ S) → (loopL turn xs ρ S).Ok N R B C
  | [], i, ρ, S, h0, _, hd => hd _ _ h0
  | x :: xs, i, ρ, S, h0, hs, hd => by
    show ((turn x ρ S).turn fun ρ' S' => loopL turn xs ρ' S').Ok N R B C
    rw [Ok_turn]
    have go : ∀ ρ S, I (i + 1) ρ S → (loopL turn xs ρ S).Ok N R B C := fun ρ S h1 => loop_ok I h1 (fun j y ρ S hy hI => by
      have := hs (j + 1) y ρ S (by simpa using hy) (by rw [← Nat.add_assoc, Nat.add_right_comm]; exact hI)
      rw [← Nat.add_assoc, Nat.add_right_comm i j 1] at this
      exact this) (fun ρ S h => hd ρ S (by rw [List.length_cons, ← Nat.add_assoc, Nat.add_right_comm]; exact h))
    exact (hs 0 x ρ S rfl h0).imp (fun ρ S h => go ρ S h) (fun _ _ h => h) (fun _ _ h => h) (fun ρ S h => go ρ S h)
/-- a walk with what stays -/
theorem loop_keep {turn : D → Env → Sto → Out} (I : Env → Sto → Prop) {xs : List D} (h0 : I ρ S) (hs : ∀ x ∈ xs, ∀ ρ S, I ρ S → (turn x ρ S).Ok I R N I) (hd : ∀ ρ S, I ρ S → N ρ S) : (loopL turn xs ρ S).Ok N R B C :=
  loop_ok (i := 0) (fun _ => I) h0 (fun j x ρ S hx hI => hs x (List.mem_of_getElem? hx) ρ S hI) hd
end
theorem comp_ok {turn : D → Sto → Res (Option D)} {P : List D → Sto → Prop} (I : Nat → List D → Sto → Prop) : ∀ {xs : List D} {i : Nat} {acc : List D} {S : Sto}, I i acc S →
    (∀ j x ys S, xs[j]? = some x → I (i + j) ys S → (turn x S).Ok fun o S' => I (i + j + 1) (ys ++ o.toList) S') → (∀ ys S, I (i + xs.length) (acc ++ ys) S → P ys S) → (compL turn xs S).Ok P
  | [], i, acc, S, h0, _, hd => hd [] S (by rw [List.append_nil]; exact h0)
  | x :: xs, i, acc, S, h0, hs, hd => by
    show ((turn x S).bind fun o S1 => (compL turn xs S1).bind fun ys S2 => .ok (match o with
      | some y => y :: ys
      | none => ys) S2).Ok P
    rw [Ok_bind]
    refine (hs 0 x acc S rfl h0).imp fun o S' h1 => ?_
    rw [Ok_bind]
    refine comp_ok I (i := i + 1) (acc := acc ++ o.toList) h1 (fun j y ys S hy hI => ?_) fun ys S h => ?_
    · have := hs (j + 1) y ys S (by simpa using hy) (by rw [← Nat.add_assoc, Nat.add_right_comm]; exact hI)
      rw [← Nat.add_assoc, Nat.add_right_comm i j 1] at this
      exact this
    · rw [Ok_ok]
      refine hd _ S ?_
      rw [List.length_cons, ← Nat.add_assoc, Nat.add_right_comm]
      cases o with
      | none => simpa using h
      | some y => simpa using h
/-- a list made item by item without a trace -/
theorem comp_map {turn : D → Sto → Res (Option D)} {f : D → Option D} : ∀ {xs : List D} {S : Sto}, (∀ x ∈ xs, turn x S = .ok (f x) S) → compL turn xs S = .ok (xs.filterMap f) S
  | [], S, _ => rfl
  | x :: xs, S, h => by
    show ((turn x S).bind fun o S1 => (compL turn xs S1).bind fun ys S2 => .ok (match o with
      | some y => y :: ys
      | none => ys) S2) = _
    rw [h x List.mem_cons_self, Res.bind_ok, comp_map (f := f) fun y hy => h y (List.mem_cons_of_mem _ hy), Res.bind_ok]
    cases q : f x with
    | none => rw [List.filterMap_cons_none q]
    | some y => rw [List.filterMap_cons_some q]
theorem run_fn {T : List (Ky × Df)} {n : Nat} {f : Str} {d : Df} {xs : List D} {S : Sto} (h : dfOf T (.fn f) = some d) : runN T (n + 1) (.fn f) xs S = d.run (runN T n) xs S := by
  show (match dfOf T (.fn f) with
    | some d => d.run (runN T n) xs S
    | none => .stk) = _
  rw [h]
theorem run_me {T : List (Ky × Df)} {n : Nat} {c f : Str} {d : Df} {xs : List D} {S : Sto} (h : dfOf T (.me c f) = some d) : runN T (n + 1) (.me c f) xs S = d.run (runN T n) xs S := by
  show (match dfOf T (.me c f) with
    | some d => d.run (runN T n) xs S
    | none => .stk) = _
  rw [h]
theorem run_mk {T : List (Ky × Df)} {n : Nat} {c : Str} {xs : List D} {S : Sto} : runN T (n + 1) (.mk c) xs S = (runN T n (.me c (Str.ofString "__init__")) (.loc S.length :: xs) (S ++ [.ins c []])).bind fun d S2 => match d with
      | .non => .ok (.loc S.length) S2
      | _ => .stk := (rfl)
theorem Df.run_ok {Ω : Orc} {d : Df} {xs : List D} {S : Sto} {P : D → Sto → Prop} (hl : xs.length = d.par)
    (H : (ex Ω d.body (d.start xs) S).Ok (fun _ S => P .non S) P (fun _ _ => False) (fun _ _ => False)) : (d.run Ω xs S).Ok P := by
  unfold Df.run
  rw [if_pos hl]
  revert H
  cases ex Ω d.body (d.start xs) S <;> intro H
  · exact H
  · exact H
  all_goals exact False.elim H
theorem call_ok {T : List (Ky × Df)} {n : Nat} {f : Str} {d : Df} {xs : List D} {S : Sto} {P : D → Sto → Prop} (h : dfOf T (.fn f) = some d) (hl : xs.length = d.par)
    (H : (ex (runN T n) d.body (d.start xs) S).Ok (fun _ S => P .non S) P (fun _ _ => False) (fun _ _ => False)) : (runN T (n + 1) (.fn f) xs S).Ok P := by
  rw [run_fn h]
  exact Df.run_ok hl H
theorem meth_ok {T : List (Ky × Df)} {n : Nat} {c f : Str} {d : Df} {xs : List D} {S : Sto} {P : D → Sto → Prop} (h : dfOf T (.me c f) = some d) (hl : xs.length = d.par)
    (H : (ex (runN T n) d.body (d.start xs) S).Ok (fun _ S => P .non S) P (fun _ _ => False) (fun _ _ => False)) : (runN T (n + 1) (.me c f) xs S).Ok P := by
  rw [run_me h]
  exact Df.run_ok hl H
@[simp] theorem chks_nil {S : Sto} : chks S [] = [] := (rfl)
@[simp] theorem shutR_nil {α : Type} {ρ : Env} {S : Sto} {f : Env → Sto → Res α} : shutR [] ρ S f = f ρ S := (rfl)
@[simp] theorem shutO_nil {ρ : Env} {S : Sto} {f : Env → Sto → Out} : shutO [] ρ S f = f ρ S := (rfl)
/-! ### what may be shown -/
open PyData in
structure RepP (k w : Nat) (p : PyData) : Prop where
  lay : p.canLay0 = true
  dep : p.depth ≤ k
  wt : p.weight ≤ w
  sh : p.intsShort 13 = true
  sb : p.showable = true
open PyData in
structure RepPs (k w : Nat) (ps : List PyData) : Prop where
  lay : canLayAll0 ps = true
  dep : depthAll ps ≤ k
  wt : weightAll ps ≤ w
  sh : intsShortAll 13 ps = true
  sb : showableAll ps = true
def Rep (k w : Nat) (d : D) : Prop := ∃ p, toP d = some p ∧ RepP k w p
def Reps (k w : Nat) (ds : List D) : Prop := ∃ ps, toPs ds = some ps ∧ RepPs k w ps
theorem Rep.mono {k w k' w' : Nat} {d : D} (h : Rep k w d) (a : k ≤ k') (b : w ≤ w') : Rep k' w' d := by
  obtain ⟨p, e, h⟩ := h
  exact ⟨p, e, h.lay, Nat.le_trans h.dep a, Nat.le_trans h.wt b, h.sh, h.sb⟩
theorem Rep.non {k w : Nat} : Rep k w .non := ⟨.none, rfl, rfl, Nat.zero_le _, Nat.zero_le _, rfl, rfl⟩
theorem Rep.bl {k w : Nat} {b : Bool} : Rep k w (.bl b) := ⟨.bool b, rfl, rfl, Nat.zero_le _, Nat.zero_le _, rfl, rfl⟩
theorem int_short {i : Int} (h : i.natAbs < 10 ^ 12) : ((PyData.int i).shown).length ≤ 13 := by
  show (Str.ofString (toString i)).length ≤ 13
  have e := int_text_length_le10 (k := 12) (by decide) h
  rw [ofString_length]
  exact e
theorem Rep.int {k : Nat} {i : Int} (h : i.natAbs < 10 ^ 12) : Rep k 40 (.int i) := by
  have e : i.natAbs.log2 < 40 := by
    by_cases c : i.natAbs = 0
    · rw [c]
      decide
    · rw [Nat.log2_lt c]
      have : (10 : Nat) ^ 12 < 2 ^ 40 := by decide
      omega
  refine ⟨.int i, rfl, rfl, Nat.zero_le _, ?_, ?_, ?_⟩
  · show (if i == 0 then 0 else i.natAbs.log2 + 1) ≤ 40
    split
    · exact Nat.zero_le _
    · exact e
  · show decide ((PyData.int i).shown.length ≤ 13) = true
    exact decide_eq_true (int_short h)
  · show decide (i.natAbs.log2 < 1920) = true
    exact decide_eq_true (by omega)
theorem Rep.str {k : Nat} {s : Str} (h : s.cps.all (· < 0x110000) = true) : Rep k s.cps.size (.str s) := ⟨.str s, rfl, h, Nat.zero_le _, Nat.le_refl _, rfl, rfl⟩
theorem Reps.nil {k w : Nat} : Reps k w [] := ⟨[], rfl, rfl, Nat.zero_le _, Nat.zero_le _, rfl, rfl⟩
theorem Reps.cons {k a b : Nat} {d : D} {ds : List D} (h : Rep k a d) (r : Reps k b ds) : Reps k (a + 1 + b) (d :: ds) := by
  obtain ⟨p, e, h⟩ := h
  obtain ⟨ps, es, r⟩ := r
  refine ⟨p :: ps, ?_, ?_, ?_, ?_, ?_, ?_⟩
  · show ((toP d).bind fun p => (toPs ds).map fun ps => p :: ps) = _
    rw [e, es]
    rfl
  · show (p.canLay0 && PyData.canLayAll0 ps) = true
    rw [h.lay, r.lay]
    rfl
  · exact Nat.max_le.mpr ⟨h.dep, r.dep⟩
  · show p.weight + 1 + PyData.weightAll ps ≤ _
    have := h.wt
    have := r.wt
    omega
  · show (PyData.intsShort 13 p && PyData.intsShortAll 13 ps) = true
    rw [h.sh, r.sh]
    rfl
  · show (p.showable && PyData.showableAll ps) = true
    rw [h.sb, r.sb]
    rfl
theorem Reps.of {k w : Nat} : ∀ {ds : List D}, (∀ d ∈ ds, Rep k w d) → Reps k (ds.length * (w + 1)) ds
  | [], _ => .nil
  | d :: ds, h => by
    have := Reps.cons (h d List.mem_cons_self) (Reps.of fun x hx => h x (List.mem_cons_of_mem _ hx))
    rw [List.length_cons, Nat.succ_mul, Nat.add_comm]
    exact this
theorem Rep.tup {k w : Nat} {ds : List D} (h : Reps k w ds) : Rep (k + 1) w (.tup ds) := by
  obtain ⟨ps, e, h⟩ := h
  exact ⟨.tuple ps, by show (toPs ds).map _ = _; rw [e]; rfl, h.lay, Nat.succ_le_succ h.dep, h.wt, h.sh, h.sb⟩
theorem Rep.lst {k w : Nat} {ds : List D} (h : Reps k w ds) : Rep (k + 1) w (.lst ds) := by
  obtain ⟨ps, e, h⟩ := h
  exact ⟨.list ps, by show (toPs ds).map _ = _; rw [e]; rfl, h.lay, Nat.succ_le_succ h.dep, h.wt, h.sh, h.sb⟩
theorem see_of {S : Sto} {d : D} {p : PyData} (h : toP d = some p) : see S d = d := by
  cases d <;> first | rfl | cases h
theorem repr_ok {k w : Nat} {S : Sto} {d : D} (h : Rep k w d) (hk : k ≤ 64) (hw : w ≤ 2 ^ 20) : ∃ z : Str, z.length ≤ sizeLine ∧ ∀ S, biOp .repr S [d] = some (.str z) := by
  obtain ⟨p, e, h⟩ := h
  have h1 : SeqAt.shaped p = true := by
    show (p.canLay0 && decide (p.depth ≤ 64)) = true
    rw [h.lay, decide_eq_true (Nat.le_trans h.dep hk)]
    rfl
  have h2 := PyProof.Rows.shown_le13 (d := p) (by
    show (p.canLay0 && decide (p.depth ≤ 64) && decide (p.weight ≤ 2 ^ 20)) = true
    rw [h.lay, decide_eq_true (Nat.le_trans h.dep hk), decide_eq_true (Nat.le_trans h.wt hw)]
    rfl) h.sh
  have h3 : p.shown.length + 64 ≤ sizeLine := by
    unfold sizeLine
    omega
  refine ⟨p.shown, by omega, fun S => ?_⟩
  show ((toP (see S d)).bind fun p => if p.showable && SeqAt.shaped p && decide (p.shown.length + 64 ≤ sizeLine) then some (D.str p.shown) else none) = _
  rw [see_of e, e, Option.bind_some, h.sb, h1, decide_eq_true h3]
  rfl
/-! ### the run's equations, one a form -/
section
variable {Ω : Orc} {ρ : Env} {S : Sto} {a b c e o r t it tt el as k lo hi s x : Tm} {f : Str} {i : Nat}
/-- one turn of a walk -/
def turnS (Ω : Orc) (tg : Tg) (b : TX.St) : D → Env → Sto → Out := fun x ρ' S' => match bindT tg x ρ' with
  | none => .stk
  | some ρ2 => ex Ω b ρ2 S'
def turnC (Ω : Orc) (tg : Tg) (tt el : Tm) (ws : List Nat) (ρ1 : Env) : D → Sto → Res (Option D) := fun x S3 => match bindT tg x (wipeC ρ1 ws) with
  | none => .stk
  | some ρ' => (ev Ω ρ' tt S3).bind fun c S4 => match tru S4 c with
    | none => .stk
    | some false => .ok none S4
    | some true => (ev Ω ρ' el S4).bind fun y S5 => .ok (some y) S5
theorem ev_cst (d : D) : ev Ω ρ (.cst d) S = .ok d S := (rfl)
theorem ev_var (i : Nat) : ev Ω ρ (.var i) S = match ρ[i]? with
    | some (.val d) => .ok d S
    | _ => .stk := (rfl)
theorem ev_bor (i : Nat) : ev Ω ρ (.bor i) S = match ρ[i]? with
    | some (.val d) => .ok d S
    | some (.ownL xs) => .ok (.lst xs) S
    | _ => .stk := (rfl)
theorem ev_tup (as : Tm) : ev Ω ρ (.tup as) S = (evs Ω ρ as S).bind fun xs S1 => if xs.length ≤ sizeLine then .ok (.tup xs) S1 else .stk := (rfl)
theorem ev_lst (as : Tm) : ev Ω ρ (.lst as) S = (evs Ω ρ as S).bind fun xs S1 => if xs.length ≤ sizeLine then .ok (.lst xs) S1 else .stk := (rfl)
theorem ev_rep (as k : Tm) : ev Ω ρ (.rep as k) S = (evs Ω ρ as S).bind fun xs S1 => if xs.length ≤ sizeLine then (ev Ω ρ k S1).bind fun d S2 => (match d with
    | .int n => if -(2 ^ 63) ≤ n ∧ n < 2 ^ 63 ∧ xs.length * n.toNat ≤ sizeLine then .ok (.lst (List.replicate n.toNat xs).flatten) S2 else .stk
    | _ => .stk) else .stk := (rfl)
theorem ev_bin (o : BOp) (a b : Tm) : ev Ω ρ (.bin o a b) S = (ev Ω ρ a S).bind fun x S1 => (ev Ω ρ b S1).bind fun y S2 => Res.of S2 (binOp o S2 x y) := (rfl)
theorem ev_neg (a : Tm) : ev Ω ρ (.neg a) S = (ev Ω ρ a S).bind fun x S1 => match x with
    | .int i => .ok (.int (-i)) S1
    | _ => .stk := (rfl)
theorem ev_cmp (o : COp) (a b : Tm) : ev Ω ρ (.cmp o a b) S = (ev Ω ρ a S).bind fun x S1 => (ev Ω ρ b S1).bind fun y S2 => Res.of S2 ((cmpOp o S2 x y).map .bl) := (rfl)
theorem ev_chn (o p : COp) (a b c : Tm) : ev Ω ρ (.chn o p a b c) S = (ev Ω ρ a S).bind fun x S1 => (ev Ω ρ b S1).bind fun y S2 => match cmpOp o S2 x y with
    | none => .stk
    | some false => .ok (.bl false) S2
    | some true => (ev Ω ρ c S2).bind fun z S3 => Res.of S3 ((cmpOp p S3 y z).map .bl) := (rfl)
theorem ev_and (a b : Tm) : ev Ω ρ (.and a b) S = (ev Ω ρ a S).bind fun x S1 => match tru S1 x with
    | none => .stk
    | some false => .ok x S1
    | some true => ev Ω ρ b S1 := (rfl)
theorem ev_or (a b : Tm) : ev Ω ρ (.or a b) S = (ev Ω ρ a S).bind fun x S1 => match tru S1 x with
    | none => .stk
    | some true => .ok x S1
    | some false => ev Ω ρ b S1 := (rfl)
theorem ev_not (a : Tm) : ev Ω ρ (.not a) S = (ev Ω ρ a S).bind fun x S1 => Res.of S1 ((tru S1 x).map fun b => .bl (!b)) := (rfl)
theorem ev_ite (c a b : Tm) : ev Ω ρ (.ite c a b) S = (ev Ω ρ c S).bind fun x S1 => match tru S1 x with
    | none => .stk
    | some true => ev Ω ρ a S1
    | some false => ev Ω ρ b S1 := (rfl)
theorem ev_ix (a b : Tm) : ev Ω ρ (.ix a b) S = (ev Ω ρ a S).bind fun x S1 => (ev Ω ρ b S1).bind fun y S2 => Res.of S2 (ixD S2 x y) := (rfl)
theorem ev_sl (a lo hi : Tm) : ev Ω ρ (.sl a lo hi) S = (ev Ω ρ a S).bind fun x S1 => (evO Ω ρ lo S1).bind fun l S2 => (evO Ω ρ hi S2).bind fun h S3 => Res.of S3 (slD S3 x l h) := (rfl)
theorem ev_call (f : Str) (as : Tm) : ev Ω ρ (.call f as) S = (evs Ω ρ as S).bind fun xs S1 => Ω (.fn f) xs S1 := (rfl)
theorem ev_mk (c : Str) (as : Tm) : ev Ω ρ (.mk c as) S = (evs Ω ρ as S).bind fun xs S1 => Ω (.mk c) xs S1 := (rfl)
theorem ev_met (m : Str) (o as : Tm) : ev Ω ρ (.met m o as) S = (ev Ω ρ o S).bind fun x S1 => match clsOf S1 x m with
    | none => .stk
    | some c => (evs Ω ρ as S1).bind fun xs S2 => Ω (.me c m) (x :: xs) S2 := (rfl)
theorem ev_fld (o : Tm) (f : Str) : ev Ω ρ (.fld o f) S = (ev Ω ρ o S).bind fun x S1 => Res.of S1 (fldOf S1 x f) := (rfl)
theorem ev_shr (a : Tm) : ev Ω ρ (.shr a) S = (ev Ω ρ a S).bind fun x S1 => match x with
    | .lst xs => .ok (.loc S1.length) (S1 ++ [.lst xs])
    | _ => .stk := (rfl)
theorem ev_rev (a : Tm) : ev Ω ρ (.rev a) S = (ev Ω ρ a S).bind fun x S1 => Res.of S1 ((asL S1 x).map fun xs => .lst xs.reverse) := (rfl)
theorem ev_mth (m : Mth) (o as : Tm) : ev Ω ρ (.mth m o as) S = (ev Ω ρ o S).bind fun x S1 => if mthTy m S1 x then (evs Ω ρ as S1).bind fun xs S2 => (match mthOp m S2 x xs with
    | some (d, S3) => .ok d S3
    | none => .stk) else .stk := (rfl)
theorem ev_srt (a : Tm) : ev Ω ρ (.srt a) S = (ev Ω ρ a S).bind fun x S1 => Res.of S1 ((asL S1 x).bind fun xs => (toPs xs).bind fun ps => if srtOk ps then some (.lst (srtL false ps xs)) else none) := (rfl)
theorem ev_dnK : ev Ω ρ .dnK S = .ok (.loc S.length) (S ++ [.dK [] false]) := (rfl)
theorem ev_dnT : ev Ω ρ .dnT S = .ok (.loc S.length) (S ++ [.dT [] false]) := (rfl)
theorem ev_bi (b : Bi) (as : Tm) : ev Ω ρ (.bi b as) S = (evs Ω ρ as S).bind fun xs S1 => Res.of S1 (biOp b S1 xs) := (rfl)
theorem ev_join (s x : Tm) : ev Ω ρ (.join s x) S = (ev Ω ρ s S).bind fun d S1 => match d with
    | .str a => (ev Ω ρ x S1).bind fun y S2 => Res.of S2 ((asL S2 y).bind fun ys => (strsD ys).bind fun zs => if joinLen a zs ≤ 16777216 ∧ (Txt.join a zs).length ≤ sizeLine then some (.str (Txt.join a zs)) else none)
    | _ => .stk := (rfl)
theorem ev_comp (tg : Tg) (it tt el : Tm) (ws : List Nat) : ev Ω ρ (.comp tg it tt el ws) S = (evI Ω ρ it S).bind fun v S1 => (shutR v.ls ρ S1 fun ρ1 S2 => if wsOk ρ1 ws then (compC (chks S1 v.ls) (turnC Ω tg tt el ws ρ1) v.xs S2).noX else .stk).bind fun ys S2 => .ok (.lst ys) S2 := (rfl)
theorem evs_nil  : evs Ω ρ (.nil) S = .ok [] S := (rfl)
theorem evs_cons (a r : Tm) : evs Ω ρ (.cons a r) S = (ev Ω ρ a S).bind fun x S1 => (evs Ω ρ r S1).bind fun xs S2 => .ok (x :: xs) S2 := (rfl)
theorem evO_nil  : evO Ω ρ (.nil) S = .ok none S := (rfl)
theorem evO_part (a : Tm) : evO Ω ρ (.part a) S = (ev Ω ρ a S).bind fun x S1 => match x with
    | .int i => .ok (some i) S1
    | _ => .stk := (rfl)
theorem evI_rng1 (a : Tm) : evI Ω ρ (.rng1 a) S = (ev Ω ρ a S).bind fun x S1 => match x with
    | .int j => if -(2 ^ 62) ≤ j ∧ j ≤ 16777216 then .ok ⟨.o, (List.range j.toNat).map fun (n : Nat) => .int n, []⟩ S1 else .stk
    | _ => .stk := (rfl)
theorem evI_rng2 (a b : Tm) : evI Ω ρ (.rng2 a b) S = (ev Ω ρ a S).bind fun x S1 => (ev Ω ρ b S1).bind fun y S2 => match x, y with
    | .int i, .int j => if -(2 ^ 62) ≤ i ∧ i < 2 ^ 62 ∧ -(2 ^ 62) ≤ j ∧ j < 2 ^ 62 ∧ j - i ≤ 16777216 then .ok ⟨.o, (List.range (j - i).toNat).map fun (n : Nat) => .int (i + n), []⟩ S2 else .stk
    | _, _ => .stk := (rfl)
theorem evI_rng3 (a b c : Tm) : evI Ω ρ (.rng3 a b c) S = (ev Ω ρ a S).bind fun x S1 => (ev Ω ρ b S1).bind fun y S2 => (ev Ω ρ c S2).bind fun z S3 => match x, y, z with
    | .int i, .int j, .int k => if k ≠ 0 ∧ k.natAbs < 1073741824 ∧ Builtin.Range.small i j k = true ∧ 0 ≤ Builtin.Range.rangeSize i j k ∧ Builtin.Range.rangeSize i j k ≤ 16777216 then
        .ok ⟨.o, (List.range (Builtin.Range.rangeSize i j k).toNat).map fun (n : Nat) => .int (i + n * k), []⟩ S3 else .stk
    | _, _, _ => .stk := (rfl)
theorem evI_zip (a b : Tm) : evI Ω ρ (.zip a b) S = (evI Ω ρ a S).bind fun x S1 => (evI Ω ρ b S1).bind fun y S2 => Res.of S2 ((x.now ρ S2).bind fun x => (y.now ρ S2).bind fun y => zipI x y) := (rfl)
theorem evI_enm (a : Tm) : evI Ω ρ (.enm a) S = (evI Ω ρ a S).bind fun x S1 => Res.of S1 ((x.now ρ S1).bind enmI) := (rfl)
theorem evI_its (i : Nat) : evI Ω ρ (.its i) S = match ρ[i]? with
    | some (.ownL xs) => .ok ⟨.l, xs, [.slot i]⟩ S
    | some (.val (.lst xs)) => .ok ⟨.l, xs, []⟩ S
    | some (.val (.tup xs)) => .ok ⟨.t, xs, []⟩ S
    | some (.val (.scr xs)) => .ok ⟨.l, xs, []⟩ S
    | some (.val (.str z)) => .ok ⟨.o, z.cps.toList.map fun c => .str ⟨#[c]⟩, []⟩ S
    | some (.val (.loc l)) => match S[l]? with
      | some (.lst xs) => .ok ⟨.l, xs, [.cell l]⟩ S
      | _ => .stk
    | _ => .stk := (rfl)
theorem evI_it (t : Tm) : evI Ω ρ (.it t) S = (ev Ω ρ t S).bind fun x S1 => match x with
    | .lst xs => .ok ⟨.l, xs, []⟩ S1
    | .tup xs => .ok ⟨.t, xs, []⟩ S1
    | .scr xs => .ok ⟨.l, xs, []⟩ S1
    | .str z => .ok ⟨.o, z.cps.toList.map fun c => .str ⟨#[c]⟩, []⟩ S1
    | .loc l => match S1[l]? with
      | some (.lst xs) => .ok ⟨.l, xs, [.cell l]⟩ S1
      | _ => .stk
    | _ => .stk := (rfl)
theorem ex_skip  : ex Ω (.skip) ρ S = .nx ρ S := (rfl)
theorem ex_seq (a b : TX.St) : ex Ω (.seq a b) ρ S = (ex Ω a ρ S).next fun ρ' S' => ex Ω b ρ' S' := (rfl)
theorem ex_asg (tg : Tg) (e : Tm) : ex Ω (.asg tg e) ρ S = (ev Ω ρ e S).run ρ fun d S1 => match bindT tg d ρ with
    | some ρ' => .nx ρ' S1
    | none => .stk := (rfl)
theorem ex_own (i : Nat) (e : Tm) : ex Ω (.own i e) ρ S = (ev Ω ρ e S).run ρ fun d S1 => match d with
    | .lst xs => if i < ρ.length then .nx (ρ.set i (.ownL xs)) S1 else .stk
    | _ => .stk := (rfl)
theorem ex_setF (o : Tm) (f : Str) (e : Tm) : ex Ω (.setF o f e) ρ S = (ev Ω ρ e S).run ρ fun d S1 => (ev Ω ρ o S1).run ρ fun x S2 => match x with
    | .loc l => match putFld S2 l f d with
      | some S3 => .nx ρ S3
      | none => .stk
    | _ => .stk := (rfl)
theorem ex_setI (p : Pl) (i e : Tm) : ex Ω (.setI p i e) ρ S = (ev Ω ρ e S).run ρ fun d S1 => (plObj Ω ρ p S1).run ρ fun o S2 => (ev Ω ρ i S2).run ρ fun k S3 => plPut ρ S3 p o k d := (rfl)
theorem ex_app (i : Nat) (e : Tm) : ex Ω (.app i e) ρ S = match ρ[i]? with
    | some (.ownL _) => (ev Ω ρ e S).run ρ fun d S2 => match ρ[i]? with
      | some (.ownL xs) => if xs.length < sizeLine then .nx (ρ.set i (.ownL (xs ++ [d]))) S2 else .stk
      | _ => .stk
    | _ => .stk := (rfl)
theorem ex_del (o i : Tm) : ex Ω (.del o i) ρ S = (ev Ω ρ o S).run ρ fun o S1 => (ev Ω ρ i S1).run ρ fun k S2 => match o, k with
    | .loc l, .int k => match S2[l]? with
      | some (.lst xs) => match L2.ixN xs.length k with
        | some j => .nx ρ (S2.set l (.lst (xs.eraseIdx j)))
        | none => .stk
      | _ => .stk
    | _, _ => .stk := (rfl)
theorem ex_expr (e : Tm) : ex Ω (.expr e) ρ S = (ev Ω ρ e S).run ρ fun _ S1 => .nx ρ S1 := (rfl)
theorem ex_ret (e : Tm) : ex Ω (.ret e) ρ S = (ev Ω ρ e S).run ρ fun d S1 => .ret d S1 := (rfl)
theorem ex_retO (i : Nat) : ex Ω (.retO i) ρ S = match ρ[i]? with
    | some (.ownL xs) => .ret (.lst xs) S
    | _ => .stk := (rfl)
theorem ex_ite (c : Tm) (a b : TX.St) : ex Ω (.ite c a b) ρ S = (ev Ω ρ c S).run ρ fun x S1 => match tru S1 x with
    | none => .stk
    | some true => ex Ω a ρ S1
    | some false => ex Ω b ρ S1 := (rfl)
theorem ex_loop (tg : Tg) (it : Tm) (b : TX.St) : ex Ω (.loop tg it b) ρ S = (evI Ω ρ it S).run ρ fun v S1 => shutO v.ls ρ S1 fun ρ1 S2 => loopC (chks S1 v.ls) (turnS Ω tg b) v.xs ρ1 S2 := (rfl)
theorem ex_whl (c : Tm) (b : TX.St) : ex Ω (.whl c b) ρ S = whileN (fun ρ' S' => ev Ω ρ' c S') (fun ρ' S' => ex Ω b ρ' S') FUEL ρ S := (rfl)
theorem ex_brk  : ex Ω (.brk) ρ S = .brk ρ S := (rfl)
theorem ex_cnt  : ex Ω (.cnt) ρ S = .cnt ρ S := (rfl)
theorem ex_raise (c : Str) : ex Ω (.raise c none) ρ S = .exc c none ρ S := (rfl)
theorem ex_raise2 (c : Str) (a : Tm) : ex Ω (.raise c (some a)) ρ S = (ev Ω ρ a S).run ρ fun d S1 => .exc c (some d) ρ S1 := (rfl)
theorem ex_tryc (b : TX.St) (hs : List Hd) : ex Ω (.tryc b hs) ρ S = match ex Ω b ρ S with
    | .exc c x ρ' S' => handle c x ρ' S' hs
    | o => o := (rfl)
end
/-! ### statements, what is wanted behind them: what comes next is opened once it is reached -/
section
variable {Ω : Orc} {ρ : Env} {S : Sto} {N : Env → Sto → Prop} {R : D → Sto → Prop} {B C : Env → Sto → Prop}
def kS (Ω : Orc) (b : TX.St) (N : Env → Sto → Prop) (R : D → Sto → Prop) (B C : Env → Sto → Prop) (ρ : Env) (S : Sto) : Prop := (ex Ω b ρ S).Ok N R B C
def kAsg (tg : Tg) (ρ : Env) (N : Env → Sto → Prop) (d : D) (S : Sto) : Prop := match bindT tg d ρ with
  | some ρ' => N ρ' S
  | none => False
def kOwn (i : Nat) (ρ : Env) (N : Env → Sto → Prop) (d : D) (S : Sto) : Prop := match d with
  | .lst xs => i < ρ.length ∧ N (ρ.set i (.ownL xs)) S
  | _ => False
def kEx (ρ : Env) (N : Env → Sto → Prop) (d : D) (S : Sto) : Prop := N ρ S
def kIf (Ω : Orc) (a b : TX.St) (ρ : Env) (N : Env → Sto → Prop) (R : D → Sto → Prop) (B C : Env → Sto → Prop) (S : Sto) (t : Option Bool) : Prop := match t with
  | none => False
  | some true => (ex Ω a ρ S).Ok N R B C
  | some false => (ex Ω b ρ S).Ok N R B C
def kIte (Ω : Orc) (a b : TX.St) (ρ : Env) (N : Env → Sto → Prop) (R : D → Sto → Prop) (B C : Env → Sto → Prop) (d : D) (S : Sto) : Prop := kIf Ω a b ρ N R B C S (tru S d)
def kLoop (Ω : Orc) (tg : Tg) (b : TX.St) (ρ : Env) (N : Env → Sto → Prop) (R : D → Sto → Prop) (B C : Env → Sto → Prop) (v : ItV) (S : Sto) : Prop := (shutO v.ls ρ S fun ρ1 S2 => loopC (chks S v.ls) (turnS Ω tg b) v.xs ρ1 S2).Ok N R B C
def kPut (ρ : Env) (N : Env → Sto → Prop) (p : Pl) (o d k : D) (S : Sto) : Prop := (plPut ρ S p o k d).Ok N (fun _ _ => False) (fun _ _ => False) (fun _ _ => False)
def kSetF (ρ : Env) (N : Env → Sto → Prop) (f : Str) (d x : D) (S : Sto) : Prop := match x with
  | .loc l => match putFld S l f d with
    | some S3 => N ρ S3
    | none => False
  | _ => False
def kApp (ρ : Env) (N : Env → Sto → Prop) (i : Nat) (d : D) (S : Sto) : Prop := match ρ[i]? with
  | some (.ownL xs) => xs.length < sizeLine ∧ N (ρ.set i (.ownL (xs ++ [d]))) S
  | _ => False
def kDel (ρ : Env) (N : Env → Sto → Prop) (o k : D) (S : Sto) : Prop := match o, k with
  | .loc l, .int k => match S[l]? with
    | some (.lst xs) => match L2.ixN xs.length k with
      | some j => N ρ (S.set l (.lst (xs.eraseIdx j)))
      | none => False
    | _ => False
  | _, _ => False
theorem nx_only {o : Out} {R R' : D → Sto → Prop} {B B' C C' : Env → Sto → Prop} (h : o = .stk ∨ ∃ ρ S, o = .nx ρ S) : o.Ok N R B C ↔ o.Ok N R' B' C' := by
  rcases h with rfl | ⟨_, _, rfl⟩ <;> exact Iff.rfl
theorem plPut_nx {p : Pl} {o k d : D} : plPut ρ S p o k d = .stk ∨ ∃ ρ' S', plPut ρ S p o k d = .nx ρ' S' := by
  unfold plPut
  repeat' split
  all_goals first
  | exact .inl rfl
  | exact .inr ⟨_, _, rfl⟩
theorem kS_ap {b : TX.St} : kS Ω b N R B C ρ S ↔ (ex Ω b ρ S).Ok N R B C := (Iff.rfl)
theorem kAsg_ap {tg : Tg} {d : D} : kAsg tg ρ N d S ↔ (match bindT tg d ρ with
  | some ρ' => N ρ' S
  | none => False) := (Iff.rfl)
theorem kOwn_ap {i : Nat} {xs : List D} : kOwn i ρ N (.lst xs) S ↔ i < ρ.length ∧ N (ρ.set i (.ownL xs)) S := (Iff.rfl)
theorem kEx_ap {d : D} : kEx ρ N d S ↔ N ρ S := (Iff.rfl)
theorem kIte_ap {a b : TX.St} {d : D} : kIte Ω a b ρ N R B C d S ↔ kIf Ω a b ρ N R B C S (tru S d) := (Iff.rfl)
theorem kIf_t {a b : TX.St} : kIf Ω a b ρ N R B C S (some true) ↔ (ex Ω a ρ S).Ok N R B C := (Iff.rfl)
theorem kIf_f {a b : TX.St} : kIf Ω a b ρ N R B C S (some false) ↔ (ex Ω b ρ S).Ok N R B C := (Iff.rfl)
theorem kLoop_ap {tg : Tg} {b : TX.St} {v : ItV} : kLoop Ω tg b ρ N R B C v S ↔ (shutO v.ls ρ S fun ρ1 S2 => loopC (chks S v.ls) (turnS Ω tg b) v.xs ρ1 S2).Ok N R B C := (Iff.rfl)
theorem kSetF_ap {f : Str} {d : D} {l : Nat} : kSetF ρ N f d (.loc l) S ↔ (match putFld S l f d with
    | some S3 => N ρ S3
    | none => False) := (Iff.rfl)
theorem kPut_s {i : Nat} {o d : D} {k : Int} : kPut ρ N (.slot i) o d (.int k) S ↔ (match ρ[i]? with
    | some (.ownL xs) => match L2.ixN xs.length k with
      | some j => N (ρ.set i (.ownL (xs.set j d))) S
      | none => False
    | _ => False) := by
  show Out.Ok _ _ _ _ (match ρ[i]?, D.int k with
    | some (.ownL xs), .int k => match L2.ixN xs.length k with
      | some j => .nx (ρ.set i (.ownL (xs.set j d))) S
      | none => .stk
    | _, _ => .stk) ↔ _
  cases ρ[i]? with
  | none => exact Iff.rfl
  | some c =>
    cases c <;> try exact Iff.rfl
    rename_i xs
    show Out.Ok _ _ _ _ (match L2.ixN xs.length k with
      | some j => .nx (ρ.set i (.ownL (xs.set j d))) S
      | none => .stk) ↔ (match L2.ixN xs.length k with
      | some j => N (ρ.set i (.ownL (xs.set j d))) S
      | none => False)
    cases L2.ixN xs.length k <;> exact Iff.rfl
theorem kPut_l {t : Tm} {l : Nat} {d : D} {k : Int} {xs : List D} {j : Nat} (h : S[l]? = some (.lst xs)) (hj : L2.ixN xs.length k = some j) : kPut ρ N (.tm t) (.loc l) d (.int k) S ↔ N ρ (S.set l (.lst (xs.set j d))) := by
  unfold kPut plPut isDct
  simp only [h, hj]
  exact Iff.rfl
theorem kPut_d {t : Tm} {l : Nat} {d k : D} {S' : Sto} (h : isDct S (.loc l) = true) (hj : dPut S (.loc l) k d = some S') : kPut ρ N (.tm t) (.loc l) d k S ↔ N ρ S' := by
  unfold kPut plPut
  simp only [h, hj]
  exact Iff.rfl
theorem kApp_ap {i : Nat} {d : D} : kApp ρ N i d S ↔ (match ρ[i]? with
  | some (.ownL xs) => xs.length < sizeLine ∧ N (ρ.set i (.ownL (xs ++ [d]))) S
  | _ => False) := (Iff.rfl)
theorem kDel_ap {l : Nat} {k : Int} : kDel ρ N (.loc l) (.int k) S ↔ (match S[l]? with
    | some (.lst xs) => match L2.ixN xs.length k with
      | some j => N ρ (S.set l (.lst (xs.eraseIdx j)))
      | none => False
    | _ => False) := (Iff.rfl)
theorem o_skip : (ex Ω .skip ρ S).Ok N R B C ↔ N ρ S := (Iff.rfl)
theorem o_brk : (ex Ω .brk ρ S).Ok N R B C ↔ B ρ S := (Iff.rfl)
theorem o_cnt : (ex Ω .cnt ρ S).Ok N R B C ↔ C ρ S := (Iff.rfl)
theorem o_seq {a b : TX.St} : (ex Ω (.seq a b) ρ S).Ok N R B C ↔ (ex Ω a ρ S).Ok (kS Ω b N R B C) R B C := Ok_next
theorem okc {α : Type} {r : Res α} {f : α → Sto → Out} {P : α → Sto → Prop} (h : ∀ a S, (f a S).Ok N R B C ↔ P a S) : (r.run ρ f).Ok N R B C ↔ r.Ok P := by
  rw [Ok_run]
  cases r with
  | ok a S => exact h a S
  | _ => exact Iff.rfl
theorem o_asg {tg : Tg} {e : Tm} : (ex Ω (.asg tg e) ρ S).Ok N R B C ↔ (ev Ω ρ e S).Ok (kAsg tg ρ N) := okc fun d S => by
  unfold kAsg
  cases bindT tg d ρ <;> exact Iff.rfl
theorem o_own {i : Nat} {e : Tm} : (ex Ω (.own i e) ρ S).Ok N R B C ↔ (ev Ω ρ e S).Ok (kOwn i ρ N) := okc fun d S => by
  cases d <;> try exact Iff.rfl
  rename_i xs
  show Out.Ok N R B C (if i < ρ.length then .nx (ρ.set i (.ownL xs)) S else .stk) ↔ (i < ρ.length ∧ _)
  by_cases c : i < ρ.length
  · rw [if_pos c]
    exact ⟨fun h => ⟨c, h⟩, fun h => h.2⟩
  · rw [if_neg c]
    exact ⟨fun h => h.elim, fun h => c h.1⟩
theorem o_ret {e : Tm} : (ex Ω (.ret e) ρ S).Ok N R B C ↔ (ev Ω ρ e S).Ok R := okc fun _ _ => Iff.rfl
theorem o_retO {i : Nat} : (ex Ω (.retO i) ρ S).Ok N R B C ↔ (match ρ[i]? with
  | some (.ownL xs) => R (.lst xs) S
  | _ => False) := by
  show Out.Ok N R B C (match ρ[i]? with
    | some (.ownL xs) => .ret (.lst xs) S
    | _ => .stk) ↔ _
  cases ρ[i]? with
  | none => exact Iff.rfl
  | some c => cases c <;> exact Iff.rfl
theorem o_expr {e : Tm} : (ex Ω (.expr e) ρ S).Ok N R B C ↔ (ev Ω ρ e S).Ok (kEx ρ N) := okc fun _ _ => Iff.rfl
theorem o_ite {c : Tm} {a b : TX.St} : (ex Ω (.ite c a b) ρ S).Ok N R B C ↔ (ev Ω ρ c S).Ok (kIte Ω a b ρ N R B C) := okc fun d S => by
  unfold kIte kIf
  cases tru S d with
  | none => exact Iff.rfl
  | some t => cases t <;> exact Iff.rfl
theorem o_loop {tg : Tg} {it : Tm} {b : TX.St} : (ex Ω (.loop tg it b) ρ S).Ok N R B C ↔ (evI Ω ρ it S).Ok (kLoop Ω tg b ρ N R B C) := okc fun _ _ => Iff.rfl
theorem o_setI {p : Pl} {i e : Tm} : (ex Ω (.setI p i e) ρ S).Ok N R B C ↔ (ev Ω ρ e S).Ok fun d S1 => (plObj Ω ρ p S1).Ok fun o S2 => (ev Ω ρ i S2).Ok fun k S3 => kPut ρ N p o d k S3 :=
  okc fun d S => okc fun o S => okc fun k S => nx_only plPut_nx
theorem o_setF {o : Tm} {f : Str} {e : Tm} : (ex Ω (.setF o f e) ρ S).Ok N R B C ↔ (ev Ω ρ e S).Ok fun d S1 => (ev Ω ρ o S1).Ok (kSetF ρ N f d) := okc fun d S => okc fun x S => by
  cases x <;> try exact Iff.rfl
  rename_i l
  show Out.Ok N R B C (match putFld S l f d with
    | some S3 => .nx ρ S3
    | none => .stk) ↔ (match putFld S l f d with
    | some S3 => N ρ S3
    | none => False)
  cases putFld S l f d <;> exact Iff.rfl
theorem o_app {i : Nat} {e : Tm} : (ex Ω (.app i e) ρ S).Ok N R B C ↔ (match ρ[i]? with
    | some (.ownL _) => (ev Ω ρ e S).Ok (kApp ρ N i)
    | _ => False) := by
  show Out.Ok N R B C (match ρ[i]? with
    | some (.ownL _) => (ev Ω ρ e S).run ρ fun d S2 => match ρ[i]? with
      | some (.ownL xs) => if xs.length < sizeLine then .nx (ρ.set i (.ownL (xs ++ [d]))) S2 else .stk
      | _ => .stk
    | _ => .stk) ↔ _
  unfold kApp
  cases q : ρ[i]? with
  | none => exact Iff.rfl
  | some c =>
    cases c <;> try exact Iff.rfl
    rename_i xs
    refine okc fun d S => ?_
    show Out.Ok N R B C (if xs.length < sizeLine then .nx (ρ.set i (.ownL (xs ++ [d]))) S else .stk) ↔ (xs.length < sizeLine ∧ _)
    by_cases c : xs.length < sizeLine
    · rw [if_pos c]
      exact ⟨fun h => ⟨c, h⟩, fun h => h.2⟩
    · rw [if_neg c]
      exact ⟨fun h => h.elim, fun h => c h.1⟩
theorem o_del {o i : Tm} : (ex Ω (.del o i) ρ S).Ok N R B C ↔ (ev Ω ρ o S).Ok fun x S1 => (ev Ω ρ i S1).Ok (kDel ρ N x) := okc fun x S => okc fun k S => by
  cases x <;> try exact Iff.rfl
  cases k <;> try exact Iff.rfl
  rename_i l k
  show Out.Ok N R B C (match S[l]? with
    | some (.lst xs) => match L2.ixN xs.length k with
      | some j => .nx ρ (S.set l (.lst (xs.eraseIdx j)))
      | none => .stk
    | _ => .stk) ↔ (match S[l]? with
    | some (.lst xs) => match L2.ixN xs.length k with
      | some j => N ρ (S.set l (.lst (xs.eraseIdx j)))
      | none => False
    | _ => False)
  cases S[l]? with
  | none => exact Iff.rfl
  | some c =>
    cases c <;> try exact Iff.rfl
    rename_i xs
    show Out.Ok N R B C (match L2.ixN xs.length k with
      | some j => .nx ρ (S.set l (.lst (xs.eraseIdx j)))
      | none => .stk) ↔ (match L2.ixN xs.length k with
      | some j => N ρ (S.set l (.lst (xs.eraseIdx j)))
      | none => False)
    cases L2.ixN xs.length k <;> exact Iff.rfl
end
/-! ### operations by their forms -/
theorem at_n {α : Type} {xs : List α} {k : Nat} {x : α} (h : xs[k]? = some x) : L2.atI xs (k : Int) = some x := by
  have hk := (List.getElem?_eq_some_iff.mp h).1
  unfold L2.atI L2.ixN
  rw [if_pos (Int.natCast_nonneg k), if_pos (by omega), Option.bind_some, Int.toNat_natCast]
  exact h
section
variable {S : Sto} {i j : Int} {xs ys : List D} {x y z : D} {b c : Bool} {s t : Str} {l : Nat}
theorem add_i : binOp .add S (.int i) (.int j) = some (.int (i + j)) := (rfl)
theorem sub_i : binOp .sub S (.int i) (.int j) = some (.int (i - j)) := (rfl)
theorem mul_r (h : -18446744073709551616 < j) (k : j < 18446744073709551616) : binOp .mul S (.int i) (.int j) = some (.int (i * j)) := if_pos (.inr ⟨by omega, by omega⟩)
theorem mul_l (h : -18446744073709551616 < i) (k : i < 18446744073709551616) : binOp .mul S (.int i) (.int j) = some (.int (i * j)) := if_pos (.inl ⟨by omega, by omega⟩)
theorem fdiv_i (h : 0 < j) (k : j < 1073741824) : binOp .fdiv S (.int i) (.int j) = some (.int (i / j)) := if_pos ⟨h, k⟩
theorem mod_i (h : 0 < j) : binOp .mod S (.int i) (.int j) = some (.int (i % j)) := if_pos h
theorem band_i : binOp .band S (.int i) (.int j) = some (.int (Builtin.bitAnd i j)) := (rfl)
theorem add_t (h : xs.length + ys.length ≤ sizeLine) : binOp .add S (.tup xs) (.tup ys) = some (.tup (xs ++ ys)) := if_pos h
theorem add_s (h : s.length + t.length ≤ sizeLine) : binOp .add S (.str s) (.str t) = some (.str (s ++ t)) := if_pos h
theorem add_l (h : xs.length + ys.length ≤ sizeLine) : binOp .add S (.lst xs) (.lst ys) = some (.lst (xs ++ ys)) := if_pos h
theorem lt_i : cmpOp .lt S (.int i) (.int j) = some (decide (i < j)) := (rfl)
theorem le_i : cmpOp .le S (.int i) (.int j) = some (decide (i ≤ j)) := (rfl)
theorem gt_i : cmpOp .gt S (.int i) (.int j) = some (decide (j < i)) := (rfl)
theorem ge_i : cmpOp .ge S (.int i) (.int j) = some (decide (j ≤ i)) := (rfl)
theorem eq_i : cmpOp .eq S (.int i) (.int j) = some (decide (i = j)) := by
  show eqT S (.int i) (.int j) = _
  show some (PyData.eqv (.int i) (.int j)) = _
  refine congrArg some ?_
  show (i == j) = decide (i = j)
  rfl
theorem ne_i : cmpOp .ne S (.int i) (.int j) = some (!decide (i = j)) := by
  show (eqD S (.int i) (.int j)).map not = _
  rw [show eqD S (.int i) (.int j) = some (decide (i = j)) from eq_i]
  rfl
theorem eq_s : cmpOp .eq S (.str s) (.str t) = some (decide (s = t)) := (rfl)
theorem ne_s : cmpOp .ne S (.str s) (.str t) = some (!decide (s = t)) := (rfl)
theorem is_n : cmpOp .is S .non .non = some true := (rfl)
theorem isn_n : cmpOp .isn S .non .non = some false := (rfl)
theorem is_b : cmpOp .is S (.bl b) (.bl c) = some (decide (b = c)) := (rfl)
theorem isn_b : cmpOp .isn S (.bl b) (.bl c) = some (!decide (b = c)) := (rfl)
theorem is_i : cmpOp .is S (.int i) .non = some false := (rfl)
theorem isn_i : cmpOp .isn S (.int i) .non = some true := (rfl)
theorem is_tt : cmpOp .is S (.tup xs) .non = some false := (rfl)
theorem isn_tt : cmpOp .isn S (.tup xs) .non = some true := (rfl)
theorem is_s : cmpOp .is S (.str s) .non = some false := (rfl)
theorem isn_s : cmpOp .isn S (.str s) .non = some true := (rfl)
theorem is_l : cmpOp .is S (.lst xs) .non = some false := (rfl)
theorem isn_l : cmpOp .isn S (.lst xs) .non = some true := (rfl)
theorem ix_t : ixD S (.tup xs) (.int i) = L2.atI xs i := (rfl)
theorem ix_l : ixD S (.lst xs) (.int i) = L2.atI xs i := (rfl)
theorem ix_c : ixD S (.scr xs) (.int i) = L2.atI xs i := (rfl)
theorem ix_loc (h : S[l]? = some (.lst xs)) : ixD S (.loc l) (.int i) = L2.atI xs i := by
  show (if isDct S (.loc l) = true then (dGet S (.loc l) (.int i)).bind id else (asQ S (.loc l)).bind fun xs => L2.atI xs i) = _
  have e : isDct S (.loc l) = false := by
    unfold isDct
    simp only [h]
  rw [e]
  show ((match S[l]? with
    | some (.lst xs) => some xs
    | _ => none).bind fun xs => L2.atI xs i) = _
  rw [h]
  rfl
theorem ix_s : ixD S (.str s) (.int i) = (L2.atI s.cps.toList i).map fun c => .str ⟨#[c]⟩ := (rfl)
theorem len_t : biOp .len S [.tup xs] = some (.int xs.length) := (rfl)
theorem len_l : biOp .len S [.lst xs] = some (.int xs.length) := (rfl)
theorem len_c : biOp .len S [.scr xs] = some (.int xs.length) := (rfl)
theorem len_s : biOp .len S [.str s] = some (.int s.length) := (rfl)
theorem len_loc (h : S[l]? = some (.lst xs)) : biOp .len S [.loc l] = some (.int xs.length) := by
  show (match S[l]? with
    | some (.lst xs) => some xs
    | _ => none).map _ = _
  rw [h]
  rfl
theorem int_i : biOp .int S [.int i] = some (.int i) := (rfl)
theorem int_b : biOp .int S [.bl b] = some (.int (if b then 1 else 0)) := (rfl)
theorem max_i : biOp .max2 S [.int i, .int j] = some (.int (if j > i then j else i)) := (rfl)
theorem min_i : biOp .min2 S [.int i, .int j] = some (.int (if j < i then j else i)) := (rfl)
theorem ord_s (h : s.length = 1) : biOp .ord S [.str s] = some (.int (s.cps.getD 0 0 : Nat)) := if_pos h
theorem list_t : biOp .list S [.tup xs] = some (.lst xs) := (rfl)
theorem list_l : biOp .list S [.lst xs] = some (.lst xs) := (rfl)
theorem list_c : biOp .list S [.scr xs] = some (.lst xs) := (rfl)
theorem tuple_t : biOp .tuple S [.tup xs] = some (.tup xs) := (rfl)
theorem tuple_l : biOp .tuple S [.lst xs] = some (.tup xs) := (rfl)
theorem tuple_c : biOp .tuple S [.scr xs] = some (.tup xs) := (rfl)
theorem all_l : biOp .all S [.lst xs] = (bools xs).map fun bs => .bl (bs.all id) := (rfl)
theorem tru_n : tru S .non = some false := (rfl)
theorem tru_b : tru S (.bl b) = some b := (rfl)
theorem tru_i : tru S (.int i) = some (i != 0) := (rfl)
theorem tru_s : tru S (.str s) = some (s.length != 0) := (rfl)
theorem tru_t : tru S (.tup xs) = some (!xs.isEmpty) := (rfl)
theorem tru_l : tru S (.lst xs) = some (!xs.isEmpty) := (rfl)
theorem at0 {α : Type} {a : α} {r : List α} : L2.atI (a :: r) 0 = some a := at_n (k := 0) rfl
theorem at1 {α : Type} {a b : α} {r : List α} : L2.atI (a :: b :: r) 1 = some b := at_n (k := 1) rfl
theorem at2 {α : Type} {a b c : α} {r : List α} : L2.atI (a :: b :: c :: r) 2 = some c := at_n (k := 2) rfl
theorem at3 {α : Type} {a b c d : α} {r : List α} : L2.atI (a :: b :: c :: d :: r) 3 = some d := at_n (k := 3) rfl
theorem at4 {α : Type} {a b c d e : α} {r : List α} : L2.atI (a :: b :: c :: d :: e :: r) 4 = some e := at_n (k := 4) rfl
theorem at5 {α : Type} {a b c d e f : α} {r : List α} : L2.atI (a :: b :: c :: d :: e :: f :: r) 5 = some f := at_n (k := 5) rfl
theorem at6 {α : Type} {a b c d e f g : α} {r : List α} : L2.atI (a :: b :: c :: d :: e :: f :: g :: r) 6 = some g := at_n (k := 6) rfl
end
theorem comp_list {α : Type} {turn : D → Sto → Res (Option D)} {S : Sto} {g : α → D} {h : α → Option D} {xs : List α} (H : ∀ a ∈ xs, turn (g a) S = .ok (h a) S) : compL turn (xs.map g) S = .ok (xs.filterMap h) S := by
  induction xs with
  | nil => exact (rfl)
  | cons x xs ih =>
    show ((turn (g x) S).bind fun o S1 => (compL turn (xs.map g) S1).bind fun ys S2 => .ok (match o with
      | some y => y :: ys
      | none => ys) S2) = _
    rw [H x List.mem_cons_self, Res.bind_ok, ih fun y hy => H y (List.mem_cons_of_mem _ hy), Res.bind_ok]
    cases q : h x with
    | none => rw [List.filterMap_cons_none q]
    | some y => rw [List.filterMap_cons_some q]
theorem zip_ints (as bs : List Int) : List.zipWith (fun x y => D.tup [x, y]) (as.map D.int) (bs.map D.int) = (as.zip bs).map fun p => .tup [.int p.1, .int p.2] := by
  rw [List.zipWith_map, List.zip, List.map_zipWith]
theorem zipI_t {xs ys : List D} : zipI ⟨.t, xs, []⟩ ⟨.t, ys, []⟩ = some ⟨.o, List.zipWith (fun x y => .tup [x, y]) xs ys, []⟩ := (rfl)
theorem bools_map : ∀ bs : List Bool, bools (bs.map D.bl) = some bs
  | [] => (rfl)
  | b :: bs => by
    show (bools (bs.map D.bl)).map _ = _
    rw [bools_map bs]
    rfl
theorem toPs_ints : ∀ is : List Int, toPs (is.map D.int) = some (is.map PyData.int)
  | [] => (rfl)
  | i :: is => by
    show ((toP (.int i)).bind fun p => (toPs (is.map D.int)).map fun ps => p :: ps) = _
    rw [toPs_ints is]
    rfl
theorem lay_ints : ∀ is : List Int, PyData.canLayAll0 (is.map PyData.int) = true
  | [] => (rfl)
  | i :: is => lay_ints is
theorem dep_ints : ∀ is : List Int, PyData.depthAll (is.map PyData.int) = 0
  | [] => (rfl)
  | i :: is => by
    show max 0 _ = 0
    rw [dep_ints is]
    rfl
theorem eq_nil {S : Sto} (is : List Int) : cmpOp .eq S (.lst (is.map D.int)) (.lst []) = some is.isEmpty := by
  show ((toP (.lst (is.map D.int))).bind fun p => (toP (.lst [])).bind fun q => if SeqAt.shaped p && SeqAt.shaped q then some (PyData.eqv p q) else none) = _
  have e : toP (.lst (is.map D.int)) = some (.list (is.map PyData.int)) := by
    show (toPs (is.map D.int)).map _ = _
    rw [toPs_ints]
    rfl
  have e2 : toP (.lst []) = some (.list []) := (rfl)
  have e3 : SeqAt.shaped (.list (is.map PyData.int)) = true := by
    show (PyData.canLayAll0 (is.map PyData.int) && decide (PyData.depthAll (is.map PyData.int) + 1 ≤ 64)) = true
    rw [lay_ints, dep_ints]
    rfl
  rw [e, e2, Option.bind_some, Option.bind_some, e3]
  show some (PyData.eqv _ _) = _
  cases is <;> rfl
theorem rng_ints (n : Nat) : (List.range n).map (fun (k : Nat) => D.int k) = (List.range n).map fun (k : Nat) => .int ((k : Nat) : Int) := (rfl)
theorem at_ints {xs : List Int} {k : Nat} (h : k < xs.length) : L2.atI (xs.map D.int) (k : Int) = some (.int xs[k]) := at_n (by rw [List.getElem?_map, List.getElem?_eq_getElem h]; rfl)
theorem Reps.ints {k : Nat} {is : List Int} (h : ∀ i ∈ is, i.natAbs < 10 ^ 12) : Reps k (is.length * 41) (is.map D.int) := by
  have := Reps.of (k := k) (w := 40) (ds := is.map D.int) fun d hd => by
    obtain ⟨i, hi, rfl⟩ := List.mem_map.mp hd
    exact Rep.int (h i hi)
  rwa [List.length_map] at this
theorem sz0 : (0 ≤ sizeLine) = True := eq_true (by decide)
theorem sz1 : (1 ≤ sizeLine) = True := eq_true (by decide)
theorem sz2 : (2 ≤ sizeLine) = True := eq_true (by decide)
theorem sz3 : (3 ≤ sizeLine) = True := eq_true (by decide)
theorem sz4 : (4 ≤ sizeLine) = True := eq_true (by decide)
theorem sz5 : (5 ≤ sizeLine) = True := eq_true (by decide)
theorem sz6 : (6 ≤ sizeLine) = True := eq_true (by decide)
theorem sz7 : (7 ≤ sizeLine) = True := eq_true (by decide)
theorem sz8 : (8 ≤ sizeLine) = True := eq_true (by decide)
theorem sz9 : (9 ≤ sizeLine) = True := eq_true (by decide)
theorem sz10 : (10 ≤ sizeLine) = True := eq_true (by decide)
theorem sz11 : (11 ≤ sizeLine) = True := eq_true (by decide)
theorem sz12 : (12 ≤ sizeLine) = True := eq_true (by decide)
theorem enmI_l {xs : List D} {ls : List Lk} : enmI ⟨.l, xs, ls⟩ = some ⟨.o, enmF 0 xs, ls⟩ := (rfl)
theorem enmF_range {f : Nat → D} : ∀ (n j : Nat), enmF j ((List.range' j n).map f) = (List.range' j n).map fun k => .tup [.int (k : Nat), f k]
  | 0, j => (rfl)
  | n + 1, j => by
    rw [List.range'_succ, List.map_cons, List.map_cons]
    show D.tup [.int (j : Nat), f j] :: enmF (j + 1) ((List.range' (j + 1) n).map f) = _
    rw [enmF_range n (j + 1)]
theorem enmF_range0 {f : Nat → D} (n : Nat) : enmF 0 ((List.range n).map f) = (List.range n).map fun k => .tup [.int (k : Nat), f k] := by
  rw [List.range_eq_range']
  exact enmF_range n 0
theorem Res.Ok.is {α : Type} {r : Res α} {a : α} {S : Sto} (h : r.Ok fun b S' => b = a ∧ S' = S) : r = .ok a S := by
  obtain ⟨b, S', e, rfl, rfl⟩ := h.eq
  exact e
theorem mul_s {S : Sto} {a : Str} {n : Int} (h : 0 ≤ n ∧ n < 2 ^ 62 ∧ a.length * n.toNat ≤ sizeLine ∧ (Txt.mul a n).length ≤ sizeLine) : binOp .mul S (.str a) (.int n) = some (.str (Txt.mul a n)) := if_pos h
end TX

set_option maxRecDepth 100000
set_option maxHeartbeats 4000000
/-! TX, part 17: the laws' own helpers: cells, digits, draws, alike. -/
namespace TX
open PySem PySem.Spec

def tCellT : TX.St := (.seq (.ite (.cmp .lt (.bor 1) (.bi .len (.cons (.bor 0) .nil))) (.seq (.ret (.ix (.bor 0) (.var 1))) .skip) .skip) (.seq (.ret (.cst (.int 0))) .skip))
theorem cell_ok {T : List (Ky × Df)} {n : Nat} (h : dfOf T (.fn "_law_cell") = some ⟨2, 2, tCellT⟩) {ns : List Int} {k : Nat} {S : Sto} {P : D → Sto → Prop} (q : ∀ i : Int, P (.int i) S) :
    (runN T (n + 1) (.fn "_law_cell") [.scr (ns.map D.int), .int k] S).Ok P := by
  refine call_ok h rfl ?_
  simp only [tCellT, Df.start, ev_cst, ev_var, ev_bor, ev_tup, ev_lst, ev_rep, ev_bin, ev_neg, ev_cmp, ev_chn, ev_and, ev_or, ev_not, ev_ite, ev_ix, ev_sl, ev_call, ev_mk, ev_met, ev_fld, ev_shr, ev_bi, ev_join, ev_rev, ev_mth, ev_dnK, ev_dnT, ev_comp, evs_nil, evs_cons, evO_nil, evO_part, evI_rng1, evI_rng2, evI_rng3, evI_zip, evI_enm, evI_its, evI_it, o_skip, o_brk, o_cnt, o_seq, o_asg, o_own, o_ret, o_retO, o_expr, o_ite, o_loop, o_setI, o_setF, o_app, o_del, kS_ap, kAsg_ap, kOwn_ap, kEx_ap, kIte_ap, kIf_t, kIf_f, kLoop_ap, kPut_s, kSetF_ap, kApp_ap, kDel_ap, Res.bind_ok, Res.of_some, Res.noX_ok, Res.run_ok, Ok_ok, Ok_bind, Ok_noX, Ok_nx, Ok_ret, Ok_brk, Ok_cnt, List.map_cons, List.map_nil, List.length_cons, List.length_nil, List.cons_append, List.nil_append, List.getElem?_cons_zero, List.getElem?_cons_succ, List.set_cons_zero, List.set_cons_succ, List.replicate_succ, List.replicate_zero, TX.bindT, TX.bindL, add_i, sub_i, fdiv_i, mod_i, band_i, add_t, add_s, add_l, lt_i, le_i, gt_i, ge_i, eq_i, ne_i, eq_s, ne_s, is_n, isn_n, is_b, isn_b, is_i, isn_i, is_tt, isn_tt, is_s, isn_s, is_l, isn_l, ix_t, ix_l, ix_c, ix_s, len_t, len_l, len_c, len_s, int_i, int_b, max_i, min_i, ord_s, list_t, list_l, list_c, tuple_t, tuple_l, tuple_c, all_l, tru_n, tru_b, tru_i, tru_s, tru_t, tru_l, at0, at1, at2, at3, at4, at5, at6, mul_r, mul_l, Option.map_some, Option.bind_some, shutR_nil, shutO_nil, ItV.now, wsOk, wipeC, plObj, chks_nil, compC_nil, loopC_nil, and_self, true_and, and_true, List.all_cons, List.all_nil, Bool.and_self, Bool.and_true, Bool.true_and, Bool.not_true, Bool.not_false, if_true, if_false, decide_true, decide_false, sz0, sz1, sz2, sz3, sz4, sz5, sz6, sz7, sz8, sz9, sz10, sz11, sz12, Nat.reduceLT, Nat.reduceAdd, Nat.reduceSub, Int.reduceLT, Int.reduceLE, Int.reduceToNat]
  by_cases c : (k : Int) < ((ns.map D.int).length : Int)
  · have hk : k < ns.length := by
      rw [List.length_map] at c
      omega
    have e : L2.atI (ns.map D.int) (k : Int) = some (.int ns[k]) := at_n (by rw [List.getElem?_map, List.getElem?_eq_getElem hk]; rfl)
    simp only [c, e, Df.start, ev_cst, ev_var, ev_bor, ev_tup, ev_lst, ev_rep, ev_bin, ev_neg, ev_cmp, ev_chn, ev_and, ev_or, ev_not, ev_ite, ev_ix, ev_sl, ev_call, ev_mk, ev_met, ev_fld, ev_shr, ev_bi, ev_join, ev_rev, ev_mth, ev_dnK, ev_dnT, ev_comp, evs_nil, evs_cons, evO_nil, evO_part, evI_rng1, evI_rng2, evI_rng3, evI_zip, evI_enm, evI_its, evI_it, o_skip, o_brk, o_cnt, o_seq, o_asg, o_own, o_ret, o_retO, o_expr, o_ite, o_loop, o_setI, o_setF, o_app, o_del, kS_ap, kAsg_ap, kOwn_ap, kEx_ap, kIte_ap, kIf_t, kIf_f, kLoop_ap, kPut_s, kSetF_ap, kApp_ap, kDel_ap, Res.bind_ok, Res.of_some, Res.noX_ok, Res.run_ok, Ok_ok, Ok_bind, Ok_noX, Ok_nx, Ok_ret, Ok_brk, Ok_cnt, List.map_cons, List.map_nil, List.length_cons, List.length_nil, List.cons_append, List.nil_append, List.getElem?_cons_zero, List.getElem?_cons_succ, List.set_cons_zero, List.set_cons_succ, List.replicate_succ, List.replicate_zero, TX.bindT, TX.bindL, add_i, sub_i, fdiv_i, mod_i, band_i, add_t, add_s, add_l, lt_i, le_i, gt_i, ge_i, eq_i, ne_i, eq_s, ne_s, is_n, isn_n, is_b, isn_b, is_i, isn_i, is_tt, isn_tt, is_s, isn_s, is_l, isn_l, ix_t, ix_l, ix_c, ix_s, len_t, len_l, len_c, len_s, int_i, int_b, max_i, min_i, ord_s, list_t, list_l, list_c, tuple_t, tuple_l, tuple_c, all_l, tru_n, tru_b, tru_i, tru_s, tru_t, tru_l, at0, at1, at2, at3, at4, at5, at6, mul_r, mul_l, Option.map_some, Option.bind_some, shutR_nil, shutO_nil, ItV.now, wsOk, wipeC, plObj, chks_nil, compC_nil, loopC_nil, and_self, true_and, and_true, List.all_cons, List.all_nil, Bool.and_self, Bool.and_true, Bool.true_and, Bool.not_true, Bool.not_false, if_true, if_false, decide_true, decide_false, sz0, sz1, sz2, sz3, sz4, sz5, sz6, sz7, sz8, sz9, sz10, sz11, sz12, Nat.reduceLT, Nat.reduceAdd, Nat.reduceSub, Int.reduceLT, Int.reduceLE, Int.reduceToNat]
    exact q _
  · simp only [c, Df.start, ev_cst, ev_var, ev_bor, ev_tup, ev_lst, ev_rep, ev_bin, ev_neg, ev_cmp, ev_chn, ev_and, ev_or, ev_not, ev_ite, ev_ix, ev_sl, ev_call, ev_mk, ev_met, ev_fld, ev_shr, ev_bi, ev_join, ev_rev, ev_mth, ev_dnK, ev_dnT, ev_comp, evs_nil, evs_cons, evO_nil, evO_part, evI_rng1, evI_rng2, evI_rng3, evI_zip, evI_enm, evI_its, evI_it, o_skip, o_brk, o_cnt, o_seq, o_asg, o_own, o_ret, o_retO, o_expr, o_ite, o_loop, o_setI, o_setF, o_app, o_del, kS_ap, kAsg_ap, kOwn_ap, kEx_ap, kIte_ap, kIf_t, kIf_f, kLoop_ap, kPut_s, kSetF_ap, kApp_ap, kDel_ap, Res.bind_ok, Res.of_some, Res.noX_ok, Res.run_ok, Ok_ok, Ok_bind, Ok_noX, Ok_nx, Ok_ret, Ok_brk, Ok_cnt, List.map_cons, List.map_nil, List.length_cons, List.length_nil, List.cons_append, List.nil_append, List.getElem?_cons_zero, List.getElem?_cons_succ, List.set_cons_zero, List.set_cons_succ, List.replicate_succ, List.replicate_zero, TX.bindT, TX.bindL, add_i, sub_i, fdiv_i, mod_i, band_i, add_t, add_s, add_l, lt_i, le_i, gt_i, ge_i, eq_i, ne_i, eq_s, ne_s, is_n, isn_n, is_b, isn_b, is_i, isn_i, is_tt, isn_tt, is_s, isn_s, is_l, isn_l, ix_t, ix_l, ix_c, ix_s, len_t, len_l, len_c, len_s, int_i, int_b, max_i, min_i, ord_s, list_t, list_l, list_c, tuple_t, tuple_l, tuple_c, all_l, tru_n, tru_b, tru_i, tru_s, tru_t, tru_l, at0, at1, at2, at3, at4, at5, at6, mul_r, mul_l, Option.map_some, Option.bind_some, shutR_nil, shutO_nil, ItV.now, wsOk, wipeC, plObj, chks_nil, compC_nil, loopC_nil, and_self, true_and, and_true, List.all_cons, List.all_nil, Bool.and_self, Bool.and_true, Bool.true_and, Bool.not_true, Bool.not_false, if_true, if_false, decide_true, decide_false, sz0, sz1, sz2, sz3, sz4, sz5, sz6, sz7, sz8, sz9, sz10, sz11, sz12, Nat.reduceLT, Nat.reduceAdd, Nat.reduceSub, Int.reduceLT, Int.reduceLE, Int.reduceToNat]
    exact q 0
/-- the drawn numbers and their counter -/
def Box (xs : List Int) (c : Nat) : Cell := .lst [.lst (xs.map D.int), .int c]
def tDrawT : TX.St := (.seq (.asg (.nm 2) (.ix (.bor 0) (.cst (.int 1))))
 (.seq (.setI (.tm (.var 0)) (.cst (.int 1)) (.bin .add (.bor 2) (.cst (.int 1))))
 (.seq (.ite (.cmp .lt (.bor 2) (.bi .len (.cons (.ix (.bor 0) (.cst (.int 0))) .nil))) (.seq (.ret (.bin .mod (.bi .int (.cons (.ix (.ix (.bor 0) (.cst (.int 0))) (.var 2)) .nil)) (.var 1)))
 .skip) .skip)
 (.seq (.ret (.bin .mod (.bi .int (.cons (.bin .add (.bin .mul (.var 2) (.cst (.int 7))) (.cst (.int 3))) .nil)) (.var 1)))
 .skip))))
theorem ix2_1 : L2.ixN 2 1 = some 1 := rfl
theorem draw_ok {T : List (Ky × Df)} {n : Nat} (h : dfOf T (.fn "_law_draw") = some ⟨2, 3, tDrawT⟩) {l : Nat} {xs : List Int} {c : Nat} {m : Int} {S : Sto} {P : D → Sto → Prop} (hS : S[l]? = some (Box xs c)) (hm : 0 < m)
    (q : ∀ r : Int, 0 ≤ r → r < m → P (.int r) (S.set l (Box xs (c + 1)))) : (runN T (n + 1) (.fn "_law_draw") [.loc l, .int m] S).Ok P := by
  have hl := (List.getElem?_eq_some_iff.mp hS).1
  have e : ∀ X, (S.set l X)[l]? = some X := fun X => List.getElem?_set_self hl
  have mm : ∀ z : Int, P (.int (z % m)) (S.set l (.lst [.lst (xs.map D.int), .int ((c : Int) + 1)])) := fun z => by
    have := q _ (Int.emod_nonneg z (by omega)) (Int.emod_lt_of_pos z hm)
    rw [Box, Int.natCast_add] at this
    exact this
  have hS : S[l]? = some (.lst [.lst (xs.map D.int), .int c]) := hS
  have i1 : ∀ i, ixD S (.loc l) (.int i) = L2.atI [.lst (xs.map D.int), .int c] i := fun i => ix_loc hS
  have i2 : ∀ ys i, ixD (S.set l (.lst ys)) (.loc l) (.int i) = L2.atI ys i := fun ys i => ix_loc (e _)
  have hp : ∀ (ρ : Env) (N : Env → Sto → Prop) (t : Tm) (d : D), kPut ρ N (.tm t) (.loc l) d (.int 1) S ↔ N ρ (S.set l (.lst [.lst (xs.map D.int), d])) := fun ρ N t d => kPut_l hS ix2_1
  refine call_ok h rfl ?_
  simp only [tDrawT, hS, i1, i2, hp, Df.start, ev_cst, ev_var, ev_bor, ev_tup, ev_lst, ev_rep, ev_bin, ev_neg, ev_cmp, ev_chn, ev_and, ev_or, ev_not, ev_ite, ev_ix, ev_sl, ev_call, ev_mk, ev_met, ev_fld, ev_shr, ev_bi, ev_join, ev_rev, ev_mth, ev_dnK, ev_dnT, ev_comp, evs_nil, evs_cons, evO_nil, evO_part, evI_rng1, evI_rng2, evI_rng3, evI_zip, evI_enm, evI_its, evI_it, o_skip, o_brk, o_cnt, o_seq, o_asg, o_own, o_ret, o_retO, o_expr, o_ite, o_loop, o_setI, o_setF, o_app, o_del, kS_ap, kAsg_ap, kOwn_ap, kEx_ap, kIte_ap, kIf_t, kIf_f, kLoop_ap, kPut_s, kSetF_ap, kApp_ap, kDel_ap, Res.bind_ok, Res.of_some, Res.noX_ok, Res.run_ok, Ok_ok, Ok_bind, Ok_noX, Ok_nx, Ok_ret, Ok_brk, Ok_cnt, List.map_cons, List.map_nil, List.length_cons, List.length_nil, List.cons_append, List.nil_append, List.getElem?_cons_zero, List.getElem?_cons_succ, List.set_cons_zero, List.set_cons_succ, List.replicate_succ, List.replicate_zero, TX.bindT, TX.bindL, add_i, sub_i, fdiv_i, mod_i, band_i, add_t, add_s, add_l, lt_i, le_i, gt_i, ge_i, eq_i, ne_i, eq_s, ne_s, is_n, isn_n, is_b, isn_b, is_i, isn_i, is_tt, isn_tt, is_s, isn_s, is_l, isn_l, ix_t, ix_l, ix_c, ix_s, len_t, len_l, len_c, len_s, int_i, int_b, max_i, min_i, ord_s, list_t, list_l, list_c, tuple_t, tuple_l, tuple_c, all_l, tru_n, tru_b, tru_i, tru_s, tru_t, tru_l, at0, at1, at2, at3, at4, at5, at6, mul_r, mul_l, Option.map_some, Option.bind_some, shutR_nil, shutO_nil, ItV.now, wsOk, wipeC, plObj, chks_nil, compC_nil, loopC_nil, and_self, true_and, and_true, List.all_cons, List.all_nil, Bool.and_self, Bool.and_true, Bool.true_and, Bool.not_true, Bool.not_false, if_true, if_false, decide_true, decide_false, sz0, sz1, sz2, sz3, sz4, sz5, sz6, sz7, sz8, sz9, sz10, sz11, sz12, Nat.reduceLT, Nat.reduceAdd, Nat.reduceSub, Int.reduceLT, Int.reduceLE, Int.reduceToNat]
  by_cases k : (c : Int) < ((xs.map D.int).length : Int)
  · have hk : c < xs.length := by
      rw [List.length_map] at k
      omega
    have e : L2.atI (xs.map D.int) (c : Int) = some (.int xs[c]) := at_n (by rw [List.getElem?_map, List.getElem?_eq_getElem hk]; rfl)
    simp only [k, e, hm, i2, Df.start, ev_cst, ev_var, ev_bor, ev_tup, ev_lst, ev_rep, ev_bin, ev_neg, ev_cmp, ev_chn, ev_and, ev_or, ev_not, ev_ite, ev_ix, ev_sl, ev_call, ev_mk, ev_met, ev_fld, ev_shr, ev_bi, ev_join, ev_rev, ev_mth, ev_dnK, ev_dnT, ev_comp, evs_nil, evs_cons, evO_nil, evO_part, evI_rng1, evI_rng2, evI_rng3, evI_zip, evI_enm, evI_its, evI_it, o_skip, o_brk, o_cnt, o_seq, o_asg, o_own, o_ret, o_retO, o_expr, o_ite, o_loop, o_setI, o_setF, o_app, o_del, kS_ap, kAsg_ap, kOwn_ap, kEx_ap, kIte_ap, kIf_t, kIf_f, kLoop_ap, kPut_s, kSetF_ap, kApp_ap, kDel_ap, Res.bind_ok, Res.of_some, Res.noX_ok, Res.run_ok, Ok_ok, Ok_bind, Ok_noX, Ok_nx, Ok_ret, Ok_brk, Ok_cnt, List.map_cons, List.map_nil, List.length_cons, List.length_nil, List.cons_append, List.nil_append, List.getElem?_cons_zero, List.getElem?_cons_succ, List.set_cons_zero, List.set_cons_succ, List.replicate_succ, List.replicate_zero, TX.bindT, TX.bindL, add_i, sub_i, fdiv_i, mod_i, band_i, add_t, add_s, add_l, lt_i, le_i, gt_i, ge_i, eq_i, ne_i, eq_s, ne_s, is_n, isn_n, is_b, isn_b, is_i, isn_i, is_tt, isn_tt, is_s, isn_s, is_l, isn_l, ix_t, ix_l, ix_c, ix_s, len_t, len_l, len_c, len_s, int_i, int_b, max_i, min_i, ord_s, list_t, list_l, list_c, tuple_t, tuple_l, tuple_c, all_l, tru_n, tru_b, tru_i, tru_s, tru_t, tru_l, at0, at1, at2, at3, at4, at5, at6, mul_r, mul_l, Option.map_some, Option.bind_some, shutR_nil, shutO_nil, ItV.now, wsOk, wipeC, plObj, chks_nil, compC_nil, loopC_nil, and_self, true_and, and_true, List.all_cons, List.all_nil, Bool.and_self, Bool.and_true, Bool.true_and, Bool.not_true, Bool.not_false, if_true, if_false, decide_true, decide_false, sz0, sz1, sz2, sz3, sz4, sz5, sz6, sz7, sz8, sz9, sz10, sz11, sz12, Nat.reduceLT, Nat.reduceAdd, Nat.reduceSub, Int.reduceLT, Int.reduceLE, Int.reduceToNat]
    exact mm _
  · have m7 : ∀ S', binOp .mul S' (.int c) (.int 7) = some (.int (c * 7)) := fun S' => mul_r (by omega) (by omega)
    simp only [k, hm, m7, i2, Df.start, ev_cst, ev_var, ev_bor, ev_tup, ev_lst, ev_rep, ev_bin, ev_neg, ev_cmp, ev_chn, ev_and, ev_or, ev_not, ev_ite, ev_ix, ev_sl, ev_call, ev_mk, ev_met, ev_fld, ev_shr, ev_bi, ev_join, ev_rev, ev_mth, ev_dnK, ev_dnT, ev_comp, evs_nil, evs_cons, evO_nil, evO_part, evI_rng1, evI_rng2, evI_rng3, evI_zip, evI_enm, evI_its, evI_it, o_skip, o_brk, o_cnt, o_seq, o_asg, o_own, o_ret, o_retO, o_expr, o_ite, o_loop, o_setI, o_setF, o_app, o_del, kS_ap, kAsg_ap, kOwn_ap, kEx_ap, kIte_ap, kIf_t, kIf_f, kLoop_ap, kPut_s, kSetF_ap, kApp_ap, kDel_ap, Res.bind_ok, Res.of_some, Res.noX_ok, Res.run_ok, Ok_ok, Ok_bind, Ok_noX, Ok_nx, Ok_ret, Ok_brk, Ok_cnt, List.map_cons, List.map_nil, List.length_cons, List.length_nil, List.cons_append, List.nil_append, List.getElem?_cons_zero, List.getElem?_cons_succ, List.set_cons_zero, List.set_cons_succ, List.replicate_succ, List.replicate_zero, TX.bindT, TX.bindL, add_i, sub_i, fdiv_i, mod_i, band_i, add_t, add_s, add_l, lt_i, le_i, gt_i, ge_i, eq_i, ne_i, eq_s, ne_s, is_n, isn_n, is_b, isn_b, is_i, isn_i, is_tt, isn_tt, is_s, isn_s, is_l, isn_l, ix_t, ix_l, ix_c, ix_s, len_t, len_l, len_c, len_s, int_i, int_b, max_i, min_i, ord_s, list_t, list_l, list_c, tuple_t, tuple_l, tuple_c, all_l, tru_n, tru_b, tru_i, tru_s, tru_t, tru_l, at0, at1, at2, at3, at4, at5, at6, mul_r, mul_l, Option.map_some, Option.bind_some, shutR_nil, shutO_nil, ItV.now, wsOk, wipeC, plObj, chks_nil, compC_nil, loopC_nil, and_self, true_and, and_true, List.all_cons, List.all_nil, Bool.and_self, Bool.and_true, Bool.true_and, Bool.not_true, Bool.not_false, if_true, if_false, decide_true, decide_false, sz0, sz1, sz2, sz3, sz4, sz5, sz6, sz7, sz8, sz9, sz10, sz11, sz12, Nat.reduceLT, Nat.reduceAdd, Nat.reduceSub, Int.reduceLT, Int.reduceLE, Int.reduceToNat]
    exact mm _
def tAlikeT : TX.St := (.seq (.ret (.cmp .eq (.bi .repr (.cons (.bor 0) .nil)) (.bi .repr (.cons (.bor 1) .nil)))) .skip)
theorem alike_ok {T : List (Ky × Df)} {n : Nat} (h : dfOf T (.fn "_law_alike") = some ⟨2, 2, tAlikeT⟩) {k w : Nat} {d : D} {S : Sto} {P : D → Sto → Prop} (r : Rep k w d) (hk : k ≤ 64) (hw : w ≤ 2 ^ 20) (q : P (.bl true) S) :
    (runN T (n + 1) (.fn "_law_alike") [d, d] S).Ok P := by
  obtain ⟨z, hz, e⟩ := repr_ok (S := S) r hk hw
  have e2 : eqD S (.str z) (.str z) = some true := congrArg some (decide_eq_true rfl)
  refine call_ok h rfl ?_
  simp only [tAlikeT, Df.start, o_seq, o_ret, ev_cmp, ev_bi, evs_cons, evs_nil, ev_bor, List.map_cons, List.map_nil, List.length_cons, List.length_nil, List.cons_append, List.nil_append, List.getElem?_cons_zero, List.getElem?_cons_succ, Res.bind_ok, e, Res.of_some, cmpOp, e2, Option.map_some, Ok_ok]
  exact q
def tDig3 : TX.St := (.seq (.ite (.cmp .gt (.bor 5) (.cst (.int 0))) (.seq (.app 3 (.bin .mod (.bi .int (.cons (.bor 5) .nil)) (.cst (.int 1000))))
 (.seq (.asg (.nm 5) (.bin .fdiv (.var 5) (.cst (.int 1000))))
 .skip)) .skip)
 .skip)
def tDig4 : TX.St := (.seq (.asg (.nm 7) (.bin .mod (.bi .int (.cons (.bin .add (.bin .add (.bin .mul (.var 7) (.cst (.int 40014))) (.bin .mul (.cst (.int 5)) (.var 6))) (.cst (.int 3))) .nil)) (.cst (.int 2147483563))))
 (.seq (.app 3 (.bin .mod (.bi .int (.cons (.bin .fdiv (.var 7) (.cst (.int 1009))) .nil)) (.cst (.int 1000))))
 .skip))
def tDig2 : TX.St := (.seq (.ite (.cmp .ge (.bor 5) (.cst (.int 1000000000000000000))) (.seq (.loop (.nm 6) (.rng1 (.cst (.int 60))) tDig3)
 .skip) (.seq (.asg (.nm 7) (.bin .mod (.bi .int (.cons (.bin .add (.bin .add (.bin .mul (.var 5) (.cst (.int 40692))) (.bin .mul (.var 4) (.cst (.int 52774)))) (.cst (.int 17))) .nil)) (.cst (.int 2147483399))))
 (.seq (.loop (.nm 6) (.rng1 (.cst (.int 12))) tDig4)
 .skip)))
 .skip)
def tDig1 : TX.St := (.seq (.asg (.nm 5) (.call (Str.ofString "_law_cell") (.cons (.var 0) (.cons (.var 4) .nil))))
 (.seq (.ite (.cmp .lt (.bor 5) (.cst (.int 0))) (.seq (.asg (.nm 5) (.bin .sub (.cst (.int 1)) (.bin .mul (.cst (.int 2)) (.var 5))))
 .skip) .skip)
 tDig2))
def tDigitsT : TX.St := (.seq (.own 3 (.lst .nil))
 (.seq (.loop (.nm 4) (.rng2 (.var 1) (.var 2)) tDig1)
 (.seq (.retO 3)
 .skip)))
theorem mulR {i j : Int} (h : -(2 ^ 64) < j ∧ j < 2 ^ 64) : (-(2 ^ 64) < i ∧ i < 2 ^ 64) ∨ (-(2 ^ 64) < j ∧ j < 2 ^ 64) := .inr h
theorem mulL {i j : Int} (h : -(2 ^ 64) < i ∧ i < 2 ^ 64) : (-(2 ^ 64) < i ∧ i < 2 ^ 64) ∨ (-(2 ^ 64) < j ∧ j < 2 ^ 64) := .inl h
theorem lt_sz {n : Nat} (h : n < 100000) : n < sizeLine := Nat.lt_of_lt_of_le h (by decide)
/-- the digits of cells 0 to m -/
theorem digits_ok {T : List (Ky × Df)} {n : Nat} (h : dfOf T (.fn "_law_digits") = some ⟨3, 8, tDigitsT⟩) (hc : dfOf T (.fn "_law_cell") = some ⟨2, 2, tCellT⟩) {ns : List Int} {m : Nat} (hm : m ≤ 1000) {S : Sto} {P : D → Sto → Prop}
    (q : ∀ xs : List Int, xs.length ≤ 60 * m → P (.lst (xs.map D.int)) S) : (runN T (n + 2) (.fn "_law_digits") [.scr (ns.map D.int), .int 0, .int m] S).Ok P := by
  refine call_ok h rfl ?_
  have r0 : -(2 ^ 62) ≤ (0 : Int) ∧ (0 : Int) < 2 ^ 62 ∧ -(2 ^ 62) ≤ (m : Int) ∧ (m : Int) < 2 ^ 62 ∧ (m : Int) - 0 ≤ 16777216 := by omega
  have em : ((m : Int) - 0).toNat = m := by omega
  have z0 : 0 ≤ sizeLine := Nat.zero_le _
  simp only [tDigitsT, z0, r0, em, Df.start, ev_cst, ev_var, ev_bor, ev_tup, ev_lst, ev_rep, ev_bin, ev_neg, ev_cmp, ev_chn, ev_and, ev_or, ev_not, ev_ite, ev_ix, ev_sl, ev_call, ev_mk, ev_met, ev_fld, ev_shr, ev_bi, ev_join, ev_rev, ev_mth, ev_dnK, ev_dnT, ev_comp, evs_nil, evs_cons, evO_nil, evO_part, evI_rng1, evI_rng2, evI_rng3, evI_zip, evI_enm, evI_its, evI_it, o_skip, o_brk, o_cnt, o_seq, o_asg, o_own, o_ret, o_retO, o_expr, o_ite, o_loop, o_setI, o_setF, o_app, o_del, kS_ap, kAsg_ap, kOwn_ap, kEx_ap, kIte_ap, kIf_t, kIf_f, kLoop_ap, kPut_s, kSetF_ap, kApp_ap, kDel_ap, Res.bind_ok, Res.of_some, Res.noX_ok, Res.run_ok, Ok_ok, Ok_bind, Ok_noX, Ok_nx, Ok_ret, Ok_brk, Ok_cnt, List.map_cons, List.map_nil, List.length_cons, List.length_nil, List.cons_append, List.nil_append, List.getElem?_cons_zero, List.getElem?_cons_succ, List.set_cons_zero, List.set_cons_succ, List.replicate_succ, List.replicate_zero, TX.bindT, TX.bindL, add_i, sub_i, fdiv_i, mod_i, band_i, add_t, add_s, add_l, lt_i, le_i, gt_i, ge_i, eq_i, ne_i, eq_s, ne_s, is_n, isn_n, is_b, isn_b, is_i, isn_i, is_tt, isn_tt, is_s, isn_s, is_l, isn_l, ix_t, ix_l, ix_c, ix_s, len_t, len_l, len_c, len_s, int_i, int_b, max_i, min_i, ord_s, list_t, list_l, list_c, tuple_t, tuple_l, tuple_c, all_l, tru_n, tru_b, tru_i, tru_s, tru_t, tru_l, at0, at1, at2, at3, at4, at5, at6, mul_r, mul_l, Option.map_some, Option.bind_some, shutR_nil, shutO_nil, ItV.now, wsOk, wipeC, plObj, chks_nil, compC_nil, loopC_nil, and_self, true_and, and_true, List.all_cons, List.all_nil, Bool.and_self, Bool.and_true, Bool.true_and, Bool.not_true, Bool.not_false, if_true, if_false, decide_true, decide_false, sz0, sz1, sz2, sz3, sz4, sz5, sz6, sz7, sz8, sz9, sz10, sz11, sz12, Nat.reduceLT, Nat.reduceAdd, Nat.reduceSub, Int.reduceLT, Int.reduceLE, Int.reduceToNat]
  refine loop_ok (i := 0) (fun i ρ S' => ∃ (xs : List Int) (c4 c5 c6 c7 : C), ρ = [.val (.scr (ns.map D.int)), .val (.int 0), .val (.int m), .ownL (xs.map D.int), c4, c5, c6, c7] ∧ xs.length ≤ 60 * i ∧ S' = S) ⟨[], .und, .und, .und, .und, rfl, Nat.zero_le _, rfl⟩ ?_ ?_
  · rintro j x ρ S' hx ⟨xs, c4, c5, c6, c7, rfl, hl, rfl⟩
    have hj : j < m := by
      have := (List.getElem?_eq_some_iff.mp hx).1
      rwa [List.length_map, List.length_range] at this
    have ex : x = .int j := by
      rw [List.getElem?_map, List.getElem?_range hj] at hx
      cases hx
      exact congrArg D.int (Int.zero_add _)
    subst ex
    rw [Nat.zero_add] at hl ⊢
    simp only [turnS, tDig1, Df.start, ev_cst, ev_var, ev_bor, ev_tup, ev_lst, ev_rep, ev_bin, ev_neg, ev_cmp, ev_chn, ev_and, ev_or, ev_not, ev_ite, ev_ix, ev_sl, ev_call, ev_mk, ev_met, ev_fld, ev_shr, ev_bi, ev_join, ev_rev, ev_mth, ev_dnK, ev_dnT, ev_comp, evs_nil, evs_cons, evO_nil, evO_part, evI_rng1, evI_rng2, evI_rng3, evI_zip, evI_enm, evI_its, evI_it, o_skip, o_brk, o_cnt, o_seq, o_asg, o_own, o_ret, o_retO, o_expr, o_ite, o_loop, o_setI, o_setF, o_app, o_del, kS_ap, kAsg_ap, kOwn_ap, kEx_ap, kIte_ap, kIf_t, kIf_f, kLoop_ap, kPut_s, kSetF_ap, kApp_ap, kDel_ap, Res.bind_ok, Res.of_some, Res.noX_ok, Res.run_ok, Ok_ok, Ok_bind, Ok_noX, Ok_nx, Ok_ret, Ok_brk, Ok_cnt, List.map_cons, List.map_nil, List.length_cons, List.length_nil, List.cons_append, List.nil_append, List.getElem?_cons_zero, List.getElem?_cons_succ, List.set_cons_zero, List.set_cons_succ, List.replicate_succ, List.replicate_zero, TX.bindT, TX.bindL, add_i, sub_i, fdiv_i, mod_i, band_i, add_t, add_s, add_l, lt_i, le_i, gt_i, ge_i, eq_i, ne_i, eq_s, ne_s, is_n, isn_n, is_b, isn_b, is_i, isn_i, is_tt, isn_tt, is_s, isn_s, is_l, isn_l, ix_t, ix_l, ix_c, ix_s, len_t, len_l, len_c, len_s, int_i, int_b, max_i, min_i, ord_s, list_t, list_l, list_c, tuple_t, tuple_l, tuple_c, all_l, tru_n, tru_b, tru_i, tru_s, tru_t, tru_l, at0, at1, at2, at3, at4, at5, at6, mul_r, mul_l, Option.map_some, Option.bind_some, shutR_nil, shutO_nil, ItV.now, wsOk, wipeC, plObj, chks_nil, compC_nil, loopC_nil, and_self, true_and, and_true, List.all_cons, List.all_nil, Bool.and_self, Bool.and_true, Bool.true_and, Bool.not_true, Bool.not_false, if_true, if_false, decide_true, decide_false, sz0, sz1, sz2, sz3, sz4, sz5, sz6, sz7, sz8, sz9, sz10, sz11, sz12, Nat.reduceLT, Nat.reduceAdd, Nat.reduceSub, Int.reduceLT, Int.reduceLE, Int.reduceToNat]
    refine cell_ok hc fun z => ?_
    simp only [Df.start, ev_cst, ev_var, ev_bor, ev_tup, ev_lst, ev_rep, ev_bin, ev_neg, ev_cmp, ev_chn, ev_and, ev_or, ev_not, ev_ite, ev_ix, ev_sl, ev_call, ev_mk, ev_met, ev_fld, ev_shr, ev_bi, ev_join, ev_rev, ev_mth, ev_dnK, ev_dnT, ev_comp, evs_nil, evs_cons, evO_nil, evO_part, evI_rng1, evI_rng2, evI_rng3, evI_zip, evI_enm, evI_its, evI_it, o_skip, o_brk, o_cnt, o_seq, o_asg, o_own, o_ret, o_retO, o_expr, o_ite, o_loop, o_setI, o_setF, o_app, o_del, kS_ap, kAsg_ap, kOwn_ap, kEx_ap, kIte_ap, kIf_t, kIf_f, kLoop_ap, kPut_s, kSetF_ap, kApp_ap, kDel_ap, Res.bind_ok, Res.of_some, Res.noX_ok, Res.run_ok, Ok_ok, Ok_bind, Ok_noX, Ok_nx, Ok_ret, Ok_brk, Ok_cnt, List.map_cons, List.map_nil, List.length_cons, List.length_nil, List.cons_append, List.nil_append, List.getElem?_cons_zero, List.getElem?_cons_succ, List.set_cons_zero, List.set_cons_succ, List.replicate_succ, List.replicate_zero, TX.bindT, TX.bindL, add_i, sub_i, fdiv_i, mod_i, band_i, add_t, add_s, add_l, lt_i, le_i, gt_i, ge_i, eq_i, ne_i, eq_s, ne_s, is_n, isn_n, is_b, isn_b, is_i, isn_i, is_tt, isn_tt, is_s, isn_s, is_l, isn_l, ix_t, ix_l, ix_c, ix_s, len_t, len_l, len_c, len_s, int_i, int_b, max_i, min_i, ord_s, list_t, list_l, list_c, tuple_t, tuple_l, tuple_c, all_l, tru_n, tru_b, tru_i, tru_s, tru_t, tru_l, at0, at1, at2, at3, at4, at5, at6, mul_r, mul_l, Option.map_some, Option.bind_some, shutR_nil, shutO_nil, ItV.now, wsOk, wipeC, plObj, chks_nil, compC_nil, loopC_nil, and_self, true_and, and_true, List.all_cons, List.all_nil, Bool.and_self, Bool.and_true, Bool.true_and, Bool.not_true, Bool.not_false, if_true, if_false, decide_true, decide_false, sz0, sz1, sz2, sz3, sz4, sz5, sz6, sz7, sz8, sz9, sz10, sz11, sz12, Nat.reduceLT, Nat.reduceAdd, Nat.reduceSub, Int.reduceLT, Int.reduceLE, Int.reduceToNat]
    have tail : ∀ (xs : List Int) (z : Int) (c6 c7 : C), xs.length ≤ 60 * j → kS (runN T (n + 1)) tDig2 (fun ρ S'' => ∃ (xs : List Int) (c4 c5 c6 c7 : C), ρ = [.val (.scr (ns.map D.int)), .val (.int 0), .val (.int m), .ownL (xs.map D.int), c4, c5, c6, c7] ∧ xs.length ≤ 60 * (j + 1) ∧ S'' = S') P
        (kS (runN T (n + 1)) ((St.retO 3).seq St.skip) (fun x S => P D.non S) P (fun x x_1 => False) fun x x_1 => False) (fun ρ S'' => ∃ (xs : List Int) (c4 c5 c6 c7 : C), ρ = [.val (.scr (ns.map D.int)), .val (.int 0), .val (.int m), .ownL (xs.map D.int), c4, c5, c6, c7] ∧ xs.length ≤ 60 * (j + 1) ∧ S'' = S')
        [.val (.scr (ns.map D.int)), .val (.int 0), .val (.int m), .ownL (xs.map D.int), .val (.int j), .val (.int z), c6, c7] S' := fun xs z c6 c7 hl => by
      have r60 : -(2 ^ 62) ≤ (60 : Int) ∧ (60 : Int) ≤ 16777216 := by decide
      have r12 : -(2 ^ 62) ≤ (12 : Int) ∧ (12 : Int) ≤ 16777216 := by decide
      simp only [tDig2, Df.start, ev_cst, ev_var, ev_bor, ev_tup, ev_lst, ev_rep, ev_bin, ev_neg, ev_cmp, ev_chn, ev_and, ev_or, ev_not, ev_ite, ev_ix, ev_sl, ev_call, ev_mk, ev_met, ev_fld, ev_shr, ev_bi, ev_join, ev_rev, ev_mth, ev_dnK, ev_dnT, ev_comp, evs_nil, evs_cons, evO_nil, evO_part, evI_rng1, evI_rng2, evI_rng3, evI_zip, evI_enm, evI_its, evI_it, o_skip, o_brk, o_cnt, o_seq, o_asg, o_own, o_ret, o_retO, o_expr, o_ite, o_loop, o_setI, o_setF, o_app, o_del, kS_ap, kAsg_ap, kOwn_ap, kEx_ap, kIte_ap, kIf_t, kIf_f, kLoop_ap, kPut_s, kSetF_ap, kApp_ap, kDel_ap, Res.bind_ok, Res.of_some, Res.noX_ok, Res.run_ok, Ok_ok, Ok_bind, Ok_noX, Ok_nx, Ok_ret, Ok_brk, Ok_cnt, List.map_cons, List.map_nil, List.length_cons, List.length_nil, List.cons_append, List.nil_append, List.getElem?_cons_zero, List.getElem?_cons_succ, List.set_cons_zero, List.set_cons_succ, List.replicate_succ, List.replicate_zero, TX.bindT, TX.bindL, add_i, sub_i, fdiv_i, mod_i, band_i, add_t, add_s, add_l, lt_i, le_i, gt_i, ge_i, eq_i, ne_i, eq_s, ne_s, is_n, isn_n, is_b, isn_b, is_i, isn_i, is_tt, isn_tt, is_s, isn_s, is_l, isn_l, ix_t, ix_l, ix_c, ix_s, len_t, len_l, len_c, len_s, int_i, int_b, max_i, min_i, ord_s, list_t, list_l, list_c, tuple_t, tuple_l, tuple_c, all_l, tru_n, tru_b, tru_i, tru_s, tru_t, tru_l, at0, at1, at2, at3, at4, at5, at6, mul_r, mul_l, Option.map_some, Option.bind_some, shutR_nil, shutO_nil, ItV.now, wsOk, wipeC, plObj, chks_nil, compC_nil, loopC_nil, and_self, true_and, and_true, List.all_cons, List.all_nil, Bool.and_self, Bool.and_true, Bool.true_and, Bool.not_true, Bool.not_false, if_true, if_false, decide_true, decide_false, sz0, sz1, sz2, sz3, sz4, sz5, sz6, sz7, sz8, sz9, sz10, sz11, sz12, Nat.reduceLT, Nat.reduceAdd, Nat.reduceSub, Int.reduceLT, Int.reduceLE, Int.reduceToNat]
      by_cases c : (1000000000000000000 : Int) ≤ z
      · simp only [c, r60, Df.start, ev_cst, ev_var, ev_bor, ev_tup, ev_lst, ev_rep, ev_bin, ev_neg, ev_cmp, ev_chn, ev_and, ev_or, ev_not, ev_ite, ev_ix, ev_sl, ev_call, ev_mk, ev_met, ev_fld, ev_shr, ev_bi, ev_join, ev_rev, ev_mth, ev_dnK, ev_dnT, ev_comp, evs_nil, evs_cons, evO_nil, evO_part, evI_rng1, evI_rng2, evI_rng3, evI_zip, evI_enm, evI_its, evI_it, o_skip, o_brk, o_cnt, o_seq, o_asg, o_own, o_ret, o_retO, o_expr, o_ite, o_loop, o_setI, o_setF, o_app, o_del, kS_ap, kAsg_ap, kOwn_ap, kEx_ap, kIte_ap, kIf_t, kIf_f, kLoop_ap, kPut_s, kSetF_ap, kApp_ap, kDel_ap, Res.bind_ok, Res.of_some, Res.noX_ok, Res.run_ok, Ok_ok, Ok_bind, Ok_noX, Ok_nx, Ok_ret, Ok_brk, Ok_cnt, List.map_cons, List.map_nil, List.length_cons, List.length_nil, List.cons_append, List.nil_append, List.getElem?_cons_zero, List.getElem?_cons_succ, List.set_cons_zero, List.set_cons_succ, List.replicate_succ, List.replicate_zero, TX.bindT, TX.bindL, add_i, sub_i, fdiv_i, mod_i, band_i, add_t, add_s, add_l, lt_i, le_i, gt_i, ge_i, eq_i, ne_i, eq_s, ne_s, is_n, isn_n, is_b, isn_b, is_i, isn_i, is_tt, isn_tt, is_s, isn_s, is_l, isn_l, ix_t, ix_l, ix_c, ix_s, len_t, len_l, len_c, len_s, int_i, int_b, max_i, min_i, ord_s, list_t, list_l, list_c, tuple_t, tuple_l, tuple_c, all_l, tru_n, tru_b, tru_i, tru_s, tru_t, tru_l, at0, at1, at2, at3, at4, at5, at6, mul_r, mul_l, Option.map_some, Option.bind_some, shutR_nil, shutO_nil, ItV.now, wsOk, wipeC, plObj, chks_nil, compC_nil, loopC_nil, and_self, true_and, and_true, List.all_cons, List.all_nil, Bool.and_self, Bool.and_true, Bool.true_and, Bool.not_true, Bool.not_false, if_true, if_false, decide_true, decide_false, sz0, sz1, sz2, sz3, sz4, sz5, sz6, sz7, sz8, sz9, sz10, sz11, sz12, Nat.reduceLT, Nat.reduceAdd, Nat.reduceSub, Int.reduceLT, Int.reduceLE, Int.reduceToNat]
        refine loop_ok (i := 0) (fun i ρ S'' => ∃ (ys : List Int) (z : Int) (c6 c7 : C), ρ = [.val (.scr (ns.map D.int)), .val (.int 0), .val (.int m), .ownL (ys.map D.int), .val (.int j), .val (.int z), c6, c7] ∧ ys.length ≤ 60 * j + i ∧ S'' = S') ⟨xs, z, c6, c7, rfl, hl, rfl⟩ ?_ ?_
        · rintro i x ρ S'' hx ⟨ys, z, c6, c7, rfl, hl, rfl⟩
          have hi : i < 60 := by
            have := (List.getElem?_eq_some_iff.mp hx).1
            rwa [List.length_map, List.length_range] at this
          have hs : ys.length < sizeLine := lt_sz (by omega)
          simp only [turnS, tDig3, Df.start, ev_cst, ev_var, ev_bor, ev_tup, ev_lst, ev_rep, ev_bin, ev_neg, ev_cmp, ev_chn, ev_and, ev_or, ev_not, ev_ite, ev_ix, ev_sl, ev_call, ev_mk, ev_met, ev_fld, ev_shr, ev_bi, ev_join, ev_rev, ev_mth, ev_dnK, ev_dnT, ev_comp, evs_nil, evs_cons, evO_nil, evO_part, evI_rng1, evI_rng2, evI_rng3, evI_zip, evI_enm, evI_its, evI_it, o_skip, o_brk, o_cnt, o_seq, o_asg, o_own, o_ret, o_retO, o_expr, o_ite, o_loop, o_setI, o_setF, o_app, o_del, kS_ap, kAsg_ap, kOwn_ap, kEx_ap, kIte_ap, kIf_t, kIf_f, kLoop_ap, kPut_s, kSetF_ap, kApp_ap, kDel_ap, Res.bind_ok, Res.of_some, Res.noX_ok, Res.run_ok, Ok_ok, Ok_bind, Ok_noX, Ok_nx, Ok_ret, Ok_brk, Ok_cnt, List.map_cons, List.map_nil, List.length_cons, List.length_nil, List.cons_append, List.nil_append, List.getElem?_cons_zero, List.getElem?_cons_succ, List.set_cons_zero, List.set_cons_succ, List.replicate_succ, List.replicate_zero, TX.bindT, TX.bindL, add_i, sub_i, fdiv_i, mod_i, band_i, add_t, add_s, add_l, lt_i, le_i, gt_i, ge_i, eq_i, ne_i, eq_s, ne_s, is_n, isn_n, is_b, isn_b, is_i, isn_i, is_tt, isn_tt, is_s, isn_s, is_l, isn_l, ix_t, ix_l, ix_c, ix_s, len_t, len_l, len_c, len_s, int_i, int_b, max_i, min_i, ord_s, list_t, list_l, list_c, tuple_t, tuple_l, tuple_c, all_l, tru_n, tru_b, tru_i, tru_s, tru_t, tru_l, at0, at1, at2, at3, at4, at5, at6, mul_r, mul_l, Option.map_some, Option.bind_some, shutR_nil, shutO_nil, ItV.now, wsOk, wipeC, plObj, chks_nil, compC_nil, loopC_nil, and_self, true_and, and_true, List.all_cons, List.all_nil, Bool.and_self, Bool.and_true, Bool.true_and, Bool.not_true, Bool.not_false, if_true, if_false, decide_true, decide_false, sz0, sz1, sz2, sz3, sz4, sz5, sz6, sz7, sz8, sz9, sz10, sz11, sz12, Nat.reduceLT, Nat.reduceAdd, Nat.reduceSub, Int.reduceLT, Int.reduceLE, Int.reduceToNat]
          by_cases c : 0 < z
          · simp only [c, Df.start, ev_cst, ev_var, ev_bor, ev_tup, ev_lst, ev_rep, ev_bin, ev_neg, ev_cmp, ev_chn, ev_and, ev_or, ev_not, ev_ite, ev_ix, ev_sl, ev_call, ev_mk, ev_met, ev_fld, ev_shr, ev_bi, ev_join, ev_rev, ev_mth, ev_dnK, ev_dnT, ev_comp, evs_nil, evs_cons, evO_nil, evO_part, evI_rng1, evI_rng2, evI_rng3, evI_zip, evI_enm, evI_its, evI_it, o_skip, o_brk, o_cnt, o_seq, o_asg, o_own, o_ret, o_retO, o_expr, o_ite, o_loop, o_setI, o_setF, o_app, o_del, kS_ap, kAsg_ap, kOwn_ap, kEx_ap, kIte_ap, kIf_t, kIf_f, kLoop_ap, kPut_s, kSetF_ap, kApp_ap, kDel_ap, Res.bind_ok, Res.of_some, Res.noX_ok, Res.run_ok, Ok_ok, Ok_bind, Ok_noX, Ok_nx, Ok_ret, Ok_brk, Ok_cnt, List.map_cons, List.map_nil, List.length_cons, List.length_nil, List.cons_append, List.nil_append, List.getElem?_cons_zero, List.getElem?_cons_succ, List.set_cons_zero, List.set_cons_succ, List.replicate_succ, List.replicate_zero, TX.bindT, TX.bindL, add_i, sub_i, fdiv_i, mod_i, band_i, add_t, add_s, add_l, lt_i, le_i, gt_i, ge_i, eq_i, ne_i, eq_s, ne_s, is_n, isn_n, is_b, isn_b, is_i, isn_i, is_tt, isn_tt, is_s, isn_s, is_l, isn_l, ix_t, ix_l, ix_c, ix_s, len_t, len_l, len_c, len_s, int_i, int_b, max_i, min_i, ord_s, list_t, list_l, list_c, tuple_t, tuple_l, tuple_c, all_l, tru_n, tru_b, tru_i, tru_s, tru_t, tru_l, at0, at1, at2, at3, at4, at5, at6, mul_r, mul_l, Option.map_some, Option.bind_some, shutR_nil, shutO_nil, ItV.now, wsOk, wipeC, plObj, chks_nil, compC_nil, loopC_nil, and_self, true_and, and_true, List.all_cons, List.all_nil, Bool.and_self, Bool.and_true, Bool.true_and, Bool.not_true, Bool.not_false, if_true, if_false, decide_true, decide_false, sz0, sz1, sz2, sz3, sz4, sz5, sz6, sz7, sz8, sz9, sz10, sz11, sz12, Nat.reduceLT, Nat.reduceAdd, Nat.reduceSub, Int.reduceLT, Int.reduceLE, Int.reduceToNat]
            exact ⟨by rw [List.length_map]; exact hs, ys ++ [z % 1000], _, _, _, by rw [List.map_append]; rfl, by rw [List.length_append]; exact Nat.succ_le_succ hl⟩
          · simp only [c, Df.start, ev_cst, ev_var, ev_bor, ev_tup, ev_lst, ev_rep, ev_bin, ev_neg, ev_cmp, ev_chn, ev_and, ev_or, ev_not, ev_ite, ev_ix, ev_sl, ev_call, ev_mk, ev_met, ev_fld, ev_shr, ev_bi, ev_join, ev_rev, ev_mth, ev_dnK, ev_dnT, ev_comp, evs_nil, evs_cons, evO_nil, evO_part, evI_rng1, evI_rng2, evI_rng3, evI_zip, evI_enm, evI_its, evI_it, o_skip, o_brk, o_cnt, o_seq, o_asg, o_own, o_ret, o_retO, o_expr, o_ite, o_loop, o_setI, o_setF, o_app, o_del, kS_ap, kAsg_ap, kOwn_ap, kEx_ap, kIte_ap, kIf_t, kIf_f, kLoop_ap, kPut_s, kSetF_ap, kApp_ap, kDel_ap, Res.bind_ok, Res.of_some, Res.noX_ok, Res.run_ok, Ok_ok, Ok_bind, Ok_noX, Ok_nx, Ok_ret, Ok_brk, Ok_cnt, List.map_cons, List.map_nil, List.length_cons, List.length_nil, List.cons_append, List.nil_append, List.getElem?_cons_zero, List.getElem?_cons_succ, List.set_cons_zero, List.set_cons_succ, List.replicate_succ, List.replicate_zero, TX.bindT, TX.bindL, add_i, sub_i, fdiv_i, mod_i, band_i, add_t, add_s, add_l, lt_i, le_i, gt_i, ge_i, eq_i, ne_i, eq_s, ne_s, is_n, isn_n, is_b, isn_b, is_i, isn_i, is_tt, isn_tt, is_s, isn_s, is_l, isn_l, ix_t, ix_l, ix_c, ix_s, len_t, len_l, len_c, len_s, int_i, int_b, max_i, min_i, ord_s, list_t, list_l, list_c, tuple_t, tuple_l, tuple_c, all_l, tru_n, tru_b, tru_i, tru_s, tru_t, tru_l, at0, at1, at2, at3, at4, at5, at6, mul_r, mul_l, Option.map_some, Option.bind_some, shutR_nil, shutO_nil, ItV.now, wsOk, wipeC, plObj, chks_nil, compC_nil, loopC_nil, and_self, true_and, and_true, List.all_cons, List.all_nil, Bool.and_self, Bool.and_true, Bool.true_and, Bool.not_true, Bool.not_false, if_true, if_false, decide_true, decide_false, sz0, sz1, sz2, sz3, sz4, sz5, sz6, sz7, sz8, sz9, sz10, sz11, sz12, Nat.reduceLT, Nat.reduceAdd, Nat.reduceSub, Int.reduceLT, Int.reduceLE, Int.reduceToNat]
            exact ⟨ys, _, _, _, rfl, Nat.le_succ_of_le (by omega)⟩
        · rintro ρ S'' ⟨ys, z, c6, c7, rfl, hl, rfl⟩
          rw [List.length_map, List.length_range] at hl
          have : (60 : Int).toNat = 60 := rfl
          simp only [Df.start, ev_cst, ev_var, ev_bor, ev_tup, ev_lst, ev_rep, ev_bin, ev_neg, ev_cmp, ev_chn, ev_and, ev_or, ev_not, ev_ite, ev_ix, ev_sl, ev_call, ev_mk, ev_met, ev_fld, ev_shr, ev_bi, ev_join, ev_rev, ev_mth, ev_dnK, ev_dnT, ev_comp, evs_nil, evs_cons, evO_nil, evO_part, evI_rng1, evI_rng2, evI_rng3, evI_zip, evI_enm, evI_its, evI_it, o_skip, o_brk, o_cnt, o_seq, o_asg, o_own, o_ret, o_retO, o_expr, o_ite, o_loop, o_setI, o_setF, o_app, o_del, kS_ap, kAsg_ap, kOwn_ap, kEx_ap, kIte_ap, kIf_t, kIf_f, kLoop_ap, kPut_s, kSetF_ap, kApp_ap, kDel_ap, Res.bind_ok, Res.of_some, Res.noX_ok, Res.run_ok, Ok_ok, Ok_bind, Ok_noX, Ok_nx, Ok_ret, Ok_brk, Ok_cnt, List.map_cons, List.map_nil, List.length_cons, List.length_nil, List.cons_append, List.nil_append, List.getElem?_cons_zero, List.getElem?_cons_succ, List.set_cons_zero, List.set_cons_succ, List.replicate_succ, List.replicate_zero, TX.bindT, TX.bindL, add_i, sub_i, fdiv_i, mod_i, band_i, add_t, add_s, add_l, lt_i, le_i, gt_i, ge_i, eq_i, ne_i, eq_s, ne_s, is_n, isn_n, is_b, isn_b, is_i, isn_i, is_tt, isn_tt, is_s, isn_s, is_l, isn_l, ix_t, ix_l, ix_c, ix_s, len_t, len_l, len_c, len_s, int_i, int_b, max_i, min_i, ord_s, list_t, list_l, list_c, tuple_t, tuple_l, tuple_c, all_l, tru_n, tru_b, tru_i, tru_s, tru_t, tru_l, at0, at1, at2, at3, at4, at5, at6, mul_r, mul_l, Option.map_some, Option.bind_some, shutR_nil, shutO_nil, ItV.now, wsOk, wipeC, plObj, chks_nil, compC_nil, loopC_nil, and_self, true_and, and_true, List.all_cons, List.all_nil, Bool.and_self, Bool.and_true, Bool.true_and, Bool.not_true, Bool.not_false, if_true, if_false, decide_true, decide_false, sz0, sz1, sz2, sz3, sz4, sz5, sz6, sz7, sz8, sz9, sz10, sz11, sz12, Nat.reduceLT, Nat.reduceAdd, Nat.reduceSub, Int.reduceLT, Int.reduceLE, Int.reduceToNat]
          exact ⟨ys, _, _, _, _, rfl, by omega⟩
      · simp only [c, r12, Df.start, ev_cst, ev_var, ev_bor, ev_tup, ev_lst, ev_rep, ev_bin, ev_neg, ev_cmp, ev_chn, ev_and, ev_or, ev_not, ev_ite, ev_ix, ev_sl, ev_call, ev_mk, ev_met, ev_fld, ev_shr, ev_bi, ev_join, ev_rev, ev_mth, ev_dnK, ev_dnT, ev_comp, evs_nil, evs_cons, evO_nil, evO_part, evI_rng1, evI_rng2, evI_rng3, evI_zip, evI_enm, evI_its, evI_it, o_skip, o_brk, o_cnt, o_seq, o_asg, o_own, o_ret, o_retO, o_expr, o_ite, o_loop, o_setI, o_setF, o_app, o_del, kS_ap, kAsg_ap, kOwn_ap, kEx_ap, kIte_ap, kIf_t, kIf_f, kLoop_ap, kPut_s, kSetF_ap, kApp_ap, kDel_ap, Res.bind_ok, Res.of_some, Res.noX_ok, Res.run_ok, Ok_ok, Ok_bind, Ok_noX, Ok_nx, Ok_ret, Ok_brk, Ok_cnt, List.map_cons, List.map_nil, List.length_cons, List.length_nil, List.cons_append, List.nil_append, List.getElem?_cons_zero, List.getElem?_cons_succ, List.set_cons_zero, List.set_cons_succ, List.replicate_succ, List.replicate_zero, TX.bindT, TX.bindL, add_i, sub_i, fdiv_i, mod_i, band_i, add_t, add_s, add_l, lt_i, le_i, gt_i, ge_i, eq_i, ne_i, eq_s, ne_s, is_n, isn_n, is_b, isn_b, is_i, isn_i, is_tt, isn_tt, is_s, isn_s, is_l, isn_l, ix_t, ix_l, ix_c, ix_s, len_t, len_l, len_c, len_s, int_i, int_b, max_i, min_i, ord_s, list_t, list_l, list_c, tuple_t, tuple_l, tuple_c, all_l, tru_n, tru_b, tru_i, tru_s, tru_t, tru_l, at0, at1, at2, at3, at4, at5, at6, mul_r, mul_l, Option.map_some, Option.bind_some, shutR_nil, shutO_nil, ItV.now, wsOk, wipeC, plObj, chks_nil, compC_nil, loopC_nil, and_self, true_and, and_true, List.all_cons, List.all_nil, Bool.and_self, Bool.and_true, Bool.true_and, Bool.not_true, Bool.not_false, if_true, if_false, decide_true, decide_false, sz0, sz1, sz2, sz3, sz4, sz5, sz6, sz7, sz8, sz9, sz10, sz11, sz12, Nat.reduceLT, Nat.reduceAdd, Nat.reduceSub, Int.reduceLT, Int.reduceLE, Int.reduceToNat]
        refine loop_ok (i := 0) (fun i ρ S'' => ∃ (ys : List Int) (z : Int) (c6 : C) (u : Int), ρ = [.val (.scr (ns.map D.int)), .val (.int 0), .val (.int m), .ownL (ys.map D.int), .val (.int j), .val (.int z), c6, .val (.int u)] ∧ ys.length ≤ 60 * j + i ∧ S'' = S') ⟨xs, z, c6, _, rfl, hl, rfl⟩ ?_ ?_
        · rintro i x ρ S'' hx ⟨ys, z, c6, u, rfl, hl, rfl⟩
          have hi : i < 12 := by
            have := (List.getElem?_eq_some_iff.mp hx).1
            rwa [List.length_map, List.length_range] at this
          have hs : ys.length < sizeLine := lt_sz (by omega)
          have ex : x = .int i := by
            rw [List.getElem?_map, List.getElem?_range hi] at hx
            cases hx
            rfl
          subst ex
          simp only [turnS, tDig4, Df.start, ev_cst, ev_var, ev_bor, ev_tup, ev_lst, ev_rep, ev_bin, ev_neg, ev_cmp, ev_chn, ev_and, ev_or, ev_not, ev_ite, ev_ix, ev_sl, ev_call, ev_mk, ev_met, ev_fld, ev_shr, ev_bi, ev_join, ev_rev, ev_mth, ev_dnK, ev_dnT, ev_comp, evs_nil, evs_cons, evO_nil, evO_part, evI_rng1, evI_rng2, evI_rng3, evI_zip, evI_enm, evI_its, evI_it, o_skip, o_brk, o_cnt, o_seq, o_asg, o_own, o_ret, o_retO, o_expr, o_ite, o_loop, o_setI, o_setF, o_app, o_del, kS_ap, kAsg_ap, kOwn_ap, kEx_ap, kIte_ap, kIf_t, kIf_f, kLoop_ap, kPut_s, kSetF_ap, kApp_ap, kDel_ap, Res.bind_ok, Res.of_some, Res.noX_ok, Res.run_ok, Ok_ok, Ok_bind, Ok_noX, Ok_nx, Ok_ret, Ok_brk, Ok_cnt, List.map_cons, List.map_nil, List.length_cons, List.length_nil, List.cons_append, List.nil_append, List.getElem?_cons_zero, List.getElem?_cons_succ, List.set_cons_zero, List.set_cons_succ, List.replicate_succ, List.replicate_zero, TX.bindT, TX.bindL, add_i, sub_i, fdiv_i, mod_i, band_i, add_t, add_s, add_l, lt_i, le_i, gt_i, ge_i, eq_i, ne_i, eq_s, ne_s, is_n, isn_n, is_b, isn_b, is_i, isn_i, is_tt, isn_tt, is_s, isn_s, is_l, isn_l, ix_t, ix_l, ix_c, ix_s, len_t, len_l, len_c, len_s, int_i, int_b, max_i, min_i, ord_s, list_t, list_l, list_c, tuple_t, tuple_l, tuple_c, all_l, tru_n, tru_b, tru_i, tru_s, tru_t, tru_l, at0, at1, at2, at3, at4, at5, at6, mul_r, mul_l, Option.map_some, Option.bind_some, shutR_nil, shutO_nil, ItV.now, wsOk, wipeC, plObj, chks_nil, compC_nil, loopC_nil, and_self, true_and, and_true, List.all_cons, List.all_nil, Bool.and_self, Bool.and_true, Bool.true_and, Bool.not_true, Bool.not_false, if_true, if_false, decide_true, decide_false, sz0, sz1, sz2, sz3, sz4, sz5, sz6, sz7, sz8, sz9, sz10, sz11, sz12, Nat.reduceLT, Nat.reduceAdd, Nat.reduceSub, Int.reduceLT, Int.reduceLE, Int.reduceToNat]
          exact ⟨by rw [List.length_map]; exact hs, ys ++ [_], _, _, _, by rw [List.map_append]; rfl, by rw [List.length_append]; exact Nat.succ_le_succ hl⟩
        · rintro ρ S'' ⟨ys, z, c6, u, rfl, hl, rfl⟩
          rw [List.length_map, List.length_range] at hl
          have : (12 : Int).toNat = 12 := rfl
          simp only [Df.start, ev_cst, ev_var, ev_bor, ev_tup, ev_lst, ev_rep, ev_bin, ev_neg, ev_cmp, ev_chn, ev_and, ev_or, ev_not, ev_ite, ev_ix, ev_sl, ev_call, ev_mk, ev_met, ev_fld, ev_shr, ev_bi, ev_join, ev_rev, ev_mth, ev_dnK, ev_dnT, ev_comp, evs_nil, evs_cons, evO_nil, evO_part, evI_rng1, evI_rng2, evI_rng3, evI_zip, evI_enm, evI_its, evI_it, o_skip, o_brk, o_cnt, o_seq, o_asg, o_own, o_ret, o_retO, o_expr, o_ite, o_loop, o_setI, o_setF, o_app, o_del, kS_ap, kAsg_ap, kOwn_ap, kEx_ap, kIte_ap, kIf_t, kIf_f, kLoop_ap, kPut_s, kSetF_ap, kApp_ap, kDel_ap, Res.bind_ok, Res.of_some, Res.noX_ok, Res.run_ok, Ok_ok, Ok_bind, Ok_noX, Ok_nx, Ok_ret, Ok_brk, Ok_cnt, List.map_cons, List.map_nil, List.length_cons, List.length_nil, List.cons_append, List.nil_append, List.getElem?_cons_zero, List.getElem?_cons_succ, List.set_cons_zero, List.set_cons_succ, List.replicate_succ, List.replicate_zero, TX.bindT, TX.bindL, add_i, sub_i, fdiv_i, mod_i, band_i, add_t, add_s, add_l, lt_i, le_i, gt_i, ge_i, eq_i, ne_i, eq_s, ne_s, is_n, isn_n, is_b, isn_b, is_i, isn_i, is_tt, isn_tt, is_s, isn_s, is_l, isn_l, ix_t, ix_l, ix_c, ix_s, len_t, len_l, len_c, len_s, int_i, int_b, max_i, min_i, ord_s, list_t, list_l, list_c, tuple_t, tuple_l, tuple_c, all_l, tru_n, tru_b, tru_i, tru_s, tru_t, tru_l, at0, at1, at2, at3, at4, at5, at6, mul_r, mul_l, Option.map_some, Option.bind_some, shutR_nil, shutO_nil, ItV.now, wsOk, wipeC, plObj, chks_nil, compC_nil, loopC_nil, and_self, true_and, and_true, List.all_cons, List.all_nil, Bool.and_self, Bool.and_true, Bool.true_and, Bool.not_true, Bool.not_false, if_true, if_false, decide_true, decide_false, sz0, sz1, sz2, sz3, sz4, sz5, sz6, sz7, sz8, sz9, sz10, sz11, sz12, Nat.reduceLT, Nat.reduceAdd, Nat.reduceSub, Int.reduceLT, Int.reduceLE, Int.reduceToNat]
          exact ⟨ys, _, _, _, _, rfl, by omega⟩
    by_cases c : z < 0
    · simp only [c, Df.start, ev_cst, ev_var, ev_bor, ev_tup, ev_lst, ev_rep, ev_bin, ev_neg, ev_cmp, ev_chn, ev_and, ev_or, ev_not, ev_ite, ev_ix, ev_sl, ev_call, ev_mk, ev_met, ev_fld, ev_shr, ev_bi, ev_join, ev_rev, ev_mth, ev_dnK, ev_dnT, ev_comp, evs_nil, evs_cons, evO_nil, evO_part, evI_rng1, evI_rng2, evI_rng3, evI_zip, evI_enm, evI_its, evI_it, o_skip, o_brk, o_cnt, o_seq, o_asg, o_own, o_ret, o_retO, o_expr, o_ite, o_loop, o_setI, o_setF, o_app, o_del, kS_ap, kAsg_ap, kOwn_ap, kEx_ap, kIte_ap, kIf_t, kIf_f, kLoop_ap, kPut_s, kSetF_ap, kApp_ap, kDel_ap, Res.bind_ok, Res.of_some, Res.noX_ok, Res.run_ok, Ok_ok, Ok_bind, Ok_noX, Ok_nx, Ok_ret, Ok_brk, Ok_cnt, List.map_cons, List.map_nil, List.length_cons, List.length_nil, List.cons_append, List.nil_append, List.getElem?_cons_zero, List.getElem?_cons_succ, List.set_cons_zero, List.set_cons_succ, List.replicate_succ, List.replicate_zero, TX.bindT, TX.bindL, add_i, sub_i, fdiv_i, mod_i, band_i, add_t, add_s, add_l, lt_i, le_i, gt_i, ge_i, eq_i, ne_i, eq_s, ne_s, is_n, isn_n, is_b, isn_b, is_i, isn_i, is_tt, isn_tt, is_s, isn_s, is_l, isn_l, ix_t, ix_l, ix_c, ix_s, len_t, len_l, len_c, len_s, int_i, int_b, max_i, min_i, ord_s, list_t, list_l, list_c, tuple_t, tuple_l, tuple_c, all_l, tru_n, tru_b, tru_i, tru_s, tru_t, tru_l, at0, at1, at2, at3, at4, at5, at6, mul_r, mul_l, Option.map_some, Option.bind_some, shutR_nil, shutO_nil, ItV.now, wsOk, wipeC, plObj, chks_nil, compC_nil, loopC_nil, and_self, true_and, and_true, List.all_cons, List.all_nil, Bool.and_self, Bool.and_true, Bool.true_and, Bool.not_true, Bool.not_false, if_true, if_false, decide_true, decide_false, sz0, sz1, sz2, sz3, sz4, sz5, sz6, sz7, sz8, sz9, sz10, sz11, sz12, Nat.reduceLT, Nat.reduceAdd, Nat.reduceSub, Int.reduceLT, Int.reduceLE, Int.reduceToNat]
      exact tail xs _ c6 c7 hl
    · simp only [c, Df.start, ev_cst, ev_var, ev_bor, ev_tup, ev_lst, ev_rep, ev_bin, ev_neg, ev_cmp, ev_chn, ev_and, ev_or, ev_not, ev_ite, ev_ix, ev_sl, ev_call, ev_mk, ev_met, ev_fld, ev_shr, ev_bi, ev_join, ev_rev, ev_mth, ev_dnK, ev_dnT, ev_comp, evs_nil, evs_cons, evO_nil, evO_part, evI_rng1, evI_rng2, evI_rng3, evI_zip, evI_enm, evI_its, evI_it, o_skip, o_brk, o_cnt, o_seq, o_asg, o_own, o_ret, o_retO, o_expr, o_ite, o_loop, o_setI, o_setF, o_app, o_del, kS_ap, kAsg_ap, kOwn_ap, kEx_ap, kIte_ap, kIf_t, kIf_f, kLoop_ap, kPut_s, kSetF_ap, kApp_ap, kDel_ap, Res.bind_ok, Res.of_some, Res.noX_ok, Res.run_ok, Ok_ok, Ok_bind, Ok_noX, Ok_nx, Ok_ret, Ok_brk, Ok_cnt, List.map_cons, List.map_nil, List.length_cons, List.length_nil, List.cons_append, List.nil_append, List.getElem?_cons_zero, List.getElem?_cons_succ, List.set_cons_zero, List.set_cons_succ, List.replicate_succ, List.replicate_zero, TX.bindT, TX.bindL, add_i, sub_i, fdiv_i, mod_i, band_i, add_t, add_s, add_l, lt_i, le_i, gt_i, ge_i, eq_i, ne_i, eq_s, ne_s, is_n, isn_n, is_b, isn_b, is_i, isn_i, is_tt, isn_tt, is_s, isn_s, is_l, isn_l, ix_t, ix_l, ix_c, ix_s, len_t, len_l, len_c, len_s, int_i, int_b, max_i, min_i, ord_s, list_t, list_l, list_c, tuple_t, tuple_l, tuple_c, all_l, tru_n, tru_b, tru_i, tru_s, tru_t, tru_l, at0, at1, at2, at3, at4, at5, at6, mul_r, mul_l, Option.map_some, Option.bind_some, shutR_nil, shutO_nil, ItV.now, wsOk, wipeC, plObj, chks_nil, compC_nil, loopC_nil, and_self, true_and, and_true, List.all_cons, List.all_nil, Bool.and_self, Bool.and_true, Bool.true_and, Bool.not_true, Bool.not_false, if_true, if_false, decide_true, decide_false, sz0, sz1, sz2, sz3, sz4, sz5, sz6, sz7, sz8, sz9, sz10, sz11, sz12, Nat.reduceLT, Nat.reduceAdd, Nat.reduceSub, Int.reduceLT, Int.reduceLE, Int.reduceToNat]
      exact tail xs z c6 c7 hl
  · rintro ρ S' ⟨xs, c4, c5, c6, c7, rfl, hl, rfl⟩
    rw [List.length_map, List.length_range] at hl
    simp only [Df.start, ev_cst, ev_var, ev_bor, ev_tup, ev_lst, ev_rep, ev_bin, ev_neg, ev_cmp, ev_chn, ev_and, ev_or, ev_not, ev_ite, ev_ix, ev_sl, ev_call, ev_mk, ev_met, ev_fld, ev_shr, ev_bi, ev_join, ev_rev, ev_mth, ev_dnK, ev_dnT, ev_comp, evs_nil, evs_cons, evO_nil, evO_part, evI_rng1, evI_rng2, evI_rng3, evI_zip, evI_enm, evI_its, evI_it, o_skip, o_brk, o_cnt, o_seq, o_asg, o_own, o_ret, o_retO, o_expr, o_ite, o_loop, o_setI, o_setF, o_app, o_del, kS_ap, kAsg_ap, kOwn_ap, kEx_ap, kIte_ap, kIf_t, kIf_f, kLoop_ap, kPut_s, kSetF_ap, kApp_ap, kDel_ap, Res.bind_ok, Res.of_some, Res.noX_ok, Res.run_ok, Ok_ok, Ok_bind, Ok_noX, Ok_nx, Ok_ret, Ok_brk, Ok_cnt, List.map_cons, List.map_nil, List.length_cons, List.length_nil, List.cons_append, List.nil_append, List.getElem?_cons_zero, List.getElem?_cons_succ, List.set_cons_zero, List.set_cons_succ, List.replicate_succ, List.replicate_zero, TX.bindT, TX.bindL, add_i, sub_i, fdiv_i, mod_i, band_i, add_t, add_s, add_l, lt_i, le_i, gt_i, ge_i, eq_i, ne_i, eq_s, ne_s, is_n, isn_n, is_b, isn_b, is_i, isn_i, is_tt, isn_tt, is_s, isn_s, is_l, isn_l, ix_t, ix_l, ix_c, ix_s, len_t, len_l, len_c, len_s, int_i, int_b, max_i, min_i, ord_s, list_t, list_l, list_c, tuple_t, tuple_l, tuple_c, all_l, tru_n, tru_b, tru_i, tru_s, tru_t, tru_l, at0, at1, at2, at3, at4, at5, at6, mul_r, mul_l, Option.map_some, Option.bind_some, shutR_nil, shutO_nil, ItV.now, wsOk, wipeC, plObj, chks_nil, compC_nil, loopC_nil, and_self, true_and, and_true, List.all_cons, List.all_nil, Bool.and_self, Bool.and_true, Bool.true_and, Bool.not_true, Bool.not_false, if_true, if_false, decide_true, decide_false, sz0, sz1, sz2, sz3, sz4, sz5, sz6, sz7, sz8, sz9, sz10, sz11, sz12, Nat.reduceLT, Nat.reduceAdd, Nat.reduceSub, Int.reduceLT, Int.reduceLE, Int.reduceToNat]
    exact q xs (by omega)
end TX


set_option maxRecDepth 100000
set_option maxHeartbeats 4000000
/-! TX, part 18: texts as rows of codes; cuts; equal data. -/
namespace TX
open PySem PySem.Spec
def tx (cs : List Nat) : Str := ⟨cs.toArray⟩
theorem tx_len (cs : List Nat) : (tx cs).length = cs.length := (rfl)
theorem tx_cps (cs : List Nat) : (tx cs).cps.toList = cs := by
  show cs.toArray.toList = cs
  exact List.toList_toArray
theorem tx_add (a b : List Nat) : tx a ++ tx b = tx (a ++ b) := by
  show (⟨(tx a).cps ++ (tx b).cps⟩ : Str) = _
  unfold tx
  rw [List.append_toArray]
theorem cut_nn {α : Type} (xs : List α) (lo hi : Nat) : cut xs (some (lo : Int)) (some (hi : Int)) = (xs.drop lo).take (hi - lo) := by
  unfold cut
  rw [HT.sIx_nat, HT.sIx_nat]
  by_cases h : lo ≤ xs.length
  · rw [Nat.min_eq_left h]
    by_cases k : hi ≤ xs.length
    · rw [Nat.min_eq_left k]
    · rw [Nat.min_eq_right (Nat.le_of_not_le k), List.take_of_length_le (by rw [List.length_drop]; exact Nat.le_refl _), List.take_of_length_le (by rw [List.length_drop]; omega)]
  · have e : min lo xs.length = xs.length := Nat.min_eq_right (Nat.le_of_not_le h)
    rw [e, List.drop_eq_nil_of_le (Nat.le_refl _), List.drop_eq_nil_of_le (Nat.le_of_not_le h), List.take_nil, List.take_nil]
theorem sl_s {S : Sto} {cs : List Nat} {lo hi : Nat} : slD S (.str (tx cs)) (some (lo : Int)) (some (hi : Int)) = some (.str (tx ((cs.drop lo).take (hi - lo)))) := by
  show some (D.str ⟨(cut (tx cs).cps.toList (some (lo : Int)) (some (hi : Int))).toArray⟩) = _
  rw [tx_cps, cut_nn]
  rfl
theorem sl_l {S : Sto} {xs : List D} {lo hi : Nat} : slD S (.lst xs) (some (lo : Int)) (some (hi : Int)) = some (.lst ((xs.drop lo).take (hi - lo))) := by
  show some (D.lst (cut xs (some (lo : Int)) (some (hi : Int)))) = _
  rw [cut_nn]
/-- the same data are equal -/
theorem eq_same {k w : Nat} {d : D} (h : Rep k w d) (hk : k ≤ 64) (S : Sto) : cmpOp .eq S d d = some true ∧ cmpOp .ne S d d = some false := by
  have e : eqD S d d = some true := by
    obtain ⟨p, e, h⟩ := h
    have go : eqT S d d = some true := by
      show ((toP (see S d)).bind fun p => (toP (see S d)).bind fun q => if SeqAt.shaped p && SeqAt.shaped q then some (PyData.eqv p q) else none) = _
      have h1 : SeqAt.shaped p = true := by
        show (p.canLay0 && decide (p.depth ≤ 64)) = true
        rw [h.lay, decide_eq_true (Nat.le_trans h.dep hk)]
        rfl
      rw [see_of e, e, Option.bind_some, Option.bind_some, h1]
      show some (PyData.eqv p p) = _
      rw [SeqAt.eqv_refl p h.lay]
    cases d <;> first | exact go | exact congrArg some (decide_eq_true rfl)
  exact ⟨e, by show (eqD S d d).map not = _; rw [e]; rfl⟩
end TX


set_option maxRecDepth 100000
set_option maxHeartbeats 4000000
/-! TX, part 19: plain data (no truth values) are equal as trees; cuts; order of rows of numbers. -/
namespace TX
open PySem PySem.Spec
mutual
/-- nothing but None, numbers, texts, tuples, lists of these -/
def pln : D → Bool
  | .non => true
  | .int _ => true
  | .str s => PyData.canLay0 (.str s)
  | .tup xs => plns xs
  | .lst xs => plns xs
  | _ => false
def plns : List D → Bool
  | [] => true
  | x :: xs => pln x && plns xs
end
mutual
def dpt : D → Nat
  | .tup xs => dpts xs + 1
  | .lst xs => dpts xs + 1
  | _ => 0
def dpts : List D → Nat
  | [] => 0
  | x :: xs => max (dpt x) (dpts xs)
end
mutual
theorem pln_toP : ∀ {d : D}, pln d = true → ∃ p, toP d = some p ∧ p.canLay0 = true ∧ p.depth = dpt d
  | .non, _ => ⟨_, rfl, rfl, rfl⟩
  | .int _, _ => ⟨_, rfl, rfl, rfl⟩
  | .str s, h => ⟨_, rfl, h, rfl⟩
  | .tup xs, h => by
    obtain ⟨ps, h1, h2, h3⟩ := plns_toP (ds := xs) h
    exact ⟨.tuple ps, by show (toPs xs).map _ = _; rw [h1]; rfl, h2, congrArg (· + 1) h3⟩
  | .lst xs, h => by
    obtain ⟨ps, h1, h2, h3⟩ := plns_toP (ds := xs) h
    exact ⟨.list ps, by show (toPs xs).map _ = _; rw [h1]; rfl, h2, congrArg (· + 1) h3⟩
  | .bl _, h => by cases h
  | .loc _, h => by cases h
  | .scr _, h => by cases h
  | .wtp _, h => by cases h
theorem plns_toP : ∀ {ds : List D}, plns ds = true → ∃ ps, toPs ds = some ps ∧ PyData.canLayAll0 ps = true ∧ PyData.depthAll ps = dpts ds
  | [], _ => ⟨_, rfl, rfl, rfl⟩
  | d :: ds, h => by
    have h : (pln d && plns ds) = true := h
    rw [Bool.and_eq_true] at h
    obtain ⟨p, h1, h2, h3⟩ := pln_toP h.1
    obtain ⟨ps, k1, k2, k3⟩ := plns_toP h.2
    refine ⟨p :: ps, ?_, ?_, ?_⟩
    · show ((toP d).bind fun p => (toPs ds).map fun ps => p :: ps) = _
      rw [h1, k1]
      rfl
    · show (p.canLay0 && PyData.canLayAll0 ps) = true
      rw [h2, k2]
      rfl
    · show max p.depth (PyData.depthAll ps) = max (dpt d) (dpts ds)
      rw [h3, k3]
end
mutual
theorem eqv_pln : ∀ {x y : D} {p q : PyData}, pln x = true → pln y = true → toP x = some p → toP y = some q → PyData.eqv p q = D.beq x y
  | .non, y, p, q, _, hy, hp, hq => by
    cases hp
    cases y <;> first | (cases hq; rfl) | (cases hy; done) | skip
    all_goals
      rename_i ys
      obtain ⟨ps, e, _⟩ := plns_toP (ds := ys) hy
      have hq : (toPs ys).map _ = some q := hq
      rw [e] at hq
      cases hq
      rfl
  | .int i, y, p, q, _, hy, hp, hq => by
    cases hp
    cases y <;> first | (cases hy; done) | skip
    case int j => cases hq; show (i == j) = decide (i = j); rfl
    case non => cases hq; rfl
    case str z => cases hq; rfl
    all_goals
      rename_i ys
      obtain ⟨ps, e, _⟩ := plns_toP (ds := ys) hy
      have hq : (toPs ys).map _ = some q := hq
      rw [e] at hq
      cases hq
      rfl
  | .str i, y, p, q, _, hy, hp, hq => by
    cases hp
    cases y <;> first | (cases hy; done) | skip
    case int j => cases hq; rfl
    case non => cases hq; rfl
    case str z =>
      cases hq
      show (i == z) = decide (i = z)
      by_cases c : i = z
      · subst c
        rw [decide_eq_true rfl]
        exact beq_self_eq_true i
      · rw [decide_eq_false c]
        exact beq_eq_false_iff_ne.mpr c
    all_goals
      rename_i ys
      obtain ⟨ps, e, _⟩ := plns_toP (ds := ys) hy
      have hq : (toPs ys).map _ = some q := hq
      rw [e] at hq
      cases hq
      rfl
  | .tup xs, y, p, q, hx, hy, hp, hq => by
    obtain ⟨ps, e, _⟩ := plns_toP (ds := xs) hx
    have hp : (toPs xs).map _ = some p := hp
    rw [e] at hp
    cases hp
    cases y <;> first | (cases hy; done) | (cases hq; rfl) | skip
    case tup ys =>
      obtain ⟨qs, e2, _⟩ := plns_toP (ds := ys) hy
      have hq : (toPs ys).map _ = some q := hq
      rw [e2] at hq
      cases hq
      exact eqvs_plns hx hy e e2
    case lst ys =>
      obtain ⟨qs, e2, _⟩ := plns_toP (ds := ys) hy
      have hq : (toPs ys).map _ = some q := hq
      rw [e2] at hq
      cases hq
      rfl
  | .lst xs, y, p, q, hx, hy, hp, hq => by
    obtain ⟨ps, e, _⟩ := plns_toP (ds := xs) hx
    have hp : (toPs xs).map _ = some p := hp
    rw [e] at hp
    cases hp
    cases y <;> first | (cases hy; done) | (cases hq; rfl) | skip
    case lst ys =>
      obtain ⟨qs, e2, _⟩ := plns_toP (ds := ys) hy
      have hq : (toPs ys).map _ = some q := hq
      rw [e2] at hq
      cases hq
      exact eqvs_plns hx hy e e2
    case tup ys =>
      obtain ⟨qs, e2, _⟩ := plns_toP (ds := ys) hy
      have hq : (toPs ys).map _ = some q := hq
      rw [e2] at hq
      cases hq
      rfl
  | .bl _, _, _, _, h, _, _, _ => by cases h
  | .loc _, _, _, _, h, _, _, _ => by cases h
  | .scr _, _, _, _, h, _, _, _ => by cases h
  | .wtp _, _, _, _, h, _, _, _ => by cases h
theorem eqvs_plns : ∀ {xs ys : List D} {ps qs : List PyData}, plns xs = true → plns ys = true → toPs xs = some ps → toPs ys = some qs → PyData.eqvAll ps qs = D.beqs xs ys
  | [], ys, ps, qs, _, hy, hp, hq => by
    cases hp
    cases ys with
    | nil => cases hq; rfl
    | cons y ys =>
      have hy : (pln y && plns ys) = true := hy
      rw [Bool.and_eq_true] at hy
      obtain ⟨p, h1, _⟩ := pln_toP hy.1
      obtain ⟨ps, k1, _⟩ := plns_toP hy.2
      have hq : ((toP y).bind fun p => (toPs ys).map fun ps => p :: ps) = some qs := hq
      rw [h1, k1] at hq
      cases hq
      rfl
  | x :: xs, ys, ps, qs, hx, hy, hp, hq => by
    have hx : (pln x && plns xs) = true := hx
    rw [Bool.and_eq_true] at hx
    obtain ⟨p, h1, _⟩ := pln_toP hx.1
    obtain ⟨ps', k1, _⟩ := plns_toP hx.2
    have hp : ((toP x).bind fun p => (toPs xs).map fun ps => p :: ps) = some ps := hp
    rw [h1, k1] at hp
    cases hp
    cases ys with
    | nil => cases hq; rfl
    | cons y ys =>
      have hy : (pln y && plns ys) = true := hy
      rw [Bool.and_eq_true] at hy
      obtain ⟨q, g1, _⟩ := pln_toP hy.1
      obtain ⟨qs', l1, _⟩ := plns_toP hy.2
      have hq : ((toP y).bind fun p => (toPs ys).map fun ps => p :: ps) = some qs := hq
      rw [g1, l1] at hq
      cases hq
      show (PyData.eqv p q && PyData.eqvAll ps' qs') = (D.beq x y && D.beqs xs ys)
      rw [eqv_pln hx.1 hy.1 h1 g1, eqvs_plns hx.2 hy.2 k1 l1]
end
theorem pln_see {S : Sto} {d : D} (h : pln d = true) : see S d = d := by
  cases d <;> first | rfl | cases h
instance : DecidableEq D := fun a b => if h : D.beq a b = true then .isTrue (D.beq_eq h) else .isFalse fun e => h (e ▸ D.beq_refl a)
theorem beq_dec {a b : D} : D.beq a b = decide (a = b) := by
  by_cases c : a = b
  · rw [decide_eq_true c, c, D.beq_refl]
  · rw [decide_eq_false c]
    cases q : D.beq a b with
    | false => rfl
    | true => exact absurd (D.beq_eq q) c
theorem shaped_pln {d : D} {p : PyData} (h : pln d = true) (hd : dpt d ≤ 64) (e : toP d = some p) : SeqAt.shaped p = true := by
  obtain ⟨p', e', h1, h2⟩ := pln_toP h
  rw [e] at e'
  cases e'
  show (p.canLay0 && decide (p.depth ≤ 64)) = true
  rw [h1, h2, decide_eq_true hd]
  rfl
theorem eqD_p {S : Sto} {x y : D} (hx : pln x = true) (hy : pln y = true) (dx : dpt x ≤ 64) (dy : dpt y ≤ 64) : eqD S x y = some (decide (x = y)) := by
  have go : eqT S x y = some (decide (x = y)) := by
    obtain ⟨p, e1, _⟩ := pln_toP hx
    obtain ⟨q, e2, _⟩ := pln_toP hy
    unfold eqT
    rw [pln_see hx, pln_see hy, e1, e2, Option.bind_some, Option.bind_some, shaped_pln hx dx e1, shaped_pln hy dy e2]
    show some (PyData.eqv p q) = _
    rw [eqv_pln hx hy e1 e2, beq_dec]
  unfold eqD
  split
  · rename_i a b
    refine congrArg some ?_
    by_cases c : a = b
    · rw [decide_eq_true c, decide_eq_true (congrArg D.str c)]
    · rw [decide_eq_false c, decide_eq_false fun z => c (D.str.inj z)]
  · exact go
theorem eq_p {S : Sto} {x y : D} (hx : pln x = true) (hy : pln y = true) (dx : dpt x ≤ 64) (dy : dpt y ≤ 64) : cmpOp .eq S x y = some (decide (x = y)) := eqD_p hx hy dx dy
theorem ne_p {S : Sto} {x y : D} (hx : pln x = true) (hy : pln y = true) (dx : dpt x ≤ 64) (dy : dpt y ≤ 64) : cmpOp .ne S x y = some (!decide (x = y)) := by
  show (eqD S x y).map not = _
  rw [eqD_p hx hy dx dy]
  rfl
theorem eq_b {S : Sto} {a b : Bool} : cmpOp .eq S (.bl a) (.bl b) = some (decide (a = b)) := by
  cases a <;> cases b <;> rfl
theorem plns_all {ds : List D} (h : ∀ d ∈ ds, pln d = true) : plns ds = true := by
  induction ds with
  | nil => rfl
  | cons d ds ih =>
    show (pln d && plns ds) = true
    rw [h d List.mem_cons_self, ih fun x hx => h x (List.mem_cons_of_mem _ hx)]
    rfl
theorem dpts_all {ds : List D} {k : Nat} (h : ∀ d ∈ ds, dpt d ≤ k) : dpts ds ≤ k := by
  induction ds with
  | nil => exact Nat.zero_le _
  | cons d ds ih => exact Nat.max_le.mpr ⟨h d List.mem_cons_self, ih fun x hx => h x (List.mem_cons_of_mem _ hx)⟩
/-! ### cuts -/
theorem cut_h {α : Type} (xs : List α) (hi : Nat) : cut xs none (some (hi : Int)) = xs.take hi := by
  unfold cut
  rw [HT.sIx_nat, HT.sIx_none, List.drop_zero, Nat.sub_zero]
  by_cases k : hi ≤ xs.length
  · rw [Nat.min_eq_left k]
  · rw [Nat.min_eq_right (Nat.le_of_not_le k), List.take_of_length_le (Nat.le_refl _), List.take_of_length_le (Nat.le_of_not_le k)]
theorem cut_l {α : Type} (xs : List α) (lo : Nat) : cut xs (some (lo : Int)) none = xs.drop lo := by
  unfold cut
  rw [HT.sIx_nat, HT.sIx_none]
  by_cases k : lo ≤ xs.length
  · rw [Nat.min_eq_left k, List.take_of_length_le (by rw [List.length_drop]; exact Nat.le_refl _)]
  · rw [Nat.min_eq_right (Nat.le_of_not_le k), Nat.sub_self, List.take_zero, List.drop_eq_nil_of_le (Nat.le_of_not_le k)]
theorem sl_th {S : Sto} {xs : List D} {hi : Nat} : slD S (.tup xs) none (some (hi : Int)) = some (.tup (xs.take hi)) := by
  show some (D.tup (cut xs none (some (hi : Int)))) = _
  rw [cut_h]
theorem sl_lh {S : Sto} {xs : List D} {hi : Nat} : slD S (.lst xs) none (some (hi : Int)) = some (.lst (xs.take hi)) := by
  show some (D.lst (cut xs none (some (hi : Int)))) = _
  rw [cut_h]
theorem sl_ll {S : Sto} {xs : List D} {lo : Nat} : slD S (.lst xs) (some (lo : Int)) none = some (.lst (xs.drop lo)) := by
  show some (D.lst (cut xs (some (lo : Int)) none)) = _
  rw [cut_l]
theorem asL_loc {S : Sto} {l : Nat} {xs : List D} (h : S[l]? = some (.lst xs)) : asL S (.loc l) = some xs := by
  unfold asL
  simp only [h]
theorem sl_loch {S : Sto} {l : Nat} {xs : List D} {hi : Nat} (h : S[l]? = some (.lst xs)) : slD S (.loc l) none (some (hi : Int)) = some (.lst (xs.take hi)) := by
  show (asL S (.loc l)).map _ = _
  rw [asL_loc h, Option.map_some, cut_h]
theorem sl_locl {S : Sto} {l : Nat} {xs : List D} {lo : Nat} (h : S[l]? = some (.lst xs)) : slD S (.loc l) (some (lo : Int)) none = some (.lst (xs.drop lo)) := by
  show (asL S (.loc l)).map _ = _
  rw [asL_loc h, Option.map_some, cut_l]
theorem sl_loc {S : Sto} {l : Nat} {xs : List D} {lo hi : Nat} (h : S[l]? = some (.lst xs)) : slD S (.loc l) (some (lo : Int)) (some (hi : Int)) = some (.lst ((xs.drop lo).take (hi - lo))) := by
  show (asL S (.loc l)).map _ = _
  rw [asL_loc h, Option.map_some, cut_nn]
theorem tru_loc {S : Sto} {l : Nat} {xs : List D} (h : S[l]? = some (.lst xs)) : tru S (.loc l) = some (!xs.isEmpty) := by
  show (asL S (.loc l)).map _ = _
  rw [asL_loc h]
  rfl
theorem list_loc {S : Sto} {l : Nat} {xs : List D} (h : S[l]? = some (.lst xs)) : biOp .list S [.loc l] = some (.lst xs) := by
  show (asL S (.loc l)).map _ = _
  rw [asL_loc h]
  rfl
theorem tuple_loc {S : Sto} {l : Nat} {xs : List D} (h : S[l]? = some (.lst xs)) : biOp .tuple S [.loc l] = some (.tup xs) := by
  show (asL S (.loc l)).map _ = _
  rw [asL_loc h]
  rfl
theorem see_loc {S : Sto} {l : Nat} {xs : List D} (h : S[l]? = some (.lst xs)) : see S (.loc l) = .lst xs := by
  unfold see
  rw [asL_loc h]
/-- a shared list is compared by what is in it -/
theorem eqD_see {S : Sto} {x y x' y' : D} (hx : see S x = x') (hy : see S y = y') (px : pln x' = true) (py : pln y' = true) (dx : dpt x' ≤ 64) (dy : dpt y' ≤ 64) : eqD S x y = some (decide (x' = y')) := by
  have e := eqD_p (S := S) px py dx dy
  have s1 : see S x' = x' := pln_see px
  have s2 : see S y' = y' := pln_see py
  have go : eqT S x y = eqT S x' y' := by
    unfold eqT
    rw [hx, hy, s1, s2]
  have e2 : ∀ {a b : D}, pln a = true → pln b = true → dpt a ≤ 64 → dpt b ≤ 64 → eqT S a b = some (decide (a = b)) := fun {a b} pa pb da db => by
    obtain ⟨p, e1, _⟩ := pln_toP pa
    obtain ⟨q, e2, _⟩ := pln_toP pb
    unfold eqT
    rw [pln_see pa, pln_see pb, e1, e2, Option.bind_some, Option.bind_some, shaped_pln pa da e1, shaped_pln pb db e2]
    show some (PyData.eqv p q) = _
    rw [eqv_pln pa pb e1 e2, beq_dec]
  unfold eqD
  split
  · rename_i a b
    have h1 : see S (.str a) = .str a := rfl
    have h2 : see S (.str b) = .str b := rfl
    rw [h1] at hx
    rw [h2] at hy
    subst hx hy
    refine congrArg some ?_
    by_cases c : a = b
    · rw [decide_eq_true c, decide_eq_true (congrArg D.str c)]
    · rw [decide_eq_false c, decide_eq_false fun z => c (D.str.inj z)]
  · rw [go]
    exact e2 px py dx dy
theorem eq_see {S : Sto} {x y x' y' : D} (hx : see S x = x') (hy : see S y = y') (px : pln x' = true) (py : pln y' = true) (dx : dpt x' ≤ 64) (dy : dpt y' ≤ 64) : cmpOp .eq S x y = some (decide (x' = y')) := eqD_see hx hy px py dx dy
theorem ne_see {S : Sto} {x y x' y' : D} (hx : see S x = x') (hy : see S y = y') (px : pln x' = true) (py : pln y' = true) (dx : dpt x' ≤ 64) (dy : dpt y' ≤ 64) : cmpOp .ne S x y = some (!decide (x' = y')) := by
  show (eqD S x y).map not = _
  rw [eqD_see hx hy px py dx dy]
  rfl
/-- the run of a call, as an equation -/
theorem Res.eq_of {α : Type} {r : Res α} {a : α} {S : Sto} (h : r.Ok fun b S' => b = a ∧ S' = S) : r = .ok a S := h.is
theorem mem_range_ints {n j : Nat} {x : D} (h : ((List.range n).map fun (k : Nat) => D.int k)[j]? = some x) : j < n ∧ x = .int j := by
  have hj : j < n := by
    have := (List.getElem?_eq_some_iff.mp h).1
    rwa [List.length_map, List.length_range] at this
  rw [List.getElem?_map, List.getElem?_range hj] at h
  cases h
  exact ⟨hj, rfl⟩
/-! ### walks over shared lists -/
theorem shutO_cell {ρ : Env} {S : Sto} {l : Nat} {f : Env → Sto → Out} : shutO [.cell l] ρ S f = f ρ S := (rfl)
theorem shutR_cell {α : Type} {ρ : Env} {S : Sto} {l : Nat} {f : Env → Sto → Res α} : shutR [.cell l] ρ S f = f ρ S := (rfl)
theorem chks_cell {S : Sto} {l : Nat} {xs : List D} (h : S[l]? = some (.lst xs)) : chks S [.cell l] = [(l, xs)] := by
  unfold chks
  simp only [List.filterMap_cons, List.filterMap_nil, h]
theorem okC_cell {S : Sto} {l : Nat} {xs : List D} (h : S[l]? = some (.lst xs)) : okC [(l, xs)] S = true := by
  show ((match S[l]? with
    | some (.lst ys) => D.beqs ys xs
    | _ => false) && true) = true
  rw [h]
  show (D.beqs xs xs && true) = true
  rw [D.beqs_refl]
  rfl
theorem loopC_ok {cs : List (Nat × List D)} {turn : D → Env → Sto → Out} {N : Env → Sto → Prop} {R : D → Sto → Prop} {B C : Env → Sto → Prop} (I : Nat → Env → Sto → Prop) (hc : ∀ i ρ S, I i ρ S → okC cs S = true) : ∀ {xs : List D} {i : Nat} {ρ : Env} {S : Sto}, I i ρ S →
    (∀ j x ρ S, xs[j]? = some x → I (i + j) ρ S → (turn x ρ S).Ok (I (i + j + 1)) R N (I (i + j + 1))) → (∀ ρ S, I (i + xs.length) ρ S → N ρ S) → (loopC cs turn xs ρ S).Ok N R B C
  | [], i, ρ, S, h0, _, hd => by
    show (if okC cs S = true then Out.nx ρ S else .stk).Ok N R B C
    rw [if_pos (hc _ _ _ h0)]
    exact hd _ _ h0
  | x :: xs, i, ρ, S, h0, hs, hd => by
    show (if okC cs S = true then (turn x ρ S).turn fun ρ' S' => loopC cs turn xs ρ' S' else .stk).Ok N R B C
    rw [if_pos (hc _ _ _ h0), Ok_turn]
    have go : ∀ ρ S, I (i + 1) ρ S → (loopC cs turn xs ρ S).Ok N R B C := fun ρ S h1 => loopC_ok I hc h1 (fun j y ρ S hy hI => by
      have := hs (j + 1) y ρ S (by simpa using hy) (by rw [← Nat.add_assoc, Nat.add_right_comm]; exact hI)
      rw [← Nat.add_assoc, Nat.add_right_comm i j 1] at this
      exact this) (fun ρ S h => hd ρ S (by rw [List.length_cons, ← Nat.add_assoc, Nat.add_right_comm]; exact h))
    exact (hs 0 x ρ S rfl h0).imp (fun ρ S h => go ρ S h) (fun _ _ h => h) (fun _ _ h => h) (fun ρ S h => go ρ S h)
/-- a walk over a shared list, with what stays -/
theorem loopC_keep {l : Nat} {ys : List D} {turn : D → Env → Sto → Out} {N : Env → Sto → Prop} {R : D → Sto → Prop} {B C : Env → Sto → Prop} {ρ : Env} {S : Sto} (I : Env → Sto → Prop) (hc : ∀ ρ S, I ρ S → S[l]? = some (.lst ys)) {xs : List D} (h0 : I ρ S)
    (hs : ∀ x ∈ xs, ∀ ρ S, I ρ S → (turn x ρ S).Ok I R N I) (hd : ∀ ρ S, I ρ S → N ρ S) : (loopC [(l, ys)] turn xs ρ S).Ok N R B C :=
  loopC_ok (i := 0) (fun _ => I) (fun _ ρ S h => okC_cell (hc ρ S h)) h0 (fun j x ρ S hx hI => hs x (List.mem_of_getElem? hx) ρ S hI) hd
theorem ixN_nat {n i : Nat} (h : i < n) : L2.ixN n (i : Int) = some i := by
  unfold L2.ixN
  rw [if_pos (Int.natCast_nonneg i), if_pos (by omega), Int.toNat_natCast]
theorem pln_tx {cs : List Nat} (h : ∀ c ∈ cs, c < 0x110000) : pln (.str (tx cs)) = true := by
  show (cs.toArray).all (fun c => decide (c < 0x110000)) = true
  rw [List.all_toArray, List.all_eq_true]
  exact fun c hc => decide_eq_true (h c hc)
theorem sz13 : (13 ≤ sizeLine) = True := eq_true (by decide)
theorem sz14 : (14 ≤ sizeLine) = True := eq_true (by decide)
theorem sz15 : (15 ≤ sizeLine) = True := eq_true (by decide)
theorem sz16 : (16 ≤ sizeLine) = True := eq_true (by decide)
/-- a list, by value or shared -/
def IsL (S : Sto) (x : D) (ys : List D) : Prop := x = .lst ys ∨ ∃ l, x = .loc l ∧ S[l]? = some (.lst ys)
theorem IsL.ix {S : Sto} {x : D} {ys : List D} (h : IsL S x ys) (i : Int) : ixD S x (.int i) = L2.atI ys i := by
  rcases h with rfl | ⟨l, rfl, h⟩
  · rfl
  · exact ix_loc h
theorem IsL.as {S : Sto} {x : D} {ys : List D} (h : IsL S x ys) : asL S x = some ys := by
  rcases h with rfl | ⟨l, rfl, h⟩
  · rfl
  · exact asL_loc h
theorem IsL.sl {S : Sto} {x : D} {ys : List D} (h : IsL S x ys) (lo hi : Option Int) : slD S x lo hi = some (.lst (cut ys lo hi)) := by
  rcases h with rfl | ⟨l, rfl, h⟩
  · rfl
  · show (asL S (.loc l)).map _ = _
    rw [asL_loc h]
    rfl
theorem IsL.list {S : Sto} {x : D} {ys : List D} (h : IsL S x ys) : biOp .list S [x] = some (.lst ys) := by
  rcases h with rfl | ⟨l, rfl, h⟩
  · rfl
  · exact list_loc h
theorem IsL.see {S : Sto} {x : D} {ys : List D} (h : IsL S x ys) : TX.see S x = .lst ys := by
  rcases h with rfl | ⟨l, rfl, h⟩
  · rfl
  · exact see_loc h
theorem ne_b {S : Sto} {a b : Bool} : cmpOp .ne S (.bl a) (.bl b) = some (!decide (a = b)) := by
  cases a <;> cases b <;> rfl
theorem ints_D : ∀ is : List Int, intsD (is.map D.int) = some is
  | [] => rfl
  | i :: is => by
    show (intsD (is.map D.int)).map _ = _
    rw [ints_D is]
    rfl
theorem anyI {S : Sto} : ∀ is : List Int, biOp .any S [.lst (is.map D.int)] = some (.bl (is.any fun i => i != 0))
  | [] => rfl
  | i :: is => by
    show (intsD ((i :: is).map D.int)).map _ = _
    rw [ints_D]
    rfl
theorem pln_ints (is : List Int) : pln (.lst (is.map D.int)) = true := plns_all fun d h => by
  obtain ⟨i, _, rfl⟩ := List.mem_map.mp h
  rfl
theorem dpt_ints (is : List Int) : dpt (.lst (is.map D.int)) ≤ 64 := by
  have : dpts (is.map D.int) ≤ 0 := dpts_all fun d h => by
    obtain ⟨i, _, rfl⟩ := List.mem_map.mp h
    exact Nat.le_refl _
  show dpts (is.map D.int) + 1 ≤ 64
  omega
theorem IsL.len {S : Sto} {x : D} {ys : List D} (h : IsL S x ys) : biOp .len S [x] = some (.int ys.length) := by
  rcases h with rfl | ⟨l, rfl, h⟩
  · rfl
  · exact len_loc h
/-- a walk over a list, by value or shared, that leaves the store alone -/
theorem loop_is {Ω : Orc} {ρ : TX.Env} {S : Sto} {x : D} {ys : List D} {i : Nat} {tg : Tg} {b : TX.St} {N : TX.Env → Sto → Prop} {R : D → Sto → Prop} {B C : TX.Env → Sto → Prop} (h : IsL S x ys) (hi : ρ[i]? = some (.val x)) (I : Nat → TX.Env → Sto → Prop)
    (hS : ∀ j ρ S', I j ρ S' → S' = S) (h0 : I 0 ρ S) (hs : ∀ j y ρ S', ys[j]? = some y → I j ρ S' → (turnS Ω tg b y ρ S').Ok (I (j + 1)) R N (I (j + 1))) (hd : ∀ ρ S', I ys.length ρ S' → N ρ S') : (ex Ω (.loop tg (.its i) b) ρ S).Ok N R B C := by
  rw [o_loop]
  rcases h with rfl | ⟨l, rfl, h⟩
  · simp only [evI_its, hi, Ok_ok, kLoop_ap, shutO_nil, chks_nil, loopC_nil]
    refine loop_ok (i := 0) I h0 (fun j y ρ S hy hI => ?_) fun ρ S hI => ?_
    · rw [Nat.zero_add] at hI ⊢
      exact hs j y ρ S hy hI
    · rw [Nat.zero_add] at hI
      exact hd ρ S hI
  · simp only [evI_its, hi, h, Ok_ok, kLoop_ap, shutO_cell, chks_cell h]
    refine loopC_ok (i := 0) I (fun j ρ S' hI => ?_) h0 (fun j y ρ S hy hI => ?_) fun ρ S hI => ?_
    · rw [hS j ρ S' hI]
      exact okC_cell h
    · rw [Nat.zero_add] at hI ⊢
      exact hs j y ρ S hy hI
    · rw [Nat.zero_add] at hI
      exact hd ρ S hI
/-! ### objects -/
theorem fld_at {S : Sto} {l : Nat} {c : Str} {fs : List (Str × D)} (h : S[l]? = some (.ins c fs)) (f : Str) : fldOf S (.loc l) f = fs.lookup f := by
  unfold fldOf
  simp only [h]
theorem cls_at {S : Sto} {l : Nat} {c m : Str} {fs : List (Str × D)} (h : S[l]? = some (.ins c fs)) (hm : ((fs.lookup m).isNone && (mtabOf c).any fun y => decide (y = m)) = true) : clsOf S (.loc l) m = some c := by
  unfold clsOf
  simp only [h, hm, if_true]
theorem put_at {S : Sto} {l : Nat} {c f : Str} {d : D} {fs : List (Str × D)} (h : S[l]? = some (.ins c fs)) (hl : fs.length < 900) : putFld S l f d = some (S.set l (.ins c (setFs f d fs))) := by
  unfold putFld
  simp only [h, hl, if_true]
theorem set_same {S : Sto} {l : Nat} {c : Cell} (h : S[l]? = some c) : S.set l c = S := by
  apply List.ext_getElem?
  intro i
  by_cases e : l = i
  · subst e
    rw [List.getElem?_set_self (List.getElem?_eq_some_iff.mp h).1, h]
  · rw [List.getElem?_set_ne e]
theorem set_set {S : Sto} {l : Nat} {c d : Cell} : (S.set l c).set l d = S.set l d := by rw [List.set_set]
theorem enmF_get {xs : List D} : ∀ {k j : Nat}, (enmF k xs)[j]? = (xs[j]?).map fun x => .tup [.int ((k + j : Nat) : Int), x] := by
  induction xs with
  | nil => intro k j; rfl
  | cons x xs ih =>
    intro k j
    cases j with
    | zero => rfl
    | succ j =>
      show (enmF (k + 1) xs)[j]? = _
      rw [ih, List.getElem?_cons_succ]
      have : k + 1 + j = k + (j + 1) := by omega
      rw [this]
theorem enmF_len {xs : List D} : ∀ {k : Nat}, (enmF k xs).length = xs.length := by
  induction xs with
  | nil => intro k; rfl
  | cons x xs ih =>
    intro k
    show (enmF (k + 1) xs).length + 1 = xs.length + 1
    rw [ih]
/-! ### methods of shared lists -/
theorem ty_app {S : Sto} {l : Nat} {xs : List D} (h : S[l]? = some (.lst xs)) : mthTy .append S (.loc l) = true := by
  show (match S[l]? with
    | some (.lst _) => true
    | _ => false) = true
  rw [h]
theorem op_app {S : Sto} {l : Nat} {xs : List D} {d : D} (h : S[l]? = some (.lst xs)) (hl : xs.length < sizeLine) : mthOp .append S (.loc l) [d] = some (.non, S.set l (.lst (xs ++ [d]))) := by
  show (match S[l]? with
    | some (.lst xs) => if xs.length < sizeLine then some (D.non, S.set l (.lst (xs ++ [d]))) else none
    | _ => none) = _
  rw [h]
  exact if_pos hl
theorem alike_eq {T : List (Ky × Df)} {n : Nat} (h : dfOf T (.fn "_law_alike") = some ⟨2, 2, tAlikeT⟩) {k w : Nat} {d : D} {S : Sto} (r : Rep k w d) (hk : k ≤ 64) (hw : w ≤ 2 ^ 20) : runN T (n + 1) (.fn "_law_alike") [d, d] S = .ok (.bl true) S :=
  Res.eq_of (alike_ok h r hk hw ⟨rfl, rfl⟩)
/-- a draw, seen from a store whose first cell is the box -/
theorem draw0 {T : List (Ky × Df)} {n : Nat} (h : dfOf T (.fn "_law_draw") = some ⟨2, 3, tDrawT⟩) {xs : List Int} {c : Nat} {m : Int} {S : Sto} {P : D → Sto → Prop} (hm : 0 < m)
    (q : ∀ (r : Nat) (c' : Nat), (r : Int) < m → P (.int r) (Box xs c' :: S)) : (runN T (n + 1) (.fn "_law_draw") [.loc 0, .int m] (Box xs c :: S)).Ok P :=
  draw_ok h (l := 0) (xs := xs) (c := c) rfl hm fun r h0 h1 => by
    have e : r = ((r.toNat : Nat) : Int) := by omega
    rw [e]
    exact q r.toNat _ (by omega)
end TX


set_option maxRecDepth 100000
set_option maxHeartbeats 4000000
namespace K42
open TX PySem PySem.Spec PyProof.Rows L2 He
def top (i : Nat) : Stmt := PySem.Challenge.pw_textatrest_k42_cut_on_schedule.main.body.getD i (.Pass ⟨0, 0, 0, 0⟩)
def topM (i j : Nat) : Stmt := (match top i with
  | .ClassDef _ _ _ body _ _ _ _ _ _ _ => body
  | _ => []).getD j (.Pass ⟨0, 0, 0, 0⟩)
def g : Cfg := { fns := ["_is_block", "_check_torn", "_law_cell", "_law_digits", "_law_draw", "_law_torn", "_law_schedule", "_law_do_raw", "_law_do", "law"], clss := ["Disk"], cst := [("BLOCK", .int 32), ("BLOCKS_LEAST", .int 8), ("BLOCKS_MOST", .int 400), ("COUNT_MOST", .int 100000)], free := ["len", "range", "list", "enumerate", "int", "isinstance", "min"], mets := ["__init__", "_check_at", "_cut", "_spend", "cut_count", "cut_power", "flush", "pending_count", "read", "schedule_cut", "size", "write"], objs := [], excs := [("RestError", false), ("OutOfRange", true), ("PowerCut", false)], shr := ["_law_box", "_law_blocks", "_law_pending", "_law_handed"], shrA := [], fShr := ["_blocks", "_pending", "_torn"], dTs := [] }
def t_is_block_b0 : TX.St := (.seq (.ite (.not (.chn .le .le (.cst (.int 0)) (.var 1) (.cst (.int 255)))) (.seq (.ret (.cst (.bl false)))
 .skip) .skip)
 .skip)
def t_is_block : TX.St := (.seq (.ite (.cmp .ne (.bi .len (.cons (.bor 0) .nil)) (.cst (.int 32))) (.seq (.ret (.cst (.bl false)))
 .skip) .skip)
 (.seq (.loop (.nm 1) (.its 0) t_is_block_b0)
 (.seq (.ret (.cst (.bl true)))
 .skip)))
def d_is_block : DefD := ⟨("_is_block", none), "_is_block", "_is_block", defArgs (top 10), defBody (top 10), defScope (top 10), [], []⟩
def e_is_block : Dd := ⟨d_is_block, ["block", "byte"], ["block"], [], t_is_block⟩
theorem k_is_block : DdOk g 60 e_is_block := ⟨by kernel_rfl, by kernel_rfl, fun _ _ _ _ _ _ us hl => match us, hl with | [_], _ => rfl, rfl, rfl⟩
def t_check_torn_b0 : TX.St := (.seq (.ite (.not (.chn .le .le (.cst (.int 0)) (.var 1) (.cst (.int 32)))) (.seq (.raise (Str.ofString "OutOfRange") (some (.cst (.str (Str.ofString "torn")))))
 .skip) .skip)
 .skip)
def t_check_torn : TX.St := (.seq (.loop (.nm 1) (.its 0) t_check_torn_b0)
 .skip)
def d_check_torn : DefD := ⟨("_check_torn", none), "_check_torn", "_check_torn", defArgs (top 11), defBody (top 11), defScope (top 11), [], []⟩
def e_check_torn : Dd := ⟨d_check_torn, ["torn", "count"], ["torn"], [], t_check_torn⟩
theorem k_check_torn : DdOk g 60 e_check_torn := ⟨by kernel_rfl, by kernel_rfl, fun _ _ _ _ _ _ us hl => match us, hl with | [_], _ => rfl, rfl, rfl⟩
def tDisk_initI : TX.St := (.seq (.ite (.not (.chn .le .le (.cst (.int 8)) (.var 1) (.cst (.int 400)))) (.seq (.raise (Str.ofString "OutOfRange") (some (.cst (.str (Str.ofString "blocks")))))
 .skip) .skip)
 (.seq (.setF (.var 0) (Str.ofString "_blocks") (.shr (.comp (.nm 2) (.rng1 (.var 1)) (.cst (.bl true)) (.rep (.cons (.cst (.int 0)) .nil) (.cst (.int 32))) [2])))
 (.seq (.setF (.var 0) (Str.ofString "_pending") (.shr (.lst .nil)))
 (.seq (.setF (.var 0) (Str.ofString "_cuts") (.cst (.int 0)))
 (.seq (.setF (.var 0) (Str.ofString "_left") (.cst .non))
 (.seq (.setF (.var 0) (Str.ofString "_torn") (.shr (.lst .nil)))
 .skip))))))
def dDisk_initI : DefD := ⟨("Disk", some "__init__"), "__init__", "Disk.__init__", defArgs (topM 12 0), defBody (topM 12 0), defScope (topM 12 0), [], []⟩
def eDisk_initI : Dd := ⟨dDisk_initI, ["self", "blocks", "_"], ["self", "blocks"], [], tDisk_initI⟩
theorem kDisk_initI : DdOk g 60 eDisk_initI := ⟨by kernel_rfl, by kernel_rfl, fun _ _ _ _ _ _ us hl => match us, hl with | [_, _], _ => rfl, rfl, rfl⟩
def tDisk_check_at : TX.St := (.seq (.ite (.not (.chn .le .lt (.cst (.int 0)) (.var 1) (.bi .len (.cons (.fld (.var 0) (Str.ofString "_blocks")) .nil)))) (.seq (.raise (Str.ofString "OutOfRange") (some (.cst (.str (Str.ofString "at")))))
 .skip) .skip)
 .skip)
def dDisk_check_at : DefD := ⟨("Disk", some "_check_at"), "_check_at", "Disk._check_at", defArgs (topM 12 2), defBody (topM 12 2), defScope (topM 12 2), [], []⟩
def eDisk_check_at : Dd := ⟨dDisk_check_at, ["self", "at"], ["self", "at"], [], tDisk_check_at⟩
theorem kDisk_check_at : DdOk g 60 eDisk_check_at := ⟨by kernel_rfl, by kernel_rfl, fun _ _ _ _ _ _ us hl => match us, hl with | [_, _], _ => rfl, rfl, rfl⟩
def tDisk_read_b0 : TX.St := (.seq (.ite (.cmp .eq (.bor 3) (.bor 1)) (.seq (.asg (.nm 2) (.var 4))
 .skip) .skip)
 .skip)
def tDisk_read : TX.St := (.seq (.expr (.met (Str.ofString "_check_at") (.var 0) (.cons (.var 1) .nil)))
 (.seq (.asg (.nm 2) (.ix (.fld (.var 0) (Str.ofString "_blocks")) (.var 1)))
 (.seq (.loop (.tp (.cons (.nm 3) (.cons (.nm 4) .nil))) (.it (.fld (.var 0) (Str.ofString "_pending"))) tDisk_read_b0)
 (.seq (.ret (.bi .list (.cons (.bor 2) .nil)))
 .skip))))
def dDisk_read : DefD := ⟨("Disk", some "read"), "read", "Disk.read", defArgs (topM 12 3), defBody (topM 12 3), defScope (topM 12 3), [], []⟩
def eDisk_read : Dd := ⟨dDisk_read, ["self", "at", "found", "place", "block"], ["self", "at"], [], tDisk_read⟩
theorem kDisk_read : DdOk g 60 eDisk_read := ⟨by kernel_rfl, by kernel_rfl, fun _ _ _ _ _ _ us hl => match us, hl with | [_, _], _ => rfl, rfl, rfl⟩
def tDisk_cut_b0 : TX.St := (.seq (.asg (.nm 5) (.ite (.cmp .lt (.bor 2) (.bi .len (.cons (.bor 1) .nil))) (.ix (.bor 1) (.var 2)) (.cst (.int 0))))
 (.seq (.setI (.tm (.fld (.var 0) (Str.ofString "_blocks"))) (.var 3) (.bin .add (.sl (.bor 4) .nil (.part (.var 5))) (.sl (.ix (.fld (.var 0) (Str.ofString "_blocks")) (.var 3)) (.part (.var 5)) .nil)))
 .skip))
def tDisk_cut : TX.St := (.seq (.loop (.tp (.cons (.nm 2) (.cons (.tp (.cons (.nm 3) (.cons (.nm 4) .nil))) .nil))) (.enm (.it (.fld (.var 0) (Str.ofString "_pending")))) tDisk_cut_b0)
 (.seq (.setF (.var 0) (Str.ofString "_pending") (.shr (.lst .nil)))
 (.seq (.setF (.var 0) (Str.ofString "_cuts") (.bin .add (.fld (.var 0) (Str.ofString "_cuts")) (.cst (.int 1))))
 (.seq (.setF (.var 0) (Str.ofString "_left") (.cst .non))
 (.seq (.setF (.var 0) (Str.ofString "_torn") (.shr (.lst .nil)))
 .skip)))))
def dDisk_cut : DefD := ⟨("Disk", some "_cut"), "_cut", "Disk._cut", defArgs (topM 12 4), defBody (topM 12 4), defScope (topM 12 4), [], []⟩
def eDisk_cut : Dd := ⟨dDisk_cut, ["self", "torn", "number", "at", "block", "count"], ["self", "torn"], [], tDisk_cut⟩
theorem kDisk_cut : DdOk g 60 eDisk_cut := ⟨by kernel_rfl, by kernel_rfl, fun _ _ _ _ _ _ us hl => match us, hl with | [_, _], _ => rfl, rfl, rfl⟩
def tDisk_spend : TX.St := (.seq (.ite (.cmp .is (.fld (.var 0) (Str.ofString "_left")) (.cst .non)) (.seq (.ret (.cst .non))
 .skip) .skip)
 (.seq (.ite (.cmp .eq (.fld (.var 0) (Str.ofString "_left")) (.cst (.int 0))) (.seq (.expr (.met (Str.ofString "_cut") (.var 0) (.cons (.fld (.var 0) (Str.ofString "_torn")) .nil)))
 (.seq (.raise (Str.ofString "PowerCut") none)
 .skip)) .skip)
 (.seq (.setF (.var 0) (Str.ofString "_left") (.bin .sub (.fld (.var 0) (Str.ofString "_left")) (.cst (.int 1))))
 .skip)))
def dDisk_spend : DefD := ⟨("Disk", some "_spend"), "_spend", "Disk._spend", defArgs (topM 12 5), defBody (topM 12 5), defScope (topM 12 5), [], []⟩
def eDisk_spend : Dd := ⟨dDisk_spend, ["self"], ["self"], [], tDisk_spend⟩
theorem kDisk_spend : DdOk g 60 eDisk_spend := ⟨by kernel_rfl, by kernel_rfl, fun _ _ _ _ _ _ us hl => match us, hl with | [_], _ => rfl, rfl, rfl⟩
def tDisk_write : TX.St := (.seq (.expr (.met (Str.ofString "_check_at") (.var 0) (.cons (.var 1) .nil)))
 (.seq (.ite (.not (.call (Str.ofString "_is_block") (.cons (.var 2) .nil))) (.seq (.raise (Str.ofString "OutOfRange") (some (.cst (.str (Str.ofString "block")))))
 .skip) .skip)
 (.seq (.expr (.met (Str.ofString "_spend") (.var 0) .nil))
 (.seq (.expr (.mth .append (.fld (.var 0) (Str.ofString "_pending")) (.cons (.tup (.cons (.var 1) (.cons (.bi .list (.cons (.bor 2) .nil)) .nil))) .nil)))
 .skip))))
def dDisk_write : DefD := ⟨("Disk", some "write"), "write", "Disk.write", defArgs (topM 12 6), defBody (topM 12 6), defScope (topM 12 6), [], []⟩
def eDisk_write : Dd := ⟨dDisk_write, ["self", "at", "block"], ["self", "at", "block"], [], tDisk_write⟩
theorem kDisk_write : DdOk g 60 eDisk_write := ⟨by kernel_rfl, by kernel_rfl, fun _ _ _ _ _ _ us hl => match us, hl with | [_, _, _], _ => rfl, rfl, rfl⟩
def tDisk_flush_b0 : TX.St := (.seq (.setI (.tm (.fld (.var 0) (Str.ofString "_blocks"))) (.var 1) (.var 2))
 .skip)
def tDisk_flush : TX.St := (.seq (.expr (.met (Str.ofString "_spend") (.var 0) .nil))
 (.seq (.loop (.tp (.cons (.nm 1) (.cons (.nm 2) .nil))) (.it (.fld (.var 0) (Str.ofString "_pending"))) tDisk_flush_b0)
 (.seq (.setF (.var 0) (Str.ofString "_pending") (.shr (.lst .nil)))
 .skip)))
def dDisk_flush : DefD := ⟨("Disk", some "flush"), "flush", "Disk.flush", defArgs (topM 12 7), defBody (topM 12 7), defScope (topM 12 7), [], []⟩
def eDisk_flush : Dd := ⟨dDisk_flush, ["self", "at", "block"], ["self"], [], tDisk_flush⟩
theorem kDisk_flush : DdOk g 60 eDisk_flush := ⟨by kernel_rfl, by kernel_rfl, fun _ _ _ _ _ _ us hl => match us, hl with | [_], _ => rfl, rfl, rfl⟩
def tDisk_pending_count : TX.St := (.seq (.ret (.bi .len (.cons (.fld (.var 0) (Str.ofString "_pending")) .nil)))
 .skip)
def dDisk_pending_count : DefD := ⟨("Disk", some "pending_count"), "pending_count", "Disk.pending_count", defArgs (topM 12 8), defBody (topM 12 8), defScope (topM 12 8), [], []⟩
def eDisk_pending_count : Dd := ⟨dDisk_pending_count, ["self"], ["self"], [], tDisk_pending_count⟩
theorem kDisk_pending_count : DdOk g 60 eDisk_pending_count := ⟨by kernel_rfl, by kernel_rfl, fun _ _ _ _ _ _ us hl => match us, hl with | [_], _ => rfl, rfl, rfl⟩
def tDisk_cut_count : TX.St := (.seq (.ret (.fld (.var 0) (Str.ofString "_cuts")))
 .skip)
def dDisk_cut_count : DefD := ⟨("Disk", some "cut_count"), "cut_count", "Disk.cut_count", defArgs (topM 12 9), defBody (topM 12 9), defScope (topM 12 9), [], []⟩
def eDisk_cut_count : Dd := ⟨dDisk_cut_count, ["self"], ["self"], [], tDisk_cut_count⟩
theorem kDisk_cut_count : DdOk g 60 eDisk_cut_count := ⟨by kernel_rfl, by kernel_rfl, fun _ _ _ _ _ _ us hl => match us, hl with | [_], _ => rfl, rfl, rfl⟩
def tDisk_cut_power : TX.St := (.seq (.expr (.call (Str.ofString "_check_torn") (.cons (.var 1) .nil)))
 (.seq (.expr (.met (Str.ofString "_cut") (.var 0) (.cons (.bi .list (.cons (.bor 1) .nil)) .nil)))
 .skip))
def dDisk_cut_power : DefD := ⟨("Disk", some "cut_power"), "cut_power", "Disk.cut_power", defArgs (topM 12 10), defBody (topM 12 10), defScope (topM 12 10), [], []⟩
def eDisk_cut_power : Dd := ⟨dDisk_cut_power, ["self", "torn"], ["self", "torn"], [], tDisk_cut_power⟩
theorem kDisk_cut_power : DdOk g 60 eDisk_cut_power := ⟨by kernel_rfl, by kernel_rfl, fun _ _ _ _ _ _ us hl => match us, hl with | [_, _], _ => rfl, rfl, rfl⟩
def tDisk_schedule_cut : TX.St := (.seq (.ite (.not (.chn .le .le (.cst (.int 0)) (.var 1) (.cst (.int 100000)))) (.seq (.raise (Str.ofString "OutOfRange") (some (.cst (.str (Str.ofString "many")))))
 .skip) .skip)
 (.seq (.expr (.call (Str.ofString "_check_torn") (.cons (.var 2) .nil)))
 (.seq (.setF (.var 0) (Str.ofString "_left") (.var 1))
 (.seq (.setF (.var 0) (Str.ofString "_torn") (.shr (.bi .list (.cons (.bor 2) .nil))))
 .skip))))
def dDisk_schedule_cut : DefD := ⟨("Disk", some "schedule_cut"), "schedule_cut", "Disk.schedule_cut", defArgs (topM 12 11), defBody (topM 12 11), defScope (topM 12 11), [], []⟩
def eDisk_schedule_cut : Dd := ⟨dDisk_schedule_cut, ["self", "many", "torn"], ["self", "many", "torn"], [], tDisk_schedule_cut⟩
theorem kDisk_schedule_cut : DdOk g 60 eDisk_schedule_cut := ⟨by kernel_rfl, by kernel_rfl, fun _ _ _ _ _ _ us hl => match us, hl with | [_, _, _], _ => rfl, rfl, rfl⟩
def t_law_cell : TX.St := (.seq (.ite (.cmp .lt (.bor 1) (.bi .len (.cons (.bor 0) .nil))) (.seq (.ret (.ix (.bor 0) (.var 1)))
 .skip) .skip)
 (.seq (.ret (.cst (.int 0)))
 .skip))
def d_law_cell : DefD := ⟨("_law_cell", none), "_law_cell", "_law_cell", defArgs (top 14), defBody (top 14), defScope (top 14), [], []⟩
def e_law_cell : Dd := ⟨d_law_cell, ["_law_script", "_law_k"], ["_law_script", "_law_k"], [], t_law_cell⟩
theorem k_law_cell : DdOk g 60 e_law_cell := ⟨by kernel_rfl, by kernel_rfl, fun _ _ _ _ _ _ us hl => match us, hl with | [_, _], _ => rfl, rfl, rfl⟩
def t_law_digits_b0 : TX.St := (.seq (.ite (.cmp .gt (.bor 5) (.cst (.int 0))) (.seq (.app 3 (.bin .mod (.bi .int (.cons (.bor 5) .nil)) (.cst (.int 1000))))
 (.seq (.asg (.nm 5) (.bin .fdiv (.var 5) (.cst (.int 1000))))
 .skip)) .skip)
 .skip)
def t_law_digits_b1 : TX.St := (.seq (.asg (.nm 7) (.bin .mod (.bi .int (.cons (.bin .add (.bin .add (.bin .mul (.var 7) (.cst (.int 40014))) (.bin .mul (.cst (.int 5)) (.var 6))) (.cst (.int 3))) .nil)) (.cst (.int 2147483563))))
 (.seq (.app 3 (.bin .mod (.bi .int (.cons (.bin .fdiv (.var 7) (.cst (.int 1009))) .nil)) (.cst (.int 1000))))
 .skip))
def t_law_digits_b2 : TX.St := (.seq (.asg (.nm 5) (.call (Str.ofString "_law_cell") (.cons (.var 0) (.cons (.var 4) .nil))))
 (.seq (.ite (.cmp .lt (.bor 5) (.cst (.int 0))) (.seq (.asg (.nm 5) (.bin .sub (.cst (.int 1)) (.bin .mul (.cst (.int 2)) (.var 5))))
 .skip) .skip)
 (.seq (.ite (.cmp .ge (.bor 5) (.cst (.int 1000000000000000000))) (.seq (.loop (.nm 6) (.rng1 (.cst (.int 60))) t_law_digits_b0)
 .skip) (.seq (.asg (.nm 7) (.bin .mod (.bi .int (.cons (.bin .add (.bin .add (.bin .mul (.var 5) (.cst (.int 40692))) (.bin .mul (.var 4) (.cst (.int 52774)))) (.cst (.int 17))) .nil)) (.cst (.int 2147483399))))
 (.seq (.loop (.nm 6) (.rng1 (.cst (.int 12))) t_law_digits_b1)
 .skip)))
 .skip)))
def t_law_digits : TX.St := (.seq (.own 3 (.lst .nil))
 (.seq (.loop (.nm 4) (.rng2 (.var 1) (.var 2)) t_law_digits_b2)
 (.seq (.retO 3)
 .skip)))
def d_law_digits : DefD := ⟨("_law_digits", none), "_law_digits", "_law_digits", defArgs (top 15), defBody (top 15), defScope (top 15), [], []⟩
def e_law_digits : Dd := ⟨d_law_digits, ["_law_script", "_law_first", "_law_last", "_law_digits_here", "_law_k", "_law_cell_here", "_law_turn", "_law_seed"], ["_law_script", "_law_first", "_law_last"], ["_law_digits_here"], t_law_digits⟩
theorem k_law_digits : DdOk g 60 e_law_digits := ⟨by kernel_rfl, by kernel_rfl, fun _ _ _ _ _ _ us hl => match us, hl with | [_, _, _], _ => rfl, rfl, rfl⟩
def t_law_draw : TX.St := (.seq (.asg (.nm 2) (.ix (.bor 0) (.cst (.int 1))))
 (.seq (.setI (.tm (.var 0)) (.cst (.int 1)) (.bin .add (.bor 2) (.cst (.int 1))))
 (.seq (.ite (.cmp .lt (.bor 2) (.bi .len (.cons (.ix (.bor 0) (.cst (.int 0))) .nil))) (.seq (.ret (.bin .mod (.bi .int (.cons (.ix (.ix (.bor 0) (.cst (.int 0))) (.var 2)) .nil)) (.var 1)))
 .skip) .skip)
 (.seq (.ret (.bin .mod (.bi .int (.cons (.bin .add (.bin .mul (.var 2) (.cst (.int 7))) (.cst (.int 3))) .nil)) (.var 1)))
 .skip))))
def d_law_draw : DefD := ⟨("_law_draw", none), "_law_draw", "_law_draw", defArgs (top 16), defBody (top 16), defScope (top 16), [], []⟩
def e_law_draw : Dd := ⟨d_law_draw, ["_law_box", "_law_many", "_law_at"], ["_law_box", "_law_many"], [], t_law_draw⟩
theorem k_law_draw : DdOk g 60 e_law_draw := ⟨by kernel_rfl, by kernel_rfl, fun _ _ _ _ _ _ us hl => match us, hl with | [_, _], _ => rfl, rfl, rfl⟩
def t_law_torn : TX.St := (.seq (.asg (.nm 2) (.call (Str.ofString "_law_draw") (.cons (.var 0) (.cons (.cst (.int 4)) .nil))))
 (.seq (.ite (.cmp .eq (.bor 2) (.cst (.int 0))) (.seq (.ret (.lst .nil))
 .skip) .skip)
 (.seq (.ite (.cmp .eq (.bor 2) (.cst (.int 1))) (.seq (.ret (.rep (.cons (.cst (.int 32)) .nil) (.var 1)))
 .skip) .skip)
 (.seq (.ite (.cmp .eq (.bor 2) (.cst (.int 2))) (.seq (.ret (.comp (.nm 3) (.rng1 (.var 1)) (.cst (.bl true)) (.bin .mul (.cst (.int 32)) (.call (Str.ofString "_law_draw") (.cons (.var 0) (.cons (.cst (.int 2)) .nil)))) [3]))
 .skip) .skip)
 (.seq (.ret (.comp (.nm 3) (.rng1 (.var 1)) (.cst (.bl true)) (.call (Str.ofString "_law_draw") (.cons (.var 0) (.cons (.cst (.int 33)) .nil))) [3]))
 .skip)))))
def d_law_torn : DefD := ⟨("_law_torn", none), "_law_torn", "_law_torn", defArgs (top 17), defBody (top 17), defScope (top 17), [], []⟩
def e_law_torn : Dd := ⟨d_law_torn, ["_law_box", "_law_many", "_law_kind", "_law_k"], ["_law_box", "_law_many"], [], t_law_torn⟩
theorem k_law_torn : DdOk g 60 e_law_torn := ⟨by kernel_rfl, by kernel_rfl, fun _ _ _ _ _ _ us hl => match us, hl with | [_, _], _ => rfl, rfl, rfl⟩
def t_law_schedule_b0 : TX.St := (.seq (.ret (.met (Str.ofString "schedule_cut") (.var 0) (.cons (.var 1) (.cons (.var 2) .nil))))
 .skip)
def t_law_schedule : TX.St := (.seq (.tryc t_law_schedule_b0 [⟨(Str.ofString "OutOfRange"), some 3, (.tup [(.cst (.str (Str.ofString "refused"))), .exn]), [(Str.ofString "RestError"), (Str.ofString "OutOfRange"), (Str.ofString "PowerCut")]⟩])
 .skip)
def d_law_schedule : DefD := ⟨("_law_schedule", none), "_law_schedule", "_law_schedule", defArgs (top 18), defBody (top 18), defScope (top 18), [], []⟩
def e_law_schedule : Dd := ⟨d_law_schedule, ["_law_disk", "_law_count", "_law_torn_here", "e"], ["_law_disk", "_law_count", "_law_torn_here"], [], t_law_schedule⟩
theorem k_law_schedule : DdOk g 60 e_law_schedule := ⟨by kernel_rfl, by kernel_rfl, fun _ _ _ _ _ _ us hl => match us, hl with | [_, _, _], _ => rfl, rfl, rfl⟩
def t_law_do_raw : TX.St := (.seq (.ite (.cmp .eq (.bor 1) (.bin .sub (.cst (.int 0)) (.cst (.int 1)))) (.seq (.ret (.met (Str.ofString "flush") (.var 0) .nil))
 .skip) .skip)
 (.seq (.ret (.met (Str.ofString "write") (.var 0) (.cons (.var 1) (.cons (.var 2) .nil))))
 .skip))
def d_law_do_raw : DefD := ⟨("_law_do_raw", none), "_law_do_raw", "_law_do_raw", defArgs (top 19), defBody (top 19), defScope (top 19), [], []⟩
def e_law_do_raw : Dd := ⟨d_law_do_raw, ["_law_disk", "_law_at", "_law_block"], ["_law_disk", "_law_at", "_law_block"], [], t_law_do_raw⟩
theorem k_law_do_raw : DdOk g 60 e_law_do_raw := ⟨by kernel_rfl, by kernel_rfl, fun _ _ _ _ _ _ us hl => match us, hl with | [_, _, _], _ => rfl, rfl, rfl⟩
def t_law_do_b0 : TX.St := (.seq (.asg (.nm 3) (.call (Str.ofString "_law_do_raw") (.cons (.var 0) (.cons (.var 1) (.cons (.var 2) .nil)))))
 .skip)
def t_law_do : TX.St := (.seq (.tryc t_law_do_b0 [⟨(Str.ofString "PowerCut"), some 4, (.isi (Str.ofString "RestError") (Str.ofString "OutOfRange") [(.cst (.str (Str.ofString "refused"))), (.cst (.str (Str.ofString "cut")))] [(.cst (.str (Str.ofString "refused"))), (.cst (.str (Str.ofString "other")))]), [(Str.ofString "RestError"), (Str.ofString "OutOfRange"), (Str.ofString "PowerCut")]⟩, ⟨(Str.ofString "OutOfRange"), some 4, (.tup [(.cst (.str (Str.ofString "refused"))), .exn]), [(Str.ofString "RestError"), (Str.ofString "OutOfRange"), (Str.ofString "PowerCut")]⟩])
 (.seq (.ret (.var 3))
 .skip))
def d_law_do : DefD := ⟨("_law_do", none), "_law_do", "_law_do", defArgs (top 20), defBody (top 20), defScope (top 20), [], []⟩
def e_law_do : Dd := ⟨d_law_do, ["_law_disk", "_law_at", "_law_block", "_law_told", "e"], ["_law_disk", "_law_at", "_law_block"], [], t_law_do⟩
theorem k_law_do : DdOk g 60 e_law_do := ⟨by kernel_rfl, by kernel_rfl, fun _ _ _ _ _ _ us hl => match us, hl with | [_, _, _], _ => rfl, rfl, rfl⟩
def tlaw_b0 : TX.St := (.seq (.asg (.nm 16) (.ix (.ix (.bor 5) (.var 15)) (.cst (.int 0))))
 (.seq (.setI (.tm (.var 4)) (.var 16) (.bin .add (.sl (.ix (.ix (.bor 5) (.var 15)) (.cst (.int 1))) .nil (.part (.ix (.bor 7) (.var 15)))) (.sl (.ix (.bor 4) (.var 16)) (.part (.ix (.bor 7) (.var 15))) .nil)))
 .skip))
def tlaw_b1 : TX.St := (.seq (.setI (.tm (.var 4)) (.ix (.bor 17) (.cst (.int 0))) (.ix (.bor 17) (.cst (.int 1))))
 .skip)
def tlaw_b2 : TX.St := (.seq (.asg (.nm 10) (.call (Str.ofString "_law_draw") (.cons (.var 1) (.cons (.cst (.int 10)) .nil))))
 (.seq (.ite (.or (.cmp .eq (.bor 10) (.cst (.int 0))) (.cmp .eq (.bor 9) (.cst (.int 0)))) (.seq (.asg (.nm 6) (.call (Str.ofString "_law_draw") (.cons (.var 1) (.cons (.cst (.int 21)) .nil))))
 (.seq (.asg (.nm 7) (.call (Str.ofString "_law_torn") (.cons (.var 1) (.cons (.cst (.int 9)) .nil))))
 (.seq (.asg (.nm 11) (.shr (.bi .list (.cons (.bor 7) .nil))))
 (.seq (.ite (.or (.cmp .isn (.call (Str.ofString "_law_schedule") (.cons (.var 3) (.cons (.cst (.int 100000)) (.cons (.lst (.cons (.cst (.int 32)) .nil)) .nil)))) (.cst .non)) (.cmp .isn (.call (Str.ofString "_law_schedule") (.cons (.var 3) (.cons (.var 6) (.cons (.var 11) .nil)))) (.cst .non))) (.seq (.ret (.cst (.bl false)))
 .skip) .skip)
 (.seq (.expr (.mth .append (.var 11) (.cons (.cst (.int 1)) .nil)))
 (.seq (.ite (.cmp .ne (.call (Str.ofString "_law_schedule") (.cons (.var 3) (.cons (.ix (.lst (.cons (.bin .sub (.cst (.int 0)) (.cst (.int 1))) (.cons (.cst (.int 100001)) .nil))) (.call (Str.ofString "_law_draw") (.cons (.var 1) (.cons (.cst (.int 2)) .nil)))) (.cons (.lst (.cons (.cst (.int 33)) .nil)) .nil)))) (.tup (.cons (.cst (.str (Str.ofString "refused"))) (.cons (.cst (.str (Str.ofString "many"))) .nil)))) (.seq (.ret (.cst (.bl false)))
 .skip) .skip)
 (.seq (.ite (.cmp .ne (.call (Str.ofString "_law_schedule") (.cons (.var 3) (.cons (.cst (.int 3)) (.cons (.lst (.cons (.cst (.int 33)) .nil)) .nil)))) (.tup (.cons (.cst (.str (Str.ofString "refused"))) (.cons (.cst (.str (Str.ofString "torn"))) .nil)))) (.seq (.ret (.cst (.bl false)))
 .skip) .skip)
 .skip))))))) (.seq (.ite (.and (.cmp .eq (.bor 10) (.cst (.int 1))) (.cmp .eq (.call (Str.ofString "_law_draw") (.cons (.var 1) (.cons (.cst (.int 4)) .nil))) (.cst (.int 0)))) (.seq (.expr (.met (Str.ofString "cut_power") (.var 3) (.cons (.lst .nil) .nil)))
 (.seq (.asg (.nm 5) (.shr (.lst .nil)))
 (.seq (.asg (.nm 6) (.bin .sub (.cst (.int 0)) (.cst (.int 1))))
 (.seq (.asg (.nm 8) (.bin .add (.bor 8) (.cst (.int 1))))
 .skip)))) (.seq (.ite (.cmp .eq (.bor 10) (.cst (.int 2))) (.seq (.ite (.or (.cmp .ne (.call (Str.ofString "_law_do") (.cons (.var 3) (.cons (.var 2) (.cons (.rep (.cons (.cst (.int 0)) .nil) (.cst (.int 32))) .nil)))) (.tup (.cons (.cst (.str (Str.ofString "refused"))) (.cons (.cst (.str (Str.ofString "at"))) .nil)))) (.cmp .ne (.call (Str.ofString "_law_do") (.cons (.var 3) (.cons (.cst (.int 0)) (.cons (.rep (.cons (.cst (.int 0)) .nil) (.cst (.int 31))) .nil)))) (.tup (.cons (.cst (.str (Str.ofString "refused"))) (.cons (.cst (.str (Str.ofString "block"))) .nil))))) (.seq (.ret (.cst (.bl false)))
 .skip) .skip)
 .skip) (.seq (.asg (.nm 12) (.bin .sub (.cst (.int 0)) (.cst (.int 1))))
 (.seq (.ite (.cmp .gt (.bor 10) (.cst (.int 4))) (.seq (.asg (.nm 12) (.call (Str.ofString "_law_draw") (.cons (.var 1) (.cons (.var 2) .nil))))
 .skip) .skip)
 (.seq (.asg (.nm 13) (.comp (.nm 15) (.rng1 (.cst (.int 32))) (.cst (.bl true)) (.bin .add (.cst (.int 1)) (.call (Str.ofString "_law_draw") (.cons (.var 1) (.cons (.cst (.int 255)) .nil)))) [15]))
 (.seq (.asg (.nm 14) (.call (Str.ofString "_law_do") (.cons (.var 3) (.cons (.var 12) (.cons (.bi .list (.cons (.bor 13) .nil)) .nil)))))
 (.seq (.ite (.cmp .eq (.bor 6) (.cst (.int 0))) (.seq (.ite (.cmp .ne (.bor 14) (.tup (.cons (.cst (.str (Str.ofString "refused"))) (.cons (.cst (.str (Str.ofString "cut"))) .nil)))) (.seq (.ret (.cst (.bl false)))
 .skip) .skip)
 (.seq (.loop (.nm 15) (.rng1 (.bi .min2 (.cons (.bi .len (.cons (.bor 7) .nil)) (.cons (.bi .len (.cons (.bor 5) .nil)) .nil)))) tlaw_b0)
 (.seq (.asg (.nm 5) (.shr (.lst .nil)))
 (.seq (.asg (.nm 6) (.bin .sub (.cst (.int 0)) (.cst (.int 1))))
 (.seq (.asg (.nm 8) (.bin .add (.bor 8) (.cst (.int 1))))
 .skip))))) (.seq (.ite (.cmp .isn (.bor 14) (.cst .non)) (.seq (.ret (.cst (.bl false)))
 .skip) .skip)
 (.seq (.ite (.cmp .gt (.bor 6) (.cst (.int 0))) (.seq (.asg (.nm 6) (.bin .sub (.var 6) (.cst (.int 1))))
 .skip) .skip)
 (.seq (.ite (.cmp .eq (.bor 12) (.bin .sub (.cst (.int 0)) (.cst (.int 1)))) (.seq (.loop (.nm 17) (.its 5) tlaw_b1)
 (.seq (.asg (.nm 5) (.shr (.lst .nil)))
 .skip)) (.seq (.expr (.mth .append (.var 5) (.cons (.lst (.cons (.var 12) (.cons (.var 13) .nil))) .nil)))
 .skip))
 .skip))))
 .skip))))))
 .skip))
 .skip))
 (.seq (.ite (.or (.cmp .ne (.met (Str.ofString "pending_count") (.var 3) .nil) (.bi .len (.cons (.bor 5) .nil))) (.cmp .ne (.met (Str.ofString "cut_count") (.var 3) .nil) (.bor 8))) (.seq (.ret (.cst (.bl false)))
 .skip) .skip)
 .skip)))
def tlaw : TX.St := (.seq (.asg (.nm 1) (.shr (.lst (.cons (.call (Str.ofString "_law_digits") (.cons (.var 0) (.cons (.cst (.int 0)) (.cons (.cst (.int 63)) .nil)))) (.cons (.cst (.int 0)) .nil)))))
 (.seq (.asg (.nm 2) (.bin .add (.cst (.int 8)) (.call (Str.ofString "_law_draw") (.cons (.var 1) (.cons (.cst (.int 4)) .nil)))))
 (.seq (.asg (.nm 3) (.mk (Str.ofString "Disk") (.cons (.var 2) .nil)))
 (.seq (.asg (.nm 4) (.shr (.comp (.nm 15) (.rng1 (.var 2)) (.cst (.bl true)) (.rep (.cons (.cst (.int 0)) .nil) (.cst (.int 32))) [15])))
 (.seq (.asg (.nm 5) (.shr (.lst .nil)))
 (.seq (.asg (.nm 6) (.bin .sub (.cst (.int 0)) (.cst (.int 1))))
 (.seq (.asg (.nm 7) (.lst .nil))
 (.seq (.asg (.nm 8) (.cst (.int 0)))
 (.seq (.loop (.nm 9) (.rng1 (.cst (.int 40))) tlaw_b2)
 (.seq (.expr (.met (Str.ofString "cut_power") (.var 3) (.cons (.lst .nil) .nil)))
 (.seq (.ret (.cmp .eq (.comp (.nm 12) (.rng1 (.var 2)) (.cst (.bl true)) (.met (Str.ofString "read") (.var 3) (.cons (.var 12) .nil)) [12]) (.bor 4)))
 .skip)))))))))))
def dlaw : DefD := ⟨("law", none), "law", "law", defArgs (top 21), defBody (top 21), defScope (top 21), [], []⟩
def elaw : Dd := ⟨dlaw, ["_law_script", "_law_box", "_law_size", "_law_disk", "_law_blocks", "_law_pending", "_law_left", "_law_torn_here", "_law_cuts", "_law_turn", "_law_kind", "_law_handed", "_law_at", "_law_block", "_law_actual", "_law_k", "_law_place", "_law_entry"], ["_law_script"], [], tlaw⟩
theorem klaw : DdOk g 60 elaw := ⟨by kernel_rfl, by kernel_rfl, fun _ _ _ _ _ _ us hl => match us, hl with | [_], _ => rfl, rfl, rfl⟩
def ds : List Dd := [e_is_block, e_check_torn, eDisk_initI, eDisk_check_at, eDisk_read, eDisk_cut, eDisk_spend, eDisk_write, eDisk_flush, eDisk_pending_count, eDisk_cut_count, eDisk_cut_power, eDisk_schedule_cut, e_law_cell, e_law_digits, e_law_draw, e_law_torn, e_law_schedule, e_law_do_raw, e_law_do, elaw]
def fa : List Fa := [.glo "_is_block", .glo "_check_torn", .glo "_law_cell", .glo "_law_digits", .glo "_law_draw", .glo "_law_torn", .glo "_law_schedule", .glo "_law_do_raw", .glo "_law_do", .glo "law", .free "len", .free "range", .free "list", .free "enumerate", .free "int", .free "isinstance", .free "min", .int "BLOCK" 32, .int "BLOCKS_LEAST" 8, .int "BLOCKS_MOST" 400, .int "COUNT_MOST" 100000, .glo "RestError", .exc "RestError", .glo "OutOfRange", .glo "PowerCut", .exc "PowerCut", .exm "RestError" "RestError" true, .exm "RestError" "OutOfRange" false, .exm "RestError" "PowerCut" false, .exm "OutOfRange" "RestError" true, .exm "OutOfRange" "OutOfRange" true, .exm "OutOfRange" "PowerCut" false, .exm "PowerCut" "RestError" true, .exm "PowerCut" "OutOfRange" false, .exm "PowerCut" "PowerCut" true, .glo "Disk", .cls "Disk", .mkr "Disk", .meth "Disk" "__init__", .meth "Disk" "size", .meth "Disk" "_check_at", .meth "Disk" "read", .meth "Disk" "_cut", .meth "Disk" "_spend", .meth "Disk" "write", .meth "Disk" "flush", .meth "Disk" "pending_count", .meth "Disk" "cut_count", .meth "Disk" "cut_power", .meth "Disk" "schedule_cut"] ++ TX.attrs.map (Fa.noat "Disk")
def dxOutOfRange : DefD := ⟨("OutOfRange", some "__init__"), "__init__", "OutOfRange.__init__", defArgs (topM 3 0), defBody (topM 3 0), defScope (topM 3 0), [], []⟩
theorem sxOutOfRange : InitShape "OutOfRange" dxOutOfRange := ⟨rfl, rfl, rfl, rfl, ⟨9, 17, 9, 21⟩, ⟨9, 23, 9, 27⟩, ⟨10, 8, 10, 12⟩, ⟨10, 8, 10, 17⟩, ⟨10, 20, 10, 24⟩, ⟨10, 8, 10, 24⟩, by kernel_rfl, by kernel_rfl, by kernel_rfl⟩
def fn : List DefD := ds.map Dd.d ++ [dxOutOfRange]
theorem own : ∀ c, g.excs.lookup c = some true → ∃ d ∈ fn, InitShape c d := fun c h => by
  have m := look_mem h
  simp only [g, List.mem_cons, Prod.mk.injEq, List.not_mem_nil, or_false, reduceCtorEq, and_false, and_true, false_or] at m
  subst m
  exact ⟨dxOutOfRange, List.mem_append_right _ List.mem_cons_self, sxOutOfRange⟩
theorem tab : TabOk g 60 fa fn ds := ⟨List.forall_mem_cons.mpr ⟨k_is_block, List.forall_mem_cons.mpr ⟨k_check_torn, List.forall_mem_cons.mpr ⟨kDisk_initI, List.forall_mem_cons.mpr ⟨kDisk_check_at, List.forall_mem_cons.mpr ⟨kDisk_read, List.forall_mem_cons.mpr ⟨kDisk_cut, List.forall_mem_cons.mpr ⟨kDisk_spend, List.forall_mem_cons.mpr ⟨kDisk_write, List.forall_mem_cons.mpr ⟨kDisk_flush, List.forall_mem_cons.mpr ⟨kDisk_pending_count, List.forall_mem_cons.mpr ⟨kDisk_cut_count, List.forall_mem_cons.mpr ⟨kDisk_cut_power, List.forall_mem_cons.mpr ⟨kDisk_schedule_cut, List.forall_mem_cons.mpr ⟨k_law_cell, List.forall_mem_cons.mpr ⟨k_law_digits, List.forall_mem_cons.mpr ⟨k_law_draw, List.forall_mem_cons.mpr ⟨k_law_torn, List.forall_mem_cons.mpr ⟨k_law_schedule, List.forall_mem_cons.mpr ⟨k_law_do_raw, List.forall_mem_cons.mpr ⟨k_law_do, List.forall_mem_cons.mpr ⟨klaw, fun _ h => nomatch h⟩⟩⟩⟩⟩⟩⟩⟩⟩⟩⟩⟩⟩⟩⟩⟩⟩⟩⟩⟩⟩, fun e he => List.mem_append_left _ (List.mem_map_of_mem he), by kernel_rfl, by kernel_rfl, by kernel_rfl, by kernel_rfl, by kernel_rfl, by kernel_rfl, by kernel_rfl, own⟩
@[irreducible] def T : List (Ky × Df) := tabOf ds
theorem T_eq : T = tabOf ds := by
  unfold T
  rfl
theorem f_is_block : dfOf T (.fn "_is_block") = some ⟨1, 2, t_is_block⟩ := by
  rw [T_eq]
  kernel_rfl
theorem f_check_torn : dfOf T (.fn "_check_torn") = some ⟨1, 2, t_check_torn⟩ := by
  rw [T_eq]
  kernel_rfl
theorem fDisk_initI : dfOf T (.me "Disk" "__init__") = some ⟨2, 3, tDisk_initI⟩ := by
  rw [T_eq]
  kernel_rfl
theorem fDisk_check_at : dfOf T (.me "Disk" "_check_at") = some ⟨2, 2, tDisk_check_at⟩ := by
  rw [T_eq]
  kernel_rfl
theorem fDisk_read : dfOf T (.me "Disk" "read") = some ⟨2, 5, tDisk_read⟩ := by
  rw [T_eq]
  kernel_rfl
theorem fDisk_cut : dfOf T (.me "Disk" "_cut") = some ⟨2, 6, tDisk_cut⟩ := by
  rw [T_eq]
  kernel_rfl
theorem fDisk_spend : dfOf T (.me "Disk" "_spend") = some ⟨1, 1, tDisk_spend⟩ := by
  rw [T_eq]
  kernel_rfl
theorem fDisk_write : dfOf T (.me "Disk" "write") = some ⟨3, 3, tDisk_write⟩ := by
  rw [T_eq]
  kernel_rfl
theorem fDisk_flush : dfOf T (.me "Disk" "flush") = some ⟨1, 3, tDisk_flush⟩ := by
  rw [T_eq]
  kernel_rfl
theorem fDisk_pending_count : dfOf T (.me "Disk" "pending_count") = some ⟨1, 1, tDisk_pending_count⟩ := by
  rw [T_eq]
  kernel_rfl
theorem fDisk_cut_count : dfOf T (.me "Disk" "cut_count") = some ⟨1, 1, tDisk_cut_count⟩ := by
  rw [T_eq]
  kernel_rfl
theorem fDisk_cut_power : dfOf T (.me "Disk" "cut_power") = some ⟨2, 2, tDisk_cut_power⟩ := by
  rw [T_eq]
  kernel_rfl
theorem fDisk_schedule_cut : dfOf T (.me "Disk" "schedule_cut") = some ⟨3, 3, tDisk_schedule_cut⟩ := by
  rw [T_eq]
  kernel_rfl
theorem f_law_cell : dfOf T (.fn "_law_cell") = some ⟨2, 2, t_law_cell⟩ := by
  rw [T_eq]
  kernel_rfl
theorem f_law_digits : dfOf T (.fn "_law_digits") = some ⟨3, 8, t_law_digits⟩ := by
  rw [T_eq]
  kernel_rfl
theorem f_law_draw : dfOf T (.fn "_law_draw") = some ⟨2, 3, t_law_draw⟩ := by
  rw [T_eq]
  kernel_rfl
theorem f_law_torn : dfOf T (.fn "_law_torn") = some ⟨2, 4, t_law_torn⟩ := by
  rw [T_eq]
  kernel_rfl
theorem f_law_schedule : dfOf T (.fn "_law_schedule") = some ⟨3, 4, t_law_schedule⟩ := by
  rw [T_eq]
  kernel_rfl
theorem f_law_do_raw : dfOf T (.fn "_law_do_raw") = some ⟨3, 3, t_law_do_raw⟩ := by
  rw [T_eq]
  kernel_rfl
theorem f_law_do : dfOf T (.fn "_law_do") = some ⟨3, 5, t_law_do⟩ := by
  rw [T_eq]
  kernel_rfl
theorem flaw : dfOf T (.fn "law") = some ⟨1, 18, tlaw⟩ := by
  rw [T_eq]
  kernel_rfl
end K42

set_option maxRecDepth 100000
set_option maxHeartbeats 4000000
namespace K42
open TX PySem PySem.Spec
def outR : Out → Res D
  | .nx _ S => .ok .non S
  | .ret v S => .ok v S
  | .exc c x _ S => .exc c x S
  | _ => .stk
theorem df_eq {Ω : Orc} {d : Df} {xs : List D} {S : Sto} {o : Out} (hl : xs.length = d.par) (e : ex Ω d.body (d.start xs) S = o) : d.run Ω xs S = outR o := by
  unfold Df.run
  rw [if_pos hl, e]
  cases o <;> rfl
theorem me_eq {n : Nat} {c f : Str} {d : Df} {xs : List D} {S : Sto} {o : Out} (h : dfOf T (.me c f) = some d) (hl : xs.length = d.par) (e : ex (runN T n) d.body (d.start xs) S = o) : runN T (n + 1) (.me c f) xs S = outR o := (run_me h).trans (df_eq hl e)
theorem fn_eq {n : Nat} {f : Str} {d : Df} {xs : List D} {S : Sto} {o : Out} (h : dfOf T (.fn f) = some d) (hl : xs.length = d.par) (e : ex (runN T n) d.body (d.start xs) S = o) : runN T (n + 1) (.fn f) xs S = outR o := (run_fn h).trans (df_eq hl e)
/-! ### the disk's state -/
abbrev Bk := List Int
def bD (b : Bk) : D := .lst (b.map D.int)
def eD (e : Nat × Bk) : D := .tup [.int e.1, bD e.2]
def lD (e : Nat × Bk) : D := .lst [.int e.1, bD e.2]
/-- what is left: none below 0 -/
def lfD (m : Int) : D := if m < 0 then .non else .int m
def F (p t : Nat) (k m : Int) : List (Str × D) := [(Str.ofString "_blocks", .loc 2), (Str.ofString "_pending", .loc p), (Str.ofString "_cuts", .int k), (Str.ofString "_left", lfD m), (Str.ofString "_torn", .loc t)]
def Dsk (p t : Nat) (k m : Int) : Cell := .ins (Str.ofString "Disk") (F p t k m)
section
variable {S : Sto} {p t : Nat} {k m : Int}
theorem g_blocks (h : S[1]? = some (Dsk p t k m)) : fldOf S (.loc 1) (Str.ofString "_blocks") = some (.loc 2) := (fld_at h _).trans rfl
theorem g_pending (h : S[1]? = some (Dsk p t k m)) : fldOf S (.loc 1) (Str.ofString "_pending") = some (.loc p) := (fld_at h _).trans rfl
theorem g_cuts (h : S[1]? = some (Dsk p t k m)) : fldOf S (.loc 1) (Str.ofString "_cuts") = some (.int k) := (fld_at h _).trans rfl
theorem g_torn (h : S[1]? = some (Dsk p t k m)) : fldOf S (.loc 1) (Str.ofString "_torn") = some (.loc t) := (fld_at h _).trans rfl
theorem g_left (h : S[1]? = some (Dsk p t k m)) : fldOf S (.loc 1) (Str.ofString "_left") = some (lfD m) := (fld_at h _).trans rfl
theorem m_check (h : S[1]? = some (Dsk p t k m)) : clsOf S (.loc 1) (Str.ofString "_check_at") = some (Str.ofString "Disk") := cls_at h rfl
theorem m_spend (h : S[1]? = some (Dsk p t k m)) : clsOf S (.loc 1) (Str.ofString "_spend") = some (Str.ofString "Disk") := cls_at h rfl
theorem m_cut (h : S[1]? = some (Dsk p t k m)) : clsOf S (.loc 1) (Str.ofString "_cut") = some (Str.ofString "Disk") := cls_at h rfl
theorem m_write (h : S[1]? = some (Dsk p t k m)) : clsOf S (.loc 1) (Str.ofString "write") = some (Str.ofString "Disk") := cls_at h rfl
theorem m_read (h : S[1]? = some (Dsk p t k m)) : clsOf S (.loc 1) (Str.ofString "read") = some (Str.ofString "Disk") := cls_at h rfl
theorem m_power (h : S[1]? = some (Dsk p t k m)) : clsOf S (.loc 1) (Str.ofString "cut_power") = some (Str.ofString "Disk") := cls_at h rfl
theorem m_flush (h : S[1]? = some (Dsk p t k m)) : clsOf S (.loc 1) (Str.ofString "flush") = some (Str.ofString "Disk") := cls_at h rfl
theorem m_pc (h : S[1]? = some (Dsk p t k m)) : clsOf S (.loc 1) (Str.ofString "pending_count") = some (Str.ofString "Disk") := cls_at h rfl
theorem m_cc (h : S[1]? = some (Dsk p t k m)) : clsOf S (.loc 1) (Str.ofString "cut_count") = some (Str.ofString "Disk") := cls_at h rfl
theorem m_sched (h : S[1]? = some (Dsk p t k m)) : clsOf S (.loc 1) (Str.ofString "schedule_cut") = some (Str.ofString "Disk") := cls_at h rfl
theorem p_pending (h : S[1]? = some (Dsk p t k m)) (q : Nat) : putFld S 1 (Str.ofString "_pending") (.loc q) = some (S.set 1 (Dsk q t k m)) := (put_at h (show 5 < 900 by decide)).trans rfl
theorem p_cuts (h : S[1]? = some (Dsk p t k m)) (q : Int) : putFld S 1 (Str.ofString "_cuts") (.int q) = some (S.set 1 (Dsk p t q m)) := (put_at h (show 5 < 900 by decide)).trans rfl
theorem p_left (h : S[1]? = some (Dsk p t k m)) (q : Int) (d : D) (e : lfD q = d) : putFld S 1 (Str.ofString "_left") d = some (S.set 1 (Dsk p t k q)) := by
  subst e
  exact (put_at h (show 5 < 900 by decide)).trans rfl
theorem p_torn (h : S[1]? = some (Dsk p t k m)) (q : Nat) : putFld S 1 (Str.ofString "_torn") (.loc q) = some (S.set 1 (Dsk p q k m)) := (put_at h (show 5 < 900 by decide)).trans rfl
end
/-! ### what is computed -/
def okB (v : Int) : Bool := decide (0 ≤ v) && decide (v ≤ 255)
def isBlock (b : Bk) : Bool := decide (b.length = 32) && b.all okB
theorem take_all {α : Type} {f : α → Bool} {l : List α} {i : Nat} {x : α} (h : l[i]? = some x) (ha : (l.take i).all f = true) : (l.take (i + 1)).all f = f x := by
  have hi := (List.getElem?_eq_some_iff.mp h).1
  have ex := (List.getElem?_eq_some_iff.mp h).2
  rw [← List.take_append_getElem hi, List.all_append, ha, ex, List.all_cons, List.all_nil, Bool.and_true, Bool.true_and]
theorem not_all {α : Type} {f : α → Bool} {l : List α} {i : Nat} {x : α} (h : l[i]? = some x) (hx : f x = false) : l.all f = false := by
  cases q : l.all f with
  | false => rfl
  | true =>
    rw [List.all_eq_true.mp q x (List.mem_of_getElem? h)] at hx
    cases hx
theorem is_block_eq (n : Nat) {S : Sto} {x : D} {b : Bk} (h : IsL S x (b.map D.int)) : runN T (n + 1) (.fn "_is_block") [x] S = .ok (.bl (isBlock b)) S := by
  refine Res.eq_of (call_ok f_is_block rfl ?_)
  simp only [t_is_block, h.len, List.length_map, o_seq]
  simp only [o_ite, ev_cmp, ev_bi, evs_cons, evs_nil, ev_bor, ev_cst, Df.start, List.map_cons, List.map_nil, List.length_cons, List.length_nil, List.cons_append, List.nil_append, List.getElem?_cons_zero, Res.bind_ok, h.len, Res.of_some, ne_i, Option.map_some, Ok_ok, kIte_ap, tru_b, List.length_map]
  by_cases c : (b.length : Int) = 32
  · have c' : b.length = 32 := by omega
    have e : isBlock b = b.all okB := by
      unfold isBlock
      rw [decide_eq_true c', Bool.true_and]
    simp only [c, decide_true, Bool.not_true, kIf_f, o_skip, kS_ap, o_seq]
    refine loop_is h rfl (fun i ρ S' => ∃ c1 : C, ρ = [.val x, c1] ∧ S' = S ∧ (b.take i).all okB = true) (fun j ρ S' ⟨_, _, h, _⟩ => h) ⟨_, rfl, rfl, rfl⟩ ?_ ?_
    · rintro j y ρ S' hy ⟨c1, rfl, rfl, ha⟩
      rw [List.getElem?_map] at hy
      cases hv : b[j]? with
      | none =>
        rw [hv] at hy
        cases hy
      | some v =>
        rw [hv] at hy
        cases hy
        have st := take_all hv ha
        have ok0 : okB v = (decide (0 ≤ v) && decide (v ≤ 255)) := rfl
        by_cases k0 : 0 ≤ v
        · by_cases k1 : v ≤ 255
          · simp only [turnS, t_is_block_b0, k0, k1, Df.start, ev_cst, ev_var, ev_bor, ev_tup, ev_lst, ev_rep, ev_bin, ev_neg, ev_cmp, ev_chn, ev_and, ev_or, ev_not, ev_ite, ev_ix, ev_sl, ev_call, ev_mk, ev_met, ev_fld, ev_shr, ev_bi, ev_join, ev_rev, ev_mth, ev_dnK, ev_dnT, ev_comp, evs_nil, evs_cons, evO_nil, evO_part, evI_rng1, evI_rng2, evI_rng3, evI_zip, evI_enm, evI_its, evI_it, o_skip, o_brk, o_cnt, o_seq, o_asg, o_own, o_ret, o_retO, o_expr, o_ite, o_loop, o_setI, o_setF, o_app, o_del, kS_ap, kAsg_ap, kOwn_ap, kEx_ap, kIte_ap, kIf_t, kIf_f, kLoop_ap, kPut_s, kSetF_ap, kApp_ap, kDel_ap, Res.bind_ok, Res.of_some, Res.noX_ok, Res.run_ok, Ok_ok, Ok_bind, Ok_noX, Ok_nx, Ok_ret, Ok_brk, Ok_cnt, List.map_cons, List.map_nil, List.length_cons, List.length_nil, List.cons_append, List.nil_append, List.getElem?_cons_zero, List.getElem?_cons_succ, List.set_cons_zero, List.set_cons_succ, List.replicate_succ, List.replicate_zero, TX.bindT, TX.bindL, add_i, sub_i, fdiv_i, mod_i, band_i, add_t, add_s, add_l, lt_i, le_i, gt_i, ge_i, eq_i, ne_i, eq_s, ne_s, is_n, isn_n, is_b, isn_b, is_i, isn_i, is_tt, isn_tt, is_s, isn_s, is_l, isn_l, ix_t, ix_l, ix_c, ix_s, len_t, len_l, len_c, len_s, int_i, int_b, max_i, min_i, ord_s, list_t, list_l, list_c, tuple_t, tuple_l, tuple_c, all_l, tru_n, tru_b, tru_i, tru_s, tru_t, tru_l, at0, at1, at2, at3, at4, at5, at6, mul_r, mul_l, Option.map_some, Option.bind_some, shutR_nil, shutO_nil, ItV.now, wsOk, wipeC, plObj, chks_nil, compC_nil, loopC_nil, and_self, true_and, and_true, List.all_cons, List.all_nil, Bool.and_self, Bool.and_true, Bool.true_and, Bool.not_true, Bool.not_false, if_true, if_false, decide_true, decide_false, sz0, sz1, sz2, sz3, sz4, sz5, sz6, sz7, sz8, sz9, sz10, sz11, sz12, Nat.reduceLT, Nat.reduceAdd, Nat.reduceSub, Int.reduceLT, Int.reduceLE, Int.reduceToNat]
            exact ⟨_, rfl, by rw [st, ok0]; simp [k0, k1]⟩
          · have := not_all hv (by rw [ok0]; simp [k1] : okB v = false)
            simp only [turnS, t_is_block_b0, k0, k1, e, this, Df.start, ev_cst, ev_var, ev_bor, ev_tup, ev_lst, ev_rep, ev_bin, ev_neg, ev_cmp, ev_chn, ev_and, ev_or, ev_not, ev_ite, ev_ix, ev_sl, ev_call, ev_mk, ev_met, ev_fld, ev_shr, ev_bi, ev_join, ev_rev, ev_mth, ev_dnK, ev_dnT, ev_comp, evs_nil, evs_cons, evO_nil, evO_part, evI_rng1, evI_rng2, evI_rng3, evI_zip, evI_enm, evI_its, evI_it, o_skip, o_brk, o_cnt, o_seq, o_asg, o_own, o_ret, o_retO, o_expr, o_ite, o_loop, o_setI, o_setF, o_app, o_del, kS_ap, kAsg_ap, kOwn_ap, kEx_ap, kIte_ap, kIf_t, kIf_f, kLoop_ap, kPut_s, kSetF_ap, kApp_ap, kDel_ap, Res.bind_ok, Res.of_some, Res.noX_ok, Res.run_ok, Ok_ok, Ok_bind, Ok_noX, Ok_nx, Ok_ret, Ok_brk, Ok_cnt, List.map_cons, List.map_nil, List.length_cons, List.length_nil, List.cons_append, List.nil_append, List.getElem?_cons_zero, List.getElem?_cons_succ, List.set_cons_zero, List.set_cons_succ, List.replicate_succ, List.replicate_zero, TX.bindT, TX.bindL, add_i, sub_i, fdiv_i, mod_i, band_i, add_t, add_s, add_l, lt_i, le_i, gt_i, ge_i, eq_i, ne_i, eq_s, ne_s, is_n, isn_n, is_b, isn_b, is_i, isn_i, is_tt, isn_tt, is_s, isn_s, is_l, isn_l, ix_t, ix_l, ix_c, ix_s, len_t, len_l, len_c, len_s, int_i, int_b, max_i, min_i, ord_s, list_t, list_l, list_c, tuple_t, tuple_l, tuple_c, all_l, tru_n, tru_b, tru_i, tru_s, tru_t, tru_l, at0, at1, at2, at3, at4, at5, at6, mul_r, mul_l, Option.map_some, Option.bind_some, shutR_nil, shutO_nil, ItV.now, wsOk, wipeC, plObj, chks_nil, compC_nil, loopC_nil, and_self, true_and, and_true, List.all_cons, List.all_nil, Bool.and_self, Bool.and_true, Bool.true_and, Bool.not_true, Bool.not_false, if_true, if_false, decide_true, decide_false, sz0, sz1, sz2, sz3, sz4, sz5, sz6, sz7, sz8, sz9, sz10, sz11, sz12, Nat.reduceLT, Nat.reduceAdd, Nat.reduceSub, Int.reduceLT, Int.reduceLE, Int.reduceToNat]
        · have := not_all hv (by rw [ok0]; simp [k0] : okB v = false)
          simp only [turnS, t_is_block_b0, k0, e, this, Df.start, ev_cst, ev_var, ev_bor, ev_tup, ev_lst, ev_rep, ev_bin, ev_neg, ev_cmp, ev_chn, ev_and, ev_or, ev_not, ev_ite, ev_ix, ev_sl, ev_call, ev_mk, ev_met, ev_fld, ev_shr, ev_bi, ev_join, ev_rev, ev_mth, ev_dnK, ev_dnT, ev_comp, evs_nil, evs_cons, evO_nil, evO_part, evI_rng1, evI_rng2, evI_rng3, evI_zip, evI_enm, evI_its, evI_it, o_skip, o_brk, o_cnt, o_seq, o_asg, o_own, o_ret, o_retO, o_expr, o_ite, o_loop, o_setI, o_setF, o_app, o_del, kS_ap, kAsg_ap, kOwn_ap, kEx_ap, kIte_ap, kIf_t, kIf_f, kLoop_ap, kPut_s, kSetF_ap, kApp_ap, kDel_ap, Res.bind_ok, Res.of_some, Res.noX_ok, Res.run_ok, Ok_ok, Ok_bind, Ok_noX, Ok_nx, Ok_ret, Ok_brk, Ok_cnt, List.map_cons, List.map_nil, List.length_cons, List.length_nil, List.cons_append, List.nil_append, List.getElem?_cons_zero, List.getElem?_cons_succ, List.set_cons_zero, List.set_cons_succ, List.replicate_succ, List.replicate_zero, TX.bindT, TX.bindL, add_i, sub_i, fdiv_i, mod_i, band_i, add_t, add_s, add_l, lt_i, le_i, gt_i, ge_i, eq_i, ne_i, eq_s, ne_s, is_n, isn_n, is_b, isn_b, is_i, isn_i, is_tt, isn_tt, is_s, isn_s, is_l, isn_l, ix_t, ix_l, ix_c, ix_s, len_t, len_l, len_c, len_s, int_i, int_b, max_i, min_i, ord_s, list_t, list_l, list_c, tuple_t, tuple_l, tuple_c, all_l, tru_n, tru_b, tru_i, tru_s, tru_t, tru_l, at0, at1, at2, at3, at4, at5, at6, mul_r, mul_l, Option.map_some, Option.bind_some, shutR_nil, shutO_nil, ItV.now, wsOk, wipeC, plObj, chks_nil, compC_nil, loopC_nil, and_self, true_and, and_true, List.all_cons, List.all_nil, Bool.and_self, Bool.and_true, Bool.true_and, Bool.not_true, Bool.not_false, if_true, if_false, decide_true, decide_false, sz0, sz1, sz2, sz3, sz4, sz5, sz6, sz7, sz8, sz9, sz10, sz11, sz12, Nat.reduceLT, Nat.reduceAdd, Nat.reduceSub, Int.reduceLT, Int.reduceLE, Int.reduceToNat]
    · rintro ρ S' ⟨c1, rfl, rfl, ha⟩
      rw [List.length_map, List.take_length] at ha
      simp only [e, ha, Df.start, ev_cst, ev_var, ev_bor, ev_tup, ev_lst, ev_rep, ev_bin, ev_neg, ev_cmp, ev_chn, ev_and, ev_or, ev_not, ev_ite, ev_ix, ev_sl, ev_call, ev_mk, ev_met, ev_fld, ev_shr, ev_bi, ev_join, ev_rev, ev_mth, ev_dnK, ev_dnT, ev_comp, evs_nil, evs_cons, evO_nil, evO_part, evI_rng1, evI_rng2, evI_rng3, evI_zip, evI_enm, evI_its, evI_it, o_skip, o_brk, o_cnt, o_seq, o_asg, o_own, o_ret, o_retO, o_expr, o_ite, o_loop, o_setI, o_setF, o_app, o_del, kS_ap, kAsg_ap, kOwn_ap, kEx_ap, kIte_ap, kIf_t, kIf_f, kLoop_ap, kPut_s, kSetF_ap, kApp_ap, kDel_ap, Res.bind_ok, Res.of_some, Res.noX_ok, Res.run_ok, Ok_ok, Ok_bind, Ok_noX, Ok_nx, Ok_ret, Ok_brk, Ok_cnt, List.map_cons, List.map_nil, List.length_cons, List.length_nil, List.cons_append, List.nil_append, List.getElem?_cons_zero, List.getElem?_cons_succ, List.set_cons_zero, List.set_cons_succ, List.replicate_succ, List.replicate_zero, TX.bindT, TX.bindL, add_i, sub_i, fdiv_i, mod_i, band_i, add_t, add_s, add_l, lt_i, le_i, gt_i, ge_i, eq_i, ne_i, eq_s, ne_s, is_n, isn_n, is_b, isn_b, is_i, isn_i, is_tt, isn_tt, is_s, isn_s, is_l, isn_l, ix_t, ix_l, ix_c, ix_s, len_t, len_l, len_c, len_s, int_i, int_b, max_i, min_i, ord_s, list_t, list_l, list_c, tuple_t, tuple_l, tuple_c, all_l, tru_n, tru_b, tru_i, tru_s, tru_t, tru_l, at0, at1, at2, at3, at4, at5, at6, mul_r, mul_l, Option.map_some, Option.bind_some, shutR_nil, shutO_nil, ItV.now, wsOk, wipeC, plObj, chks_nil, compC_nil, loopC_nil, and_self, true_and, and_true, List.all_cons, List.all_nil, Bool.and_self, Bool.and_true, Bool.true_and, Bool.not_true, Bool.not_false, if_true, if_false, decide_true, decide_false, sz0, sz1, sz2, sz3, sz4, sz5, sz6, sz7, sz8, sz9, sz10, sz11, sz12, Nat.reduceLT, Nat.reduceAdd, Nat.reduceSub, Int.reduceLT, Int.reduceLE, Int.reduceToNat]
  · have e : isBlock b = false := by
      unfold isBlock
      rw [decide_eq_false (by omega), Bool.false_and]
    simp only [c, e, Df.start, ev_cst, ev_var, ev_bor, ev_tup, ev_lst, ev_rep, ev_bin, ev_neg, ev_cmp, ev_chn, ev_and, ev_or, ev_not, ev_ite, ev_ix, ev_sl, ev_call, ev_mk, ev_met, ev_fld, ev_shr, ev_bi, ev_join, ev_rev, ev_mth, ev_dnK, ev_dnT, ev_comp, evs_nil, evs_cons, evO_nil, evO_part, evI_rng1, evI_rng2, evI_rng3, evI_zip, evI_enm, evI_its, evI_it, o_skip, o_brk, o_cnt, o_seq, o_asg, o_own, o_ret, o_retO, o_expr, o_ite, o_loop, o_setI, o_setF, o_app, o_del, kS_ap, kAsg_ap, kOwn_ap, kEx_ap, kIte_ap, kIf_t, kIf_f, kLoop_ap, kPut_s, kSetF_ap, kApp_ap, kDel_ap, Res.bind_ok, Res.of_some, Res.noX_ok, Res.run_ok, Ok_ok, Ok_bind, Ok_noX, Ok_nx, Ok_ret, Ok_brk, Ok_cnt, List.map_cons, List.map_nil, List.length_cons, List.length_nil, List.cons_append, List.nil_append, List.getElem?_cons_zero, List.getElem?_cons_succ, List.set_cons_zero, List.set_cons_succ, List.replicate_succ, List.replicate_zero, TX.bindT, TX.bindL, add_i, sub_i, fdiv_i, mod_i, band_i, add_t, add_s, add_l, lt_i, le_i, gt_i, ge_i, eq_i, ne_i, eq_s, ne_s, is_n, isn_n, is_b, isn_b, is_i, isn_i, is_tt, isn_tt, is_s, isn_s, is_l, isn_l, ix_t, ix_l, ix_c, ix_s, len_t, len_l, len_c, len_s, int_i, int_b, max_i, min_i, ord_s, list_t, list_l, list_c, tuple_t, tuple_l, tuple_c, all_l, tru_n, tru_b, tru_i, tru_s, tru_t, tru_l, at0, at1, at2, at3, at4, at5, at6, mul_r, mul_l, Option.map_some, Option.bind_some, shutR_nil, shutO_nil, ItV.now, wsOk, wipeC, plObj, chks_nil, compC_nil, loopC_nil, and_self, true_and, and_true, List.all_cons, List.all_nil, Bool.and_self, Bool.and_true, Bool.true_and, Bool.not_true, Bool.not_false, if_true, if_false, decide_true, decide_false, sz0, sz1, sz2, sz3, sz4, sz5, sz6, sz7, sz8, sz9, sz10, sz11, sz12, Nat.reduceLT, Nat.reduceAdd, Nat.reduceSub, Int.reduceLT, Int.reduceLE, Int.reduceToNat]
def okT (v : Int) : Bool := decide (0 ≤ v) && decide (v ≤ 32)
theorem torn_loop {Ω : Orc} {x : D} {S : Sto} : ∀ (ts : List Int) (c1 : C), (ts.all okT = true → ∃ c1', loopL (turnS Ω (.nm 1) t_check_torn_b0) (ts.map D.int) [.val x, c1] S = .nx [.val x, c1'] S) ∧
    (ts.all okT = false → ∃ ρ, loopL (turnS Ω (.nm 1) t_check_torn_b0) (ts.map D.int) [.val x, c1] S = .exc (Str.ofString "OutOfRange") (some (.str (Str.ofString "torn"))) ρ S)
  | [], c1 => ⟨fun _ => ⟨c1, rfl⟩, fun h => (nomatch h)⟩
  | v :: ts, c1 => by
    obtain ⟨h1, h2⟩ := torn_loop (Ω := Ω) (x := x) (S := S) ts (.val (.int v))
    have un : loopL (turnS Ω (.nm 1) t_check_torn_b0) ((v :: ts).map D.int) [.val x, c1] S = (turnS Ω (.nm 1) t_check_torn_b0 (.int v) [.val x, c1] S).turn fun ρ' S' => loopL (turnS Ω (.nm 1) t_check_torn_b0) (ts.map D.int) ρ' S' := rfl
    have ea : (v :: ts).all okT = (okT v && ts.all okT) := rfl
    have ok0 : okT v = (decide (0 ≤ v) && decide (v ≤ 32)) := rfl
    rw [un, ea, ok0]
    by_cases k0 : 0 ≤ v
    · by_cases k1 : v ≤ 32
      · have e : turnS Ω (.nm 1) t_check_torn_b0 (.int v) [.val x, c1] S = .nx [.val x, .val (.int v)] S := by
          simp only [turnS, t_check_torn_b0, k0, k1, Df.start, ev_cst, ev_var, ev_bor, ev_tup, ev_lst, ev_rep, ev_bin, ev_neg, ev_cmp, ev_chn, ev_and, ev_or, ev_not, ev_ite, ev_ix, ev_sl, ev_call, ev_mk, ev_met, ev_fld, ev_shr, ev_bi, ev_join, ev_rev, ev_mth, ev_dnK, ev_dnT, ev_comp, evs_nil, evs_cons, evO_nil, evO_part, evI_rng1, evI_rng2, evI_rng3, evI_zip, evI_enm, evI_its, evI_it, ex_skip, ex_brk, ex_cnt, ex_seq, ex_asg, ex_own, ex_ret, ex_retO, ex_expr, ex_ite, ex_loop, ex_setI, ex_setF, ex_app, ex_del, kS_ap, kAsg_ap, kOwn_ap, kEx_ap, kIte_ap, kIf_t, kIf_f, kLoop_ap, kPut_s, kSetF_ap, kApp_ap, kDel_ap, Res.bind_ok, Res.of_some, Res.noX_ok, Res.run_ok, Ok_ok, Ok_bind, Ok_noX, Ok_nx, Ok_ret, Ok_brk, Ok_cnt, List.map_cons, List.map_nil, List.length_cons, List.length_nil, List.cons_append, List.nil_append, List.getElem?_cons_zero, List.getElem?_cons_succ, List.set_cons_zero, List.set_cons_succ, List.replicate_succ, List.replicate_zero, TX.bindT, TX.bindL, add_i, sub_i, fdiv_i, mod_i, band_i, add_t, add_s, add_l, lt_i, le_i, gt_i, ge_i, eq_i, ne_i, eq_s, ne_s, is_n, isn_n, is_b, isn_b, is_i, isn_i, is_tt, isn_tt, is_s, isn_s, is_l, isn_l, ix_t, ix_l, ix_c, ix_s, len_t, len_l, len_c, len_s, int_i, int_b, max_i, min_i, ord_s, list_t, list_l, list_c, tuple_t, tuple_l, tuple_c, all_l, tru_n, tru_b, tru_i, tru_s, tru_t, tru_l, at0, at1, at2, at3, at4, at5, at6, mul_r, mul_l, Option.map_some, Option.bind_some, shutR_nil, shutO_nil, ItV.now, wsOk, wipeC, plObj, chks_nil, compC_nil, loopC_nil, and_self, true_and, and_true, List.all_cons, List.all_nil, Bool.and_self, Bool.and_true, Bool.true_and, Bool.not_true, Bool.not_false, if_true, if_false, decide_true, decide_false, sz0, sz1, sz2, sz3, sz4, sz5, sz6, sz7, sz8, sz9, sz10, sz11, sz12, Nat.reduceLT, Nat.reduceAdd, Nat.reduceSub, Int.reduceLT, Int.reduceLE, Int.reduceToNat, ex_raise, ex_raise2, ex_tryc, ex_whl, Out.next_nx, Out.next_ret, Out.next_exc, Out.next_brk, Out.next_cnt, Out.turn_nx, Out.turn_ret, Out.turn_exc, Out.turn_brk, Out.turn_cnt, Res.bind_exc, Res.run_exc]
        rw [e, Out.turn_nx, decide_eq_true k0, decide_eq_true k1, Bool.true_and, Bool.true_and]
        exact ⟨h1, h2⟩
      · have e : turnS Ω (.nm 1) t_check_torn_b0 (.int v) [.val x, c1] S = .exc (Str.ofString "OutOfRange") (some (.str (Str.ofString "torn"))) [.val x, .val (.int v)] S := by
          simp only [turnS, t_check_torn_b0, k0, k1, Df.start, ev_cst, ev_var, ev_bor, ev_tup, ev_lst, ev_rep, ev_bin, ev_neg, ev_cmp, ev_chn, ev_and, ev_or, ev_not, ev_ite, ev_ix, ev_sl, ev_call, ev_mk, ev_met, ev_fld, ev_shr, ev_bi, ev_join, ev_rev, ev_mth, ev_dnK, ev_dnT, ev_comp, evs_nil, evs_cons, evO_nil, evO_part, evI_rng1, evI_rng2, evI_rng3, evI_zip, evI_enm, evI_its, evI_it, ex_skip, ex_brk, ex_cnt, ex_seq, ex_asg, ex_own, ex_ret, ex_retO, ex_expr, ex_ite, ex_loop, ex_setI, ex_setF, ex_app, ex_del, kS_ap, kAsg_ap, kOwn_ap, kEx_ap, kIte_ap, kIf_t, kIf_f, kLoop_ap, kPut_s, kSetF_ap, kApp_ap, kDel_ap, Res.bind_ok, Res.of_some, Res.noX_ok, Res.run_ok, Ok_ok, Ok_bind, Ok_noX, Ok_nx, Ok_ret, Ok_brk, Ok_cnt, List.map_cons, List.map_nil, List.length_cons, List.length_nil, List.cons_append, List.nil_append, List.getElem?_cons_zero, List.getElem?_cons_succ, List.set_cons_zero, List.set_cons_succ, List.replicate_succ, List.replicate_zero, TX.bindT, TX.bindL, add_i, sub_i, fdiv_i, mod_i, band_i, add_t, add_s, add_l, lt_i, le_i, gt_i, ge_i, eq_i, ne_i, eq_s, ne_s, is_n, isn_n, is_b, isn_b, is_i, isn_i, is_tt, isn_tt, is_s, isn_s, is_l, isn_l, ix_t, ix_l, ix_c, ix_s, len_t, len_l, len_c, len_s, int_i, int_b, max_i, min_i, ord_s, list_t, list_l, list_c, tuple_t, tuple_l, tuple_c, all_l, tru_n, tru_b, tru_i, tru_s, tru_t, tru_l, at0, at1, at2, at3, at4, at5, at6, mul_r, mul_l, Option.map_some, Option.bind_some, shutR_nil, shutO_nil, ItV.now, wsOk, wipeC, plObj, chks_nil, compC_nil, loopC_nil, and_self, true_and, and_true, List.all_cons, List.all_nil, Bool.and_self, Bool.and_true, Bool.true_and, Bool.not_true, Bool.not_false, if_true, if_false, decide_true, decide_false, sz0, sz1, sz2, sz3, sz4, sz5, sz6, sz7, sz8, sz9, sz10, sz11, sz12, Nat.reduceLT, Nat.reduceAdd, Nat.reduceSub, Int.reduceLT, Int.reduceLE, Int.reduceToNat, ex_raise, ex_raise2, ex_tryc, ex_whl, Out.next_nx, Out.next_ret, Out.next_exc, Out.next_brk, Out.next_cnt, Out.turn_nx, Out.turn_ret, Out.turn_exc, Out.turn_brk, Out.turn_cnt, Res.bind_exc, Res.run_exc]
        rw [e, Out.turn_exc, decide_eq_true k0, decide_eq_false k1]
        exact ⟨fun h => (nomatch h), fun _ => ⟨_, rfl⟩⟩
    · have e : turnS Ω (.nm 1) t_check_torn_b0 (.int v) [.val x, c1] S = .exc (Str.ofString "OutOfRange") (some (.str (Str.ofString "torn"))) [.val x, .val (.int v)] S := by
        simp only [turnS, t_check_torn_b0, k0, Df.start, ev_cst, ev_var, ev_bor, ev_tup, ev_lst, ev_rep, ev_bin, ev_neg, ev_cmp, ev_chn, ev_and, ev_or, ev_not, ev_ite, ev_ix, ev_sl, ev_call, ev_mk, ev_met, ev_fld, ev_shr, ev_bi, ev_join, ev_rev, ev_mth, ev_dnK, ev_dnT, ev_comp, evs_nil, evs_cons, evO_nil, evO_part, evI_rng1, evI_rng2, evI_rng3, evI_zip, evI_enm, evI_its, evI_it, ex_skip, ex_brk, ex_cnt, ex_seq, ex_asg, ex_own, ex_ret, ex_retO, ex_expr, ex_ite, ex_loop, ex_setI, ex_setF, ex_app, ex_del, kS_ap, kAsg_ap, kOwn_ap, kEx_ap, kIte_ap, kIf_t, kIf_f, kLoop_ap, kPut_s, kSetF_ap, kApp_ap, kDel_ap, Res.bind_ok, Res.of_some, Res.noX_ok, Res.run_ok, Ok_ok, Ok_bind, Ok_noX, Ok_nx, Ok_ret, Ok_brk, Ok_cnt, List.map_cons, List.map_nil, List.length_cons, List.length_nil, List.cons_append, List.nil_append, List.getElem?_cons_zero, List.getElem?_cons_succ, List.set_cons_zero, List.set_cons_succ, List.replicate_succ, List.replicate_zero, TX.bindT, TX.bindL, add_i, sub_i, fdiv_i, mod_i, band_i, add_t, add_s, add_l, lt_i, le_i, gt_i, ge_i, eq_i, ne_i, eq_s, ne_s, is_n, isn_n, is_b, isn_b, is_i, isn_i, is_tt, isn_tt, is_s, isn_s, is_l, isn_l, ix_t, ix_l, ix_c, ix_s, len_t, len_l, len_c, len_s, int_i, int_b, max_i, min_i, ord_s, list_t, list_l, list_c, tuple_t, tuple_l, tuple_c, all_l, tru_n, tru_b, tru_i, tru_s, tru_t, tru_l, at0, at1, at2, at3, at4, at5, at6, mul_r, mul_l, Option.map_some, Option.bind_some, shutR_nil, shutO_nil, ItV.now, wsOk, wipeC, plObj, chks_nil, compC_nil, loopC_nil, and_self, true_and, and_true, List.all_cons, List.all_nil, Bool.and_self, Bool.and_true, Bool.true_and, Bool.not_true, Bool.not_false, if_true, if_false, decide_true, decide_false, sz0, sz1, sz2, sz3, sz4, sz5, sz6, sz7, sz8, sz9, sz10, sz11, sz12, Nat.reduceLT, Nat.reduceAdd, Nat.reduceSub, Int.reduceLT, Int.reduceLE, Int.reduceToNat, ex_raise, ex_raise2, ex_tryc, ex_whl, Out.next_nx, Out.next_ret, Out.next_exc, Out.next_brk, Out.next_cnt, Out.turn_nx, Out.turn_ret, Out.turn_exc, Out.turn_brk, Out.turn_cnt, Res.bind_exc, Res.run_exc]
      rw [e, Out.turn_exc, decide_eq_false k0]
      exact ⟨fun h => (nomatch h), fun _ => ⟨_, rfl⟩⟩
theorem check_torn_ok (n : Nat) (ts : List Int) (S : Sto) (h : ts.all okT = true) : runN T (n + 1) (.fn "_check_torn") [.lst (ts.map D.int)] S = .ok .non S := by
  obtain ⟨c, e⟩ := (torn_loop (Ω := runN T n) (x := .lst (ts.map D.int)) (S := S) ts .und).1 h
  refine (fn_eq f_check_torn rfl (o := .nx [.val (.lst (ts.map D.int)), c] S) ?_).trans rfl
  simp only [t_check_torn, e, Df.start, ev_cst, ev_var, ev_bor, ev_tup, ev_lst, ev_rep, ev_bin, ev_neg, ev_cmp, ev_chn, ev_and, ev_or, ev_not, ev_ite, ev_ix, ev_sl, ev_call, ev_mk, ev_met, ev_fld, ev_shr, ev_bi, ev_join, ev_rev, ev_mth, ev_dnK, ev_dnT, ev_comp, evs_nil, evs_cons, evO_nil, evO_part, evI_rng1, evI_rng2, evI_rng3, evI_zip, evI_enm, evI_its, evI_it, ex_skip, ex_brk, ex_cnt, ex_seq, ex_asg, ex_own, ex_ret, ex_retO, ex_expr, ex_ite, ex_loop, ex_setI, ex_setF, ex_app, ex_del, kS_ap, kAsg_ap, kOwn_ap, kEx_ap, kIte_ap, kIf_t, kIf_f, kLoop_ap, kPut_s, kSetF_ap, kApp_ap, kDel_ap, Res.bind_ok, Res.of_some, Res.noX_ok, Res.run_ok, Ok_ok, Ok_bind, Ok_noX, Ok_nx, Ok_ret, Ok_brk, Ok_cnt, List.map_cons, List.map_nil, List.length_cons, List.length_nil, List.cons_append, List.nil_append, List.getElem?_cons_zero, List.getElem?_cons_succ, List.set_cons_zero, List.set_cons_succ, List.replicate_succ, List.replicate_zero, TX.bindT, TX.bindL, add_i, sub_i, fdiv_i, mod_i, band_i, add_t, add_s, add_l, lt_i, le_i, gt_i, ge_i, eq_i, ne_i, eq_s, ne_s, is_n, isn_n, is_b, isn_b, is_i, isn_i, is_tt, isn_tt, is_s, isn_s, is_l, isn_l, ix_t, ix_l, ix_c, ix_s, len_t, len_l, len_c, len_s, int_i, int_b, max_i, min_i, ord_s, list_t, list_l, list_c, tuple_t, tuple_l, tuple_c, all_l, tru_n, tru_b, tru_i, tru_s, tru_t, tru_l, at0, at1, at2, at3, at4, at5, at6, mul_r, mul_l, Option.map_some, Option.bind_some, shutR_nil, shutO_nil, ItV.now, wsOk, wipeC, plObj, chks_nil, compC_nil, loopC_nil, and_self, true_and, and_true, List.all_cons, List.all_nil, Bool.and_self, Bool.and_true, Bool.true_and, Bool.not_true, Bool.not_false, if_true, if_false, decide_true, decide_false, sz0, sz1, sz2, sz3, sz4, sz5, sz6, sz7, sz8, sz9, sz10, sz11, sz12, Nat.reduceLT, Nat.reduceAdd, Nat.reduceSub, Int.reduceLT, Int.reduceLE, Int.reduceToNat, ex_raise, ex_raise2, ex_tryc, ex_whl, Out.next_nx, Out.next_ret, Out.next_exc, Out.next_brk, Out.next_cnt, Out.turn_nx, Out.turn_ret, Out.turn_exc, Out.turn_brk, Out.turn_cnt, Res.bind_exc, Res.run_exc]
theorem check_torn_bad (n : Nat) (ts : List Int) (S : Sto) (h : ts.all okT = false) : runN T (n + 1) (.fn "_check_torn") [.lst (ts.map D.int)] S = .exc (Str.ofString "OutOfRange") (some (.str (Str.ofString "torn"))) S := by
  obtain ⟨ρ, e⟩ := (torn_loop (Ω := runN T n) (x := .lst (ts.map D.int)) (S := S) ts .und).2 h
  refine (fn_eq f_check_torn rfl (o := .exc _ _ ρ S) ?_).trans rfl
  simp only [t_check_torn, e, Df.start, ev_cst, ev_var, ev_bor, ev_tup, ev_lst, ev_rep, ev_bin, ev_neg, ev_cmp, ev_chn, ev_and, ev_or, ev_not, ev_ite, ev_ix, ev_sl, ev_call, ev_mk, ev_met, ev_fld, ev_shr, ev_bi, ev_join, ev_rev, ev_mth, ev_dnK, ev_dnT, ev_comp, evs_nil, evs_cons, evO_nil, evO_part, evI_rng1, evI_rng2, evI_rng3, evI_zip, evI_enm, evI_its, evI_it, ex_skip, ex_brk, ex_cnt, ex_seq, ex_asg, ex_own, ex_ret, ex_retO, ex_expr, ex_ite, ex_loop, ex_setI, ex_setF, ex_app, ex_del, kS_ap, kAsg_ap, kOwn_ap, kEx_ap, kIte_ap, kIf_t, kIf_f, kLoop_ap, kPut_s, kSetF_ap, kApp_ap, kDel_ap, Res.bind_ok, Res.of_some, Res.noX_ok, Res.run_ok, Ok_ok, Ok_bind, Ok_noX, Ok_nx, Ok_ret, Ok_brk, Ok_cnt, List.map_cons, List.map_nil, List.length_cons, List.length_nil, List.cons_append, List.nil_append, List.getElem?_cons_zero, List.getElem?_cons_succ, List.set_cons_zero, List.set_cons_succ, List.replicate_succ, List.replicate_zero, TX.bindT, TX.bindL, add_i, sub_i, fdiv_i, mod_i, band_i, add_t, add_s, add_l, lt_i, le_i, gt_i, ge_i, eq_i, ne_i, eq_s, ne_s, is_n, isn_n, is_b, isn_b, is_i, isn_i, is_tt, isn_tt, is_s, isn_s, is_l, isn_l, ix_t, ix_l, ix_c, ix_s, len_t, len_l, len_c, len_s, int_i, int_b, max_i, min_i, ord_s, list_t, list_l, list_c, tuple_t, tuple_l, tuple_c, all_l, tru_n, tru_b, tru_i, tru_s, tru_t, tru_l, at0, at1, at2, at3, at4, at5, at6, mul_r, mul_l, Option.map_some, Option.bind_some, shutR_nil, shutO_nil, ItV.now, wsOk, wipeC, plObj, chks_nil, compC_nil, loopC_nil, and_self, true_and, and_true, List.all_cons, List.all_nil, Bool.and_self, Bool.and_true, Bool.true_and, Bool.not_true, Bool.not_false, if_true, if_false, decide_true, decide_false, sz0, sz1, sz2, sz3, sz4, sz5, sz6, sz7, sz8, sz9, sz10, sz11, sz12, Nat.reduceLT, Nat.reduceAdd, Nat.reduceSub, Int.reduceLT, Int.reduceLE, Int.reduceToNat, ex_raise, ex_raise2, ex_tryc, ex_whl, Out.next_nx, Out.next_ret, Out.next_exc, Out.next_brk, Out.next_cnt, Out.turn_nx, Out.turn_ret, Out.turn_exc, Out.turn_brk, Out.turn_cnt, Res.bind_exc, Res.run_exc]
/-- of a shared list -/
theorem check_torn_loc (n : Nat) {l : Nat} (ts : List Int) (S : Sto) (hl : S[l]? = some (.lst (ts.map D.int))) (h : ts.all okT = true) : runN T (n + 1) (.fn "_check_torn") [.loc l] S = .ok .non S := by
  refine Res.eq_of (call_ok f_check_torn rfl ?_)
  simp only [t_check_torn, o_seq]
  refine loop_is (.inr ⟨l, rfl, hl⟩) rfl (fun i ρ S' => ∃ c1 : C, ρ = [.val (.loc l), c1] ∧ S' = S) (fun j ρ S' ⟨_, _, e⟩ => e) ⟨.und, rfl, rfl⟩ ?_ ?_
  · rintro j x ρ S' hx ⟨c1, rfl, rfl⟩
    rw [List.getElem?_map] at hx
    cases hv : ts[j]? with
    | none =>
      rw [hv] at hx
      cases hx
    | some v =>
      rw [hv] at hx
      cases hx
      have hk : okT v = true := List.all_eq_true.mp h v (List.mem_of_getElem? hv)
      unfold okT at hk
      rw [Bool.and_eq_true, decide_eq_true_eq, decide_eq_true_eq] at hk
      simp only [turnS, t_check_torn_b0, hk.1, hk.2, Df.start, ev_cst, ev_var, ev_bor, ev_tup, ev_lst, ev_rep, ev_bin, ev_neg, ev_cmp, ev_chn, ev_and, ev_or, ev_not, ev_ite, ev_ix, ev_sl, ev_call, ev_mk, ev_met, ev_fld, ev_shr, ev_bi, ev_join, ev_rev, ev_mth, ev_dnK, ev_dnT, ev_comp, evs_nil, evs_cons, evO_nil, evO_part, evI_rng1, evI_rng2, evI_rng3, evI_zip, evI_enm, evI_its, evI_it, o_skip, o_brk, o_cnt, o_seq, o_asg, o_own, o_ret, o_retO, o_expr, o_ite, o_loop, o_setI, o_setF, o_app, o_del, kS_ap, kAsg_ap, kOwn_ap, kEx_ap, kIte_ap, kIf_t, kIf_f, kLoop_ap, kPut_s, kSetF_ap, kApp_ap, kDel_ap, Res.bind_ok, Res.of_some, Res.noX_ok, Res.run_ok, Ok_ok, Ok_bind, Ok_noX, Ok_nx, Ok_ret, Ok_brk, Ok_cnt, List.map_cons, List.map_nil, List.length_cons, List.length_nil, List.cons_append, List.nil_append, List.getElem?_cons_zero, List.getElem?_cons_succ, List.set_cons_zero, List.set_cons_succ, List.replicate_succ, List.replicate_zero, TX.bindT, TX.bindL, add_i, sub_i, fdiv_i, mod_i, band_i, add_t, add_s, add_l, lt_i, le_i, gt_i, ge_i, eq_i, ne_i, eq_s, ne_s, is_n, isn_n, is_b, isn_b, is_i, isn_i, is_tt, isn_tt, is_s, isn_s, is_l, isn_l, ix_t, ix_l, ix_c, ix_s, len_t, len_l, len_c, len_s, int_i, int_b, max_i, min_i, ord_s, list_t, list_l, list_c, tuple_t, tuple_l, tuple_c, all_l, tru_n, tru_b, tru_i, tru_s, tru_t, tru_l, at0, at1, at2, at3, at4, at5, at6, mul_r, mul_l, Option.map_some, Option.bind_some, shutR_nil, shutO_nil, ItV.now, wsOk, wipeC, plObj, chks_nil, compC_nil, loopC_nil, and_self, true_and, and_true, List.all_cons, List.all_nil, Bool.and_self, Bool.and_true, Bool.true_and, Bool.not_true, Bool.not_false, if_true, if_false, decide_true, decide_false, sz0, sz1, sz2, sz3, sz4, sz5, sz6, sz7, sz8, sz9, sz10, sz11, sz12, Nat.reduceLT, Nat.reduceAdd, Nat.reduceSub, Int.reduceLT, Int.reduceLE, Int.reduceToNat]
      exact ⟨_, rfl⟩
  · rintro ρ S' ⟨c1, rfl, rfl⟩
    simp only [Df.start, ev_cst, ev_var, ev_bor, ev_tup, ev_lst, ev_rep, ev_bin, ev_neg, ev_cmp, ev_chn, ev_and, ev_or, ev_not, ev_ite, ev_ix, ev_sl, ev_call, ev_mk, ev_met, ev_fld, ev_shr, ev_bi, ev_join, ev_rev, ev_mth, ev_dnK, ev_dnT, ev_comp, evs_nil, evs_cons, evO_nil, evO_part, evI_rng1, evI_rng2, evI_rng3, evI_zip, evI_enm, evI_its, evI_it, o_skip, o_brk, o_cnt, o_seq, o_asg, o_own, o_ret, o_retO, o_expr, o_ite, o_loop, o_setI, o_setF, o_app, o_del, kS_ap, kAsg_ap, kOwn_ap, kEx_ap, kIte_ap, kIf_t, kIf_f, kLoop_ap, kPut_s, kSetF_ap, kApp_ap, kDel_ap, Res.bind_ok, Res.of_some, Res.noX_ok, Res.run_ok, Ok_ok, Ok_bind, Ok_noX, Ok_nx, Ok_ret, Ok_brk, Ok_cnt, List.map_cons, List.map_nil, List.length_cons, List.length_nil, List.cons_append, List.nil_append, List.getElem?_cons_zero, List.getElem?_cons_succ, List.set_cons_zero, List.set_cons_succ, List.replicate_succ, List.replicate_zero, TX.bindT, TX.bindL, add_i, sub_i, fdiv_i, mod_i, band_i, add_t, add_s, add_l, lt_i, le_i, gt_i, ge_i, eq_i, ne_i, eq_s, ne_s, is_n, isn_n, is_b, isn_b, is_i, isn_i, is_tt, isn_tt, is_s, isn_s, is_l, isn_l, ix_t, ix_l, ix_c, ix_s, len_t, len_l, len_c, len_s, int_i, int_b, max_i, min_i, ord_s, list_t, list_l, list_c, tuple_t, tuple_l, tuple_c, all_l, tru_n, tru_b, tru_i, tru_s, tru_t, tru_l, at0, at1, at2, at3, at4, at5, at6, mul_r, mul_l, Option.map_some, Option.bind_some, shutR_nil, shutO_nil, ItV.now, wsOk, wipeC, plObj, chks_nil, compC_nil, loopC_nil, and_self, true_and, and_true, List.all_cons, List.all_nil, Bool.and_self, Bool.and_true, Bool.true_and, Bool.not_true, Bool.not_false, if_true, if_false, decide_true, decide_false, sz0, sz1, sz2, sz3, sz4, sz5, sz6, sz7, sz8, sz9, sz10, sz11, sz12, Nat.reduceLT, Nat.reduceAdd, Nat.reduceSub, Int.reduceLT, Int.reduceLE, Int.reduceToNat]
section
variable {S : Sto} {p t : Nat} {k m : Int} {bs : List Bk}
theorem lenB (h : S[2]? = some (.lst (bs.map bD))) : biOp .len S [.loc 2] = some (.int bs.length) := by
  rw [len_loc h, List.length_map]
theorem check_ok (n : Nat) (h1 : S[1]? = some (Dsk p t k m)) (h2 : S[2]? = some (.lst (bs.map bD))) {a : Int} (h : 0 ≤ a) (h' : a < bs.length) : runN T (n + 1) (.me "Disk" "_check_at") [.loc 1, .int a] S = .ok .non S := by
  refine (me_eq fDisk_check_at rfl (o := .nx [.val (.loc 1), .val (.int a)] S) ?_).trans rfl
  simp only [tDisk_check_at, g_blocks h1, lenB h2, h, h', Df.start, ev_cst, ev_var, ev_bor, ev_tup, ev_lst, ev_rep, ev_bin, ev_neg, ev_cmp, ev_chn, ev_and, ev_or, ev_not, ev_ite, ev_ix, ev_sl, ev_call, ev_mk, ev_met, ev_fld, ev_shr, ev_bi, ev_join, ev_rev, ev_mth, ev_dnK, ev_dnT, ev_comp, evs_nil, evs_cons, evO_nil, evO_part, evI_rng1, evI_rng2, evI_rng3, evI_zip, evI_enm, evI_its, evI_it, ex_skip, ex_brk, ex_cnt, ex_seq, ex_asg, ex_own, ex_ret, ex_retO, ex_expr, ex_ite, ex_loop, ex_setI, ex_setF, ex_app, ex_del, kS_ap, kAsg_ap, kOwn_ap, kEx_ap, kIte_ap, kIf_t, kIf_f, kLoop_ap, kPut_s, kSetF_ap, kApp_ap, kDel_ap, Res.bind_ok, Res.of_some, Res.noX_ok, Res.run_ok, Ok_ok, Ok_bind, Ok_noX, Ok_nx, Ok_ret, Ok_brk, Ok_cnt, List.map_cons, List.map_nil, List.length_cons, List.length_nil, List.cons_append, List.nil_append, List.getElem?_cons_zero, List.getElem?_cons_succ, List.set_cons_zero, List.set_cons_succ, List.replicate_succ, List.replicate_zero, TX.bindT, TX.bindL, add_i, sub_i, fdiv_i, mod_i, band_i, add_t, add_s, add_l, lt_i, le_i, gt_i, ge_i, eq_i, ne_i, eq_s, ne_s, is_n, isn_n, is_b, isn_b, is_i, isn_i, is_tt, isn_tt, is_s, isn_s, is_l, isn_l, ix_t, ix_l, ix_c, ix_s, len_t, len_l, len_c, len_s, int_i, int_b, max_i, min_i, ord_s, list_t, list_l, list_c, tuple_t, tuple_l, tuple_c, all_l, tru_n, tru_b, tru_i, tru_s, tru_t, tru_l, at0, at1, at2, at3, at4, at5, at6, mul_r, mul_l, Option.map_some, Option.bind_some, shutR_nil, shutO_nil, ItV.now, wsOk, wipeC, plObj, chks_nil, compC_nil, loopC_nil, and_self, true_and, and_true, List.all_cons, List.all_nil, Bool.and_self, Bool.and_true, Bool.true_and, Bool.not_true, Bool.not_false, if_true, if_false, decide_true, decide_false, sz0, sz1, sz2, sz3, sz4, sz5, sz6, sz7, sz8, sz9, sz10, sz11, sz12, Nat.reduceLT, Nat.reduceAdd, Nat.reduceSub, Int.reduceLT, Int.reduceLE, Int.reduceToNat, ex_raise, ex_raise2, ex_tryc, ex_whl, Out.next_nx, Out.next_ret, Out.next_exc, Out.next_brk, Out.next_cnt, Out.turn_nx, Out.turn_ret, Out.turn_exc, Out.turn_brk, Out.turn_cnt, Res.bind_exc, Res.run_exc]
theorem check_bad (n : Nat) (h1 : S[1]? = some (Dsk p t k m)) (h2 : S[2]? = some (.lst (bs.map bD))) {a : Int} (h : ¬ (0 ≤ a ∧ a < bs.length)) : runN T (n + 1) (.me "Disk" "_check_at") [.loc 1, .int a] S = .exc (Str.ofString "OutOfRange") (some (.str (Str.ofString "at"))) S := by
  refine (me_eq fDisk_check_at rfl (o := .exc _ _ [.val (.loc 1), .val (.int a)] S) ?_).trans rfl
  by_cases c : 0 ≤ a
  · have c' : ¬ a < bs.length := fun z => h ⟨c, z⟩
    simp only [tDisk_check_at, g_blocks h1, lenB h2, c, c', Df.start, ev_cst, ev_var, ev_bor, ev_tup, ev_lst, ev_rep, ev_bin, ev_neg, ev_cmp, ev_chn, ev_and, ev_or, ev_not, ev_ite, ev_ix, ev_sl, ev_call, ev_mk, ev_met, ev_fld, ev_shr, ev_bi, ev_join, ev_rev, ev_mth, ev_dnK, ev_dnT, ev_comp, evs_nil, evs_cons, evO_nil, evO_part, evI_rng1, evI_rng2, evI_rng3, evI_zip, evI_enm, evI_its, evI_it, ex_skip, ex_brk, ex_cnt, ex_seq, ex_asg, ex_own, ex_ret, ex_retO, ex_expr, ex_ite, ex_loop, ex_setI, ex_setF, ex_app, ex_del, kS_ap, kAsg_ap, kOwn_ap, kEx_ap, kIte_ap, kIf_t, kIf_f, kLoop_ap, kPut_s, kSetF_ap, kApp_ap, kDel_ap, Res.bind_ok, Res.of_some, Res.noX_ok, Res.run_ok, Ok_ok, Ok_bind, Ok_noX, Ok_nx, Ok_ret, Ok_brk, Ok_cnt, List.map_cons, List.map_nil, List.length_cons, List.length_nil, List.cons_append, List.nil_append, List.getElem?_cons_zero, List.getElem?_cons_succ, List.set_cons_zero, List.set_cons_succ, List.replicate_succ, List.replicate_zero, TX.bindT, TX.bindL, add_i, sub_i, fdiv_i, mod_i, band_i, add_t, add_s, add_l, lt_i, le_i, gt_i, ge_i, eq_i, ne_i, eq_s, ne_s, is_n, isn_n, is_b, isn_b, is_i, isn_i, is_tt, isn_tt, is_s, isn_s, is_l, isn_l, ix_t, ix_l, ix_c, ix_s, len_t, len_l, len_c, len_s, int_i, int_b, max_i, min_i, ord_s, list_t, list_l, list_c, tuple_t, tuple_l, tuple_c, all_l, tru_n, tru_b, tru_i, tru_s, tru_t, tru_l, at0, at1, at2, at3, at4, at5, at6, mul_r, mul_l, Option.map_some, Option.bind_some, shutR_nil, shutO_nil, ItV.now, wsOk, wipeC, plObj, chks_nil, compC_nil, loopC_nil, and_self, true_and, and_true, List.all_cons, List.all_nil, Bool.and_self, Bool.and_true, Bool.true_and, Bool.not_true, Bool.not_false, if_true, if_false, decide_true, decide_false, sz0, sz1, sz2, sz3, sz4, sz5, sz6, sz7, sz8, sz9, sz10, sz11, sz12, Nat.reduceLT, Nat.reduceAdd, Nat.reduceSub, Int.reduceLT, Int.reduceLE, Int.reduceToNat, ex_raise, ex_raise2, ex_tryc, ex_whl, Out.next_nx, Out.next_ret, Out.next_exc, Out.next_brk, Out.next_cnt, Out.turn_nx, Out.turn_ret, Out.turn_exc, Out.turn_brk, Out.turn_cnt, Res.bind_exc, Res.run_exc]
  · simp only [tDisk_check_at, g_blocks h1, lenB h2, c, Df.start, ev_cst, ev_var, ev_bor, ev_tup, ev_lst, ev_rep, ev_bin, ev_neg, ev_cmp, ev_chn, ev_and, ev_or, ev_not, ev_ite, ev_ix, ev_sl, ev_call, ev_mk, ev_met, ev_fld, ev_shr, ev_bi, ev_join, ev_rev, ev_mth, ev_dnK, ev_dnT, ev_comp, evs_nil, evs_cons, evO_nil, evO_part, evI_rng1, evI_rng2, evI_rng3, evI_zip, evI_enm, evI_its, evI_it, ex_skip, ex_brk, ex_cnt, ex_seq, ex_asg, ex_own, ex_ret, ex_retO, ex_expr, ex_ite, ex_loop, ex_setI, ex_setF, ex_app, ex_del, kS_ap, kAsg_ap, kOwn_ap, kEx_ap, kIte_ap, kIf_t, kIf_f, kLoop_ap, kPut_s, kSetF_ap, kApp_ap, kDel_ap, Res.bind_ok, Res.of_some, Res.noX_ok, Res.run_ok, Ok_ok, Ok_bind, Ok_noX, Ok_nx, Ok_ret, Ok_brk, Ok_cnt, List.map_cons, List.map_nil, List.length_cons, List.length_nil, List.cons_append, List.nil_append, List.getElem?_cons_zero, List.getElem?_cons_succ, List.set_cons_zero, List.set_cons_succ, List.replicate_succ, List.replicate_zero, TX.bindT, TX.bindL, add_i, sub_i, fdiv_i, mod_i, band_i, add_t, add_s, add_l, lt_i, le_i, gt_i, ge_i, eq_i, ne_i, eq_s, ne_s, is_n, isn_n, is_b, isn_b, is_i, isn_i, is_tt, isn_tt, is_s, isn_s, is_l, isn_l, ix_t, ix_l, ix_c, ix_s, len_t, len_l, len_c, len_s, int_i, int_b, max_i, min_i, ord_s, list_t, list_l, list_c, tuple_t, tuple_l, tuple_c, all_l, tru_n, tru_b, tru_i, tru_s, tru_t, tru_l, at0, at1, at2, at3, at4, at5, at6, mul_r, mul_l, Option.map_some, Option.bind_some, shutR_nil, shutO_nil, ItV.now, wsOk, wipeC, plObj, chks_nil, compC_nil, loopC_nil, and_self, true_and, and_true, List.all_cons, List.all_nil, Bool.and_self, Bool.and_true, Bool.true_and, Bool.not_true, Bool.not_false, if_true, if_false, decide_true, decide_false, sz0, sz1, sz2, sz3, sz4, sz5, sz6, sz7, sz8, sz9, sz10, sz11, sz12, Nat.reduceLT, Nat.reduceAdd, Nat.reduceSub, Int.reduceLT, Int.reduceLE, Int.reduceToNat, ex_raise, ex_raise2, ex_tryc, ex_whl, Out.next_nx, Out.next_ret, Out.next_exc, Out.next_brk, Out.next_cnt, Out.turn_nx, Out.turn_ret, Out.turn_exc, Out.turn_brk, Out.turn_cnt, Res.bind_exc, Res.run_exc]
/-- what is left behind one more -/
def nxt (m : Int) : Int := if 0 < m then m - 1 else m
theorem spend_eq (n : Nat) (h1 : S[1]? = some (Dsk p t k m)) (h0 : m ≠ 0) : runN T (n + 1) (.me "Disk" "_spend") [.loc 1] S = .ok .non (S.set 1 (Dsk p t k (nxt m))) := by
  by_cases c : m < 0
  · have e : lfD m = .non := if_pos c
    have e2 : nxt m = m := if_neg (by omega)
    have e3 : S.set 1 (Dsk p t k (nxt m)) = S := by
      rw [e2]
      exact set_same h1
    rw [e3]
    refine (me_eq fDisk_spend rfl (o := .ret .non S) ?_).trans rfl
    simp only [tDisk_spend, g_left h1, e, Df.start, ev_cst, ev_var, ev_bor, ev_tup, ev_lst, ev_rep, ev_bin, ev_neg, ev_cmp, ev_chn, ev_and, ev_or, ev_not, ev_ite, ev_ix, ev_sl, ev_call, ev_mk, ev_met, ev_fld, ev_shr, ev_bi, ev_join, ev_rev, ev_mth, ev_dnK, ev_dnT, ev_comp, evs_nil, evs_cons, evO_nil, evO_part, evI_rng1, evI_rng2, evI_rng3, evI_zip, evI_enm, evI_its, evI_it, ex_skip, ex_brk, ex_cnt, ex_seq, ex_asg, ex_own, ex_ret, ex_retO, ex_expr, ex_ite, ex_loop, ex_setI, ex_setF, ex_app, ex_del, kS_ap, kAsg_ap, kOwn_ap, kEx_ap, kIte_ap, kIf_t, kIf_f, kLoop_ap, kPut_s, kSetF_ap, kApp_ap, kDel_ap, Res.bind_ok, Res.of_some, Res.noX_ok, Res.run_ok, Ok_ok, Ok_bind, Ok_noX, Ok_nx, Ok_ret, Ok_brk, Ok_cnt, List.map_cons, List.map_nil, List.length_cons, List.length_nil, List.cons_append, List.nil_append, List.getElem?_cons_zero, List.getElem?_cons_succ, List.set_cons_zero, List.set_cons_succ, List.replicate_succ, List.replicate_zero, TX.bindT, TX.bindL, add_i, sub_i, fdiv_i, mod_i, band_i, add_t, add_s, add_l, lt_i, le_i, gt_i, ge_i, eq_i, ne_i, eq_s, ne_s, is_n, isn_n, is_b, isn_b, is_i, isn_i, is_tt, isn_tt, is_s, isn_s, is_l, isn_l, ix_t, ix_l, ix_c, ix_s, len_t, len_l, len_c, len_s, int_i, int_b, max_i, min_i, ord_s, list_t, list_l, list_c, tuple_t, tuple_l, tuple_c, all_l, tru_n, tru_b, tru_i, tru_s, tru_t, tru_l, at0, at1, at2, at3, at4, at5, at6, mul_r, mul_l, Option.map_some, Option.bind_some, shutR_nil, shutO_nil, ItV.now, wsOk, wipeC, plObj, chks_nil, compC_nil, loopC_nil, and_self, true_and, and_true, List.all_cons, List.all_nil, Bool.and_self, Bool.and_true, Bool.true_and, Bool.not_true, Bool.not_false, if_true, if_false, decide_true, decide_false, sz0, sz1, sz2, sz3, sz4, sz5, sz6, sz7, sz8, sz9, sz10, sz11, sz12, Nat.reduceLT, Nat.reduceAdd, Nat.reduceSub, Int.reduceLT, Int.reduceLE, Int.reduceToNat, ex_raise, ex_raise2, ex_tryc, ex_whl, Out.next_nx, Out.next_ret, Out.next_exc, Out.next_brk, Out.next_cnt, Out.turn_nx, Out.turn_ret, Out.turn_exc, Out.turn_brk, Out.turn_cnt, Res.bind_exc, Res.run_exc]
  · have e : lfD m = .int m := if_neg c
    have e2 : nxt m = m - 1 := if_pos (by omega)
    have p1 := p_left h1 (m - 1) (.int (m - 1)) (if_neg (by omega))
    rw [e2]
    refine (me_eq fDisk_spend rfl (o := .nx [.val (.loc 1)] (S.set 1 (Dsk p t k (m - 1)))) ?_).trans rfl
    simp only [tDisk_spend, g_left h1, e, h0, p1, Df.start, ev_cst, ev_var, ev_bor, ev_tup, ev_lst, ev_rep, ev_bin, ev_neg, ev_cmp, ev_chn, ev_and, ev_or, ev_not, ev_ite, ev_ix, ev_sl, ev_call, ev_mk, ev_met, ev_fld, ev_shr, ev_bi, ev_join, ev_rev, ev_mth, ev_dnK, ev_dnT, ev_comp, evs_nil, evs_cons, evO_nil, evO_part, evI_rng1, evI_rng2, evI_rng3, evI_zip, evI_enm, evI_its, evI_it, ex_skip, ex_brk, ex_cnt, ex_seq, ex_asg, ex_own, ex_ret, ex_retO, ex_expr, ex_ite, ex_loop, ex_setI, ex_setF, ex_app, ex_del, kS_ap, kAsg_ap, kOwn_ap, kEx_ap, kIte_ap, kIf_t, kIf_f, kLoop_ap, kPut_s, kSetF_ap, kApp_ap, kDel_ap, Res.bind_ok, Res.of_some, Res.noX_ok, Res.run_ok, Ok_ok, Ok_bind, Ok_noX, Ok_nx, Ok_ret, Ok_brk, Ok_cnt, List.map_cons, List.map_nil, List.length_cons, List.length_nil, List.cons_append, List.nil_append, List.getElem?_cons_zero, List.getElem?_cons_succ, List.set_cons_zero, List.set_cons_succ, List.replicate_succ, List.replicate_zero, TX.bindT, TX.bindL, add_i, sub_i, fdiv_i, mod_i, band_i, add_t, add_s, add_l, lt_i, le_i, gt_i, ge_i, eq_i, ne_i, eq_s, ne_s, is_n, isn_n, is_b, isn_b, is_i, isn_i, is_tt, isn_tt, is_s, isn_s, is_l, isn_l, ix_t, ix_l, ix_c, ix_s, len_t, len_l, len_c, len_s, int_i, int_b, max_i, min_i, ord_s, list_t, list_l, list_c, tuple_t, tuple_l, tuple_c, all_l, tru_n, tru_b, tru_i, tru_s, tru_t, tru_l, at0, at1, at2, at3, at4, at5, at6, mul_r, mul_l, Option.map_some, Option.bind_some, shutR_nil, shutO_nil, ItV.now, wsOk, wipeC, plObj, chks_nil, compC_nil, loopC_nil, and_self, true_and, and_true, List.all_cons, List.all_nil, Bool.and_self, Bool.and_true, Bool.true_and, Bool.not_true, Bool.not_false, if_true, if_false, decide_true, decide_false, sz0, sz1, sz2, sz3, sz4, sz5, sz6, sz7, sz8, sz9, sz10, sz11, sz12, Nat.reduceLT, Nat.reduceAdd, Nat.reduceSub, Int.reduceLT, Int.reduceLE, Int.reduceToNat, ex_raise, ex_raise2, ex_tryc, ex_whl, Out.next_nx, Out.next_ret, Out.next_exc, Out.next_brk, Out.next_cnt, Out.turn_nx, Out.turn_ret, Out.turn_exc, Out.turn_brk, Out.turn_cnt, Res.bind_exc, Res.run_exc]
theorem pc_eq (n : Nat) (h1 : S[1]? = some (Dsk p t k m)) {pd : List (Nat × Bk)} (h2 : S[p]? = some (.lst (pd.map eD))) : runN T (n + 1) (.me "Disk" "pending_count") [.loc 1] S = .ok (.int pd.length) S := by
  refine (me_eq fDisk_pending_count rfl (o := .ret _ S) ?_).trans rfl
  have e := len_loc h2
  rw [List.length_map] at e
  simp only [tDisk_pending_count, g_pending h1, e, Df.start, ev_cst, ev_var, ev_bor, ev_tup, ev_lst, ev_rep, ev_bin, ev_neg, ev_cmp, ev_chn, ev_and, ev_or, ev_not, ev_ite, ev_ix, ev_sl, ev_call, ev_mk, ev_met, ev_fld, ev_shr, ev_bi, ev_join, ev_rev, ev_mth, ev_dnK, ev_dnT, ev_comp, evs_nil, evs_cons, evO_nil, evO_part, evI_rng1, evI_rng2, evI_rng3, evI_zip, evI_enm, evI_its, evI_it, ex_skip, ex_brk, ex_cnt, ex_seq, ex_asg, ex_own, ex_ret, ex_retO, ex_expr, ex_ite, ex_loop, ex_setI, ex_setF, ex_app, ex_del, kS_ap, kAsg_ap, kOwn_ap, kEx_ap, kIte_ap, kIf_t, kIf_f, kLoop_ap, kPut_s, kSetF_ap, kApp_ap, kDel_ap, Res.bind_ok, Res.of_some, Res.noX_ok, Res.run_ok, Ok_ok, Ok_bind, Ok_noX, Ok_nx, Ok_ret, Ok_brk, Ok_cnt, List.map_cons, List.map_nil, List.length_cons, List.length_nil, List.cons_append, List.nil_append, List.getElem?_cons_zero, List.getElem?_cons_succ, List.set_cons_zero, List.set_cons_succ, List.replicate_succ, List.replicate_zero, TX.bindT, TX.bindL, add_i, sub_i, fdiv_i, mod_i, band_i, add_t, add_s, add_l, lt_i, le_i, gt_i, ge_i, eq_i, ne_i, eq_s, ne_s, is_n, isn_n, is_b, isn_b, is_i, isn_i, is_tt, isn_tt, is_s, isn_s, is_l, isn_l, ix_t, ix_l, ix_c, ix_s, len_t, len_l, len_c, len_s, int_i, int_b, max_i, min_i, ord_s, list_t, list_l, list_c, tuple_t, tuple_l, tuple_c, all_l, tru_n, tru_b, tru_i, tru_s, tru_t, tru_l, at0, at1, at2, at3, at4, at5, at6, mul_r, mul_l, Option.map_some, Option.bind_some, shutR_nil, shutO_nil, ItV.now, wsOk, wipeC, plObj, chks_nil, compC_nil, loopC_nil, and_self, true_and, and_true, List.all_cons, List.all_nil, Bool.and_self, Bool.and_true, Bool.true_and, Bool.not_true, Bool.not_false, if_true, if_false, decide_true, decide_false, sz0, sz1, sz2, sz3, sz4, sz5, sz6, sz7, sz8, sz9, sz10, sz11, sz12, Nat.reduceLT, Nat.reduceAdd, Nat.reduceSub, Int.reduceLT, Int.reduceLE, Int.reduceToNat, ex_raise, ex_raise2, ex_tryc, ex_whl, Out.next_nx, Out.next_ret, Out.next_exc, Out.next_brk, Out.next_cnt, Out.turn_nx, Out.turn_ret, Out.turn_exc, Out.turn_brk, Out.turn_cnt, Res.bind_exc, Res.run_exc]
theorem cc_eq (n : Nat) (h1 : S[1]? = some (Dsk p t k m)) : runN T (n + 1) (.me "Disk" "cut_count") [.loc 1] S = .ok (.int k) S := by
  refine (me_eq fDisk_cut_count rfl (o := .ret _ S) ?_).trans rfl
  simp only [tDisk_cut_count, g_cuts h1, Df.start, ev_cst, ev_var, ev_bor, ev_tup, ev_lst, ev_rep, ev_bin, ev_neg, ev_cmp, ev_chn, ev_and, ev_or, ev_not, ev_ite, ev_ix, ev_sl, ev_call, ev_mk, ev_met, ev_fld, ev_shr, ev_bi, ev_join, ev_rev, ev_mth, ev_dnK, ev_dnT, ev_comp, evs_nil, evs_cons, evO_nil, evO_part, evI_rng1, evI_rng2, evI_rng3, evI_zip, evI_enm, evI_its, evI_it, ex_skip, ex_brk, ex_cnt, ex_seq, ex_asg, ex_own, ex_ret, ex_retO, ex_expr, ex_ite, ex_loop, ex_setI, ex_setF, ex_app, ex_del, kS_ap, kAsg_ap, kOwn_ap, kEx_ap, kIte_ap, kIf_t, kIf_f, kLoop_ap, kPut_s, kSetF_ap, kApp_ap, kDel_ap, Res.bind_ok, Res.of_some, Res.noX_ok, Res.run_ok, Ok_ok, Ok_bind, Ok_noX, Ok_nx, Ok_ret, Ok_brk, Ok_cnt, List.map_cons, List.map_nil, List.length_cons, List.length_nil, List.cons_append, List.nil_append, List.getElem?_cons_zero, List.getElem?_cons_succ, List.set_cons_zero, List.set_cons_succ, List.replicate_succ, List.replicate_zero, TX.bindT, TX.bindL, add_i, sub_i, fdiv_i, mod_i, band_i, add_t, add_s, add_l, lt_i, le_i, gt_i, ge_i, eq_i, ne_i, eq_s, ne_s, is_n, isn_n, is_b, isn_b, is_i, isn_i, is_tt, isn_tt, is_s, isn_s, is_l, isn_l, ix_t, ix_l, ix_c, ix_s, len_t, len_l, len_c, len_s, int_i, int_b, max_i, min_i, ord_s, list_t, list_l, list_c, tuple_t, tuple_l, tuple_c, all_l, tru_n, tru_b, tru_i, tru_s, tru_t, tru_l, at0, at1, at2, at3, at4, at5, at6, mul_r, mul_l, Option.map_some, Option.bind_some, shutR_nil, shutO_nil, ItV.now, wsOk, wipeC, plObj, chks_nil, compC_nil, loopC_nil, and_self, true_and, and_true, List.all_cons, List.all_nil, Bool.and_self, Bool.and_true, Bool.true_and, Bool.not_true, Bool.not_false, if_true, if_false, decide_true, decide_false, sz0, sz1, sz2, sz3, sz4, sz5, sz6, sz7, sz8, sz9, sz10, sz11, sz12, Nat.reduceLT, Nat.reduceAdd, Nat.reduceSub, Int.reduceLT, Int.reduceLE, Int.reduceToNat, ex_raise, ex_raise2, ex_tryc, ex_whl, Out.next_nx, Out.next_ret, Out.next_exc, Out.next_brk, Out.next_cnt, Out.turn_nx, Out.turn_ret, Out.turn_exc, Out.turn_brk, Out.turn_cnt, Res.bind_exc, Res.run_exc]
end
/-! ### what stays -/
structure Fr (S S' : Sto) (ex : List Nat) : Prop where
  len : S.length ≤ S'.length
  keep : ∀ i, i ∉ ex → i < S.length → S'[i]? = S[i]?
theorem Fr.refl {S : Sto} {ex : List Nat} : Fr S S ex := ⟨Nat.le_refl _, fun _ _ _ => rfl⟩
theorem Fr.trans {S S' S'' : Sto} {ex : List Nat} (h : Fr S S' ex) (k : Fr S' S'' ex) : Fr S S'' ex :=
  ⟨Nat.le_trans h.len k.len, fun i hi hl => (k.keep i hi (Nat.lt_of_lt_of_le hl h.len)).trans (h.keep i hi hl)⟩
theorem Fr.set {S S' : Sto} {ex : List Nat} (h : Fr S S' ex) {l : Nat} {c : Cell} (hl : l ∈ ex) : Fr S (S'.set l c) ex :=
  ⟨by rw [List.length_set]; exact h.len, fun i hi hs => by rw [List.getElem?_set_ne (fun e : l = i => hi (by rw [← e]; exact hl))]; exact h.keep i hi hs⟩
theorem Fr.app {S S' : Sto} {ex : List Nat} (h : Fr S S' ex) {c : List Cell} : Fr S (S' ++ c) ex :=
  ⟨by rw [List.length_append]; exact Nat.le_trans h.len (Nat.le_add_right _ _), fun i hi hs => by rw [List.getElem?_append_left (Nat.lt_of_lt_of_le hs h.len)]; exact h.keep i hi hs⟩
theorem Fr.get {S S' : Sto} {ex : List Nat} (h : Fr S S' ex) {i : Nat} {c : Cell} (hi : i ∉ ex) (e : S[i]? = some c) : S'[i]? = some c := by
  rw [h.keep i hi (List.getElem?_eq_some_iff.mp e).1, e]
theorem lt_of {S : Sto} {i : Nat} {c : Cell} (e : S[i]? = some c) : i < S.length := (List.getElem?_eq_some_iff.mp e).1
/-! ### read, write, flush, cut -/
def fnd (bs : List Bk) (pd : List (Nat × Bk)) (a : Nat) : Bk := pd.foldl (fun f e => if e.1 = a then e.2 else f) (bs.getD a [])
theorem fnd_more {bs : List Bk} {pd : List (Nat × Bk)} {a i : Nat} {e : Nat × Bk} (h : pd[i]? = some e) : fnd bs (pd.take (i + 1)) a = if e.1 = a then e.2 else fnd bs (pd.take i) a := by
  have hi := (List.getElem?_eq_some_iff.mp h).1
  have ex := (List.getElem?_eq_some_iff.mp h).2
  unfold fnd
  rw [← List.take_append_getElem hi, List.foldl_append, ex]
  rfl
def flF (bs : List Bk) (pd : List (Nat × Bk)) : List Bk := pd.foldl (fun bs e => bs.set e.1 e.2) bs
theorem flF_more {bs : List Bk} {pd : List (Nat × Bk)} {i : Nat} {e : Nat × Bk} (h : pd[i]? = some e) : flF bs (pd.take (i + 1)) = (flF bs (pd.take i)).set e.1 e.2 := by
  have hi := (List.getElem?_eq_some_iff.mp h).1
  have ex := (List.getElem?_eq_some_iff.mp h).2
  unfold flF
  rw [← List.take_append_getElem hi, List.foldl_append, ex]
  rfl
theorem flF_len (pd : List (Nat × Bk)) : ∀ bs : List Bk, (flF bs pd).length = bs.length := by
  induction pd with
  | nil => exact fun _ => rfl
  | cons e r ih =>
    intro bs
    show (flF (bs.set e.1 e.2) r).length = _
    rw [ih, List.length_set]
def tn (ts : List Int) (i : Nat) : Nat := (ts.getD i 0).toNat
def ctS (ts : List Int) (i : Nat) (e : Nat × Bk) (bs : List Bk) : List Bk := bs.set e.1 (e.2.take (tn ts i) ++ (bs.getD e.1 []).drop (tn ts i))
def ctF (ts : List Int) : Nat → List (Nat × Bk) → List Bk → List Bk
  | _, [], bs => bs
  | i, e :: r, bs => ctF ts (i + 1) r (ctS ts i e bs)
theorem ctF_more {ts : List Int} {e : Nat × Bk} : ∀ {pd : List (Nat × Bk)} {i j : Nat} {bs : List Bk}, pd[j]? = some e → ctF ts i (pd.take (j + 1)) bs = ctS ts (i + j) e (ctF ts i (pd.take j) bs)
  | [], i, j, bs, h => by simp at h
  | d :: r, i, 0, bs, h => by
    cases h
    rfl
  | d :: r, i, j + 1, bs, h => by
    have h : r[j]? = some e := by simpa using h
    rw [List.take_succ_cons, List.take_succ_cons]
    show ctF ts (i + 1) (r.take (j + 1)) _ = ctS ts (i + (j + 1)) e (ctF ts (i + 1) (r.take j) _)
    rw [ctF_more h]
    congr 1
    omega
theorem ctF_len {ts : List Int} : ∀ {pd : List (Nat × Bk)} {i : Nat} {bs : List Bk}, (ctF ts i pd bs).length = bs.length
  | [], _, _ => rfl
  | e :: r, i, bs => by
    show (ctF ts (i + 1) r (ctS ts i e bs)).length = _
    rw [ctF_len, ctS, List.length_set]
section
variable {S : Sto} {p t : Nat} {k m : Int} {bs : List Bk} {pd : List (Nat × Bk)}
theorem at_b (h2 : S[2]? = some (.lst (bs.map bD))) {a : Nat} (h : a < bs.length) : ixD S (.loc 2) (.int a) = some (bD (bs.getD a [])) := by
  rw [ix_loc h2]
  refine at_n ?_
  rw [List.getElem?_map, List.getD_eq_getElem?_getD, List.getElem?_eq_getElem h]
  rfl
theorem get_e {j : Nat} {x : D} {f : Nat × Bk → D} (h : (pd.map f)[j]? = some x) : ∃ e, pd[j]? = some e ∧ x = f e := by
  rw [List.getElem?_map] at h
  cases q : pd[j]? with
  | none =>
    rw [q] at h
    cases h
  | some e =>
    rw [q] at h
    cases h
    exact ⟨e, rfl, rfl⟩
theorem read_eq (n : Nat) (h1 : S[1]? = some (Dsk p t k m)) (h2 : S[2]? = some (.lst (bs.map bD))) (hp : S[p]? = some (.lst (pd.map eD))) {a : Nat} (h : a < bs.length) :
    runN T (n + 2) (.me "Disk" "read") [.loc 1, .int a] S = .ok (bD (fnd bs pd a)) S := by
  refine Res.Ok.is (meth_ok fDisk_read rfl ?_)
  have hc := check_ok n h1 h2 (a := (a : Int)) (by omega) (by omega)
  simp only [tDisk_read, m_check h1, hc, g_blocks h1, at_b h2 h, g_pending h1, hp, shutO_cell, chks_cell hp, Df.start, ev_cst, ev_var, ev_bor, ev_tup, ev_lst, ev_rep, ev_bin, ev_neg, ev_cmp, ev_chn, ev_and, ev_or, ev_not, ev_ite, ev_ix, ev_sl, ev_call, ev_mk, ev_met, ev_fld, ev_shr, ev_bi, ev_join, ev_rev, ev_mth, ev_dnK, ev_dnT, ev_comp, evs_nil, evs_cons, evO_nil, evO_part, evI_rng1, evI_rng2, evI_rng3, evI_zip, evI_enm, evI_its, evI_it, o_skip, o_brk, o_cnt, o_seq, o_asg, o_own, o_ret, o_retO, o_expr, o_ite, o_loop, o_setI, o_setF, o_app, o_del, kS_ap, kAsg_ap, kOwn_ap, kEx_ap, kIte_ap, kIf_t, kIf_f, kLoop_ap, kPut_s, kSetF_ap, kApp_ap, kDel_ap, Res.bind_ok, Res.of_some, Res.noX_ok, Res.run_ok, Ok_ok, Ok_bind, Ok_noX, Ok_nx, Ok_ret, Ok_brk, Ok_cnt, List.map_cons, List.map_nil, List.length_cons, List.length_nil, List.cons_append, List.nil_append, List.getElem?_cons_zero, List.getElem?_cons_succ, List.set_cons_zero, List.set_cons_succ, List.replicate_succ, List.replicate_zero, TX.bindT, TX.bindL, add_i, sub_i, fdiv_i, mod_i, band_i, add_t, add_s, add_l, lt_i, le_i, gt_i, ge_i, eq_i, ne_i, eq_s, ne_s, is_n, isn_n, is_b, isn_b, is_i, isn_i, is_tt, isn_tt, is_s, isn_s, is_l, isn_l, ix_t, ix_l, ix_c, ix_s, len_t, len_l, len_c, len_s, int_i, int_b, max_i, min_i, ord_s, list_t, list_l, list_c, tuple_t, tuple_l, tuple_c, all_l, tru_n, tru_b, tru_i, tru_s, tru_t, tru_l, at0, at1, at2, at3, at4, at5, at6, mul_r, mul_l, Option.map_some, Option.bind_some, shutR_nil, shutO_nil, ItV.now, wsOk, wipeC, plObj, chks_nil, compC_nil, loopC_nil, and_self, true_and, and_true, List.all_cons, List.all_nil, Bool.and_self, Bool.and_true, Bool.true_and, Bool.not_true, Bool.not_false, if_true, if_false, decide_true, decide_false, sz0, sz1, sz2, sz3, sz4, sz5, sz6, sz7, sz8, sz9, sz10, sz11, sz12, Nat.reduceLT, Nat.reduceAdd, Nat.reduceSub, Int.reduceLT, Int.reduceLE, Int.reduceToNat]
  refine loopC_ok (i := 0) (fun i ρ S' => ∃ c3 c4 : C, ρ = [.val (.loc 1), .val (.int a), .val (bD (fnd bs (pd.take i) a)), c3, c4] ∧ S' = S) (fun i ρ S' ⟨_, _, _, e⟩ => by rw [e]; exact okC_cell hp) ⟨.und, .und, rfl, rfl⟩ ?_ ?_
  · rintro j x ρ S' hx ⟨c3, c4, rfl, rfl⟩
    rw [Nat.zero_add]
    obtain ⟨e, he, rfl⟩ := get_e hx
    have ee : (decide ((e.1 : Int) = (a : Int))) = decide (e.1 = a) := by
      rw [decide_eq_decide]
      omega
    have fm := fnd_more (bs := bs) (a := a) he
    by_cases c : e.1 = a
    · rw [if_pos c] at fm
      simp only [turnS, tDisk_read_b0, eD, ee, c, decide_true, Df.start, ev_cst, ev_var, ev_bor, ev_tup, ev_lst, ev_rep, ev_bin, ev_neg, ev_cmp, ev_chn, ev_and, ev_or, ev_not, ev_ite, ev_ix, ev_sl, ev_call, ev_mk, ev_met, ev_fld, ev_shr, ev_bi, ev_join, ev_rev, ev_mth, ev_dnK, ev_dnT, ev_comp, evs_nil, evs_cons, evO_nil, evO_part, evI_rng1, evI_rng2, evI_rng3, evI_zip, evI_enm, evI_its, evI_it, o_skip, o_brk, o_cnt, o_seq, o_asg, o_own, o_ret, o_retO, o_expr, o_ite, o_loop, o_setI, o_setF, o_app, o_del, kS_ap, kAsg_ap, kOwn_ap, kEx_ap, kIte_ap, kIf_t, kIf_f, kLoop_ap, kPut_s, kSetF_ap, kApp_ap, kDel_ap, Res.bind_ok, Res.of_some, Res.noX_ok, Res.run_ok, Ok_ok, Ok_bind, Ok_noX, Ok_nx, Ok_ret, Ok_brk, Ok_cnt, List.map_cons, List.map_nil, List.length_cons, List.length_nil, List.cons_append, List.nil_append, List.getElem?_cons_zero, List.getElem?_cons_succ, List.set_cons_zero, List.set_cons_succ, List.replicate_succ, List.replicate_zero, TX.bindT, TX.bindL, add_i, sub_i, fdiv_i, mod_i, band_i, add_t, add_s, add_l, lt_i, le_i, gt_i, ge_i, eq_i, ne_i, eq_s, ne_s, is_n, isn_n, is_b, isn_b, is_i, isn_i, is_tt, isn_tt, is_s, isn_s, is_l, isn_l, ix_t, ix_l, ix_c, ix_s, len_t, len_l, len_c, len_s, int_i, int_b, max_i, min_i, ord_s, list_t, list_l, list_c, tuple_t, tuple_l, tuple_c, all_l, tru_n, tru_b, tru_i, tru_s, tru_t, tru_l, at0, at1, at2, at3, at4, at5, at6, mul_r, mul_l, Option.map_some, Option.bind_some, shutR_nil, shutO_nil, ItV.now, wsOk, wipeC, plObj, chks_nil, compC_nil, loopC_nil, and_self, true_and, and_true, List.all_cons, List.all_nil, Bool.and_self, Bool.and_true, Bool.true_and, Bool.not_true, Bool.not_false, if_true, if_false, decide_true, decide_false, sz0, sz1, sz2, sz3, sz4, sz5, sz6, sz7, sz8, sz9, sz10, sz11, sz12, Nat.reduceLT, Nat.reduceAdd, Nat.reduceSub, Int.reduceLT, Int.reduceLE, Int.reduceToNat]
      rw [fm]
      exact ⟨_, _, rfl⟩
    · rw [if_neg c] at fm
      simp only [turnS, tDisk_read_b0, eD, ee, c, decide_false, Df.start, ev_cst, ev_var, ev_bor, ev_tup, ev_lst, ev_rep, ev_bin, ev_neg, ev_cmp, ev_chn, ev_and, ev_or, ev_not, ev_ite, ev_ix, ev_sl, ev_call, ev_mk, ev_met, ev_fld, ev_shr, ev_bi, ev_join, ev_rev, ev_mth, ev_dnK, ev_dnT, ev_comp, evs_nil, evs_cons, evO_nil, evO_part, evI_rng1, evI_rng2, evI_rng3, evI_zip, evI_enm, evI_its, evI_it, o_skip, o_brk, o_cnt, o_seq, o_asg, o_own, o_ret, o_retO, o_expr, o_ite, o_loop, o_setI, o_setF, o_app, o_del, kS_ap, kAsg_ap, kOwn_ap, kEx_ap, kIte_ap, kIf_t, kIf_f, kLoop_ap, kPut_s, kSetF_ap, kApp_ap, kDel_ap, Res.bind_ok, Res.of_some, Res.noX_ok, Res.run_ok, Ok_ok, Ok_bind, Ok_noX, Ok_nx, Ok_ret, Ok_brk, Ok_cnt, List.map_cons, List.map_nil, List.length_cons, List.length_nil, List.cons_append, List.nil_append, List.getElem?_cons_zero, List.getElem?_cons_succ, List.set_cons_zero, List.set_cons_succ, List.replicate_succ, List.replicate_zero, TX.bindT, TX.bindL, add_i, sub_i, fdiv_i, mod_i, band_i, add_t, add_s, add_l, lt_i, le_i, gt_i, ge_i, eq_i, ne_i, eq_s, ne_s, is_n, isn_n, is_b, isn_b, is_i, isn_i, is_tt, isn_tt, is_s, isn_s, is_l, isn_l, ix_t, ix_l, ix_c, ix_s, len_t, len_l, len_c, len_s, int_i, int_b, max_i, min_i, ord_s, list_t, list_l, list_c, tuple_t, tuple_l, tuple_c, all_l, tru_n, tru_b, tru_i, tru_s, tru_t, tru_l, at0, at1, at2, at3, at4, at5, at6, mul_r, mul_l, Option.map_some, Option.bind_some, shutR_nil, shutO_nil, ItV.now, wsOk, wipeC, plObj, chks_nil, compC_nil, loopC_nil, and_self, true_and, and_true, List.all_cons, List.all_nil, Bool.and_self, Bool.and_true, Bool.true_and, Bool.not_true, Bool.not_false, if_true, if_false, decide_true, decide_false, sz0, sz1, sz2, sz3, sz4, sz5, sz6, sz7, sz8, sz9, sz10, sz11, sz12, Nat.reduceLT, Nat.reduceAdd, Nat.reduceSub, Int.reduceLT, Int.reduceLE, Int.reduceToNat]
      rw [fm]
      exact ⟨_, _, rfl⟩
  · rintro ρ S' ⟨c3, c4, rfl, rfl⟩
    rw [Nat.zero_add, List.length_map, List.take_length]
    simp only [bD, Df.start, ev_cst, ev_var, ev_bor, ev_tup, ev_lst, ev_rep, ev_bin, ev_neg, ev_cmp, ev_chn, ev_and, ev_or, ev_not, ev_ite, ev_ix, ev_sl, ev_call, ev_mk, ev_met, ev_fld, ev_shr, ev_bi, ev_join, ev_rev, ev_mth, ev_dnK, ev_dnT, ev_comp, evs_nil, evs_cons, evO_nil, evO_part, evI_rng1, evI_rng2, evI_rng3, evI_zip, evI_enm, evI_its, evI_it, o_skip, o_brk, o_cnt, o_seq, o_asg, o_own, o_ret, o_retO, o_expr, o_ite, o_loop, o_setI, o_setF, o_app, o_del, kS_ap, kAsg_ap, kOwn_ap, kEx_ap, kIte_ap, kIf_t, kIf_f, kLoop_ap, kPut_s, kSetF_ap, kApp_ap, kDel_ap, Res.bind_ok, Res.of_some, Res.noX_ok, Res.run_ok, Ok_ok, Ok_bind, Ok_noX, Ok_nx, Ok_ret, Ok_brk, Ok_cnt, List.map_cons, List.map_nil, List.length_cons, List.length_nil, List.cons_append, List.nil_append, List.getElem?_cons_zero, List.getElem?_cons_succ, List.set_cons_zero, List.set_cons_succ, List.replicate_succ, List.replicate_zero, TX.bindT, TX.bindL, add_i, sub_i, fdiv_i, mod_i, band_i, add_t, add_s, add_l, lt_i, le_i, gt_i, ge_i, eq_i, ne_i, eq_s, ne_s, is_n, isn_n, is_b, isn_b, is_i, isn_i, is_tt, isn_tt, is_s, isn_s, is_l, isn_l, ix_t, ix_l, ix_c, ix_s, len_t, len_l, len_c, len_s, int_i, int_b, max_i, min_i, ord_s, list_t, list_l, list_c, tuple_t, tuple_l, tuple_c, all_l, tru_n, tru_b, tru_i, tru_s, tru_t, tru_l, at0, at1, at2, at3, at4, at5, at6, mul_r, mul_l, Option.map_some, Option.bind_some, shutR_nil, shutO_nil, ItV.now, wsOk, wipeC, plObj, chks_nil, compC_nil, loopC_nil, and_self, true_and, and_true, List.all_cons, List.all_nil, Bool.and_self, Bool.and_true, Bool.true_and, Bool.not_true, Bool.not_false, if_true, if_false, decide_true, decide_false, sz0, sz1, sz2, sz3, sz4, sz5, sz6, sz7, sz8, sz9, sz10, sz11, sz12, Nat.reduceLT, Nat.reduceAdd, Nat.reduceSub, Int.reduceLT, Int.reduceLE, Int.reduceToNat]
theorem read_bad (n : Nat) (h1 : S[1]? = some (Dsk p t k m)) (h2 : S[2]? = some (.lst (bs.map bD))) {a : Int} (h : ¬ (0 ≤ a ∧ a < bs.length)) : runN T (n + 2) (.me "Disk" "read") [.loc 1, .int a] S = .exc (Str.ofString "OutOfRange") (some (.str (Str.ofString "at"))) S := by
  refine (me_eq fDisk_read rfl (o := .exc _ _ [.val (.loc 1), .val (.int a), .und, .und, .und] S) ?_).trans rfl
  have hc := check_bad n h1 h2 h
  simp only [tDisk_read, m_check h1, hc, Df.start, ev_cst, ev_var, ev_bor, ev_tup, ev_lst, ev_rep, ev_bin, ev_neg, ev_cmp, ev_chn, ev_and, ev_or, ev_not, ev_ite, ev_ix, ev_sl, ev_call, ev_mk, ev_met, ev_fld, ev_shr, ev_bi, ev_join, ev_rev, ev_mth, ev_dnK, ev_dnT, ev_comp, evs_nil, evs_cons, evO_nil, evO_part, evI_rng1, evI_rng2, evI_rng3, evI_zip, evI_enm, evI_its, evI_it, ex_skip, ex_brk, ex_cnt, ex_seq, ex_asg, ex_own, ex_ret, ex_retO, ex_expr, ex_ite, ex_loop, ex_setI, ex_setF, ex_app, ex_del, kS_ap, kAsg_ap, kOwn_ap, kEx_ap, kIte_ap, kIf_t, kIf_f, kLoop_ap, kPut_s, kSetF_ap, kApp_ap, kDel_ap, Res.bind_ok, Res.of_some, Res.noX_ok, Res.run_ok, Ok_ok, Ok_bind, Ok_noX, Ok_nx, Ok_ret, Ok_brk, Ok_cnt, List.map_cons, List.map_nil, List.length_cons, List.length_nil, List.cons_append, List.nil_append, List.getElem?_cons_zero, List.getElem?_cons_succ, List.set_cons_zero, List.set_cons_succ, List.replicate_succ, List.replicate_zero, TX.bindT, TX.bindL, add_i, sub_i, fdiv_i, mod_i, band_i, add_t, add_s, add_l, lt_i, le_i, gt_i, ge_i, eq_i, ne_i, eq_s, ne_s, is_n, isn_n, is_b, isn_b, is_i, isn_i, is_tt, isn_tt, is_s, isn_s, is_l, isn_l, ix_t, ix_l, ix_c, ix_s, len_t, len_l, len_c, len_s, int_i, int_b, max_i, min_i, ord_s, list_t, list_l, list_c, tuple_t, tuple_l, tuple_c, all_l, tru_n, tru_b, tru_i, tru_s, tru_t, tru_l, at0, at1, at2, at3, at4, at5, at6, mul_r, mul_l, Option.map_some, Option.bind_some, shutR_nil, shutO_nil, ItV.now, wsOk, wipeC, plObj, chks_nil, compC_nil, loopC_nil, and_self, true_and, and_true, List.all_cons, List.all_nil, Bool.and_self, Bool.and_true, Bool.true_and, Bool.not_true, Bool.not_false, if_true, if_false, decide_true, decide_false, sz0, sz1, sz2, sz3, sz4, sz5, sz6, sz7, sz8, sz9, sz10, sz11, sz12, Nat.reduceLT, Nat.reduceAdd, Nat.reduceSub, Int.reduceLT, Int.reduceLE, Int.reduceToNat, ex_raise, ex_raise2, ex_tryc, ex_whl, Out.next_nx, Out.next_ret, Out.next_exc, Out.next_brk, Out.next_cnt, Out.turn_nx, Out.turn_ret, Out.turn_exc, Out.turn_brk, Out.turn_cnt, Res.bind_exc, Res.run_exc]
theorem write_eq (n : Nat) (h1 : S[1]? = some (Dsk p t k m)) (h0 : m ≠ 0) (h2 : S[2]? = some (.lst (bs.map bD))) (hp : S[p]? = some (.lst (pd.map eD))) (np : p ≠ 1) (hl : pd.length ≤ 1000) {a : Nat} (h : a < bs.length) {b : Bk} (hb : isBlock b = true) :
    runN T (n + 2) (.me "Disk" "write") [.loc 1, .int a, .lst (b.map D.int)] S = .ok .non ((S.set 1 (Dsk p t k (nxt m))).set p (.lst ((pd ++ [(a, b)]).map eD))) := by
  have hc := check_ok n h1 h2 (a := (a : Int)) (by omega) (by omega)
  have hx : IsL S (.lst (b.map D.int)) (b.map D.int) := .inl rfl
  have g1 : (S.set 1 (Dsk p t k (nxt m)))[1]? = some (Dsk p t k (nxt m)) := List.getElem?_set_self (List.getElem?_eq_some_iff.mp h1).1
  have gp : (S.set 1 (Dsk p t k (nxt m)))[p]? = some (.lst (pd.map eD)) := (List.getElem?_set_ne (Ne.symm np)).trans hp
  have ty := ty_app gp
  have op : ∀ d, mthOp .append (S.set 1 (Dsk p t k (nxt m))) (.loc p) [d] = some (.non, (S.set 1 (Dsk p t k (nxt m))).set p (.lst (pd.map eD ++ [d]))) := fun d => op_app gp (by rw [List.length_map]; exact Nat.lt_of_le_of_lt hl (by decide))
  refine (me_eq fDisk_write rfl (o := .nx [.val (.loc 1), .val (.int a), .val (.lst (b.map D.int))] ((S.set 1 (Dsk p t k (nxt m))).set p (.lst ((pd ++ [(a, b)]).map eD)))) ?_).trans rfl
  simp only [tDisk_write, m_check h1, hc, is_block_eq n hx, hb, m_spend h1, spend_eq n h1 h0, g_pending g1, ty, op, Df.start, ev_cst, ev_var, ev_bor, ev_tup, ev_lst, ev_rep, ev_bin, ev_neg, ev_cmp, ev_chn, ev_and, ev_or, ev_not, ev_ite, ev_ix, ev_sl, ev_call, ev_mk, ev_met, ev_fld, ev_shr, ev_bi, ev_join, ev_rev, ev_mth, ev_dnK, ev_dnT, ev_comp, evs_nil, evs_cons, evO_nil, evO_part, evI_rng1, evI_rng2, evI_rng3, evI_zip, evI_enm, evI_its, evI_it, ex_skip, ex_brk, ex_cnt, ex_seq, ex_asg, ex_own, ex_ret, ex_retO, ex_expr, ex_ite, ex_loop, ex_setI, ex_setF, ex_app, ex_del, kS_ap, kAsg_ap, kOwn_ap, kEx_ap, kIte_ap, kIf_t, kIf_f, kLoop_ap, kPut_s, kSetF_ap, kApp_ap, kDel_ap, Res.bind_ok, Res.of_some, Res.noX_ok, Res.run_ok, Ok_ok, Ok_bind, Ok_noX, Ok_nx, Ok_ret, Ok_brk, Ok_cnt, List.map_cons, List.map_nil, List.length_cons, List.length_nil, List.cons_append, List.nil_append, List.getElem?_cons_zero, List.getElem?_cons_succ, List.set_cons_zero, List.set_cons_succ, List.replicate_succ, List.replicate_zero, TX.bindT, TX.bindL, add_i, sub_i, fdiv_i, mod_i, band_i, add_t, add_s, add_l, lt_i, le_i, gt_i, ge_i, eq_i, ne_i, eq_s, ne_s, is_n, isn_n, is_b, isn_b, is_i, isn_i, is_tt, isn_tt, is_s, isn_s, is_l, isn_l, ix_t, ix_l, ix_c, ix_s, len_t, len_l, len_c, len_s, int_i, int_b, max_i, min_i, ord_s, list_t, list_l, list_c, tuple_t, tuple_l, tuple_c, all_l, tru_n, tru_b, tru_i, tru_s, tru_t, tru_l, at0, at1, at2, at3, at4, at5, at6, mul_r, mul_l, Option.map_some, Option.bind_some, shutR_nil, shutO_nil, ItV.now, wsOk, wipeC, plObj, chks_nil, compC_nil, loopC_nil, and_self, true_and, and_true, List.all_cons, List.all_nil, Bool.and_self, Bool.and_true, Bool.true_and, Bool.not_true, Bool.not_false, if_true, if_false, decide_true, decide_false, sz0, sz1, sz2, sz3, sz4, sz5, sz6, sz7, sz8, sz9, sz10, sz11, sz12, Nat.reduceLT, Nat.reduceAdd, Nat.reduceSub, Int.reduceLT, Int.reduceLE, Int.reduceToNat, ex_raise, ex_raise2, ex_tryc, ex_whl, Out.next_nx, Out.next_ret, Out.next_exc, Out.next_brk, Out.next_cnt, Out.turn_nx, Out.turn_ret, Out.turn_exc, Out.turn_brk, Out.turn_cnt, Res.bind_exc, Res.run_exc]
  rw [List.map_append]
  rfl
theorem write_bad1 (n : Nat) (h1 : S[1]? = some (Dsk p t k m)) (h2 : S[2]? = some (.lst (bs.map bD))) {a : Int} (h : ¬ (0 ≤ a ∧ a < bs.length)) {x : D} : runN T (n + 2) (.me "Disk" "write") [.loc 1, .int a, x] S = .exc (Str.ofString "OutOfRange") (some (.str (Str.ofString "at"))) S := by
  refine (me_eq fDisk_write rfl (o := .exc _ _ [.val (.loc 1), .val (.int a), .val x] S) ?_).trans rfl
  have hc := check_bad n h1 h2 h
  simp only [tDisk_write, m_check h1, hc, Df.start, ev_cst, ev_var, ev_bor, ev_tup, ev_lst, ev_rep, ev_bin, ev_neg, ev_cmp, ev_chn, ev_and, ev_or, ev_not, ev_ite, ev_ix, ev_sl, ev_call, ev_mk, ev_met, ev_fld, ev_shr, ev_bi, ev_join, ev_rev, ev_mth, ev_dnK, ev_dnT, ev_comp, evs_nil, evs_cons, evO_nil, evO_part, evI_rng1, evI_rng2, evI_rng3, evI_zip, evI_enm, evI_its, evI_it, ex_skip, ex_brk, ex_cnt, ex_seq, ex_asg, ex_own, ex_ret, ex_retO, ex_expr, ex_ite, ex_loop, ex_setI, ex_setF, ex_app, ex_del, kS_ap, kAsg_ap, kOwn_ap, kEx_ap, kIte_ap, kIf_t, kIf_f, kLoop_ap, kPut_s, kSetF_ap, kApp_ap, kDel_ap, Res.bind_ok, Res.of_some, Res.noX_ok, Res.run_ok, Ok_ok, Ok_bind, Ok_noX, Ok_nx, Ok_ret, Ok_brk, Ok_cnt, List.map_cons, List.map_nil, List.length_cons, List.length_nil, List.cons_append, List.nil_append, List.getElem?_cons_zero, List.getElem?_cons_succ, List.set_cons_zero, List.set_cons_succ, List.replicate_succ, List.replicate_zero, TX.bindT, TX.bindL, add_i, sub_i, fdiv_i, mod_i, band_i, add_t, add_s, add_l, lt_i, le_i, gt_i, ge_i, eq_i, ne_i, eq_s, ne_s, is_n, isn_n, is_b, isn_b, is_i, isn_i, is_tt, isn_tt, is_s, isn_s, is_l, isn_l, ix_t, ix_l, ix_c, ix_s, len_t, len_l, len_c, len_s, int_i, int_b, max_i, min_i, ord_s, list_t, list_l, list_c, tuple_t, tuple_l, tuple_c, all_l, tru_n, tru_b, tru_i, tru_s, tru_t, tru_l, at0, at1, at2, at3, at4, at5, at6, mul_r, mul_l, Option.map_some, Option.bind_some, shutR_nil, shutO_nil, ItV.now, wsOk, wipeC, plObj, chks_nil, compC_nil, loopC_nil, and_self, true_and, and_true, List.all_cons, List.all_nil, Bool.and_self, Bool.and_true, Bool.true_and, Bool.not_true, Bool.not_false, if_true, if_false, decide_true, decide_false, sz0, sz1, sz2, sz3, sz4, sz5, sz6, sz7, sz8, sz9, sz10, sz11, sz12, Nat.reduceLT, Nat.reduceAdd, Nat.reduceSub, Int.reduceLT, Int.reduceLE, Int.reduceToNat, ex_raise, ex_raise2, ex_tryc, ex_whl, Out.next_nx, Out.next_ret, Out.next_exc, Out.next_brk, Out.next_cnt, Out.turn_nx, Out.turn_ret, Out.turn_exc, Out.turn_brk, Out.turn_cnt, Res.bind_exc, Res.run_exc]
theorem write_bad2 (n : Nat) (h1 : S[1]? = some (Dsk p t k m)) (h2 : S[2]? = some (.lst (bs.map bD))) {a : Nat} (h : a < bs.length) {x : D} {b : Bk} (hx : IsL S x (b.map D.int)) (hb : isBlock b = false) : runN T (n + 2) (.me "Disk" "write") [.loc 1, .int a, x] S = .exc (Str.ofString "OutOfRange") (some (.str (Str.ofString "block"))) S := by
  refine (me_eq fDisk_write rfl (o := .exc _ _ [.val (.loc 1), .val (.int a), .val x] S) ?_).trans rfl
  have hc := check_ok n h1 h2 (a := (a : Int)) (by omega) (by omega)
  simp only [tDisk_write, m_check h1, hc, is_block_eq n hx, hb, Df.start, ev_cst, ev_var, ev_bor, ev_tup, ev_lst, ev_rep, ev_bin, ev_neg, ev_cmp, ev_chn, ev_and, ev_or, ev_not, ev_ite, ev_ix, ev_sl, ev_call, ev_mk, ev_met, ev_fld, ev_shr, ev_bi, ev_join, ev_rev, ev_mth, ev_dnK, ev_dnT, ev_comp, evs_nil, evs_cons, evO_nil, evO_part, evI_rng1, evI_rng2, evI_rng3, evI_zip, evI_enm, evI_its, evI_it, ex_skip, ex_brk, ex_cnt, ex_seq, ex_asg, ex_own, ex_ret, ex_retO, ex_expr, ex_ite, ex_loop, ex_setI, ex_setF, ex_app, ex_del, kS_ap, kAsg_ap, kOwn_ap, kEx_ap, kIte_ap, kIf_t, kIf_f, kLoop_ap, kPut_s, kSetF_ap, kApp_ap, kDel_ap, Res.bind_ok, Res.of_some, Res.noX_ok, Res.run_ok, Ok_ok, Ok_bind, Ok_noX, Ok_nx, Ok_ret, Ok_brk, Ok_cnt, List.map_cons, List.map_nil, List.length_cons, List.length_nil, List.cons_append, List.nil_append, List.getElem?_cons_zero, List.getElem?_cons_succ, List.set_cons_zero, List.set_cons_succ, List.replicate_succ, List.replicate_zero, TX.bindT, TX.bindL, add_i, sub_i, fdiv_i, mod_i, band_i, add_t, add_s, add_l, lt_i, le_i, gt_i, ge_i, eq_i, ne_i, eq_s, ne_s, is_n, isn_n, is_b, isn_b, is_i, isn_i, is_tt, isn_tt, is_s, isn_s, is_l, isn_l, ix_t, ix_l, ix_c, ix_s, len_t, len_l, len_c, len_s, int_i, int_b, max_i, min_i, ord_s, list_t, list_l, list_c, tuple_t, tuple_l, tuple_c, all_l, tru_n, tru_b, tru_i, tru_s, tru_t, tru_l, at0, at1, at2, at3, at4, at5, at6, mul_r, mul_l, Option.map_some, Option.bind_some, shutR_nil, shutO_nil, ItV.now, wsOk, wipeC, plObj, chks_nil, compC_nil, loopC_nil, and_self, true_and, and_true, List.all_cons, List.all_nil, Bool.and_self, Bool.and_true, Bool.true_and, Bool.not_true, Bool.not_false, if_true, if_false, decide_true, decide_false, sz0, sz1, sz2, sz3, sz4, sz5, sz6, sz7, sz8, sz9, sz10, sz11, sz12, Nat.reduceLT, Nat.reduceAdd, Nat.reduceSub, Int.reduceLT, Int.reduceLE, Int.reduceToNat, ex_raise, ex_raise2, ex_tryc, ex_whl, Out.next_nx, Out.next_ret, Out.next_exc, Out.next_brk, Out.next_cnt, Out.turn_nx, Out.turn_ret, Out.turn_exc, Out.turn_brk, Out.turn_cnt, Res.bind_exc, Res.run_exc]
theorem flush_ok (n : Nat) (h1 : S[1]? = some (Dsk p t k m)) (h0 : m ≠ 0) (h2 : S[2]? = some (.lst (bs.map bD))) (hp : S[p]? = some (.lst (pd.map eD))) (np : p ≠ 1 ∧ p ≠ 2) (he : ∀ e ∈ pd, e.1 < bs.length) {P : D → Sto → Prop}
    (q : ∀ S', Fr S S' [1, 2] → S'[1]? = some (Dsk S.length t k (nxt m)) → S'[2]? = some (.lst ((flF bs pd).map bD)) → S'[S.length]? = some (.lst (([] : List (Nat × Bk)).map eD)) → P .non S') : (runN T (n + 2) (.me "Disk" "flush") [.loc 1] S).Ok P := by
  refine meth_ok fDisk_flush rfl ?_
  simp only [tDisk_flush, m_spend h1, spend_eq n h1 h0, Df.start, ev_cst, ev_var, ev_bor, ev_tup, ev_lst, ev_rep, ev_bin, ev_neg, ev_cmp, ev_chn, ev_and, ev_or, ev_not, ev_ite, ev_ix, ev_sl, ev_call, ev_mk, ev_met, ev_fld, ev_shr, ev_bi, ev_join, ev_rev, ev_mth, ev_dnK, ev_dnT, ev_comp, evs_nil, evs_cons, evO_nil, evO_part, evI_rng1, evI_rng2, evI_rng3, evI_zip, evI_enm, evI_its, evI_it, o_skip, o_brk, o_cnt, o_seq, o_asg, o_own, o_ret, o_retO, o_expr, o_ite, o_loop, o_setI, o_setF, o_app, o_del, kS_ap, kAsg_ap, kOwn_ap, kEx_ap, kIte_ap, kIf_t, kIf_f, kLoop_ap, kPut_s, kSetF_ap, kApp_ap, kDel_ap, Res.bind_ok, Res.of_some, Res.noX_ok, Res.run_ok, Ok_ok, Ok_bind, Ok_noX, Ok_nx, Ok_ret, Ok_brk, Ok_cnt, List.map_cons, List.map_nil, List.length_cons, List.length_nil, List.cons_append, List.nil_append, List.getElem?_cons_zero, List.getElem?_cons_succ, List.set_cons_zero, List.set_cons_succ, List.replicate_succ, List.replicate_zero, TX.bindT, TX.bindL, add_i, sub_i, fdiv_i, mod_i, band_i, add_t, add_s, add_l, lt_i, le_i, gt_i, ge_i, eq_i, ne_i, eq_s, ne_s, is_n, isn_n, is_b, isn_b, is_i, isn_i, is_tt, isn_tt, is_s, isn_s, is_l, isn_l, ix_t, ix_l, ix_c, ix_s, len_t, len_l, len_c, len_s, int_i, int_b, max_i, min_i, ord_s, list_t, list_l, list_c, tuple_t, tuple_l, tuple_c, all_l, tru_n, tru_b, tru_i, tru_s, tru_t, tru_l, at0, at1, at2, at3, at4, at5, at6, mul_r, mul_l, Option.map_some, Option.bind_some, shutR_nil, shutO_nil, ItV.now, wsOk, wipeC, plObj, chks_nil, compC_nil, loopC_nil, and_self, true_and, and_true, List.all_cons, List.all_nil, Bool.and_self, Bool.and_true, Bool.true_and, Bool.not_true, Bool.not_false, if_true, if_false, decide_true, decide_false, sz0, sz1, sz2, sz3, sz4, sz5, sz6, sz7, sz8, sz9, sz10, sz11, sz12, Nat.reduceLT, Nat.reduceAdd, Nat.reduceSub, Int.reduceLT, Int.reduceLE, Int.reduceToNat]
  have l1' := lt_of h1
  have f0 : Fr S (S.set 1 (Dsk p t k (nxt m))) [1, 2] := Fr.refl.set (by simp)
  have e0 : (S.set 1 (Dsk p t k (nxt m))).length = S.length := List.length_set
  have q := fun S' (f : Fr (S.set 1 (Dsk p t k (nxt m))) S' [1, 2]) => q S' (f0.trans f)
  rw [← e0] at q
  have h1 : (S.set 1 (Dsk p t k (nxt m)))[1]? = some (Dsk p t k (nxt m)) := List.getElem?_set_self l1'
  have h2 : (S.set 1 (Dsk p t k (nxt m)))[2]? = some (.lst (bs.map bD)) := (List.getElem?_set_ne (by decide)).trans h2
  have hp : (S.set 1 (Dsk p t k (nxt m)))[p]? = some (.lst (pd.map eD)) := (List.getElem?_set_ne (Ne.symm np.1)).trans hp
  clear f0 e0 l1'
  generalize S.set 1 (Dsk p t k (nxt m)) = S at h1 h2 hp q
  generalize nxt m = m at h1 q
  have l1 := lt_of h1
  have l2 := lt_of h2
  simp only [g_pending h1, hp, shutO_cell, chks_cell hp, Df.start, ev_cst, ev_var, ev_bor, ev_tup, ev_lst, ev_rep, ev_bin, ev_neg, ev_cmp, ev_chn, ev_and, ev_or, ev_not, ev_ite, ev_ix, ev_sl, ev_call, ev_mk, ev_met, ev_fld, ev_shr, ev_bi, ev_join, ev_rev, ev_mth, ev_dnK, ev_dnT, ev_comp, evs_nil, evs_cons, evO_nil, evO_part, evI_rng1, evI_rng2, evI_rng3, evI_zip, evI_enm, evI_its, evI_it, o_skip, o_brk, o_cnt, o_seq, o_asg, o_own, o_ret, o_retO, o_expr, o_ite, o_loop, o_setI, o_setF, o_app, o_del, kS_ap, kAsg_ap, kOwn_ap, kEx_ap, kIte_ap, kIf_t, kIf_f, kLoop_ap, kPut_s, kSetF_ap, kApp_ap, kDel_ap, Res.bind_ok, Res.of_some, Res.noX_ok, Res.run_ok, Ok_ok, Ok_bind, Ok_noX, Ok_nx, Ok_ret, Ok_brk, Ok_cnt, List.map_cons, List.map_nil, List.length_cons, List.length_nil, List.cons_append, List.nil_append, List.getElem?_cons_zero, List.getElem?_cons_succ, List.set_cons_zero, List.set_cons_succ, List.replicate_succ, List.replicate_zero, TX.bindT, TX.bindL, add_i, sub_i, fdiv_i, mod_i, band_i, add_t, add_s, add_l, lt_i, le_i, gt_i, ge_i, eq_i, ne_i, eq_s, ne_s, is_n, isn_n, is_b, isn_b, is_i, isn_i, is_tt, isn_tt, is_s, isn_s, is_l, isn_l, ix_t, ix_l, ix_c, ix_s, len_t, len_l, len_c, len_s, int_i, int_b, max_i, min_i, ord_s, list_t, list_l, list_c, tuple_t, tuple_l, tuple_c, all_l, tru_n, tru_b, tru_i, tru_s, tru_t, tru_l, at0, at1, at2, at3, at4, at5, at6, mul_r, mul_l, Option.map_some, Option.bind_some, shutR_nil, shutO_nil, ItV.now, wsOk, wipeC, plObj, chks_nil, compC_nil, loopC_nil, and_self, true_and, and_true, List.all_cons, List.all_nil, Bool.and_self, Bool.and_true, Bool.true_and, Bool.not_true, Bool.not_false, if_true, if_false, decide_true, decide_false, sz0, sz1, sz2, sz3, sz4, sz5, sz6, sz7, sz8, sz9, sz10, sz11, sz12, Nat.reduceLT, Nat.reduceAdd, Nat.reduceSub, Int.reduceLT, Int.reduceLE, Int.reduceToNat]
  refine loopC_ok (i := 0) (fun i ρ S' => ∃ c1 c2 : C, ρ = [.val (.loc 1), c1, c2] ∧ S' = S.set 2 (.lst ((flF bs (pd.take i)).map bD))) (fun i ρ S' ⟨_, _, _, e⟩ => by rw [e]; exact okC_cell ((List.getElem?_set_ne (Ne.symm np.2)).trans hp)) ⟨.und, .und, rfl, (set_same h2).symm⟩ ?_ ?_
  · rintro j x ρ S' hx ⟨c1, c2, rfl, rfl⟩
    rw [Nat.zero_add]
    obtain ⟨e, hj, rfl⟩ := get_e hx
    have g1 : (S.set 2 (.lst ((flF bs (pd.take j)).map bD)))[1]? = some (Dsk p t k m) := (List.getElem?_set_ne (by decide)).trans h1
    have g2 : (S.set 2 (.lst ((flF bs (pd.take j)).map bD)))[2]? = some (.lst ((flF bs (pd.take j)).map bD)) := List.getElem?_set_self l2
    have ix : L2.ixN ((flF bs (pd.take j)).map bD).length (e.1 : Int) = some e.1 := ixN_nat (by rw [List.length_map, flF_len]; exact he e (List.mem_of_getElem? hj))
    simp only [turnS, tDisk_flush_b0, eD, g_blocks g1, kPut_l g2 ix, Df.start, ev_cst, ev_var, ev_bor, ev_tup, ev_lst, ev_rep, ev_bin, ev_neg, ev_cmp, ev_chn, ev_and, ev_or, ev_not, ev_ite, ev_ix, ev_sl, ev_call, ev_mk, ev_met, ev_fld, ev_shr, ev_bi, ev_join, ev_rev, ev_mth, ev_dnK, ev_dnT, ev_comp, evs_nil, evs_cons, evO_nil, evO_part, evI_rng1, evI_rng2, evI_rng3, evI_zip, evI_enm, evI_its, evI_it, o_skip, o_brk, o_cnt, o_seq, o_asg, o_own, o_ret, o_retO, o_expr, o_ite, o_loop, o_setI, o_setF, o_app, o_del, kS_ap, kAsg_ap, kOwn_ap, kEx_ap, kIte_ap, kIf_t, kIf_f, kLoop_ap, kPut_s, kSetF_ap, kApp_ap, kDel_ap, Res.bind_ok, Res.of_some, Res.noX_ok, Res.run_ok, Ok_ok, Ok_bind, Ok_noX, Ok_nx, Ok_ret, Ok_brk, Ok_cnt, List.map_cons, List.map_nil, List.length_cons, List.length_nil, List.cons_append, List.nil_append, List.getElem?_cons_zero, List.getElem?_cons_succ, List.set_cons_zero, List.set_cons_succ, List.replicate_succ, List.replicate_zero, TX.bindT, TX.bindL, add_i, sub_i, fdiv_i, mod_i, band_i, add_t, add_s, add_l, lt_i, le_i, gt_i, ge_i, eq_i, ne_i, eq_s, ne_s, is_n, isn_n, is_b, isn_b, is_i, isn_i, is_tt, isn_tt, is_s, isn_s, is_l, isn_l, ix_t, ix_l, ix_c, ix_s, len_t, len_l, len_c, len_s, int_i, int_b, max_i, min_i, ord_s, list_t, list_l, list_c, tuple_t, tuple_l, tuple_c, all_l, tru_n, tru_b, tru_i, tru_s, tru_t, tru_l, at0, at1, at2, at3, at4, at5, at6, mul_r, mul_l, Option.map_some, Option.bind_some, shutR_nil, shutO_nil, ItV.now, wsOk, wipeC, plObj, chks_nil, compC_nil, loopC_nil, and_self, true_and, and_true, List.all_cons, List.all_nil, Bool.and_self, Bool.and_true, Bool.true_and, Bool.not_true, Bool.not_false, if_true, if_false, decide_true, decide_false, sz0, sz1, sz2, sz3, sz4, sz5, sz6, sz7, sz8, sz9, sz10, sz11, sz12, Nat.reduceLT, Nat.reduceAdd, Nat.reduceSub, Int.reduceLT, Int.reduceLE, Int.reduceToNat]
    refine ⟨.val (.int e.1), .val (bD e.2), rfl, ?_⟩
    rw [set_set, flF_more hj, List.map_set]
  · rintro ρ S' ⟨c1, c2, rfl, rfl⟩
    rw [Nat.zero_add, List.length_map, List.take_length]
    have g1 : (S.set 2 (.lst ((flF bs pd).map bD)) ++ [Cell.lst []])[1]? = some (Dsk p t k m) := by
      rw [List.getElem?_append_left (by rw [List.length_set]; exact l1)]
      exact (List.getElem?_set_ne (by decide)).trans h1
    simp only [p_pending g1, List.length_set, Df.start, ev_cst, ev_var, ev_bor, ev_tup, ev_lst, ev_rep, ev_bin, ev_neg, ev_cmp, ev_chn, ev_and, ev_or, ev_not, ev_ite, ev_ix, ev_sl, ev_call, ev_mk, ev_met, ev_fld, ev_shr, ev_bi, ev_join, ev_rev, ev_mth, ev_dnK, ev_dnT, ev_comp, evs_nil, evs_cons, evO_nil, evO_part, evI_rng1, evI_rng2, evI_rng3, evI_zip, evI_enm, evI_its, evI_it, o_skip, o_brk, o_cnt, o_seq, o_asg, o_own, o_ret, o_retO, o_expr, o_ite, o_loop, o_setI, o_setF, o_app, o_del, kS_ap, kAsg_ap, kOwn_ap, kEx_ap, kIte_ap, kIf_t, kIf_f, kLoop_ap, kPut_s, kSetF_ap, kApp_ap, kDel_ap, Res.bind_ok, Res.of_some, Res.noX_ok, Res.run_ok, Ok_ok, Ok_bind, Ok_noX, Ok_nx, Ok_ret, Ok_brk, Ok_cnt, List.map_cons, List.map_nil, List.length_cons, List.length_nil, List.cons_append, List.nil_append, List.getElem?_cons_zero, List.getElem?_cons_succ, List.set_cons_zero, List.set_cons_succ, List.replicate_succ, List.replicate_zero, TX.bindT, TX.bindL, add_i, sub_i, fdiv_i, mod_i, band_i, add_t, add_s, add_l, lt_i, le_i, gt_i, ge_i, eq_i, ne_i, eq_s, ne_s, is_n, isn_n, is_b, isn_b, is_i, isn_i, is_tt, isn_tt, is_s, isn_s, is_l, isn_l, ix_t, ix_l, ix_c, ix_s, len_t, len_l, len_c, len_s, int_i, int_b, max_i, min_i, ord_s, list_t, list_l, list_c, tuple_t, tuple_l, tuple_c, all_l, tru_n, tru_b, tru_i, tru_s, tru_t, tru_l, at0, at1, at2, at3, at4, at5, at6, mul_r, mul_l, Option.map_some, Option.bind_some, shutR_nil, shutO_nil, ItV.now, wsOk, wipeC, plObj, chks_nil, compC_nil, loopC_nil, and_self, true_and, and_true, List.all_cons, List.all_nil, Bool.and_self, Bool.and_true, Bool.true_and, Bool.not_true, Bool.not_false, if_true, if_false, decide_true, decide_false, sz0, sz1, sz2, sz3, sz4, sz5, sz6, sz7, sz8, sz9, sz10, sz11, sz12, Nat.reduceLT, Nat.reduceAdd, Nat.reduceSub, Int.reduceLT, Int.reduceLE, Int.reduceToNat]
    refine q _ ((Fr.refl.set (by simp)).app.set (by simp)) ?_ ?_ ?_
    · exact List.getElem?_set_self (by rw [List.length_append, List.length_set]; exact Nat.lt_of_lt_of_le l1 (Nat.le_add_right _ _))
    · rw [List.getElem?_set_ne (by decide), List.getElem?_append_left (by rw [List.length_set]; exact l2)]
      exact List.getElem?_set_self l2
    · rw [List.getElem?_set_ne (by omega), List.getElem?_append_right (by rw [List.length_set]; exact Nat.le_refl _), List.length_set, Nat.sub_self]
      rfl
theorem cut_h' (b : Bk) (c : Nat) (S : Sto) : slD S (bD b) none (some (c : Int)) = some (bD (b.take c)) := by
  show slD S (.lst _) none _ = _
  rw [sl_lh, ← List.map_take]
  rfl
theorem cut_l' (b : Bk) (c : Nat) (S : Sto) : slD S (bD b) (some (c : Int)) none = some (bD (b.drop c)) := by
  show slD S (.lst _) _ none = _
  rw [sl_ll, ← List.map_drop]
  rfl
theorem add_b (a b : Bk) (h : a.length + b.length ≤ 1000) (S : Sto) : binOp .add S (bD a) (bD b) = some (bD (a ++ b)) := by
  show binOp .add S (.lst _) (.lst _) = _
  rw [add_l (by rw [List.length_map, List.length_map]; exact Nat.le_trans h (by decide)), ← List.map_append]
  rfl
/-- every block has its size -/
def Sz (bs : List Bk) : Prop := ∀ b ∈ bs, b.length = 32
theorem Sz.get {bs : List Bk} (h : Sz bs) {a : Nat} (ha : a < bs.length) : (bs.getD a []).length = 32 := by
  rw [List.getD_eq_getElem?_getD, List.getElem?_eq_getElem ha]
  exact h _ (List.getElem_mem ha)
theorem Sz.set {bs : List Bk} (h : Sz bs) {a : Nat} {b : Bk} (hb : b.length = 32) : Sz (bs.set a b) := fun x hx => by
  rcases List.mem_or_eq_of_mem_set hx with z | z
  · exact h x z
  · rw [z]
    exact hb
theorem ct_size {bs : List Bk} (h : Sz bs) {e : Nat × Bk} (ha : e.1 < bs.length) (hb : e.2.length = 32) {ts : List Int} {i : Nat} : (e.2.take (tn ts i) ++ (bs.getD e.1 []).drop (tn ts i)).length = 32 := by
  rw [List.length_append, List.length_take, List.length_drop, h.get ha, hb]
  omega
theorem ctF_sz {ts : List Int} : ∀ {pd : List (Nat × Bk)} {i : Nat} {bs : List Bk}, Sz bs → (∀ e ∈ pd, e.1 < bs.length ∧ e.2.length = 32) → Sz (ctF ts i pd bs)
  | [], _, _, h, _ => h
  | e :: r, i, bs, h, he => by
    obtain ⟨h1, h2⟩ := he e List.mem_cons_self
    have z : Sz (ctS ts i e bs) := h.set (ct_size h h1 h2)
    have zl : (ctS ts i e bs).length = bs.length := List.length_set
    show Sz (ctF ts (i + 1) r (ctS ts i e bs))
    exact ctF_sz z fun x hx => by
      rw [zl]
      exact he x (List.mem_cons_of_mem _ hx)
theorem ctF_append {ts : List Int} : ∀ {a b : List (Nat × Bk)} {i : Nat} {bs : List Bk}, ctF ts i (a ++ b) bs = ctF ts (i + a.length) b (ctF ts i a bs)
  | [], b, i, bs => rfl
  | e :: r, b, i, bs => by
    show ctF ts (i + 1) (r ++ b) (ctS ts i e bs) = ctF ts (i + (r.length + 1)) b (ctF ts (i + 1) r (ctS ts i e bs))
    rw [ctF_append]
    congr 1
    omega
theorem ctF_far {ts : List Int} : ∀ {pd : List (Nat × Bk)} {i : Nat} {bs : List Bk}, ts.length ≤ i → (∀ e ∈ pd, e.1 < bs.length) → ctF ts i pd bs = bs
  | [], _, _, _, _ => rfl
  | e :: r, i, bs, h, he => by
    have t0 : tn ts i = 0 := by
      unfold tn
      rw [List.getD_eq_getElem?_getD, List.getElem?_eq_none h]
      rfl
    have ha := he e List.mem_cons_self
    have e1 : ctS ts i e bs = bs := by
      unfold ctS
      rw [t0, List.take_zero, List.drop_zero, List.nil_append, List.getD_eq_getElem?_getD, List.getElem?_eq_getElem ha]
      exact List.set_getElem_self ha
    show ctF ts (i + 1) r (ctS ts i e bs) = bs
    rw [e1]
    exact ctF_far (by omega) fun x hx => he x (List.mem_cons_of_mem _ hx)
theorem ctF_far' {pd : List (Nat × Bk)} {bs : List Bk} (h : ∀ e ∈ pd, e.1 < bs.length) : ctF [] 0 pd bs = bs := ctF_far (Nat.le_refl 0) h
theorem cutM_ok (n : Nat) (h1 : S[1]? = some (Dsk p t k m)) (h2 : S[2]? = some (.lst (bs.map bD))) (hp : S[p]? = some (.lst (pd.map eD))) (np : p ≠ 1 ∧ p ≠ 2) (he : ∀ e ∈ pd, e.1 < bs.length ∧ e.2.length = 32) (sz : Sz bs) {ts : List Int} (ht : ts.all okT = true) {yy : D} (hY : ∀ X : Cell, IsL (S.set 2 X) yy (ts.map D.int)) {P : D → Sto → Prop}
    (q : ∀ S' p' t', Fr S S' [1, 2] → S.length ≤ p' → S'[1]? = some (Dsk p' t' (k + 1) (-1)) → S'[2]? = some (.lst ((ctF ts 0 pd bs).map bD)) → S'[p']? = some (.lst (([] : List (Nat × Bk)).map eD)) → P .non S') : (runN T (n + 1) (.me "Disk" "_cut") [.loc 1, yy] S).Ok P := by
  have l1 := lt_of h1
  have l2 := lt_of h2
  refine meth_ok fDisk_cut rfl ?_
  simp only [tDisk_cut, g_pending h1, hp, enmI_l, shutO_cell, chks_cell hp, Df.start, ev_cst, ev_var, ev_bor, ev_tup, ev_lst, ev_rep, ev_bin, ev_neg, ev_cmp, ev_chn, ev_and, ev_or, ev_not, ev_ite, ev_ix, ev_sl, ev_call, ev_mk, ev_met, ev_fld, ev_shr, ev_bi, ev_join, ev_rev, ev_mth, ev_dnK, ev_dnT, ev_comp, evs_nil, evs_cons, evO_nil, evO_part, evI_rng1, evI_rng2, evI_rng3, evI_zip, evI_enm, evI_its, evI_it, o_skip, o_brk, o_cnt, o_seq, o_asg, o_own, o_ret, o_retO, o_expr, o_ite, o_loop, o_setI, o_setF, o_app, o_del, kS_ap, kAsg_ap, kOwn_ap, kEx_ap, kIte_ap, kIf_t, kIf_f, kLoop_ap, kPut_s, kSetF_ap, kApp_ap, kDel_ap, Res.bind_ok, Res.of_some, Res.noX_ok, Res.run_ok, Ok_ok, Ok_bind, Ok_noX, Ok_nx, Ok_ret, Ok_brk, Ok_cnt, List.map_cons, List.map_nil, List.length_cons, List.length_nil, List.cons_append, List.nil_append, List.getElem?_cons_zero, List.getElem?_cons_succ, List.set_cons_zero, List.set_cons_succ, List.replicate_succ, List.replicate_zero, TX.bindT, TX.bindL, add_i, sub_i, fdiv_i, mod_i, band_i, add_t, add_s, add_l, lt_i, le_i, gt_i, ge_i, eq_i, ne_i, eq_s, ne_s, is_n, isn_n, is_b, isn_b, is_i, isn_i, is_tt, isn_tt, is_s, isn_s, is_l, isn_l, ix_t, ix_l, ix_c, ix_s, len_t, len_l, len_c, len_s, int_i, int_b, max_i, min_i, ord_s, list_t, list_l, list_c, tuple_t, tuple_l, tuple_c, all_l, tru_n, tru_b, tru_i, tru_s, tru_t, tru_l, at0, at1, at2, at3, at4, at5, at6, mul_r, mul_l, Option.map_some, Option.bind_some, shutR_nil, shutO_nil, ItV.now, wsOk, wipeC, plObj, chks_nil, compC_nil, loopC_nil, and_self, true_and, and_true, List.all_cons, List.all_nil, Bool.and_self, Bool.and_true, Bool.true_and, Bool.not_true, Bool.not_false, if_true, if_false, decide_true, decide_false, sz0, sz1, sz2, sz3, sz4, sz5, sz6, sz7, sz8, sz9, sz10, sz11, sz12, Nat.reduceLT, Nat.reduceAdd, Nat.reduceSub, Int.reduceLT, Int.reduceLE, Int.reduceToNat]
  refine loopC_ok (i := 0) (fun i ρ S' => ∃ c2 c3 c4 c5 : C, ρ = [.val (.loc 1), .val yy, c2, c3, c4, c5] ∧ S' = S.set 2 (.lst ((ctF ts 0 (pd.take i) bs).map bD))) (fun i ρ S' ⟨_, _, _, _, _, e⟩ => by rw [e]; exact okC_cell ((List.getElem?_set_ne (Ne.symm np.2)).trans hp)) ⟨.und, .und, .und, .und, rfl, (set_same h2).symm⟩ ?_ ?_
  · rintro j x ρ S' hx ⟨c2, c3, c4, c5, rfl, rfl⟩
    rw [Nat.zero_add]
    rw [enmF_get, Option.map_eq_some_iff] at hx
    obtain ⟨y, hy, rfl⟩ := hx
    obtain ⟨e, hj, rfl⟩ := get_e hy
    rw [Nat.zero_add]
    obtain ⟨e1, e2⟩ := he e (List.mem_of_getElem? hj)
    have sz' : Sz (ctF ts 0 (pd.take j) bs) := ctF_sz sz fun x hx => he x (List.mem_of_mem_take hx)
    have g1 : (S.set 2 (.lst ((ctF ts 0 (pd.take j) bs).map bD)))[1]? = some (Dsk p t k m) := (List.getElem?_set_ne (by decide)).trans h1
    have g2 : (S.set 2 (.lst ((ctF ts 0 (pd.take j) bs).map bD)))[2]? = some (.lst ((ctF ts 0 (pd.take j) bs).map bD)) := List.getElem?_set_self l2
    have el : e.1 < (ctF ts 0 (pd.take j) bs).length := by rw [ctF_len]; exact e1
    have ix : L2.ixN ((ctF ts 0 (pd.take j) bs).map bD).length (e.1 : Int) = some e.1 := ixN_nat (by rw [List.length_map]; exact el)
    have ab := at_b g2 el
    have ad := add_b (e.2.take (tn ts j)) (((ctF ts 0 (pd.take j) bs).getD e.1 []).drop (tn ts j)) (by have := ct_size sz' el e2 (ts := ts) (i := j); rw [List.length_append] at this; omega)
    have fin : ∀ c : C, ∃ c2 c3 c4 c5 : C, ([.val (.loc 1), .val yy, .val (.int j), .val (.int e.1), .val (bD e.2), c] : TX.Env) = [.val (.loc 1), .val yy, c2, c3, c4, c5] ∧
        (S.set 2 (.lst ((ctF ts 0 (pd.take j) bs).map bD))).set 2 (.lst (((ctF ts 0 (pd.take j) bs).map bD).set e.1 (bD (e.2.take (tn ts j) ++ ((ctF ts 0 (pd.take j) bs).getD e.1 []).drop (tn ts j))))) = S.set 2 (.lst ((ctF ts 0 (pd.take (j + 1)) bs).map bD)) := fun c => ⟨_, _, _, _, rfl, by
      rw [set_set, ctF_more hj, Nat.zero_add, ctS, List.map_set]⟩
    by_cases c : j < ts.length
    · have ti : L2.atI (ts.map D.int) (j : Int) = some (.int (tn ts j)) := by
        rw [at_ints c]
        have h0 : okT ts[j] = true := List.all_eq_true.mp ht _ (List.getElem_mem c)
        unfold okT at h0
        rw [Bool.and_eq_true, decide_eq_true_eq, decide_eq_true_eq] at h0
        have : ts[j] = ((tn ts j : Nat) : Int) := by
          unfold tn
          rw [List.getD_eq_getElem?_getD, List.getElem?_eq_getElem c]
          show ts[j] = ((ts[j].toNat : Nat) : Int)
          omega
        rw [← this]
      have cl : (j : Int) < (((ts.map D.int).length : Nat) : Int) := by
        rw [List.length_map]
        omega
      simp only [turnS, tDisk_cut_b0, eD, (hY _).len, (hY _).ix, cl, ti, g_blocks g1, cut_h', ab, cut_l', ad, kPut_l g2 ix, Df.start, ev_cst, ev_var, ev_bor, ev_tup, ev_lst, ev_rep, ev_bin, ev_neg, ev_cmp, ev_chn, ev_and, ev_or, ev_not, ev_ite, ev_ix, ev_sl, ev_call, ev_mk, ev_met, ev_fld, ev_shr, ev_bi, ev_join, ev_rev, ev_mth, ev_dnK, ev_dnT, ev_comp, evs_nil, evs_cons, evO_nil, evO_part, evI_rng1, evI_rng2, evI_rng3, evI_zip, evI_enm, evI_its, evI_it, o_skip, o_brk, o_cnt, o_seq, o_asg, o_own, o_ret, o_retO, o_expr, o_ite, o_loop, o_setI, o_setF, o_app, o_del, kS_ap, kAsg_ap, kOwn_ap, kEx_ap, kIte_ap, kIf_t, kIf_f, kLoop_ap, kPut_s, kSetF_ap, kApp_ap, kDel_ap, Res.bind_ok, Res.of_some, Res.noX_ok, Res.run_ok, Ok_ok, Ok_bind, Ok_noX, Ok_nx, Ok_ret, Ok_brk, Ok_cnt, List.map_cons, List.map_nil, List.length_cons, List.length_nil, List.cons_append, List.nil_append, List.getElem?_cons_zero, List.getElem?_cons_succ, List.set_cons_zero, List.set_cons_succ, List.replicate_succ, List.replicate_zero, TX.bindT, TX.bindL, add_i, sub_i, fdiv_i, mod_i, band_i, add_t, add_s, add_l, lt_i, le_i, gt_i, ge_i, eq_i, ne_i, eq_s, ne_s, is_n, isn_n, is_b, isn_b, is_i, isn_i, is_tt, isn_tt, is_s, isn_s, is_l, isn_l, ix_t, ix_l, ix_c, ix_s, len_t, len_l, len_c, len_s, int_i, int_b, max_i, min_i, ord_s, list_t, list_l, list_c, tuple_t, tuple_l, tuple_c, all_l, tru_n, tru_b, tru_i, tru_s, tru_t, tru_l, at0, at1, at2, at3, at4, at5, at6, mul_r, mul_l, Option.map_some, Option.bind_some, shutR_nil, shutO_nil, ItV.now, wsOk, wipeC, plObj, chks_nil, compC_nil, loopC_nil, and_self, true_and, and_true, List.all_cons, List.all_nil, Bool.and_self, Bool.and_true, Bool.true_and, Bool.not_true, Bool.not_false, if_true, if_false, decide_true, decide_false, sz0, sz1, sz2, sz3, sz4, sz5, sz6, sz7, sz8, sz9, sz10, sz11, sz12, Nat.reduceLT, Nat.reduceAdd, Nat.reduceSub, Int.reduceLT, Int.reduceLE, Int.reduceToNat]
      exact fin _
    · have t0 : tn ts j = 0 := by
        unfold tn
        rw [List.getD_eq_getElem?_getD, List.getElem?_eq_none (by omega)]
        rfl
      have cl : ¬ (j : Int) < (((ts.map D.int).length : Nat) : Int) := by
        rw [List.length_map]
        omega
      have f0 := fin (.val (.int 0))
      have c1 : ∀ S, slD S (bD e.2) none (some 0) = some (bD (e.2.take (tn ts j))) := fun S => by
        rw [t0]
        exact cut_h' e.2 0 S
      have c2 : ∀ S, slD S (bD ((ctF ts 0 (pd.take j) bs).getD e.1 [])) (some 0) none = some (bD (((ctF ts 0 (pd.take j) bs).getD e.1 []).drop (tn ts j))) := fun S => by
        rw [t0]
        exact cut_l' _ 0 S
      simp only [turnS, tDisk_cut_b0, eD, (hY _).len, cl, g_blocks g1, c1, ab, c2, ad, kPut_l g2 ix, Df.start, ev_cst, ev_var, ev_bor, ev_tup, ev_lst, ev_rep, ev_bin, ev_neg, ev_cmp, ev_chn, ev_and, ev_or, ev_not, ev_ite, ev_ix, ev_sl, ev_call, ev_mk, ev_met, ev_fld, ev_shr, ev_bi, ev_join, ev_rev, ev_mth, ev_dnK, ev_dnT, ev_comp, evs_nil, evs_cons, evO_nil, evO_part, evI_rng1, evI_rng2, evI_rng3, evI_zip, evI_enm, evI_its, evI_it, o_skip, o_brk, o_cnt, o_seq, o_asg, o_own, o_ret, o_retO, o_expr, o_ite, o_loop, o_setI, o_setF, o_app, o_del, kS_ap, kAsg_ap, kOwn_ap, kEx_ap, kIte_ap, kIf_t, kIf_f, kLoop_ap, kPut_s, kSetF_ap, kApp_ap, kDel_ap, Res.bind_ok, Res.of_some, Res.noX_ok, Res.run_ok, Ok_ok, Ok_bind, Ok_noX, Ok_nx, Ok_ret, Ok_brk, Ok_cnt, List.map_cons, List.map_nil, List.length_cons, List.length_nil, List.cons_append, List.nil_append, List.getElem?_cons_zero, List.getElem?_cons_succ, List.set_cons_zero, List.set_cons_succ, List.replicate_succ, List.replicate_zero, TX.bindT, TX.bindL, add_i, sub_i, fdiv_i, mod_i, band_i, add_t, add_s, add_l, lt_i, le_i, gt_i, ge_i, eq_i, ne_i, eq_s, ne_s, is_n, isn_n, is_b, isn_b, is_i, isn_i, is_tt, isn_tt, is_s, isn_s, is_l, isn_l, ix_t, ix_l, ix_c, ix_s, len_t, len_l, len_c, len_s, int_i, int_b, max_i, min_i, ord_s, list_t, list_l, list_c, tuple_t, tuple_l, tuple_c, all_l, tru_n, tru_b, tru_i, tru_s, tru_t, tru_l, at0, at1, at2, at3, at4, at5, at6, mul_r, mul_l, Option.map_some, Option.bind_some, shutR_nil, shutO_nil, ItV.now, wsOk, wipeC, plObj, chks_nil, compC_nil, loopC_nil, and_self, true_and, and_true, List.all_cons, List.all_nil, Bool.and_self, Bool.and_true, Bool.true_and, Bool.not_true, Bool.not_false, if_true, if_false, decide_true, decide_false, sz0, sz1, sz2, sz3, sz4, sz5, sz6, sz7, sz8, sz9, sz10, sz11, sz12, Nat.reduceLT, Nat.reduceAdd, Nat.reduceSub, Int.reduceLT, Int.reduceLE, Int.reduceToNat]
      exact f0
  · rintro ρ S' ⟨c2, c3, c4, c5, rfl, rfl⟩
    rw [Nat.zero_add, enmF_len, List.length_map, List.take_length]
    generalize hS1 : (S.set 2 (Cell.lst ((ctF ts 0 pd bs).map bD)) : Sto) = S1
    have e1 : S1.length = S.length := by rw [← hS1, List.length_set]
    have g1 : (S1 ++ [Cell.lst []])[1]? = some (Dsk p t k m) := by
      rw [List.getElem?_append_left (by rw [e1]; exact l1), ← hS1]
      exact (List.getElem?_set_ne (by decide)).trans h1
    have up : ∀ {S : Sto} {c c' : Cell}, S[1]? = some c → (S.set 1 c')[1]? = some c' := fun h => List.getElem?_set_self (lt_of h)
    have g3 := up (c' := Dsk S1.length t k m) g1
    have g4 := up (c' := Dsk S1.length t (k + 1) m) g3
    have g5 := up (c' := Dsk S1.length t (k + 1) (-1)) g4
    have g6 : (((((S1 ++ [Cell.lst []]).set 1 (Dsk S1.length t k m)).set 1 (Dsk S1.length t (k + 1) m)).set 1 (Dsk S1.length t (k + 1) (-1))) ++ [Cell.lst []])[1]? = some (Dsk S1.length t (k + 1) (-1)) := by
      rw [List.getElem?_append_left (lt_of g5)]
      exact g5
    simp only [p_pending g1, g_cuts g3, p_cuts g3, p_left g4 (-1) .non rfl, p_torn g6, Df.start, ev_cst, ev_var, ev_bor, ev_tup, ev_lst, ev_rep, ev_bin, ev_neg, ev_cmp, ev_chn, ev_and, ev_or, ev_not, ev_ite, ev_ix, ev_sl, ev_call, ev_mk, ev_met, ev_fld, ev_shr, ev_bi, ev_join, ev_rev, ev_mth, ev_dnK, ev_dnT, ev_comp, evs_nil, evs_cons, evO_nil, evO_part, evI_rng1, evI_rng2, evI_rng3, evI_zip, evI_enm, evI_its, evI_it, o_skip, o_brk, o_cnt, o_seq, o_asg, o_own, o_ret, o_retO, o_expr, o_ite, o_loop, o_setI, o_setF, o_app, o_del, kS_ap, kAsg_ap, kOwn_ap, kEx_ap, kIte_ap, kIf_t, kIf_f, kLoop_ap, kPut_s, kSetF_ap, kApp_ap, kDel_ap, Res.bind_ok, Res.of_some, Res.noX_ok, Res.run_ok, Ok_ok, Ok_bind, Ok_noX, Ok_nx, Ok_ret, Ok_brk, Ok_cnt, List.map_cons, List.map_nil, List.length_cons, List.length_nil, List.cons_append, List.nil_append, List.getElem?_cons_zero, List.getElem?_cons_succ, List.set_cons_zero, List.set_cons_succ, List.replicate_succ, List.replicate_zero, TX.bindT, TX.bindL, add_i, sub_i, fdiv_i, mod_i, band_i, add_t, add_s, add_l, lt_i, le_i, gt_i, ge_i, eq_i, ne_i, eq_s, ne_s, is_n, isn_n, is_b, isn_b, is_i, isn_i, is_tt, isn_tt, is_s, isn_s, is_l, isn_l, ix_t, ix_l, ix_c, ix_s, len_t, len_l, len_c, len_s, int_i, int_b, max_i, min_i, ord_s, list_t, list_l, list_c, tuple_t, tuple_l, tuple_c, all_l, tru_n, tru_b, tru_i, tru_s, tru_t, tru_l, at0, at1, at2, at3, at4, at5, at6, mul_r, mul_l, Option.map_some, Option.bind_some, shutR_nil, shutO_nil, ItV.now, wsOk, wipeC, plObj, chks_nil, compC_nil, loopC_nil, and_self, true_and, and_true, List.all_cons, List.all_nil, Bool.and_self, Bool.and_true, Bool.true_and, Bool.not_true, Bool.not_false, if_true, if_false, decide_true, decide_false, sz0, sz1, sz2, sz3, sz4, sz5, sz6, sz7, sz8, sz9, sz10, sz11, sz12, Nat.reduceLT, Nat.reduceAdd, Nat.reduceSub, Int.reduceLT, Int.reduceLE, Int.reduceToNat]
    refine q _ S1.length _ ?_ (by rw [e1]; exact Nat.le_refl _) (up g6) ?_ ?_
    · rw [← hS1]
      exact (((((Fr.refl.set (by simp)).app.set (by simp)).set (by simp)).set (by simp)).app.set (by simp))
    · rw [List.getElem?_set_ne (by decide), List.getElem?_append_left (by simp only [List.length_set, List.length_append]; omega), List.getElem?_set_ne (by decide), List.getElem?_set_ne (by decide), List.getElem?_set_ne (by decide), List.getElem?_append_left (by omega), ← hS1]
      exact List.getElem?_set_self l2
    · rw [List.getElem?_set_ne (by omega), List.getElem?_append_left (by simp only [List.length_set, List.length_append, List.length_singleton]; omega), List.getElem?_set_ne (by omega), List.getElem?_set_ne (by omega), List.getElem?_set_ne (by omega), List.getElem?_append_right (Nat.le_refl _), Nat.sub_self]
      rfl
theorem power_ok (n : Nat) (h1 : S[1]? = some (Dsk p t k m)) (h2 : S[2]? = some (.lst (bs.map bD))) (hp : S[p]? = some (.lst (pd.map eD))) (np : p ≠ 1 ∧ p ≠ 2) (he : ∀ e ∈ pd, e.1 < bs.length ∧ e.2.length = 32) (sz : Sz bs) {P : D → Sto → Prop}
    (q : ∀ S' p' t', Fr S S' [1, 2] → S.length ≤ p' → S'[1]? = some (Dsk p' t' (k + 1) (-1)) → S'[2]? = some (.lst (bs.map bD)) → S'[p']? = some (.lst (([] : List (Nat × Bk)).map eD)) → P .non S') : (runN T (n + 2) (.me "Disk" "cut_power") [.loc 1, .lst []] S).Ok P := by
  refine meth_ok fDisk_cut_power rfl ?_
  have ct : TX.runN T (n + 1) (.fn "_check_torn") [.lst []] S = _ := check_torn_ok n [] S rfl
  have ef : ctF [] 0 pd bs = bs := ctF_far' fun e h => (he e h).1
  simp only [tDisk_cut_power, ct, m_cut h1, Df.start, ev_cst, ev_var, ev_bor, ev_tup, ev_lst, ev_rep, ev_bin, ev_neg, ev_cmp, ev_chn, ev_and, ev_or, ev_not, ev_ite, ev_ix, ev_sl, ev_call, ev_mk, ev_met, ev_fld, ev_shr, ev_bi, ev_join, ev_rev, ev_mth, ev_dnK, ev_dnT, ev_comp, evs_nil, evs_cons, evO_nil, evO_part, evI_rng1, evI_rng2, evI_rng3, evI_zip, evI_enm, evI_its, evI_it, o_skip, o_brk, o_cnt, o_seq, o_asg, o_own, o_ret, o_retO, o_expr, o_ite, o_loop, o_setI, o_setF, o_app, o_del, kS_ap, kAsg_ap, kOwn_ap, kEx_ap, kIte_ap, kIf_t, kIf_f, kLoop_ap, kPut_s, kSetF_ap, kApp_ap, kDel_ap, Res.bind_ok, Res.of_some, Res.noX_ok, Res.run_ok, Ok_ok, Ok_bind, Ok_noX, Ok_nx, Ok_ret, Ok_brk, Ok_cnt, List.map_cons, List.map_nil, List.length_cons, List.length_nil, List.cons_append, List.nil_append, List.getElem?_cons_zero, List.getElem?_cons_succ, List.set_cons_zero, List.set_cons_succ, List.replicate_succ, List.replicate_zero, TX.bindT, TX.bindL, add_i, sub_i, fdiv_i, mod_i, band_i, add_t, add_s, add_l, lt_i, le_i, gt_i, ge_i, eq_i, ne_i, eq_s, ne_s, is_n, isn_n, is_b, isn_b, is_i, isn_i, is_tt, isn_tt, is_s, isn_s, is_l, isn_l, ix_t, ix_l, ix_c, ix_s, len_t, len_l, len_c, len_s, int_i, int_b, max_i, min_i, ord_s, list_t, list_l, list_c, tuple_t, tuple_l, tuple_c, all_l, tru_n, tru_b, tru_i, tru_s, tru_t, tru_l, at0, at1, at2, at3, at4, at5, at6, mul_r, mul_l, Option.map_some, Option.bind_some, shutR_nil, shutO_nil, ItV.now, wsOk, wipeC, plObj, chks_nil, compC_nil, loopC_nil, and_self, true_and, and_true, List.all_cons, List.all_nil, Bool.and_self, Bool.and_true, Bool.true_and, Bool.not_true, Bool.not_false, if_true, if_false, decide_true, decide_false, sz0, sz1, sz2, sz3, sz4, sz5, sz6, sz7, sz8, sz9, sz10, sz11, sz12, Nat.reduceLT, Nat.reduceAdd, Nat.reduceSub, Int.reduceLT, Int.reduceLE, Int.reduceToNat]
  refine cutM_ok n h1 h2 hp np he sz (ts := []) rfl (yy := .lst []) (fun _ => .inl rfl) fun S' p' t' f a b c d => ?_
  simp only [Df.start, ev_cst, ev_var, ev_bor, ev_tup, ev_lst, ev_rep, ev_bin, ev_neg, ev_cmp, ev_chn, ev_and, ev_or, ev_not, ev_ite, ev_ix, ev_sl, ev_call, ev_mk, ev_met, ev_fld, ev_shr, ev_bi, ev_join, ev_rev, ev_mth, ev_dnK, ev_dnT, ev_comp, evs_nil, evs_cons, evO_nil, evO_part, evI_rng1, evI_rng2, evI_rng3, evI_zip, evI_enm, evI_its, evI_it, o_skip, o_brk, o_cnt, o_seq, o_asg, o_own, o_ret, o_retO, o_expr, o_ite, o_loop, o_setI, o_setF, o_app, o_del, kS_ap, kAsg_ap, kOwn_ap, kEx_ap, kIte_ap, kIf_t, kIf_f, kLoop_ap, kPut_s, kSetF_ap, kApp_ap, kDel_ap, Res.bind_ok, Res.of_some, Res.noX_ok, Res.run_ok, Ok_ok, Ok_bind, Ok_noX, Ok_nx, Ok_ret, Ok_brk, Ok_cnt, List.map_cons, List.map_nil, List.length_cons, List.length_nil, List.cons_append, List.nil_append, List.getElem?_cons_zero, List.getElem?_cons_succ, List.set_cons_zero, List.set_cons_succ, List.replicate_succ, List.replicate_zero, TX.bindT, TX.bindL, add_i, sub_i, fdiv_i, mod_i, band_i, add_t, add_s, add_l, lt_i, le_i, gt_i, ge_i, eq_i, ne_i, eq_s, ne_s, is_n, isn_n, is_b, isn_b, is_i, isn_i, is_tt, isn_tt, is_s, isn_s, is_l, isn_l, ix_t, ix_l, ix_c, ix_s, len_t, len_l, len_c, len_s, int_i, int_b, max_i, min_i, ord_s, list_t, list_l, list_c, tuple_t, tuple_l, tuple_c, all_l, tru_n, tru_b, tru_i, tru_s, tru_t, tru_l, at0, at1, at2, at3, at4, at5, at6, mul_r, mul_l, Option.map_some, Option.bind_some, shutR_nil, shutO_nil, ItV.now, wsOk, wipeC, plObj, chks_nil, compC_nil, loopC_nil, and_self, true_and, and_true, List.all_cons, List.all_nil, Bool.and_self, Bool.and_true, Bool.true_and, Bool.not_true, Bool.not_false, if_true, if_false, decide_true, decide_false, sz0, sz1, sz2, sz3, sz4, sz5, sz6, sz7, sz8, sz9, sz10, sz11, sz12, Nat.reduceLT, Nat.reduceAdd, Nat.reduceSub, Int.reduceLT, Int.reduceLE, Int.reduceToNat]
  rw [ef] at c
  exact q S' p' t' f a b c d
/-- the power is cut -/
theorem spend0 (n : Nat) (h1 : S[1]? = some (Dsk p t k 0)) (h2 : S[2]? = some (.lst (bs.map bD))) (hp : S[p]? = some (.lst (pd.map eD))) (np : p ≠ 1 ∧ p ≠ 2) (he : ∀ e ∈ pd, e.1 < bs.length ∧ e.2.length = 32) (sz : Sz bs) {ts : List Int} (ht : ts.all okT = true) (hT : S[t]? = some (.lst (ts.map D.int))) (nt : t ≠ 2) :
    ∃ S' p' t', Fr S S' [1, 2] ∧ S.length ≤ p' ∧ S'[1]? = some (Dsk p' t' (k + 1) (-1)) ∧ S'[2]? = some (.lst ((ctF ts 0 pd bs).map bD)) ∧ S'[p']? = some (.lst (([] : List (Nat × Bk)).map eD)) ∧ runN T (n + 2) (.me "Disk" "_spend") [.loc 1] S = .exc (Str.ofString "PowerCut") none S' := by
  obtain ⟨v, S', e, rfl, p', t', a1, a2, a3, a4, a5⟩ := (cutM_ok n h1 h2 hp np he sz ht (yy := .loc t) (fun X => .inr ⟨t, rfl, (List.getElem?_set_ne (Ne.symm nt)).trans hT⟩) (P := fun v S' => v = .non ∧ ∃ p' t', Fr S S' [1, 2] ∧ S.length ≤ p' ∧ S'[1]? = some (Dsk p' t' (k + 1) (-1)) ∧ S'[2]? = some (.lst ((ctF ts 0 pd bs).map bD)) ∧ S'[p']? = some (.lst (([] : List (Nat × Bk)).map eD)))
    fun S' p' t' a b c d e => ⟨rfl, p', t', a, b, c, d, e⟩).eq
  refine ⟨S', p', t', a1, a2, a3, a4, a5, (me_eq fDisk_spend rfl (o := .exc _ _ [.val (.loc 1)] S') ?_).trans rfl⟩
  have e0 : lfD 0 = .int 0 := rfl
  simp only [tDisk_spend, g_left h1, g_torn h1, e0, m_cut h1, e, eq_self, Df.start, ev_cst, ev_var, ev_bor, ev_tup, ev_lst, ev_rep, ev_bin, ev_neg, ev_cmp, ev_chn, ev_and, ev_or, ev_not, ev_ite, ev_ix, ev_sl, ev_call, ev_mk, ev_met, ev_fld, ev_shr, ev_bi, ev_join, ev_rev, ev_mth, ev_dnK, ev_dnT, ev_comp, evs_nil, evs_cons, evO_nil, evO_part, evI_rng1, evI_rng2, evI_rng3, evI_zip, evI_enm, evI_its, evI_it, ex_skip, ex_brk, ex_cnt, ex_seq, ex_asg, ex_own, ex_ret, ex_retO, ex_expr, ex_ite, ex_loop, ex_setI, ex_setF, ex_app, ex_del, kS_ap, kAsg_ap, kOwn_ap, kEx_ap, kIte_ap, kIf_t, kIf_f, kLoop_ap, kPut_s, kSetF_ap, kApp_ap, kDel_ap, Res.bind_ok, Res.of_some, Res.noX_ok, Res.run_ok, Ok_ok, Ok_bind, Ok_noX, Ok_nx, Ok_ret, Ok_brk, Ok_cnt, List.map_cons, List.map_nil, List.length_cons, List.length_nil, List.cons_append, List.nil_append, List.getElem?_cons_zero, List.getElem?_cons_succ, List.set_cons_zero, List.set_cons_succ, List.replicate_succ, List.replicate_zero, TX.bindT, TX.bindL, add_i, sub_i, fdiv_i, mod_i, band_i, add_t, add_s, add_l, lt_i, le_i, gt_i, ge_i, eq_i, ne_i, eq_s, ne_s, is_n, isn_n, is_b, isn_b, is_i, isn_i, is_tt, isn_tt, is_s, isn_s, is_l, isn_l, ix_t, ix_l, ix_c, ix_s, len_t, len_l, len_c, len_s, int_i, int_b, max_i, min_i, ord_s, list_t, list_l, list_c, tuple_t, tuple_l, tuple_c, all_l, tru_n, tru_b, tru_i, tru_s, tru_t, tru_l, at0, at1, at2, at3, at4, at5, at6, mul_r, mul_l, Option.map_some, Option.bind_some, shutR_nil, shutO_nil, ItV.now, wsOk, wipeC, plObj, chks_nil, compC_nil, loopC_nil, and_self, true_and, and_true, List.all_cons, List.all_nil, Bool.and_self, Bool.and_true, Bool.true_and, Bool.not_true, Bool.not_false, if_true, if_false, decide_true, decide_false, sz0, sz1, sz2, sz3, sz4, sz5, sz6, sz7, sz8, sz9, sz10, sz11, sz12, Nat.reduceLT, Nat.reduceAdd, Nat.reduceSub, Int.reduceLT, Int.reduceLE, Int.reduceToNat, ex_raise, ex_raise2, ex_tryc, ex_whl, Out.next_nx, Out.next_ret, Out.next_exc, Out.next_brk, Out.next_cnt, Out.turn_nx, Out.turn_ret, Out.turn_exc, Out.turn_brk, Out.turn_cnt, Res.bind_exc, Res.run_exc]
theorem sched_ok (n : Nat) (h1 : S[1]? = some (Dsk p t k m)) {w : Int} (hw : 0 ≤ w) (hw' : w ≤ 100000) {y : D} {ts : List Int} (hy : IsL S y (ts.map D.int)) (ht : ts.all okT = true) :
    runN T (n + 2) (.me "Disk" "schedule_cut") [.loc 1, .int w, y] S = .ok .non (((S.set 1 (Dsk p t k w)) ++ [Cell.lst (ts.map D.int)]).set 1 (Dsk p S.length k w)) := by
  have ct : runN T (n + 1) (.fn "_check_torn") [y] S = .ok .non S := by
    rcases hy with rfl | ⟨l, rfl, hl⟩
    · exact check_torn_ok n ts S ht
    · exact check_torn_loc n ts S hl ht
  have l1 := lt_of h1
  have g1 : ((S.set 1 (Dsk p t k w)) ++ [Cell.lst (ts.map D.int)])[1]? = some (Dsk p t k w) := by
    rw [List.getElem?_append_left (by rw [List.length_set]; exact l1)]
    exact List.getElem?_set_self l1
  have p1 := p_left h1 w (.int w) (if_neg (by omega))
  have yl : biOp .list (S.set 1 (Dsk p t k w)) [y] = some (.lst (ts.map D.int)) := by
    rcases hy with rfl | ⟨l, rfl, hl⟩
    · rfl
    · by_cases c : l = 1
      · subst c
        rw [h1] at hl
        cases hl
      · exact list_loc ((List.getElem?_set_ne (Ne.symm c)).trans hl)
  have p2 := p_torn g1 S.length
  refine (me_eq fDisk_schedule_cut rfl (o := .nx [.val (.loc 1), .val (.int w), .val y] (((S.set 1 (Dsk p t k w)) ++ [Cell.lst (ts.map D.int)]).set 1 (Dsk p S.length k w))) ?_).trans rfl
  simp only [tDisk_schedule_cut, hw, hw', ct, p1, yl, p2, List.length_set, Df.start, ev_cst, ev_var, ev_bor, ev_tup, ev_lst, ev_rep, ev_bin, ev_neg, ev_cmp, ev_chn, ev_and, ev_or, ev_not, ev_ite, ev_ix, ev_sl, ev_call, ev_mk, ev_met, ev_fld, ev_shr, ev_bi, ev_join, ev_rev, ev_mth, ev_dnK, ev_dnT, ev_comp, evs_nil, evs_cons, evO_nil, evO_part, evI_rng1, evI_rng2, evI_rng3, evI_zip, evI_enm, evI_its, evI_it, ex_skip, ex_brk, ex_cnt, ex_seq, ex_asg, ex_own, ex_ret, ex_retO, ex_expr, ex_ite, ex_loop, ex_setI, ex_setF, ex_app, ex_del, kS_ap, kAsg_ap, kOwn_ap, kEx_ap, kIte_ap, kIf_t, kIf_f, kLoop_ap, kPut_s, kSetF_ap, kApp_ap, kDel_ap, Res.bind_ok, Res.of_some, Res.noX_ok, Res.run_ok, Ok_ok, Ok_bind, Ok_noX, Ok_nx, Ok_ret, Ok_brk, Ok_cnt, List.map_cons, List.map_nil, List.length_cons, List.length_nil, List.cons_append, List.nil_append, List.getElem?_cons_zero, List.getElem?_cons_succ, List.set_cons_zero, List.set_cons_succ, List.replicate_succ, List.replicate_zero, TX.bindT, TX.bindL, add_i, sub_i, fdiv_i, mod_i, band_i, add_t, add_s, add_l, lt_i, le_i, gt_i, ge_i, eq_i, ne_i, eq_s, ne_s, is_n, isn_n, is_b, isn_b, is_i, isn_i, is_tt, isn_tt, is_s, isn_s, is_l, isn_l, ix_t, ix_l, ix_c, ix_s, len_t, len_l, len_c, len_s, int_i, int_b, max_i, min_i, ord_s, list_t, list_l, list_c, tuple_t, tuple_l, tuple_c, all_l, tru_n, tru_b, tru_i, tru_s, tru_t, tru_l, at0, at1, at2, at3, at4, at5, at6, mul_r, mul_l, Option.map_some, Option.bind_some, shutR_nil, shutO_nil, ItV.now, wsOk, wipeC, plObj, chks_nil, compC_nil, loopC_nil, and_self, true_and, and_true, List.all_cons, List.all_nil, Bool.and_self, Bool.and_true, Bool.true_and, Bool.not_true, Bool.not_false, if_true, if_false, decide_true, decide_false, sz0, sz1, sz2, sz3, sz4, sz5, sz6, sz7, sz8, sz9, sz10, sz11, sz12, Nat.reduceLT, Nat.reduceAdd, Nat.reduceSub, Int.reduceLT, Int.reduceLE, Int.reduceToNat, ex_raise, ex_raise2, ex_tryc, ex_whl, Out.next_nx, Out.next_ret, Out.next_exc, Out.next_brk, Out.next_cnt, Out.turn_nx, Out.turn_ret, Out.turn_exc, Out.turn_brk, Out.turn_cnt, Res.bind_exc, Res.run_exc]
theorem sched_bad1 (n : Nat) {w : Int} (h : ¬ (0 ≤ w ∧ w ≤ 100000)) {y : D} : runN T (n + 2) (.me "Disk" "schedule_cut") [.loc 1, .int w, y] S = .exc (Str.ofString "OutOfRange") (some (.str (Str.ofString "many"))) S := by
  refine (me_eq fDisk_schedule_cut rfl (o := .exc _ _ [.val (.loc 1), .val (.int w), .val y] S) ?_).trans rfl
  by_cases c : 0 ≤ w
  · have c' : ¬ w ≤ 100000 := fun z => h ⟨c, z⟩
    simp only [tDisk_schedule_cut, c, c', Df.start, ev_cst, ev_var, ev_bor, ev_tup, ev_lst, ev_rep, ev_bin, ev_neg, ev_cmp, ev_chn, ev_and, ev_or, ev_not, ev_ite, ev_ix, ev_sl, ev_call, ev_mk, ev_met, ev_fld, ev_shr, ev_bi, ev_join, ev_rev, ev_mth, ev_dnK, ev_dnT, ev_comp, evs_nil, evs_cons, evO_nil, evO_part, evI_rng1, evI_rng2, evI_rng3, evI_zip, evI_enm, evI_its, evI_it, ex_skip, ex_brk, ex_cnt, ex_seq, ex_asg, ex_own, ex_ret, ex_retO, ex_expr, ex_ite, ex_loop, ex_setI, ex_setF, ex_app, ex_del, kS_ap, kAsg_ap, kOwn_ap, kEx_ap, kIte_ap, kIf_t, kIf_f, kLoop_ap, kPut_s, kSetF_ap, kApp_ap, kDel_ap, Res.bind_ok, Res.of_some, Res.noX_ok, Res.run_ok, Ok_ok, Ok_bind, Ok_noX, Ok_nx, Ok_ret, Ok_brk, Ok_cnt, List.map_cons, List.map_nil, List.length_cons, List.length_nil, List.cons_append, List.nil_append, List.getElem?_cons_zero, List.getElem?_cons_succ, List.set_cons_zero, List.set_cons_succ, List.replicate_succ, List.replicate_zero, TX.bindT, TX.bindL, add_i, sub_i, fdiv_i, mod_i, band_i, add_t, add_s, add_l, lt_i, le_i, gt_i, ge_i, eq_i, ne_i, eq_s, ne_s, is_n, isn_n, is_b, isn_b, is_i, isn_i, is_tt, isn_tt, is_s, isn_s, is_l, isn_l, ix_t, ix_l, ix_c, ix_s, len_t, len_l, len_c, len_s, int_i, int_b, max_i, min_i, ord_s, list_t, list_l, list_c, tuple_t, tuple_l, tuple_c, all_l, tru_n, tru_b, tru_i, tru_s, tru_t, tru_l, at0, at1, at2, at3, at4, at5, at6, mul_r, mul_l, Option.map_some, Option.bind_some, shutR_nil, shutO_nil, ItV.now, wsOk, wipeC, plObj, chks_nil, compC_nil, loopC_nil, and_self, true_and, and_true, List.all_cons, List.all_nil, Bool.and_self, Bool.and_true, Bool.true_and, Bool.not_true, Bool.not_false, if_true, if_false, decide_true, decide_false, sz0, sz1, sz2, sz3, sz4, sz5, sz6, sz7, sz8, sz9, sz10, sz11, sz12, Nat.reduceLT, Nat.reduceAdd, Nat.reduceSub, Int.reduceLT, Int.reduceLE, Int.reduceToNat, ex_raise, ex_raise2, ex_tryc, ex_whl, Out.next_nx, Out.next_ret, Out.next_exc, Out.next_brk, Out.next_cnt, Out.turn_nx, Out.turn_ret, Out.turn_exc, Out.turn_brk, Out.turn_cnt, Res.bind_exc, Res.run_exc]
  · simp only [tDisk_schedule_cut, c, Df.start, ev_cst, ev_var, ev_bor, ev_tup, ev_lst, ev_rep, ev_bin, ev_neg, ev_cmp, ev_chn, ev_and, ev_or, ev_not, ev_ite, ev_ix, ev_sl, ev_call, ev_mk, ev_met, ev_fld, ev_shr, ev_bi, ev_join, ev_rev, ev_mth, ev_dnK, ev_dnT, ev_comp, evs_nil, evs_cons, evO_nil, evO_part, evI_rng1, evI_rng2, evI_rng3, evI_zip, evI_enm, evI_its, evI_it, ex_skip, ex_brk, ex_cnt, ex_seq, ex_asg, ex_own, ex_ret, ex_retO, ex_expr, ex_ite, ex_loop, ex_setI, ex_setF, ex_app, ex_del, kS_ap, kAsg_ap, kOwn_ap, kEx_ap, kIte_ap, kIf_t, kIf_f, kLoop_ap, kPut_s, kSetF_ap, kApp_ap, kDel_ap, Res.bind_ok, Res.of_some, Res.noX_ok, Res.run_ok, Ok_ok, Ok_bind, Ok_noX, Ok_nx, Ok_ret, Ok_brk, Ok_cnt, List.map_cons, List.map_nil, List.length_cons, List.length_nil, List.cons_append, List.nil_append, List.getElem?_cons_zero, List.getElem?_cons_succ, List.set_cons_zero, List.set_cons_succ, List.replicate_succ, List.replicate_zero, TX.bindT, TX.bindL, add_i, sub_i, fdiv_i, mod_i, band_i, add_t, add_s, add_l, lt_i, le_i, gt_i, ge_i, eq_i, ne_i, eq_s, ne_s, is_n, isn_n, is_b, isn_b, is_i, isn_i, is_tt, isn_tt, is_s, isn_s, is_l, isn_l, ix_t, ix_l, ix_c, ix_s, len_t, len_l, len_c, len_s, int_i, int_b, max_i, min_i, ord_s, list_t, list_l, list_c, tuple_t, tuple_l, tuple_c, all_l, tru_n, tru_b, tru_i, tru_s, tru_t, tru_l, at0, at1, at2, at3, at4, at5, at6, mul_r, mul_l, Option.map_some, Option.bind_some, shutR_nil, shutO_nil, ItV.now, wsOk, wipeC, plObj, chks_nil, compC_nil, loopC_nil, and_self, true_and, and_true, List.all_cons, List.all_nil, Bool.and_self, Bool.and_true, Bool.true_and, Bool.not_true, Bool.not_false, if_true, if_false, decide_true, decide_false, sz0, sz1, sz2, sz3, sz4, sz5, sz6, sz7, sz8, sz9, sz10, sz11, sz12, Nat.reduceLT, Nat.reduceAdd, Nat.reduceSub, Int.reduceLT, Int.reduceLE, Int.reduceToNat, ex_raise, ex_raise2, ex_tryc, ex_whl, Out.next_nx, Out.next_ret, Out.next_exc, Out.next_brk, Out.next_cnt, Out.turn_nx, Out.turn_ret, Out.turn_exc, Out.turn_brk, Out.turn_cnt, Res.bind_exc, Res.run_exc]
theorem sched_bad2 (n : Nat) {w : Int} (hw : 0 ≤ w) (hw' : w ≤ 100000) {ts : List Int} (ht : ts.all okT = false) : runN T (n + 2) (.me "Disk" "schedule_cut") [.loc 1, .int w, .lst (ts.map D.int)] S = .exc (Str.ofString "OutOfRange") (some (.str (Str.ofString "torn"))) S := by
  refine (me_eq fDisk_schedule_cut rfl (o := .exc _ _ [.val (.loc 1), .val (.int w), .val (.lst (ts.map D.int))] S) ?_).trans rfl
  simp only [tDisk_schedule_cut, hw, hw', check_torn_bad n ts S ht, Df.start, ev_cst, ev_var, ev_bor, ev_tup, ev_lst, ev_rep, ev_bin, ev_neg, ev_cmp, ev_chn, ev_and, ev_or, ev_not, ev_ite, ev_ix, ev_sl, ev_call, ev_mk, ev_met, ev_fld, ev_shr, ev_bi, ev_join, ev_rev, ev_mth, ev_dnK, ev_dnT, ev_comp, evs_nil, evs_cons, evO_nil, evO_part, evI_rng1, evI_rng2, evI_rng3, evI_zip, evI_enm, evI_its, evI_it, ex_skip, ex_brk, ex_cnt, ex_seq, ex_asg, ex_own, ex_ret, ex_retO, ex_expr, ex_ite, ex_loop, ex_setI, ex_setF, ex_app, ex_del, kS_ap, kAsg_ap, kOwn_ap, kEx_ap, kIte_ap, kIf_t, kIf_f, kLoop_ap, kPut_s, kSetF_ap, kApp_ap, kDel_ap, Res.bind_ok, Res.of_some, Res.noX_ok, Res.run_ok, Ok_ok, Ok_bind, Ok_noX, Ok_nx, Ok_ret, Ok_brk, Ok_cnt, List.map_cons, List.map_nil, List.length_cons, List.length_nil, List.cons_append, List.nil_append, List.getElem?_cons_zero, List.getElem?_cons_succ, List.set_cons_zero, List.set_cons_succ, List.replicate_succ, List.replicate_zero, TX.bindT, TX.bindL, add_i, sub_i, fdiv_i, mod_i, band_i, add_t, add_s, add_l, lt_i, le_i, gt_i, ge_i, eq_i, ne_i, eq_s, ne_s, is_n, isn_n, is_b, isn_b, is_i, isn_i, is_tt, isn_tt, is_s, isn_s, is_l, isn_l, ix_t, ix_l, ix_c, ix_s, len_t, len_l, len_c, len_s, int_i, int_b, max_i, min_i, ord_s, list_t, list_l, list_c, tuple_t, tuple_l, tuple_c, all_l, tru_n, tru_b, tru_i, tru_s, tru_t, tru_l, at0, at1, at2, at3, at4, at5, at6, mul_r, mul_l, Option.map_some, Option.bind_some, shutR_nil, shutO_nil, ItV.now, wsOk, wipeC, plObj, chks_nil, compC_nil, loopC_nil, and_self, true_and, and_true, List.all_cons, List.all_nil, Bool.and_self, Bool.and_true, Bool.true_and, Bool.not_true, Bool.not_false, if_true, if_false, decide_true, decide_false, sz0, sz1, sz2, sz3, sz4, sz5, sz6, sz7, sz8, sz9, sz10, sz11, sz12, Nat.reduceLT, Nat.reduceAdd, Nat.reduceSub, Int.reduceLT, Int.reduceLE, Int.reduceToNat, ex_raise, ex_raise2, ex_tryc, ex_whl, Out.next_nx, Out.next_ret, Out.next_exc, Out.next_brk, Out.next_cnt, Out.turn_nx, Out.turn_ret, Out.turn_exc, Out.turn_brk, Out.turn_cnt, Res.bind_exc, Res.run_exc]
end
section
variable {S : Sto} {x y v : D}
theorem drawS {n : Nat} {xs : List Int} {c : Nat} {m : Int} {P : D → Sto → Prop} (hS : S[0]? = some (Box xs c)) (hm : 0 < m) (q : ∀ (r c' : Nat), (r : Int) < m → P (.int r) (S.set 0 (Box xs c'))) : (runN T (n + 1) (.fn "_law_draw") [.loc 0, .int m] S).Ok P :=
  draw_ok f_law_draw (l := 0) (xs := xs) (c := c) hS hm fun r h0 h1 => by
    have e : r = ((r.toNat : Nat) : Int) := by omega
    rw [e]
    exact q r.toNat _ (by omega)
theorem box_at {xs : List Int} {c c' : Nat} (hS : S[0]? = some (Box xs c)) : (S.set 0 (Box xs c'))[0]? = some (Box xs c') := List.getElem?_set_self (lt_of hS)
theorem comp_draws {n : Nat} {Ω : Orc} {xs : List Int} {c : Nat} {f : Int → Bool} {turn : D → Sto → Res (Option D)} {m : Nat} {P : List D → Sto → Prop} (hS : S[0]? = some (Box xs c))
    (ht : ∀ (j : Nat) (c : Nat) (Q : Option D → Sto → Prop), j < m → (∀ (v : Int) (c' : Nat), f v = true → Q (some (.int v)) (S.set 0 (Box xs c'))) → (turn (.int j) (S.set 0 (Box xs c))).Ok Q)
    (q : ∀ (ts : List Int) (c' : Nat), ts.length = m → ts.all f = true → P (ts.map D.int) (S.set 0 (Box xs c'))) : (compL turn ((List.range m).map fun (j : Nat) => D.int j) S).Ok P := by
  rw [← set_same hS]
  refine comp_ok (fun i acc S' => ∃ (ts : List Int) (c' : Nat), acc = ts.map D.int ∧ ts.length = i ∧ ts.all f = true ∧ S' = S.set 0 (Box xs c')) (i := 0) (acc := []) ⟨[], c, rfl, rfl, rfl, rfl⟩ ?_ ?_
  · rintro j y ys S' hy ⟨ts, c', rfl, hl, ha, rfl⟩
    obtain ⟨hj, rfl⟩ := mem_range_ints hy
    refine ht j c' _ hj fun v c2 hv => ⟨ts ++ [v], c2, ?_, ?_, ?_, rfl⟩
    · rw [List.map_append]
      rfl
    · rw [List.length_append, List.length_singleton, hl]
    · rw [List.all_append, ha, List.all_cons, hv]
      rfl
  · rintro ys S' ⟨ts, c', hacc, hl, ha, rfl⟩
    rw [List.nil_append] at hacc
    subst hacc
    rw [Nat.zero_add, List.length_map, List.length_range] at hl
    exact q ts c' hl ha
theorem rep_ev {Ω : Orc} {ρ : TX.Env} {v : Int} {a : TX.Tm} {m : Nat} (hm : m ≤ 1000) (ha : ev Ω ρ a S = .ok (.int m) S) : ev Ω ρ (.rep (.cons (.cst (.int v)) .nil) a) S = .ok (bD (List.replicate m v)) S := by
  rw [ev_rep, evs_cons, ev_cst, Res.bind_ok, evs_nil, Res.bind_ok, Res.bind_ok, if_pos (show ([D.int v] : List D).length ≤ sizeLine from (by decide : 1 ≤ sizeLine)), ha, Res.bind_ok]
  show (if -(2 ^ 63) ≤ (m : Int) ∧ (m : Int) < 2 ^ 63 ∧ ([D.int v] : List D).length * (m : Int).toNat ≤ sizeLine then Res.ok (D.lst (List.replicate (m : Int).toNat [D.int v]).flatten) S else .stk) = _
  have sz : sizeLine = 16777216 := rfl
  rw [if_pos ⟨by omega, by omega, by rw [Int.toNat_natCast, List.length_singleton, Nat.one_mul]; omega⟩, Int.toNat_natCast, List.flatten_replicate_singleton]
  unfold bD
  rw [List.map_replicate]
theorem all_rep {f : Int → Bool} {v : Int} (h : f v = true) : ∀ m : Nat, (List.replicate m v).all f = true := fun m => by
  rw [List.all_eq_true]
  intro x hx
  rw [List.eq_of_mem_replicate hx]
  exact h
theorem tornL_ok {n : Nat} {xs : List Int} {c m : Nat} (hS : S[0]? = some (Box xs c)) (hm : m ≤ 1000) {P : D → Sto → Prop} (q : ∀ (ts : List Int) (c' : Nat), ts.all okT = true → ts.length ≤ 1000 → P (.lst (ts.map D.int)) (S.set 0 (Box xs c'))) :
    (runN T (n + 2) (.fn "_law_torn") [.loc 0, .int m] S).Ok P := by
  refine call_ok f_law_torn rfl ?_
  have rg : -(2 ^ 62) ≤ (m : Int) ∧ (m : Int) ≤ 16777216 := by omega
  have rp : ∀ {Ω : Orc} {S : Sto} (d : C), ev Ω [.val (.loc 0), .val (.int m), d, .und] (.rep (.cons (.cst (.int 32)) .nil) (.var 1)) S = .ok (bD (List.replicate m 32)) S := fun d => rep_ev hm rfl
  simp only [t_law_torn, o_seq, o_asg, ev_call, evs_cons, evs_nil, ev_var, ev_cst, Df.start, List.map_cons, List.map_nil, List.length_cons, List.length_nil, List.cons_append, List.nil_append, List.replicate_succ, List.replicate_zero, Nat.reduceSub, Nat.reduceAdd, List.getElem?_cons_zero, List.getElem?_cons_succ, Res.bind_ok]
  refine drawS hS (by decide) fun r c1 hr => ?_
  have hS1 := box_at (c' := c1) hS
  simp only [kAsg_ap, TX.bindT, List.length_cons, List.length_nil, Nat.reduceAdd, Nat.reduceLT, if_true, List.set_cons_succ, List.set_cons_zero, kS_ap, o_seq, o_ite, ev_cmp, ev_bor, ev_cst, List.getElem?_cons_succ, List.getElem?_cons_zero, Res.bind_ok, eq_i, Option.map_some, Res.of_some, Ok_ok, kIte_ap, tru_b]
  by_cases c0 : (r : Int) = 0
  · simp only [c0, decide_true, kIf_t, o_seq, o_ret, ev_lst, evs_nil, Res.bind_ok, List.length_nil, sz0, if_true, Ok_ok]
    exact q [] c1 rfl (by decide)
  simp only [c0, decide_false, kIf_f, o_skip, kS_ap, o_seq, o_ite, ev_cmp, ev_bor, ev_cst, List.getElem?_cons_succ, List.getElem?_cons_zero, Res.bind_ok, eq_i, Option.map_some, Res.of_some, Ok_ok, kIte_ap, tru_b]
  by_cases c1' : (r : Int) = 1
  · have rp' := rp (Ω := TX.runN T (n + 1)) (S := S.set 0 (Box xs c1)) (.val (.int 1))
    simp only [c1', decide_true, kIf_t, o_seq, o_ret, rp', Ok_ok]
    exact q _ c1 (all_rep (by decide) m) (by rw [List.length_replicate]; exact hm)
  simp only [c1', decide_false, kIf_f, o_skip, kS_ap, o_seq, o_ite, ev_cmp, ev_bor, ev_cst, List.getElem?_cons_succ, List.getElem?_cons_zero, Res.bind_ok, eq_i, Option.map_some, Res.of_some, Ok_ok, kIte_ap, tru_b]
  have mm : ∀ z : Int, -18446744073709551616 < z → z < 18446744073709551616 → ∀ S, binOp .mul S (.int 32) (.int z) = some (.int (32 * z)) := fun z h1 h2 S => mul_r h1 h2
  by_cases c2' : (r : Int) = 2
  · simp only [c2', rg, Int.toNat_natCast, Df.start, ev_cst, ev_var, ev_bor, ev_tup, ev_lst, ev_rep, ev_bin, ev_neg, ev_cmp, ev_chn, ev_and, ev_or, ev_not, ev_ite, ev_ix, ev_sl, ev_call, ev_mk, ev_met, ev_fld, ev_shr, ev_bi, ev_join, ev_rev, ev_mth, ev_dnK, ev_dnT, ev_comp, evs_nil, evs_cons, evO_nil, evO_part, evI_rng1, evI_rng2, evI_rng3, evI_zip, evI_enm, evI_its, evI_it, o_skip, o_brk, o_cnt, o_seq, o_asg, o_own, o_ret, o_retO, o_expr, o_ite, o_loop, o_setI, o_setF, o_app, o_del, kS_ap, kAsg_ap, kOwn_ap, kEx_ap, kIte_ap, kIf_t, kIf_f, kLoop_ap, kPut_s, kSetF_ap, kApp_ap, kDel_ap, Res.bind_ok, Res.of_some, Res.noX_ok, Res.run_ok, Ok_ok, Ok_bind, Ok_noX, Ok_nx, Ok_ret, Ok_brk, Ok_cnt, List.map_cons, List.map_nil, List.length_cons, List.length_nil, List.cons_append, List.nil_append, List.getElem?_cons_zero, List.getElem?_cons_succ, List.set_cons_zero, List.set_cons_succ, List.replicate_succ, List.replicate_zero, TX.bindT, TX.bindL, add_i, sub_i, fdiv_i, mod_i, band_i, add_t, add_s, add_l, lt_i, le_i, gt_i, ge_i, eq_i, ne_i, eq_s, ne_s, is_n, isn_n, is_b, isn_b, is_i, isn_i, is_tt, isn_tt, is_s, isn_s, is_l, isn_l, ix_t, ix_l, ix_c, ix_s, len_t, len_l, len_c, len_s, int_i, int_b, max_i, min_i, ord_s, list_t, list_l, list_c, tuple_t, tuple_l, tuple_c, all_l, tru_n, tru_b, tru_i, tru_s, tru_t, tru_l, at0, at1, at2, at3, at4, at5, at6, mul_r, mul_l, Option.map_some, Option.bind_some, shutR_nil, shutO_nil, ItV.now, wsOk, wipeC, plObj, chks_nil, compC_nil, loopC_nil, and_self, true_and, and_true, List.all_cons, List.all_nil, Bool.and_self, Bool.and_true, Bool.true_and, Bool.not_true, Bool.not_false, if_true, if_false, decide_true, decide_false, sz0, sz1, sz2, sz3, sz4, sz5, sz6, sz7, sz8, sz9, sz10, sz11, sz12, Nat.reduceLT, Nat.reduceAdd, Nat.reduceSub, Int.reduceLT, Int.reduceLE, Int.reduceToNat]
    refine comp_draws (n := n) (Ω := TX.runN T (n + 1)) (f := okT) hS1 (fun j c2 Q hj hq => ?_) fun ts c' hl ha => ?_
    · simp only [turnC, Df.start, ev_cst, ev_var, ev_bor, ev_tup, ev_lst, ev_rep, ev_bin, ev_neg, ev_cmp, ev_chn, ev_and, ev_or, ev_not, ev_ite, ev_ix, ev_sl, ev_call, ev_mk, ev_met, ev_fld, ev_shr, ev_bi, ev_join, ev_rev, ev_mth, ev_dnK, ev_dnT, ev_comp, evs_nil, evs_cons, evO_nil, evO_part, evI_rng1, evI_rng2, evI_rng3, evI_zip, evI_enm, evI_its, evI_it, o_skip, o_brk, o_cnt, o_seq, o_asg, o_own, o_ret, o_retO, o_expr, o_ite, o_loop, o_setI, o_setF, o_app, o_del, kS_ap, kAsg_ap, kOwn_ap, kEx_ap, kIte_ap, kIf_t, kIf_f, kLoop_ap, kPut_s, kSetF_ap, kApp_ap, kDel_ap, Res.bind_ok, Res.of_some, Res.noX_ok, Res.run_ok, Ok_ok, Ok_bind, Ok_noX, Ok_nx, Ok_ret, Ok_brk, Ok_cnt, List.map_cons, List.map_nil, List.length_cons, List.length_nil, List.cons_append, List.nil_append, List.getElem?_cons_zero, List.getElem?_cons_succ, List.set_cons_zero, List.set_cons_succ, List.replicate_succ, List.replicate_zero, TX.bindT, TX.bindL, add_i, sub_i, fdiv_i, mod_i, band_i, add_t, add_s, add_l, lt_i, le_i, gt_i, ge_i, eq_i, ne_i, eq_s, ne_s, is_n, isn_n, is_b, isn_b, is_i, isn_i, is_tt, isn_tt, is_s, isn_s, is_l, isn_l, ix_t, ix_l, ix_c, ix_s, len_t, len_l, len_c, len_s, int_i, int_b, max_i, min_i, ord_s, list_t, list_l, list_c, tuple_t, tuple_l, tuple_c, all_l, tru_n, tru_b, tru_i, tru_s, tru_t, tru_l, at0, at1, at2, at3, at4, at5, at6, mul_r, mul_l, Option.map_some, Option.bind_some, shutR_nil, shutO_nil, ItV.now, wsOk, wipeC, plObj, chks_nil, compC_nil, loopC_nil, and_self, true_and, and_true, List.all_cons, List.all_nil, Bool.and_self, Bool.and_true, Bool.true_and, Bool.not_true, Bool.not_false, if_true, if_false, decide_true, decide_false, sz0, sz1, sz2, sz3, sz4, sz5, sz6, sz7, sz8, sz9, sz10, sz11, sz12, Nat.reduceLT, Nat.reduceAdd, Nat.reduceSub, Int.reduceLT, Int.reduceLE, Int.reduceToNat]
      rw [set_set]
      refine drawS (box_at hS) (by decide) fun r2 c3 h3 => ?_
      have hq2 := hq (32 * (r2 : Int)) c3 (by
        have : r2 = 0 ∨ r2 = 1 := by omega
        rcases this with rfl | rfl <;> decide)
      rw [set_set] at hq2 ⊢
      simp only [mm (r2 : Int) (by omega) (by omega), Df.start, ev_cst, ev_var, ev_bor, ev_tup, ev_lst, ev_rep, ev_bin, ev_neg, ev_cmp, ev_chn, ev_and, ev_or, ev_not, ev_ite, ev_ix, ev_sl, ev_call, ev_mk, ev_met, ev_fld, ev_shr, ev_bi, ev_join, ev_rev, ev_mth, ev_dnK, ev_dnT, ev_comp, evs_nil, evs_cons, evO_nil, evO_part, evI_rng1, evI_rng2, evI_rng3, evI_zip, evI_enm, evI_its, evI_it, o_skip, o_brk, o_cnt, o_seq, o_asg, o_own, o_ret, o_retO, o_expr, o_ite, o_loop, o_setI, o_setF, o_app, o_del, kS_ap, kAsg_ap, kOwn_ap, kEx_ap, kIte_ap, kIf_t, kIf_f, kLoop_ap, kPut_s, kSetF_ap, kApp_ap, kDel_ap, Res.bind_ok, Res.of_some, Res.noX_ok, Res.run_ok, Ok_ok, Ok_bind, Ok_noX, Ok_nx, Ok_ret, Ok_brk, Ok_cnt, List.map_cons, List.map_nil, List.length_cons, List.length_nil, List.cons_append, List.nil_append, List.getElem?_cons_zero, List.getElem?_cons_succ, List.set_cons_zero, List.set_cons_succ, List.replicate_succ, List.replicate_zero, TX.bindT, TX.bindL, add_i, sub_i, fdiv_i, mod_i, band_i, add_t, add_s, add_l, lt_i, le_i, gt_i, ge_i, eq_i, ne_i, eq_s, ne_s, is_n, isn_n, is_b, isn_b, is_i, isn_i, is_tt, isn_tt, is_s, isn_s, is_l, isn_l, ix_t, ix_l, ix_c, ix_s, len_t, len_l, len_c, len_s, int_i, int_b, max_i, min_i, ord_s, list_t, list_l, list_c, tuple_t, tuple_l, tuple_c, all_l, tru_n, tru_b, tru_i, tru_s, tru_t, tru_l, at0, at1, at2, at3, at4, at5, at6, mul_r, mul_l, Option.map_some, Option.bind_some, shutR_nil, shutO_nil, ItV.now, wsOk, wipeC, plObj, chks_nil, compC_nil, loopC_nil, and_self, true_and, and_true, List.all_cons, List.all_nil, Bool.and_self, Bool.and_true, Bool.true_and, Bool.not_true, Bool.not_false, if_true, if_false, decide_true, decide_false, sz0, sz1, sz2, sz3, sz4, sz5, sz6, sz7, sz8, sz9, sz10, sz11, sz12, Nat.reduceLT, Nat.reduceAdd, Nat.reduceSub, Int.reduceLT, Int.reduceLE, Int.reduceToNat]
      exact hq2
    · rw [set_set]
      exact q ts c' ha (by omega)
  · simp only [c2', rg, Int.toNat_natCast, Df.start, ev_cst, ev_var, ev_bor, ev_tup, ev_lst, ev_rep, ev_bin, ev_neg, ev_cmp, ev_chn, ev_and, ev_or, ev_not, ev_ite, ev_ix, ev_sl, ev_call, ev_mk, ev_met, ev_fld, ev_shr, ev_bi, ev_join, ev_rev, ev_mth, ev_dnK, ev_dnT, ev_comp, evs_nil, evs_cons, evO_nil, evO_part, evI_rng1, evI_rng2, evI_rng3, evI_zip, evI_enm, evI_its, evI_it, o_skip, o_brk, o_cnt, o_seq, o_asg, o_own, o_ret, o_retO, o_expr, o_ite, o_loop, o_setI, o_setF, o_app, o_del, kS_ap, kAsg_ap, kOwn_ap, kEx_ap, kIte_ap, kIf_t, kIf_f, kLoop_ap, kPut_s, kSetF_ap, kApp_ap, kDel_ap, Res.bind_ok, Res.of_some, Res.noX_ok, Res.run_ok, Ok_ok, Ok_bind, Ok_noX, Ok_nx, Ok_ret, Ok_brk, Ok_cnt, List.map_cons, List.map_nil, List.length_cons, List.length_nil, List.cons_append, List.nil_append, List.getElem?_cons_zero, List.getElem?_cons_succ, List.set_cons_zero, List.set_cons_succ, List.replicate_succ, List.replicate_zero, TX.bindT, TX.bindL, add_i, sub_i, fdiv_i, mod_i, band_i, add_t, add_s, add_l, lt_i, le_i, gt_i, ge_i, eq_i, ne_i, eq_s, ne_s, is_n, isn_n, is_b, isn_b, is_i, isn_i, is_tt, isn_tt, is_s, isn_s, is_l, isn_l, ix_t, ix_l, ix_c, ix_s, len_t, len_l, len_c, len_s, int_i, int_b, max_i, min_i, ord_s, list_t, list_l, list_c, tuple_t, tuple_l, tuple_c, all_l, tru_n, tru_b, tru_i, tru_s, tru_t, tru_l, at0, at1, at2, at3, at4, at5, at6, mul_r, mul_l, Option.map_some, Option.bind_some, shutR_nil, shutO_nil, ItV.now, wsOk, wipeC, plObj, chks_nil, compC_nil, loopC_nil, and_self, true_and, and_true, List.all_cons, List.all_nil, Bool.and_self, Bool.and_true, Bool.true_and, Bool.not_true, Bool.not_false, if_true, if_false, decide_true, decide_false, sz0, sz1, sz2, sz3, sz4, sz5, sz6, sz7, sz8, sz9, sz10, sz11, sz12, Nat.reduceLT, Nat.reduceAdd, Nat.reduceSub, Int.reduceLT, Int.reduceLE, Int.reduceToNat]
    refine comp_draws (n := n) (Ω := TX.runN T (n + 1)) (f := okT) hS1 (fun j c2 Q hj hq => ?_) fun ts c' hl ha => ?_
    · simp only [turnC, Df.start, ev_cst, ev_var, ev_bor, ev_tup, ev_lst, ev_rep, ev_bin, ev_neg, ev_cmp, ev_chn, ev_and, ev_or, ev_not, ev_ite, ev_ix, ev_sl, ev_call, ev_mk, ev_met, ev_fld, ev_shr, ev_bi, ev_join, ev_rev, ev_mth, ev_dnK, ev_dnT, ev_comp, evs_nil, evs_cons, evO_nil, evO_part, evI_rng1, evI_rng2, evI_rng3, evI_zip, evI_enm, evI_its, evI_it, o_skip, o_brk, o_cnt, o_seq, o_asg, o_own, o_ret, o_retO, o_expr, o_ite, o_loop, o_setI, o_setF, o_app, o_del, kS_ap, kAsg_ap, kOwn_ap, kEx_ap, kIte_ap, kIf_t, kIf_f, kLoop_ap, kPut_s, kSetF_ap, kApp_ap, kDel_ap, Res.bind_ok, Res.of_some, Res.noX_ok, Res.run_ok, Ok_ok, Ok_bind, Ok_noX, Ok_nx, Ok_ret, Ok_brk, Ok_cnt, List.map_cons, List.map_nil, List.length_cons, List.length_nil, List.cons_append, List.nil_append, List.getElem?_cons_zero, List.getElem?_cons_succ, List.set_cons_zero, List.set_cons_succ, List.replicate_succ, List.replicate_zero, TX.bindT, TX.bindL, add_i, sub_i, fdiv_i, mod_i, band_i, add_t, add_s, add_l, lt_i, le_i, gt_i, ge_i, eq_i, ne_i, eq_s, ne_s, is_n, isn_n, is_b, isn_b, is_i, isn_i, is_tt, isn_tt, is_s, isn_s, is_l, isn_l, ix_t, ix_l, ix_c, ix_s, len_t, len_l, len_c, len_s, int_i, int_b, max_i, min_i, ord_s, list_t, list_l, list_c, tuple_t, tuple_l, tuple_c, all_l, tru_n, tru_b, tru_i, tru_s, tru_t, tru_l, at0, at1, at2, at3, at4, at5, at6, mul_r, mul_l, Option.map_some, Option.bind_some, shutR_nil, shutO_nil, ItV.now, wsOk, wipeC, plObj, chks_nil, compC_nil, loopC_nil, and_self, true_and, and_true, List.all_cons, List.all_nil, Bool.and_self, Bool.and_true, Bool.true_and, Bool.not_true, Bool.not_false, if_true, if_false, decide_true, decide_false, sz0, sz1, sz2, sz3, sz4, sz5, sz6, sz7, sz8, sz9, sz10, sz11, sz12, Nat.reduceLT, Nat.reduceAdd, Nat.reduceSub, Int.reduceLT, Int.reduceLE, Int.reduceToNat]
      rw [set_set]
      refine drawS (box_at hS) (by decide) fun r2 c3 h3 => ?_
      have hq2 := hq (r2 : Int) c3 (by
        unfold okT
        rw [decide_eq_true (by omega), decide_eq_true (by omega)]
        rfl)
      rw [set_set] at hq2 ⊢
      exact hq2
    · rw [set_set]
      exact q ts c' ha (by omega)
end
section
variable {S : Sto} {xs : List Int} {c : Nat}
theorem isB_of {ts : List Int} (h : ts.length = 32) (a : ts.all okB = true) : isBlock ts = true := by
  unfold isBlock
  rw [a, decide_eq_true h]
  rfl
end
/-! ### a new disk -/
section
variable {S : Sto} {n : Nat}
theorem putM {cc f : Str} {fs fs' : List (Str × D)} {d : D} {R : Sto} (hl : fs.length < 900) (e : setFs f d fs = fs') : putFld (S ++ Cell.ins cc fs :: R) S.length f d = some (S ++ Cell.ins cc fs' :: R) := by
  have h : (S ++ Cell.ins cc fs :: R)[S.length]? = some (Cell.ins cc fs) := by
    rw [List.getElem?_append_right (Nat.le_refl _), Nat.sub_self]
    rfl
  rw [put_at h hl, e, List.set_append_right _ _ (Nat.le_refl _), Nat.sub_self]
  rfl
def bs0 (s : Nat) : List Bk := (List.range s).map fun _ => List.replicate 32 0
theorem bs0_len (s : Nat) : (bs0 s).length = s := by
  unfold bs0
  rw [List.length_map, List.length_range]
theorem bs0_sz (s : Nat) : Sz (bs0 s) := fun b hb => by
  obtain ⟨_, _, rfl⟩ := List.mem_map.mp hb
  exact List.length_replicate
def newF (l : Nat) : List (Str × D) := [(Str.ofString "_blocks", .loc (l + 1)), (Str.ofString "_pending", .loc (l + 2)), (Str.ofString "_cuts", .int 0), (Str.ofString "_left", .non), (Str.ofString "_torn", .loc (l + 3))]
theorem comp0 {Ω : Orc} {ρ : TX.Env} {i s : Nat} {S : Sto} (hi : i < ρ.length) : compL (turnC Ω (.nm i) (.cst (.bl true)) (.rep (.cons (.cst (.int 0)) .nil) (.cst (.int 32))) [i] ρ) ((List.range s).map fun (j : Nat) => D.int j) S = .ok ((bs0 s).map bD) S := by
  rw [comp_list (h := fun (j : Nat) => some (bD (List.replicate 32 0))) fun j _ => ?_]
  · unfold bs0
    rw [List.map_map]
    simp
  · have hl : (i < (wipeC ρ [i]).length) = True := eq_true (by
      show i < (ρ.set i .und).length
      rw [List.length_set]
      exact hi)
    simp only [turnC, TX.bindT, hl, if_true, ev_cst, Res.bind_ok, tru_b]
    rw [rep_ev (m := 32) (by decide) rfl]
    rfl
theorem init_bad (l : D) {a : Int} (h : ¬ (8 ≤ a ∧ a ≤ 400)) : runN T (n + 1) (.me "Disk" "__init__") [l, .int a] S = .exc (Str.ofString "OutOfRange") (some (.str (Str.ofString "blocks"))) S := by
  refine (me_eq fDisk_initI rfl (o := .exc _ _ [.val l, .val (.int a), .und] S) ?_).trans rfl
  by_cases c : 8 ≤ a
  · have c' : ¬ a ≤ 400 := fun z => h ⟨c, z⟩
    simp only [tDisk_initI, c, c', Df.start, ev_cst, ev_var, ev_bor, ev_tup, ev_lst, ev_rep, ev_bin, ev_neg, ev_cmp, ev_chn, ev_and, ev_or, ev_not, ev_ite, ev_ix, ev_sl, ev_call, ev_mk, ev_met, ev_fld, ev_shr, ev_bi, ev_join, ev_rev, ev_mth, ev_dnK, ev_dnT, ev_comp, evs_nil, evs_cons, evO_nil, evO_part, evI_rng1, evI_rng2, evI_rng3, evI_zip, evI_enm, evI_its, evI_it, ex_skip, ex_brk, ex_cnt, ex_seq, ex_asg, ex_own, ex_ret, ex_retO, ex_expr, ex_ite, ex_loop, ex_setI, ex_setF, ex_app, ex_del, kS_ap, kAsg_ap, kOwn_ap, kEx_ap, kIte_ap, kIf_t, kIf_f, kLoop_ap, kPut_s, kSetF_ap, kApp_ap, kDel_ap, Res.bind_ok, Res.of_some, Res.noX_ok, Res.run_ok, Ok_ok, Ok_bind, Ok_noX, Ok_nx, Ok_ret, Ok_brk, Ok_cnt, List.map_cons, List.map_nil, List.length_cons, List.length_nil, List.cons_append, List.nil_append, List.getElem?_cons_zero, List.getElem?_cons_succ, List.set_cons_zero, List.set_cons_succ, List.replicate_succ, List.replicate_zero, TX.bindT, TX.bindL, add_i, sub_i, fdiv_i, mod_i, band_i, add_t, add_s, add_l, lt_i, le_i, gt_i, ge_i, eq_i, ne_i, eq_s, ne_s, is_n, isn_n, is_b, isn_b, is_i, isn_i, is_tt, isn_tt, is_s, isn_s, is_l, isn_l, ix_t, ix_l, ix_c, ix_s, len_t, len_l, len_c, len_s, int_i, int_b, max_i, min_i, ord_s, list_t, list_l, list_c, tuple_t, tuple_l, tuple_c, all_l, tru_n, tru_b, tru_i, tru_s, tru_t, tru_l, at0, at1, at2, at3, at4, at5, at6, mul_r, mul_l, Option.map_some, Option.bind_some, shutR_nil, shutO_nil, ItV.now, wsOk, wipeC, plObj, chks_nil, compC_nil, loopC_nil, and_self, true_and, and_true, List.all_cons, List.all_nil, Bool.and_self, Bool.and_true, Bool.true_and, Bool.not_true, Bool.not_false, if_true, if_false, decide_true, decide_false, sz0, sz1, sz2, sz3, sz4, sz5, sz6, sz7, sz8, sz9, sz10, sz11, sz12, Nat.reduceLT, Nat.reduceAdd, Nat.reduceSub, Int.reduceLT, Int.reduceLE, Int.reduceToNat, ex_raise, ex_raise2, ex_tryc, ex_whl, Out.next_nx, Out.next_ret, Out.next_exc, Out.next_brk, Out.next_cnt, Out.turn_nx, Out.turn_ret, Out.turn_exc, Out.turn_brk, Out.turn_cnt, Res.bind_exc, Res.run_exc]
  · simp only [tDisk_initI, c, Df.start, ev_cst, ev_var, ev_bor, ev_tup, ev_lst, ev_rep, ev_bin, ev_neg, ev_cmp, ev_chn, ev_and, ev_or, ev_not, ev_ite, ev_ix, ev_sl, ev_call, ev_mk, ev_met, ev_fld, ev_shr, ev_bi, ev_join, ev_rev, ev_mth, ev_dnK, ev_dnT, ev_comp, evs_nil, evs_cons, evO_nil, evO_part, evI_rng1, evI_rng2, evI_rng3, evI_zip, evI_enm, evI_its, evI_it, ex_skip, ex_brk, ex_cnt, ex_seq, ex_asg, ex_own, ex_ret, ex_retO, ex_expr, ex_ite, ex_loop, ex_setI, ex_setF, ex_app, ex_del, kS_ap, kAsg_ap, kOwn_ap, kEx_ap, kIte_ap, kIf_t, kIf_f, kLoop_ap, kPut_s, kSetF_ap, kApp_ap, kDel_ap, Res.bind_ok, Res.of_some, Res.noX_ok, Res.run_ok, Ok_ok, Ok_bind, Ok_noX, Ok_nx, Ok_ret, Ok_brk, Ok_cnt, List.map_cons, List.map_nil, List.length_cons, List.length_nil, List.cons_append, List.nil_append, List.getElem?_cons_zero, List.getElem?_cons_succ, List.set_cons_zero, List.set_cons_succ, List.replicate_succ, List.replicate_zero, TX.bindT, TX.bindL, add_i, sub_i, fdiv_i, mod_i, band_i, add_t, add_s, add_l, lt_i, le_i, gt_i, ge_i, eq_i, ne_i, eq_s, ne_s, is_n, isn_n, is_b, isn_b, is_i, isn_i, is_tt, isn_tt, is_s, isn_s, is_l, isn_l, ix_t, ix_l, ix_c, ix_s, len_t, len_l, len_c, len_s, int_i, int_b, max_i, min_i, ord_s, list_t, list_l, list_c, tuple_t, tuple_l, tuple_c, all_l, tru_n, tru_b, tru_i, tru_s, tru_t, tru_l, at0, at1, at2, at3, at4, at5, at6, mul_r, mul_l, Option.map_some, Option.bind_some, shutR_nil, shutO_nil, ItV.now, wsOk, wipeC, plObj, chks_nil, compC_nil, loopC_nil, and_self, true_and, and_true, List.all_cons, List.all_nil, Bool.and_self, Bool.and_true, Bool.true_and, Bool.not_true, Bool.not_false, if_true, if_false, decide_true, decide_false, sz0, sz1, sz2, sz3, sz4, sz5, sz6, sz7, sz8, sz9, sz10, sz11, sz12, Nat.reduceLT, Nat.reduceAdd, Nat.reduceSub, Int.reduceLT, Int.reduceLE, Int.reduceToNat, ex_raise, ex_raise2, ex_tryc, ex_whl, Out.next_nx, Out.next_ret, Out.next_exc, Out.next_brk, Out.next_cnt, Out.turn_nx, Out.turn_ret, Out.turn_exc, Out.turn_brk, Out.turn_cnt, Res.bind_exc, Res.run_exc]
theorem init_ok {s : Nat} (h : 8 ≤ s) (h' : s ≤ 400) : runN T (n + 1) (.me "Disk" "__init__") [.loc S.length, .int s] (S ++ [.ins (Str.ofString "Disk") []]) = .ok .non (S ++ [.ins (Str.ofString "Disk") (newF S.length), .lst ((bs0 s).map bD), .lst [], .lst []]) := by
  refine Res.Ok.is (meth_ok fDisk_initI rfl ?_)
  show (ex (TX.runN T n) tDisk_initI [.val (.loc S.length), .val (.int s), .und] _).Ok _ _ _ _
  have c : (8 : Int) ≤ s := by omega
  have c' : (s : Int) ≤ 400 := by omega
  have rg : -(2 ^ 62) ≤ (s : Int) ∧ (s : Int) ≤ 16777216 := by omega
  have cm : ∀ (S : Sto), compL (turnC (TX.runN T n) (.nm 2) (.cst (.bl true)) (.rep (.cons (.cst (.int 0)) .nil) (.cst (.int 32))) [2] [.val (.loc S.length), .val (.int s), .und]) ((List.range s).map fun (j : Nat) => D.int j) S = .ok ((bs0 s).map bD) S := fun S => comp0 (by show 2 < 3; decide)
  have cm2 : ∀ (l : Nat) (S : Sto), compL (turnC (TX.runN T n) (.nm 2) (.cst (.bl true)) (.rep (.cons (.cst (.int 0)) .nil) (.cst (.int 32))) [2] [.val (.loc l), .val (.int s), .und]) ((List.range s).map fun (j : Nat) => D.int j) S = .ok ((bs0 s).map bD) S := fun l S => comp0 (by show 2 < 3; decide)
  have p1 : ∀ (R : Sto) (d : D), putFld (S ++ Cell.ins (Str.ofString "Disk") [] :: R) S.length (Str.ofString "_blocks") d = some (S ++ Cell.ins (Str.ofString "Disk") [(Str.ofString "_blocks", d)] :: R) := fun R d => putM (by show 0 < 900; decide) rfl
  have p2 : ∀ (R : Sto) (a d : D), putFld (S ++ Cell.ins (Str.ofString "Disk") [(Str.ofString "_blocks", a)] :: R) S.length (Str.ofString "_pending") d = some (S ++ Cell.ins (Str.ofString "Disk") [(Str.ofString "_blocks", a), (Str.ofString "_pending", d)] :: R) := fun R a d => putM (by show 1 < 900; decide) rfl
  have p3 : ∀ (R : Sto) (a b d : D), putFld (S ++ Cell.ins (Str.ofString "Disk") [(Str.ofString "_blocks", a), (Str.ofString "_pending", b)] :: R) S.length (Str.ofString "_cuts") d = some (S ++ Cell.ins (Str.ofString "Disk") [(Str.ofString "_blocks", a), (Str.ofString "_pending", b), (Str.ofString "_cuts", d)] :: R) := fun R a b d => putM (by show 2 < 900; decide) rfl
  have p4 : ∀ (R : Sto) (a b e d : D), putFld (S ++ Cell.ins (Str.ofString "Disk") [(Str.ofString "_blocks", a), (Str.ofString "_pending", b), (Str.ofString "_cuts", e)] :: R) S.length (Str.ofString "_left") d = some (S ++ Cell.ins (Str.ofString "Disk") [(Str.ofString "_blocks", a), (Str.ofString "_pending", b), (Str.ofString "_cuts", e), (Str.ofString "_left", d)] :: R) := fun R a b e d => putM (by show 3 < 900; decide) rfl
  have p5 : ∀ (R : Sto) (a b e g d : D), putFld (S ++ Cell.ins (Str.ofString "Disk") [(Str.ofString "_blocks", a), (Str.ofString "_pending", b), (Str.ofString "_cuts", e), (Str.ofString "_left", g)] :: R) S.length (Str.ofString "_torn") d = some (S ++ Cell.ins (Str.ofString "Disk") [(Str.ofString "_blocks", a), (Str.ofString "_pending", b), (Str.ofString "_cuts", e), (Str.ofString "_left", g), (Str.ofString "_torn", d)] :: R) := fun R a b e g d => putM (by show 4 < 900; decide) rfl
  simp only [tDisk_initI, c, c', rg, Int.toNat_natCast, cm2, p1, p2, p3, p4, p5, List.append_assoc, List.length_append, Df.start, ev_cst, ev_var, ev_bor, ev_tup, ev_lst, ev_rep, ev_bin, ev_neg, ev_cmp, ev_chn, ev_and, ev_or, ev_not, ev_ite, ev_ix, ev_sl, ev_call, ev_mk, ev_met, ev_fld, ev_shr, ev_bi, ev_join, ev_rev, ev_mth, ev_dnK, ev_dnT, ev_comp, evs_nil, evs_cons, evO_nil, evO_part, evI_rng1, evI_rng2, evI_rng3, evI_zip, evI_enm, evI_its, evI_it, o_skip, o_brk, o_cnt, o_seq, o_asg, o_own, o_ret, o_retO, o_expr, o_ite, o_loop, o_setI, o_setF, o_app, o_del, kS_ap, kAsg_ap, kOwn_ap, kEx_ap, kIte_ap, kIf_t, kIf_f, kLoop_ap, kPut_s, kSetF_ap, kApp_ap, kDel_ap, Res.bind_ok, Res.of_some, Res.noX_ok, Res.run_ok, Ok_ok, Ok_bind, Ok_noX, Ok_nx, Ok_ret, Ok_brk, Ok_cnt, List.map_cons, List.map_nil, List.length_cons, List.length_nil, List.cons_append, List.nil_append, List.getElem?_cons_zero, List.getElem?_cons_succ, List.set_cons_zero, List.set_cons_succ, TX.bindT, TX.bindL, add_i, sub_i, fdiv_i, mod_i, band_i, add_t, add_s, add_l, lt_i, le_i, gt_i, ge_i, eq_i, ne_i, eq_s, ne_s, is_n, isn_n, is_b, isn_b, is_i, isn_i, is_tt, isn_tt, is_s, isn_s, is_l, isn_l, ix_t, ix_l, ix_c, ix_s, len_t, len_l, len_c, len_s, int_i, int_b, max_i, min_i, ord_s, list_t, list_l, list_c, tuple_t, tuple_l, tuple_c, all_l, tru_n, tru_b, tru_i, tru_s, tru_t, tru_l, at0, at1, at2, at3, at4, at5, at6, mul_r, mul_l, Option.map_some, Option.bind_some, shutR_nil, shutO_nil, ItV.now, wsOk, wipeC, plObj, chks_nil, compC_nil, loopC_nil, and_self, true_and, and_true, List.all_cons, List.all_nil, Bool.and_self, Bool.and_true, Bool.true_and, Bool.not_true, Bool.not_false, if_true, if_false, decide_true, decide_false, sz0, sz1, sz2, sz3, sz4, sz5, sz6, sz7, sz8, sz9, sz10, sz11, sz12, Nat.reduceLT, Nat.reduceAdd, Nat.reduceSub, Int.reduceLT, Int.reduceLE, Int.reduceToNat]
  rfl
theorem mk_bad {a : Int} (h : ¬ (8 ≤ a ∧ a ≤ 400)) : runN T (n + 2) (.mk "Disk") [.int a] S = .exc (Str.ofString "OutOfRange") (some (.str (Str.ofString "blocks"))) (S ++ [.ins (Str.ofString "Disk") []]) := by
  rw [run_mk, init_bad _ h]
  rfl
theorem mk_ok {s : Nat} (h : 8 ≤ s) (h' : s ≤ 400) : runN T (n + 2) (.mk "Disk") [.int s] S = .ok (.loc S.length) (S ++ [.ins (Str.ofString "Disk") (newF S.length), .lst ((bs0 s).map bD), .lst [], .lst []]) := by
  rw [run_mk, init_ok h h']
  rfl
end

abbrev Rf (z : Str) : D := .tup [.str (Str.ofString "refused"), .str z]
section
variable {S : Sto} {p t : Nat} {k m : Int} {bs : List Bk} {pd : List (Nat × Bk)} {x y v : D}
theorem rawF (n : Nat) (h1 : S[1]? = some (Dsk p t k m)) : runN T (n + 1) (.fn "_law_do_raw") [.loc 1, .int (0 - 1), y] S = runN T n (.me "Disk" "flush") [.loc 1] S := by
  refine (fn_eq f_law_do_raw rfl (o := (runN T n (.me "Disk" "flush") [.loc 1] S).run [.val (.loc 1), .val (.int (0 - 1)), .val y] fun d S1 => .ret d S1) ?_).trans ?_
  · simp only [t_law_do_raw, m_flush h1, eq_self, Df.start, ev_cst, ev_var, ev_bor, ev_tup, ev_lst, ev_rep, ev_bin, ev_neg, ev_cmp, ev_chn, ev_and, ev_or, ev_not, ev_ite, ev_ix, ev_sl, ev_call, ev_mk, ev_met, ev_fld, ev_shr, ev_bi, ev_join, ev_rev, ev_mth, ev_dnK, ev_dnT, ev_comp, evs_nil, evs_cons, evO_nil, evO_part, evI_rng1, evI_rng2, evI_rng3, evI_zip, evI_enm, evI_its, evI_it, ex_skip, ex_brk, ex_cnt, ex_seq, ex_asg, ex_own, ex_ret, ex_retO, ex_expr, ex_ite, ex_loop, ex_setI, ex_setF, ex_app, ex_del, kS_ap, kAsg_ap, kOwn_ap, kEx_ap, kIte_ap, kIf_t, kIf_f, kLoop_ap, kPut_s, kSetF_ap, kApp_ap, kDel_ap, Res.bind_ok, Res.of_some, Res.noX_ok, Res.run_ok, Ok_ok, Ok_bind, Ok_noX, Ok_nx, Ok_ret, Ok_brk, Ok_cnt, List.map_cons, List.map_nil, List.length_cons, List.length_nil, List.cons_append, List.nil_append, List.getElem?_cons_zero, List.getElem?_cons_succ, List.set_cons_zero, List.set_cons_succ, List.replicate_succ, List.replicate_zero, TX.bindT, TX.bindL, add_i, sub_i, fdiv_i, mod_i, band_i, add_t, add_s, add_l, lt_i, le_i, gt_i, ge_i, eq_i, ne_i, eq_s, ne_s, is_n, isn_n, is_b, isn_b, is_i, isn_i, is_tt, isn_tt, is_s, isn_s, is_l, isn_l, ix_t, ix_l, ix_c, ix_s, len_t, len_l, len_c, len_s, int_i, int_b, max_i, min_i, ord_s, list_t, list_l, list_c, tuple_t, tuple_l, tuple_c, all_l, tru_n, tru_b, tru_i, tru_s, tru_t, tru_l, at0, at1, at2, at3, at4, at5, at6, mul_r, mul_l, Option.map_some, Option.bind_some, shutR_nil, shutO_nil, ItV.now, wsOk, wipeC, plObj, chks_nil, compC_nil, loopC_nil, and_self, true_and, and_true, List.all_cons, List.all_nil, Bool.and_self, Bool.and_true, Bool.true_and, Bool.not_true, Bool.not_false, if_true, if_false, decide_true, decide_false, sz0, sz1, sz2, sz3, sz4, sz5, sz6, sz7, sz8, sz9, sz10, sz11, sz12, Nat.reduceLT, Nat.reduceAdd, Nat.reduceSub, Int.reduceLT, Int.reduceLE, Int.reduceToNat, ex_raise, ex_raise2, ex_tryc, ex_whl, Out.next_nx, Out.next_ret, Out.next_exc, Out.next_brk, Out.next_cnt, Out.turn_nx, Out.turn_ret, Out.turn_exc, Out.turn_brk, Out.turn_cnt, Res.bind_exc, Res.run_exc]
    cases runN T n (.me "Disk" "flush") [.loc 1] S <;> rfl
  · cases runN T n (.me "Disk" "flush") [.loc 1] S <;> rfl
theorem rawW (n : Nat) (h1 : S[1]? = some (Dsk p t k m)) {a : Nat} : runN T (n + 1) (.fn "_law_do_raw") [.loc 1, .int a, y] S = runN T n (.me "Disk" "write") [.loc 1, .int a, y] S := by
  have c : ¬ ((a : Int) = 0 - 1) := by omega
  refine (fn_eq f_law_do_raw rfl (o := (runN T n (.me "Disk" "write") [.loc 1, .int a, y] S).run [.val (.loc 1), .val (.int a), .val y] fun d S1 => .ret d S1) ?_).trans ?_
  · simp only [t_law_do_raw, m_write h1, c, Df.start, ev_cst, ev_var, ev_bor, ev_tup, ev_lst, ev_rep, ev_bin, ev_neg, ev_cmp, ev_chn, ev_and, ev_or, ev_not, ev_ite, ev_ix, ev_sl, ev_call, ev_mk, ev_met, ev_fld, ev_shr, ev_bi, ev_join, ev_rev, ev_mth, ev_dnK, ev_dnT, ev_comp, evs_nil, evs_cons, evO_nil, evO_part, evI_rng1, evI_rng2, evI_rng3, evI_zip, evI_enm, evI_its, evI_it, ex_skip, ex_brk, ex_cnt, ex_seq, ex_asg, ex_own, ex_ret, ex_retO, ex_expr, ex_ite, ex_loop, ex_setI, ex_setF, ex_app, ex_del, kS_ap, kAsg_ap, kOwn_ap, kEx_ap, kIte_ap, kIf_t, kIf_f, kLoop_ap, kPut_s, kSetF_ap, kApp_ap, kDel_ap, Res.bind_ok, Res.of_some, Res.noX_ok, Res.run_ok, Ok_ok, Ok_bind, Ok_noX, Ok_nx, Ok_ret, Ok_brk, Ok_cnt, List.map_cons, List.map_nil, List.length_cons, List.length_nil, List.cons_append, List.nil_append, List.getElem?_cons_zero, List.getElem?_cons_succ, List.set_cons_zero, List.set_cons_succ, List.replicate_succ, List.replicate_zero, TX.bindT, TX.bindL, add_i, sub_i, fdiv_i, mod_i, band_i, add_t, add_s, add_l, lt_i, le_i, gt_i, ge_i, eq_i, ne_i, eq_s, ne_s, is_n, isn_n, is_b, isn_b, is_i, isn_i, is_tt, isn_tt, is_s, isn_s, is_l, isn_l, ix_t, ix_l, ix_c, ix_s, len_t, len_l, len_c, len_s, int_i, int_b, max_i, min_i, ord_s, list_t, list_l, list_c, tuple_t, tuple_l, tuple_c, all_l, tru_n, tru_b, tru_i, tru_s, tru_t, tru_l, at0, at1, at2, at3, at4, at5, at6, mul_r, mul_l, Option.map_some, Option.bind_some, shutR_nil, shutO_nil, ItV.now, wsOk, wipeC, plObj, chks_nil, compC_nil, loopC_nil, and_self, true_and, and_true, List.all_cons, List.all_nil, Bool.and_self, Bool.and_true, Bool.true_and, Bool.not_true, Bool.not_false, if_true, if_false, decide_true, decide_false, sz0, sz1, sz2, sz3, sz4, sz5, sz6, sz7, sz8, sz9, sz10, sz11, sz12, Nat.reduceLT, Nat.reduceAdd, Nat.reduceSub, Int.reduceLT, Int.reduceLE, Int.reduceToNat, ex_raise, ex_raise2, ex_tryc, ex_whl, Out.next_nx, Out.next_ret, Out.next_exc, Out.next_brk, Out.next_cnt, Out.turn_nx, Out.turn_ret, Out.turn_exc, Out.turn_brk, Out.turn_cnt, Res.bind_exc, Res.run_exc]
    cases runN T n (.me "Disk" "write") [.loc 1, .int a, y] S <;> rfl
  · cases runN T n (.me "Disk" "write") [.loc 1, .int a, y] S <;> rfl
theorem do_val (n : Nat) {S' : Sto} (e : runN T n (.fn "_law_do_raw") [.loc 1, x, y] S = .ok v S') : runN T (n + 1) (.fn "_law_do") [.loc 1, x, y] S = .ok v S' := by
  refine (fn_eq f_law_do rfl (o := .ret v S') ?_).trans rfl
  simp only [t_law_do, t_law_do_b0, e, Df.start, ev_cst, ev_var, ev_bor, ev_tup, ev_lst, ev_rep, ev_bin, ev_neg, ev_cmp, ev_chn, ev_and, ev_or, ev_not, ev_ite, ev_ix, ev_sl, ev_call, ev_mk, ev_met, ev_fld, ev_shr, ev_bi, ev_join, ev_rev, ev_mth, ev_dnK, ev_dnT, ev_comp, evs_nil, evs_cons, evO_nil, evO_part, evI_rng1, evI_rng2, evI_rng3, evI_zip, evI_enm, evI_its, evI_it, ex_skip, ex_brk, ex_cnt, ex_seq, ex_asg, ex_own, ex_ret, ex_retO, ex_expr, ex_ite, ex_loop, ex_setI, ex_setF, ex_app, ex_del, kS_ap, kAsg_ap, kOwn_ap, kEx_ap, kIte_ap, kIf_t, kIf_f, kLoop_ap, kPut_s, kSetF_ap, kApp_ap, kDel_ap, Res.bind_ok, Res.of_some, Res.noX_ok, Res.run_ok, Ok_ok, Ok_bind, Ok_noX, Ok_nx, Ok_ret, Ok_brk, Ok_cnt, List.map_cons, List.map_nil, List.length_cons, List.length_nil, List.cons_append, List.nil_append, List.getElem?_cons_zero, List.getElem?_cons_succ, List.set_cons_zero, List.set_cons_succ, List.replicate_succ, List.replicate_zero, TX.bindT, TX.bindL, add_i, sub_i, fdiv_i, mod_i, band_i, add_t, add_s, add_l, lt_i, le_i, gt_i, ge_i, eq_i, ne_i, eq_s, ne_s, is_n, isn_n, is_b, isn_b, is_i, isn_i, is_tt, isn_tt, is_s, isn_s, is_l, isn_l, ix_t, ix_l, ix_c, ix_s, len_t, len_l, len_c, len_s, int_i, int_b, max_i, min_i, ord_s, list_t, list_l, list_c, tuple_t, tuple_l, tuple_c, all_l, tru_n, tru_b, tru_i, tru_s, tru_t, tru_l, at0, at1, at2, at3, at4, at5, at6, mul_r, mul_l, Option.map_some, Option.bind_some, shutR_nil, shutO_nil, ItV.now, wsOk, wipeC, plObj, chks_nil, compC_nil, loopC_nil, and_self, true_and, and_true, List.all_cons, List.all_nil, Bool.and_self, Bool.and_true, Bool.true_and, Bool.not_true, Bool.not_false, if_true, if_false, decide_true, decide_false, sz0, sz1, sz2, sz3, sz4, sz5, sz6, sz7, sz8, sz9, sz10, sz11, sz12, Nat.reduceLT, Nat.reduceAdd, Nat.reduceSub, Int.reduceLT, Int.reduceLE, Int.reduceToNat, ex_raise, ex_raise2, ex_tryc, ex_whl, Out.next_nx, Out.next_ret, Out.next_exc, Out.next_brk, Out.next_cnt, Out.turn_nx, Out.turn_ret, Out.turn_exc, Out.turn_brk, Out.turn_cnt, Res.bind_exc, Res.run_exc]
theorem do_exc (n : Nat) {z : Str} {S' : Sto} (e : runN T n (.fn "_law_do_raw") [.loc 1, x, y] S = .exc (Str.ofString "OutOfRange") (some (.str z)) S') : runN T (n + 1) (.fn "_law_do") [.loc 1, x, y] S = .ok (Rf z) S' := by
  refine (fn_eq f_law_do rfl (o := .ret (Rf z) S') ?_).trans rfl
  simp only [t_law_do, t_law_do_b0, e, Df.start, ev_cst, ev_var, ev_bor, ev_tup, ev_lst, ev_rep, ev_bin, ev_neg, ev_cmp, ev_chn, ev_and, ev_or, ev_not, ev_ite, ev_ix, ev_sl, ev_call, ev_mk, ev_met, ev_fld, ev_shr, ev_bi, ev_join, ev_rev, ev_mth, ev_dnK, ev_dnT, ev_comp, evs_nil, evs_cons, evO_nil, evO_part, evI_rng1, evI_rng2, evI_rng3, evI_zip, evI_enm, evI_its, evI_it, ex_skip, ex_brk, ex_cnt, ex_seq, ex_asg, ex_own, ex_ret, ex_retO, ex_expr, ex_ite, ex_loop, ex_setI, ex_setF, ex_app, ex_del, kS_ap, kAsg_ap, kOwn_ap, kEx_ap, kIte_ap, kIf_t, kIf_f, kLoop_ap, kPut_s, kSetF_ap, kApp_ap, kDel_ap, Res.bind_ok, Res.of_some, Res.noX_ok, Res.run_ok, Ok_ok, Ok_bind, Ok_noX, Ok_nx, Ok_ret, Ok_brk, Ok_cnt, List.map_cons, List.map_nil, List.length_cons, List.length_nil, List.cons_append, List.nil_append, List.getElem?_cons_zero, List.getElem?_cons_succ, List.set_cons_zero, List.set_cons_succ, List.replicate_succ, List.replicate_zero, TX.bindT, TX.bindL, add_i, sub_i, fdiv_i, mod_i, band_i, add_t, add_s, add_l, lt_i, le_i, gt_i, ge_i, eq_i, ne_i, eq_s, ne_s, is_n, isn_n, is_b, isn_b, is_i, isn_i, is_tt, isn_tt, is_s, isn_s, is_l, isn_l, ix_t, ix_l, ix_c, ix_s, len_t, len_l, len_c, len_s, int_i, int_b, max_i, min_i, ord_s, list_t, list_l, list_c, tuple_t, tuple_l, tuple_c, all_l, tru_n, tru_b, tru_i, tru_s, tru_t, tru_l, at0, at1, at2, at3, at4, at5, at6, mul_r, mul_l, Option.map_some, Option.bind_some, shutR_nil, shutO_nil, ItV.now, wsOk, wipeC, plObj, chks_nil, compC_nil, loopC_nil, and_self, true_and, and_true, List.all_cons, List.all_nil, Bool.and_self, Bool.and_true, Bool.true_and, Bool.not_true, Bool.not_false, if_true, if_false, decide_true, decide_false, sz0, sz1, sz2, sz3, sz4, sz5, sz6, sz7, sz8, sz9, sz10, sz11, sz12, Nat.reduceLT, Nat.reduceAdd, Nat.reduceSub, Int.reduceLT, Int.reduceLE, Int.reduceToNat, ex_raise, ex_raise2, ex_tryc, ex_whl, Out.next_nx, Out.next_ret, Out.next_exc, Out.next_brk, Out.next_cnt, Out.turn_nx, Out.turn_ret, Out.turn_exc, Out.turn_brk, Out.turn_cnt, Res.bind_exc, Res.run_exc]
  rfl
theorem do_cut (n : Nat) {S' : Sto} (e : runN T n (.fn "_law_do_raw") [.loc 1, x, y] S = .exc (Str.ofString "PowerCut") none S') : runN T (n + 1) (.fn "_law_do") [.loc 1, x, y] S = .ok (Rf (Str.ofString "cut")) S' := by
  refine (fn_eq f_law_do rfl (o := .ret (Rf (Str.ofString "cut")) S') ?_).trans rfl
  simp only [t_law_do, t_law_do_b0, e, Df.start, ev_cst, ev_var, ev_bor, ev_tup, ev_lst, ev_rep, ev_bin, ev_neg, ev_cmp, ev_chn, ev_and, ev_or, ev_not, ev_ite, ev_ix, ev_sl, ev_call, ev_mk, ev_met, ev_fld, ev_shr, ev_bi, ev_join, ev_rev, ev_mth, ev_dnK, ev_dnT, ev_comp, evs_nil, evs_cons, evO_nil, evO_part, evI_rng1, evI_rng2, evI_rng3, evI_zip, evI_enm, evI_its, evI_it, ex_skip, ex_brk, ex_cnt, ex_seq, ex_asg, ex_own, ex_ret, ex_retO, ex_expr, ex_ite, ex_loop, ex_setI, ex_setF, ex_app, ex_del, kS_ap, kAsg_ap, kOwn_ap, kEx_ap, kIte_ap, kIf_t, kIf_f, kLoop_ap, kPut_s, kSetF_ap, kApp_ap, kDel_ap, Res.bind_ok, Res.of_some, Res.noX_ok, Res.run_ok, Ok_ok, Ok_bind, Ok_noX, Ok_nx, Ok_ret, Ok_brk, Ok_cnt, List.map_cons, List.map_nil, List.length_cons, List.length_nil, List.cons_append, List.nil_append, List.getElem?_cons_zero, List.getElem?_cons_succ, List.set_cons_zero, List.set_cons_succ, List.replicate_succ, List.replicate_zero, TX.bindT, TX.bindL, add_i, sub_i, fdiv_i, mod_i, band_i, add_t, add_s, add_l, lt_i, le_i, gt_i, ge_i, eq_i, ne_i, eq_s, ne_s, is_n, isn_n, is_b, isn_b, is_i, isn_i, is_tt, isn_tt, is_s, isn_s, is_l, isn_l, ix_t, ix_l, ix_c, ix_s, len_t, len_l, len_c, len_s, int_i, int_b, max_i, min_i, ord_s, list_t, list_l, list_c, tuple_t, tuple_l, tuple_c, all_l, tru_n, tru_b, tru_i, tru_s, tru_t, tru_l, at0, at1, at2, at3, at4, at5, at6, mul_r, mul_l, Option.map_some, Option.bind_some, shutR_nil, shutO_nil, ItV.now, wsOk, wipeC, plObj, chks_nil, compC_nil, loopC_nil, and_self, true_and, and_true, List.all_cons, List.all_nil, Bool.and_self, Bool.and_true, Bool.true_and, Bool.not_true, Bool.not_false, if_true, if_false, decide_true, decide_false, sz0, sz1, sz2, sz3, sz4, sz5, sz6, sz7, sz8, sz9, sz10, sz11, sz12, Nat.reduceLT, Nat.reduceAdd, Nat.reduceSub, Int.reduceLT, Int.reduceLE, Int.reduceToNat, ex_raise, ex_raise2, ex_tryc, ex_whl, Out.next_nx, Out.next_ret, Out.next_exc, Out.next_brk, Out.next_cnt, Out.turn_nx, Out.turn_ret, Out.turn_exc, Out.turn_brk, Out.turn_cnt, Res.bind_exc, Res.run_exc]
  rfl
theorem sc_val (n : Nat) {S' : Sto} (h1 : S[1]? = some (Dsk p t k m)) (e : runN T n (.me "Disk" "schedule_cut") [.loc 1, x, y] S = .ok v S') : runN T (n + 1) (.fn "_law_schedule") [.loc 1, x, y] S = .ok v S' := by
  refine (fn_eq f_law_schedule rfl (o := .ret v S') ?_).trans rfl
  simp only [t_law_schedule, t_law_schedule_b0, m_sched h1, e, Df.start, ev_cst, ev_var, ev_bor, ev_tup, ev_lst, ev_rep, ev_bin, ev_neg, ev_cmp, ev_chn, ev_and, ev_or, ev_not, ev_ite, ev_ix, ev_sl, ev_call, ev_mk, ev_met, ev_fld, ev_shr, ev_bi, ev_join, ev_rev, ev_mth, ev_dnK, ev_dnT, ev_comp, evs_nil, evs_cons, evO_nil, evO_part, evI_rng1, evI_rng2, evI_rng3, evI_zip, evI_enm, evI_its, evI_it, ex_skip, ex_brk, ex_cnt, ex_seq, ex_asg, ex_own, ex_ret, ex_retO, ex_expr, ex_ite, ex_loop, ex_setI, ex_setF, ex_app, ex_del, kS_ap, kAsg_ap, kOwn_ap, kEx_ap, kIte_ap, kIf_t, kIf_f, kLoop_ap, kPut_s, kSetF_ap, kApp_ap, kDel_ap, Res.bind_ok, Res.of_some, Res.noX_ok, Res.run_ok, Ok_ok, Ok_bind, Ok_noX, Ok_nx, Ok_ret, Ok_brk, Ok_cnt, List.map_cons, List.map_nil, List.length_cons, List.length_nil, List.cons_append, List.nil_append, List.getElem?_cons_zero, List.getElem?_cons_succ, List.set_cons_zero, List.set_cons_succ, List.replicate_succ, List.replicate_zero, TX.bindT, TX.bindL, add_i, sub_i, fdiv_i, mod_i, band_i, add_t, add_s, add_l, lt_i, le_i, gt_i, ge_i, eq_i, ne_i, eq_s, ne_s, is_n, isn_n, is_b, isn_b, is_i, isn_i, is_tt, isn_tt, is_s, isn_s, is_l, isn_l, ix_t, ix_l, ix_c, ix_s, len_t, len_l, len_c, len_s, int_i, int_b, max_i, min_i, ord_s, list_t, list_l, list_c, tuple_t, tuple_l, tuple_c, all_l, tru_n, tru_b, tru_i, tru_s, tru_t, tru_l, at0, at1, at2, at3, at4, at5, at6, mul_r, mul_l, Option.map_some, Option.bind_some, shutR_nil, shutO_nil, ItV.now, wsOk, wipeC, plObj, chks_nil, compC_nil, loopC_nil, and_self, true_and, and_true, List.all_cons, List.all_nil, Bool.and_self, Bool.and_true, Bool.true_and, Bool.not_true, Bool.not_false, if_true, if_false, decide_true, decide_false, sz0, sz1, sz2, sz3, sz4, sz5, sz6, sz7, sz8, sz9, sz10, sz11, sz12, Nat.reduceLT, Nat.reduceAdd, Nat.reduceSub, Int.reduceLT, Int.reduceLE, Int.reduceToNat, ex_raise, ex_raise2, ex_tryc, ex_whl, Out.next_nx, Out.next_ret, Out.next_exc, Out.next_brk, Out.next_cnt, Out.turn_nx, Out.turn_ret, Out.turn_exc, Out.turn_brk, Out.turn_cnt, Res.bind_exc, Res.run_exc]
theorem sc_exc (n : Nat) {z : Str} (h1 : S[1]? = some (Dsk p t k m)) (e : runN T n (.me "Disk" "schedule_cut") [.loc 1, x, y] S = .exc (Str.ofString "OutOfRange") (some (.str z)) S) : runN T (n + 1) (.fn "_law_schedule") [.loc 1, x, y] S = .ok (Rf z) S := by
  refine (fn_eq f_law_schedule rfl (o := .ret (Rf z) S) ?_).trans rfl
  simp only [t_law_schedule, t_law_schedule_b0, m_sched h1, e, Df.start, ev_cst, ev_var, ev_bor, ev_tup, ev_lst, ev_rep, ev_bin, ev_neg, ev_cmp, ev_chn, ev_and, ev_or, ev_not, ev_ite, ev_ix, ev_sl, ev_call, ev_mk, ev_met, ev_fld, ev_shr, ev_bi, ev_join, ev_rev, ev_mth, ev_dnK, ev_dnT, ev_comp, evs_nil, evs_cons, evO_nil, evO_part, evI_rng1, evI_rng2, evI_rng3, evI_zip, evI_enm, evI_its, evI_it, ex_skip, ex_brk, ex_cnt, ex_seq, ex_asg, ex_own, ex_ret, ex_retO, ex_expr, ex_ite, ex_loop, ex_setI, ex_setF, ex_app, ex_del, kS_ap, kAsg_ap, kOwn_ap, kEx_ap, kIte_ap, kIf_t, kIf_f, kLoop_ap, kPut_s, kSetF_ap, kApp_ap, kDel_ap, Res.bind_ok, Res.of_some, Res.noX_ok, Res.run_ok, Ok_ok, Ok_bind, Ok_noX, Ok_nx, Ok_ret, Ok_brk, Ok_cnt, List.map_cons, List.map_nil, List.length_cons, List.length_nil, List.cons_append, List.nil_append, List.getElem?_cons_zero, List.getElem?_cons_succ, List.set_cons_zero, List.set_cons_succ, List.replicate_succ, List.replicate_zero, TX.bindT, TX.bindL, add_i, sub_i, fdiv_i, mod_i, band_i, add_t, add_s, add_l, lt_i, le_i, gt_i, ge_i, eq_i, ne_i, eq_s, ne_s, is_n, isn_n, is_b, isn_b, is_i, isn_i, is_tt, isn_tt, is_s, isn_s, is_l, isn_l, ix_t, ix_l, ix_c, ix_s, len_t, len_l, len_c, len_s, int_i, int_b, max_i, min_i, ord_s, list_t, list_l, list_c, tuple_t, tuple_l, tuple_c, all_l, tru_n, tru_b, tru_i, tru_s, tru_t, tru_l, at0, at1, at2, at3, at4, at5, at6, mul_r, mul_l, Option.map_some, Option.bind_some, shutR_nil, shutO_nil, ItV.now, wsOk, wipeC, plObj, chks_nil, compC_nil, loopC_nil, and_self, true_and, and_true, List.all_cons, List.all_nil, Bool.and_self, Bool.and_true, Bool.true_and, Bool.not_true, Bool.not_false, if_true, if_false, decide_true, decide_false, sz0, sz1, sz2, sz3, sz4, sz5, sz6, sz7, sz8, sz9, sz10, sz11, sz12, Nat.reduceLT, Nat.reduceAdd, Nat.reduceSub, Int.reduceLT, Int.reduceLE, Int.reduceToNat, ex_raise, ex_raise2, ex_tryc, ex_whl, Out.next_nx, Out.next_ret, Out.next_exc, Out.next_brk, Out.next_cnt, Out.turn_nx, Out.turn_ret, Out.turn_exc, Out.turn_brk, Out.turn_cnt, Res.bind_exc, Res.run_exc]
  rfl
/-- the power is cut at a flush, at a write -/
theorem flush_cut (n : Nat) (h1 : S[1]? = some (Dsk p t k 0)) {S' : Sto} (e : runN T (n + 2) (.me "Disk" "_spend") [.loc 1] S = .exc (Str.ofString "PowerCut") none S') : runN T (n + 3) (.me "Disk" "flush") [.loc 1] S = .exc (Str.ofString "PowerCut") none S' := by
  refine (me_eq fDisk_flush rfl (o := .exc _ _ [.val (.loc 1), .und, .und] S') ?_).trans rfl
  simp only [tDisk_flush, m_spend h1, e, Df.start, ev_cst, ev_var, ev_bor, ev_tup, ev_lst, ev_rep, ev_bin, ev_neg, ev_cmp, ev_chn, ev_and, ev_or, ev_not, ev_ite, ev_ix, ev_sl, ev_call, ev_mk, ev_met, ev_fld, ev_shr, ev_bi, ev_join, ev_rev, ev_mth, ev_dnK, ev_dnT, ev_comp, evs_nil, evs_cons, evO_nil, evO_part, evI_rng1, evI_rng2, evI_rng3, evI_zip, evI_enm, evI_its, evI_it, ex_skip, ex_brk, ex_cnt, ex_seq, ex_asg, ex_own, ex_ret, ex_retO, ex_expr, ex_ite, ex_loop, ex_setI, ex_setF, ex_app, ex_del, kS_ap, kAsg_ap, kOwn_ap, kEx_ap, kIte_ap, kIf_t, kIf_f, kLoop_ap, kPut_s, kSetF_ap, kApp_ap, kDel_ap, Res.bind_ok, Res.of_some, Res.noX_ok, Res.run_ok, Ok_ok, Ok_bind, Ok_noX, Ok_nx, Ok_ret, Ok_brk, Ok_cnt, List.map_cons, List.map_nil, List.length_cons, List.length_nil, List.cons_append, List.nil_append, List.getElem?_cons_zero, List.getElem?_cons_succ, List.set_cons_zero, List.set_cons_succ, List.replicate_succ, List.replicate_zero, TX.bindT, TX.bindL, add_i, sub_i, fdiv_i, mod_i, band_i, add_t, add_s, add_l, lt_i, le_i, gt_i, ge_i, eq_i, ne_i, eq_s, ne_s, is_n, isn_n, is_b, isn_b, is_i, isn_i, is_tt, isn_tt, is_s, isn_s, is_l, isn_l, ix_t, ix_l, ix_c, ix_s, len_t, len_l, len_c, len_s, int_i, int_b, max_i, min_i, ord_s, list_t, list_l, list_c, tuple_t, tuple_l, tuple_c, all_l, tru_n, tru_b, tru_i, tru_s, tru_t, tru_l, at0, at1, at2, at3, at4, at5, at6, mul_r, mul_l, Option.map_some, Option.bind_some, shutR_nil, shutO_nil, ItV.now, wsOk, wipeC, plObj, chks_nil, compC_nil, loopC_nil, and_self, true_and, and_true, List.all_cons, List.all_nil, Bool.and_self, Bool.and_true, Bool.true_and, Bool.not_true, Bool.not_false, if_true, if_false, decide_true, decide_false, sz0, sz1, sz2, sz3, sz4, sz5, sz6, sz7, sz8, sz9, sz10, sz11, sz12, Nat.reduceLT, Nat.reduceAdd, Nat.reduceSub, Int.reduceLT, Int.reduceLE, Int.reduceToNat, ex_raise, ex_raise2, ex_tryc, ex_whl, Out.next_nx, Out.next_ret, Out.next_exc, Out.next_brk, Out.next_cnt, Out.turn_nx, Out.turn_ret, Out.turn_exc, Out.turn_brk, Out.turn_cnt, Res.bind_exc, Res.run_exc]
theorem write_cut (n : Nat) (h1 : S[1]? = some (Dsk p t k 0)) (h2 : S[2]? = some (.lst (bs.map bD))) {S' : Sto} {a : Nat} (h : a < bs.length) {b : Bk} (hb : isBlock b = true) (e : runN T (n + 2) (.me "Disk" "_spend") [.loc 1] S = .exc (Str.ofString "PowerCut") none S') :
    runN T (n + 3) (.me "Disk" "write") [.loc 1, .int a, .lst (b.map D.int)] S = .exc (Str.ofString "PowerCut") none S' := by
  have hc := check_ok (n + 1) h1 h2 (a := (a : Int)) (by omega) (by omega)
  have hx : IsL S (.lst (b.map D.int)) (b.map D.int) := .inl rfl
  refine (me_eq fDisk_write rfl (o := .exc _ _ [.val (.loc 1), .val (.int a), .val (.lst (b.map D.int))] S') ?_).trans rfl
  simp only [tDisk_write, m_check h1, hc, is_block_eq (n + 1) hx, hb, m_spend h1, e, Df.start, ev_cst, ev_var, ev_bor, ev_tup, ev_lst, ev_rep, ev_bin, ev_neg, ev_cmp, ev_chn, ev_and, ev_or, ev_not, ev_ite, ev_ix, ev_sl, ev_call, ev_mk, ev_met, ev_fld, ev_shr, ev_bi, ev_join, ev_rev, ev_mth, ev_dnK, ev_dnT, ev_comp, evs_nil, evs_cons, evO_nil, evO_part, evI_rng1, evI_rng2, evI_rng3, evI_zip, evI_enm, evI_its, evI_it, ex_skip, ex_brk, ex_cnt, ex_seq, ex_asg, ex_own, ex_ret, ex_retO, ex_expr, ex_ite, ex_loop, ex_setI, ex_setF, ex_app, ex_del, kS_ap, kAsg_ap, kOwn_ap, kEx_ap, kIte_ap, kIf_t, kIf_f, kLoop_ap, kPut_s, kSetF_ap, kApp_ap, kDel_ap, Res.bind_ok, Res.of_some, Res.noX_ok, Res.run_ok, Ok_ok, Ok_bind, Ok_noX, Ok_nx, Ok_ret, Ok_brk, Ok_cnt, List.map_cons, List.map_nil, List.length_cons, List.length_nil, List.cons_append, List.nil_append, List.getElem?_cons_zero, List.getElem?_cons_succ, List.set_cons_zero, List.set_cons_succ, List.replicate_succ, List.replicate_zero, TX.bindT, TX.bindL, add_i, sub_i, fdiv_i, mod_i, band_i, add_t, add_s, add_l, lt_i, le_i, gt_i, ge_i, eq_i, ne_i, eq_s, ne_s, is_n, isn_n, is_b, isn_b, is_i, isn_i, is_tt, isn_tt, is_s, isn_s, is_l, isn_l, ix_t, ix_l, ix_c, ix_s, len_t, len_l, len_c, len_s, int_i, int_b, max_i, min_i, ord_s, list_t, list_l, list_c, tuple_t, tuple_l, tuple_c, all_l, tru_n, tru_b, tru_i, tru_s, tru_t, tru_l, at0, at1, at2, at3, at4, at5, at6, mul_r, mul_l, Option.map_some, Option.bind_some, shutR_nil, shutO_nil, ItV.now, wsOk, wipeC, plObj, chks_nil, compC_nil, loopC_nil, and_self, true_and, and_true, List.all_cons, List.all_nil, Bool.and_self, Bool.and_true, Bool.true_and, Bool.not_true, Bool.not_false, if_true, if_false, decide_true, decide_false, sz0, sz1, sz2, sz3, sz4, sz5, sz6, sz7, sz8, sz9, sz10, sz11, sz12, Nat.reduceLT, Nat.reduceAdd, Nat.reduceSub, Int.reduceLT, Int.reduceLE, Int.reduceToNat, ex_raise, ex_raise2, ex_tryc, ex_whl, Out.next_nx, Out.next_ret, Out.next_exc, Out.next_brk, Out.next_cnt, Out.turn_nx, Out.turn_ret, Out.turn_exc, Out.turn_brk, Out.turn_cnt, Res.bind_exc, Res.run_exc]
theorem ne_rf (z : Str) (h : pln (.str z) = true) (S : Sto) : cmpOp .ne S (Rf z) (.tup [.str (Str.ofString "refused"), .str z]) = some false := by
  have hp : pln (Rf z) = true := by
    show (pln (.str (Str.ofString "refused")) && (pln (.str z) && true)) = true
    rw [h, show pln (.str (Str.ofString "refused")) = true by decide +kernel]
    rfl
  rw [ne_p hp hp (by show 1 ≤ 64; decide) (by show 1 ≤ 64; decide), decide_eq_true rfl]
  rfl
end
/-! ### the law -/
def tailOf : TX.St → TX.St
  | .seq _ b => b
  | t => t
def tB : TX.St := tailOf (tailOf tlaw_b2)
def thenOf : TX.St → TX.St
  | .ite _ a _ => a
  | t => t
def elseOf : TX.St → TX.St
  | .ite _ _ b => b
  | t => t
def headOf : TX.St → TX.St
  | .seq a _ => a
  | t => t
def sI : TX.St := headOf (tailOf tlaw_b2)
def sA : TX.St := thenOf sI
def sE : TX.St := headOf (elseOf sI)
def sB : TX.St := thenOf sE
def sF : TX.St := headOf (elseOf sE)
def sC : TX.St := thenOf sF
def sD : TX.St := elseOf sF
structure Wo (S : Sto) (xs : List Int) (c s p t q : Nat) (k m : Int) (bs : List Bk) (pd : List (Nat × Bk)) (ts : List Int) : Prop where
  z : S[0]? = some (Box xs c)
  i : S[1]? = some (Dsk p t k m)
  b : S[2]? = some (.lst (bs.map bD))
  d : S[p]? = some (.lst (pd.map eD))
  u : S[5]? = some (.lst (bs.map bD))
  lq : S[q]? = some (.lst (pd.map lD))
  np : p ≠ 0 ∧ p ≠ 1 ∧ p ≠ 2 ∧ p ≠ 5 ∧ p ≠ q
  nq : q ≠ 0 ∧ q ≠ 1 ∧ q ≠ 2 ∧ q ≠ 5
  sz : Sz bs
  len : bs.length = s
  ok : ∀ e ∈ pd, e.1 < bs.length ∧ isBlock e.2 = true
  mm : -1 ≤ m
  ht : ts.all okT = true
  hl : ts.length ≤ 1000
  hT : 0 ≤ m → S[t]? = some (.lst (ts.map D.int)) ∧ t ≠ 0 ∧ t ≠ 1 ∧ t ≠ 2 ∧ t ≠ 5 ∧ t ≠ p ∧ t ≠ q
section
variable {S S' : Sto} {xs ts : List Int} {c c' s p t q : Nat} {k m : Int} {bs : List Bk} {pd : List (Nat × Bk)}
theorem Wo.fr (w : Wo S xs c s p t q k m bs pd ts) (f : Fr S S' [0]) (hz : S'[0]? = some (Box xs c')) : Wo S' xs c' s p t q k m bs pd ts where
  z := hz
  i := f.get (by decide) w.i
  b := f.get (by decide) w.b
  d := f.get (by rw [List.mem_singleton]; exact w.np.1) w.d
  u := f.get (by decide) w.u
  lq := f.get (by rw [List.mem_singleton]; exact w.nq.1) w.lq
  np := w.np
  nq := w.nq
  sz := w.sz
  len := w.len
  ok := w.ok
  mm := w.mm
  ht := w.ht
  hl := w.hl
  hT := fun h => by
    obtain ⟨h1, h2⟩ := w.hT h
    exact ⟨f.get (by rw [List.mem_singleton]; exact h2.1) h1, h2⟩
theorem Wo.box (w : Wo S xs c s p t q k m bs pd ts) : Wo (S.set 0 (Box xs c')) xs c' s p t q k m bs pd ts := w.fr (Fr.refl.set (by simp)) (box_at w.z)
end
def Nv (c : C) : Prop := c = .und ∨ ∃ v, c = .val v
/-- what stands between the turns -/
def In (ns xs : List Int) (s : Nat) (i : Nat) (ρ : TX.Env) (S : Sto) : Prop := ∃ (c9 c10 c11 c12 c13 c14 c15 c16 c17 : C) (c p t q : Nat) (k m : Int) (bs : List Bk) (pd : List (Nat × Bk)) (ts : List Int),
  ρ = [.val (.scr (ns.map D.int)), .val (.loc 0), .val (.int s), .val (.loc 1), .val (.loc 5), .val (.loc q), .val (.int m), .val (.lst (ts.map D.int)), .val (.int k), c9, c10, c11, c12, c13, c14, c15, c16, c17] ∧ Wo S xs c s p t q k m bs pd ts ∧ pd.length ≤ i ∧ Nv c12 ∧ Nv c15
section
variable {n : Nat} {ns xs : List Int} {s i : Nat} {ρ : TX.Env} {S : Sto} {R : D → Sto → Prop} {N B C' : TX.Env → Sto → Prop}
theorem tail_ok (h : In ns xs s i ρ S) (q : ∀ ρ S, In ns xs s i ρ S → N ρ S) : (ex (runN T (n + 6)) tB ρ S).Ok N R B C' := by
  obtain ⟨c9, c10, c11, c12, c13, c14, c15, c16, c17, c, p, t, q', k, m, bs, pd, ts, rfl, w, hl, h12, h15⟩ := h
  have p1 := pc_eq (n + 5) w.i w.d
  have p2 := cc_eq (n + 5) w.i
  have ll : biOp .len S [.loc q'] = some (.int pd.length) := by
    rw [len_loc w.lq, List.length_map]
  simp only [tB, tailOf, tlaw_b2, m_pc w.i, m_cc w.i, p1, p2, ll, Df.start, ev_cst, ev_var, ev_bor, ev_tup, ev_lst, ev_rep, ev_bin, ev_neg, ev_cmp, ev_chn, ev_and, ev_or, ev_not, ev_ite, ev_ix, ev_sl, ev_call, ev_mk, ev_met, ev_fld, ev_shr, ev_bi, ev_join, ev_rev, ev_mth, ev_dnK, ev_dnT, ev_comp, evs_nil, evs_cons, evO_nil, evO_part, evI_rng1, evI_rng2, evI_rng3, evI_zip, evI_enm, evI_its, evI_it, o_skip, o_brk, o_cnt, o_seq, o_asg, o_own, o_ret, o_retO, o_expr, o_ite, o_loop, o_setI, o_setF, o_app, o_del, kS_ap, kAsg_ap, kOwn_ap, kEx_ap, kIte_ap, kIf_t, kIf_f, kLoop_ap, kPut_s, kSetF_ap, kApp_ap, kDel_ap, Res.bind_ok, Res.of_some, Res.noX_ok, Res.run_ok, Ok_ok, Ok_bind, Ok_noX, Ok_nx, Ok_ret, Ok_brk, Ok_cnt, List.map_cons, List.map_nil, List.length_cons, List.length_nil, List.cons_append, List.nil_append, List.getElem?_cons_zero, List.getElem?_cons_succ, List.set_cons_zero, List.set_cons_succ, TX.bindT, TX.bindL, add_i, sub_i, fdiv_i, mod_i, band_i, add_t, add_s, add_l, lt_i, le_i, gt_i, ge_i, eq_i, ne_i, eq_s, ne_s, is_n, isn_n, is_b, isn_b, is_i, isn_i, is_tt, isn_tt, is_s, isn_s, is_l, isn_l, ix_t, ix_l, ix_c, ix_s, len_t, len_l, len_c, len_s, int_i, int_b, max_i, min_i, ord_s, list_t, list_l, list_c, tuple_t, tuple_l, tuple_c, all_l, tru_n, tru_b, tru_i, tru_s, tru_t, tru_l, at0, at1, at2, at3, at4, at5, at6, mul_r, mul_l, Option.map_some, Option.bind_some, shutR_nil, shutO_nil, ItV.now, wsOk, wipeC, plObj, chks_nil, compC_nil, loopC_nil, and_self, true_and, and_true, List.all_cons, List.all_nil, Bool.and_self, Bool.and_true, Bool.true_and, Bool.not_true, Bool.not_false, if_true, if_false, decide_true, decide_false, sz0, sz1, sz2, sz3, sz4, sz5, sz6, sz7, sz8, sz9, sz10, sz11, sz12, Nat.reduceLT, Nat.reduceAdd, Nat.reduceSub, Int.reduceLT, Int.reduceLE, Int.reduceToNat]
  exact q _ _ ⟨c9, c10, c11, c12, c13, c14, c15, c16, c17, c, p, t, q', k, m, bs, pd, ts, rfl, w, hl, h12, h15⟩
theorem many_bad {r : Nat} (h : (r : Int) < 2) : ∃ a : Int, L2.atI [D.int (0 - 1), .int 100001] (r : Int) = some (.int a) ∧ ¬ (0 ≤ a ∧ a ≤ 100000) := by
  have : r = 0 ∨ r = 1 := by omega
  rcases this with rfl | rfl
  · exact ⟨0 - 1, at_n rfl, by omega⟩
  · exact ⟨100001, at_n rfl, by omega⟩
/-- a cut is scheduled -/
theorem A_ok {c9 c10 c11 c12 c13 c14 c15 c16 c17 : C} {c p t q : Nat} {k m : Int} {bs : List Bk} {pd : List (Nat × Bk)} {ts : List Int} (w : Wo S xs c s p t q k m bs pd ts) (hl : pd.length ≤ i) (h12 : Nv c12) (h15 : Nv c15) (fin : ∀ ρ S, In ns xs s i ρ S → N ρ S) :
    (ex (runN T (n + 6)) sA [.val (.scr (ns.map D.int)), .val (.loc 0), .val (.int s), .val (.loc 1), .val (.loc 5), .val (.loc q), .val (.int m), .val (.lst (ts.map D.int)), .val (.int k), c9, c10, c11, c12, c13, c14, c15, c16, c17] S).Ok N R B C' := by
  simp only [sA, sI, thenOf, headOf, tailOf, tlaw_b2, Df.start, ev_cst, ev_var, ev_bor, ev_tup, ev_lst, ev_rep, ev_bin, ev_neg, ev_cmp, ev_chn, ev_and, ev_or, ev_not, ev_ite, ev_ix, ev_sl, ev_call, ev_mk, ev_met, ev_fld, ev_shr, ev_bi, ev_join, ev_rev, ev_mth, ev_dnK, ev_dnT, ev_comp, evs_nil, evs_cons, evO_nil, evO_part, evI_rng1, evI_rng2, evI_rng3, evI_zip, evI_enm, evI_its, evI_it, o_skip, o_brk, o_cnt, o_seq, o_asg, o_own, o_ret, o_retO, o_expr, o_ite, o_loop, o_setI, o_setF, o_app, o_del, kS_ap, kAsg_ap, kOwn_ap, kEx_ap, kIte_ap, kIf_t, kIf_f, kLoop_ap, kPut_s, kSetF_ap, kApp_ap, kDel_ap, Res.bind_ok, Res.of_some, Res.noX_ok, Res.run_ok, Ok_ok, Ok_bind, Ok_noX, Ok_nx, Ok_ret, Ok_brk, Ok_cnt, List.map_cons, List.map_nil, List.length_cons, List.length_nil, List.cons_append, List.nil_append, List.getElem?_cons_zero, List.getElem?_cons_succ, List.set_cons_zero, List.set_cons_succ, TX.bindT, TX.bindL, add_i, sub_i, fdiv_i, mod_i, band_i, add_t, add_s, add_l, lt_i, le_i, gt_i, ge_i, eq_i, ne_i, eq_s, ne_s, is_n, isn_n, is_b, isn_b, is_i, isn_i, is_tt, isn_tt, is_s, isn_s, is_l, isn_l, ix_t, ix_l, ix_c, ix_s, len_t, len_l, len_c, len_s, int_i, int_b, max_i, min_i, ord_s, list_t, list_l, list_c, tuple_t, tuple_l, tuple_c, all_l, tru_n, tru_b, tru_i, tru_s, tru_t, tru_l, at0, at1, at2, at3, at4, at5, at6, mul_r, mul_l, Option.map_some, Option.bind_some, shutR_nil, shutO_nil, ItV.now, wsOk, wipeC, plObj, chks_nil, compC_nil, loopC_nil, and_self, true_and, and_true, List.all_cons, List.all_nil, Bool.and_self, Bool.and_true, Bool.true_and, Bool.not_true, Bool.not_false, if_true, if_false, decide_true, decide_false, sz0, sz1, sz2, sz3, sz4, sz5, sz6, sz7, sz8, sz9, sz10, sz11, sz12, Nat.reduceLT, Nat.reduceAdd, Nat.reduceSub, Int.reduceLT, Int.reduceLE, Int.reduceToNat]
  refine drawS w.z (by decide) fun r c1 hr => ?_
  simp only [Df.start, ev_cst, ev_var, ev_bor, ev_tup, ev_lst, ev_rep, ev_bin, ev_neg, ev_cmp, ev_chn, ev_and, ev_or, ev_not, ev_ite, ev_ix, ev_sl, ev_call, ev_mk, ev_met, ev_fld, ev_shr, ev_bi, ev_join, ev_rev, ev_mth, ev_dnK, ev_dnT, ev_comp, evs_nil, evs_cons, evO_nil, evO_part, evI_rng1, evI_rng2, evI_rng3, evI_zip, evI_enm, evI_its, evI_it, o_skip, o_brk, o_cnt, o_seq, o_asg, o_own, o_ret, o_retO, o_expr, o_ite, o_loop, o_setI, o_setF, o_app, o_del, kS_ap, kAsg_ap, kOwn_ap, kEx_ap, kIte_ap, kIf_t, kIf_f, kLoop_ap, kPut_s, kSetF_ap, kApp_ap, kDel_ap, Res.bind_ok, Res.of_some, Res.noX_ok, Res.run_ok, Ok_ok, Ok_bind, Ok_noX, Ok_nx, Ok_ret, Ok_brk, Ok_cnt, List.map_cons, List.map_nil, List.length_cons, List.length_nil, List.cons_append, List.nil_append, List.getElem?_cons_zero, List.getElem?_cons_succ, List.set_cons_zero, List.set_cons_succ, TX.bindT, TX.bindL, add_i, sub_i, fdiv_i, mod_i, band_i, add_t, add_s, add_l, lt_i, le_i, gt_i, ge_i, eq_i, ne_i, eq_s, ne_s, is_n, isn_n, is_b, isn_b, is_i, isn_i, is_tt, isn_tt, is_s, isn_s, is_l, isn_l, ix_t, ix_l, ix_c, ix_s, len_t, len_l, len_c, len_s, int_i, int_b, max_i, min_i, ord_s, list_t, list_l, list_c, tuple_t, tuple_l, tuple_c, all_l, tru_n, tru_b, tru_i, tru_s, tru_t, tru_l, at0, at1, at2, at3, at4, at5, at6, mul_r, mul_l, Option.map_some, Option.bind_some, shutR_nil, shutO_nil, ItV.now, wsOk, wipeC, plObj, chks_nil, compC_nil, loopC_nil, and_self, true_and, and_true, List.all_cons, List.all_nil, Bool.and_self, Bool.and_true, Bool.true_and, Bool.not_true, Bool.not_false, if_true, if_false, decide_true, decide_false, sz0, sz1, sz2, sz3, sz4, sz5, sz6, sz7, sz8, sz9, sz10, sz11, sz12, Nat.reduceLT, Nat.reduceAdd, Nat.reduceSub, Int.reduceLT, Int.reduceLE, Int.reduceToNat]
  refine tornL_ok (n := n + 4) (S := S.set 0 (Box xs c1)) (xs := xs) (c := c1) (m := 9) (box_at w.z) (by decide) fun ts2 c2 hts hlt => ?_
  rw [set_set]
  have w1 := w.box (c' := c2)
  generalize S.set 0 (Box xs c2) = S1 at w1
  have w2 := w1.fr (S' := S1 ++ [Cell.lst (ts2.map D.int)]) Fr.refl.app ((List.getElem?_append_left (lt_of w1.z)).trans w1.z)
  have hh : (S1 ++ [Cell.lst (ts2.map D.int)])[S1.length]? = some (.lst (ts2.map D.int)) := List.getElem?_concat_length
  generalize hS2 : S1 ++ [Cell.lst (ts2.map D.int)] = S2 at w2 hh
  have l1 := lt_of w2.i
  have s1 : TX.runN T (n + 6) (.fn "_law_schedule") [.loc 1, .int 100000, .lst [.int 32]] S2 = _ := sc_val (n + 5) w2.i (sched_ok (n + 3) w2.i (w := 100000) (by decide) (by decide) (y := .lst [.int 32]) (ts := [32]) (.inl rfl) (by decide))
  generalize hS3 : (S2.set 1 (Dsk p t k 100000) ++ [Cell.lst (([32] : List Int).map D.int)]).set 1 (Dsk p S2.length k 100000) = S3 at s1
  have i3 : S3[1]? = some (Dsk p S2.length k 100000) := by
    rw [← hS3]
    exact List.getElem?_set_self (by rw [List.length_append, List.length_set]; omega)
  have k3 : Fr S2 S3 [1] := by
    rw [← hS3]
    exact (Fr.refl.set (by simp)).app.set (by simp)
  have h3 : S3[S1.length]? = some (.lst (ts2.map D.int)) := k3.get (by rw [List.mem_singleton]; have := lt_of w1.i; omega) hh
  have s2 := sc_val (n + 5) i3 (sched_ok (n + 3) i3 (w := (r : Int)) (by omega) (by omega) (y := .loc S1.length) (ts := ts2) (.inr ⟨_, rfl, h3⟩) hts)
  generalize hS4 : (S3.set 1 (Dsk p S2.length k r) ++ [Cell.lst (ts2.map D.int)]).set 1 (Dsk p S3.length k r) = S4 at s2
  have l3 := lt_of i3
  have i4 : S4[1]? = some (Dsk p S3.length k r) := by
    rw [← hS4]
    exact List.getElem?_set_self (by rw [List.length_append, List.length_set]; omega)
  have k4 : Fr S2 S4 [1] := k3.trans (by
    rw [← hS4]
    exact (Fr.refl.set (by simp)).app.set (by simp))
  have h4 : S4[S1.length]? = some (.lst (ts2.map D.int)) := k4.get (by rw [List.mem_singleton]; have := lt_of w1.i; omega) hh
  have t4 : S4[S3.length]? = some (.lst (ts2.map D.int)) := by
    rw [← hS4, List.getElem?_set_ne (by omega)]
    have e : (S3.set 1 (Dsk p S2.length k r)).length = S3.length := List.length_set
    rw [← e]
    exact List.getElem?_concat_length
  have ty := ty_app h4
  have op : ∀ d, mthOp .append S4 (.loc S1.length) [d] = some (.non, S4.set S1.length (.lst (ts2.map D.int ++ [d]))) := fun d => op_app h4 (by rw [List.length_map]; exact Nat.lt_of_le_of_lt hlt (by decide))
  have l2 : S2.length = S1.length + 1 := by
    rw [← hS2, List.length_append]
    rfl
  have l23 := k3.len
  have l24 := k4.len
  have zS := lt_of w1.z
  have f5 : Fr S1 (S4.set S1.length (.lst (ts2.map D.int ++ [.int 1]))) [1] := ⟨by rw [List.length_set]; omega, fun i hi hl => by
    rw [List.getElem?_set_ne (by omega)]
    exact ((by rw [← hS2]; exact Fr.refl.app : Fr S1 S2 [1]).trans k4).keep i hi hl⟩
  have t5 : (S4.set S1.length (.lst (ts2.map D.int ++ [.int 1])))[S3.length]? = some (.lst (ts2.map D.int)) := by
    rw [List.getElem?_set_ne (by omega)]
    exact t4
  have i5 : (S4.set S1.length (.lst (ts2.map D.int ++ [.int 1])))[1]? = some (Dsk p S3.length k r) := by
    rw [List.getElem?_set_ne (by have := lt_of w1.i; omega)]
    exact i4
  rw [← hS2] at s1
  simp only [s1, s2, ty, op, Df.start, ev_cst, ev_var, ev_bor, ev_tup, ev_lst, ev_rep, ev_bin, ev_neg, ev_cmp, ev_chn, ev_and, ev_or, ev_not, ev_ite, ev_ix, ev_sl, ev_call, ev_mk, ev_met, ev_fld, ev_shr, ev_bi, ev_join, ev_rev, ev_mth, ev_dnK, ev_dnT, ev_comp, evs_nil, evs_cons, evO_nil, evO_part, evI_rng1, evI_rng2, evI_rng3, evI_zip, evI_enm, evI_its, evI_it, o_skip, o_brk, o_cnt, o_seq, o_asg, o_own, o_ret, o_retO, o_expr, o_ite, o_loop, o_setI, o_setF, o_app, o_del, kS_ap, kAsg_ap, kOwn_ap, kEx_ap, kIte_ap, kIf_t, kIf_f, kLoop_ap, kPut_s, kSetF_ap, kApp_ap, kDel_ap, Res.bind_ok, Res.of_some, Res.noX_ok, Res.run_ok, Ok_ok, Ok_bind, Ok_noX, Ok_nx, Ok_ret, Ok_brk, Ok_cnt, List.map_cons, List.map_nil, List.length_cons, List.length_nil, List.cons_append, List.nil_append, List.getElem?_cons_zero, List.getElem?_cons_succ, List.set_cons_zero, List.set_cons_succ, TX.bindT, TX.bindL, add_i, sub_i, fdiv_i, mod_i, band_i, add_t, add_s, add_l, lt_i, le_i, gt_i, ge_i, eq_i, ne_i, eq_s, ne_s, is_n, isn_n, is_b, isn_b, is_i, isn_i, is_tt, isn_tt, is_s, isn_s, is_l, isn_l, ix_t, ix_l, ix_c, ix_s, len_t, len_l, len_c, len_s, int_i, int_b, max_i, min_i, ord_s, list_t, list_l, list_c, tuple_t, tuple_l, tuple_c, all_l, tru_n, tru_b, tru_i, tru_s, tru_t, tru_l, at0, at1, at2, at3, at4, at5, at6, mul_r, mul_l, Option.map_some, Option.bind_some, shutR_nil, shutO_nil, ItV.now, wsOk, wipeC, plObj, chks_nil, compC_nil, loopC_nil, and_self, true_and, and_true, List.all_cons, List.all_nil, Bool.and_self, Bool.and_true, Bool.true_and, Bool.not_true, Bool.not_false, if_true, if_false, decide_true, decide_false, sz0, sz1, sz2, sz3, sz4, sz5, sz6, sz7, sz8, sz9, sz10, sz11, sz12, Nat.reduceLT, Nat.reduceAdd, Nat.reduceSub, Int.reduceLT, Int.reduceLE, Int.reduceToNat]
  have z5 := f5.get (by decide) w1.z
  clear s1 s2 ty op t4 h4 k4 i4 hS4
  generalize S4.set S1.length (.lst (ts2.map D.int ++ [.int 1])) = S5 at f5 t5 i5 z5
  refine drawS (m := 2) z5 (by decide) fun r2 c3 h3 => ?_
  have i6 : (S5.set 0 (Box xs c3))[1]? = some (Dsk p S3.length k r) := (List.getElem?_set_ne (by decide)).trans i5
  obtain ⟨a3, ea3, ha3⟩ := many_bad h3
  have s3 := sc_exc (y := .lst [.int 33]) (n + 5) i6 (sched_bad1 (n + 3) ha3)
  have s4 : TX.runN T (n + 6) (.fn "_law_schedule") [.loc 1, .int 3, .lst [.int 33]] (S5.set 0 (Box xs c3)) = _ := sc_exc (n + 5) i6 (sched_bad2 (n + 3) (w := 3) (by decide) (by decide) (ts := [33]) (by decide))
  have n1 := ne_rf (Str.ofString "many") (by decide +kernel)
  have n2 := ne_rf (Str.ofString "torn") (by decide +kernel)
  simp only [ea3, s3, s4, n1, n2, Df.start, ev_cst, ev_var, ev_bor, ev_tup, ev_lst, ev_rep, ev_bin, ev_neg, ev_cmp, ev_chn, ev_and, ev_or, ev_not, ev_ite, ev_ix, ev_sl, ev_call, ev_mk, ev_met, ev_fld, ev_shr, ev_bi, ev_join, ev_rev, ev_mth, ev_dnK, ev_dnT, ev_comp, evs_nil, evs_cons, evO_nil, evO_part, evI_rng1, evI_rng2, evI_rng3, evI_zip, evI_enm, evI_its, evI_it, o_skip, o_brk, o_cnt, o_seq, o_asg, o_own, o_ret, o_retO, o_expr, o_ite, o_loop, o_setI, o_setF, o_app, o_del, kS_ap, kAsg_ap, kOwn_ap, kEx_ap, kIte_ap, kIf_t, kIf_f, kLoop_ap, kPut_s, kSetF_ap, kApp_ap, kDel_ap, Res.bind_ok, Res.of_some, Res.noX_ok, Res.run_ok, Ok_ok, Ok_bind, Ok_noX, Ok_nx, Ok_ret, Ok_brk, Ok_cnt, List.map_cons, List.map_nil, List.length_cons, List.length_nil, List.cons_append, List.nil_append, List.getElem?_cons_zero, List.getElem?_cons_succ, List.set_cons_zero, List.set_cons_succ, TX.bindT, TX.bindL, add_i, sub_i, fdiv_i, mod_i, band_i, add_t, add_s, add_l, lt_i, le_i, gt_i, ge_i, eq_i, ne_i, eq_s, ne_s, is_n, isn_n, is_b, isn_b, is_i, isn_i, is_tt, isn_tt, is_s, isn_s, is_l, isn_l, ix_t, ix_l, ix_c, ix_s, len_t, len_l, len_c, len_s, int_i, int_b, max_i, min_i, ord_s, list_t, list_l, list_c, tuple_t, tuple_l, tuple_c, all_l, tru_n, tru_b, tru_i, tru_s, tru_t, tru_l, at0, at1, at2, at3, at4, at5, at6, mul_r, mul_l, Option.map_some, Option.bind_some, shutR_nil, shutO_nil, ItV.now, wsOk, wipeC, plObj, chks_nil, compC_nil, loopC_nil, and_self, true_and, and_true, List.all_cons, List.all_nil, Bool.and_self, Bool.and_true, Bool.true_and, Bool.not_true, Bool.not_false, if_true, if_false, decide_true, decide_false, sz0, sz1, sz2, sz3, sz4, sz5, sz6, sz7, sz8, sz9, sz10, sz11, sz12, Nat.reduceLT, Nat.reduceAdd, Nat.reduceSub, Int.reduceLT, Int.reduceLE, Int.reduceToNat]
  have f6 : Fr S1 (S5.set 0 (Box xs c3)) [0, 1] := ⟨by rw [List.length_set]; exact f5.len, fun i hi hl => by
    simp only [List.mem_cons, List.not_mem_nil, or_false, not_or] at hi
    rw [List.getElem?_set_ne (Ne.symm hi.1)]
    exact f5.keep i (by rw [List.mem_singleton]; exact hi.2) hl⟩
  have lp := lt_of w1.d
  have lq := lt_of w1.lq
  have l5 := lt_of w1.u
  have lb := lt_of w1.b
  have np := w1.np
  have nq := w1.nq
  refine fin _ _ ⟨c9, _, _, c12, c13, c14, c15, c16, c17, c3, p, S3.length, q, k, r, bs, pd, ts2, rfl, ⟨box_at z5, i6, f6.get (by decide) w1.b, f6.get (by simp only [List.mem_cons, List.not_mem_nil, or_false]; omega) w1.d, f6.get (by decide) w1.u, f6.get (by simp only [List.mem_cons, List.not_mem_nil, or_false]; omega) w1.lq, np, nq, w1.sz, w1.len, w1.ok, by omega, hts, hlt, fun _ => ⟨(List.getElem?_set_ne (by omega)).trans t5, by omega⟩⟩, hl, h12, h15⟩
theorem isB_len {b : Bk} (h : isBlock b = true) : b.length = 32 := by
  unfold isBlock at h
  rw [Bool.and_eq_true, decide_eq_true_eq] at h
  exact h.1
/-- the power is cut, nothing is torn -/
theorem B_ok {c9 c10 c11 c12 c13 c14 c15 c16 c17 : C} {c p t q : Nat} {k m : Int} {bs : List Bk} {pd : List (Nat × Bk)} {ts : List Int} (w : Wo S xs c s p t q k m bs pd ts) (h12 : Nv c12) (h15 : Nv c15) (fin : ∀ ρ S, In ns xs s i ρ S → N ρ S) :
    (ex (runN T (n + 6)) sB [.val (.scr (ns.map D.int)), .val (.loc 0), .val (.int s), .val (.loc 1), .val (.loc 5), .val (.loc q), .val (.int m), .val (.lst (ts.map D.int)), .val (.int k), c9, c10, c11, c12, c13, c14, c15, c16, c17] S).Ok N R B C' := by
  have okl : ∀ e ∈ pd, e.1 < bs.length ∧ e.2.length = 32 := fun e he => ⟨(w.ok e he).1, isB_len (w.ok e he).2⟩
  have pw : ∀ {P : D → Sto → Prop}, _ → (TX.runN T (n + 6) (.me "Disk" "cut_power") [.loc 1, .lst []] S).Ok P := power_ok (n + 4) w.i w.b w.d ⟨w.np.2.1, w.np.2.2.1⟩ okl w.sz
  simp only [sB, sE, sI, thenOf, elseOf, headOf, tailOf, tlaw_b2, m_power w.i, Df.start, ev_cst, ev_var, ev_bor, ev_tup, ev_lst, ev_rep, ev_bin, ev_neg, ev_cmp, ev_chn, ev_and, ev_or, ev_not, ev_ite, ev_ix, ev_sl, ev_call, ev_mk, ev_met, ev_fld, ev_shr, ev_bi, ev_join, ev_rev, ev_mth, ev_dnK, ev_dnT, ev_comp, evs_nil, evs_cons, evO_nil, evO_part, evI_rng1, evI_rng2, evI_rng3, evI_zip, evI_enm, evI_its, evI_it, o_skip, o_brk, o_cnt, o_seq, o_asg, o_own, o_ret, o_retO, o_expr, o_ite, o_loop, o_setI, o_setF, o_app, o_del, kS_ap, kAsg_ap, kOwn_ap, kEx_ap, kIte_ap, kIf_t, kIf_f, kLoop_ap, kPut_s, kSetF_ap, kApp_ap, kDel_ap, Res.bind_ok, Res.of_some, Res.noX_ok, Res.run_ok, Ok_ok, Ok_bind, Ok_noX, Ok_nx, Ok_ret, Ok_brk, Ok_cnt, List.map_cons, List.map_nil, List.length_cons, List.length_nil, List.cons_append, List.nil_append, List.getElem?_cons_zero, List.getElem?_cons_succ, List.set_cons_zero, List.set_cons_succ, TX.bindT, TX.bindL, add_i, sub_i, fdiv_i, mod_i, band_i, add_t, add_s, add_l, lt_i, le_i, gt_i, ge_i, eq_i, ne_i, eq_s, ne_s, is_n, isn_n, is_b, isn_b, is_i, isn_i, is_tt, isn_tt, is_s, isn_s, is_l, isn_l, ix_t, ix_l, ix_c, ix_s, len_t, len_l, len_c, len_s, int_i, int_b, max_i, min_i, ord_s, list_t, list_l, list_c, tuple_t, tuple_l, tuple_c, all_l, tru_n, tru_b, tru_i, tru_s, tru_t, tru_l, at0, at1, at2, at3, at4, at5, at6, mul_r, mul_l, Option.map_some, Option.bind_some, shutR_nil, shutO_nil, ItV.now, wsOk, wipeC, plObj, chks_nil, compC_nil, loopC_nil, and_self, true_and, and_true, List.all_cons, List.all_nil, Bool.and_self, Bool.and_true, Bool.true_and, Bool.not_true, Bool.not_false, if_true, if_false, decide_true, decide_false, sz0, sz1, sz2, sz3, sz4, sz5, sz6, sz7, sz8, sz9, sz10, sz11, sz12, Nat.reduceLT, Nat.reduceAdd, Nat.reduceSub, Int.reduceLT, Int.reduceLE, Int.reduceToNat]
  refine pw fun S' p' t' f hp' h1 h2 h3 => ?_
  simp only [Df.start, ev_cst, ev_var, ev_bor, ev_tup, ev_lst, ev_rep, ev_bin, ev_neg, ev_cmp, ev_chn, ev_and, ev_or, ev_not, ev_ite, ev_ix, ev_sl, ev_call, ev_mk, ev_met, ev_fld, ev_shr, ev_bi, ev_join, ev_rev, ev_mth, ev_dnK, ev_dnT, ev_comp, evs_nil, evs_cons, evO_nil, evO_part, evI_rng1, evI_rng2, evI_rng3, evI_zip, evI_enm, evI_its, evI_it, o_skip, o_brk, o_cnt, o_seq, o_asg, o_own, o_ret, o_retO, o_expr, o_ite, o_loop, o_setI, o_setF, o_app, o_del, kS_ap, kAsg_ap, kOwn_ap, kEx_ap, kIte_ap, kIf_t, kIf_f, kLoop_ap, kPut_s, kSetF_ap, kApp_ap, kDel_ap, Res.bind_ok, Res.of_some, Res.noX_ok, Res.run_ok, Ok_ok, Ok_bind, Ok_noX, Ok_nx, Ok_ret, Ok_brk, Ok_cnt, List.map_cons, List.map_nil, List.length_cons, List.length_nil, List.cons_append, List.nil_append, List.getElem?_cons_zero, List.getElem?_cons_succ, List.set_cons_zero, List.set_cons_succ, TX.bindT, TX.bindL, add_i, sub_i, fdiv_i, mod_i, band_i, add_t, add_s, add_l, lt_i, le_i, gt_i, ge_i, eq_i, ne_i, eq_s, ne_s, is_n, isn_n, is_b, isn_b, is_i, isn_i, is_tt, isn_tt, is_s, isn_s, is_l, isn_l, ix_t, ix_l, ix_c, ix_s, len_t, len_l, len_c, len_s, int_i, int_b, max_i, min_i, ord_s, list_t, list_l, list_c, tuple_t, tuple_l, tuple_c, all_l, tru_n, tru_b, tru_i, tru_s, tru_t, tru_l, at0, at1, at2, at3, at4, at5, at6, mul_r, mul_l, Option.map_some, Option.bind_some, shutR_nil, shutO_nil, ItV.now, wsOk, wipeC, plObj, chks_nil, compC_nil, loopC_nil, and_self, true_and, and_true, List.all_cons, List.all_nil, Bool.and_self, Bool.and_true, Bool.true_and, Bool.not_true, Bool.not_false, if_true, if_false, decide_true, decide_false, sz0, sz1, sz2, sz3, sz4, sz5, sz6, sz7, sz8, sz9, sz10, sz11, sz12, Nat.reduceLT, Nat.reduceAdd, Nat.reduceSub, Int.reduceLT, Int.reduceLE, Int.reduceToNat]
  have l5 := lt_of w.u
  have l1 := lt_of w.i
  have l0 := lt_of w.z
  have l2 := lt_of w.b
  have l3 := lt_of h3
  have lf := f.len
  have keep : ∀ (j : Nat) (X : Cell), S'[j]? = some X → (S' ++ [Cell.lst []])[j]? = some X := fun j X e => (List.getElem?_append_left (lt_of e)).trans e
  refine fin _ _ ⟨c9, _, _, c12, c13, c14, c15, c16, c17, c, p', t', S'.length, k + 1, 0 - 1, bs, [], ts, rfl, ⟨keep _ _ (f.get (by decide) w.z), keep _ _ h1, keep _ _ h2, keep _ _ h3, keep _ _ (f.get (by decide) w.u), List.getElem?_concat_length, by omega, by omega, w.sz, w.len, fun e he => (nomatch he), by omega, w.ht, w.hl, fun h => absurd h (by decide)⟩, Nat.zero_le _, h12, h15⟩
/-- a wrong place, a wrong block -/
theorem C_ok {c9 c10 c11 c12 c13 c14 c15 c16 c17 : C} {c p t q : Nat} {k m : Int} {bs : List Bk} {pd : List (Nat × Bk)} {ts : List Int} (w : Wo S xs c s p t q k m bs pd ts) (hl : pd.length ≤ i) (hs : 8 ≤ s) (h12 : Nv c12) (h15 : Nv c15) (fin : ∀ ρ S, In ns xs s i ρ S → N ρ S) :
    (ex (runN T (n + 6)) sC [.val (.scr (ns.map D.int)), .val (.loc 0), .val (.int s), .val (.loc 1), .val (.loc 5), .val (.loc q), .val (.int m), .val (.lst (ts.map D.int)), .val (.int k), c9, c10, c11, c12, c13, c14, c15, c16, c17] S).Ok N R B C' := by
  have lb := w.len
  have d1 := do_exc (n + 5) ((rawW (n + 4) w.i (a := s) (y := bD (List.replicate 32 0))).trans (write_bad1 (n + 2) w.i w.b (by omega)))
  have d2 : TX.runN T (n + 6) (.fn "_law_do") [.loc 1, .int 0, bD (List.replicate 31 0)] S = _ := do_exc (n + 5) ((rawW (n + 4) w.i (a := 0) (y := bD (List.replicate 31 0))).trans (write_bad2 (n + 2) w.i w.b (by omega) (b := List.replicate 31 0) (.inl rfl) (by decide)))
  have n1 := ne_rf (Str.ofString "at") (by decide +kernel)
  have n2 := ne_rf (Str.ofString "block") (by decide +kernel)
  simp only [sC, sF, sE, sI, thenOf, elseOf, headOf, tailOf, tlaw_b2]
  have r32 : ∀ {Ω : Orc} {ρ : TX.Env} {S : Sto}, ev Ω ρ (.rep (.cons (.cst (.int 0)) .nil) (.cst (.int 32))) S = .ok (bD (List.replicate 32 0)) S := fun {_ _ _} => rep_ev (m := 32) (by decide) rfl
  have r31 : ∀ {Ω : Orc} {ρ : TX.Env} {S : Sto}, ev Ω ρ (.rep (.cons (.cst (.int 0)) .nil) (.cst (.int 31))) S = .ok (bD (List.replicate 31 0)) S := fun {_ _ _} => rep_ev (m := 31) (by decide) rfl
  generalize TX.Tm.rep (.cons (.cst (.int 0)) .nil) (.cst (.int 32)) = R32 at r32
  generalize TX.Tm.rep (.cons (.cst (.int 0)) .nil) (.cst (.int 31)) = R31 at r31
  simp only [r32, r31, d1, d2, n1, n2, Df.start, ev_cst, ev_var, ev_bor, ev_tup, ev_lst, ev_rep, ev_bin, ev_neg, ev_cmp, ev_chn, ev_and, ev_or, ev_not, ev_ite, ev_ix, ev_sl, ev_call, ev_mk, ev_met, ev_fld, ev_shr, ev_bi, ev_join, ev_rev, ev_mth, ev_dnK, ev_dnT, ev_comp, evs_nil, evs_cons, evO_nil, evO_part, evI_rng1, evI_rng2, evI_rng3, evI_zip, evI_enm, evI_its, evI_it, o_skip, o_brk, o_cnt, o_seq, o_asg, o_own, o_ret, o_retO, o_expr, o_ite, o_loop, o_setI, o_setF, o_app, o_del, kS_ap, kAsg_ap, kOwn_ap, kEx_ap, kIte_ap, kIf_t, kIf_f, kLoop_ap, kPut_s, kSetF_ap, kApp_ap, kDel_ap, Res.bind_ok, Res.of_some, Res.noX_ok, Res.run_ok, Ok_ok, Ok_bind, Ok_noX, Ok_nx, Ok_ret, Ok_brk, Ok_cnt, List.map_cons, List.map_nil, List.length_cons, List.length_nil, List.cons_append, List.nil_append, List.getElem?_cons_zero, List.getElem?_cons_succ, List.set_cons_zero, List.set_cons_succ, TX.bindT, TX.bindL, add_i, sub_i, fdiv_i, mod_i, band_i, add_t, add_s, add_l, lt_i, le_i, gt_i, ge_i, eq_i, ne_i, eq_s, ne_s, is_n, isn_n, is_b, isn_b, is_i, isn_i, is_tt, isn_tt, is_s, isn_s, is_l, isn_l, ix_t, ix_l, ix_c, ix_s, len_t, len_l, len_c, len_s, int_i, int_b, max_i, min_i, ord_s, list_t, list_l, list_c, tuple_t, tuple_l, tuple_c, all_l, tru_n, tru_b, tru_i, tru_s, tru_t, tru_l, at0, at1, at2, at3, at4, at5, at6, mul_r, mul_l, Option.map_some, Option.bind_some, shutR_nil, shutO_nil, ItV.now, wsOk, wipeC, plObj, chks_nil, compC_nil, loopC_nil, and_self, true_and, and_true, List.all_cons, List.all_nil, Bool.and_self, Bool.and_true, Bool.true_and, Bool.not_true, Bool.not_false, if_true, if_false, decide_true, decide_false, sz0, sz1, sz2, sz3, sz4, sz5, sz6, sz7, sz8, sz9, sz10, sz11, sz12, Nat.reduceLT, Nat.reduceAdd, Nat.reduceSub, Int.reduceLT, Int.reduceLE, Int.reduceToNat]
  exact fin _ _ ⟨c9, _, _, c12, c13, c14, c15, c16, c17, c, p, t, q, k, m, bs, pd, ts, rfl, w, hl, h12, h15⟩
theorem ctF_min {ts : List Int} {pd : List (Nat × Bk)} {bs : List Bk} (he : ∀ e ∈ pd, e.1 < bs.length) : ctF ts 0 (pd.take (min ts.length pd.length)) bs = ctF ts 0 pd bs := by
  by_cases c : pd.length ≤ ts.length
  · rw [Nat.min_eq_right c, List.take_length]
  · have c' : ts.length ≤ pd.length := by omega
    rw [Nat.min_eq_left c']
    have := ctF_append (ts := ts) (a := pd.take ts.length) (b := pd.drop ts.length) (i := 0) (bs := bs)
    rw [List.take_append_drop] at this
    rw [this]
    symm
    exact ctF_far (by rw [List.length_take]; omega) fun e h => by
      rw [ctF_len]
      exact he e (List.mem_of_mem_drop h)
theorem flF_sz {pd : List (Nat × Bk)} : ∀ {bs : List Bk}, Sz bs → (∀ e ∈ pd, e.2.length = 32) → Sz (flF bs pd) := by
  induction pd with
  | nil => exact fun h _ => h
  | cons e r ih =>
    intro bs h he
    have z : Sz (bs.set e.1 e.2) := h.set (he e List.mem_cons_self)
    show Sz (flF (bs.set e.1 e.2) r)
    exact ih z fun x hx => he x (List.mem_cons_of_mem _ hx)
/-- where it goes: -1 is a flush -/
def Pl (bs : List Bk) (a : Int) : Prop := a = 0 - 1 ∨ ∃ b : Nat, a = b ∧ b < bs.length
theorem cut0 {c p t q : Nat} {k a : Int} {bs : List Bk} {pd : List (Nat × Bk)} {ts : List Int} (w : Wo S xs c s p t q k 0 bs pd ts) (ha : Pl bs a) {b : Bk} (hb : isBlock b = true) :
    ∃ S' p' t', Fr S S' [1, 2] ∧ S.length ≤ p' ∧ S'[1]? = some (Dsk p' t' (k + 1) (-1)) ∧ S'[2]? = some (.lst ((ctF ts 0 pd bs).map bD)) ∧ S'[p']? = some (.lst (([] : List (Nat × Bk)).map eD)) ∧ runN T (n + 6) (.fn "_law_do") [.loc 1, .int a, .lst (b.map D.int)] S = .ok (Rf (Str.ofString "cut")) S' := by
  have okl : ∀ e ∈ pd, e.1 < bs.length ∧ e.2.length = 32 := fun e he => ⟨(w.ok e he).1, isB_len (w.ok e he).2⟩
  obtain ⟨hT, nt⟩ := w.hT (Int.le_refl 0)
  obtain ⟨S', p', t', a1, a2, a3, a4, a5, e⟩ := spend0 (n + 1) w.i w.b w.d ⟨w.np.2.1, w.np.2.2.1⟩ okl w.sz w.ht hT nt.2.2.1
  refine ⟨S', p', t', a1, a2, a3, a4, a5, ?_⟩
  rcases ha with rfl | ⟨j, rfl, hj⟩
  · exact do_cut (n + 5) ((rawF (n + 4) w.i).trans (flush_cut (n + 1) w.i e))
  · exact do_cut (n + 5) ((rawW (n + 4) w.i).trans (write_cut (n + 1) w.i w.b hj hb e))
def tD : TX.St := tailOf (tailOf sD)
theorem D0_ok {c9 c10 c11 c13 c14 c15 c16 c17 : C} {c p t q : Nat} {k m at' : Int} {bs : List Bk} {pd : List (Nat × Bk)} {ts : List Int} (w : Wo S xs c s p t q k 0 bs pd ts) (hl : pd.length ≤ i) (hi : i ≤ 1000) (ha : Pl bs at') (h15 : Nv c15) (fin : ∀ ρ S, In ns xs s i ρ S → N ρ S) :
    (ex (runN T (n + 6)) tD [.val (.scr (ns.map D.int)), .val (.loc 0), .val (.int s), .val (.loc 1), .val (.loc 5), .val (.loc q), .val (.int 0), .val (.lst (ts.map D.int)), .val (.int k), c9, c10, c11, .val (.int at'), c13, c14, c15, c16, c17] S).Ok N R B C' := by
  have okl : ∀ e ∈ pd, e.1 < bs.length ∧ e.2.length = 32 := fun e he => ⟨(w.ok e he).1, isB_len (w.ok e he).2⟩
  have rg : -(2 ^ 62) ≤ (32 : Int) ∧ (32 : Int) ≤ 16777216 := by decide
  have t32 : (32 : Int).toNat = 32 := rfl
  have n1 := ne_rf (Str.ofString "cut") (by decide +kernel)
  obtain ⟨w15, h15'⟩ : ∃ X : TX.C, Nv X ∧ X = c15 := ⟨c15, h15, rfl⟩
  rcases h15 with rfl | ⟨v15, rfl⟩ <;> simp only [tD, sD, sF, sE, sI, thenOf, elseOf, headOf, tailOf, tlaw_b2, rg, t32, Df.start, ev_cst, ev_var, ev_bor, ev_tup, ev_lst, ev_rep, ev_bin, ev_neg, ev_cmp, ev_chn, ev_and, ev_or, ev_not, ev_ite, ev_ix, ev_sl, ev_call, ev_mk, ev_met, ev_fld, ev_shr, ev_bi, ev_join, ev_rev, ev_mth, ev_dnK, ev_dnT, ev_comp, evs_nil, evs_cons, evO_nil, evO_part, evI_rng1, evI_rng2, evI_rng3, evI_zip, evI_enm, evI_its, evI_it, o_skip, o_brk, o_cnt, o_seq, o_asg, o_own, o_ret, o_retO, o_expr, o_ite, o_loop, o_setI, o_setF, o_app, o_del, kS_ap, kAsg_ap, kOwn_ap, kEx_ap, kIte_ap, kIf_t, kIf_f, kLoop_ap, kPut_s, kSetF_ap, kApp_ap, kDel_ap, Res.bind_ok, Res.of_some, Res.noX_ok, Res.run_ok, Ok_ok, Ok_bind, Ok_noX, Ok_nx, Ok_ret, Ok_brk, Ok_cnt, List.map_cons, List.map_nil, List.length_cons, List.length_nil, List.cons_append, List.nil_append, List.getElem?_cons_zero, List.getElem?_cons_succ, List.set_cons_zero, List.set_cons_succ, TX.bindT, TX.bindL, add_i, sub_i, fdiv_i, mod_i, band_i, add_t, add_s, add_l, lt_i, le_i, gt_i, ge_i, eq_i, ne_i, eq_s, ne_s, is_n, isn_n, is_b, isn_b, is_i, isn_i, is_tt, isn_tt, is_s, isn_s, is_l, isn_l, ix_t, ix_l, ix_c, ix_s, len_t, len_l, len_c, len_s, int_i, int_b, max_i, min_i, ord_s, list_t, list_l, list_c, tuple_t, tuple_l, tuple_c, all_l, tru_n, tru_b, tru_i, tru_s, tru_t, tru_l, at0, at1, at2, at3, at4, at5, at6, mul_r, mul_l, Option.map_some, Option.bind_some, shutR_nil, shutO_nil, ItV.now, wsOk, wipeC, plObj, chks_nil, compC_nil, loopC_nil, and_self, true_and, and_true, List.all_cons, List.all_nil, Bool.and_self, Bool.and_true, Bool.true_and, Bool.not_true, Bool.not_false, if_true, if_false, decide_true, decide_false, sz0, sz1, sz2, sz3, sz4, sz5, sz6, sz7, sz8, sz9, sz10, sz11, sz12, Nat.reduceLT, Nat.reduceAdd, Nat.reduceSub, Int.reduceLT, Int.reduceLE, Int.reduceToNat]
  all_goals
    refine comp_draws (n := n + 5) (Ω := TX.runN T (n + 6)) (f := okB) w.z (fun j c2 Q hj hq => ?_) fun b c2 hl2 hall => ?_
    · simp only [turnC, Df.start, ev_cst, ev_var, ev_bor, ev_tup, ev_lst, ev_rep, ev_bin, ev_neg, ev_cmp, ev_chn, ev_and, ev_or, ev_not, ev_ite, ev_ix, ev_sl, ev_call, ev_mk, ev_met, ev_fld, ev_shr, ev_bi, ev_join, ev_rev, ev_mth, ev_dnK, ev_dnT, ev_comp, evs_nil, evs_cons, evO_nil, evO_part, evI_rng1, evI_rng2, evI_rng3, evI_zip, evI_enm, evI_its, evI_it, o_skip, o_brk, o_cnt, o_seq, o_asg, o_own, o_ret, o_retO, o_expr, o_ite, o_loop, o_setI, o_setF, o_app, o_del, kS_ap, kAsg_ap, kOwn_ap, kEx_ap, kIte_ap, kIf_t, kIf_f, kLoop_ap, kPut_s, kSetF_ap, kApp_ap, kDel_ap, Res.bind_ok, Res.of_some, Res.noX_ok, Res.run_ok, Ok_ok, Ok_bind, Ok_noX, Ok_nx, Ok_ret, Ok_brk, Ok_cnt, List.map_cons, List.map_nil, List.length_cons, List.length_nil, List.cons_append, List.nil_append, List.getElem?_cons_zero, List.getElem?_cons_succ, List.set_cons_zero, List.set_cons_succ, List.replicate_succ, List.replicate_zero, TX.bindT, TX.bindL, add_i, sub_i, fdiv_i, mod_i, band_i, add_t, add_s, add_l, lt_i, le_i, gt_i, ge_i, eq_i, ne_i, eq_s, ne_s, is_n, isn_n, is_b, isn_b, is_i, isn_i, is_tt, isn_tt, is_s, isn_s, is_l, isn_l, ix_t, ix_l, ix_c, ix_s, len_t, len_l, len_c, len_s, int_i, int_b, max_i, min_i, ord_s, list_t, list_l, list_c, tuple_t, tuple_l, tuple_c, all_l, tru_n, tru_b, tru_i, tru_s, tru_t, tru_l, at0, at1, at2, at3, at4, at5, at6, mul_r, mul_l, Option.map_some, Option.bind_some, shutR_nil, shutO_nil, ItV.now, wsOk, wipeC, plObj, chks_nil, compC_nil, loopC_nil, and_self, true_and, and_true, List.all_cons, List.all_nil, Bool.and_self, Bool.and_true, Bool.true_and, Bool.not_true, Bool.not_false, if_true, if_false, decide_true, decide_false, sz0, sz1, sz2, sz3, sz4, sz5, sz6, sz7, sz8, sz9, sz10, sz11, sz12, Nat.reduceLT, Nat.reduceAdd, Nat.reduceSub, Int.reduceLT, Int.reduceLE, Int.reduceToNat]
      refine drawS (m := 255) (box_at w.z) (by decide) fun r2 c3 h3 => ?_
      have hq2 := hq (1 + (r2 : Int)) c3 (by
        unfold okB
        rw [decide_eq_true (by omega), decide_eq_true (by omega)]
        rfl)
      rw [set_set]
      simp only [Df.start, ev_cst, ev_var, ev_bor, ev_tup, ev_lst, ev_rep, ev_bin, ev_neg, ev_cmp, ev_chn, ev_and, ev_or, ev_not, ev_ite, ev_ix, ev_sl, ev_call, ev_mk, ev_met, ev_fld, ev_shr, ev_bi, ev_join, ev_rev, ev_mth, ev_dnK, ev_dnT, ev_comp, evs_nil, evs_cons, evO_nil, evO_part, evI_rng1, evI_rng2, evI_rng3, evI_zip, evI_enm, evI_its, evI_it, o_skip, o_brk, o_cnt, o_seq, o_asg, o_own, o_ret, o_retO, o_expr, o_ite, o_loop, o_setI, o_setF, o_app, o_del, kS_ap, kAsg_ap, kOwn_ap, kEx_ap, kIte_ap, kIf_t, kIf_f, kLoop_ap, kPut_s, kSetF_ap, kApp_ap, kDel_ap, Res.bind_ok, Res.of_some, Res.noX_ok, Res.run_ok, Ok_ok, Ok_bind, Ok_noX, Ok_nx, Ok_ret, Ok_brk, Ok_cnt, List.map_cons, List.map_nil, List.length_cons, List.length_nil, List.cons_append, List.nil_append, List.getElem?_cons_zero, List.getElem?_cons_succ, List.set_cons_zero, List.set_cons_succ, TX.bindT, TX.bindL, add_i, sub_i, fdiv_i, mod_i, band_i, add_t, add_s, add_l, lt_i, le_i, gt_i, ge_i, eq_i, ne_i, eq_s, ne_s, is_n, isn_n, is_b, isn_b, is_i, isn_i, is_tt, isn_tt, is_s, isn_s, is_l, isn_l, ix_t, ix_l, ix_c, ix_s, len_t, len_l, len_c, len_s, int_i, int_b, max_i, min_i, ord_s, list_t, list_l, list_c, tuple_t, tuple_l, tuple_c, all_l, tru_n, tru_b, tru_i, tru_s, tru_t, tru_l, at0, at1, at2, at3, at4, at5, at6, mul_r, mul_l, Option.map_some, Option.bind_some, shutR_nil, shutO_nil, ItV.now, wsOk, wipeC, plObj, chks_nil, compC_nil, loopC_nil, and_self, true_and, and_true, List.all_cons, List.all_nil, Bool.and_self, Bool.and_true, Bool.true_and, Bool.not_true, Bool.not_false, if_true, if_false, decide_true, decide_false, sz0, sz1, sz2, sz3, sz4, sz5, sz6, sz7, sz8, sz9, sz10, sz11, sz12, Nat.reduceLT, Nat.reduceAdd, Nat.reduceSub, Int.reduceLT, Int.reduceLE, Int.reduceToNat]
      exact hq2
    have hb := isB_of hl2 hall
    have w2 := w.box (c' := c2)
    generalize S.set 0 (Box xs c2) = S2 at w2
    obtain ⟨S', p', t', f, hp', h1, h2, h3, e⟩ := cut0 (n := n) w2 ha hb
    have hu := f.get (by decide) w2.u
    have hq := f.get (by simp only [List.mem_cons, List.not_mem_nil, or_false]; have := w2.nq; omega) w2.lq
    have hz := f.get (by decide) w2.z
    have l5 := lt_of hu
    have ll' : biOp .len S' [.loc q] = some (.int pd.length) := by
      rw [len_loc hq, List.length_map]
    have hm : (if ((pd.length : Nat) : Int) < ((ts.length : Nat) : Int) then ((pd.length : Nat) : Int) else ((ts.length : Nat) : Int)) = ((min ts.length pd.length : Nat) : Int) := by
      split <;> omega
    have rg2 : -(2 ^ 62) ≤ ((min ts.length pd.length : Nat) : Int) ∧ ((min ts.length pd.length : Nat) : Int) ≤ 16777216 := by omega
    simp only [e, n1, eq_self, ll', List.length_map, hm, rg2, Int.toNat_natCast, Df.start, ev_cst, ev_var, ev_bor, ev_tup, ev_lst, ev_rep, ev_bin, ev_neg, ev_cmp, ev_chn, ev_and, ev_or, ev_not, ev_ite, ev_ix, ev_sl, ev_call, ev_mk, ev_met, ev_fld, ev_shr, ev_bi, ev_join, ev_rev, ev_mth, ev_dnK, ev_dnT, ev_comp, evs_nil, evs_cons, evO_nil, evO_part, evI_rng1, evI_rng2, evI_rng3, evI_zip, evI_enm, evI_its, evI_it, o_skip, o_brk, o_cnt, o_seq, o_asg, o_own, o_ret, o_retO, o_expr, o_ite, o_loop, o_setI, o_setF, o_app, o_del, kS_ap, kAsg_ap, kOwn_ap, kEx_ap, kIte_ap, kIf_t, kIf_f, kLoop_ap, kPut_s, kSetF_ap, kApp_ap, kDel_ap, Res.bind_ok, Res.of_some, Res.noX_ok, Res.run_ok, Ok_ok, Ok_bind, Ok_noX, Ok_nx, Ok_ret, Ok_brk, Ok_cnt, List.map_cons, List.map_nil, List.length_cons, List.length_nil, List.cons_append, List.nil_append, List.getElem?_cons_zero, List.getElem?_cons_succ, List.set_cons_zero, List.set_cons_succ, TX.bindT, TX.bindL, add_i, sub_i, fdiv_i, mod_i, band_i, add_t, add_s, add_l, lt_i, le_i, gt_i, ge_i, eq_i, ne_i, eq_s, ne_s, is_n, isn_n, is_b, isn_b, is_i, isn_i, is_tt, isn_tt, is_s, isn_s, is_l, isn_l, ix_t, ix_l, ix_c, ix_s, len_t, len_l, len_c, len_s, int_i, int_b, max_i, min_i, ord_s, list_t, list_l, list_c, tuple_t, tuple_l, tuple_c, all_l, tru_n, tru_b, tru_i, tru_s, tru_t, tru_l, at0, at1, at2, at3, at4, at5, at6, mul_r, mul_l, Option.map_some, Option.bind_some, shutR_nil, shutO_nil, ItV.now, wsOk, wipeC, plObj, chks_nil, compC_nil, loopC_nil, and_self, true_and, and_true, List.all_cons, List.all_nil, Bool.and_self, Bool.and_true, Bool.true_and, Bool.not_true, Bool.not_false, if_true, if_false, decide_true, decide_false, sz0, sz1, sz2, sz3, sz4, sz5, sz6, sz7, sz8, sz9, sz10, sz11, sz12, Nat.reduceLT, Nat.reduceAdd, Nat.reduceSub, Int.reduceLT, Int.reduceLE, Int.reduceToNat]
    refine loop_ok (i := 0) (fun i ρ S'' => ∃ c15 c16 : C, ρ = [.val (.scr (ns.map D.int)), .val (.loc 0), .val (.int s), .val (.loc 1), .val (.loc 5), .val (.loc q), .val (.int 0), .val (.lst (ts.map D.int)), .val (.int k), c9, c10, c11, .val (.int at'), .val (.lst (b.map D.int)), .val (Rf (Str.ofString "cut")), c15, c16, c17] ∧ Nv c15 ∧ S'' = S'.set 5 (.lst ((ctF ts 0 (pd.take i) bs).map bD)))
      ⟨_, _, rfl, h15'.2 ▸ h15'.1, (set_same hu).symm⟩ ?_ ?_
    · rintro j y ρ S'' hy ⟨c15, c16, rfl, _, rfl⟩
      rw [Nat.zero_add]
      obtain ⟨hj, rfl⟩ := mem_range_ints hy
      have hjt : j < ts.length := by omega
      have hjp : j < pd.length := by omega
      obtain ⟨e, he⟩ : ∃ e, pd[j]? = some e := ⟨_, List.getElem?_eq_getElem hjp⟩
      obtain ⟨e1, e2⟩ := okl e (List.mem_of_getElem? he)
      have sz' : Sz (ctF ts 0 (pd.take j) bs) := ctF_sz w2.sz fun x hx => okl x (List.mem_of_mem_take hx)
      have g2 : (S'.set 5 (.lst ((ctF ts 0 (pd.take j) bs).map bD)))[5]? = some (.lst ((ctF ts 0 (pd.take j) bs).map bD)) := List.getElem?_set_self l5
      have gq : (S'.set 5 (.lst ((ctF ts 0 (pd.take j) bs).map bD)))[q]? = some (.lst (pd.map lD)) := (List.getElem?_set_ne (Ne.symm w2.nq.2.2.2)).trans hq
      have el : e.1 < (ctF ts 0 (pd.take j) bs).length := by rw [ctF_len]; exact e1
      have ix : L2.ixN ((ctF ts 0 (pd.take j) bs).map bD).length (e.1 : Int) = some e.1 := ixN_nat (by rw [List.length_map]; exact el)
      have ab : ixD (S'.set 5 (.lst ((ctF ts 0 (pd.take j) bs).map bD))) (.loc 5) (.int e.1) = some (bD ((ctF ts 0 (pd.take j) bs).getD e.1 [])) := by
        rw [ix_loc g2]
        refine at_n ?_
        rw [List.getElem?_map, List.getD_eq_getElem?_getD, List.getElem?_eq_getElem el]
        rfl
      have ap : ixD (S'.set 5 (.lst ((ctF ts 0 (pd.take j) bs).map bD))) (.loc q) (.int j) = some (.lst [.int e.1, bD e.2]) := by
        rw [ix_loc gq]
        refine at_n ?_
        rw [List.getElem?_map, he]
        rfl
      have ti : L2.atI (ts.map D.int) (j : Int) = some (.int (tn ts j)) := by
        rw [at_ints hjt]
        have h0 : okT ts[j] = true := List.all_eq_true.mp w2.ht _ (List.getElem_mem hjt)
        unfold okT at h0
        rw [Bool.and_eq_true, decide_eq_true_eq, decide_eq_true_eq] at h0
        have : ts[j] = ((tn ts j : Nat) : Int) := by
          unfold tn
          rw [List.getD_eq_getElem?_getD, List.getElem?_eq_getElem hjt]
          show ts[j] = ((ts[j].toNat : Nat) : Int)
          omega
        rw [← this]
      have ad := add_b (e.2.take (tn ts j)) (((ctF ts 0 (pd.take j) bs).getD e.1 []).drop (tn ts j)) (by have := ct_size sz' el e2 (ts := ts) (i := j); rw [List.length_append] at this; omega)
      simp only [turnS, tlaw_b0, ap, ti, ab, cut_h', cut_l', ad, kPut_l g2 ix, Df.start, ev_cst, ev_var, ev_bor, ev_tup, ev_lst, ev_rep, ev_bin, ev_neg, ev_cmp, ev_chn, ev_and, ev_or, ev_not, ev_ite, ev_ix, ev_sl, ev_call, ev_mk, ev_met, ev_fld, ev_shr, ev_bi, ev_join, ev_rev, ev_mth, ev_dnK, ev_dnT, ev_comp, evs_nil, evs_cons, evO_nil, evO_part, evI_rng1, evI_rng2, evI_rng3, evI_zip, evI_enm, evI_its, evI_it, o_skip, o_brk, o_cnt, o_seq, o_asg, o_own, o_ret, o_retO, o_expr, o_ite, o_loop, o_setI, o_setF, o_app, o_del, kS_ap, kAsg_ap, kOwn_ap, kEx_ap, kIte_ap, kIf_t, kIf_f, kLoop_ap, kPut_s, kSetF_ap, kApp_ap, kDel_ap, Res.bind_ok, Res.of_some, Res.noX_ok, Res.run_ok, Ok_ok, Ok_bind, Ok_noX, Ok_nx, Ok_ret, Ok_brk, Ok_cnt, List.map_cons, List.map_nil, List.length_cons, List.length_nil, List.cons_append, List.nil_append, List.getElem?_cons_zero, List.getElem?_cons_succ, List.set_cons_zero, List.set_cons_succ, TX.bindT, TX.bindL, add_i, sub_i, fdiv_i, mod_i, band_i, add_t, add_s, add_l, lt_i, le_i, gt_i, ge_i, eq_i, ne_i, eq_s, ne_s, is_n, isn_n, is_b, isn_b, is_i, isn_i, is_tt, isn_tt, is_s, isn_s, is_l, isn_l, ix_t, ix_l, ix_c, ix_s, len_t, len_l, len_c, len_s, int_i, int_b, max_i, min_i, ord_s, list_t, list_l, list_c, tuple_t, tuple_l, tuple_c, all_l, tru_n, tru_b, tru_i, tru_s, tru_t, tru_l, at0, at1, at2, at3, at4, at5, at6, mul_r, mul_l, Option.map_some, Option.bind_some, shutR_nil, shutO_nil, ItV.now, wsOk, wipeC, plObj, chks_nil, compC_nil, loopC_nil, and_self, true_and, and_true, List.all_cons, List.all_nil, Bool.and_self, Bool.and_true, Bool.true_and, Bool.not_true, Bool.not_false, if_true, if_false, decide_true, decide_false, sz0, sz1, sz2, sz3, sz4, sz5, sz6, sz7, sz8, sz9, sz10, sz11, sz12, Nat.reduceLT, Nat.reduceAdd, Nat.reduceSub, Int.reduceLT, Int.reduceLE, Int.reduceToNat]
      refine ⟨.val (.int j), .val (.int e.1), rfl, .inr ⟨_, rfl⟩, ?_⟩
      rw [set_set, ctF_more he, Nat.zero_add, ctS, List.map_set]
    · rintro ρ S'' ⟨c15, c16, rfl, h15, rfl⟩
      rw [Nat.zero_add, List.length_map, List.length_range, ctF_min fun e he => (okl e he).1]
      simp only [Df.start, ev_cst, ev_var, ev_bor, ev_tup, ev_lst, ev_rep, ev_bin, ev_neg, ev_cmp, ev_chn, ev_and, ev_or, ev_not, ev_ite, ev_ix, ev_sl, ev_call, ev_mk, ev_met, ev_fld, ev_shr, ev_bi, ev_join, ev_rev, ev_mth, ev_dnK, ev_dnT, ev_comp, evs_nil, evs_cons, evO_nil, evO_part, evI_rng1, evI_rng2, evI_rng3, evI_zip, evI_enm, evI_its, evI_it, o_skip, o_brk, o_cnt, o_seq, o_asg, o_own, o_ret, o_retO, o_expr, o_ite, o_loop, o_setI, o_setF, o_app, o_del, kS_ap, kAsg_ap, kOwn_ap, kEx_ap, kIte_ap, kIf_t, kIf_f, kLoop_ap, kPut_s, kSetF_ap, kApp_ap, kDel_ap, Res.bind_ok, Res.of_some, Res.noX_ok, Res.run_ok, Ok_ok, Ok_bind, Ok_noX, Ok_nx, Ok_ret, Ok_brk, Ok_cnt, List.map_cons, List.map_nil, List.length_cons, List.length_nil, List.cons_append, List.nil_append, List.getElem?_cons_zero, List.getElem?_cons_succ, List.set_cons_zero, List.set_cons_succ, TX.bindT, TX.bindL, add_i, sub_i, fdiv_i, mod_i, band_i, add_t, add_s, add_l, lt_i, le_i, gt_i, ge_i, eq_i, ne_i, eq_s, ne_s, is_n, isn_n, is_b, isn_b, is_i, isn_i, is_tt, isn_tt, is_s, isn_s, is_l, isn_l, ix_t, ix_l, ix_c, ix_s, len_t, len_l, len_c, len_s, int_i, int_b, max_i, min_i, ord_s, list_t, list_l, list_c, tuple_t, tuple_l, tuple_c, all_l, tru_n, tru_b, tru_i, tru_s, tru_t, tru_l, at0, at1, at2, at3, at4, at5, at6, mul_r, mul_l, Option.map_some, Option.bind_some, shutR_nil, shutO_nil, ItV.now, wsOk, wipeC, plObj, chks_nil, compC_nil, loopC_nil, and_self, true_and, and_true, List.all_cons, List.all_nil, Bool.and_self, Bool.and_true, Bool.true_and, Bool.not_true, Bool.not_false, if_true, if_false, decide_true, decide_false, sz0, sz1, sz2, sz3, sz4, sz5, sz6, sz7, sz8, sz9, sz10, sz11, sz12, Nat.reduceLT, Nat.reduceAdd, Nat.reduceSub, Int.reduceLT, Int.reduceLE, Int.reduceToNat]
      have lS : S2.length ≤ S'.length := f.len
      have keep : ∀ (j : Nat) (X : Cell), j ≠ 5 → S'[j]? = some X → (S'.set 5 (.lst ((ctF ts 0 pd bs).map bD)) ++ [Cell.lst []])[j]? = some X := fun j X hj e => by
        rw [List.getElem?_append_left (by rw [List.length_set]; exact lt_of e), List.getElem?_set_ne (Ne.symm hj)]
        exact e
      have l3 := lt_of h3
      have l5' := lt_of w2.u
      have l2' := lt_of w2.b
      have l1' := lt_of w2.i
      have l0' := lt_of w2.z
      refine fin _ _ ⟨_, _, _, _, _, _, _, _, _, c2, p', t', _, k + 1, 0 - 1, ctF ts 0 pd bs, [], ts, rfl, ⟨keep 0 _ (by decide) hz, keep 1 _ (by decide) h1, keep 2 _ (by decide) h2, keep _ _ (by omega) h3, ?_, List.getElem?_concat_length, ?_, ?_, ctF_sz w2.sz okl, by rw [ctF_len]; exact w2.len, fun e he => (nomatch he), by omega, w2.ht, w2.hl, fun h => absurd h (by decide)⟩, Nat.zero_le _, .inr ⟨_, rfl⟩, h15⟩
      · rw [List.getElem?_append_left (by rw [List.length_set]; exact l5)]
        exact List.getElem?_set_self l5
      · rw [List.length_set]
        omega
      · rw [List.length_set]
        omega
def gE : TX.St := elseOf (headOf (tailOf (tailOf tD)))
def tG : TX.St := tailOf (tailOf gE)
theorem G_flush {S2 : Sto} {c9 c10 c11 c13 c14 c15 c16 c17 : C} {c p t q : Nat} {k m m' : Int} {bs : List Bk} {pd : List (Nat × Bk)} {ts : List Int} (w2 : Wo S2 xs c s p t q k m bs pd ts) (hm' : -1 ≤ m') (hmm : 0 ≤ m' → 0 ≤ m)
    (f : Fr S2 S [1, 2]) (h1 : S[1]? = some (Dsk S2.length t k m')) (h2 : S[2]? = some (.lst ((flF bs pd).map bD))) (h3 : S[S2.length]? = some (.lst (([] : List (Nat × Bk)).map eD))) (h15 : Nv c15) (fin : ∀ ρ S, In ns xs s i ρ S → N ρ S) :
    (ex (runN T (n + 6)) tG [.val (.scr (ns.map D.int)), .val (.loc 0), .val (.int s), .val (.loc 1), .val (.loc 5), .val (.loc q), .val (.int m'), .val (.lst (ts.map D.int)), .val (.int k), c9, c10, c11, .val (.int (0 - 1)), c13, c14, c15, c16, c17] S).Ok N R B C' := by
  have okl : ∀ e ∈ pd, e.1 < bs.length ∧ e.2.length = 32 := fun e he => ⟨(w2.ok e he).1, isB_len (w2.ok e he).2⟩
  have hu := f.get (by decide) w2.u
  have hq := f.get (by simp only [List.mem_cons, List.not_mem_nil, or_false]; have := w2.nq; omega) w2.lq
  have hz := f.get (by decide) w2.z
  have l5 := lt_of hu
  simp only [tG, gE, tD, sD, sF, sE, sI, thenOf, elseOf, headOf, tailOf, tlaw_b2, eq_self, hq, shutO_cell, chks_cell hq, Df.start, ev_cst, ev_var, ev_bor, ev_tup, ev_lst, ev_rep, ev_bin, ev_neg, ev_cmp, ev_chn, ev_and, ev_or, ev_not, ev_ite, ev_ix, ev_sl, ev_call, ev_mk, ev_met, ev_fld, ev_shr, ev_bi, ev_join, ev_rev, ev_mth, ev_dnK, ev_dnT, ev_comp, evs_nil, evs_cons, evO_nil, evO_part, evI_rng1, evI_rng2, evI_rng3, evI_zip, evI_enm, evI_its, evI_it, o_skip, o_brk, o_cnt, o_seq, o_asg, o_own, o_ret, o_retO, o_expr, o_ite, o_loop, o_setI, o_setF, o_app, o_del, kS_ap, kAsg_ap, kOwn_ap, kEx_ap, kIte_ap, kIf_t, kIf_f, kLoop_ap, kPut_s, kSetF_ap, kApp_ap, kDel_ap, Res.bind_ok, Res.of_some, Res.noX_ok, Res.run_ok, Ok_ok, Ok_bind, Ok_noX, Ok_nx, Ok_ret, Ok_brk, Ok_cnt, List.map_cons, List.map_nil, List.length_cons, List.length_nil, List.cons_append, List.nil_append, List.getElem?_cons_zero, List.getElem?_cons_succ, List.set_cons_zero, List.set_cons_succ, TX.bindT, TX.bindL, add_i, sub_i, fdiv_i, mod_i, band_i, add_t, add_s, add_l, lt_i, le_i, gt_i, ge_i, eq_i, ne_i, eq_s, ne_s, is_n, isn_n, is_b, isn_b, is_i, isn_i, is_tt, isn_tt, is_s, isn_s, is_l, isn_l, ix_t, ix_l, ix_c, ix_s, len_t, len_l, len_c, len_s, int_i, int_b, max_i, min_i, ord_s, list_t, list_l, list_c, tuple_t, tuple_l, tuple_c, all_l, tru_n, tru_b, tru_i, tru_s, tru_t, tru_l, at0, at1, at2, at3, at4, at5, at6, mul_r, mul_l, Option.map_some, Option.bind_some, shutR_nil, shutO_nil, ItV.now, wsOk, wipeC, plObj, chks_nil, compC_nil, loopC_nil, and_self, true_and, and_true, List.all_cons, List.all_nil, Bool.and_self, Bool.and_true, Bool.true_and, Bool.not_true, Bool.not_false, if_true, if_false, decide_true, decide_false, sz0, sz1, sz2, sz3, sz4, sz5, sz6, sz7, sz8, sz9, sz10, sz11, sz12, Nat.reduceLT, Nat.reduceAdd, Nat.reduceSub, Int.reduceLT, Int.reduceLE, Int.reduceToNat]
  refine loopC_ok (i := 0) (fun i ρ S'' => ∃ c17 : C, ρ = [.val (.scr (ns.map D.int)), .val (.loc 0), .val (.int s), .val (.loc 1), .val (.loc 5), .val (.loc q), .val (.int m'), .val (.lst (ts.map D.int)), .val (.int k), c9, c10, c11, .val (.int (0 - 1)), c13, c14, c15, c16, c17] ∧ S'' = S.set 5 (.lst ((flF bs (pd.take i)).map bD)))
    (fun i ρ S'' ⟨_, _, e⟩ => by rw [e]; exact okC_cell ((List.getElem?_set_ne (Ne.symm w2.nq.2.2.2)).trans hq)) ⟨_, rfl, (set_same hu).symm⟩ ?_ ?_
  · rintro j y ρ S'' hy ⟨c17, rfl, rfl⟩
    rw [Nat.zero_add]
    obtain ⟨e, hj, rfl⟩ := get_e hy
    have g2 : (S.set 5 (.lst ((flF bs (pd.take j)).map bD)))[5]? = some (.lst ((flF bs (pd.take j)).map bD)) := List.getElem?_set_self l5
    have ix : L2.ixN ((flF bs (pd.take j)).map bD).length (e.1 : Int) = some e.1 := ixN_nat (by rw [List.length_map, flF_len]; exact (w2.ok e (List.mem_of_getElem? hj)).1)
    simp only [turnS, tlaw_b1, lD, kPut_l g2 ix, Df.start, ev_cst, ev_var, ev_bor, ev_tup, ev_lst, ev_rep, ev_bin, ev_neg, ev_cmp, ev_chn, ev_and, ev_or, ev_not, ev_ite, ev_ix, ev_sl, ev_call, ev_mk, ev_met, ev_fld, ev_shr, ev_bi, ev_join, ev_rev, ev_mth, ev_dnK, ev_dnT, ev_comp, evs_nil, evs_cons, evO_nil, evO_part, evI_rng1, evI_rng2, evI_rng3, evI_zip, evI_enm, evI_its, evI_it, o_skip, o_brk, o_cnt, o_seq, o_asg, o_own, o_ret, o_retO, o_expr, o_ite, o_loop, o_setI, o_setF, o_app, o_del, kS_ap, kAsg_ap, kOwn_ap, kEx_ap, kIte_ap, kIf_t, kIf_f, kLoop_ap, kPut_s, kSetF_ap, kApp_ap, kDel_ap, Res.bind_ok, Res.of_some, Res.noX_ok, Res.run_ok, Ok_ok, Ok_bind, Ok_noX, Ok_nx, Ok_ret, Ok_brk, Ok_cnt, List.map_cons, List.map_nil, List.length_cons, List.length_nil, List.cons_append, List.nil_append, List.getElem?_cons_zero, List.getElem?_cons_succ, List.set_cons_zero, List.set_cons_succ, TX.bindT, TX.bindL, add_i, sub_i, fdiv_i, mod_i, band_i, add_t, add_s, add_l, lt_i, le_i, gt_i, ge_i, eq_i, ne_i, eq_s, ne_s, is_n, isn_n, is_b, isn_b, is_i, isn_i, is_tt, isn_tt, is_s, isn_s, is_l, isn_l, ix_t, ix_l, ix_c, ix_s, len_t, len_l, len_c, len_s, int_i, int_b, max_i, min_i, ord_s, list_t, list_l, list_c, tuple_t, tuple_l, tuple_c, all_l, tru_n, tru_b, tru_i, tru_s, tru_t, tru_l, at0, at1, at2, at3, at4, at5, at6, mul_r, mul_l, Option.map_some, Option.bind_some, shutR_nil, shutO_nil, ItV.now, wsOk, wipeC, plObj, chks_nil, compC_nil, loopC_nil, and_self, true_and, and_true, List.all_cons, List.all_nil, Bool.and_self, Bool.and_true, Bool.true_and, Bool.not_true, Bool.not_false, if_true, if_false, decide_true, decide_false, sz0, sz1, sz2, sz3, sz4, sz5, sz6, sz7, sz8, sz9, sz10, sz11, sz12, Nat.reduceLT, Nat.reduceAdd, Nat.reduceSub, Int.reduceLT, Int.reduceLE, Int.reduceToNat]
    refine ⟨.val (lD e), rfl, ?_⟩
    rw [set_set, flF_more hj, List.map_set]
  · rintro ρ S'' ⟨c17, rfl, rfl⟩
    rw [Nat.zero_add, List.length_map, List.take_length]
    simp only [Df.start, ev_cst, ev_var, ev_bor, ev_tup, ev_lst, ev_rep, ev_bin, ev_neg, ev_cmp, ev_chn, ev_and, ev_or, ev_not, ev_ite, ev_ix, ev_sl, ev_call, ev_mk, ev_met, ev_fld, ev_shr, ev_bi, ev_join, ev_rev, ev_mth, ev_dnK, ev_dnT, ev_comp, evs_nil, evs_cons, evO_nil, evO_part, evI_rng1, evI_rng2, evI_rng3, evI_zip, evI_enm, evI_its, evI_it, o_skip, o_brk, o_cnt, o_seq, o_asg, o_own, o_ret, o_retO, o_expr, o_ite, o_loop, o_setI, o_setF, o_app, o_del, kS_ap, kAsg_ap, kOwn_ap, kEx_ap, kIte_ap, kIf_t, kIf_f, kLoop_ap, kPut_s, kSetF_ap, kApp_ap, kDel_ap, Res.bind_ok, Res.of_some, Res.noX_ok, Res.run_ok, Ok_ok, Ok_bind, Ok_noX, Ok_nx, Ok_ret, Ok_brk, Ok_cnt, List.map_cons, List.map_nil, List.length_cons, List.length_nil, List.cons_append, List.nil_append, List.getElem?_cons_zero, List.getElem?_cons_succ, List.set_cons_zero, List.set_cons_succ, TX.bindT, TX.bindL, add_i, sub_i, fdiv_i, mod_i, band_i, add_t, add_s, add_l, lt_i, le_i, gt_i, ge_i, eq_i, ne_i, eq_s, ne_s, is_n, isn_n, is_b, isn_b, is_i, isn_i, is_tt, isn_tt, is_s, isn_s, is_l, isn_l, ix_t, ix_l, ix_c, ix_s, len_t, len_l, len_c, len_s, int_i, int_b, max_i, min_i, ord_s, list_t, list_l, list_c, tuple_t, tuple_l, tuple_c, all_l, tru_n, tru_b, tru_i, tru_s, tru_t, tru_l, at0, at1, at2, at3, at4, at5, at6, mul_r, mul_l, Option.map_some, Option.bind_some, shutR_nil, shutO_nil, ItV.now, wsOk, wipeC, plObj, chks_nil, compC_nil, loopC_nil, and_self, true_and, and_true, List.all_cons, List.all_nil, Bool.and_self, Bool.and_true, Bool.true_and, Bool.not_true, Bool.not_false, if_true, if_false, decide_true, decide_false, sz0, sz1, sz2, sz3, sz4, sz5, sz6, sz7, sz8, sz9, sz10, sz11, sz12, Nat.reduceLT, Nat.reduceAdd, Nat.reduceSub, Int.reduceLT, Int.reduceLE, Int.reduceToNat]
    have lS := f.len
    have keep : ∀ (j : Nat) (X : Cell), j ≠ 5 → S[j]? = some X → (S.set 5 (.lst ((flF bs pd).map bD)) ++ [Cell.lst []])[j]? = some X := fun j X hj e => by
      rw [List.getElem?_append_left (by rw [List.length_set]; exact lt_of e), List.getElem?_set_ne (Ne.symm hj)]
      exact e
    have l3 := lt_of h3
    have l5' := lt_of w2.u
    have l2' := lt_of w2.b
    have l1' := lt_of w2.i
    have l0' := lt_of w2.z
    refine fin _ _ ⟨_, _, _, _, _, _, _, _, _, c, S2.length, t, _, k, m', flF bs pd, [], ts, rfl, ⟨keep 0 _ (by decide) hz, keep 1 _ (by decide) h1, keep 2 _ (by decide) h2, keep _ _ (by omega) h3, ?_, List.getElem?_concat_length, ?_, ?_, flF_sz w2.sz fun e he => (okl e he).2, by rw [flF_len]; exact w2.len, fun e he => (nomatch he), hm', w2.ht, w2.hl, fun h => ?_⟩, Nat.zero_le _, .inr ⟨_, rfl⟩, h15⟩
    · rw [List.getElem?_append_left (by rw [List.length_set]; exact l5)]
      exact List.getElem?_set_self l5
    · rw [List.length_set]
      omega
    · rw [List.length_set]
      omega
    · obtain ⟨hT, nt⟩ := w2.hT (hmm h)
      have lt := lt_of hT
      refine ⟨keep _ _ (by omega) (f.get (by simp only [List.mem_cons, List.not_mem_nil, or_false]; omega) hT), ?_⟩
      rw [List.length_set]
      omega
theorem G_write {S2 : Sto} {c9 c10 c11 c14 c15 c16 c17 : C} {c p t q a : Nat} {k m m' : Int} {bs : List Bk} {pd : List (Nat × Bk)} {ts : List Int} {b : Bk} (w2 : Wo S2 xs c s p t q k m bs pd ts) (hm' : -1 ≤ m') (hmm : 0 ≤ m' → 0 ≤ m) (hi : i ≤ 1000) (hl : pd.length ≤ i) (hal : a < bs.length) (hb : isBlock b = true)
    (h15 : Nv c15) (fin : ∀ ρ S, In ns xs s (i + 1) ρ S → N ρ S) :
    (ex (runN T (n + 6)) tG [.val (.scr (ns.map D.int)), .val (.loc 0), .val (.int s), .val (.loc 1), .val (.loc 5), .val (.loc q), .val (.int m'), .val (.lst (ts.map D.int)), .val (.int k), c9, c10, c11, .val (.int (a : Int)), .val (.lst (b.map D.int)), c14, c15, c16, c17] ((S2.set 1 (Dsk p t k m')).set p (.lst ((pd ++ [(a, b)]).map eD)))).Ok N R B C' := by
  have np := w2.np
  have nq := w2.nq
  have ca : ¬ ((a : Int) = 0 - 1) := by omega
  have lp := lt_of w2.d
  have lq := lt_of w2.lq
  have l1 := lt_of w2.i
  have gq : ((S2.set 1 (Dsk p t k m')).set p (.lst ((pd ++ [(a, b)]).map eD)))[q]? = some (.lst (pd.map lD)) := by
    rw [List.getElem?_set_ne (by omega), List.getElem?_set_ne (by omega)]
    exact w2.lq
  have ty := ty_app gq
  have op := fun d => op_app (d := d) gq (by rw [List.length_map]; exact Nat.lt_of_le_of_lt (show pd.length ≤ 1000 by omega) (by decide))
  simp only [tG, gE, tD, sD, sF, sE, sI, thenOf, elseOf, headOf, tailOf, tlaw_b2, ca, ty, op, Df.start, ev_cst, ev_var, ev_bor, ev_tup, ev_lst, ev_rep, ev_bin, ev_neg, ev_cmp, ev_chn, ev_and, ev_or, ev_not, ev_ite, ev_ix, ev_sl, ev_call, ev_mk, ev_met, ev_fld, ev_shr, ev_bi, ev_join, ev_rev, ev_mth, ev_dnK, ev_dnT, ev_comp, evs_nil, evs_cons, evO_nil, evO_part, evI_rng1, evI_rng2, evI_rng3, evI_zip, evI_enm, evI_its, evI_it, o_skip, o_brk, o_cnt, o_seq, o_asg, o_own, o_ret, o_retO, o_expr, o_ite, o_loop, o_setI, o_setF, o_app, o_del, kS_ap, kAsg_ap, kOwn_ap, kEx_ap, kIte_ap, kIf_t, kIf_f, kLoop_ap, kPut_s, kSetF_ap, kApp_ap, kDel_ap, Res.bind_ok, Res.of_some, Res.noX_ok, Res.run_ok, Ok_ok, Ok_bind, Ok_noX, Ok_nx, Ok_ret, Ok_brk, Ok_cnt, List.map_cons, List.map_nil, List.length_cons, List.length_nil, List.cons_append, List.nil_append, List.getElem?_cons_zero, List.getElem?_cons_succ, List.set_cons_zero, List.set_cons_succ, TX.bindT, TX.bindL, add_i, sub_i, fdiv_i, mod_i, band_i, add_t, add_s, add_l, lt_i, le_i, gt_i, ge_i, eq_i, ne_i, eq_s, ne_s, is_n, isn_n, is_b, isn_b, is_i, isn_i, is_tt, isn_tt, is_s, isn_s, is_l, isn_l, ix_t, ix_l, ix_c, ix_s, len_t, len_l, len_c, len_s, int_i, int_b, max_i, min_i, ord_s, list_t, list_l, list_c, tuple_t, tuple_l, tuple_c, all_l, tru_n, tru_b, tru_i, tru_s, tru_t, tru_l, at0, at1, at2, at3, at4, at5, at6, mul_r, mul_l, Option.map_some, Option.bind_some, shutR_nil, shutO_nil, ItV.now, wsOk, wipeC, plObj, chks_nil, compC_nil, loopC_nil, and_self, true_and, and_true, List.all_cons, List.all_nil, Bool.and_self, Bool.and_true, Bool.true_and, Bool.not_true, Bool.not_false, if_true, if_false, decide_true, decide_false, sz0, sz1, sz2, sz3, sz4, sz5, sz6, sz7, sz8, sz9, sz10, sz11, sz12, Nat.reduceLT, Nat.reduceAdd, Nat.reduceSub, Int.reduceLT, Int.reduceLE, Int.reduceToNat]
  have keep : ∀ (j : Nat) (X Y Z : Cell), j ≠ 1 → j ≠ p → j ≠ q → S2[j]? = some X → (((S2.set 1 (Dsk p t k m')).set p Y).set q Z)[j]? = some X := fun j X Y Z h0 h1 h2 e => by
    rw [List.getElem?_set_ne (Ne.symm h2), List.getElem?_set_ne (Ne.symm h1), List.getElem?_set_ne (Ne.symm h0)]
    exact e
  refine fin _ _ ⟨_, _, _, _, _, _, _, _, _, c, p, t, q, k, m', bs, pd ++ [(a, b)], ts, rfl, ⟨keep 0 _ _ _ (by omega) (by omega) (by omega) w2.z, ?_, keep 2 _ _ _ (by omega) (by omega) (by omega) w2.b, ?_, keep 5 _ _ _ (by omega) (by omega) (by omega) w2.u, ?_, np, nq, w2.sz, w2.len, fun e he => ?_, hm', w2.ht, w2.hl, fun h => ?_⟩, by rw [List.length_append]; exact Nat.succ_le_succ hl, .inr ⟨_, rfl⟩, h15⟩
  · rw [List.getElem?_set_ne (by omega), List.getElem?_set_ne (by omega)]
    exact List.getElem?_set_self l1
  · rw [List.getElem?_set_ne (by omega)]
    exact List.getElem?_set_self (by rw [List.length_set]; exact lp)
  · have em : (pd ++ [(a, b)]).map lD = pd.map lD ++ [.lst [.int a, bD b]] := by
      rw [List.map_append]
      rfl
    rw [em]
    refine List.getElem?_set_self ?_
    rw [List.length_set, List.length_set]
    exact lq
  · rcases List.mem_append.mp he with h | h
    · exact w2.ok e h
    · rw [List.mem_singleton.mp h]
      exact ⟨hal, hb⟩
  · obtain ⟨hT, nt⟩ := w2.hT (hmm h)
    exact ⟨keep _ _ _ _ (by omega) (by omega) (by omega) hT, nt⟩
theorem hE : tD = .seq (headOf tD) (.seq (headOf (tailOf tD)) (.seq (.ite (.cmp .eq (.bor 6) (.cst (.int 0))) (thenOf (headOf (tailOf (tailOf tD)))) (.seq (headOf gE) (.seq (headOf (tailOf gE)) tG))) .skip)) := rfl
theorem flush0 {c p t q : Nat} {k m : Int} {bs : List Bk} {pd : List (Nat × Bk)} {ts : List Int} (w : Wo S xs c s p t q k m bs pd ts) (h0 : m ≠ 0) (y : D) :
    ∃ S', Fr S S' [1, 2] ∧ S'[1]? = some (Dsk S.length t k (nxt m)) ∧ S'[2]? = some (.lst ((flF bs pd).map bD)) ∧ S'[S.length]? = some (.lst (([] : List (Nat × Bk)).map eD)) ∧ runN T (n + 6) (.fn "_law_do") [.loc 1, .int (0 - 1), y] S = .ok .non S' := by
  obtain ⟨v, S', e, rfl, a1, a2, a3, a4⟩ := (flush_ok (n + 2) w.i h0 w.b w.d ⟨w.np.2.1, w.np.2.2.1⟩ (fun e he => (w.ok e he).1) (P := fun v S' => v = .non ∧ Fr S S' [1, 2] ∧ S'[1]? = some (Dsk S.length t k (nxt m)) ∧ S'[2]? = some (.lst ((flF bs pd).map bD)) ∧ S'[S.length]? = some (.lst (([] : List (Nat × Bk)).map eD)))
    fun S' a b c d => ⟨rfl, a, b, c, d⟩).eq
  exact ⟨S', a1, a2, a3, a4, do_val (n + 5) ((rawF (n + 4) w.i).trans e)⟩
theorem D1f_ok {c9 c10 c11 c13 c14 c15 c16 c17 : C} {c p t q : Nat} {k m : Int} {bs : List Bk} {pd : List (Nat × Bk)} {ts : List Int} (w : Wo S xs c s p t q k m bs pd ts) (h0 : m ≠ 0) (h15 : Nv c15) (fin : ∀ ρ S, In ns xs s i ρ S → N ρ S) :
    (ex (runN T (n + 6)) tD [.val (.scr (ns.map D.int)), .val (.loc 0), .val (.int s), .val (.loc 1), .val (.loc 5), .val (.loc q), .val (.int m), .val (.lst (ts.map D.int)), .val (.int k), c9, c10, c11, .val (.int (0 - 1)), c13, c14, c15, c16, c17] S).Ok N R B C' := by
  have rg : -(2 ^ 62) ≤ (32 : Int) ∧ (32 : Int) ≤ 16777216 := by decide
  have t32 : (32 : Int).toNat = 32 := rfl
  have mm := w.mm
  rw [hE]
  obtain ⟨w15, h15'⟩ : ∃ X : TX.C, Nv X ∧ X = c15 := ⟨c15, h15, rfl⟩
  rcases h15 with rfl | ⟨v15, rfl⟩ <;> simp only [tD, gE, sD, sF, sE, sI, thenOf, elseOf, headOf, tailOf, tlaw_b2, rg, t32, Df.start, ev_cst, ev_var, ev_bor, ev_tup, ev_lst, ev_rep, ev_bin, ev_neg, ev_cmp, ev_chn, ev_and, ev_or, ev_not, ev_ite, ev_ix, ev_sl, ev_call, ev_mk, ev_met, ev_fld, ev_shr, ev_bi, ev_join, ev_rev, ev_mth, ev_dnK, ev_dnT, ev_comp, evs_nil, evs_cons, evO_nil, evO_part, evI_rng1, evI_rng2, evI_rng3, evI_zip, evI_enm, evI_its, evI_it, o_skip, o_brk, o_cnt, o_seq, o_asg, o_own, o_ret, o_retO, o_expr, o_ite, o_loop, o_setI, o_setF, o_app, o_del, kS_ap, kAsg_ap, kOwn_ap, kEx_ap, kIte_ap, kIf_t, kIf_f, kLoop_ap, kPut_s, kSetF_ap, kApp_ap, kDel_ap, Res.bind_ok, Res.of_some, Res.noX_ok, Res.run_ok, Ok_ok, Ok_bind, Ok_noX, Ok_nx, Ok_ret, Ok_brk, Ok_cnt, List.map_cons, List.map_nil, List.length_cons, List.length_nil, List.cons_append, List.nil_append, List.getElem?_cons_zero, List.getElem?_cons_succ, List.set_cons_zero, List.set_cons_succ, TX.bindT, TX.bindL, add_i, sub_i, fdiv_i, mod_i, band_i, add_t, add_s, add_l, lt_i, le_i, gt_i, ge_i, eq_i, ne_i, eq_s, ne_s, is_n, isn_n, is_b, isn_b, is_i, isn_i, is_tt, isn_tt, is_s, isn_s, is_l, isn_l, ix_t, ix_l, ix_c, ix_s, len_t, len_l, len_c, len_s, int_i, int_b, max_i, min_i, ord_s, list_t, list_l, list_c, tuple_t, tuple_l, tuple_c, all_l, tru_n, tru_b, tru_i, tru_s, tru_t, tru_l, at0, at1, at2, at3, at4, at5, at6, mul_r, mul_l, Option.map_some, Option.bind_some, shutR_nil, shutO_nil, ItV.now, wsOk, wipeC, plObj, chks_nil, compC_nil, loopC_nil, and_self, true_and, and_true, List.all_cons, List.all_nil, Bool.and_self, Bool.and_true, Bool.true_and, Bool.not_true, Bool.not_false, if_true, if_false, decide_true, decide_false, sz0, sz1, sz2, sz3, sz4, sz5, sz6, sz7, sz8, sz9, sz10, sz11, sz12, Nat.reduceLT, Nat.reduceAdd, Nat.reduceSub, Int.reduceLT, Int.reduceLE, Int.reduceToNat]
  all_goals
    refine comp_draws (n := n + 5) (Ω := TX.runN T (n + 6)) (f := okB) w.z (fun j c2 Q hj hq => ?_) fun b c2 hl2 hall => ?_
    · simp only [turnC, Df.start, ev_cst, ev_var, ev_bor, ev_tup, ev_lst, ev_rep, ev_bin, ev_neg, ev_cmp, ev_chn, ev_and, ev_or, ev_not, ev_ite, ev_ix, ev_sl, ev_call, ev_mk, ev_met, ev_fld, ev_shr, ev_bi, ev_join, ev_rev, ev_mth, ev_dnK, ev_dnT, ev_comp, evs_nil, evs_cons, evO_nil, evO_part, evI_rng1, evI_rng2, evI_rng3, evI_zip, evI_enm, evI_its, evI_it, o_skip, o_brk, o_cnt, o_seq, o_asg, o_own, o_ret, o_retO, o_expr, o_ite, o_loop, o_setI, o_setF, o_app, o_del, kS_ap, kAsg_ap, kOwn_ap, kEx_ap, kIte_ap, kIf_t, kIf_f, kLoop_ap, kPut_s, kSetF_ap, kApp_ap, kDel_ap, Res.bind_ok, Res.of_some, Res.noX_ok, Res.run_ok, Ok_ok, Ok_bind, Ok_noX, Ok_nx, Ok_ret, Ok_brk, Ok_cnt, List.map_cons, List.map_nil, List.length_cons, List.length_nil, List.cons_append, List.nil_append, List.getElem?_cons_zero, List.getElem?_cons_succ, List.set_cons_zero, List.set_cons_succ, List.replicate_succ, List.replicate_zero, TX.bindT, TX.bindL, add_i, sub_i, fdiv_i, mod_i, band_i, add_t, add_s, add_l, lt_i, le_i, gt_i, ge_i, eq_i, ne_i, eq_s, ne_s, is_n, isn_n, is_b, isn_b, is_i, isn_i, is_tt, isn_tt, is_s, isn_s, is_l, isn_l, ix_t, ix_l, ix_c, ix_s, len_t, len_l, len_c, len_s, int_i, int_b, max_i, min_i, ord_s, list_t, list_l, list_c, tuple_t, tuple_l, tuple_c, all_l, tru_n, tru_b, tru_i, tru_s, tru_t, tru_l, at0, at1, at2, at3, at4, at5, at6, mul_r, mul_l, Option.map_some, Option.bind_some, shutR_nil, shutO_nil, ItV.now, wsOk, wipeC, plObj, chks_nil, compC_nil, loopC_nil, and_self, true_and, and_true, List.all_cons, List.all_nil, Bool.and_self, Bool.and_true, Bool.true_and, Bool.not_true, Bool.not_false, if_true, if_false, decide_true, decide_false, sz0, sz1, sz2, sz3, sz4, sz5, sz6, sz7, sz8, sz9, sz10, sz11, sz12, Nat.reduceLT, Nat.reduceAdd, Nat.reduceSub, Int.reduceLT, Int.reduceLE, Int.reduceToNat]
      refine drawS (m := 255) (box_at w.z) (by decide) fun r2 c3 h3 => ?_
      have hq2 := hq (1 + (r2 : Int)) c3 (by
        unfold okB
        rw [decide_eq_true (by omega), decide_eq_true (by omega)]
        rfl)
      rw [set_set]
      simp only [Df.start, ev_cst, ev_var, ev_bor, ev_tup, ev_lst, ev_rep, ev_bin, ev_neg, ev_cmp, ev_chn, ev_and, ev_or, ev_not, ev_ite, ev_ix, ev_sl, ev_call, ev_mk, ev_met, ev_fld, ev_shr, ev_bi, ev_join, ev_rev, ev_mth, ev_dnK, ev_dnT, ev_comp, evs_nil, evs_cons, evO_nil, evO_part, evI_rng1, evI_rng2, evI_rng3, evI_zip, evI_enm, evI_its, evI_it, o_skip, o_brk, o_cnt, o_seq, o_asg, o_own, o_ret, o_retO, o_expr, o_ite, o_loop, o_setI, o_setF, o_app, o_del, kS_ap, kAsg_ap, kOwn_ap, kEx_ap, kIte_ap, kIf_t, kIf_f, kLoop_ap, kPut_s, kSetF_ap, kApp_ap, kDel_ap, Res.bind_ok, Res.of_some, Res.noX_ok, Res.run_ok, Ok_ok, Ok_bind, Ok_noX, Ok_nx, Ok_ret, Ok_brk, Ok_cnt, List.map_cons, List.map_nil, List.length_cons, List.length_nil, List.cons_append, List.nil_append, List.getElem?_cons_zero, List.getElem?_cons_succ, List.set_cons_zero, List.set_cons_succ, TX.bindT, TX.bindL, add_i, sub_i, fdiv_i, mod_i, band_i, add_t, add_s, add_l, lt_i, le_i, gt_i, ge_i, eq_i, ne_i, eq_s, ne_s, is_n, isn_n, is_b, isn_b, is_i, isn_i, is_tt, isn_tt, is_s, isn_s, is_l, isn_l, ix_t, ix_l, ix_c, ix_s, len_t, len_l, len_c, len_s, int_i, int_b, max_i, min_i, ord_s, list_t, list_l, list_c, tuple_t, tuple_l, tuple_c, all_l, tru_n, tru_b, tru_i, tru_s, tru_t, tru_l, at0, at1, at2, at3, at4, at5, at6, mul_r, mul_l, Option.map_some, Option.bind_some, shutR_nil, shutO_nil, ItV.now, wsOk, wipeC, plObj, chks_nil, compC_nil, loopC_nil, and_self, true_and, and_true, List.all_cons, List.all_nil, Bool.and_self, Bool.and_true, Bool.true_and, Bool.not_true, Bool.not_false, if_true, if_false, decide_true, decide_false, sz0, sz1, sz2, sz3, sz4, sz5, sz6, sz7, sz8, sz9, sz10, sz11, sz12, Nat.reduceLT, Nat.reduceAdd, Nat.reduceSub, Int.reduceLT, Int.reduceLE, Int.reduceToNat]
      exact hq2
    have hb := isB_of hl2 hall
    have w2 := w.box (c' := c2)
    generalize S.set 0 (Box xs c2) = S2 at w2
    obtain ⟨S', f, h1, h2, h3, e⟩ := flush0 (n := n) w2 h0 (.lst (b.map D.int))
    by_cases cm : m > 0
    · have em : nxt m = m - 1 := if_pos cm
      rw [em] at h1
      simp only [e, h0, cm, Df.start, ev_cst, ev_var, ev_bor, ev_tup, ev_lst, ev_rep, ev_bin, ev_neg, ev_cmp, ev_chn, ev_and, ev_or, ev_not, ev_ite, ev_ix, ev_sl, ev_call, ev_mk, ev_met, ev_fld, ev_shr, ev_bi, ev_join, ev_rev, ev_mth, ev_dnK, ev_dnT, ev_comp, evs_nil, evs_cons, evO_nil, evO_part, evI_rng1, evI_rng2, evI_rng3, evI_zip, evI_enm, evI_its, evI_it, o_skip, o_brk, o_cnt, o_seq, o_asg, o_own, o_ret, o_retO, o_expr, o_ite, o_loop, o_setI, o_setF, o_app, o_del, kS_ap, kAsg_ap, kOwn_ap, kEx_ap, kIte_ap, kIf_t, kIf_f, kLoop_ap, kPut_s, kSetF_ap, kApp_ap, kDel_ap, Res.bind_ok, Res.of_some, Res.noX_ok, Res.run_ok, Ok_ok, Ok_bind, Ok_noX, Ok_nx, Ok_ret, Ok_brk, Ok_cnt, List.map_cons, List.map_nil, List.length_cons, List.length_nil, List.cons_append, List.nil_append, List.getElem?_cons_zero, List.getElem?_cons_succ, List.set_cons_zero, List.set_cons_succ, TX.bindT, TX.bindL, add_i, sub_i, fdiv_i, mod_i, band_i, add_t, add_s, add_l, lt_i, le_i, gt_i, ge_i, eq_i, ne_i, eq_s, ne_s, is_n, isn_n, is_b, isn_b, is_i, isn_i, is_tt, isn_tt, is_s, isn_s, is_l, isn_l, ix_t, ix_l, ix_c, ix_s, len_t, len_l, len_c, len_s, int_i, int_b, max_i, min_i, ord_s, list_t, list_l, list_c, tuple_t, tuple_l, tuple_c, all_l, tru_n, tru_b, tru_i, tru_s, tru_t, tru_l, at0, at1, at2, at3, at4, at5, at6, mul_r, mul_l, Option.map_some, Option.bind_some, shutR_nil, shutO_nil, ItV.now, wsOk, wipeC, plObj, chks_nil, compC_nil, loopC_nil, and_self, true_and, and_true, List.all_cons, List.all_nil, Bool.and_self, Bool.and_true, Bool.true_and, Bool.not_true, Bool.not_false, if_true, if_false, decide_true, decide_false, sz0, sz1, sz2, sz3, sz4, sz5, sz6, sz7, sz8, sz9, sz10, sz11, sz12, Nat.reduceLT, Nat.reduceAdd, Nat.reduceSub, Int.reduceLT, Int.reduceLE, Int.reduceToNat]
      refine G_flush (i := i) w2 (by omega) (by omega) f h1 h2 h3 (h15'.2 ▸ h15'.1) fun ρ S h => ?_
      simp only [Df.start, ev_cst, ev_var, ev_bor, ev_tup, ev_lst, ev_rep, ev_bin, ev_neg, ev_cmp, ev_chn, ev_and, ev_or, ev_not, ev_ite, ev_ix, ev_sl, ev_call, ev_mk, ev_met, ev_fld, ev_shr, ev_bi, ev_join, ev_rev, ev_mth, ev_dnK, ev_dnT, ev_comp, evs_nil, evs_cons, evO_nil, evO_part, evI_rng1, evI_rng2, evI_rng3, evI_zip, evI_enm, evI_its, evI_it, o_skip, o_brk, o_cnt, o_seq, o_asg, o_own, o_ret, o_retO, o_expr, o_ite, o_loop, o_setI, o_setF, o_app, o_del, kS_ap, kAsg_ap, kOwn_ap, kEx_ap, kIte_ap, kIf_t, kIf_f, kLoop_ap, kPut_s, kSetF_ap, kApp_ap, kDel_ap, Res.bind_ok, Res.of_some, Res.noX_ok, Res.run_ok, Ok_ok, Ok_bind, Ok_noX, Ok_nx, Ok_ret, Ok_brk, Ok_cnt, List.map_cons, List.map_nil, List.length_cons, List.length_nil, List.cons_append, List.nil_append, List.getElem?_cons_zero, List.getElem?_cons_succ, List.set_cons_zero, List.set_cons_succ, TX.bindT, TX.bindL, add_i, sub_i, fdiv_i, mod_i, band_i, add_t, add_s, add_l, lt_i, le_i, gt_i, ge_i, eq_i, ne_i, eq_s, ne_s, is_n, isn_n, is_b, isn_b, is_i, isn_i, is_tt, isn_tt, is_s, isn_s, is_l, isn_l, ix_t, ix_l, ix_c, ix_s, len_t, len_l, len_c, len_s, int_i, int_b, max_i, min_i, ord_s, list_t, list_l, list_c, tuple_t, tuple_l, tuple_c, all_l, tru_n, tru_b, tru_i, tru_s, tru_t, tru_l, at0, at1, at2, at3, at4, at5, at6, mul_r, mul_l, Option.map_some, Option.bind_some, shutR_nil, shutO_nil, ItV.now, wsOk, wipeC, plObj, chks_nil, compC_nil, loopC_nil, and_self, true_and, and_true, List.all_cons, List.all_nil, Bool.and_self, Bool.and_true, Bool.true_and, Bool.not_true, Bool.not_false, if_true, if_false, decide_true, decide_false, sz0, sz1, sz2, sz3, sz4, sz5, sz6, sz7, sz8, sz9, sz10, sz11, sz12, Nat.reduceLT, Nat.reduceAdd, Nat.reduceSub, Int.reduceLT, Int.reduceLE, Int.reduceToNat]
      exact fin _ _ h
    · have em : nxt m = m := if_neg cm
      rw [em] at h1
      simp only [e, h0, cm, Df.start, ev_cst, ev_var, ev_bor, ev_tup, ev_lst, ev_rep, ev_bin, ev_neg, ev_cmp, ev_chn, ev_and, ev_or, ev_not, ev_ite, ev_ix, ev_sl, ev_call, ev_mk, ev_met, ev_fld, ev_shr, ev_bi, ev_join, ev_rev, ev_mth, ev_dnK, ev_dnT, ev_comp, evs_nil, evs_cons, evO_nil, evO_part, evI_rng1, evI_rng2, evI_rng3, evI_zip, evI_enm, evI_its, evI_it, o_skip, o_brk, o_cnt, o_seq, o_asg, o_own, o_ret, o_retO, o_expr, o_ite, o_loop, o_setI, o_setF, o_app, o_del, kS_ap, kAsg_ap, kOwn_ap, kEx_ap, kIte_ap, kIf_t, kIf_f, kLoop_ap, kPut_s, kSetF_ap, kApp_ap, kDel_ap, Res.bind_ok, Res.of_some, Res.noX_ok, Res.run_ok, Ok_ok, Ok_bind, Ok_noX, Ok_nx, Ok_ret, Ok_brk, Ok_cnt, List.map_cons, List.map_nil, List.length_cons, List.length_nil, List.cons_append, List.nil_append, List.getElem?_cons_zero, List.getElem?_cons_succ, List.set_cons_zero, List.set_cons_succ, TX.bindT, TX.bindL, add_i, sub_i, fdiv_i, mod_i, band_i, add_t, add_s, add_l, lt_i, le_i, gt_i, ge_i, eq_i, ne_i, eq_s, ne_s, is_n, isn_n, is_b, isn_b, is_i, isn_i, is_tt, isn_tt, is_s, isn_s, is_l, isn_l, ix_t, ix_l, ix_c, ix_s, len_t, len_l, len_c, len_s, int_i, int_b, max_i, min_i, ord_s, list_t, list_l, list_c, tuple_t, tuple_l, tuple_c, all_l, tru_n, tru_b, tru_i, tru_s, tru_t, tru_l, at0, at1, at2, at3, at4, at5, at6, mul_r, mul_l, Option.map_some, Option.bind_some, shutR_nil, shutO_nil, ItV.now, wsOk, wipeC, plObj, chks_nil, compC_nil, loopC_nil, and_self, true_and, and_true, List.all_cons, List.all_nil, Bool.and_self, Bool.and_true, Bool.true_and, Bool.not_true, Bool.not_false, if_true, if_false, decide_true, decide_false, sz0, sz1, sz2, sz3, sz4, sz5, sz6, sz7, sz8, sz9, sz10, sz11, sz12, Nat.reduceLT, Nat.reduceAdd, Nat.reduceSub, Int.reduceLT, Int.reduceLE, Int.reduceToNat]
      refine G_flush (i := i) w2 (by omega) (by omega) f h1 h2 h3 (h15'.2 ▸ h15'.1) fun ρ S h => ?_
      simp only [Df.start, ev_cst, ev_var, ev_bor, ev_tup, ev_lst, ev_rep, ev_bin, ev_neg, ev_cmp, ev_chn, ev_and, ev_or, ev_not, ev_ite, ev_ix, ev_sl, ev_call, ev_mk, ev_met, ev_fld, ev_shr, ev_bi, ev_join, ev_rev, ev_mth, ev_dnK, ev_dnT, ev_comp, evs_nil, evs_cons, evO_nil, evO_part, evI_rng1, evI_rng2, evI_rng3, evI_zip, evI_enm, evI_its, evI_it, o_skip, o_brk, o_cnt, o_seq, o_asg, o_own, o_ret, o_retO, o_expr, o_ite, o_loop, o_setI, o_setF, o_app, o_del, kS_ap, kAsg_ap, kOwn_ap, kEx_ap, kIte_ap, kIf_t, kIf_f, kLoop_ap, kPut_s, kSetF_ap, kApp_ap, kDel_ap, Res.bind_ok, Res.of_some, Res.noX_ok, Res.run_ok, Ok_ok, Ok_bind, Ok_noX, Ok_nx, Ok_ret, Ok_brk, Ok_cnt, List.map_cons, List.map_nil, List.length_cons, List.length_nil, List.cons_append, List.nil_append, List.getElem?_cons_zero, List.getElem?_cons_succ, List.set_cons_zero, List.set_cons_succ, TX.bindT, TX.bindL, add_i, sub_i, fdiv_i, mod_i, band_i, add_t, add_s, add_l, lt_i, le_i, gt_i, ge_i, eq_i, ne_i, eq_s, ne_s, is_n, isn_n, is_b, isn_b, is_i, isn_i, is_tt, isn_tt, is_s, isn_s, is_l, isn_l, ix_t, ix_l, ix_c, ix_s, len_t, len_l, len_c, len_s, int_i, int_b, max_i, min_i, ord_s, list_t, list_l, list_c, tuple_t, tuple_l, tuple_c, all_l, tru_n, tru_b, tru_i, tru_s, tru_t, tru_l, at0, at1, at2, at3, at4, at5, at6, mul_r, mul_l, Option.map_some, Option.bind_some, shutR_nil, shutO_nil, ItV.now, wsOk, wipeC, plObj, chks_nil, compC_nil, loopC_nil, and_self, true_and, and_true, List.all_cons, List.all_nil, Bool.and_self, Bool.and_true, Bool.true_and, Bool.not_true, Bool.not_false, if_true, if_false, decide_true, decide_false, sz0, sz1, sz2, sz3, sz4, sz5, sz6, sz7, sz8, sz9, sz10, sz11, sz12, Nat.reduceLT, Nat.reduceAdd, Nat.reduceSub, Int.reduceLT, Int.reduceLE, Int.reduceToNat]
      exact fin _ _ h
theorem D1w_ok {c9 c10 c11 c13 c14 c15 c16 c17 : C} {c p t q a : Nat} {k m : Int} {bs : List Bk} {pd : List (Nat × Bk)} {ts : List Int} (w : Wo S xs c s p t q k m bs pd ts) (h0 : m ≠ 0) (hi : i ≤ 1000) (hl : pd.length ≤ i) (hal : a < bs.length) (h15 : Nv c15) (fin : ∀ ρ S, In ns xs s (i + 1) ρ S → N ρ S) :
    (ex (runN T (n + 6)) tD [.val (.scr (ns.map D.int)), .val (.loc 0), .val (.int s), .val (.loc 1), .val (.loc 5), .val (.loc q), .val (.int m), .val (.lst (ts.map D.int)), .val (.int k), c9, c10, c11, .val (.int (a : Int)), c13, c14, c15, c16, c17] S).Ok N R B C' := by
  have rg : -(2 ^ 62) ≤ (32 : Int) ∧ (32 : Int) ≤ 16777216 := by decide
  have t32 : (32 : Int).toNat = 32 := rfl
  have mm := w.mm
  rw [hE]
  obtain ⟨w15, h15'⟩ : ∃ X : TX.C, Nv X ∧ X = c15 := ⟨c15, h15, rfl⟩
  rcases h15 with rfl | ⟨v15, rfl⟩ <;> simp only [tD, gE, sD, sF, sE, sI, thenOf, elseOf, headOf, tailOf, tlaw_b2, rg, t32, Df.start, ev_cst, ev_var, ev_bor, ev_tup, ev_lst, ev_rep, ev_bin, ev_neg, ev_cmp, ev_chn, ev_and, ev_or, ev_not, ev_ite, ev_ix, ev_sl, ev_call, ev_mk, ev_met, ev_fld, ev_shr, ev_bi, ev_join, ev_rev, ev_mth, ev_dnK, ev_dnT, ev_comp, evs_nil, evs_cons, evO_nil, evO_part, evI_rng1, evI_rng2, evI_rng3, evI_zip, evI_enm, evI_its, evI_it, o_skip, o_brk, o_cnt, o_seq, o_asg, o_own, o_ret, o_retO, o_expr, o_ite, o_loop, o_setI, o_setF, o_app, o_del, kS_ap, kAsg_ap, kOwn_ap, kEx_ap, kIte_ap, kIf_t, kIf_f, kLoop_ap, kPut_s, kSetF_ap, kApp_ap, kDel_ap, Res.bind_ok, Res.of_some, Res.noX_ok, Res.run_ok, Ok_ok, Ok_bind, Ok_noX, Ok_nx, Ok_ret, Ok_brk, Ok_cnt, List.map_cons, List.map_nil, List.length_cons, List.length_nil, List.cons_append, List.nil_append, List.getElem?_cons_zero, List.getElem?_cons_succ, List.set_cons_zero, List.set_cons_succ, TX.bindT, TX.bindL, add_i, sub_i, fdiv_i, mod_i, band_i, add_t, add_s, add_l, lt_i, le_i, gt_i, ge_i, eq_i, ne_i, eq_s, ne_s, is_n, isn_n, is_b, isn_b, is_i, isn_i, is_tt, isn_tt, is_s, isn_s, is_l, isn_l, ix_t, ix_l, ix_c, ix_s, len_t, len_l, len_c, len_s, int_i, int_b, max_i, min_i, ord_s, list_t, list_l, list_c, tuple_t, tuple_l, tuple_c, all_l, tru_n, tru_b, tru_i, tru_s, tru_t, tru_l, at0, at1, at2, at3, at4, at5, at6, mul_r, mul_l, Option.map_some, Option.bind_some, shutR_nil, shutO_nil, ItV.now, wsOk, wipeC, plObj, chks_nil, compC_nil, loopC_nil, and_self, true_and, and_true, List.all_cons, List.all_nil, Bool.and_self, Bool.and_true, Bool.true_and, Bool.not_true, Bool.not_false, if_true, if_false, decide_true, decide_false, sz0, sz1, sz2, sz3, sz4, sz5, sz6, sz7, sz8, sz9, sz10, sz11, sz12, Nat.reduceLT, Nat.reduceAdd, Nat.reduceSub, Int.reduceLT, Int.reduceLE, Int.reduceToNat]
  all_goals
    refine comp_draws (n := n + 5) (Ω := TX.runN T (n + 6)) (f := okB) w.z (fun j c2 Q hj hq => ?_) fun b c2 hl2 hall => ?_
    · simp only [turnC, Df.start, ev_cst, ev_var, ev_bor, ev_tup, ev_lst, ev_rep, ev_bin, ev_neg, ev_cmp, ev_chn, ev_and, ev_or, ev_not, ev_ite, ev_ix, ev_sl, ev_call, ev_mk, ev_met, ev_fld, ev_shr, ev_bi, ev_join, ev_rev, ev_mth, ev_dnK, ev_dnT, ev_comp, evs_nil, evs_cons, evO_nil, evO_part, evI_rng1, evI_rng2, evI_rng3, evI_zip, evI_enm, evI_its, evI_it, o_skip, o_brk, o_cnt, o_seq, o_asg, o_own, o_ret, o_retO, o_expr, o_ite, o_loop, o_setI, o_setF, o_app, o_del, kS_ap, kAsg_ap, kOwn_ap, kEx_ap, kIte_ap, kIf_t, kIf_f, kLoop_ap, kPut_s, kSetF_ap, kApp_ap, kDel_ap, Res.bind_ok, Res.of_some, Res.noX_ok, Res.run_ok, Ok_ok, Ok_bind, Ok_noX, Ok_nx, Ok_ret, Ok_brk, Ok_cnt, List.map_cons, List.map_nil, List.length_cons, List.length_nil, List.cons_append, List.nil_append, List.getElem?_cons_zero, List.getElem?_cons_succ, List.set_cons_zero, List.set_cons_succ, List.replicate_succ, List.replicate_zero, TX.bindT, TX.bindL, add_i, sub_i, fdiv_i, mod_i, band_i, add_t, add_s, add_l, lt_i, le_i, gt_i, ge_i, eq_i, ne_i, eq_s, ne_s, is_n, isn_n, is_b, isn_b, is_i, isn_i, is_tt, isn_tt, is_s, isn_s, is_l, isn_l, ix_t, ix_l, ix_c, ix_s, len_t, len_l, len_c, len_s, int_i, int_b, max_i, min_i, ord_s, list_t, list_l, list_c, tuple_t, tuple_l, tuple_c, all_l, tru_n, tru_b, tru_i, tru_s, tru_t, tru_l, at0, at1, at2, at3, at4, at5, at6, mul_r, mul_l, Option.map_some, Option.bind_some, shutR_nil, shutO_nil, ItV.now, wsOk, wipeC, plObj, chks_nil, compC_nil, loopC_nil, and_self, true_and, and_true, List.all_cons, List.all_nil, Bool.and_self, Bool.and_true, Bool.true_and, Bool.not_true, Bool.not_false, if_true, if_false, decide_true, decide_false, sz0, sz1, sz2, sz3, sz4, sz5, sz6, sz7, sz8, sz9, sz10, sz11, sz12, Nat.reduceLT, Nat.reduceAdd, Nat.reduceSub, Int.reduceLT, Int.reduceLE, Int.reduceToNat]
      refine drawS (m := 255) (box_at w.z) (by decide) fun r2 c3 h3 => ?_
      have hq2 := hq (1 + (r2 : Int)) c3 (by
        unfold okB
        rw [decide_eq_true (by omega), decide_eq_true (by omega)]
        rfl)
      rw [set_set]
      simp only [Df.start, ev_cst, ev_var, ev_bor, ev_tup, ev_lst, ev_rep, ev_bin, ev_neg, ev_cmp, ev_chn, ev_and, ev_or, ev_not, ev_ite, ev_ix, ev_sl, ev_call, ev_mk, ev_met, ev_fld, ev_shr, ev_bi, ev_join, ev_rev, ev_mth, ev_dnK, ev_dnT, ev_comp, evs_nil, evs_cons, evO_nil, evO_part, evI_rng1, evI_rng2, evI_rng3, evI_zip, evI_enm, evI_its, evI_it, o_skip, o_brk, o_cnt, o_seq, o_asg, o_own, o_ret, o_retO, o_expr, o_ite, o_loop, o_setI, o_setF, o_app, o_del, kS_ap, kAsg_ap, kOwn_ap, kEx_ap, kIte_ap, kIf_t, kIf_f, kLoop_ap, kPut_s, kSetF_ap, kApp_ap, kDel_ap, Res.bind_ok, Res.of_some, Res.noX_ok, Res.run_ok, Ok_ok, Ok_bind, Ok_noX, Ok_nx, Ok_ret, Ok_brk, Ok_cnt, List.map_cons, List.map_nil, List.length_cons, List.length_nil, List.cons_append, List.nil_append, List.getElem?_cons_zero, List.getElem?_cons_succ, List.set_cons_zero, List.set_cons_succ, TX.bindT, TX.bindL, add_i, sub_i, fdiv_i, mod_i, band_i, add_t, add_s, add_l, lt_i, le_i, gt_i, ge_i, eq_i, ne_i, eq_s, ne_s, is_n, isn_n, is_b, isn_b, is_i, isn_i, is_tt, isn_tt, is_s, isn_s, is_l, isn_l, ix_t, ix_l, ix_c, ix_s, len_t, len_l, len_c, len_s, int_i, int_b, max_i, min_i, ord_s, list_t, list_l, list_c, tuple_t, tuple_l, tuple_c, all_l, tru_n, tru_b, tru_i, tru_s, tru_t, tru_l, at0, at1, at2, at3, at4, at5, at6, mul_r, mul_l, Option.map_some, Option.bind_some, shutR_nil, shutO_nil, ItV.now, wsOk, wipeC, plObj, chks_nil, compC_nil, loopC_nil, and_self, true_and, and_true, List.all_cons, List.all_nil, Bool.and_self, Bool.and_true, Bool.true_and, Bool.not_true, Bool.not_false, if_true, if_false, decide_true, decide_false, sz0, sz1, sz2, sz3, sz4, sz5, sz6, sz7, sz8, sz9, sz10, sz11, sz12, Nat.reduceLT, Nat.reduceAdd, Nat.reduceSub, Int.reduceLT, Int.reduceLE, Int.reduceToNat]
      exact hq2
    have hb := isB_of hl2 hall
    have w2 := w.box (c' := c2)
    generalize S.set 0 (Box xs c2) = S2 at w2
    have e := do_val (n + 5) ((rawW (n + 4) w2.i).trans (write_eq (n + 2) w2.i h0 w2.b w2.d w2.np.2.1 (by omega) hal hb))
    by_cases cm : m > 0
    · have em : nxt m = m - 1 := if_pos cm
      rw [em] at e
      simp only [e, h0, cm, Df.start, ev_cst, ev_var, ev_bor, ev_tup, ev_lst, ev_rep, ev_bin, ev_neg, ev_cmp, ev_chn, ev_and, ev_or, ev_not, ev_ite, ev_ix, ev_sl, ev_call, ev_mk, ev_met, ev_fld, ev_shr, ev_bi, ev_join, ev_rev, ev_mth, ev_dnK, ev_dnT, ev_comp, evs_nil, evs_cons, evO_nil, evO_part, evI_rng1, evI_rng2, evI_rng3, evI_zip, evI_enm, evI_its, evI_it, o_skip, o_brk, o_cnt, o_seq, o_asg, o_own, o_ret, o_retO, o_expr, o_ite, o_loop, o_setI, o_setF, o_app, o_del, kS_ap, kAsg_ap, kOwn_ap, kEx_ap, kIte_ap, kIf_t, kIf_f, kLoop_ap, kPut_s, kSetF_ap, kApp_ap, kDel_ap, Res.bind_ok, Res.of_some, Res.noX_ok, Res.run_ok, Ok_ok, Ok_bind, Ok_noX, Ok_nx, Ok_ret, Ok_brk, Ok_cnt, List.map_cons, List.map_nil, List.length_cons, List.length_nil, List.cons_append, List.nil_append, List.getElem?_cons_zero, List.getElem?_cons_succ, List.set_cons_zero, List.set_cons_succ, TX.bindT, TX.bindL, add_i, sub_i, fdiv_i, mod_i, band_i, add_t, add_s, add_l, lt_i, le_i, gt_i, ge_i, eq_i, ne_i, eq_s, ne_s, is_n, isn_n, is_b, isn_b, is_i, isn_i, is_tt, isn_tt, is_s, isn_s, is_l, isn_l, ix_t, ix_l, ix_c, ix_s, len_t, len_l, len_c, len_s, int_i, int_b, max_i, min_i, ord_s, list_t, list_l, list_c, tuple_t, tuple_l, tuple_c, all_l, tru_n, tru_b, tru_i, tru_s, tru_t, tru_l, at0, at1, at2, at3, at4, at5, at6, mul_r, mul_l, Option.map_some, Option.bind_some, shutR_nil, shutO_nil, ItV.now, wsOk, wipeC, plObj, chks_nil, compC_nil, loopC_nil, and_self, true_and, and_true, List.all_cons, List.all_nil, Bool.and_self, Bool.and_true, Bool.true_and, Bool.not_true, Bool.not_false, if_true, if_false, decide_true, decide_false, sz0, sz1, sz2, sz3, sz4, sz5, sz6, sz7, sz8, sz9, sz10, sz11, sz12, Nat.reduceLT, Nat.reduceAdd, Nat.reduceSub, Int.reduceLT, Int.reduceLE, Int.reduceToNat]
      refine G_write (i := i) w2 (by omega) (by omega) hi hl hal hb (h15'.2 ▸ h15'.1) fun ρ S h => ?_
      simp only [Df.start, ev_cst, ev_var, ev_bor, ev_tup, ev_lst, ev_rep, ev_bin, ev_neg, ev_cmp, ev_chn, ev_and, ev_or, ev_not, ev_ite, ev_ix, ev_sl, ev_call, ev_mk, ev_met, ev_fld, ev_shr, ev_bi, ev_join, ev_rev, ev_mth, ev_dnK, ev_dnT, ev_comp, evs_nil, evs_cons, evO_nil, evO_part, evI_rng1, evI_rng2, evI_rng3, evI_zip, evI_enm, evI_its, evI_it, o_skip, o_brk, o_cnt, o_seq, o_asg, o_own, o_ret, o_retO, o_expr, o_ite, o_loop, o_setI, o_setF, o_app, o_del, kS_ap, kAsg_ap, kOwn_ap, kEx_ap, kIte_ap, kIf_t, kIf_f, kLoop_ap, kPut_s, kSetF_ap, kApp_ap, kDel_ap, Res.bind_ok, Res.of_some, Res.noX_ok, Res.run_ok, Ok_ok, Ok_bind, Ok_noX, Ok_nx, Ok_ret, Ok_brk, Ok_cnt, List.map_cons, List.map_nil, List.length_cons, List.length_nil, List.cons_append, List.nil_append, List.getElem?_cons_zero, List.getElem?_cons_succ, List.set_cons_zero, List.set_cons_succ, TX.bindT, TX.bindL, add_i, sub_i, fdiv_i, mod_i, band_i, add_t, add_s, add_l, lt_i, le_i, gt_i, ge_i, eq_i, ne_i, eq_s, ne_s, is_n, isn_n, is_b, isn_b, is_i, isn_i, is_tt, isn_tt, is_s, isn_s, is_l, isn_l, ix_t, ix_l, ix_c, ix_s, len_t, len_l, len_c, len_s, int_i, int_b, max_i, min_i, ord_s, list_t, list_l, list_c, tuple_t, tuple_l, tuple_c, all_l, tru_n, tru_b, tru_i, tru_s, tru_t, tru_l, at0, at1, at2, at3, at4, at5, at6, mul_r, mul_l, Option.map_some, Option.bind_some, shutR_nil, shutO_nil, ItV.now, wsOk, wipeC, plObj, chks_nil, compC_nil, loopC_nil, and_self, true_and, and_true, List.all_cons, List.all_nil, Bool.and_self, Bool.and_true, Bool.true_and, Bool.not_true, Bool.not_false, if_true, if_false, decide_true, decide_false, sz0, sz1, sz2, sz3, sz4, sz5, sz6, sz7, sz8, sz9, sz10, sz11, sz12, Nat.reduceLT, Nat.reduceAdd, Nat.reduceSub, Int.reduceLT, Int.reduceLE, Int.reduceToNat]
      exact fin _ _ h
    · have em : nxt m = m := if_neg cm
      rw [em] at e
      simp only [e, h0, cm, Df.start, ev_cst, ev_var, ev_bor, ev_tup, ev_lst, ev_rep, ev_bin, ev_neg, ev_cmp, ev_chn, ev_and, ev_or, ev_not, ev_ite, ev_ix, ev_sl, ev_call, ev_mk, ev_met, ev_fld, ev_shr, ev_bi, ev_join, ev_rev, ev_mth, ev_dnK, ev_dnT, ev_comp, evs_nil, evs_cons, evO_nil, evO_part, evI_rng1, evI_rng2, evI_rng3, evI_zip, evI_enm, evI_its, evI_it, o_skip, o_brk, o_cnt, o_seq, o_asg, o_own, o_ret, o_retO, o_expr, o_ite, o_loop, o_setI, o_setF, o_app, o_del, kS_ap, kAsg_ap, kOwn_ap, kEx_ap, kIte_ap, kIf_t, kIf_f, kLoop_ap, kPut_s, kSetF_ap, kApp_ap, kDel_ap, Res.bind_ok, Res.of_some, Res.noX_ok, Res.run_ok, Ok_ok, Ok_bind, Ok_noX, Ok_nx, Ok_ret, Ok_brk, Ok_cnt, List.map_cons, List.map_nil, List.length_cons, List.length_nil, List.cons_append, List.nil_append, List.getElem?_cons_zero, List.getElem?_cons_succ, List.set_cons_zero, List.set_cons_succ, TX.bindT, TX.bindL, add_i, sub_i, fdiv_i, mod_i, band_i, add_t, add_s, add_l, lt_i, le_i, gt_i, ge_i, eq_i, ne_i, eq_s, ne_s, is_n, isn_n, is_b, isn_b, is_i, isn_i, is_tt, isn_tt, is_s, isn_s, is_l, isn_l, ix_t, ix_l, ix_c, ix_s, len_t, len_l, len_c, len_s, int_i, int_b, max_i, min_i, ord_s, list_t, list_l, list_c, tuple_t, tuple_l, tuple_c, all_l, tru_n, tru_b, tru_i, tru_s, tru_t, tru_l, at0, at1, at2, at3, at4, at5, at6, mul_r, mul_l, Option.map_some, Option.bind_some, shutR_nil, shutO_nil, ItV.now, wsOk, wipeC, plObj, chks_nil, compC_nil, loopC_nil, and_self, true_and, and_true, List.all_cons, List.all_nil, Bool.and_self, Bool.and_true, Bool.true_and, Bool.not_true, Bool.not_false, if_true, if_false, decide_true, decide_false, sz0, sz1, sz2, sz3, sz4, sz5, sz6, sz7, sz8, sz9, sz10, sz11, sz12, Nat.reduceLT, Nat.reduceAdd, Nat.reduceSub, Int.reduceLT, Int.reduceLE, Int.reduceToNat]
      refine G_write (i := i) w2 (by omega) (by omega) hi hl hal hb (h15'.2 ▸ h15'.1) fun ρ S h => ?_
      simp only [Df.start, ev_cst, ev_var, ev_bor, ev_tup, ev_lst, ev_rep, ev_bin, ev_neg, ev_cmp, ev_chn, ev_and, ev_or, ev_not, ev_ite, ev_ix, ev_sl, ev_call, ev_mk, ev_met, ev_fld, ev_shr, ev_bi, ev_join, ev_rev, ev_mth, ev_dnK, ev_dnT, ev_comp, evs_nil, evs_cons, evO_nil, evO_part, evI_rng1, evI_rng2, evI_rng3, evI_zip, evI_enm, evI_its, evI_it, o_skip, o_brk, o_cnt, o_seq, o_asg, o_own, o_ret, o_retO, o_expr, o_ite, o_loop, o_setI, o_setF, o_app, o_del, kS_ap, kAsg_ap, kOwn_ap, kEx_ap, kIte_ap, kIf_t, kIf_f, kLoop_ap, kPut_s, kSetF_ap, kApp_ap, kDel_ap, Res.bind_ok, Res.of_some, Res.noX_ok, Res.run_ok, Ok_ok, Ok_bind, Ok_noX, Ok_nx, Ok_ret, Ok_brk, Ok_cnt, List.map_cons, List.map_nil, List.length_cons, List.length_nil, List.cons_append, List.nil_append, List.getElem?_cons_zero, List.getElem?_cons_succ, List.set_cons_zero, List.set_cons_succ, TX.bindT, TX.bindL, add_i, sub_i, fdiv_i, mod_i, band_i, add_t, add_s, add_l, lt_i, le_i, gt_i, ge_i, eq_i, ne_i, eq_s, ne_s, is_n, isn_n, is_b, isn_b, is_i, isn_i, is_tt, isn_tt, is_s, isn_s, is_l, isn_l, ix_t, ix_l, ix_c, ix_s, len_t, len_l, len_c, len_s, int_i, int_b, max_i, min_i, ord_s, list_t, list_l, list_c, tuple_t, tuple_l, tuple_c, all_l, tru_n, tru_b, tru_i, tru_s, tru_t, tru_l, at0, at1, at2, at3, at4, at5, at6, mul_r, mul_l, Option.map_some, Option.bind_some, shutR_nil, shutO_nil, ItV.now, wsOk, wipeC, plObj, chks_nil, compC_nil, loopC_nil, and_self, true_and, and_true, List.all_cons, List.all_nil, Bool.and_self, Bool.and_true, Bool.true_and, Bool.not_true, Bool.not_false, if_true, if_false, decide_true, decide_false, sz0, sz1, sz2, sz3, sz4, sz5, sz6, sz7, sz8, sz9, sz10, sz11, sz12, Nat.reduceLT, Nat.reduceAdd, Nat.reduceSub, Int.reduceLT, Int.reduceLE, Int.reduceToNat]
      exact fin _ _ h
theorem In.mono {i j : Nat} (h : In ns xs s i ρ S) (hij : i ≤ j) : In ns xs s j ρ S := by
  obtain ⟨c9, c10, c11, c12, c13, c14, c15, c16, c17, c, p, t, q', k, m, bs, pd, ts, e, w, hl, h12, h15⟩ := h
  exact ⟨c9, c10, c11, c12, c13, c14, c15, c16, c17, c, p, t, q', k, m, bs, pd, ts, e, w, Nat.le_trans hl hij, h12, h15⟩
theorem hD : sD = .seq (headOf sD) (.seq (.ite (.cmp .gt (.bor 10) (.cst (.int 4))) (.seq (.asg (.nm 12) (.call (Str.ofString "_law_draw") (.cons (.var 1) (.cons (.var 2) .nil)))) .skip) .skip) tD) := rfl
/-- a write, a flush -/
theorem D_ok {c9 c11 c12 c13 c14 c15 c16 c17 : C} {c p t q r : Nat} {k m : Int} {bs : List Bk} {pd : List (Nat × Bk)} {ts : List Int} (w : Wo S xs c s p t q k m bs pd ts) (hs : 8 ≤ s) (hi : i ≤ 1000) (hl : pd.length ≤ i) (h15 : Nv c15) (fin : ∀ ρ S, In ns xs s (i + 1) ρ S → N ρ S) :
    (ex (runN T (n + 6)) sD [.val (.scr (ns.map D.int)), .val (.loc 0), .val (.int s), .val (.loc 1), .val (.loc 5), .val (.loc q), .val (.int m), .val (.lst (ts.map D.int)), .val (.int k), c9, .val (.int r), c11, c12, c13, c14, c15, c16, c17] S).Ok N R B C' := by
  have lb := w.len
  have fin0 : ∀ ρ S, In ns xs s i ρ S → N ρ S := fun ρ S h => fin ρ S (h.mono (Nat.le_succ _))
  rw [hD]
  by_cases k4 : (r : Int) > 4
  · simp only [sD, sF, sE, sI, thenOf, elseOf, headOf, tailOf, tlaw_b2, k4, Df.start, ev_cst, ev_var, ev_bor, ev_tup, ev_lst, ev_rep, ev_bin, ev_neg, ev_cmp, ev_chn, ev_and, ev_or, ev_not, ev_ite, ev_ix, ev_sl, ev_call, ev_mk, ev_met, ev_fld, ev_shr, ev_bi, ev_join, ev_rev, ev_mth, ev_dnK, ev_dnT, ev_comp, evs_nil, evs_cons, evO_nil, evO_part, evI_rng1, evI_rng2, evI_rng3, evI_zip, evI_enm, evI_its, evI_it, o_skip, o_brk, o_cnt, o_seq, o_asg, o_own, o_ret, o_retO, o_expr, o_ite, o_loop, o_setI, o_setF, o_app, o_del, kS_ap, kAsg_ap, kOwn_ap, kEx_ap, kIte_ap, kIf_t, kIf_f, kLoop_ap, kPut_s, kSetF_ap, kApp_ap, kDel_ap, Res.bind_ok, Res.of_some, Res.noX_ok, Res.run_ok, Ok_ok, Ok_bind, Ok_noX, Ok_nx, Ok_ret, Ok_brk, Ok_cnt, List.map_cons, List.map_nil, List.length_cons, List.length_nil, List.cons_append, List.nil_append, List.getElem?_cons_zero, List.getElem?_cons_succ, List.set_cons_zero, List.set_cons_succ, TX.bindT, TX.bindL, add_i, sub_i, fdiv_i, mod_i, band_i, add_t, add_s, add_l, lt_i, le_i, gt_i, ge_i, eq_i, ne_i, eq_s, ne_s, is_n, isn_n, is_b, isn_b, is_i, isn_i, is_tt, isn_tt, is_s, isn_s, is_l, isn_l, ix_t, ix_l, ix_c, ix_s, len_t, len_l, len_c, len_s, int_i, int_b, max_i, min_i, ord_s, list_t, list_l, list_c, tuple_t, tuple_l, tuple_c, all_l, tru_n, tru_b, tru_i, tru_s, tru_t, tru_l, at0, at1, at2, at3, at4, at5, at6, mul_r, mul_l, Option.map_some, Option.bind_some, shutR_nil, shutO_nil, ItV.now, wsOk, wipeC, plObj, chks_nil, compC_nil, loopC_nil, and_self, true_and, and_true, List.all_cons, List.all_nil, Bool.and_self, Bool.and_true, Bool.true_and, Bool.not_true, Bool.not_false, if_true, if_false, decide_true, decide_false, sz0, sz1, sz2, sz3, sz4, sz5, sz6, sz7, sz8, sz9, sz10, sz11, sz12, Nat.reduceLT, Nat.reduceAdd, Nat.reduceSub, Int.reduceLT, Int.reduceLE, Int.reduceToNat]
    refine drawS w.z (by omega) fun a c2 ha => ?_
    simp only [Df.start, ev_cst, ev_var, ev_bor, ev_tup, ev_lst, ev_rep, ev_bin, ev_neg, ev_cmp, ev_chn, ev_and, ev_or, ev_not, ev_ite, ev_ix, ev_sl, ev_call, ev_mk, ev_met, ev_fld, ev_shr, ev_bi, ev_join, ev_rev, ev_mth, ev_dnK, ev_dnT, ev_comp, evs_nil, evs_cons, evO_nil, evO_part, evI_rng1, evI_rng2, evI_rng3, evI_zip, evI_enm, evI_its, evI_it, o_skip, o_brk, o_cnt, o_seq, o_asg, o_own, o_ret, o_retO, o_expr, o_ite, o_loop, o_setI, o_setF, o_app, o_del, kS_ap, kAsg_ap, kOwn_ap, kEx_ap, kIte_ap, kIf_t, kIf_f, kLoop_ap, kPut_s, kSetF_ap, kApp_ap, kDel_ap, Res.bind_ok, Res.of_some, Res.noX_ok, Res.run_ok, Ok_ok, Ok_bind, Ok_noX, Ok_nx, Ok_ret, Ok_brk, Ok_cnt, List.map_cons, List.map_nil, List.length_cons, List.length_nil, List.cons_append, List.nil_append, List.getElem?_cons_zero, List.getElem?_cons_succ, List.set_cons_zero, List.set_cons_succ, TX.bindT, TX.bindL, add_i, sub_i, fdiv_i, mod_i, band_i, add_t, add_s, add_l, lt_i, le_i, gt_i, ge_i, eq_i, ne_i, eq_s, ne_s, is_n, isn_n, is_b, isn_b, is_i, isn_i, is_tt, isn_tt, is_s, isn_s, is_l, isn_l, ix_t, ix_l, ix_c, ix_s, len_t, len_l, len_c, len_s, int_i, int_b, max_i, min_i, ord_s, list_t, list_l, list_c, tuple_t, tuple_l, tuple_c, all_l, tru_n, tru_b, tru_i, tru_s, tru_t, tru_l, at0, at1, at2, at3, at4, at5, at6, mul_r, mul_l, Option.map_some, Option.bind_some, shutR_nil, shutO_nil, ItV.now, wsOk, wipeC, plObj, chks_nil, compC_nil, loopC_nil, and_self, true_and, and_true, List.all_cons, List.all_nil, Bool.and_self, Bool.and_true, Bool.true_and, Bool.not_true, Bool.not_false, if_true, if_false, decide_true, decide_false, sz0, sz1, sz2, sz3, sz4, sz5, sz6, sz7, sz8, sz9, sz10, sz11, sz12, Nat.reduceLT, Nat.reduceAdd, Nat.reduceSub, Int.reduceLT, Int.reduceLE, Int.reduceToNat]
    have w2 := w.box (c' := c2)
    by_cases h0 : m = 0
    · subst h0
      exact D0_ok (m := 0) w2 hl hi (.inr ⟨a, rfl, by omega⟩) h15 fin0
    · exact D1w_ok w2 h0 hi hl (by omega) h15 fin
  · simp only [sD, sF, sE, sI, thenOf, elseOf, headOf, tailOf, tlaw_b2, k4, Df.start, ev_cst, ev_var, ev_bor, ev_tup, ev_lst, ev_rep, ev_bin, ev_neg, ev_cmp, ev_chn, ev_and, ev_or, ev_not, ev_ite, ev_ix, ev_sl, ev_call, ev_mk, ev_met, ev_fld, ev_shr, ev_bi, ev_join, ev_rev, ev_mth, ev_dnK, ev_dnT, ev_comp, evs_nil, evs_cons, evO_nil, evO_part, evI_rng1, evI_rng2, evI_rng3, evI_zip, evI_enm, evI_its, evI_it, o_skip, o_brk, o_cnt, o_seq, o_asg, o_own, o_ret, o_retO, o_expr, o_ite, o_loop, o_setI, o_setF, o_app, o_del, kS_ap, kAsg_ap, kOwn_ap, kEx_ap, kIte_ap, kIf_t, kIf_f, kLoop_ap, kPut_s, kSetF_ap, kApp_ap, kDel_ap, Res.bind_ok, Res.of_some, Res.noX_ok, Res.run_ok, Ok_ok, Ok_bind, Ok_noX, Ok_nx, Ok_ret, Ok_brk, Ok_cnt, List.map_cons, List.map_nil, List.length_cons, List.length_nil, List.cons_append, List.nil_append, List.getElem?_cons_zero, List.getElem?_cons_succ, List.set_cons_zero, List.set_cons_succ, TX.bindT, TX.bindL, add_i, sub_i, fdiv_i, mod_i, band_i, add_t, add_s, add_l, lt_i, le_i, gt_i, ge_i, eq_i, ne_i, eq_s, ne_s, is_n, isn_n, is_b, isn_b, is_i, isn_i, is_tt, isn_tt, is_s, isn_s, is_l, isn_l, ix_t, ix_l, ix_c, ix_s, len_t, len_l, len_c, len_s, int_i, int_b, max_i, min_i, ord_s, list_t, list_l, list_c, tuple_t, tuple_l, tuple_c, all_l, tru_n, tru_b, tru_i, tru_s, tru_t, tru_l, at0, at1, at2, at3, at4, at5, at6, mul_r, mul_l, Option.map_some, Option.bind_some, shutR_nil, shutO_nil, ItV.now, wsOk, wipeC, plObj, chks_nil, compC_nil, loopC_nil, and_self, true_and, and_true, List.all_cons, List.all_nil, Bool.and_self, Bool.and_true, Bool.true_and, Bool.not_true, Bool.not_false, if_true, if_false, decide_true, decide_false, sz0, sz1, sz2, sz3, sz4, sz5, sz6, sz7, sz8, sz9, sz10, sz11, sz12, Nat.reduceLT, Nat.reduceAdd, Nat.reduceSub, Int.reduceLT, Int.reduceLE, Int.reduceToNat]
    by_cases h0 : m = 0
    · subst h0
      exact D0_ok (m := 0) w hl hi (.inl rfl) h15 fin0
    · exact D1f_ok w h0 h15 fin0
end
/-! ### the turn, the whole -/
theorem hT : tlaw_b2 = .seq (headOf tlaw_b2) (.seq (.ite (.or (.cmp .eq (.bor 10) (.cst (.int 0))) (.cmp .eq (.bor 9) (.cst (.int 0)))) sA (.seq (.ite (.and (.cmp .eq (.bor 10) (.cst (.int 1))) (.cmp .eq (.call (Str.ofString "_law_draw") (.cons (.var 1) (.cons (.cst (.int 4)) .nil))) (.cst (.int 0)))) sB (.seq (.ite (.cmp .eq (.bor 10) (.cst (.int 2))) sC sD) .skip)) .skip)) tB) := rfl
theorem turn2 {n : Nat} {ns xs : List Int} {s i j : Nat} {ρ : TX.Env} {S : Sto} {R : D → Sto → Prop} {N : TX.Env → Sto → Prop} (hs : 8 ≤ s) (hi : i ≤ 1000) (h : In ns xs s i ρ S) : (turnS (runN T (n + 6)) (.nm 9) tlaw_b2 (.int j) ρ S).Ok (In ns xs s (i + 1)) R N (In ns xs s (i + 1)) := by
  obtain ⟨c9, c10, c11, c12, c13, c14, c15, c16, c17, c, p, t, q', k, m, bs, pd, ts, rfl, w, hl, h12, h15⟩ := h
  have fin : ∀ ρ S, In ns xs s (i + 1) ρ S → (ex (TX.runN T (n + 6)) tB ρ S).Ok (In ns xs s (i + 1)) R N (In ns xs s (i + 1)) := fun ρ S h => tail_ok h fun _ _ h => h
  show (ex (TX.runN T (n + 6)) tlaw_b2 [.val (.scr (ns.map D.int)), .val (.loc 0), .val (.int s), .val (.loc 1), .val (.loc 5), .val (.loc q'), .val (.int m), .val (.lst (ts.map D.int)), .val (.int k), .val (.int j), c10, c11, c12, c13, c14, c15, c16, c17] S).Ok _ _ _ _
  rw [hT]
  simp only [headOf, tlaw_b2, Df.start, ev_cst, ev_var, ev_bor, ev_tup, ev_lst, ev_rep, ev_bin, ev_neg, ev_cmp, ev_chn, ev_and, ev_or, ev_not, ev_ite, ev_ix, ev_sl, ev_call, ev_mk, ev_met, ev_fld, ev_shr, ev_bi, ev_join, ev_rev, ev_mth, ev_dnK, ev_dnT, ev_comp, evs_nil, evs_cons, evO_nil, evO_part, evI_rng1, evI_rng2, evI_rng3, evI_zip, evI_enm, evI_its, evI_it, o_skip, o_brk, o_cnt, o_seq, o_asg, o_own, o_ret, o_retO, o_expr, o_ite, o_loop, o_setI, o_setF, o_app, o_del, kS_ap, kAsg_ap, kOwn_ap, kEx_ap, kIte_ap, kIf_t, kIf_f, kLoop_ap, kPut_s, kSetF_ap, kApp_ap, kDel_ap, Res.bind_ok, Res.of_some, Res.noX_ok, Res.run_ok, Ok_ok, Ok_bind, Ok_noX, Ok_nx, Ok_ret, Ok_brk, Ok_cnt, List.map_cons, List.map_nil, List.length_cons, List.length_nil, List.cons_append, List.nil_append, List.getElem?_cons_zero, List.getElem?_cons_succ, List.set_cons_zero, List.set_cons_succ, TX.bindT, TX.bindL, add_i, sub_i, fdiv_i, mod_i, band_i, add_t, add_s, add_l, lt_i, le_i, gt_i, ge_i, eq_i, ne_i, eq_s, ne_s, is_n, isn_n, is_b, isn_b, is_i, isn_i, is_tt, isn_tt, is_s, isn_s, is_l, isn_l, ix_t, ix_l, ix_c, ix_s, len_t, len_l, len_c, len_s, int_i, int_b, max_i, min_i, ord_s, list_t, list_l, list_c, tuple_t, tuple_l, tuple_c, all_l, tru_n, tru_b, tru_i, tru_s, tru_t, tru_l, at0, at1, at2, at3, at4, at5, at6, mul_r, mul_l, Option.map_some, Option.bind_some, shutR_nil, shutO_nil, ItV.now, wsOk, wipeC, plObj, chks_nil, compC_nil, loopC_nil, and_self, true_and, and_true, List.all_cons, List.all_nil, Bool.and_self, Bool.and_true, Bool.true_and, Bool.not_true, Bool.not_false, if_true, if_false, decide_true, decide_false, sz0, sz1, sz2, sz3, sz4, sz5, sz6, sz7, sz8, sz9, sz10, sz11, sz12, Nat.reduceLT, Nat.reduceAdd, Nat.reduceSub, Int.reduceLT, Int.reduceLE, Int.reduceToNat]
  refine drawS w.z (by decide) fun r c1 hr => ?_
  have w1 := w.box (c' := c1)
  generalize S.set 0 (Box xs c1) = S1 at w1
  by_cases k0 : (r : Int) = 0
  · simp only [eq_true k0, Df.start, ev_cst, ev_var, ev_bor, ev_tup, ev_lst, ev_rep, ev_bin, ev_neg, ev_cmp, ev_chn, ev_and, ev_or, ev_not, ev_ite, ev_ix, ev_sl, ev_call, ev_mk, ev_met, ev_fld, ev_shr, ev_bi, ev_join, ev_rev, ev_mth, ev_dnK, ev_dnT, ev_comp, evs_nil, evs_cons, evO_nil, evO_part, evI_rng1, evI_rng2, evI_rng3, evI_zip, evI_enm, evI_its, evI_it, o_skip, o_brk, o_cnt, o_seq, o_asg, o_own, o_ret, o_retO, o_expr, o_ite, o_loop, o_setI, o_setF, o_app, o_del, kS_ap, kAsg_ap, kOwn_ap, kEx_ap, kIte_ap, kIf_t, kIf_f, kLoop_ap, kPut_s, kSetF_ap, kApp_ap, kDel_ap, Res.bind_ok, Res.of_some, Res.noX_ok, Res.run_ok, Ok_ok, Ok_bind, Ok_noX, Ok_nx, Ok_ret, Ok_brk, Ok_cnt, List.map_cons, List.map_nil, List.length_cons, List.length_nil, List.cons_append, List.nil_append, List.getElem?_cons_zero, List.getElem?_cons_succ, List.set_cons_zero, List.set_cons_succ, TX.bindT, TX.bindL, add_i, sub_i, fdiv_i, mod_i, band_i, add_t, add_s, add_l, lt_i, le_i, gt_i, ge_i, eq_i, ne_i, eq_s, ne_s, is_n, isn_n, is_b, isn_b, is_i, isn_i, is_tt, isn_tt, is_s, isn_s, is_l, isn_l, ix_t, ix_l, ix_c, ix_s, len_t, len_l, len_c, len_s, int_i, int_b, max_i, min_i, ord_s, list_t, list_l, list_c, tuple_t, tuple_l, tuple_c, all_l, tru_n, tru_b, tru_i, tru_s, tru_t, tru_l, at0, at1, at2, at3, at4, at5, at6, mul_r, mul_l, Option.map_some, Option.bind_some, shutR_nil, shutO_nil, ItV.now, wsOk, wipeC, plObj, chks_nil, compC_nil, loopC_nil, and_self, true_and, and_true, List.all_cons, List.all_nil, Bool.and_self, Bool.and_true, Bool.true_and, Bool.not_true, Bool.not_false, if_true, if_false, decide_true, decide_false, sz0, sz1, sz2, sz3, sz4, sz5, sz6, sz7, sz8, sz9, sz10, sz11, sz12, Nat.reduceLT, Nat.reduceAdd, Nat.reduceSub, Int.reduceLT, Int.reduceLE, Int.reduceToNat]
    exact A_ok w1 hl h12 h15 fun ρ S h => by
      simp only [Df.start, ev_cst, ev_var, ev_bor, ev_tup, ev_lst, ev_rep, ev_bin, ev_neg, ev_cmp, ev_chn, ev_and, ev_or, ev_not, ev_ite, ev_ix, ev_sl, ev_call, ev_mk, ev_met, ev_fld, ev_shr, ev_bi, ev_join, ev_rev, ev_mth, ev_dnK, ev_dnT, ev_comp, evs_nil, evs_cons, evO_nil, evO_part, evI_rng1, evI_rng2, evI_rng3, evI_zip, evI_enm, evI_its, evI_it, o_skip, o_brk, o_cnt, o_seq, o_asg, o_own, o_ret, o_retO, o_expr, o_ite, o_loop, o_setI, o_setF, o_app, o_del, kS_ap, kAsg_ap, kOwn_ap, kEx_ap, kIte_ap, kIf_t, kIf_f, kLoop_ap, kPut_s, kSetF_ap, kApp_ap, kDel_ap, Res.bind_ok, Res.of_some, Res.noX_ok, Res.run_ok, Ok_ok, Ok_bind, Ok_noX, Ok_nx, Ok_ret, Ok_brk, Ok_cnt, List.map_cons, List.map_nil, List.length_cons, List.length_nil, List.cons_append, List.nil_append, List.getElem?_cons_zero, List.getElem?_cons_succ, List.set_cons_zero, List.set_cons_succ, TX.bindT, TX.bindL, add_i, sub_i, fdiv_i, mod_i, band_i, add_t, add_s, add_l, lt_i, le_i, gt_i, ge_i, eq_i, ne_i, eq_s, ne_s, is_n, isn_n, is_b, isn_b, is_i, isn_i, is_tt, isn_tt, is_s, isn_s, is_l, isn_l, ix_t, ix_l, ix_c, ix_s, len_t, len_l, len_c, len_s, int_i, int_b, max_i, min_i, ord_s, list_t, list_l, list_c, tuple_t, tuple_l, tuple_c, all_l, tru_n, tru_b, tru_i, tru_s, tru_t, tru_l, at0, at1, at2, at3, at4, at5, at6, mul_r, mul_l, Option.map_some, Option.bind_some, shutR_nil, shutO_nil, ItV.now, wsOk, wipeC, plObj, chks_nil, compC_nil, loopC_nil, and_self, true_and, and_true, List.all_cons, List.all_nil, Bool.and_self, Bool.and_true, Bool.true_and, Bool.not_true, Bool.not_false, if_true, if_false, decide_true, decide_false, sz0, sz1, sz2, sz3, sz4, sz5, sz6, sz7, sz8, sz9, sz10, sz11, sz12, Nat.reduceLT, Nat.reduceAdd, Nat.reduceSub, Int.reduceLT, Int.reduceLE, Int.reduceToNat]
      exact fin _ _ (h.mono (Nat.le_succ _))
  by_cases j0 : (j : Int) = 0
  · simp only [k0, eq_true j0, Df.start, ev_cst, ev_var, ev_bor, ev_tup, ev_lst, ev_rep, ev_bin, ev_neg, ev_cmp, ev_chn, ev_and, ev_or, ev_not, ev_ite, ev_ix, ev_sl, ev_call, ev_mk, ev_met, ev_fld, ev_shr, ev_bi, ev_join, ev_rev, ev_mth, ev_dnK, ev_dnT, ev_comp, evs_nil, evs_cons, evO_nil, evO_part, evI_rng1, evI_rng2, evI_rng3, evI_zip, evI_enm, evI_its, evI_it, o_skip, o_brk, o_cnt, o_seq, o_asg, o_own, o_ret, o_retO, o_expr, o_ite, o_loop, o_setI, o_setF, o_app, o_del, kS_ap, kAsg_ap, kOwn_ap, kEx_ap, kIte_ap, kIf_t, kIf_f, kLoop_ap, kPut_s, kSetF_ap, kApp_ap, kDel_ap, Res.bind_ok, Res.of_some, Res.noX_ok, Res.run_ok, Ok_ok, Ok_bind, Ok_noX, Ok_nx, Ok_ret, Ok_brk, Ok_cnt, List.map_cons, List.map_nil, List.length_cons, List.length_nil, List.cons_append, List.nil_append, List.getElem?_cons_zero, List.getElem?_cons_succ, List.set_cons_zero, List.set_cons_succ, TX.bindT, TX.bindL, add_i, sub_i, fdiv_i, mod_i, band_i, add_t, add_s, add_l, lt_i, le_i, gt_i, ge_i, eq_i, ne_i, eq_s, ne_s, is_n, isn_n, is_b, isn_b, is_i, isn_i, is_tt, isn_tt, is_s, isn_s, is_l, isn_l, ix_t, ix_l, ix_c, ix_s, len_t, len_l, len_c, len_s, int_i, int_b, max_i, min_i, ord_s, list_t, list_l, list_c, tuple_t, tuple_l, tuple_c, all_l, tru_n, tru_b, tru_i, tru_s, tru_t, tru_l, at0, at1, at2, at3, at4, at5, at6, mul_r, mul_l, Option.map_some, Option.bind_some, shutR_nil, shutO_nil, ItV.now, wsOk, wipeC, plObj, chks_nil, compC_nil, loopC_nil, and_self, true_and, and_true, List.all_cons, List.all_nil, Bool.and_self, Bool.and_true, Bool.true_and, Bool.not_true, Bool.not_false, if_true, if_false, decide_true, decide_false, sz0, sz1, sz2, sz3, sz4, sz5, sz6, sz7, sz8, sz9, sz10, sz11, sz12, Nat.reduceLT, Nat.reduceAdd, Nat.reduceSub, Int.reduceLT, Int.reduceLE, Int.reduceToNat]
    exact A_ok w1 hl h12 h15 fun ρ S h => by
      simp only [Df.start, ev_cst, ev_var, ev_bor, ev_tup, ev_lst, ev_rep, ev_bin, ev_neg, ev_cmp, ev_chn, ev_and, ev_or, ev_not, ev_ite, ev_ix, ev_sl, ev_call, ev_mk, ev_met, ev_fld, ev_shr, ev_bi, ev_join, ev_rev, ev_mth, ev_dnK, ev_dnT, ev_comp, evs_nil, evs_cons, evO_nil, evO_part, evI_rng1, evI_rng2, evI_rng3, evI_zip, evI_enm, evI_its, evI_it, o_skip, o_brk, o_cnt, o_seq, o_asg, o_own, o_ret, o_retO, o_expr, o_ite, o_loop, o_setI, o_setF, o_app, o_del, kS_ap, kAsg_ap, kOwn_ap, kEx_ap, kIte_ap, kIf_t, kIf_f, kLoop_ap, kPut_s, kSetF_ap, kApp_ap, kDel_ap, Res.bind_ok, Res.of_some, Res.noX_ok, Res.run_ok, Ok_ok, Ok_bind, Ok_noX, Ok_nx, Ok_ret, Ok_brk, Ok_cnt, List.map_cons, List.map_nil, List.length_cons, List.length_nil, List.cons_append, List.nil_append, List.getElem?_cons_zero, List.getElem?_cons_succ, List.set_cons_zero, List.set_cons_succ, TX.bindT, TX.bindL, add_i, sub_i, fdiv_i, mod_i, band_i, add_t, add_s, add_l, lt_i, le_i, gt_i, ge_i, eq_i, ne_i, eq_s, ne_s, is_n, isn_n, is_b, isn_b, is_i, isn_i, is_tt, isn_tt, is_s, isn_s, is_l, isn_l, ix_t, ix_l, ix_c, ix_s, len_t, len_l, len_c, len_s, int_i, int_b, max_i, min_i, ord_s, list_t, list_l, list_c, tuple_t, tuple_l, tuple_c, all_l, tru_n, tru_b, tru_i, tru_s, tru_t, tru_l, at0, at1, at2, at3, at4, at5, at6, mul_r, mul_l, Option.map_some, Option.bind_some, shutR_nil, shutO_nil, ItV.now, wsOk, wipeC, plObj, chks_nil, compC_nil, loopC_nil, and_self, true_and, and_true, List.all_cons, List.all_nil, Bool.and_self, Bool.and_true, Bool.true_and, Bool.not_true, Bool.not_false, if_true, if_false, decide_true, decide_false, sz0, sz1, sz2, sz3, sz4, sz5, sz6, sz7, sz8, sz9, sz10, sz11, sz12, Nat.reduceLT, Nat.reduceAdd, Nat.reduceSub, Int.reduceLT, Int.reduceLE, Int.reduceToNat]
      exact fin _ _ (h.mono (Nat.le_succ _))
  by_cases k1 : (r : Int) = 1
  · simp only [k0, j0, eq_true k1, Df.start, ev_cst, ev_var, ev_bor, ev_tup, ev_lst, ev_rep, ev_bin, ev_neg, ev_cmp, ev_chn, ev_and, ev_or, ev_not, ev_ite, ev_ix, ev_sl, ev_call, ev_mk, ev_met, ev_fld, ev_shr, ev_bi, ev_join, ev_rev, ev_mth, ev_dnK, ev_dnT, ev_comp, evs_nil, evs_cons, evO_nil, evO_part, evI_rng1, evI_rng2, evI_rng3, evI_zip, evI_enm, evI_its, evI_it, o_skip, o_brk, o_cnt, o_seq, o_asg, o_own, o_ret, o_retO, o_expr, o_ite, o_loop, o_setI, o_setF, o_app, o_del, kS_ap, kAsg_ap, kOwn_ap, kEx_ap, kIte_ap, kIf_t, kIf_f, kLoop_ap, kPut_s, kSetF_ap, kApp_ap, kDel_ap, Res.bind_ok, Res.of_some, Res.noX_ok, Res.run_ok, Ok_ok, Ok_bind, Ok_noX, Ok_nx, Ok_ret, Ok_brk, Ok_cnt, List.map_cons, List.map_nil, List.length_cons, List.length_nil, List.cons_append, List.nil_append, List.getElem?_cons_zero, List.getElem?_cons_succ, List.set_cons_zero, List.set_cons_succ, TX.bindT, TX.bindL, add_i, sub_i, fdiv_i, mod_i, band_i, add_t, add_s, add_l, lt_i, le_i, gt_i, ge_i, eq_i, ne_i, eq_s, ne_s, is_n, isn_n, is_b, isn_b, is_i, isn_i, is_tt, isn_tt, is_s, isn_s, is_l, isn_l, ix_t, ix_l, ix_c, ix_s, len_t, len_l, len_c, len_s, int_i, int_b, max_i, min_i, ord_s, list_t, list_l, list_c, tuple_t, tuple_l, tuple_c, all_l, tru_n, tru_b, tru_i, tru_s, tru_t, tru_l, at0, at1, at2, at3, at4, at5, at6, mul_r, mul_l, Option.map_some, Option.bind_some, shutR_nil, shutO_nil, ItV.now, wsOk, wipeC, plObj, chks_nil, compC_nil, loopC_nil, and_self, true_and, and_true, List.all_cons, List.all_nil, Bool.and_self, Bool.and_true, Bool.true_and, Bool.not_true, Bool.not_false, if_true, if_false, decide_true, decide_false, sz0, sz1, sz2, sz3, sz4, sz5, sz6, sz7, sz8, sz9, sz10, sz11, sz12, Nat.reduceLT, Nat.reduceAdd, Nat.reduceSub, Int.reduceLT, Int.reduceLE, Int.reduceToNat]
    refine drawS w1.z (by decide) fun r2 c2 hr2 => ?_
    have w2 := w1.box (c' := c2)
    generalize S1.set 0 (Box xs c2) = S2 at w2
    by_cases k3 : (r2 : Int) = 0
    · simp only [eq_true k3, Df.start, ev_cst, ev_var, ev_bor, ev_tup, ev_lst, ev_rep, ev_bin, ev_neg, ev_cmp, ev_chn, ev_and, ev_or, ev_not, ev_ite, ev_ix, ev_sl, ev_call, ev_mk, ev_met, ev_fld, ev_shr, ev_bi, ev_join, ev_rev, ev_mth, ev_dnK, ev_dnT, ev_comp, evs_nil, evs_cons, evO_nil, evO_part, evI_rng1, evI_rng2, evI_rng3, evI_zip, evI_enm, evI_its, evI_it, o_skip, o_brk, o_cnt, o_seq, o_asg, o_own, o_ret, o_retO, o_expr, o_ite, o_loop, o_setI, o_setF, o_app, o_del, kS_ap, kAsg_ap, kOwn_ap, kEx_ap, kIte_ap, kIf_t, kIf_f, kLoop_ap, kPut_s, kSetF_ap, kApp_ap, kDel_ap, Res.bind_ok, Res.of_some, Res.noX_ok, Res.run_ok, Ok_ok, Ok_bind, Ok_noX, Ok_nx, Ok_ret, Ok_brk, Ok_cnt, List.map_cons, List.map_nil, List.length_cons, List.length_nil, List.cons_append, List.nil_append, List.getElem?_cons_zero, List.getElem?_cons_succ, List.set_cons_zero, List.set_cons_succ, TX.bindT, TX.bindL, add_i, sub_i, fdiv_i, mod_i, band_i, add_t, add_s, add_l, lt_i, le_i, gt_i, ge_i, eq_i, ne_i, eq_s, ne_s, is_n, isn_n, is_b, isn_b, is_i, isn_i, is_tt, isn_tt, is_s, isn_s, is_l, isn_l, ix_t, ix_l, ix_c, ix_s, len_t, len_l, len_c, len_s, int_i, int_b, max_i, min_i, ord_s, list_t, list_l, list_c, tuple_t, tuple_l, tuple_c, all_l, tru_n, tru_b, tru_i, tru_s, tru_t, tru_l, at0, at1, at2, at3, at4, at5, at6, mul_r, mul_l, Option.map_some, Option.bind_some, shutR_nil, shutO_nil, ItV.now, wsOk, wipeC, plObj, chks_nil, compC_nil, loopC_nil, and_self, true_and, and_true, List.all_cons, List.all_nil, Bool.and_self, Bool.and_true, Bool.true_and, Bool.not_true, Bool.not_false, if_true, if_false, decide_true, decide_false, sz0, sz1, sz2, sz3, sz4, sz5, sz6, sz7, sz8, sz9, sz10, sz11, sz12, Nat.reduceLT, Nat.reduceAdd, Nat.reduceSub, Int.reduceLT, Int.reduceLE, Int.reduceToNat]
      exact B_ok w2 h12 h15 fun ρ S h => by
        simp only [Df.start, ev_cst, ev_var, ev_bor, ev_tup, ev_lst, ev_rep, ev_bin, ev_neg, ev_cmp, ev_chn, ev_and, ev_or, ev_not, ev_ite, ev_ix, ev_sl, ev_call, ev_mk, ev_met, ev_fld, ev_shr, ev_bi, ev_join, ev_rev, ev_mth, ev_dnK, ev_dnT, ev_comp, evs_nil, evs_cons, evO_nil, evO_part, evI_rng1, evI_rng2, evI_rng3, evI_zip, evI_enm, evI_its, evI_it, o_skip, o_brk, o_cnt, o_seq, o_asg, o_own, o_ret, o_retO, o_expr, o_ite, o_loop, o_setI, o_setF, o_app, o_del, kS_ap, kAsg_ap, kOwn_ap, kEx_ap, kIte_ap, kIf_t, kIf_f, kLoop_ap, kPut_s, kSetF_ap, kApp_ap, kDel_ap, Res.bind_ok, Res.of_some, Res.noX_ok, Res.run_ok, Ok_ok, Ok_bind, Ok_noX, Ok_nx, Ok_ret, Ok_brk, Ok_cnt, List.map_cons, List.map_nil, List.length_cons, List.length_nil, List.cons_append, List.nil_append, List.getElem?_cons_zero, List.getElem?_cons_succ, List.set_cons_zero, List.set_cons_succ, TX.bindT, TX.bindL, add_i, sub_i, fdiv_i, mod_i, band_i, add_t, add_s, add_l, lt_i, le_i, gt_i, ge_i, eq_i, ne_i, eq_s, ne_s, is_n, isn_n, is_b, isn_b, is_i, isn_i, is_tt, isn_tt, is_s, isn_s, is_l, isn_l, ix_t, ix_l, ix_c, ix_s, len_t, len_l, len_c, len_s, int_i, int_b, max_i, min_i, ord_s, list_t, list_l, list_c, tuple_t, tuple_l, tuple_c, all_l, tru_n, tru_b, tru_i, tru_s, tru_t, tru_l, at0, at1, at2, at3, at4, at5, at6, mul_r, mul_l, Option.map_some, Option.bind_some, shutR_nil, shutO_nil, ItV.now, wsOk, wipeC, plObj, chks_nil, compC_nil, loopC_nil, and_self, true_and, and_true, List.all_cons, List.all_nil, Bool.and_self, Bool.and_true, Bool.true_and, Bool.not_true, Bool.not_false, if_true, if_false, decide_true, decide_false, sz0, sz1, sz2, sz3, sz4, sz5, sz6, sz7, sz8, sz9, sz10, sz11, sz12, Nat.reduceLT, Nat.reduceAdd, Nat.reduceSub, Int.reduceLT, Int.reduceLE, Int.reduceToNat]
        exact fin _ _ (h.mono (Nat.le_succ _))
    · have k2 : ¬ (r : Int) = 2 := by omega
      simp only [k3, k2, Df.start, ev_cst, ev_var, ev_bor, ev_tup, ev_lst, ev_rep, ev_bin, ev_neg, ev_cmp, ev_chn, ev_and, ev_or, ev_not, ev_ite, ev_ix, ev_sl, ev_call, ev_mk, ev_met, ev_fld, ev_shr, ev_bi, ev_join, ev_rev, ev_mth, ev_dnK, ev_dnT, ev_comp, evs_nil, evs_cons, evO_nil, evO_part, evI_rng1, evI_rng2, evI_rng3, evI_zip, evI_enm, evI_its, evI_it, o_skip, o_brk, o_cnt, o_seq, o_asg, o_own, o_ret, o_retO, o_expr, o_ite, o_loop, o_setI, o_setF, o_app, o_del, kS_ap, kAsg_ap, kOwn_ap, kEx_ap, kIte_ap, kIf_t, kIf_f, kLoop_ap, kPut_s, kSetF_ap, kApp_ap, kDel_ap, Res.bind_ok, Res.of_some, Res.noX_ok, Res.run_ok, Ok_ok, Ok_bind, Ok_noX, Ok_nx, Ok_ret, Ok_brk, Ok_cnt, List.map_cons, List.map_nil, List.length_cons, List.length_nil, List.cons_append, List.nil_append, List.getElem?_cons_zero, List.getElem?_cons_succ, List.set_cons_zero, List.set_cons_succ, TX.bindT, TX.bindL, add_i, sub_i, fdiv_i, mod_i, band_i, add_t, add_s, add_l, lt_i, le_i, gt_i, ge_i, eq_i, ne_i, eq_s, ne_s, is_n, isn_n, is_b, isn_b, is_i, isn_i, is_tt, isn_tt, is_s, isn_s, is_l, isn_l, ix_t, ix_l, ix_c, ix_s, len_t, len_l, len_c, len_s, int_i, int_b, max_i, min_i, ord_s, list_t, list_l, list_c, tuple_t, tuple_l, tuple_c, all_l, tru_n, tru_b, tru_i, tru_s, tru_t, tru_l, at0, at1, at2, at3, at4, at5, at6, mul_r, mul_l, Option.map_some, Option.bind_some, shutR_nil, shutO_nil, ItV.now, wsOk, wipeC, plObj, chks_nil, compC_nil, loopC_nil, and_self, true_and, and_true, List.all_cons, List.all_nil, Bool.and_self, Bool.and_true, Bool.true_and, Bool.not_true, Bool.not_false, if_true, if_false, decide_true, decide_false, sz0, sz1, sz2, sz3, sz4, sz5, sz6, sz7, sz8, sz9, sz10, sz11, sz12, Nat.reduceLT, Nat.reduceAdd, Nat.reduceSub, Int.reduceLT, Int.reduceLE, Int.reduceToNat]
      exact D_ok w2 hs hi hl h15 fun ρ S h => by
        simp only [Df.start, ev_cst, ev_var, ev_bor, ev_tup, ev_lst, ev_rep, ev_bin, ev_neg, ev_cmp, ev_chn, ev_and, ev_or, ev_not, ev_ite, ev_ix, ev_sl, ev_call, ev_mk, ev_met, ev_fld, ev_shr, ev_bi, ev_join, ev_rev, ev_mth, ev_dnK, ev_dnT, ev_comp, evs_nil, evs_cons, evO_nil, evO_part, evI_rng1, evI_rng2, evI_rng3, evI_zip, evI_enm, evI_its, evI_it, o_skip, o_brk, o_cnt, o_seq, o_asg, o_own, o_ret, o_retO, o_expr, o_ite, o_loop, o_setI, o_setF, o_app, o_del, kS_ap, kAsg_ap, kOwn_ap, kEx_ap, kIte_ap, kIf_t, kIf_f, kLoop_ap, kPut_s, kSetF_ap, kApp_ap, kDel_ap, Res.bind_ok, Res.of_some, Res.noX_ok, Res.run_ok, Ok_ok, Ok_bind, Ok_noX, Ok_nx, Ok_ret, Ok_brk, Ok_cnt, List.map_cons, List.map_nil, List.length_cons, List.length_nil, List.cons_append, List.nil_append, List.getElem?_cons_zero, List.getElem?_cons_succ, List.set_cons_zero, List.set_cons_succ, TX.bindT, TX.bindL, add_i, sub_i, fdiv_i, mod_i, band_i, add_t, add_s, add_l, lt_i, le_i, gt_i, ge_i, eq_i, ne_i, eq_s, ne_s, is_n, isn_n, is_b, isn_b, is_i, isn_i, is_tt, isn_tt, is_s, isn_s, is_l, isn_l, ix_t, ix_l, ix_c, ix_s, len_t, len_l, len_c, len_s, int_i, int_b, max_i, min_i, ord_s, list_t, list_l, list_c, tuple_t, tuple_l, tuple_c, all_l, tru_n, tru_b, tru_i, tru_s, tru_t, tru_l, at0, at1, at2, at3, at4, at5, at6, mul_r, mul_l, Option.map_some, Option.bind_some, shutR_nil, shutO_nil, ItV.now, wsOk, wipeC, plObj, chks_nil, compC_nil, loopC_nil, and_self, true_and, and_true, List.all_cons, List.all_nil, Bool.and_self, Bool.and_true, Bool.true_and, Bool.not_true, Bool.not_false, if_true, if_false, decide_true, decide_false, sz0, sz1, sz2, sz3, sz4, sz5, sz6, sz7, sz8, sz9, sz10, sz11, sz12, Nat.reduceLT, Nat.reduceAdd, Nat.reduceSub, Int.reduceLT, Int.reduceLE, Int.reduceToNat]
        exact fin _ _ h
  by_cases k2 : (r : Int) = 2
  · simp only [k0, j0, k1, eq_true k2, Df.start, ev_cst, ev_var, ev_bor, ev_tup, ev_lst, ev_rep, ev_bin, ev_neg, ev_cmp, ev_chn, ev_and, ev_or, ev_not, ev_ite, ev_ix, ev_sl, ev_call, ev_mk, ev_met, ev_fld, ev_shr, ev_bi, ev_join, ev_rev, ev_mth, ev_dnK, ev_dnT, ev_comp, evs_nil, evs_cons, evO_nil, evO_part, evI_rng1, evI_rng2, evI_rng3, evI_zip, evI_enm, evI_its, evI_it, o_skip, o_brk, o_cnt, o_seq, o_asg, o_own, o_ret, o_retO, o_expr, o_ite, o_loop, o_setI, o_setF, o_app, o_del, kS_ap, kAsg_ap, kOwn_ap, kEx_ap, kIte_ap, kIf_t, kIf_f, kLoop_ap, kPut_s, kSetF_ap, kApp_ap, kDel_ap, Res.bind_ok, Res.of_some, Res.noX_ok, Res.run_ok, Ok_ok, Ok_bind, Ok_noX, Ok_nx, Ok_ret, Ok_brk, Ok_cnt, List.map_cons, List.map_nil, List.length_cons, List.length_nil, List.cons_append, List.nil_append, List.getElem?_cons_zero, List.getElem?_cons_succ, List.set_cons_zero, List.set_cons_succ, TX.bindT, TX.bindL, add_i, sub_i, fdiv_i, mod_i, band_i, add_t, add_s, add_l, lt_i, le_i, gt_i, ge_i, eq_i, ne_i, eq_s, ne_s, is_n, isn_n, is_b, isn_b, is_i, isn_i, is_tt, isn_tt, is_s, isn_s, is_l, isn_l, ix_t, ix_l, ix_c, ix_s, len_t, len_l, len_c, len_s, int_i, int_b, max_i, min_i, ord_s, list_t, list_l, list_c, tuple_t, tuple_l, tuple_c, all_l, tru_n, tru_b, tru_i, tru_s, tru_t, tru_l, at0, at1, at2, at3, at4, at5, at6, mul_r, mul_l, Option.map_some, Option.bind_some, shutR_nil, shutO_nil, ItV.now, wsOk, wipeC, plObj, chks_nil, compC_nil, loopC_nil, and_self, true_and, and_true, List.all_cons, List.all_nil, Bool.and_self, Bool.and_true, Bool.true_and, Bool.not_true, Bool.not_false, if_true, if_false, decide_true, decide_false, sz0, sz1, sz2, sz3, sz4, sz5, sz6, sz7, sz8, sz9, sz10, sz11, sz12, Nat.reduceLT, Nat.reduceAdd, Nat.reduceSub, Int.reduceLT, Int.reduceLE, Int.reduceToNat]
    exact C_ok w1 hl hs h12 h15 fun ρ S h => by
      simp only [Df.start, ev_cst, ev_var, ev_bor, ev_tup, ev_lst, ev_rep, ev_bin, ev_neg, ev_cmp, ev_chn, ev_and, ev_or, ev_not, ev_ite, ev_ix, ev_sl, ev_call, ev_mk, ev_met, ev_fld, ev_shr, ev_bi, ev_join, ev_rev, ev_mth, ev_dnK, ev_dnT, ev_comp, evs_nil, evs_cons, evO_nil, evO_part, evI_rng1, evI_rng2, evI_rng3, evI_zip, evI_enm, evI_its, evI_it, o_skip, o_brk, o_cnt, o_seq, o_asg, o_own, o_ret, o_retO, o_expr, o_ite, o_loop, o_setI, o_setF, o_app, o_del, kS_ap, kAsg_ap, kOwn_ap, kEx_ap, kIte_ap, kIf_t, kIf_f, kLoop_ap, kPut_s, kSetF_ap, kApp_ap, kDel_ap, Res.bind_ok, Res.of_some, Res.noX_ok, Res.run_ok, Ok_ok, Ok_bind, Ok_noX, Ok_nx, Ok_ret, Ok_brk, Ok_cnt, List.map_cons, List.map_nil, List.length_cons, List.length_nil, List.cons_append, List.nil_append, List.getElem?_cons_zero, List.getElem?_cons_succ, List.set_cons_zero, List.set_cons_succ, TX.bindT, TX.bindL, add_i, sub_i, fdiv_i, mod_i, band_i, add_t, add_s, add_l, lt_i, le_i, gt_i, ge_i, eq_i, ne_i, eq_s, ne_s, is_n, isn_n, is_b, isn_b, is_i, isn_i, is_tt, isn_tt, is_s, isn_s, is_l, isn_l, ix_t, ix_l, ix_c, ix_s, len_t, len_l, len_c, len_s, int_i, int_b, max_i, min_i, ord_s, list_t, list_l, list_c, tuple_t, tuple_l, tuple_c, all_l, tru_n, tru_b, tru_i, tru_s, tru_t, tru_l, at0, at1, at2, at3, at4, at5, at6, mul_r, mul_l, Option.map_some, Option.bind_some, shutR_nil, shutO_nil, ItV.now, wsOk, wipeC, plObj, chks_nil, compC_nil, loopC_nil, and_self, true_and, and_true, List.all_cons, List.all_nil, Bool.and_self, Bool.and_true, Bool.true_and, Bool.not_true, Bool.not_false, if_true, if_false, decide_true, decide_false, sz0, sz1, sz2, sz3, sz4, sz5, sz6, sz7, sz8, sz9, sz10, sz11, sz12, Nat.reduceLT, Nat.reduceAdd, Nat.reduceSub, Int.reduceLT, Int.reduceLE, Int.reduceToNat]
      exact fin _ _ (h.mono (Nat.le_succ _))
  simp only [k0, j0, k1, k2, Df.start, ev_cst, ev_var, ev_bor, ev_tup, ev_lst, ev_rep, ev_bin, ev_neg, ev_cmp, ev_chn, ev_and, ev_or, ev_not, ev_ite, ev_ix, ev_sl, ev_call, ev_mk, ev_met, ev_fld, ev_shr, ev_bi, ev_join, ev_rev, ev_mth, ev_dnK, ev_dnT, ev_comp, evs_nil, evs_cons, evO_nil, evO_part, evI_rng1, evI_rng2, evI_rng3, evI_zip, evI_enm, evI_its, evI_it, o_skip, o_brk, o_cnt, o_seq, o_asg, o_own, o_ret, o_retO, o_expr, o_ite, o_loop, o_setI, o_setF, o_app, o_del, kS_ap, kAsg_ap, kOwn_ap, kEx_ap, kIte_ap, kIf_t, kIf_f, kLoop_ap, kPut_s, kSetF_ap, kApp_ap, kDel_ap, Res.bind_ok, Res.of_some, Res.noX_ok, Res.run_ok, Ok_ok, Ok_bind, Ok_noX, Ok_nx, Ok_ret, Ok_brk, Ok_cnt, List.map_cons, List.map_nil, List.length_cons, List.length_nil, List.cons_append, List.nil_append, List.getElem?_cons_zero, List.getElem?_cons_succ, List.set_cons_zero, List.set_cons_succ, TX.bindT, TX.bindL, add_i, sub_i, fdiv_i, mod_i, band_i, add_t, add_s, add_l, lt_i, le_i, gt_i, ge_i, eq_i, ne_i, eq_s, ne_s, is_n, isn_n, is_b, isn_b, is_i, isn_i, is_tt, isn_tt, is_s, isn_s, is_l, isn_l, ix_t, ix_l, ix_c, ix_s, len_t, len_l, len_c, len_s, int_i, int_b, max_i, min_i, ord_s, list_t, list_l, list_c, tuple_t, tuple_l, tuple_c, all_l, tru_n, tru_b, tru_i, tru_s, tru_t, tru_l, at0, at1, at2, at3, at4, at5, at6, mul_r, mul_l, Option.map_some, Option.bind_some, shutR_nil, shutO_nil, ItV.now, wsOk, wipeC, plObj, chks_nil, compC_nil, loopC_nil, and_self, true_and, and_true, List.all_cons, List.all_nil, Bool.and_self, Bool.and_true, Bool.true_and, Bool.not_true, Bool.not_false, if_true, if_false, decide_true, decide_false, sz0, sz1, sz2, sz3, sz4, sz5, sz6, sz7, sz8, sz9, sz10, sz11, sz12, Nat.reduceLT, Nat.reduceAdd, Nat.reduceSub, Int.reduceLT, Int.reduceLE, Int.reduceToNat]
  exact D_ok w1 hs hi hl h15 fun ρ S h => by
    simp only [Df.start, ev_cst, ev_var, ev_bor, ev_tup, ev_lst, ev_rep, ev_bin, ev_neg, ev_cmp, ev_chn, ev_and, ev_or, ev_not, ev_ite, ev_ix, ev_sl, ev_call, ev_mk, ev_met, ev_fld, ev_shr, ev_bi, ev_join, ev_rev, ev_mth, ev_dnK, ev_dnT, ev_comp, evs_nil, evs_cons, evO_nil, evO_part, evI_rng1, evI_rng2, evI_rng3, evI_zip, evI_enm, evI_its, evI_it, o_skip, o_brk, o_cnt, o_seq, o_asg, o_own, o_ret, o_retO, o_expr, o_ite, o_loop, o_setI, o_setF, o_app, o_del, kS_ap, kAsg_ap, kOwn_ap, kEx_ap, kIte_ap, kIf_t, kIf_f, kLoop_ap, kPut_s, kSetF_ap, kApp_ap, kDel_ap, Res.bind_ok, Res.of_some, Res.noX_ok, Res.run_ok, Ok_ok, Ok_bind, Ok_noX, Ok_nx, Ok_ret, Ok_brk, Ok_cnt, List.map_cons, List.map_nil, List.length_cons, List.length_nil, List.cons_append, List.nil_append, List.getElem?_cons_zero, List.getElem?_cons_succ, List.set_cons_zero, List.set_cons_succ, TX.bindT, TX.bindL, add_i, sub_i, fdiv_i, mod_i, band_i, add_t, add_s, add_l, lt_i, le_i, gt_i, ge_i, eq_i, ne_i, eq_s, ne_s, is_n, isn_n, is_b, isn_b, is_i, isn_i, is_tt, isn_tt, is_s, isn_s, is_l, isn_l, ix_t, ix_l, ix_c, ix_s, len_t, len_l, len_c, len_s, int_i, int_b, max_i, min_i, ord_s, list_t, list_l, list_c, tuple_t, tuple_l, tuple_c, all_l, tru_n, tru_b, tru_i, tru_s, tru_t, tru_l, at0, at1, at2, at3, at4, at5, at6, mul_r, mul_l, Option.map_some, Option.bind_some, shutR_nil, shutO_nil, ItV.now, wsOk, wipeC, plObj, chks_nil, compC_nil, loopC_nil, and_self, true_and, and_true, List.all_cons, List.all_nil, Bool.and_self, Bool.and_true, Bool.true_and, Bool.not_true, Bool.not_false, if_true, if_false, decide_true, decide_false, sz0, sz1, sz2, sz3, sz4, sz5, sz6, sz7, sz8, sz9, sz10, sz11, sz12, Nat.reduceLT, Nat.reduceAdd, Nat.reduceSub, Int.reduceLT, Int.reduceLE, Int.reduceToNat]
    exact fin _ _ h
theorem fm_bs (bs : List Bk) : ((List.range bs.length).filterMap fun (j : Nat) => some (bD (bs.getD j []))) = bs.map bD := by
  have : (fun j : Nat => some (bD (bs.getD j []))) = some ∘ fun j => bD (bs.getD j []) := rfl
  rw [this, List.filterMap_eq_map]
  refine List.ext_getElem (by simp) fun i h1 h2 => ?_
  have hi : i < bs.length := by simpa using h2
  rw [List.getElem_map, List.getElem_range, List.getElem_map, List.getD_eq_getElem?_getD, List.getElem?_eq_getElem hi]
  rfl
theorem pln_bs (bs : List Bk) : pln (.lst (bs.map bD)) = true := plns_all fun d h => by
  obtain ⟨b, _, rfl⟩ := List.mem_map.mp h
  exact pln_ints b
theorem dpt_bs (bs : List Bk) : dpt (.lst (bs.map bD)) ≤ 64 := by
  have : dpts (bs.map bD) ≤ 1 := dpts_all fun d h => by
    obtain ⟨b, _, rfl⟩ := List.mem_map.mp h
    have : dpts (b.map D.int) ≤ 0 := dpts_all fun d h => by
      obtain ⟨i, _, rfl⟩ := List.mem_map.mp h
      exact Nat.le_refl _
    show dpts (b.map D.int) + 1 ≤ 1
    omega
  show dpts (bs.map bD) + 1 ≤ 64
  omega
def tR : TX.St := tailOf (tailOf tlaw)
theorem tlaw_eq : tlaw = .seq (.asg (.nm 1) (.shr (.lst (.cons (.call (Str.ofString "_law_digits") (.cons (.var 0) (.cons (.cst (.int 0)) (.cons (.cst (.int 63)) .nil)))) (.cons (.cst (.int 0)) .nil))))) (.seq (.asg (.nm 2) (.bin .add (.cst (.int 8)) (.call (Str.ofString "_law_draw") (.cons (.var 1) (.cons (.cst (.int 4)) .nil))))) tR) := rfl
theorem main_ok {n : Nat} {ns xs : List Int} {s c : Nat} (hs : 8 ≤ s) (hs' : s ≤ 400) : (ex (runN T (n + 9)) tR [.val (.scr (ns.map D.int)), .val (.loc 0), .val (.int s), .und, .und, .und, .und, .und, .und, .und, .und, .und, .und, .und, .und, .und, .und, .und] [Box xs c]).Ok (fun _ _ => False) (fun d _ => d = .bl true) (fun _ _ => False) (fun _ _ => False) := by
  have mk := mk_ok (n := n + 7) (S := [Box xs c]) hs hs'
  have rg : -(2 ^ 62) ≤ (s : Int) ∧ (s : Int) ≤ 16777216 := by omega
  have rg40 : -(2 ^ 62) ≤ (40 : Int) ∧ (40 : Int) ≤ 16777216 := by decide
  have t40 : (40 : Int).toNat = 40 := rfl
  have cm : ∀ (q : D) (S : Sto), compL (turnC (TX.runN T (n + 9)) (.nm 15) (.cst (.bl true)) (.rep (.cons (.cst (.int 0)) .nil) (.cst (.int 32))) [15] [.val (.scr (ns.map D.int)), .val (.loc 0), .val (.int s), .val q, .und, .und, .und, .und, .und, .und, .und, .und, .und, .und, .und, .und, .und, .und]) ((List.range s).map fun (j : Nat) => D.int j) S = .ok ((bs0 s).map bD) S := fun q S => comp0 (by show 15 < 18; decide)
  simp only [tR, tailOf, tlaw, mk, rg, rg40, t40, Int.toNat_natCast, cm, Df.start, ev_cst, ev_var, ev_bor, ev_tup, ev_lst, ev_rep, ev_bin, ev_neg, ev_cmp, ev_chn, ev_and, ev_or, ev_not, ev_ite, ev_ix, ev_sl, ev_call, ev_mk, ev_met, ev_fld, ev_shr, ev_bi, ev_join, ev_rev, ev_mth, ev_dnK, ev_dnT, ev_comp, evs_nil, evs_cons, evO_nil, evO_part, evI_rng1, evI_rng2, evI_rng3, evI_zip, evI_enm, evI_its, evI_it, o_skip, o_brk, o_cnt, o_seq, o_asg, o_own, o_ret, o_retO, o_expr, o_ite, o_loop, o_setI, o_setF, o_app, o_del, kS_ap, kAsg_ap, kOwn_ap, kEx_ap, kIte_ap, kIf_t, kIf_f, kLoop_ap, kPut_s, kSetF_ap, kApp_ap, kDel_ap, Res.bind_ok, Res.of_some, Res.noX_ok, Res.run_ok, Ok_ok, Ok_bind, Ok_noX, Ok_nx, Ok_ret, Ok_brk, Ok_cnt, List.map_cons, List.map_nil, List.length_cons, List.length_nil, List.cons_append, List.nil_append, List.getElem?_cons_zero, List.getElem?_cons_succ, List.set_cons_zero, List.set_cons_succ, TX.bindT, TX.bindL, add_i, sub_i, fdiv_i, mod_i, band_i, add_t, add_s, add_l, lt_i, le_i, gt_i, ge_i, eq_i, ne_i, eq_s, ne_s, is_n, isn_n, is_b, isn_b, is_i, isn_i, is_tt, isn_tt, is_s, isn_s, is_l, isn_l, ix_t, ix_l, ix_c, ix_s, len_t, len_l, len_c, len_s, int_i, int_b, max_i, min_i, ord_s, list_t, list_l, list_c, tuple_t, tuple_l, tuple_c, all_l, tru_n, tru_b, tru_i, tru_s, tru_t, tru_l, at0, at1, at2, at3, at4, at5, at6, mul_r, mul_l, Option.map_some, Option.bind_some, shutR_nil, shutO_nil, ItV.now, wsOk, wipeC, plObj, chks_nil, compC_nil, loopC_nil, and_self, true_and, and_true, List.all_cons, List.all_nil, Bool.and_self, Bool.and_true, Bool.true_and, Bool.not_true, Bool.not_false, if_true, if_false, decide_true, decide_false, sz0, sz1, sz2, sz3, sz4, sz5, sz6, sz7, sz8, sz9, sz10, sz11, sz12, Nat.reduceLT, Nat.reduceAdd, Nat.reduceSub, Int.reduceLT, Int.reduceLE, Int.reduceToNat]
  refine loop_ok (i := 0) (In ns xs s) ?_ ?_ ?_
  · exact ⟨.und, .und, .und, .und, .und, .und, .und, .und, .und, c, 3, 4, 6, 0, 0 - 1, bs0 s, [], [], rfl, ⟨rfl, rfl, rfl, rfl, rfl, rfl, by decide, by decide, bs0_sz s, bs0_len s, fun e he => (nomatch he), by decide, rfl, by decide, fun h => absurd h (by decide)⟩, Nat.le_refl _, .inl rfl, .inl rfl⟩
  · rintro j x ρ S hx hI
    obtain ⟨hj, rfl⟩ := mem_range_ints hx
    rw [Nat.zero_add] at hI ⊢
    exact turn2 (n := n + 3) hs (by omega) hI
  · rintro ρ S ⟨c9, c10, c11, c12, c13, c14, c15, c16, c17, c, p, t, q', k, m, bs, pd, ts, rfl, w, hl, h12, h15⟩
    have okl : ∀ e ∈ pd, e.1 < bs.length ∧ e.2.length = 32 := fun e he => ⟨(w.ok e he).1, isB_len (w.ok e he).2⟩
    have pw : ∀ {P : D → Sto → Prop}, _ → (TX.runN T (n + 9) (.me "Disk" "cut_power") [.loc 1, .lst []] S).Ok P := power_ok (n + 7) w.i w.b w.d ⟨w.np.2.1, w.np.2.2.1⟩ okl w.sz
    simp only [m_power w.i, Df.start, ev_cst, ev_var, ev_bor, ev_tup, ev_lst, ev_rep, ev_bin, ev_neg, ev_cmp, ev_chn, ev_and, ev_or, ev_not, ev_ite, ev_ix, ev_sl, ev_call, ev_mk, ev_met, ev_fld, ev_shr, ev_bi, ev_join, ev_rev, ev_mth, ev_dnK, ev_dnT, ev_comp, evs_nil, evs_cons, evO_nil, evO_part, evI_rng1, evI_rng2, evI_rng3, evI_zip, evI_enm, evI_its, evI_it, o_skip, o_brk, o_cnt, o_seq, o_asg, o_own, o_ret, o_retO, o_expr, o_ite, o_loop, o_setI, o_setF, o_app, o_del, kS_ap, kAsg_ap, kOwn_ap, kEx_ap, kIte_ap, kIf_t, kIf_f, kLoop_ap, kPut_s, kSetF_ap, kApp_ap, kDel_ap, Res.bind_ok, Res.of_some, Res.noX_ok, Res.run_ok, Ok_ok, Ok_bind, Ok_noX, Ok_nx, Ok_ret, Ok_brk, Ok_cnt, List.map_cons, List.map_nil, List.length_cons, List.length_nil, List.cons_append, List.nil_append, List.getElem?_cons_zero, List.getElem?_cons_succ, List.set_cons_zero, List.set_cons_succ, TX.bindT, TX.bindL, add_i, sub_i, fdiv_i, mod_i, band_i, add_t, add_s, add_l, lt_i, le_i, gt_i, ge_i, eq_i, ne_i, eq_s, ne_s, is_n, isn_n, is_b, isn_b, is_i, isn_i, is_tt, isn_tt, is_s, isn_s, is_l, isn_l, ix_t, ix_l, ix_c, ix_s, len_t, len_l, len_c, len_s, int_i, int_b, max_i, min_i, ord_s, list_t, list_l, list_c, tuple_t, tuple_l, tuple_c, all_l, tru_n, tru_b, tru_i, tru_s, tru_t, tru_l, at0, at1, at2, at3, at4, at5, at6, mul_r, mul_l, Option.map_some, Option.bind_some, shutR_nil, shutO_nil, ItV.now, wsOk, wipeC, plObj, chks_nil, compC_nil, loopC_nil, and_self, true_and, and_true, List.all_cons, List.all_nil, Bool.and_self, Bool.and_true, Bool.true_and, Bool.not_true, Bool.not_false, if_true, if_false, decide_true, decide_false, sz0, sz1, sz2, sz3, sz4, sz5, sz6, sz7, sz8, sz9, sz10, sz11, sz12, Nat.reduceLT, Nat.reduceAdd, Nat.reduceSub, Int.reduceLT, Int.reduceLE, Int.reduceToNat]
    refine pw fun S' p' t' f hp' h1 h2 h3 => ?_
    have hu := f.get (by decide) w.u
    have lb := w.len
    have re : ∀ j : Nat, j < s → TX.runN T (n + 9) (.me "Disk" "read") [.loc 1, .int j] S' = .ok (bD (bs.getD j [])) S' := fun j hj => read_eq (n + 7) h1 h2 h3 (by omega)
    have ee : cmpOp .eq S' (.lst (bs.map bD)) (.loc 5) = some true := by
      rw [eq_see (pln_see (pln_bs bs)) (see_loc hu) (pln_bs _) (pln_bs _) (dpt_bs _) (dpt_bs _), decide_eq_true rfl]
    have eb : ((List.range s).filterMap fun (j : Nat) => some (bD (bs.getD j []))) = bs.map bD := by
      rw [← lb]
      exact fm_bs bs
    rcases h12 with rfl | ⟨v12, rfl⟩ <;> simp only [rg, Int.toNat_natCast, Df.start, ev_cst, ev_var, ev_bor, ev_tup, ev_lst, ev_rep, ev_bin, ev_neg, ev_cmp, ev_chn, ev_and, ev_or, ev_not, ev_ite, ev_ix, ev_sl, ev_call, ev_mk, ev_met, ev_fld, ev_shr, ev_bi, ev_join, ev_rev, ev_mth, ev_dnK, ev_dnT, ev_comp, evs_nil, evs_cons, evO_nil, evO_part, evI_rng1, evI_rng2, evI_rng3, evI_zip, evI_enm, evI_its, evI_it, o_skip, o_brk, o_cnt, o_seq, o_asg, o_own, o_ret, o_retO, o_expr, o_ite, o_loop, o_setI, o_setF, o_app, o_del, kS_ap, kAsg_ap, kOwn_ap, kEx_ap, kIte_ap, kIf_t, kIf_f, kLoop_ap, kPut_s, kSetF_ap, kApp_ap, kDel_ap, Res.bind_ok, Res.of_some, Res.noX_ok, Res.run_ok, Ok_ok, Ok_bind, Ok_noX, Ok_nx, Ok_ret, Ok_brk, Ok_cnt, List.map_cons, List.map_nil, List.length_cons, List.length_nil, List.cons_append, List.nil_append, List.getElem?_cons_zero, List.getElem?_cons_succ, List.set_cons_zero, List.set_cons_succ, TX.bindT, TX.bindL, add_i, sub_i, fdiv_i, mod_i, band_i, add_t, add_s, add_l, lt_i, le_i, gt_i, ge_i, eq_i, ne_i, eq_s, ne_s, is_n, isn_n, is_b, isn_b, is_i, isn_i, is_tt, isn_tt, is_s, isn_s, is_l, isn_l, ix_t, ix_l, ix_c, ix_s, len_t, len_l, len_c, len_s, int_i, int_b, max_i, min_i, ord_s, list_t, list_l, list_c, tuple_t, tuple_l, tuple_c, all_l, tru_n, tru_b, tru_i, tru_s, tru_t, tru_l, at0, at1, at2, at3, at4, at5, at6, mul_r, mul_l, Option.map_some, Option.bind_some, shutR_nil, shutO_nil, ItV.now, wsOk, wipeC, plObj, chks_nil, compC_nil, loopC_nil, and_self, true_and, and_true, List.all_cons, List.all_nil, Bool.and_self, Bool.and_true, Bool.true_and, Bool.not_true, Bool.not_false, if_true, if_false, decide_true, decide_false, sz0, sz1, sz2, sz3, sz4, sz5, sz6, sz7, sz8, sz9, sz10, sz11, sz12, Nat.reduceLT, Nat.reduceAdd, Nat.reduceSub, Int.reduceLT, Int.reduceLE, Int.reduceToNat]
    all_goals
      rw [comp_list (h := fun (j : Nat) => some (bD (bs.getD j []))) fun j hj => ?_]
      · simp only [eb, ee, Df.start, ev_cst, ev_var, ev_bor, ev_tup, ev_lst, ev_rep, ev_bin, ev_neg, ev_cmp, ev_chn, ev_and, ev_or, ev_not, ev_ite, ev_ix, ev_sl, ev_call, ev_mk, ev_met, ev_fld, ev_shr, ev_bi, ev_join, ev_rev, ev_mth, ev_dnK, ev_dnT, ev_comp, evs_nil, evs_cons, evO_nil, evO_part, evI_rng1, evI_rng2, evI_rng3, evI_zip, evI_enm, evI_its, evI_it, o_skip, o_brk, o_cnt, o_seq, o_asg, o_own, o_ret, o_retO, o_expr, o_ite, o_loop, o_setI, o_setF, o_app, o_del, kS_ap, kAsg_ap, kOwn_ap, kEx_ap, kIte_ap, kIf_t, kIf_f, kLoop_ap, kPut_s, kSetF_ap, kApp_ap, kDel_ap, Res.bind_ok, Res.of_some, Res.noX_ok, Res.run_ok, Ok_ok, Ok_bind, Ok_noX, Ok_nx, Ok_ret, Ok_brk, Ok_cnt, List.map_cons, List.map_nil, List.length_cons, List.length_nil, List.cons_append, List.nil_append, List.getElem?_cons_zero, List.getElem?_cons_succ, List.set_cons_zero, List.set_cons_succ, TX.bindT, TX.bindL, add_i, sub_i, fdiv_i, mod_i, band_i, add_t, add_s, add_l, lt_i, le_i, gt_i, ge_i, eq_i, ne_i, eq_s, ne_s, is_n, isn_n, is_b, isn_b, is_i, isn_i, is_tt, isn_tt, is_s, isn_s, is_l, isn_l, ix_t, ix_l, ix_c, ix_s, len_t, len_l, len_c, len_s, int_i, int_b, max_i, min_i, ord_s, list_t, list_l, list_c, tuple_t, tuple_l, tuple_c, all_l, tru_n, tru_b, tru_i, tru_s, tru_t, tru_l, at0, at1, at2, at3, at4, at5, at6, mul_r, mul_l, Option.map_some, Option.bind_some, shutR_nil, shutO_nil, ItV.now, wsOk, wipeC, plObj, chks_nil, compC_nil, loopC_nil, and_self, true_and, and_true, List.all_cons, List.all_nil, Bool.and_self, Bool.and_true, Bool.true_and, Bool.not_true, Bool.not_false, if_true, if_false, decide_true, decide_false, sz0, sz1, sz2, sz3, sz4, sz5, sz6, sz7, sz8, sz9, sz10, sz11, sz12, Nat.reduceLT, Nat.reduceAdd, Nat.reduceSub, Int.reduceLT, Int.reduceLE, Int.reduceToNat]
      · simp only [turnC, m_read h1, re j (List.mem_range.mp hj), Df.start, ev_cst, ev_var, ev_bor, ev_tup, ev_lst, ev_rep, ev_bin, ev_neg, ev_cmp, ev_chn, ev_and, ev_or, ev_not, ev_ite, ev_ix, ev_sl, ev_call, ev_mk, ev_met, ev_fld, ev_shr, ev_bi, ev_join, ev_rev, ev_mth, ev_dnK, ev_dnT, ev_comp, evs_nil, evs_cons, evO_nil, evO_part, evI_rng1, evI_rng2, evI_rng3, evI_zip, evI_enm, evI_its, evI_it, o_skip, o_brk, o_cnt, o_seq, o_asg, o_own, o_ret, o_retO, o_expr, o_ite, o_loop, o_setI, o_setF, o_app, o_del, kS_ap, kAsg_ap, kOwn_ap, kEx_ap, kIte_ap, kIf_t, kIf_f, kLoop_ap, kPut_s, kSetF_ap, kApp_ap, kDel_ap, Res.bind_ok, Res.of_some, Res.noX_ok, Res.run_ok, Ok_ok, Ok_bind, Ok_noX, Ok_nx, Ok_ret, Ok_brk, Ok_cnt, List.map_cons, List.map_nil, List.length_cons, List.length_nil, List.cons_append, List.nil_append, List.getElem?_cons_zero, List.getElem?_cons_succ, List.set_cons_zero, List.set_cons_succ, TX.bindT, TX.bindL, add_i, sub_i, fdiv_i, mod_i, band_i, add_t, add_s, add_l, lt_i, le_i, gt_i, ge_i, eq_i, ne_i, eq_s, ne_s, is_n, isn_n, is_b, isn_b, is_i, isn_i, is_tt, isn_tt, is_s, isn_s, is_l, isn_l, ix_t, ix_l, ix_c, ix_s, len_t, len_l, len_c, len_s, int_i, int_b, max_i, min_i, ord_s, list_t, list_l, list_c, tuple_t, tuple_l, tuple_c, all_l, tru_n, tru_b, tru_i, tru_s, tru_t, tru_l, at0, at1, at2, at3, at4, at5, at6, mul_r, mul_l, Option.map_some, Option.bind_some, shutR_nil, shutO_nil, ItV.now, wsOk, wipeC, plObj, chks_nil, compC_nil, loopC_nil, and_self, true_and, and_true, List.all_cons, List.all_nil, Bool.and_self, Bool.and_true, Bool.true_and, Bool.not_true, Bool.not_false, if_true, if_false, decide_true, decide_false, sz0, sz1, sz2, sz3, sz4, sz5, sz6, sz7, sz8, sz9, sz10, sz11, sz12, Nat.reduceLT, Nat.reduceAdd, Nat.reduceSub, Int.reduceLT, Int.reduceLE, Int.reduceToNat]
theorem law_ok (n : Nat) (ns : List Int) (hns : ns.length ≤ 63) : (runN T (n + 10) (.fn "law") [.scr (ns.map D.int)] []).Ok fun d _ => d = .bl true := by
  refine call_ok flaw rfl ?_
  show (ex (TX.runN T (n + 9)) tlaw [.val (.scr (ns.map D.int)), .und, .und, .und, .und, .und, .und, .und, .und, .und, .und, .und, .und, .und, .und, .und, .und, .und] []).Ok _ _ _ _
  rw [tlaw_eq]
  simp only [Df.start, ev_cst, ev_var, ev_bor, ev_tup, ev_lst, ev_rep, ev_bin, ev_neg, ev_cmp, ev_chn, ev_and, ev_or, ev_not, ev_ite, ev_ix, ev_sl, ev_call, ev_mk, ev_met, ev_fld, ev_shr, ev_bi, ev_join, ev_rev, ev_mth, ev_dnK, ev_dnT, ev_comp, evs_nil, evs_cons, evO_nil, evO_part, evI_rng1, evI_rng2, evI_rng3, evI_zip, evI_enm, evI_its, evI_it, o_skip, o_brk, o_cnt, o_seq, o_asg, o_own, o_ret, o_retO, o_expr, o_ite, o_loop, o_setI, o_setF, o_app, o_del, kS_ap, kAsg_ap, kOwn_ap, kEx_ap, kIte_ap, kIf_t, kIf_f, kLoop_ap, kPut_s, kSetF_ap, kApp_ap, kDel_ap, Res.bind_ok, Res.of_some, Res.noX_ok, Res.run_ok, Ok_ok, Ok_bind, Ok_noX, Ok_nx, Ok_ret, Ok_brk, Ok_cnt, List.map_cons, List.map_nil, List.length_cons, List.length_nil, List.cons_append, List.nil_append, List.getElem?_cons_zero, List.getElem?_cons_succ, List.set_cons_zero, List.set_cons_succ, TX.bindT, TX.bindL, add_i, sub_i, fdiv_i, mod_i, band_i, add_t, add_s, add_l, lt_i, le_i, gt_i, ge_i, eq_i, ne_i, eq_s, ne_s, is_n, isn_n, is_b, isn_b, is_i, isn_i, is_tt, isn_tt, is_s, isn_s, is_l, isn_l, ix_t, ix_l, ix_c, ix_s, len_t, len_l, len_c, len_s, int_i, int_b, max_i, min_i, ord_s, list_t, list_l, list_c, tuple_t, tuple_l, tuple_c, all_l, tru_n, tru_b, tru_i, tru_s, tru_t, tru_l, at0, at1, at2, at3, at4, at5, at6, mul_r, mul_l, Option.map_some, Option.bind_some, shutR_nil, shutO_nil, ItV.now, wsOk, wipeC, plObj, chks_nil, compC_nil, loopC_nil, and_self, true_and, and_true, List.all_cons, List.all_nil, Bool.and_self, Bool.and_true, Bool.true_and, Bool.not_true, Bool.not_false, if_true, if_false, decide_true, decide_false, sz0, sz1, sz2, sz3, sz4, sz5, sz6, sz7, sz8, sz9, sz10, sz11, sz12, Nat.reduceLT, Nat.reduceAdd, Nat.reduceSub, Int.reduceLT, Int.reduceLE, Int.reduceToNat]
  refine digits_ok (n := n + 7) f_law_digits f_law_cell (m := 63) (by decide) fun xs _ => ?_
  simp only [Df.start, ev_cst, ev_var, ev_bor, ev_tup, ev_lst, ev_rep, ev_bin, ev_neg, ev_cmp, ev_chn, ev_and, ev_or, ev_not, ev_ite, ev_ix, ev_sl, ev_call, ev_mk, ev_met, ev_fld, ev_shr, ev_bi, ev_join, ev_rev, ev_mth, ev_dnK, ev_dnT, ev_comp, evs_nil, evs_cons, evO_nil, evO_part, evI_rng1, evI_rng2, evI_rng3, evI_zip, evI_enm, evI_its, evI_it, o_skip, o_brk, o_cnt, o_seq, o_asg, o_own, o_ret, o_retO, o_expr, o_ite, o_loop, o_setI, o_setF, o_app, o_del, kS_ap, kAsg_ap, kOwn_ap, kEx_ap, kIte_ap, kIf_t, kIf_f, kLoop_ap, kPut_s, kSetF_ap, kApp_ap, kDel_ap, Res.bind_ok, Res.of_some, Res.noX_ok, Res.run_ok, Ok_ok, Ok_bind, Ok_noX, Ok_nx, Ok_ret, Ok_brk, Ok_cnt, List.map_cons, List.map_nil, List.length_cons, List.length_nil, List.cons_append, List.nil_append, List.getElem?_cons_zero, List.getElem?_cons_succ, List.set_cons_zero, List.set_cons_succ, TX.bindT, TX.bindL, add_i, sub_i, fdiv_i, mod_i, band_i, add_t, add_s, add_l, lt_i, le_i, gt_i, ge_i, eq_i, ne_i, eq_s, ne_s, is_n, isn_n, is_b, isn_b, is_i, isn_i, is_tt, isn_tt, is_s, isn_s, is_l, isn_l, ix_t, ix_l, ix_c, ix_s, len_t, len_l, len_c, len_s, int_i, int_b, max_i, min_i, ord_s, list_t, list_l, list_c, tuple_t, tuple_l, tuple_c, all_l, tru_n, tru_b, tru_i, tru_s, tru_t, tru_l, at0, at1, at2, at3, at4, at5, at6, mul_r, mul_l, Option.map_some, Option.bind_some, shutR_nil, shutO_nil, ItV.now, wsOk, wipeC, plObj, chks_nil, compC_nil, loopC_nil, and_self, true_and, and_true, List.all_cons, List.all_nil, Bool.and_self, Bool.and_true, Bool.true_and, Bool.not_true, Bool.not_false, if_true, if_false, decide_true, decide_false, sz0, sz1, sz2, sz3, sz4, sz5, sz6, sz7, sz8, sz9, sz10, sz11, sz12, Nat.reduceLT, Nat.reduceAdd, Nat.reduceSub, Int.reduceLT, Int.reduceLE, Int.reduceToNat]
  refine draw0 f_law_draw (by decide) fun r c1 h1 => ?_
  have es : (8 : Int) + (r : Int) = ((8 + r : Nat) : Int) := by omega
  simp only [es, Df.start, ev_cst, ev_var, ev_bor, ev_tup, ev_lst, ev_rep, ev_bin, ev_neg, ev_cmp, ev_chn, ev_and, ev_or, ev_not, ev_ite, ev_ix, ev_sl, ev_call, ev_mk, ev_met, ev_fld, ev_shr, ev_bi, ev_join, ev_rev, ev_mth, ev_dnK, ev_dnT, ev_comp, evs_nil, evs_cons, evO_nil, evO_part, evI_rng1, evI_rng2, evI_rng3, evI_zip, evI_enm, evI_its, evI_it, o_skip, o_brk, o_cnt, o_seq, o_asg, o_own, o_ret, o_retO, o_expr, o_ite, o_loop, o_setI, o_setF, o_app, o_del, kS_ap, kAsg_ap, kOwn_ap, kEx_ap, kIte_ap, kIf_t, kIf_f, kLoop_ap, kPut_s, kSetF_ap, kApp_ap, kDel_ap, Res.bind_ok, Res.of_some, Res.noX_ok, Res.run_ok, Ok_ok, Ok_bind, Ok_noX, Ok_nx, Ok_ret, Ok_brk, Ok_cnt, List.map_cons, List.map_nil, List.length_cons, List.length_nil, List.cons_append, List.nil_append, List.getElem?_cons_zero, List.getElem?_cons_succ, List.set_cons_zero, List.set_cons_succ, TX.bindT, TX.bindL, add_i, sub_i, fdiv_i, mod_i, band_i, add_t, add_s, add_l, lt_i, le_i, gt_i, ge_i, eq_i, ne_i, eq_s, ne_s, is_n, isn_n, is_b, isn_b, is_i, isn_i, is_tt, isn_tt, is_s, isn_s, is_l, isn_l, ix_t, ix_l, ix_c, ix_s, len_t, len_l, len_c, len_s, int_i, int_b, max_i, min_i, ord_s, list_t, list_l, list_c, tuple_t, tuple_l, tuple_c, all_l, tru_n, tru_b, tru_i, tru_s, tru_t, tru_l, at0, at1, at2, at3, at4, at5, at6, mul_r, mul_l, Option.map_some, Option.bind_some, shutR_nil, shutO_nil, ItV.now, wsOk, wipeC, plObj, chks_nil, compC_nil, loopC_nil, and_self, true_and, and_true, List.all_cons, List.all_nil, Bool.and_self, Bool.and_true, Bool.true_and, Bool.not_true, Bool.not_false, if_true, if_false, decide_true, decide_false, sz0, sz1, sz2, sz3, sz4, sz5, sz6, sz7, sz8, sz9, sz10, sz11, sz12, Nat.reduceLT, Nat.reduceAdd, Nat.reduceSub, Int.reduceLT, Int.reduceLE, Int.reduceToNat]
  exact (main_ok (s := 8 + r) (by omega) (by omega)).imp (fun _ _ h => h.elim) (fun _ _ h => h) (fun _ _ h => h) (fun _ _ h => h)
theorem law_says (ns : List Int) (h : ns.length ≤ 63) : ∃ S, runN T 20 (.fn "law") [.scr (ns.map D.int)] [] = .ok (.bl true) S := by
  obtain ⟨d, S, e, rfl⟩ := (law_ok 10 ns h).eq
  exact ⟨S, e⟩
end K42


set_option maxRecDepth 100000
set_option maxHeartbeats 0
namespace K42
open TX PySem PySem.Spec PyProof.Rows L2 He
abbrev R : PySem.W.OpenRow := PySem.W.OpenLaw.row PySem.Challenge.rw_textatrest_k42_cut_on_schedule
abbrev hk : PySem.W.Hook := He.hookX 5 fa fn [] [] (xcAll g)
def ob (s : PySem.W.SharedT) : He.AlX := He.obsX 5 fa fn [] [] (xcAll g) (HandSHeadRun.getT s)
theorem ob_eq (s : PySem.W.SharedT) : ob s = hk.obs s.abs := He.obsX_eq (HandSHeadRun.getT_eq s)
theorem run (w : World) : HandSHeadRun.RunEq R (PySem.W.view R.prog [21]) hk ob 2000 ["_wall", "RestError", "OutOfRange", "PowerCut", "BLOCK", "BLOCKS_LEAST", "BLOCKS_MOST", "COUNT_MOST", "_is_block", "_check_torn", "Disk", "_law_cell", "_law_digits", "_law_draw", "_law_torn", "_law_schedule", "_law_do_raw", "_law_do"] w := by
  intro os
  kernel_rfl
theorem law_says2 (ns : List Int) (h : ns.length ≤ 63) : ∃ S, runN (tabOf ds) 20 (.fn "law") [.scr (ns.map D.int)] [] = .ok (.bl true) S := by
  rw [← T_eq]
  exact law_says ns h
end K42
open PySem PySem.W PySem.Calls PyProof.Rows
theorem PySem.Challenge.cw_textatrest_k42_cut_on_schedule_holds : PySem.Challenge.rw_textatrest_k42_cut_on_schedule.Holds := by
  w_on; o_law
  refine HandSHeadRun.head_any (r := OpenLaw.row PySem.Challenge.rw_textatrest_k42_cut_on_schedule) (q := view (OpenLaw.row PySem.Challenge.rw_textatrest_k42_cut_on_schedule).prog [21]) (H := K42.hk) (ob := K42.ob) (M := 2000) (loose := ["_wall", "RestError", "OutOfRange", "PowerCut", "BLOCK", "BLOCKS_LEAST", "BLOCKS_MOST", "COUNT_MOST", "_is_block", "_check_torn", "Disk", "_law_cell", "_law_digits", "_law_draw", "_law_torn", "_law_schedule", "_law_do_raw", "_law_do"]) (d := HandSHeadRun.topDef (OpenLaw.row PySem.Challenge.rw_textatrest_k42_cut_on_schedule).prog 21) (kwd := []) K42.ob_eq
    (by kernel_rfl) (fun s => by kernel_rfl) K42.run (by kernel_rfl) (by kernel_rfl) (by kernel_rfl) (by rfl) (by first | assumption | decide +kernel) (by decide +kernel) ⟨rfl, rfl, rfl, rfl, rfl, by decide +kernel⟩ ?hw ?hc
  case hw => w_witness2
  case hc =>
    refine TX.walk_G (l := PySem.Challenge.rw_textatrest_k42_cut_on_schedule) (n := 63) (k := 20) (x := "_law_script") (Ω := TX.runN (TX.tabOf K42.ds) 20) (key := .fn "law") rfl (by decide) (by kernel_rfl) ⟨rfl, by decide, by decide⟩ ?F K42.law_says2
    intro w mg fa h Y G hmg0
    obtain ⟨K, KX, c⟩ := Y
    have hmg : mg ("law" : PySem.Str) = some (.ref fa) := by
      have e : (HandSHeadRun.topDef (OpenLaw.row PySem.Challenge.rw_textatrest_k42_cut_on_schedule).prog 21).name = ("law" : PySem.Str) := by kernel_rfl
      rw [← e]
      exact hmg0
    obtain ⟨fd, hb, hF⟩ := TX.law_F (P := (PySem.Challenge.rw_textatrest_k42_cut_on_schedule).prog) (w := w) K42.tab KX G c.t.d c.more (x := "law") (by kernel_rfl) hmg (by decide +kernel) 20
    exact ⟨K, fd, KX, hb, hF⟩

