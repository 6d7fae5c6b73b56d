import PyProof.Rows.All
import Wide.All
import OpenK.AllK
import Wide.FinOn
import HandS.ForMost
import HandS.Flow
import HandS.Wide
import HandS.WideBits
import HandS.IsInst
import HandS.TupAny
import HandS.Defaults
import HandS.Iter
import HandS.HeadHook1
import HandS.Deep
import HandS.Style
import HandS.NoneIn
import KE.KDictPairs
import HandS.SetFor
import HandS.Strs
import HandS.Ends
import HandS.More
import HandS.Words
import HandS.WordsExc
import HandS.Head0
import HandS.Head1
import HandS.Head2
import HandS.HeadEnd
import HandS.HeadHook2
import PySem.Challenge.RW_roundedwithin_k12_straight_forms
set_option Elab.async false
set_option linter.all false
set_option maxRecDepth 100000
set_option maxHeartbeats 0
set_option exponentiation.threshold 300
/-! M1: the small language: values, store, what an expression and a statement do -/
namespace Rw
open PySem L2

/-! ### values -/
inductive D where
  | non | bl (b : Bool) | int (i : Int) | str (s : Str)
  | tup (xs : List D) | lst (xs : List D) | flst (xs : List D) | ref (r : Nat) | ty (n : String)
inductive Cell where
  | lst (xs : List D)
  | dk (kvs : List (Key × D))
  | ob (g : Nat) (c : Str) (fs : List (Str × D))
abbrev Sto := List Cell
abbrev Env := List (Option D)
abbrev Rs (α : Type) := Option (α × Sto)

mutual
/-- all its references are below n -/
def below (n : Nat) : D → Bool
  | .tup xs => belows n xs
  | .lst xs => belows n xs
  | .flst xs => belows n xs
  | .ref r => decide (r < n)
  | _ => true
def belows (n : Nat) : List D → Bool
  | [] => true
  | x :: xs => below n x && belows n xs
end

/-! ### operations on values -/
def b2i (b : Bool) : Int := if b then 1 else 0
def mulOk (a b : Int) : Prop := a.natAbs.log2 + b.natAbs.log2 < 1000000
instance (a b : Int) : Decidable (mulOk a b) := inferInstanceAs (Decidable (_ < _))
def divOk (b : Int) : Prop := b ≠ 0 ∧ b.natAbs.log2 < 9000
instance (b : Int) : Decidable (divOk b) := inferInstanceAs (Decidable (_ ∧ _))
def shlOk (a b : Int) : Prop := 0 ≤ b ∧ (Builtin.Int.intBits a : Int) + b ≤ 2 ^ 27
instance (a b : Int) : Decidable (shlOk a b) := inferInstanceAs (Decidable (_ ∧ _))
def powOk (a b : Int) : Prop := 0 ≤ b ∧ b ≤ 1000000 ∧ a.natAbs < 2 ^ 64
instance (a b : Int) : Decidable (powOk a b) := inferInstanceAs (Decidable (_ ∧ _))
/-- a list so many times -/
def repOk (n : Nat) (k : Int) : Prop := -(2 ^ 63) ≤ k ∧ k < 2 ^ 63 ∧ n * k.toNat ≤ sizeLine
instance (n : Nat) (k : Int) : Decidable (repOk n k) := inferInstanceAs (Decidable (_ ∧ _ ∧ _))

def binD (op : Operator) (d e : D) : Option D :=
  match op, d, e with
  | .Add, .int a, .int b => some (.int (a + b))
  | .Add, .str a, .str b => if a.length + b.length ≤ sizeLine then some (.str (a ++ b)) else none
  | .Add, .tup xs, .tup ys => if xs.length + ys.length ≤ sizeLine then some (.tup (xs ++ ys)) else none
  | .Add, .lst xs, .lst ys => if xs.length + ys.length ≤ sizeLine then some (.lst (xs ++ ys)) else none
  | .Sub, .int a, .int b => some (.int (a - b))
  | .Sub, .bl a, .bl b => some (.int (b2i a - b2i b))
  | .Mult, .int a, .int b => if mulOk a b then some (.int (a * b)) else none
  | .FloorDiv, .int a, .int b => if divOk b then some (.int (a.fdiv b)) else none
  | .Mod, .int a, .int b => if b ≠ 0 then some (.int (a.fmod b)) else none
  | .Pow, .int a, .int b => if powOk a b then some (.int (a ^ b.toNat)) else none
  | .LShift, .int a, .int b => if shlOk a b then some (.int (a * 2 ^ b.toNat)) else none
  | .RShift, .int a, .int b => if 0 ≤ b then some (.int (a / 2 ^ b.toNat)) else none
  | .BitAnd, .int a, .int b => some (.int (Builtin.bitAnd a b))
  | .BitXor, .int a, .int b => some (.int (Builtin.bitXor a b))
  | .Mult, .lst xs, .int k => if repOk xs.length k then some (.lst (List.replicate k.toNat xs).flatten) else none
  | _, _, _ => none

mutual
/-- as data, references read in the store -/
def pd (S : Sto) : D → Option PyData
  | .non => some .none
  | .bl b => some (.bool b)
  | .int i => some (.int i)
  | .str s => some (.str s)
  | .tup xs => (pds S xs).map .tuple
  | .lst xs => (pds S xs).map .list
  | .flst xs => (pds S xs).map .list
  | .ref r => none
  | .ty _ => none
def pds (S : Sto) : List D → Option (List PyData)
  | [] => some []
  | x :: xs => match pd S x, pds S xs with
    | some y, some ys => some (y :: ys)
    | _, _ => none
end
/-- the list behind a value -/
def lstOf (S : Sto) : D → Option (List D)
  | .lst xs => some xs
  | .flst xs => some xs
  | .ref r => match S[r]? with
    | some (.lst xs) => some xs
    | _ => none
  | _ => none
/-- as data, a list at the outermost may be of the store -/
def pdT (S : Sto) (d : D) : Option PyData := match d with
  | .ref r => match S[r]? with
    | some (.lst xs) => (pds S xs).map .list
    | _ => none
  | _ => pd S d
def eqD (S : Sto) (d e : D) : Option Bool := match d, e with
  | .int a, .int b => some (decide (a = b))
  | .bl a, .bl b => some (decide (a = b))
  | .str a, .str b => some (decide (a = b))
  | .non, .non => some true
  | .non, .int _ => some false
  | .int _, .non => some false
  | .non, .bl _ => some false
  | .bl _, .non => some false
  | .non, .str _ => some false
  | .str _, .non => some false
  | _, _ => match pdT S d, pdT S e with
    | some p, some q => if SeqAt.shaped p = true ∧ SeqAt.shaped q = true then some (PyData.eqv p q) else none
    | _, _ => none
def isNone : D → Bool
  | .non => true
  | _ => false
/-- among the items -/
def inD (S : Sto) (d e : D) : Option Bool := match pdT S d, pdT S e with
  | some p, some (.tuple qs) => if SeqAt.shaped p = true ∧ SeqAt.shaped (.tuple qs) = true then some (qs.any fun z => PyData.eqv z p) else none
  | some p, some (.list qs) => if SeqAt.shaped p = true ∧ SeqAt.shaped (.list qs) = true then some (qs.any fun z => PyData.eqv z p) else none
  | _, _ => none
def cmpD (S : Sto) (op : CmpOp) (d e : D) : Option Bool := match op with
  | .Eq => eqD S d e
  | .NotEq => (eqD S d e).map (!·)
  | .Lt => match d, e with
    | .int a, .int b => some (decide (a < b))
    | _, _ => none
  | .LtE => match d, e with
    | .int a, .int b => some (decide (a ≤ b))
    | _, _ => none
  | .Gt => match d, e with
    | .int a, .int b => some (decide (b < a))
    | _, _ => none
  | .GtE => match d, e with
    | .int a, .int b => some (decide (b ≤ a))
    | _, _ => none
  | .Is => match e with
    | .non => some (isNone d)
    | .bl b => match d with
      | .bl a => some (decide (a = b))
      | _ => none
    | _ => none
  | .IsNot => match e with
    | .non => some (!isNone d)
    | .bl b => match d with
      | .bl a => some (!decide (a = b))
      | _ => none
    | _ => none
  | .In => inD S d e
  | .NotIn => (inD S d e).map (!·)
def truD (S : Sto) : D → Option Bool
  | .non => some false
  | .bl b => some b
  | .int i => some (i != 0)
  | .str s => if s.length ≤ sizeLine then some ((s.length : Int) != 0) else none
  | .tup xs => some (!xs.isEmpty)
  | .lst xs => some (!xs.isEmpty)
  | .flst xs => some (!xs.isEmpty)
  | .ref r => match S[r]? with
    | some (.lst xs) => some (!xs.isEmpty)
    | some (.dk kvs) => some (!kvs.isEmpty)
    | _ => none
  | .ty _ => none
def keyD : D → Option Key
  | .int i => some (.inl i)
  | .str s => some (.inr s)
  | _ => none
def lookK (kvs : List (Key × D)) (k : Key) : Option D := (kvs.find? fun kv => decide (kv.1 = k)).map (·.2)
def storeK (kvs : List (Key × D)) (k : Key) (v : D) : List (Key × D) :=
  if kvs.any (fun kv => decide (kv.1 = k)) then kvs.map (fun kv => if kv.1 = k then (kv.1, v) else kv) else kvs ++ [(k, v)]
def idxD (S : Sto) (d i : D) : Option D := match d, i with
  | .tup xs, .int k => atI xs k
  | .lst xs, .int k => atI xs k
  | .flst xs, .int k => atI xs k
  | .str s, .int k => if s.length ≤ sizeLine then (atI s.cps.toList k).map fun c => .str ⟨#[c]⟩ else none
  | .ref r, k => match S[r]? with
    | some (.lst xs) => match k with
      | .int j => atI xs j
      | _ => none
    | some (.dk kvs) => (keyD k).bind fun q => lookK kvs q
    | _ => none
  | _, _ => none
/-- xs[lo:hi] -/
def cutD {α : Type} (xs : List α) (lo hi : Option Int) : List α := (xs.drop (HT.sIx xs.length 0 lo)).take (HT.sIx xs.length xs.length hi - HT.sIx xs.length 0 lo)
def slD (S : Sto) (d : D) (lo hi : Option Int) : Option D := match d with
  | .tup xs => some (.tup (cutD xs lo hi))
  | .str s => if s.length ≤ sizeLine then some (.str (cutS s lo hi)) else none
  | d => (lstOf S d).map fun xs => .lst (cutD xs lo hi)

/-- xs[:hi:-1] -/
def slRL (S : Sto) (d : D) (hi : Option Int) : Option D := (lstOf S d).bind fun xs => match hi with
  | none => some (.lst xs.reverse)
  | some i => if 0 ≤ i then some (.lst (xs.drop (i.toNat + 1)).reverse) else none
def slRD (S : Sto) (d : D) (hi : Option Int) : Option D := match d with
  | .tup xs => match hi with
    | none => some (.tup xs.reverse)
    | some _ => none
  | d => slRL S d hi

/-! ### built-in calls -/
inductive BI where
  | len | abs | max | min | int | str | tuple | list | any | all | sorted
def tyName (S : Sto) : D → Option String
  | .non => some "NoneType"
  | .bl _ => some "bool"
  | .int _ => some "int"
  | .str _ => some "str"
  | .tup _ => some "tuple"
  | .lst _ => some "list"
  | .flst _ => some "list"
  | .ref r => match S[r]? with
    | some (.lst _) => some "list"
    | some (.dk _) => some "dict"
    | _ => none
  | .ty _ => none
def biLen (S : Sto) : List D → Option D
  | [.tup xs] => some (.int xs.length)
  | [.str s] => if s.length ≤ sizeLine then some (.int s.length) else none
  | [.lst xs] => some (.int xs.length)
  | [.flst xs] => some (.int xs.length)
  | [.ref r] => match S[r]? with
    | some (.lst xs) => some (.int xs.length)
    | _ => none
  | _ => none
def biAbs : List D → Option D
  | [.int i] => some (.int (if i < 0 then -i else i))
  | _ => none
/-- a list of whole numbers -/
def intsD : List D → Option (List Int)
  | [] => some []
  | .int i :: xs => (intsD xs).map fun ns => i :: ns
  | _ => none
def biMax : List D → Option D
  | [.int i, .int j] => some (.int (if j > i then j else i))
  | [.lst xs] => match intsD xs with
    | some (n :: ns) => some (.int (ns.foldl max n))
    | _ => none
  | _ => none
def biMin : List D → Option D
  | [.int i, .int j] => some (.int (if j < i then j else i))
  | _ => none
def biInt : List D → Option D
  | [.int i] => some (.int i)
  | [.bl b] => some (.int (b2i b))
  | _ => none
def biStr : List D → Option D
  | [.int i] => if i.natAbs.log2 < 1920 then some (.str (toString i)) else none
  | _ => none
def biTup (S : Sto) : List D → Option D
  | [.tup xs] => some (.tup xs)
  | [.lst xs] => some (.tup xs)
  | [.flst xs] => some (.tup xs)
  | [.ref r] => match S[r]? with
    | some (.lst xs) => some (.tup xs)
    | _ => none
  | _ => none
def kD : Key → D
  | .inl i => .int i
  | .inr s => .str s
def biLst (S : Sto) : List D → Option D
  | [.tup xs] => some (.lst xs)
  | [.lst xs] => some (.lst xs)
  | [.flst xs] => some (.lst xs)
  | [.ref r] => match S[r]? with
    | some (.lst xs) => some (.lst xs)
    | some (.dk kvs) => some (.lst (kvs.map fun kv => kD kv.1))
    | _ => none
  | _ => none
/-- a dict's keys, all whole numbers -/
def keysI : List (Key × D) → Option (List Int)
  | [] => some []
  | (.inl k, _) :: r => (keysI r).map fun ks => k :: ks
  | _ => none
/-- a whole number put in where it belongs -/
def insZ (k : Int) : List Int → List Int
  | [] => [k]
  | x :: r => if k ≤ x then k :: x :: r else x :: insZ k r
def srtZ (ns : List Int) : List Int := ns.foldr insZ []
/-- and each once -/
def addZ (k : Int) : List Int → List Int
  | [] => [k]
  | x :: r => if k < x then k :: x :: r else if k = x then x :: r else x :: addZ k r
def setZ (ns : List Int) : List Int := ns.foldr addZ []
def biSrt (S : Sto) : List D → Option D
  | [.ref r] => match S[r]? with
    | some (.dk kvs) => (keysI kvs).bind fun ks => if ks.length < 64 then some (.lst ((srtZ ks).map D.int)) else none
    | _ => none
  | _ => none
/-- sorted(set(xs)) -/
def ssetD : D → Option D
  | .lst xs => (intsD xs).bind fun ns => if ns.length < 64 then some (.lst ((setZ ns).map D.int)) else none
  | _ => none
/-- a list of truths -/
def blsD : List D → Option (List Bool)
  | [] => some []
  | .bl b :: xs => (blsD xs).map fun bs => b :: bs
  | _ => none
def biAny : List D → Option D
  | [.lst xs] => (blsD xs).map fun bs => .bl (bs.any id)
  | _ => none
def biAll : List D → Option D
  | [.lst xs] => (blsD xs).map fun bs => .bl (bs.all id)
  | _ => none
def biD (S : Sto) (b : BI) (ds : List D) : Option D := match b with
  | .len => biLen S ds
  | .abs => biAbs ds
  | .max => biMax ds
  | .min => biMin ds
  | .int => biInt ds
  | .str => biStr ds
  | .tuple => biTup S ds
  | .list => biLst S ds
  | .any => biAny ds
  | .all => biAll ds
  | .sorted => biSrt S ds
end Rw

/-! M2: how values, cells and stores stand in the heap -/
namespace Rw
open PySem L2

/-- a tuple without a dict of its own -/
def PlT (K : PySem.W.Frag) (W : Hp) (a : Addr) (xs : List V) : Prop :=
  (∃ o : Obj, W a = some (.frz o (.tup xs)) ∧ o.dict = none) ∨
    ∃ (o : Obj) (its : Array Value) (n : Nat), K.lookup a = some o ∧ o.cls = .type "tuple" ∧ o.dict = none ∧ o.data = .seq its n ∧ its.size ≤ sizeLine ∧ Vals xs its.toList
theorem PlT.sq {K : PySem.W.Frag} {W : Hp} {a : Addr} {xs : List V} (h : PlT K W a xs) : SqT K W a xs := by
  rcases h with ⟨o, h, _⟩ | ⟨o, its, n, h1, h2, _, h3⟩
  · exact .inl (.inr ⟨o, h⟩)
  · exact .inr ⟨o, its, n, h1, h2, h3⟩
theorem plT_le {K : PySem.W.Frag} {W W' : Hp} (h : ∀ a o, W a = some o → W' a = some o) {a : Addr} {xs : List V} (r : PlT K W a xs) : PlT K W' a xs := by
  rcases r with ⟨o, r, d⟩ | r
  · exact .inl ⟨o, h _ _ r, d⟩
  · exact .inr r
mutual
/-- the value d stands as v: W what never changes, μ where the cells are -/
def Rep (K : PySem.W.Frag) (W : Hp) (μ : List Addr) : D → V → Prop
  | .non, v => v = .non
  | .bl b, v => v = .bl b
  | .int i, v => v = .int i
  | .str s, v => v = .str s
  | .ty n, v => v = .ty n
  | .ref r, v => ∃ a, μ[r]? = some a ∧ v = .ref a
  | .tup ds, v => ∃ a vs, v = .ref a ∧ PlT K W a vs ∧ Reps K W μ ds vs
  | .lst ds, v => ∃ a vs, v = .ref a ∧ W a = some (.lst vs) ∧ Reps K W μ ds vs
  | .flst ds, v => ∃ a vs, v = .ref a ∧ SqL K W a vs ∧ Reps K W μ ds vs
def Reps (K : PySem.W.Frag) (W : Hp) (μ : List Addr) : List D → List V → Prop
  | [], vs => vs = []
  | d :: ds, vs => ∃ v r, vs = v :: r ∧ Rep K W μ d v ∧ Reps K W μ ds r
end
structure Ext (W : Hp) (μ : List Addr) (W' : Hp) (μ' : List Addr) : Prop where
  w : ∀ a o, W a = some o → W' a = some o
  m : ∀ (r : Nat) a, μ[r]? = some a → μ'[r]? = some a
theorem Ext.refl {W : Hp} {μ : List Addr} : Ext W μ W μ := ⟨fun _ _ h => h, fun _ _ h => h⟩
theorem Ext.trans {W W1 W2 : Hp} {μ μ1 μ2 : List Addr} (x : Ext W μ W1 μ1) (y : Ext W1 μ1 W2 μ2) : Ext W μ W2 μ2 :=
  ⟨fun a o h => y.w a o (x.w a o h), fun r a h => y.m r a (x.m r a h)⟩
section
variable {K : PySem.W.Frag} {W W' H : Hp} {μ μ' : List Addr}
theorem rd_le (h : ∀ a o, W a = some o → W' a = some o) {a : Addr} {u : HO} (r : Rd W a u) : Rd W' a u := by
  rcases r with r | ⟨o, r⟩
  · exact .inl (h _ _ r)
  · exact .inr ⟨o, h _ _ r⟩
theorem sqT_le (h : ∀ a o, W a = some o → W' a = some o) {a : Addr} {xs : List V} (r : SqT K W a xs) : SqT K W' a xs := by
  rcases r with r | r
  · exact .inl (rd_le h r)
  · exact .inr r
theorem sqL_le (h : ∀ a o, W a = some o → W' a = some o) {a : Addr} {xs : List V} (r : SqL K W a xs) : SqL K W' a xs := by
  rcases r with r | r
  · exact .inl (rd_le h r)
  · exact .inr r
mutual
theorem Rep.mono (x : Ext W μ W' μ') : ∀ (d : D) (v : V), Rep K W μ d v → Rep K W' μ' d v
  | .non, _, h => h
  | .bl _, _, h => h
  | .int _, _, h => h
  | .str _, _, h => h
  | .ty _, _, h => h
  | .ref r, _, ⟨a, h, e⟩ => ⟨a, x.m r a h, e⟩
  | .tup ds, _, ⟨a, vs, e, h, r⟩ => ⟨a, vs, e, plT_le x.w h, Reps.mono x ds vs r⟩
  | .lst ds, _, ⟨a, vs, e, h, r⟩ => ⟨a, vs, e, x.w _ _ h, Reps.mono x ds vs r⟩
  | .flst ds, _, ⟨a, vs, e, h, r⟩ => ⟨a, vs, e, sqL_le x.w h, Reps.mono x ds vs r⟩
theorem Reps.mono (x : Ext W μ W' μ') : ∀ (ds : List D) (vs : List V), Reps K W μ ds vs → Reps K W' μ' ds vs
  | [], _, h => h
  | d :: ds, _, ⟨v, r, e, h1, h2⟩ => ⟨v, r, e, Rep.mono x d v h1, Reps.mono x ds r h2⟩
end
theorem Rep.m (x : Ext W μ W' μ') {d : D} {v : V} (h : Rep K W μ d v) : Rep K W' μ' d v := Rep.mono x d v h
theorem Reps.m (x : Ext W μ W' μ') {ds : List D} {vs : List V} (h : Reps K W μ ds vs) : Reps K W' μ' ds vs := Reps.mono x ds vs h
theorem Reps.length : ∀ {ds : List D} {vs : List V}, Reps K W μ ds vs → vs.length = ds.length
  | [], _, h => by cases (show _ = [] from h); rfl
  | d :: ds, _, ⟨v, r, e, _, h⟩ => by subst e; simp [Reps.length h]
theorem Reps.ints : ∀ {ds : List D} {vs : List V} {ns : List Int}, Reps K W μ ds vs → intsD ds = some ns → vs = ns.map V.int
  | [], _, _, h, e => by cases (show _ = [] from h); cases e; rfl
  | .int i :: ds, _, ns, ⟨v, r, e1, h1, h2⟩, e => by
    subst e1
    cases (show v = V.int i from h1)
    cases q : intsD ds with
    | none => simp [intsD, q] at e
    | some ms =>
      have : ns = i :: ms := by simpa [intsD, q] using e.symm
      subst this
      rw [Reps.ints h2 q]
      rfl
  | .non :: _, _, _, _, e => by cases e
  | .bl _ :: _, _, _, _, e => by cases e
  | .str _ :: _, _, _, _, e => by cases e
  | .tup _ :: _, _, _, _, e => by cases e
  | .lst _ :: _, _, _, _, e => by cases e
  | .flst _ :: _, _, _, _, e => by cases e
  | .ref _ :: _, _, _, _, e => by cases e
  | .ty _ :: _, _, _, _, e => by cases e
theorem Reps.bls : ∀ {ds : List D} {vs : List V} {ns : List Bool}, Reps K W μ ds vs → blsD ds = some ns → vs = ns.map V.bl
  | [], _, _, h, e => by cases (show _ = [] from h); cases e; rfl
  | .bl i :: ds, _, ns, ⟨v, r, e1, h1, h2⟩, e => by
    subst e1
    cases (show v = V.bl i from h1)
    cases q : blsD ds with
    | none => simp [blsD, q] at e
    | some ms =>
      have : ns = i :: ms := by simpa [blsD, q] using e.symm
      subst this
      rw [Reps.bls h2 q]
      rfl
  | .non :: _, _, _, _, e => by cases e
  | .int _ :: _, _, _, _, e => by cases e
  | .str _ :: _, _, _, _, e => by cases e
  | .tup _ :: _, _, _, _, e => by cases e
  | .lst _ :: _, _, _, _, e => by cases e
  | .flst _ :: _, _, _, _, e => by cases e
  | .ref _ :: _, _, _, _, e => by cases e
  | .ty _ :: _, _, _, _, e => by cases e
theorem Reps.get : ∀ {ds : List D} {vs : List V} {i : Nat} {d : D}, Reps K W μ ds vs → ds[i]? = some d → ∃ v, vs[i]? = some v ∧ Rep K W μ d v
  | [], _, _, _, _, e => by simp at e
  | d :: ds, _, 0, _, ⟨v, r, e, h, _⟩, e2 => by subst e; simp at e2; subst e2; exact ⟨v, rfl, h⟩
  | d :: ds, _, i + 1, x, ⟨v, r, e, _, h⟩, e2 => by
    subst e
    obtain ⟨u, h1, h2⟩ := Reps.get (i := i) h (by simpa using e2)
    exact ⟨u, by simpa using h1, h2⟩
theorem Reps.get2 : ∀ {ds : List D} {vs : List V} {i : Nat} {v : V}, Reps K W μ ds vs → vs[i]? = some v → ∃ d, ds[i]? = some d ∧ Rep K W μ d v
  | [], _, _, _, h, e => by cases (show _ = [] from h); simp at e
  | d :: ds, _, 0, _, ⟨v, r, e, h, _⟩, e2 => by subst e; simp at e2; subst e2; exact ⟨d, rfl, h⟩
  | d :: ds, _, i + 1, x, ⟨v, r, e, _, h⟩, e2 => by
    subst e
    obtain ⟨u, h1, h2⟩ := Reps.get2 (i := i) h (by simpa using e2)
    exact ⟨u, by simpa using h1, h2⟩
theorem Reps.app : ∀ {ds es : List D} {vs us : List V}, Reps K W μ ds vs → Reps K W μ es us → Reps K W μ (ds ++ es) (vs ++ us)
  | [], _, _, _, h, h2 => by cases (show _ = [] from h); exact h2
  | d :: ds, _, _, _, ⟨v, r, e, h1, h⟩, h2 => by subst e; exact ⟨v, _, rfl, h1, Reps.app h h2⟩
theorem Reps.drop : ∀ (n : Nat) {ds : List D} {vs : List V}, Reps K W μ ds vs → Reps K W μ (ds.drop n) (vs.drop n)
  | 0, _, _, h => h
  | _ + 1, [], _, h => by cases (show _ = [] from h); exact rfl
  | n + 1, d :: ds, _, ⟨v, r, e, h1, h⟩ => by subst e; exact Reps.drop n h
theorem Reps.reverse : ∀ {ds : List D} {vs : List V}, Reps K W μ ds vs → Reps K W μ ds.reverse vs.reverse
  | [], _, h => by cases (show _ = [] from h); exact (rfl : ([] : List V) = [])
  | d :: ds, _, ⟨v, r, e, h1, h⟩ => by
    subst e
    rw [List.reverse_cons, List.reverse_cons]
    exact Reps.app (Reps.reverse h) ⟨v, [], rfl, h1, rfl⟩
theorem Reps.take : ∀ (n : Nat) {ds : List D} {vs : List V}, Reps K W μ ds vs → Reps K W μ (ds.take n) (vs.take n)
  | 0, _, _, h => rfl
  | _ + 1, [], _, h => by cases (show _ = [] from h); exact rfl
  | n + 1, d :: ds, _, ⟨v, r, e, h1, h⟩ => by subst e; exact ⟨v, _, rfl, h1, Reps.take n h⟩
theorem Reps.cut {ds : List D} {vs : List V} (h : Reps K W μ ds vs) (lo hi : Option Int) : Reps K W μ (cutD ds lo hi) (cutV vs lo hi) := by
  unfold cutD cutV
  rw [h.length]
  exact (h.drop _).take _
theorem Reps.set : ∀ (i : Nat) {d : D} {v : V} {ds : List D} {vs : List V}, Rep K W μ d v → Reps K W μ ds vs → Reps K W μ (ds.set i d) (vs.set i v)
  | _, _, _, [], _, _, h => by cases (show _ = [] from h); exact rfl
  | 0, _, _, d :: ds, _, hd, ⟨v, r, e, h1, h⟩ => by subst e; exact ⟨_, _, rfl, hd, h⟩
  | i + 1, _, _, d :: ds, _, hd, ⟨v, r, e, h1, h⟩ => by subst e; exact ⟨v, _, rfl, h1, Reps.set i hd h⟩
theorem Reps.isEmpty {ds : List D} {vs : List V} (h : Reps K W μ ds vs) : vs.isEmpty = ds.isEmpty := by
  have := h.length
  cases ds <;> cases vs <;> simp_all
theorem Reps.dropLast {ds : List D} {vs : List V} (h : Reps K W μ ds vs) : Reps K W μ ds.dropLast vs.dropLast := by
  rw [List.dropLast_eq_take, List.dropLast_eq_take, h.length]
  exact h.take _
theorem Reps.one {d : D} {v : V} (h : Rep K W μ d v) : Reps K W μ [d] [v] := ⟨v, [], rfl, h, rfl⟩
theorem Reps.inv1 {d : D} {vs : List V} (h : Reps K W μ [d] vs) : ∃ v, vs = [v] ∧ Rep K W μ d v := by
  obtain ⟨v, r, e, h1, h2⟩ := h
  cases (show r = [] from h2)
  exact ⟨v, e, h1⟩
theorem Reps.inv2 {d e : D} {vs : List V} (h : Reps K W μ [d, e] vs) : ∃ v u, vs = [v, u] ∧ Rep K W μ d v ∧ Rep K W μ e u := by
  obtain ⟨v, r, e1, h1, u, r2, e2, h2, h3⟩ := h
  cases (show r2 = [] from h3)
  exact ⟨v, u, by rw [e1, e2], h1, h2⟩
theorem atI_rep {ds : List D} {vs : List V} (h : Reps K W μ ds vs) {i : Int} {d : D} (e : atI ds i = some d) : ∃ v, atI vs i = some v ∧ Rep K W μ d v := by
  unfold atI at e ⊢
  rw [h.length]
  cases q : ixN ds.length i with
  | none => rw [q] at e; cases e
  | some j =>
    rw [q] at e
    obtain ⟨v, h1, h2⟩ := h.get (show ds[j]? = some d from e)
    exact ⟨v, h1, h2⟩

/-! ### cells, stores -/
/-- a dict's pairs -/
def RepKV (K : PySem.W.Frag) (W : Hp) (μ : List Addr) (kvs : List (Key × D)) (ws : List (Key × V)) : Prop := kvs.map (·.1) = ws.map (·.1) ∧ Reps K W μ (kvs.map (·.2)) (ws.map (·.2))
/-- an instance's fields -/
def RepFS (K : PySem.W.Frag) (W : Hp) (μ : List Addr) (fs : List (Str × D)) (ws : List (Str × V)) : Prop := fs.map (·.1) = ws.map (·.1) ∧ Reps K W μ (fs.map (·.2)) (ws.map (·.2))
def CellAt (K : PySem.W.Frag) (W : Hp) (μ : List Addr) (H : Hp) (a : Addr) : Cell → Prop
  | .lst ds => ∃ vs, H a = some (.lst vs) ∧ Reps K W μ ds vs
  | .dk kvs => ∃ ws, H a = some (.dK ws) ∧ RepKV K W μ kvs ws
  | .ob _ c fs => ∃ dx ws, H a = some (.ins (He.ga K c) dx ws) ∧ RepFS K W μ fs ws
/-- what never changes: tuples, lists that nobody changes, locked things -/
structure Stt (K : PySem.W.Frag) (W F : Hp) (μ : List Addr) (S : Sto) (H : Hp) : Prop where
  sub : ∀ a o, W a = some o → H a = some o
  frm : ∀ a o, F a = some o → H a = some o
  dis : ∀ a o, F a = some o → W a = none
  len : μ.length = S.length
  nd : ∀ (i j : Nat) a, μ[i]? = some a → μ[j]? = some a → i = j
  apart : ∀ (i : Nat) a, μ[i]? = some a → W a = none ∧ F a = none
  cel : ∀ (i : Nat) a c, μ[i]? = some a → S[i]? = some c → CellAt K W μ H a c
theorem RepKV.mono (x : Ext W μ W' μ') {kvs : List (Key × D)} {ws : List (Key × V)} (h : RepKV K W μ kvs ws) : RepKV K W' μ' kvs ws := ⟨h.1, h.2.m x⟩
theorem RepFS.mono (x : Ext W μ W' μ') {fs : List (Str × D)} {ws : List (Str × V)} (h : RepFS K W μ fs ws) : RepFS K W' μ' fs ws := ⟨h.1, h.2.m x⟩
theorem CellAt.mono (x : Ext W μ W' μ') {H' : Hp} {a : Addr} (hh : H' a = H a) : ∀ {c : Cell}, CellAt K W μ H a c → CellAt K W' μ' H' a c
  | .lst ds, ⟨vs, h, r⟩ => ⟨vs, hh.trans h, r.m x⟩
  | .dk kvs, ⟨ws, h, r⟩ => ⟨ws, hh.trans h, r.mono x⟩
  | .ob _ c fs, ⟨dx, ws, h, r⟩ => ⟨dx, ws, hh.trans h, r.mono x⟩
theorem CellAt.some {a : Addr} : ∀ {c : Cell}, CellAt K W μ H a c → ∃ o, H a = some o ∧ Mut (some o)
  | .lst ds, ⟨vs, h, r⟩ => ⟨_, h, trivial⟩
  | .dk kvs, ⟨ws, h, r⟩ => ⟨_, h, trivial⟩
  | .ob _ c fs, ⟨dx, ws, h, r⟩ => ⟨_, h, trivial⟩
variable {F : Hp} {S : Sto}
theorem Stt.at (st : Stt K W F μ S H) {r : Nat} {a : Addr} (h : μ[r]? = some a) : ∃ c, S[r]? = some c ∧ CellAt K W μ H a c := by
  have hl : r < S.length := by rw [← st.len]; exact (List.getElem?_eq_some_iff.mp h).1
  exact ⟨S[r], by simp [hl], st.cel r a _ h (by simp [hl])⟩
theorem Stt.there (st : Stt K W F μ S H) {r : Nat} {a : Addr} (h : μ[r]? = some a) : ∃ o, H a = some o := by
  obtain ⟨c, _, q⟩ := st.at h
  obtain ⟨o, e, _⟩ := q.some
  exact ⟨o, e⟩
/-- a new thing that never changes -/
theorem Stt.imm (st : Stt K W F μ S H) {p : Addr} (o : HO) (hp : H p = none) : Stt K (upd W p o) F μ S (upd H p o) ∧ Ext W μ (upd W p o) μ := by
  have hW : W p = none := by
    cases q : W p with
    | none => rfl
    | some u => rw [st.sub _ _ q] at hp; cases hp
  have hF : F p = none := by
    cases q : F p with
    | none => rfl
    | some u => rw [st.frm _ _ q] at hp; cases hp
  have x : Ext W μ (upd W p o) μ := ⟨fun a u h => by
    rw [upd_ne (ne_of_none h hW)]
    exact h, fun _ _ h => h⟩
  have hμ : ∀ (i : Nat) a, μ[i]? = some a → a ≠ p := fun i a h e => by
    obtain ⟨u, q⟩ := st.there h
    rw [e, hp] at q
    cases q
  refine ⟨⟨fun a u h => ?_, fun a u h => ?_, fun a u h => ?_, st.len, st.nd, fun i a h => ?_, fun i a c h hc => ?_⟩, x⟩
  · by_cases e : a = p
    · subst e; rw [upd_same] at h; rw [upd_same]; exact h
    · rw [upd_ne e] at h; rw [upd_ne e]; exact st.sub _ _ h
  · rw [upd_ne (ne_of_none h hF)]; exact st.frm _ _ h
  · rw [upd_ne (ne_of_none h hF)]; exact st.dis _ _ h
  · rw [upd_ne (hμ i a h)]; exact st.apart i a h
  · exact (st.cel i a c h hc).mono x (upd_ne (hμ i a h))
theorem get_snoc {α : Type} {l : List α} {x : α} {i : Nat} {y : α} (h : (l ++ [x])[i]? = some y) : l[i]? = some y ∨ (i = l.length ∧ x = y) := by
  by_cases hi : i < l.length
  · rw [List.getElem?_append_left hi] at h; exact .inl h
  · rw [List.getElem?_append_right (by omega)] at h
    by_cases e : i = l.length
    · subst e; simp at h; exact .inr ⟨rfl, h⟩
    · have : i - l.length ≠ 0 := by omega
      obtain ⟨k, hk⟩ := Nat.exists_eq_succ_of_ne_zero this
      rw [hk] at h; simp at h
/-- a new cell -/
theorem Stt.cell (st : Stt K W F μ S H) {p : Addr} (o : HO) (c : Cell) (hp : H p = none) (hc : ∀ W' μ', Ext W μ W' μ' → CellAt K W' μ' (upd H p o) p c) :
    Stt K W F (μ ++ [p]) (S ++ [c]) (upd H p o) ∧ Ext W μ W (μ ++ [p]) := by
  have hW : W p = none := by
    cases q : W p with
    | none => rfl
    | some u => rw [st.sub _ _ q] at hp; cases hp
  have hF : F p = none := by
    cases q : F p with
    | none => rfl
    | some u => rw [st.frm _ _ q] at hp; cases hp
  have x : Ext W μ W (μ ++ [p]) := ⟨fun _ _ h => h, fun r a h => by rw [List.getElem?_append_left (List.getElem?_eq_some_iff.mp h).1]; exact h⟩
  have hμ : ∀ (i : Nat) a, μ[i]? = some a → a ≠ p := fun i a h e => by
    obtain ⟨u, q⟩ := st.there h
    rw [e, hp] at q
    cases q
  refine ⟨⟨fun a u h => ?_, fun a u h => ?_, st.dis, by simp [st.len], fun i j a h1 h2 => ?_, fun i a h => ?_, fun i a c' h hc' => ?_⟩, x⟩
  · rw [upd_ne (ne_of_none h hW)]; exact st.sub _ _ h
  · rw [upd_ne (ne_of_none h hF)]; exact st.frm _ _ h
  · rcases get_snoc h1 with h1 | ⟨e1, h1⟩ <;> rcases get_snoc h2 with h2 | ⟨e2, h2⟩
    · exact st.nd i j a h1 h2
    · exact absurd h2.symm (hμ i a h1)
    · exact absurd h1.symm (hμ j a h2)
    · omega
  · rcases get_snoc h with h | ⟨_, h⟩
    · exact st.apart i a h
    · rw [← h]; exact ⟨hW, hF⟩
  · rcases get_snoc h with h | ⟨e, h⟩
    · have hl : i < S.length := by rw [← st.len]; exact (List.getElem?_eq_some_iff.mp h).1
      rw [List.getElem?_append_left hl] at hc'
      exact (st.cel i a c' h hc').mono x (upd_ne (hμ i a h))
    · subst h
      rw [e, st.len, List.getElem?_append_right (Nat.le_refl _)] at hc'
      simp at hc'
      subst hc'
      exact hc _ _ x
/-- a cell changes -/
theorem Stt.put (st : Stt K W F μ S H) {r : Nat} {a : Addr} (o : HO) (c : Cell) (hr : μ[r]? = some a) (hc : CellAt K W μ (upd H a o) a c) : Stt K W F μ (S.set r c) (upd H a o) := by
  obtain ⟨hW, hF⟩ := st.apart r a hr
  have hl : r < S.length := by rw [← st.len]; exact (List.getElem?_eq_some_iff.mp hr).1
  refine ⟨fun b u h => ?_, fun b u h => ?_, st.dis, by simp [st.len], st.nd, st.apart, fun i b c' h hc' => ?_⟩
  · rw [upd_ne (ne_of_none h hW)]; exact st.sub _ _ h
  · rw [upd_ne (ne_of_none h hF)]; exact st.frm _ _ h
  · by_cases e : i = r
    · subst e
      rw [hr] at h; cases h
      rw [List.getElem?_set_self hl] at hc'
      cases hc'
      exact hc
    · rw [List.getElem?_set_ne (Ne.symm e)] at hc'
      refine (st.cel i b c' h hc').mono Ext.refl (upd_ne fun q => e (st.nd i r a (by rw [← q]; exact h) hr))

/-! ### the wish behind a value -/
def Post (K : PySem.W.Frag) (W F : Hp) (μ : List Addr) (S : Sto) (d : D) (Q : VK) : Prop := ∀ v H' W' μ', Ext W μ W' μ' → Stt K W' F μ' S H' → Rep K W' μ' d v → Q v H'
def PostB (K : PySem.W.Frag) (W F : Hp) (μ : List Addr) (S : Sto) (b : Bool) (Q : Bool → Hp → Prop) : Prop := ∀ H' W' μ', Ext W μ W' μ' → Stt K W' F μ' S H' → Q b H'
def PostA (K : PySem.W.Frag) (W F : Hp) (μ : List Addr) (S : Sto) (ds : List D) (Q : List V → Hp → Prop) : Prop := ∀ vs H' W' μ', Ext W μ W' μ' → Stt K W' F μ' S H' → Reps K W' μ' ds vs → Q vs H'
theorem Post.ext {W1 : Hp} {μ1 : List Addr} {d : D} {Q : VK} (p : Post K W F μ S d Q) (x : Ext W μ W1 μ1) : Post K W1 F μ1 S d Q := fun v H' W' μ' y st r => p v H' W' μ' (x.trans y) st r
theorem PostB.ext {W1 : Hp} {μ1 : List Addr} {b : Bool} {Q : Bool → Hp → Prop} (p : PostB K W F μ S b Q) (x : Ext W μ W1 μ1) : PostB K W1 F μ1 S b Q := fun H' W' μ' y st => p H' W' μ' (x.trans y) st
theorem PostA.ext {W1 : Hp} {μ1 : List Addr} {ds : List D} {Q : List V → Hp → Prop} (p : PostA K W F μ S ds Q) (x : Ext W μ W1 μ1) : PostA K W1 F μ1 S ds Q := fun v H' W' μ' y st r => p v H' W' μ' (x.trans y) st r
/-- the names' values -/
def EnvR (K : PySem.W.Frag) (W : Hp) (μ : List Addr) (ρ : Env) (σ : L2.St) : Prop := ρ.length = σ.length ∧ ∀ (i : Nat) d, ρ[i]? = some (some d) → ∃ v, σ[i]? = some (some v) ∧ Rep K W μ d v
theorem EnvR.mono {ρ : Env} {σ : L2.St} (x : Ext W μ W' μ') (h : EnvR K W μ ρ σ) : EnvR K W' μ' ρ σ := ⟨h.1, fun i d e => let ⟨v, a, b⟩ := h.2 i d e; ⟨v, a, b.m x⟩⟩
theorem EnvR.set {ρ : Env} {σ : L2.St} {i : Nat} {d : D} {v : V} (h : EnvR K W μ ρ σ) (r : Rep K W μ d v) : EnvR K W μ (ρ.set i (some d)) (σ.set i (some v)) := by
  refine ⟨by simp [h.1], fun j e q => ?_⟩
  by_cases hj : i = j
  · subst hj
    have hl : i < ρ.length := by
      have := (List.getElem?_eq_some_iff.mp q).1
      simpa using this
    rw [List.getElem?_set_self hl] at q
    cases q
    exact ⟨v, by rw [List.getElem?_set_self (by rw [← h.1]; exact hl)], r⟩
  · rw [List.getElem?_set_ne hj] at q
    obtain ⟨u, h1, h2⟩ := h.2 j e q
    exact ⟨u, by rw [List.getElem?_set_ne hj]; exact h1, h2⟩
end

/-! ### readings -/
def TR (K : PySem.W.Frag) (ev : Env → Sto → Rs D) : TE := fun σ H Q => ∃ W F μ ρ S d S', Stt K W F μ S H ∧ EnvR K W μ ρ σ ∧ ev ρ S = some (d, S') ∧ Post K W F μ S' d Q
def TTR (K : PySem.W.Frag) (ev : Env → Sto → Rs Bool) : TT := fun σ H Q => ∃ W F μ ρ S b S', Stt K W F μ S H ∧ EnvR K W μ ρ σ ∧ ev ρ S = some (b, S') ∧ PostB K W F μ S' b Q
def TAR (K : PySem.W.Frag) (ev : Env → Sto → Rs (List D)) : TA := fun σ H Q => ∃ W F μ ρ S ds S', Stt K W F μ S H ∧ EnvR K W μ ρ σ ∧ ev ρ S = some (ds, S') ∧ PostA K W F μ S' ds Q
inductive Fl where
  | nx (ρ : Env) | rt (d : D) | bk (ρ : Env)
def PostS (K : PySem.W.Frag) (W F : Hp) (μ : List Addr) (S : Sto) (fl : Fl) (D : Ends) : Prop := match fl with
  | .nx ρ => ∀ σ H' W' μ', Ext W μ W' μ' → Stt K W' F μ' S H' → EnvR K W' μ' ρ σ → D.nx σ H'
  | .bk ρ => ∀ σ H' W' μ', Ext W μ W' μ' → Stt K W' F μ' S H' → EnvR K W' μ' ρ σ → D.bk σ H'
  | .rt d => Post K W F μ S d D.rt
theorem PostS.ext {K : PySem.W.Frag} {W F W1 : Hp} {μ μ1 : List Addr} {S : Sto} {fl : Fl} {D : Ends} (p : PostS K W F μ S fl D) (x : Ext W μ W1 μ1) : PostS K W1 F μ1 S fl D := by
  cases fl with
  | nx ρ => exact fun σ H' W' μ' y st r => p σ H' W' μ' (x.trans y) st r
  | bk ρ => exact fun σ H' W' μ' y st r => p σ H' W' μ' (x.trans y) st r
  | rt d => exact Post.ext p x
def TSR (K : PySem.W.Frag) (es : Env → Sto → Rs Fl) : TS := fun D σ H => ∃ W F μ ρ S fl S', Stt K W F μ S H ∧ EnvR K W μ ρ σ ∧ es ρ S = some (fl, S') ∧ PostS K W F μ S' fl D
theorem _root_.L2.PE.weak {X : Cx} {e : Expr} {t t' : TE} (h : PE X e t) (w : ∀ σ H Q, t' σ H Q → t σ H Q) : PE X e t' := ⟨fun pins s σ H Q I q => h.run pins s σ H Q I (w σ H Q q)⟩
theorem _root_.L2.PT.weak {X : Cx} {e : Expr} {t t' : TT} (h : PT X e t) (w : ∀ σ H Q, t' σ H Q → t σ H Q) : PT X e t' := ⟨fun pins s σ H Q I q => h.run pins s σ H Q I (w σ H Q q)⟩
theorem _root_.L2.PW.weak {X : Cx} {e : Expr} {t t' : TT} (h : PW X e t) (w : ∀ σ H Q, t' σ H Q → t σ H Q) : PW X e t' := ⟨fun wh pins s σ H Q I q => h.run wh pins s σ H Q I (w σ H Q q)⟩
theorem _root_.L2.PA.weak {X : Cx} {es : List Expr} {t t' : TA} (h : PA X es t) (w : ∀ σ H Q, t' σ H Q → t σ H Q) : PA X es t' := ⟨fun pos pins s σ H Q I q => h.run pos pins s σ H Q I (w σ H Q q)⟩
theorem _root_.L2.PS.weak {X : Cx} {st : Stmt} {t t' : TS} (h : PS X st t) (w : ∀ D σ H, t' D σ H → t D σ H) : PS X st t' := ⟨fun pins s σ H D I q => h.run pins s σ H D I (w D σ H q)⟩
theorem _root_.L2.PSs.weak {X : Cx} {st : List Stmt} {t t' : TS} (h : PSs X st t) (w : ∀ D σ H, t' D σ H → t D σ H) : PSs X st t' := ⟨fun pins s σ H D I q => h.run pins s σ H D I (w D σ H q)⟩
end Rw

/-! M3: operations on values are those of the machine -/
namespace Rw
open PySem PySem.Spec PyProof.Rows L2

/-! ### new tuples -/
section
variable {X : Cx}
/-- a tuple newly laid -/
theorem lay_tup {pins : List (Addr × Obj)} {σ : L2.St} {H : Hp} {s : Shared} {xs : List V} {us : List Value} {Q : VK} (I : Inv X pins σ H s) (r : Vals xs us) (hz : xs.length ≤ sizeLine) (q : ∀ a (o : Obj), o.dict = none → H a = none → Q (.ref a) (upd H a (.frz o (.tup xs)))) :
    ∀ (n : Nat), EP X pins σ Q (.ref s.heap.objs.size) { s with heap := s.heap.push { cls := .type "tuple", data := .seq us.toArray n } } := fun n =>
  ⟨.ref s.heap.objs.size, upd H s.heap.objs.size (.frz { cls := .type "tuple", data := .seq us.toArray n } (.tup xs)), I.laid (t' := s.toks) (fun b u e => Heap.get?_push_of_some _ e) (Nat.le_refl _)
    (show ObjOk X.prog X.w _ _ _ (.frz _ (.tup xs)) from ⟨Heap.get?_push_size _ rfl, hz, us, r, ⟨_, Heap.get?_push_size _ rfl, rfl, _, rfl⟩⟩), rfl, q _ _ rfl (I.hok.fresh (Nat.le_refl _))⟩
def tTupP (t : TA) : TE := fun σ H Q => t σ H fun xs H1 => xs.length ≤ sizeLine ∧ ∀ a (o : Obj), o.dict = none → H1 a = none → Q (.ref a) (upd H1 a (.frz o (.tup xs)))
theorem pe_tupP {es : List Expr} {t : TA} {n : Nat} {pos : Pos} (h : PA X es t) : PE X (.Tuple es n pos) (tTupP t) :=
  ⟨fun pins s σ H Q I hq => wpAny_Tuple_spliced (thn (h.run pos pins s σ H _ I hq) fun us s1 ⟨xs, H1, I1, r, z, q⟩ => ⟨by rw [← r.length]; exact z, lay_tup I1 r z q _⟩)⟩
def rCatP (K : PySem.W.Frag) : R2 := fun x y H Q => ∃ a b xs ys, x = .ref a ∧ y = .ref b ∧ SqT K H a xs ∧ SqT K H b ys ∧ xs.length + ys.length ≤ sizeLine ∧
  (xs = [] → Q (.ref b) H) ∧ (ys = [] → Q (.ref a) H) ∧ ∀ p (o : Obj), o.dict = none → H p = none → Q (.ref p) (upd H p (.frz o (.tup (xs ++ ys))))
theorem op_catP : OpR X (binaryOp .Add) (rCatP X.K) := by
  intro pins s σ H x y v u Q I rx ry h
  obtain ⟨a, b, xs, ys, rfl, rfl, ha, hb, hz, q0, q1, q2⟩ := h
  cases rx
  cases ry
  obtain ⟨us, r1, p1, _⟩ := I.tuple ha
  obtain ⟨ws, r2, p2, _⟩ := I.tuple hb
  by_cases hx : xs = []
  · subst hx
    cases r1
    exact cat_tup0 p1 p2 ⟨.ref b, H, I, rfl, q0 rfl⟩
  · exact HT.cat_tup p1 p2 (fun z => hx (r1.nil_iff.mp z)) (fun z => ⟨.ref a, H, I, rfl, q1 (r2.nil_iff.mp z)⟩) (fun z => lay_tup I (r1.append r2) (by rw [List.length_append]; exact hz) q2 _) (by rw [← r1.length, ← r2.length]; exact hz)
def rSlP (K : PySem.W.Frag) : V → Option Int → Option Int → Hp → VK → Prop := fun x lo hi H Q => ∃ a xs, x = .ref a ∧ SqT K H a xs ∧
  (HT.sIx xs.length 0 lo = 0 ∧ HT.sIx xs.length xs.length hi = xs.length → Q (.ref a) H) ∧ ∀ p (o : Obj), o.dict = none → H p = none → Q (.ref p) (upd H p (.frz o (.tup (cutV xs lo hi))))
theorem sl_tupP : SlR X (rSlP X.K) := by
  intro pins s σ H x v vl vu lo hi sl Q I rx hs pl pu h
  obtain ⟨a, xs, rfl, hx, q1, q2⟩ := h
  cases rx
  obtain ⟨us, r, ht, hz⟩ := I.tuple hx
  have hlen : us.toArray.size = xs.length := by rw [List.size_toArray]; exact r.length.symm
  refine ⟨"tuple", _, PyProof.Rows.slot_tuple_getitem.lookup, ht.typeIs, ?_⟩
  by_cases hw : HT.sIx xs.length 0 lo = 0 ∧ HT.sIx xs.length xs.length hi = xs.length
  · exact getItem_tuple_whole ht hs pl pu (by rw [hlen]; exact hw) ⟨.ref a, H, I, rfl, q1 hw⟩
  · refine HT.getItem_tuple_cut ht hs pl pu (by rw [hlen]; exact hw) ?_ (by rw [hlen]; exact hz)
    rw [hlen]
    exact lay_tup I ((r.drop (HT.sIx xs.length 0 lo)).take _) (Nat.le_trans (cutV_length xs lo hi) hz) q2 _
def rTupP (K : PySem.W.Frag) : List V → Hp → VK → Prop := fun vs H Q => ∃ p ys, vs = [.ref p] ∧ ((SqL K H p ys ∧ ∀ l (o : Obj), o.dict = none → H l = none → Q (.ref l) (upd H l (.frz o (.tup ys)))) ∨ (SqT K H p ys ∧ Q (.ref p) H))
theorem call_tupP : CallR X (.type "tuple") (rTupP X.K) := by
  intro pins s σ H xs us Q I r h
  obtain ⟨p, ys, rfl, h⟩ := h
  obtain ⟨u, rfl, rx⟩ := vals1 r
  cases rx
  rcases h with ⟨hq, q⟩ | ⟨hq, q⟩
  · obtain ⟨its, r', pl, hz⟩ := I.list hq
    have hlen := r'.length
    refine call_tuple_list pl.isList (fun h' kp => ?_) (by simp only [List.size_toArray] <;> omega)
    have I1 : Inv X pins σ H { s with heap := h' } := I.kept (t' := s.toks) kp
    exact lay_tup I1 r' hz q _
  · obtain ⟨its, r', pl, hz⟩ := I.tuple hq
    exact call_tuple_same pl ⟨.ref p, H, I, rfl, q⟩
end
def rBin (K : PySem.W.Frag) (op : Operator) : R2 := fun x y H Q => ∃ W F μ S d e r, Stt K W F μ S H ∧ Rep K W μ d x ∧ Rep K W μ e y ∧ binD op d e = some r ∧ Post K W F μ S r Q
def rCmp (K : PySem.W.Frag) (op : CmpOp) : R2 := fun x y H Q => ∃ W F μ S d e b, Stt K W F μ S H ∧ Rep K W μ d x ∧ Rep K W μ e y ∧ cmpD S op d e = some b ∧ PostB K W F μ S b fun b H' => Q (.bl b) H'
def rNeg (K : PySem.W.Frag) : V → Hp → VK → Prop := fun x H Q => ∃ i, x = .int i ∧ Q (.int (-i)) H
section
variable {K : PySem.W.Frag} {W F : Hp} {μ : List Addr} {S : Sto} {H : Hp}
theorem Post.int {i : Int} {Q : VK} (p : Post K W F μ S (.int i) Q) (st : Stt K W F μ S H) : Q (.int i) H := p _ H W μ Ext.refl st rfl
theorem Post.strv {i : Str} {Q : VK} (p : Post K W F μ S (.str i) Q) (st : Stt K W F μ S H) : Q (.str i) H := p _ H W μ Ext.refl st rfl
theorem Post.blv {i : Bool} {Q : VK} (p : Post K W F μ S (.bl i) Q) (st : Stt K W F μ S H) : Q (.bl i) H := p _ H W μ Ext.refl st rfl
theorem Post.same {d : D} {v : V} {Q : VK} (p : Post K W F μ S d Q) (st : Stt K W F μ S H) (r : Rep K W μ d v) : Q v H := p _ H W μ Ext.refl st r
theorem PostB.now {b : Bool} {Q : Bool → Hp → Prop} (p : PostB K W F μ S b Q) (st : Stt K W F μ S H) : Q b H := p H W μ Ext.refl st
/-- a new tuple, a new list that nobody changes -/
theorem Post.tup {ds : List D} {vs : List V} {Q : VK} (p : Post K W F μ S (.tup ds) Q) (st : Stt K W F μ S H) (r : Reps K W μ ds vs) : ∀ a (o : Obj), o.dict = none → H a = none → Q (.ref a) (upd H a (.frz o (.tup vs))) := fun a o hd ha =>
  let ⟨st', x⟩ := st.imm (.frz o (.tup vs)) ha
  p _ _ _ _ x st' ⟨a, vs, rfl, .inl ⟨o, upd_same, hd⟩, r.m x⟩
theorem Post.lst {ds : List D} {vs : List V} {Q : VK} (p : Post K W F μ S (.lst ds) Q) (st : Stt K W F μ S H) (r : Reps K W μ ds vs) : ∀ a, H a = none → Q (.ref a) (upd H a (.lst vs)) := fun a ha =>
  let ⟨st', x⟩ := st.imm (.lst vs) ha
  p _ _ _ _ x st' ⟨a, vs, rfl, upd_same, r.m x⟩
theorem Stt.sqT (st : Stt K W F μ S H) {a : Addr} {vs : List V} (h : PlT K W a vs) : SqT K H a vs := sqT_le st.sub h.sq
theorem Stt.sqL (st : Stt K W F μ S H) {a : Addr} {vs : List V} (h : SqL K W a vs) : SqL K H a vs := sqL_le st.sub h
theorem Stt.lst (st : Stt K W F μ S H) {r : Nat} {a : Addr} {xs : List D} (h : μ[r]? = some a) (e : S[r]? = some (.lst xs)) : ∃ vs, H a = some (.lst vs) ∧ Reps K W μ xs vs := st.cel r a _ h e
theorem Stt.ob (st : Stt K W F μ S H) {r g : Nat} {c : Str} {a : Addr} {fs : List (Str × D)} (h : μ[r]? = some a) (e : S[r]? = some (.ob g c fs)) : ∃ dx ws, H a = some (.ins (He.ga K c) dx ws) ∧ RepFS K W μ fs ws := st.cel r a _ h e
theorem Stt.dk (st : Stt K W F μ S H) {r : Nat} {a : Addr} {kvs : List (Key × D)} (h : μ[r]? = some a) (e : S[r]? = some (.dk kvs)) : ∃ ws, H a = some (.dK ws) ∧ RepKV K W μ kvs ws := st.cel r a _ h e
/-- a list of any kind, read -/
theorem lst_of (st : Stt K W F μ S H) {d : D} {v : V} {xs : List D} (r : Rep K W μ d v) (e : lstOf S d = some xs) : ∃ a vs, v = .ref a ∧ SqL K H a vs ∧ Reps K W μ xs vs := by
  cases d with
  | lst ds =>
    cases e
    obtain ⟨a, vs, rfl, h, q⟩ := r
    exact ⟨a, vs, rfl, SqL.of (st.sub _ _ h), q⟩
  | flst ds =>
    cases e
    obtain ⟨a, vs, rfl, h, q⟩ := r
    exact ⟨a, vs, rfl, st.sqL h, q⟩
  | ref i =>
    obtain ⟨a, h, rfl⟩ := r
    cases c : S[i]? with
    | none => simp only [lstOf, c] at e; cases e
    | some cc =>
      simp only [lstOf, c] at e
      cases cc with
      | lst ys =>
        cases e
        obtain ⟨vs, h1, h2⟩ := st.lst h c
        exact ⟨a, vs, rfl, SqL.of h1, h2⟩
      | dk _ => cases e
      | ob _ _ _ => cases e
  | _ => cases e
theorem RepKV.look {kvs : List (Key × D)} {ws : List (Key × V)} (h : RepKV K W μ kvs ws) {k : Key} {d : D} (e : lookK kvs k = some d) : ∃ v, valV ws k = some v ∧ Rep K W μ d v := by
  obtain ⟨h1, h2⟩ := h
  induction kvs generalizing ws with
  | nil => cases e
  | cons p kvs ih =>
    cases ws with
    | nil => simp at h1
    | cons q ws =>
      obtain ⟨h3, h4⟩ := List.cons.inj (show p.1 :: kvs.map (·.1) = q.1 :: ws.map (·.1) from h1)
      obtain ⟨v, r, e1, h5, h6⟩ := h2
      obtain ⟨e2, e3⟩ := List.cons.inj (show q.2 :: ws.map (·.2) = v :: r from e1)
      subst e2 e3
      by_cases c : p.1 = k
      · have : lookK (p :: kvs) k = some p.2 := by simp [lookK, List.find?_cons, c]
        rw [this] at e; cases e
        exact ⟨q.2, valV_pos (by rw [← h3, c]), h5⟩
      · have : lookK (p :: kvs) k = lookK kvs k := by simp [lookK, List.find?_cons, c]
        rw [this] at e
        obtain ⟨v, a, b⟩ := ih e h4 h6
        exact ⟨v, by rw [valV_neg (by rw [← h3]; exact c)]; exact a, b⟩
end

/-! ### data, for == -/
section
variable {K : PySem.W.Frag} {W F : Hp} {μ : List Addr} {S : Sto} {H : Hp}
mutual
theorem pd_dp (st : Stt K W F μ S H) : ∀ (d : D) (v : V) (p : PyData), Rep K W μ d v → pd S d = some p → Dp K H v p
  | .non, _, _, h, e => by cases (show _ = V.non from h); cases e; exact .non
  | .bl b, _, _, h, e => by cases (show _ = V.bl b from h); cases e; exact .bl b
  | .int i, _, _, h, e => by cases (show _ = V.int i from h); cases e; exact .int i
  | .str s, _, _, h, e => by cases (show _ = V.str s from h); cases e; exact .str s
  | .tup ds, _, p, ⟨a, vs, e1, h, r⟩, e => by
    subst e1
    cases q : pds S ds with
    | none => simp [pd, q] at e
    | some ps =>
      have : p = .tuple ps := by simpa [pd, q] using e.symm
      subst this
      exact .tup (st.sqT h) (pds_dp st ds vs ps r q)
  | .lst ds, _, p, ⟨a, vs, e1, h, r⟩, e => by
    subst e1
    cases q : pds S ds with
    | none => simp [pd, q] at e
    | some ps =>
      have : p = .list ps := by simpa [pd, q] using e.symm
      subst this
      exact .lst (SqL.of (st.sub _ _ h)) (pds_dp st ds vs ps r q)
  | .flst ds, _, p, ⟨a, vs, e1, h, r⟩, e => by
    subst e1
    cases q : pds S ds with
    | none => simp [pd, q] at e
    | some ps =>
      have : p = .list ps := by simpa [pd, q] using e.symm
      subst this
      exact .lst (st.sqL h) (pds_dp st ds vs ps r q)
  | .ref r, _, _, _, e => by cases e
  | .ty n, _, _, _, e => by cases e
theorem pds_dp (st : Stt K W F μ S H) : ∀ (ds : List D) (vs : List V) (ps : List PyData), Reps K W μ ds vs → pds S ds = some ps → DpAll K H vs ps
  | [], _, _, h, e => by cases (show _ = [] from h); cases e; exact .nil
  | d :: ds, _, ps, ⟨v, r, e1, h1, h2⟩, e => by
    subst e1
    cases q : pd S d with
    | none => simp [pds, q] at e
    | some p =>
      cases q2 : pds S ds with
      | none => simp [pds, q, q2] at e
      | some ps' =>
        have : ps = p :: ps' := by simpa [pds, q, q2] using e.symm
        subst this
        exact .cons (pd_dp st d v p h1 q) (pds_dp st ds r ps' h2 q2)
end
theorem pdT_dp (st : Stt K W F μ S H) {d : D} {v : V} {p : PyData} (r : Rep K W μ d v) (e : pdT S d = some p) : Dp K H v p := by
  cases d with
  | ref i =>
    obtain ⟨a, h, rfl⟩ := r
    cases c : S[i]? with
    | none => simp only [pdT, c] at e; cases e
    | some cc =>
      simp only [pdT, c] at e
      cases cc with
      | lst ys =>
        obtain ⟨vs, h1, h2⟩ := st.lst h c
        cases q : pds S ys with
        | none => simp [q] at e
        | some ps =>
          have : p = .list ps := by simpa [q] using e.symm
          subst this
          exact .lst (SqL.of h1) (pds_dp st ys vs ps h2 q)
      | dk _ => cases e
      | ob _ _ _ => cases e
  | _ => exact pd_dp st _ v p r e
end

section
variable {X : Cx}
theorem op_fdivA : OpR X (binaryOp .FloorDiv) (rI (fun _ j => divOk j) fun i j => .int (i.fdiv j)) := opI fun _ _ _ _ _ _ _ hc q => floordiv_int hc.1 q (.inl (PyProof.noPylong_of_log2 hc.2))
theorem op_subb : OpR X (binaryOp .Sub) (fun x y H Q => ∃ a b, x = .bl a ∧ y = .bl b ∧ Q (.int (b2i a - b2i b)) H) := by
  intro pins s σ H x y v u Q I rx ry h
  obtain ⟨a, b, rfl, rfl, q⟩ := h
  cases rx
  cases ry
  exact PyProof.Rows.sub_bool ⟨.int _, H, I.tok _, ⟨_, rfl⟩, q⟩
theorem Reps.rep {K : PySem.W.Frag} {W : Hp} {μ : List Addr} {ds : List D} {vs : List V} (h : Reps K W μ ds vs) : ∀ n : Nat, Reps K W μ (List.replicate n ds).flatten (List.replicate n vs).flatten
  | 0 => rfl
  | n + 1 => by
    rw [List.replicate_succ, List.replicate_succ, List.flatten_cons, List.flatten_cons]
    exact h.app (Reps.rep h n)
theorem op_bin (op : Operator) : OpR X (binaryOp op) (rBin X.K op) := by
  intro pins s σ H x y v u Q I rx ry h
  obtain ⟨W, F, μ, S, d, e, r, st, hd, he, hb, p⟩ := h
  unfold binD at hb
  split at hb
  · cases hb; cases (show x = _ from hd); cases (show y = _ from he)
    exact op_add pins s σ H _ _ v u Q I rx ry ⟨_, _, rfl, rfl, p.int st⟩
  · split at hb
    · rename_i c
      cases hb; cases (show x = _ from hd); cases (show y = _ from he)
      exact op_add_str pins s σ H _ _ v u Q I rx ry ⟨_, _, rfl, rfl, c, p.strv st⟩
    · cases hb
  · split at hb
    · rename_i c
      cases hb
      obtain ⟨a, vs, rfl, h1, r1⟩ := hd
      obtain ⟨b, us, rfl, h2, r2⟩ := he
      refine op_catP pins s σ H _ _ v u Q I rx ry ⟨a, b, vs, us, rfl, rfl, st.sqT h1, st.sqT h2, by rw [r1.length, r2.length]; exact c, fun e => ?_, fun e => ?_, p.tup st (r1.app r2)⟩
      · subst e
        exact p.same st ⟨b, us, rfl, h2, by have := r1.app r2; simpa using this⟩
      · subst e
        exact p.same st ⟨a, vs, rfl, h1, by have := r1.app r2; simpa using this⟩
    · cases hb
  · split at hb
    · rename_i c
      cases hb
      obtain ⟨a, vs, rfl, h1, r1⟩ := hd
      obtain ⟨b, us, rfl, h2, r2⟩ := he
      exact op_cat pins s σ H _ _ v u Q I rx ry ⟨a, b, vs, us, rfl, rfl, st.sub _ _ h1, st.sub _ _ h2, by rw [r1.length, r2.length]; exact c, p.lst st (r1.app r2)⟩
    · cases hb
  · cases hb; cases (show x = _ from hd); cases (show y = _ from he)
    exact op_sub pins s σ H _ _ v u Q I rx ry ⟨_, _, rfl, rfl, p.int st⟩
  · cases hb; cases (show x = _ from hd); cases (show y = _ from he)
    exact op_subb pins s σ H _ _ v u Q I rx ry ⟨_, _, rfl, rfl, p.int st⟩
  · split at hb
    · rename_i c
      cases hb; cases (show x = _ from hd); cases (show y = _ from he)
      exact op_mulW pins s σ H _ _ v u Q I rx ry ⟨_, _, rfl, rfl, c, p.int st⟩
    · cases hb
  · split at hb
    · rename_i c
      cases hb; cases (show x = _ from hd); cases (show y = _ from he)
      exact op_fdivA pins s σ H _ _ v u Q I rx ry ⟨_, _, rfl, rfl, c, p.int st⟩
    · cases hb
  · split at hb
    · rename_i c
      cases hb; cases (show x = _ from hd); cases (show y = _ from he)
      exact op_modN pins s σ H _ _ v u Q I rx ry ⟨_, _, rfl, rfl, c, p.int st⟩
    · cases hb
  · split at hb
    · rename_i c
      cases hb; cases (show x = _ from hd); cases (show y = _ from he)
      exact op_pow pins s σ H _ _ v u Q I rx ry ⟨_, _, rfl, rfl, c, p.int st⟩
    · cases hb
  · split at hb
    · rename_i c
      cases hb; cases (show x = _ from hd); cases (show y = _ from he)
      exact op_shlW pins s σ H _ _ v u Q I rx ry ⟨_, _, rfl, rfl, c, p.int st⟩
    · cases hb
  · split at hb
    · rename_i c
      cases hb; cases (show x = _ from hd); cases (show y = _ from he)
      exact op_shr pins s σ H _ _ v u Q I rx ry ⟨_, _, rfl, rfl, c, p.int st⟩
    · cases hb
  · cases hb; cases (show x = _ from hd); cases (show y = _ from he)
    exact op_and pins s σ H _ _ v u Q I rx ry ⟨_, _, rfl, rfl, p.int st⟩
  · cases hb; cases (show x = _ from hd); cases (show y = _ from he)
    exact op_xor pins s σ H _ _ v u Q I rx ry ⟨_, _, rfl, rfl, p.int st⟩
  · split at hb
    · rename_i c
      cases hb; cases (show y = _ from he)
      obtain ⟨a, vs, rfl, h1, r1⟩ := hd
      exact op_rep pins s σ H _ _ v u Q I rx ry ⟨a, _, vs, rfl, rfl, st.sub _ _ h1, c.1, c.2.1, by rw [r1.length]; exact c.2.2, p.lst st (r1.rep _)⟩
    · cases hb
  · cases hb
theorem scal_eq {K : PySem.W.Frag} {W F : Hp} {μ : List Addr} {S : Sto} {H : Hp} (st : Stt K W F μ S H) {d e : D} {x y : V} {b : Bool} (hd : Rep K W μ d x) (he : Rep K W μ e y) (h : eqD S d e = some b) :
    (scal x y = true ∧ b = decide (x = y)) ∨ ∃ p q, Dp K H x p ∧ Dp K H y q ∧ SeqAt.shaped p = true ∧ SeqAt.shaped q = true ∧ b = PyData.eqv p q := by
  unfold eqD at h
  split at h
  · cases h; cases (show x = _ from hd); cases (show y = _ from he); exact .inl ⟨rfl, by simp⟩
  · cases h; cases (show x = _ from hd); cases (show y = _ from he); exact .inl ⟨rfl, by simp⟩
  · cases h; cases (show x = _ from hd); cases (show y = _ from he); exact .inl ⟨rfl, by simp⟩
  · cases h; cases (show x = _ from hd); cases (show y = _ from he); exact .inl ⟨rfl, by simp⟩
  · cases h; cases (show x = _ from hd); cases (show y = _ from he); exact .inl ⟨rfl, by simp⟩
  · cases h; cases (show x = _ from hd); cases (show y = _ from he); exact .inl ⟨rfl, by simp⟩
  · cases h; cases (show x = _ from hd); cases (show y = _ from he); exact .inl ⟨rfl, by simp⟩
  · cases h; cases (show x = _ from hd); cases (show y = _ from he); exact .inl ⟨rfl, by simp⟩
  · cases h; cases (show x = _ from hd); cases (show y = _ from he); exact .inl ⟨rfl, by simp⟩
  · cases h; cases (show x = _ from hd); cases (show y = _ from he); exact .inl ⟨rfl, by simp⟩
  · split at h
    · rename_i p q hp hq
      split at h
      · rename_i c
        cases h
        exact .inr ⟨p, q, pdT_dp st hd hp, pdT_dp st he hq, c.1, c.2, rfl⟩
      · cases h
    · cases h
theorem isNone_rep {K : PySem.W.Frag} {W : Hp} {μ : List Addr} {d : D} {x : V} (h : Rep K W μ d x) : isNone d = decide (x = .non) := by
  cases d with
  | non => cases (show x = _ from h); rfl
  | bl b => cases (show x = _ from h); rfl
  | int b => cases (show x = _ from h); rfl
  | str b => cases (show x = _ from h); rfl
  | ty b => cases (show x = _ from h); rfl
  | tup b => obtain ⟨_, _, rfl, _⟩ := h; rfl
  | lst b => obtain ⟨_, _, rfl, _⟩ := h; rfl
  | flst b => obtain ⟨_, _, rfl, _⟩ := h; rfl
  | ref b => obtain ⟨_, _, rfl⟩ := h; rfl
theorem op_inT (hu : X.A.units + 65 < cLine) : OpR X (compareOp .In) (fun x y H Q => ∃ d ds, Dp X.K H x d ∧ Dp X.K H y (.tuple ds) ∧ SeqAt.shaped d = true ∧ SeqAt.shaped (.tuple ds) = true ∧ Q (.bl (ds.any fun z => PyData.eqv z d)) H) := by
  intro pins s σ H x y v u Q I rx ry h
  obtain ⟨d, ds, hd, he, sd, se, q⟩ := h
  obtain ⟨as, r1⟩ := Dp.reads I d x v hd rx
  obtain ⟨bs, r2⟩ := Dp.reads I (.tuple ds) y u he ry
  exact SeqAt.in_tuple_reads r2 r1 (SeqAt.canLay_of_shaped se) (SeqAt.canLay_of_shaped sd) (room_in_shaped sd hu) ⟨.bl _, H, I, rfl, q⟩
theorem op_notInT (hu : X.A.units + 65 < cLine) : OpR X (compareOp .NotIn) (fun x y H Q => ∃ d ds, Dp X.K H x d ∧ Dp X.K H y (.tuple ds) ∧ SeqAt.shaped d = true ∧ SeqAt.shaped (.tuple ds) = true ∧ Q (.bl (!ds.any fun z => PyData.eqv z d)) H) := by
  intro pins s σ H x y v u Q I rx ry h
  obtain ⟨d, ds, hd, he, sd, se, q⟩ := h
  obtain ⟨as, r1⟩ := Dp.reads I d x v hd rx
  obtain ⟨bs, r2⟩ := Dp.reads I (.tuple ds) y u he ry
  exact SeqAt.notIn_tuple_reads r2 r1 (SeqAt.canLay_of_shaped se) (SeqAt.canLay_of_shaped sd) (room_in_shaped sd hu) ⟨.bl _, H, I, rfl, q⟩
theorem inD_dp {K : PySem.W.Frag} {W F : Hp} {μ : List Addr} {S : Sto} {H : Hp} (st : Stt K W F μ S H) {d e : D} {x y : V} {b : Bool} (hd : Rep K W μ d x) (he : Rep K W μ e y) (h : inD S d e = some b) :
    ∃ p qs, Dp K H x p ∧ (Dp K H y (.tuple qs) ∧ SeqAt.shaped (.tuple qs) = true ∨ Dp K H y (.list qs) ∧ SeqAt.shaped (.list qs) = true) ∧ SeqAt.shaped p = true ∧ b = qs.any fun z => PyData.eqv z p := by
  unfold inD at h
  split at h
  · rename_i p qs hp hq
    split at h
    · rename_i c
      cases h
      exact ⟨p, qs, pdT_dp st hd hp, .inl ⟨pdT_dp st he hq, c.2⟩, c.1, rfl⟩
    · cases h
  · rename_i p qs hp hq
    split at h
    · rename_i c
      cases h
      exact ⟨p, qs, pdT_dp st hd hp, .inr ⟨pdT_dp st he hq, c.2⟩, c.1, rfl⟩
    · cases h
  · cases h
theorem op_cmp (hu : X.A.units + 65 < cLine) (op : CmpOp) : OpR X (compareOp op) (rCmp X.K op) := by
  intro pins s σ H x y v u Q I rx ry h
  obtain ⟨W, F, μ, S, d, e, b, st, hd, he, hb, p⟩ := h
  have p := p.now st
  cases op with
  | Eq =>
    rcases scal_eq st hd he hb with ⟨h1, rfl⟩ | ⟨pp, q, h1, h2, h3, h4, rfl⟩
    · exact op_eq pins s σ H _ _ v u Q I rx ry ⟨h1, p⟩
    · exact op_eqD (by omega) pins s σ H _ _ v u Q I rx ry ⟨pp, q, h1, h2, h3, h4, p⟩
  | NotEq =>
    have hb : (eqD S d e).map (!·) = some b := hb
    cases q : eqD S d e with
    | none => rw [q] at hb; cases hb
    | some c =>
      rw [q] at hb
      cases hb
      rcases scal_eq st hd he q with ⟨h1, rfl⟩ | ⟨pp, q', h1, h2, h3, h4, rfl⟩
      · exact op_ne pins s σ H _ _ v u Q I rx ry ⟨h1, p⟩
      · exact op_neD (by omega) pins s σ H _ _ v u Q I rx ry ⟨pp, q', h1, h2, h3, h4, p⟩
  | Lt =>
    simp only [cmpD] at hb
    split at hb
    · cases hb; cases (show x = _ from hd); cases (show y = _ from he)
      exact op_lt pins s σ H _ _ v u Q I rx ry ⟨_, _, rfl, rfl, p⟩
    · cases hb
  | LtE =>
    simp only [cmpD] at hb
    split at hb
    · cases hb; cases (show x = _ from hd); cases (show y = _ from he)
      exact op_le pins s σ H _ _ v u Q I rx ry ⟨_, _, rfl, rfl, p⟩
    · cases hb
  | Gt =>
    simp only [cmpD] at hb
    split at hb
    · cases hb; cases (show x = _ from hd); cases (show y = _ from he)
      exact op_gt pins s σ H _ _ v u Q I rx ry ⟨_, _, rfl, rfl, p⟩
    · cases hb
  | GtE =>
    simp only [cmpD] at hb
    split at hb
    · cases hb; cases (show x = _ from hd); cases (show y = _ from he)
      exact op_ge pins s σ H _ _ v u Q I rx ry ⟨_, _, rfl, rfl, p⟩
    · cases hb
  | Is =>
    simp only [cmpD] at hb
    split at hb
    · cases hb; cases (show y = _ from he)
      rw [isNone_rep hd] at p
      exact op_isN pins s σ H _ _ v u Q I rx ry ⟨rfl, p⟩
    · split at hb
      · cases hb; cases (show x = _ from hd); cases (show y = _ from he)
        exact op_isBl pins s σ H _ _ v u Q I rx ry ⟨_, _, rfl, rfl, p⟩
      · cases hb
    · cases hb
  | IsNot =>
    simp only [cmpD] at hb
    split at hb
    · cases hb; cases (show y = _ from he)
      rw [isNone_rep hd] at p
      exact op_notN pins s σ H _ _ v u Q I rx ry ⟨rfl, p⟩
    · split at hb
      · cases hb; cases (show x = _ from hd); cases (show y = _ from he)
        exact op_notBl pins s σ H _ _ v u Q I rx ry ⟨_, _, rfl, rfl, p⟩
      · cases hb
    · cases hb
  | In =>
    obtain ⟨pp, qs, h1, h2, h3, rfl⟩ := inD_dp st hd he hb
    rcases h2 with ⟨h2, h4⟩ | ⟨h2, h4⟩
    · exact op_inT hu pins s σ H _ _ v u Q I rx ry ⟨pp, qs, h1, h2, h3, h4, p⟩
    · exact op_inD hu pins s σ H _ _ v u Q I rx ry ⟨pp, qs, h1, h2, h3, h4, p⟩
  | NotIn =>
    have hb : (inD S d e).map (!·) = some b := hb
    cases q : inD S d e with
    | none => rw [q] at hb; cases hb
    | some c =>
      rw [q] at hb
      cases hb
      obtain ⟨pp, qs, h1, h2, h3, rfl⟩ := inD_dp st hd he q
      rcases h2 with ⟨h2, h4⟩ | ⟨h2, h4⟩
      · exact op_notInT hu pins s σ H _ _ v u Q I rx ry ⟨pp, qs, h1, h2, h3, h4, p⟩
      · exact op_notInD hu pins s σ H _ _ v u Q I rx ry ⟨pp, qs, h1, h2, h3, h4, p⟩
/-- truth -/
theorem tru_rep {K : PySem.W.Frag} {W F : Hp} {μ : List Addr} {S : Sto} {H : Hp} (st : Stt K W F μ S H) {d : D} {x : V} {b : Bool} (hd : Rep K W μ d x) (h : truD S d = some b) : TruV K x H b := by
  cases d with
  | non => cases h; cases (show x = _ from hd); rfl
  | bl c => cases h; cases (show x = _ from hd); rfl
  | int c => cases h; cases (show x = _ from hd); rfl
  | str c =>
    cases (show x = _ from hd)
    simp only [truD] at h
    split at h
    · rename_i q; cases h; exact ⟨q, rfl⟩
    · cases h
  | ty c => cases h
  | tup ds =>
    cases h
    obtain ⟨a, vs, rfl, h1, r⟩ := hd
    exact .inr (.inl ⟨vs, st.sqT h1, by rw [r.isEmpty]⟩)
  | lst ds =>
    cases h
    obtain ⟨a, vs, rfl, h1, r⟩ := hd
    exact .inl ⟨vs, SqL.of (st.sub _ _ h1), by rw [r.isEmpty]⟩
  | flst ds =>
    cases h
    obtain ⟨a, vs, rfl, h1, r⟩ := hd
    exact .inl ⟨vs, st.sqL h1, by rw [r.isEmpty]⟩
  | ref i =>
    obtain ⟨a, hr, rfl⟩ := hd
    cases c : S[i]? with
    | none => simp only [truD, c] at h; cases h
    | some cc =>
      simp only [truD, c] at h
      cases cc with
      | ob _ _ _ => cases h
      | lst ys =>
        cases h
        obtain ⟨vs, h1, h2⟩ := st.lst hr c
        exact .inl ⟨vs, SqL.of h1, by rw [h2.isEmpty]⟩
      | dk kvs =>
        cases h
        obtain ⟨ws, h1, h2⟩ := st.dk hr c
        refine .inr (.inr ⟨ws, h1, ?_⟩)
        have := congrArg List.length h2.1
        cases kvs <;> cases ws <;> simp_all
/-- an item -/
def rIdx (K : PySem.W.Frag) : R2 := fun x y H Q => ∃ W F μ S d e r, Stt K W F μ S H ∧ Rep K W μ d x ∧ Rep K W μ e y ∧ idxD S d e = some r ∧ Post K W F μ S r Q
theorem key_rep {K : PySem.W.Frag} {W : Hp} {μ : List Addr} {d : D} {x : V} {k : Key} (h : Rep K W μ d x) (e : keyD d = some k) : x = kV k := by
  cases d with
  | int i => cases e; exact h
  | str s => cases e; exact h
  | _ => cases e
theorem ix_dict (hu : X.A.units + 1 < cLine) : IxR X (fun x y H Q => ∃ a v, x = .ref a ∧ DGet H a y (some v) ∧ Q v H) := by
  intro value slice pins s σ H x y v u Q I rx ry h hs
  obtain ⟨a, z, rfl, g, q⟩ := h
  obtain rfl : v = Value.ref a := rx
  exact tail_any (dict_typeIs I g) PySem.F.slot_dict_getitem.lookup (d_getItem hu I g ry fun w' s3 I3 rw' => ⟨z, H, I3, rw', q⟩) hs
theorem ix_any (hu : X.A.units + 1 < cLine) : IxR X (rIdx X.K) := by
  intro value slice pins s σ H x y v u Q I rx ry h hs
  obtain ⟨W, F, μ, S, d, e, r, st, hd, he, hb, p⟩ := h
  unfold idxD at hb
  split at hb
  · cases (show y = _ from he)
    obtain ⟨a, vs, rfl, h1, r1⟩ := hd
    obtain ⟨z, h2, h3⟩ := atI_rep r1 hb
    exact ix_tup value slice pins s σ H _ _ v u Q I rx ry ⟨a, vs, _, z, rfl, rfl, st.sqT h1, h2, p.same st h3⟩ hs
  · cases (show y = _ from he)
    obtain ⟨a, vs, rfl, h1, r1⟩ := hd
    obtain ⟨z, h2, h3⟩ := atI_rep r1 hb
    exact ix_list value slice pins s σ H _ _ v u Q I rx ry ⟨a, vs, _, z, rfl, rfl, SqL.of (st.sub _ _ h1), h2, p.same st h3⟩ hs
  · cases (show y = _ from he)
    obtain ⟨a, vs, rfl, h1, r1⟩ := hd
    obtain ⟨z, h2, h3⟩ := atI_rep r1 hb
    exact ix_list value slice pins s σ H _ _ v u Q I rx ry ⟨a, vs, _, z, rfl, rfl, st.sqL h1, h2, p.same st h3⟩ hs
  · cases (show y = _ from he); cases (show x = _ from hd)
    split at hb
    · rename_i z k hz
      cases q : atI z.cps.toList k with
      | none => rw [q] at hb; cases hb
      | some c =>
        rw [q] at hb
        cases hb
        exact ix_str value slice pins s σ H _ _ v u Q I rx ry ⟨z, k, c, rfl, rfl, hz, q, p.strv st⟩ hs
    · cases hb
  · rename_i i
    obtain ⟨a, hr, rfl⟩ := hd
    cases c : S[i]? with
    | none => rw [c] at hb; cases hb
    | some cc =>
      rw [c] at hb
      cases cc with
      | ob _ _ _ => cases hb
      | lst ys =>
        obtain ⟨vs, h1, h2⟩ := st.lst hr c
        simp only at hb
        split at hb
        · cases (show y = _ from he)
          obtain ⟨z, h3, h4⟩ := atI_rep h2 hb
          exact ix_list value slice pins s σ H _ _ v u Q I rx ry ⟨a, vs, _, z, rfl, rfl, SqL.of h1, h3, p.same st h4⟩ hs
        · cases hb
      | dk kvs =>
        obtain ⟨ws, h1, h2⟩ := st.dk hr c
        simp only at hb
        cases q : keyD e with
        | none => rw [q] at hb; cases hb
        | some k =>
          rw [q] at hb
          have hb : lookK kvs k = some r := hb
          obtain ⟨z, h3, h4⟩ := h2.look hb
          have hy := key_rep he q
          subst hy
          exact ix_dict hu value slice pins s σ H _ _ v u Q I rx ry ⟨a, z, rfl, by rw [← h3]; exact DGet.k h1, p.same st h4⟩ hs
  · cases hb
/-- a slice -/
theorem sl_any : SlR X (fun x lo hi H Q => ∃ W F μ S d r, Stt X.K W F μ S H ∧ Rep X.K W μ d x ∧ slD S d lo hi = some r ∧ Post X.K W F μ S r Q) := by
  intro pins s σ H x v vl vu lo hi sl Q I rx hs pl pu h
  obtain ⟨W, F, μ, S, d, r, st, hd, hb, p⟩ := h
  have viaL : ∀ xs, lstOf S d = some xs → r = .lst (cutD xs lo hi) → ∃ T id, typeLookup (.type T) "__getitem__" = pure (some (.builtin id)) ∧ s.TypeIs v T ∧ wpAny (model X.prog X.w) X.A (getItem v (.ref sl)) (EP X pins σ Q) X.xe s := fun xs e e2 => by
    obtain ⟨a, vs, rfl, h1, h2⟩ := lst_of st hd e
    subst e2
    exact sl_list pins s σ H _ v vl vu lo hi sl Q I rx hs pl pu ⟨a, vs, rfl, h1, p.lst st (h2.cut lo hi)⟩
  unfold slD at hb
  split at hb
  · cases hb
    obtain ⟨a, vs, rfl, h1, r1⟩ := hd
    refine sl_tupP pins s σ H _ v vl vu lo hi sl Q I rx hs pl pu ⟨a, vs, rfl, st.sqT h1, fun ⟨e1, e2⟩ => ?_, p.tup st (r1.cut lo hi)⟩
    refine p.same st ⟨a, vs, rfl, h1, ?_⟩
    have := r1.cut lo hi
    have e3 : cutV vs lo hi = vs := by
      unfold cutV
      rw [e1, e2]
      simp
    rw [e3] at this
    exact this
  · cases (show x = _ from hd)
    split at hb
    · rename_i z hz
      cases hb
      exact sl_str pins s σ H _ v vl vu lo hi sl Q I rx hs pl pu ⟨z, rfl, hz, p.strv st⟩
    · cases hb
  · cases q : lstOf S d with
    | none => rw [q] at hb; cases hb
    | some xs =>
      rw [q] at hb
      cases hb
      exact viaL xs q rfl
end
end Rw

/-! M4: the text by slots, and what it does -/
namespace Rw
open PySem L2

mutual
inductive MG where
  | name (i : Nat) | tup (ts : MGs)
inductive MGs where
  | nil | cons (t : MG) (ts : MGs)
end
/-- methods of built-in types -/
inductive MT where
  | append | pop | extend
mutual
inductive ME where
  | var (i : Nat) | int (i : Int) | str (s : Str) | bl (b : Bool) | non
  | con (g : Nat)
  | bin (op : Operator) (a b : ME) | madd (a b : ME) | neg (a : ME) | cmp (op : CmpOp) (a b : ME) | ch (op op' : CmpOp) (a b c : ME)
  | and (a b : ME) | or (a b : ME) | one (a : ME) | not (a : ME)
  | ifE (c a b : ME)
  | tup (es : MEs) | lst (es : MEs) | mlst (es : MEs)
  | dict (ps : MPs)
  | idx (a i : ME) | sl (a : ME) (lo hi : MO) | slR (a : ME) (hi : MO)
  | call (g : Nat) (es : MEs)
  | attr (a : ME) (f : Str) | mcall (c : Nat) (o : ME) (m : Str) (es : MEs) | make (g : Nat) (es : MEs)
  | bi (b : BI) (g : Nat) (es : MEs)
  | isI (g h : Nat) (n : String) (a : ME)
  | meth (m : MT) (o : ME) (es : MEs)
  | mdict (g : Nat) (e : ME) | dget (o k d : ME) | sset (g h : Nat) (e : ME)
  | lc (mu : Bool) (vs : List Nat) (elt : ME) (tg : MG) (it : MI) (cs : MO)
  | lc2 (mu : Bool) (vs : List Nat) (elt : ME) (tg : MG) (it : MI) (cs : MO) (vs1 : List Nat) (tg1 : MG) (it1 : MI) (cs1 : MO)
inductive MEs where
  | nil | cons (e : ME) (es : MEs)
inductive MO where
  | none | some (e : ME)
inductive MPs where
  | nil | cons (k v : ME) (ps : MPs)
inductive MI where
  | seq (e : ME) | rng (g : Nat) (es : MEs)
end
mutual
inductive MS where
  | asg (tg : MG) (e : ME)
  | par2 (i j : Nat) (a b : ME)
  | par3 (i j l : Nat) (a b c : ME)
  | aug (i : Nat) (op : Operator) (e : ME)
  | setI (o i e : ME)
  | setA (o : ME) (f : Str) (e : ME)
  | augI (o i : ME) (op : Operator) (e : ME)
  | ifS (c : ME) (a b : MSs)
  | whl (c : ME) (b : MSs)
  | forS (tg : MG) (it : MI) (b : MSs)
  | ret (e : ME) | retN | ex (e : ME) | pass | brk | nev
inductive MSs where
  | nil | cons (s : MS) (ss : MSs)
end
structure Fn where
  np : Nat
  nl : Nat
  body : MSs
inductive GK where
  | fn (f : Fn) | blt | con (d : D) | met (f : Fn) | cls (ms : List (Str × Nat)) (fl : List Str)
abbrev GT := List (Str × GK)

/-- the function behind a place of the table -/
def GK.fn? : GK → Option Fn
  | .fn f => some f
  | .met f => some f
  | _ => none

/-! ### what it does -/
def bnd {α β : Type} (x : Rs α) (f : α → Sto → Rs β) : Rs β := match x with
  | some (a, S) => f a S
  | none => none
def lft {α β : Type} (x : Option α) (f : α → Rs β) : Rs β := match x with
  | some a => f a
  | none => none
theorem bnd_some {α β : Type} (a : α) (S : Sto) (f : α → Sto → Rs β) : bnd (some (a, S)) f = f a S := rfl
theorem bnd_none {α β : Type} (f : α → Sto → Rs β) : bnd none f = none := rfl
theorem lft_some {α β : Type} (a : α) (f : α → Rs β) : lft (some a) f = f a := rfl
theorem lft_none {α β : Type} (f : α → Rs β) : lft none f = none := rfl
theorem bnd_inv {α β : Type} {x : Rs α} {f : α → Sto → Rs β} {r : β × Sto} (h : bnd x f = some r) : ∃ a S, x = some (a, S) ∧ f a S = some r := by
  cases x with
  | none => cases h
  | some p => exact ⟨p.1, p.2, rfl, h⟩
theorem lft_inv {α β : Type} {x : Option α} {f : α → Rs β} {r : β × Sto} (h : lft x f = some r) : ∃ a, x = some a ∧ f a = some r := by
  cases x with
  | none => cases h
  | some p => exact ⟨p, rfl, h⟩

def conOf (G : GT) (g : Nat) : Option D := match G[g]? with
  | some (_, .con d) => some d
  | _ => none
mutual
/-- to a name, to names -/
def asgG : MG → D → Env → Option Env
  | .name i, d, ρ => if i < ρ.length then some (ρ.set i (some d)) else none
  | .tup ts, d, ρ => match d with
    | .tup xs => asgGs ts xs ρ
    | .lst xs => asgGs ts xs ρ
    | _ => none
def asgGs : MGs → List D → Env → Option Env
  | .nil, [], ρ => some ρ
  | .cons t ts, x :: xs, ρ => (asgG t x ρ).bind fun ρ1 => asgGs ts xs ρ1
  | _, _, _ => none
end
/-- the items walked, and the cell that they stand in -/
def itemsOf (S : Sto) : D → Option (List D × Option Nat)
  | .tup xs => some (xs, none)
  | .lst xs => some (xs, none)
  | .flst xs => some (xs, none)
  | .ref r => match S[r]? with
    | some (.lst xs) => some (xs, some r)
    | _ => none
  | _ => none
def rngD : List D → Option (List D)
  | [.int b] => if -(2 ^ 62) ≤ b ∧ b < 2 ^ 62 then some ((List.range b.toNat).map fun (i : Nat) => D.int (0 + (i : Int))) else none
  | [.int a, .int b] => if -(2 ^ 62) ≤ a ∧ a < 2 ^ 62 ∧ -(2 ^ 62) ≤ b ∧ b < 2 ^ 62 then some ((List.range (b - a).toNat).map fun (i : Nat) => D.int (a + (i : Int))) else none
  | [.int a, .int b, .int c] => if c = -1 ∧ -(2 ^ 62) ≤ a ∧ a < 2 ^ 62 ∧ -(2 ^ 62) ≤ b ∧ b < 2 ^ 62 then some ((List.range (a - b).toNat).map fun (i : Nat) => D.int (a + (i : Int) * c)) else none
  | _ => none
/-- the cell walked still holds these items -/
def okS (o : Option Nat) (xs : List D) (S : Sto) : Prop := match o with
  | none => True
  | some r => S[r]? = some (.lst xs)
open Classical in
noncomputable def compL (o : Option Nat) (all : List D) (turn : D → Sto → Rs (Option D)) : List D → Sto → List D → Rs (List D)
  | [], S, acc => if okS o all S then some (acc, S) else none
  | x :: xs, S, acc => if okS o all S then bnd (turn x S) fun r S1 => compL o all turn xs S1 (match r with
    | some y => acc ++ [y]
    | none => acc) else none
open Classical in
/-- the outer loop of a comprehension of two clauses -/
noncomputable def compA (o : Option Nat) (all : List D) (turn : D → Sto → List D → Rs (List D)) : List D → Sto → List D → Rs (List D)
  | [], S, acc => if okS o all S then some (acc, S) else none
  | x :: xs, S, acc => if okS o all S then bnd (turn x S acc) fun acc1 S1 => compA o all turn xs S1 acc1 else none
open Classical in
noncomputable def forL (o : Option Nat) (all : List D) (body : D → Env → Sto → Rs Fl) : List D → Env → Sto → Rs Fl
  | [], ρ, S => if okS o all S then some (.nx ρ, S) else none
  | x :: xs, ρ, S => if okS o all S then bnd (body x ρ S) fun fl S1 => match fl with
    | .nx ρ1 => forL o all body xs ρ1 S1
    | .bk ρ1 => some (.nx ρ1, S1)
    | .rt d => some (.rt d, S1) else none
def whF (c : Env → Sto → Rs Bool) (b : Env → Sto → Rs Fl) : Nat → Env → Sto → Rs Fl
  | 0, _, _ => none
  | n + 1, ρ, S => bnd (c ρ S) fun t S1 => if t = true then bnd (b ρ S1) fun fl S2 => match fl with
    | .nx ρ2 => whF c b n ρ2 S2
    | .bk ρ2 => some (.nx ρ2, S2)
    | .rt d => some (.rt d, S2) else some (.nx ρ, S1)
open Classical in
noncomputable def whE (c : Env → Sto → Rs Bool) (b : Env → Sto → Rs Fl) (ρ : Env) (S : Sto) : Rs Fl :=
  if h : ∃ n r, whF c b n ρ S = some r then whF c b h.choose ρ S else none
/-- the comprehension's own names forgotten -/
def wipeE (ρ : Env) : List Nat → Env
  | [] => ρ
  | v :: vs => (wipeE ρ vs).set v none
def methD (m : MT) (S : Sto) (d : D) (ds : List D) : Rs D := match m, d, ds with
  | .append, .ref r, [x] => match S[r]? with
    | some (.lst xs) => if xs.length < sizeLine then some (.non, S.set r (.lst (xs ++ [x]))) else none
    | _ => none
  | .pop, .ref r, [] => match S[r]? with
    | some (.lst xs) => match xs[xs.length - 1]? with
      | some x => some (x, S.set r (.lst xs.dropLast))
      | none => none
    | _ => none
  | .extend, .ref r, [.lst ys] => match S[r]? with
    | some (.lst xs) => if xs.length + ys.length ≤ sizeLine then some (.non, S.set r (.lst (xs ++ ys))) else none
    | _ => none
  | _, _, _ => none
/-- the pairs of a list of pairs -/
def pairsD : List D → Option (List (Key × D))
  | [] => some []
  | .tup [k, v] :: r => match keyD k, pairsD r with
    | some q, some s => some ((q, v) :: s)
    | _, _ => none
  | _ => none
def dctD : D → Option (List (Key × D))
  | .tup xs => pairsD xs
  | .lst xs => pairsD xs
  | _ => none
def dkOf (S : Sto) (d : D) : Option Unit := match d with
  | .ref r => match S[r]? with
    | some (.dk _) => some ()
    | _ => none
  | _ => none
/-- d.get(k, z) -/
def dgetD (S : Sto) (d y z : D) : Option D := match d with
  | .ref r => match S[r]? with
    | some (.dk kvs) => (keyD y).map fun q => (lookK kvs q).getD z
    | _ => none
  | _ => none
def putI (S : Sto) (o i v : D) : Option Sto := match o with
  | .ref r => match S[r]? with
    | some (.lst xs) => match i with
      | .int k => (ixN xs.length k).map fun j => S.set r (.lst (xs.set j v))
      | _ => none
    | some (.dk kvs) => (keyD i).bind fun k => if kvs.length < sizeLine then some (S.set r (.dk (storeK kvs k v))) else none
    | _ => none
  | _ => none
instance (a b : Int) : Decidable (CMul a b) := inferInstanceAs (Decidable (_ ∨ _))
def augGet (S : Sto) (d k : D) : Option D := match d with
  | .ref r => match S[r]? with
    | some (.dk kvs) => (keyD k).bind fun q => lookK kvs q
    | _ => none
  | _ => none
def augD (op : Operator) (d e : D) : Option D := match op, d, e with
  | .Add, .int a, .int b => some (.int (a + b))
  | .Sub, .int a, .int b => some (.int (a - b))
  | .Mult, .int a, .int b => if CMul a b then some (.int (a * b)) else none
  | .Add, .str a, .str b => if a.length + b.length ≤ sizeLine then some (.str (a ++ b)) else none
  | _, _, _ => none
/-- a class of the table -/
def clsOf (G : GT) (g : Nat) : Option (Str × List (Str × Nat) × List Str) := match G[g]? with
  | some (x, .cls ms fl) => some (x, ms, fl)
  | _ => none
/-- a field -/
def fldD (G : GT) (S : Sto) (d : D) (f : Str) : Option D := match d with
  | .ref r => match S[r]? with
    | some (.ob g x fs) => match clsOf G g with
      | some (y, _, fl) => if y = x ∧ f ∈ fl then fs.lookup f else none
      | none => none
    | _ => none
  | _ => none
/-- an instance of a class, without such a field -/
def isOb (G : GT) (S : Sto) (d : D) (c : Nat) (m : Str) : Option Unit := match d with
  | .ref r => match S[r]? with
    | some (.ob g x fs) => match clsOf G c with
      | some (y, _, _) => if g = c ∧ y = x ∧ fs.lookup m = none then some () else none
      | none => none
    | _ => none
  | _ => none
/-- a method's place -/
def metOf (G : GT) (c : Nat) (m : Str) : Option Nat := match clsOf G c with
  | some (_, ms, _) => ms.lookup m
  | none => none
def setFs (f : Str) (v : D) : List (Str × D) → List (Str × D)
  | [] => [(f, v)]
  | (g, x) :: r => if g = f then (g, v) :: r else (g, x) :: setFs f v r
/-- a field is set -/
def setD (G : GT) (S : Sto) (d : D) (f : Str) (v : D) : Option Sto := match d with
  | .ref r => match S[r]? with
    | some (.ob g x fs) => match clsOf G g with
      | some (y, _, fl) => if y = x ∧ f ∈ fl ∧ fs.length < 1000 then some (S.set r (.ob g x (setFs f v fs))) else none
      | none => none
    | _ => none
  | _ => none
def mergeKD (kvs more : List (Key × D)) : List (Key × D) := more.foldl (fun acc kv => storeK acc kv.1 kv.2) kvs
/-- the pairs of a display -/
def keysD : List (D × D) → Option (List (Key × D))
  | [] => some []
  | (k, v) :: r => match keyD k, keysD r with
    | some q, some s => some ((q, v) :: s)
    | _, _ => none

section
variable (G : GT) (cl : Nat → List D → Sto → Rs D)
mutual
noncomputable def evE : ME → Env → Sto → Rs D
  | .var i, ρ, S => match ρ[i]? with
    | some (some d) => some (d, S)
    | _ => none
  | .int i, _, S => some (.int i, S)
  | .str s, _, S => some (.str s, S)
  | .bl b, _, S => some (.bl b, S)
  | .non, _, S => some (.non, S)
  | .con g, _, S => lft (conOf G g) fun d => some (d, S)
  | .bin op a b, ρ, S => bnd (evE a ρ S) fun d S1 => bnd (evE b ρ S1) fun e S2 => lft (binD op d e) fun r => some (r, S2)
  | .madd a b, ρ, S => bnd (evE a ρ S) fun d S1 => bnd (evE b ρ S1) fun e S2 => match d, e with
    | .lst xs, .lst ys => if xs.length + ys.length ≤ sizeLine then some (.ref S2.length, S2 ++ [.lst (xs ++ ys)]) else none
    | _, _ => none
  | .neg a, ρ, S => bnd (evE a ρ S) fun d S1 => match d with
    | .int i => some (.int (-i), S1)
    | _ => none
  | .cmp op a b, ρ, S => bnd (evE a ρ S) fun d S1 => bnd (evE b ρ S1) fun e S2 => lft (cmpD S2 op d e) fun r => some (.bl r, S2)
  | .ch op op' a b c, ρ, S => bnd (evE a ρ S) fun d S1 => bnd (evE b ρ S1) fun e S2 => lft (cmpD S2 op d e) fun r => if r = true then bnd (evE c ρ S2) fun f S3 => lft (cmpD S3 op' e f) fun q => some (.bl q, S3) else some (.bl false, S2)
  | .and a b, ρ, S => bnd (evE a ρ S) fun d S1 => lft (truD S1 d) fun t => if t = true then evE b ρ S1 else some (d, S1)
  | .or a b, ρ, S => bnd (evE a ρ S) fun d S1 => lft (truD S1 d) fun t => if t = true then some (d, S1) else evE b ρ S1
  | .one a, ρ, S => evE a ρ S
  | .not a, ρ, S => bnd (evE a ρ S) fun d S1 => lft (truD S1 d) fun t => some (.bl (!t), S1)
  | .ifE c a b, ρ, S => bnd (evE c ρ S) fun d S1 => lft (truD S1 d) fun t => if t = true then evE a ρ S1 else evE b ρ S1
  | .tup es, ρ, S => bnd (evEs es ρ S) fun ds S1 => if ds.length ≤ sizeLine then some (.tup ds, S1) else none
  | .lst es, ρ, S => bnd (evEs es ρ S) fun ds S1 => if ds.length ≤ sizeLine then some (.lst ds, S1) else none
  | .mlst es, ρ, S => bnd (evEs es ρ S) fun ds S1 => if ds.length ≤ sizeLine then some (.ref S1.length, S1 ++ [.lst ds]) else none
  | .dict ps, ρ, S => bnd (evPs ps ρ S) fun ps S1 => lft (keysD ps) fun kvs => if kvs.length ≤ 15 then some (.ref S1.length, S1 ++ [.dk (mergeKD [] kvs)]) else none
  | .idx a i, ρ, S => bnd (evE a ρ S) fun d S1 => bnd (evE i ρ S1) fun e S2 => lft (idxD S2 d e) fun r => some (r, S2)
  | .sl a lo hi, ρ, S => bnd (evE a ρ S) fun d S1 => bnd (evO lo ρ S1) fun l S2 => bnd (evO hi ρ S2) fun h S3 => lft (slD S3 d l h) fun r => some (r, S3)
  | .slR a hi, ρ, S => bnd (evE a ρ S) fun d S1 => bnd (evO hi ρ S1) fun h S2 => lft (slRD S2 d h) fun r => some (r, S2)
  | .call g es, ρ, S => bnd (evEs es ρ S) fun ds S1 => cl g ds S1
  | .attr a f, ρ, S => bnd (evE a ρ S) fun d S1 => lft (fldD G S1 d f) fun r => some (r, S1)
  | .mcall c o m es, ρ, S => bnd (evE o ρ S) fun d S1 => lft (isOb G S1 d c m) fun _ => lft (metOf G c m) fun g => bnd (evEs es ρ S1) fun ds S2 => cl g (d :: ds) S2
  | .make c es, ρ, S => lft (clsOf G c) fun q => lft (metOf G c "__init__") fun g => bnd (evEs es ρ S) fun ds S1 => bnd (cl g (.ref S1.length :: ds) (S1 ++ [.ob c q.1 []])) fun d S2 => if isNone d = true then some (.ref S1.length, S2) else none
  | .bi b _ es, ρ, S => bnd (evEs es ρ S) fun ds S1 => lft (biD S1 b ds) fun r => some (r, S1)
  | .isI _ _ n a, ρ, S => bnd (evE a ρ S) fun d S1 => lft (tyName S1 d) fun t => lft (kitB t n) fun b => some (.bl b, S1)
  | .meth m o es, ρ, S => bnd (evE o ρ S) fun d S1 => lft (lstOf S1 d) fun _ => bnd (evEs es ρ S1) fun ds S2 => methD m S2 d ds
  | .mdict _ e, ρ, S => bnd (evE e ρ S) fun d S1 => lft (dctD d) fun kvs => some (.ref S1.length, S1 ++ [.dk (mergeKD [] kvs)])
  | .dget o k d, ρ, S => bnd (evE o ρ S) fun x S1 => lft (dkOf S1 x) fun _ => bnd (evE k ρ S1) fun y S2 => bnd (evE d ρ S2) fun z S3 => lft (dgetD S3 x y z) fun r => some (r, S3)
  | .sset _ _ e, ρ, S => bnd (evE e ρ S) fun d S1 => lft (ssetD d) fun r => some (r, S1)
  | .lc mu vs elt tg it cs, ρ, S => bnd (evI it ρ S) fun w S1 => if w.1.length ≤ sizeLine then
      bnd (compL w.2 w.1 (fun x S2 => lft (asgG tg x (wipeE ρ vs)) fun ρ1 => bnd (evC cs ρ1 S2) fun t S3 => if t = true then bnd (evE elt ρ1 S3) fun y S4 => some (some y, S4) else some (none, S3)) w.1 S1 [])
        fun acc S5 => if mu = true then some (.ref S5.length, S5 ++ [.lst acc]) else some (.lst acc, S5) else none
  | .lc2 mu vs elt tg it cs vs1 tg1 it1 cs1, ρ, S => bnd (evI it ρ S) fun w S1 => bnd (compA w.2 w.1 (fun x S2 acc => lft (asgG tg x (wipeE ρ vs)) fun ρ1 => bnd (evC cs ρ1 S2) fun t S3 => if t = true then
      bnd (evI it1 ρ1 S3) fun w1 S4 => if acc.length + w1.1.length ≤ sizeLine then compL w1.2 w1.1 (fun y S5 => lft (asgG tg1 y (wipeE ρ1 vs1)) fun ρ2 => bnd (evC cs1 ρ2 S5) fun t1 S6 => if t1 = true then bnd (evE elt ρ2 S6) fun z S7 => some (some z, S7) else some (none, S6)) w1.1 S4 acc else none
      else some (acc, S3)) w.1 S1 []) fun acc S8 => if mu = true then some (.ref S8.length, S8 ++ [.lst acc]) else some (.lst acc, S8)
noncomputable def evEs : MEs → Env → Sto → Rs (List D)
  | .nil, _, S => some ([], S)
  | .cons e es, ρ, S => bnd (evE e ρ S) fun d S1 => bnd (evEs es ρ S1) fun ds S2 => some (d :: ds, S2)
noncomputable def evO : MO → Env → Sto → Rs (Option Int)
  | .none, _, S => some (none, S)
  | .some e, ρ, S => bnd (evE e ρ S) fun d S1 => match d with
    | .int i => some (some i, S1)
    | _ => none
/-- a comprehension's test -/
noncomputable def evC : MO → Env → Sto → Rs Bool
  | .none, _, S => some (true, S)
  | .some e, ρ, S => bnd (evE e ρ S) fun d S1 => lft (truD S1 d) fun t => some (t, S1)
noncomputable def evPs : MPs → Env → Sto → Rs (List (D × D))
  | .nil, _, S => some ([], S)
  | .cons k v ps, ρ, S => bnd (evE k ρ S) fun a S1 => bnd (evE v ρ S1) fun b S2 => bnd (evPs ps ρ S2) fun r S3 => some ((a, b) :: r, S3)
noncomputable def evI : MI → Env → Sto → Rs (List D × Option Nat)
  | .seq e, ρ, S => bnd (evE e ρ S) fun d S1 => lft (itemsOf S1 d) fun w => some (w, S1)
  | .rng _ es, ρ, S => bnd (evEs es ρ S) fun ds S1 => lft (rngD ds) fun xs => some ((xs, none), S1)
end
noncomputable def evT (e : ME) (ρ : Env) (S : Sto) : Rs Bool := bnd (evE G cl e ρ S) fun d S1 => lft (truD S1 d) fun t => some (t, S1)
mutual
noncomputable def evS : MS → Env → Sto → Rs Fl
  | .asg tg e, ρ, S => bnd (evE G cl e ρ S) fun d S1 => lft (asgG tg d ρ) fun ρ1 => some (.nx ρ1, S1)
  | .par2 i j a b, ρ, S => bnd (evE G cl a ρ S) fun d S1 => bnd (evE G cl b ρ S1) fun e S2 => some (.nx ((ρ.set i (some d)).set j (some e)), S2)
  | .par3 i j l a b c, ρ, S => bnd (evE G cl a ρ S) fun d S1 => bnd (evE G cl b ρ S1) fun e S2 => bnd (evE G cl c ρ S2) fun f S3 => some (.nx (((ρ.set i (some d)).set j (some e)).set l (some f)), S3)
  | .aug i op e, ρ, S => match ρ[i]? with
    | some (some d) => bnd (evE G cl e ρ S) fun y S1 => lft (augD op d y) fun r => some (.nx (ρ.set i (some r)), S1)
    | _ => none
  | .setI o i e, ρ, S => bnd (evE G cl e ρ S) fun v S1 => bnd (evE G cl o ρ S1) fun d S2 => bnd (evE G cl i ρ S2) fun k S3 => lft (putI S3 d k v) fun S4 => some (.nx ρ, S4)
  | .setA o f e, ρ, S => bnd (evE G cl e ρ S) fun v S1 => bnd (evE G cl o ρ S1) fun d S2 => lft (setD G S2 d f v) fun S3 => some (.nx ρ, S3)
  | .augI o i op e, ρ, S => bnd (evE G cl o ρ S) fun d S1 => bnd (evE G cl i ρ S1) fun k S2 => lft (augGet S2 d k) fun x => bnd (evE G cl e ρ S2) fun y S3 => lft (augD op x y) fun r => lft (putI S3 d k r) fun S4 => some (.nx ρ, S4)
  | .ifS c a b, ρ, S => bnd (evT G cl c ρ S) fun t S1 => if t = true then evSs a ρ S1 else evSs b ρ S1
  | .whl c b, ρ, S => whE (evT G cl c) (evSs b) ρ S
  | .forS tg it b, ρ, S => bnd (evI G cl it ρ S) fun w S1 => forL w.2 w.1 (fun x ρ1 S2 => lft (asgG tg x ρ1) fun ρ2 => evSs b ρ2 S2) w.1 ρ S1
  | .ret e, ρ, S => bnd (evE G cl e ρ S) fun d S1 => some (.rt d, S1)
  | .retN, ρ, S => some (.rt .non, S)
  | .ex e, ρ, S => bnd (evE G cl e ρ S) fun _ S1 => some (.nx ρ, S1)
  | .pass, ρ, S => some (.nx ρ, S)
  | .brk, ρ, S => some (.bk ρ, S)
  | .nev, _, _ => none
noncomputable def evSs : MSs → Env → Sto → Rs Fl
  | .nil, ρ, S => some (.nx ρ, S)
  | .cons s ss, ρ, S => bnd (evS s ρ S) fun fl S1 => match fl with
    | .nx ρ1 => evSs ss ρ1 S1
    | .bk ρ1 => some (.bk ρ1, S1)
    | .rt d => some (.rt d, S1)
end
end
open Classical in
/-- what a call leaves: new cells are forgotten where nothing points at them -/
noncomputable def prune (S : Sto) (d : D) (S' : Sto) : D × Sto := if S'.take S.length = S ∧ below S.length d = true then (d, S) else (d, S')
noncomputable def callK (G : GT) : Nat → Nat → List D → Sto → Rs D
  | 0, _, _, _ => none
  | k + 1, g, ds, S => match G[g]? with
    | some (_, q) => match q.fn? with
      | some f => if ds.length = f.np then bnd (evSs G (callK G k) f.body (ds.map some ++ List.replicate (f.nl - ds.length) none) S) fun fl S1 => match fl with
      | .nx _ => some (prune S .non S1)
      | .rt d => some (prune S d S1)
      | .bk _ => none else none
      | none => none
    | none => none
end Rw

/-! M5: whether a text by slots is the text as it stands -/
namespace Rw
open PySem L2

structure Syn where
  N : List Str
  sc : Scope
  fn : Str → Bool
def Syn.blk (Γ : Syn) (scope : Scope) : Syn := ⟨Γ.N, relS scope Γ.sc, fun x => scope.names.lookup x == some .cell⟩
def visB (Γ : Syn) (i : Nat) (x : Str) : Bool := decide (Γ.N[i]? = some x) && ((match Γ.sc.names.lookup x with
  | some .local => true
  | some .cell => true
  | some .free => true
  | _ => false) && (!(x == "__debug__") && !(x == "__classdict__")))
def locB (Γ : Syn) (i : Nat) (x : Str) : Bool := decide (Γ.N[i]? = some x) && (match Γ.sc.names.lookup x with
  | some .local => true
  | some .cell => Γ.fn x
  | _ => false)
def lclB (Γ : Syn) (i : Nat) (x : Str) : Bool := decide (Γ.N[i]? = some x) && decide (Γ.sc.names.lookup x = some .local)
/-- a global name, the g-th of the table -/
def glB (G : GT) (Γ : Syn) (g : Nat) (x : Str) : Bool := (match G[g]? with
  | some (y, _) => decide (y = x)
  | none => false) && (decide (Γ.sc.names.lookup x = some .globalImplicit) && (!(x == "__debug__") && decide (x ≠ "__name__")))
def isFnB (G : GT) (g : Nat) : Bool := match G[g]? with
  | some (_, .fn _) => true
  | _ => false
def isClsB (G : GT) (g : Nat) : Bool := (clsOf G g).isSome
def isBlt (G : GT) (g : Nat) : Bool := match G[g]? with
  | some (_, .blt) => true
  | _ => false
/-- no star, no slice, no set -/
def okX : Expr → Bool
  | .Starred .. => false
  | .Slice .. => false
  | .Set .. => false
  | _ => true
def notLc : Expr → Bool
  | .ListComp .. => false
  | .SetComp .. => false
  | .DictComp .. => false
  | _ => true
/-- f(x) -/
def setCall : Expr → Option (Str × Expr)
  | .Call (.Name t _) [y] [] _ => some (t, y)
  | _ => none
def noCall : Expr → Bool
  | .Call _ xs _ _ => !xs.isEmpty
  | _ => true
def biName : BI → Str
  | .len => "len" | .abs => "abs" | .max => "max" | .min => "min" | .int => "int" | .str => "str" | .tuple => "tuple" | .list => "list" | .any => "any" | .all => "all" | .sorted => "sorted"
def mtName : MT → Str
  | .append => "append" | .pop => "pop" | .extend => "extend"
def ownOf (N : List Str) (vs : List Nat) : List (Str × Nat) := vs.map fun i => ((N[i]?).getD "", i)
mutual
def slG : MG → List Nat
  | .name i => [i]
  | .tup ts => slGs ts
def slGs : MGs → List Nat
  | .nil => []
  | .cons t ts => slG t ++ slGs ts
end
mutual
def chkG : MG → Syn → Expr → Bool
  | .name i, Γ, .Name x _ => locB Γ i x
  | .tup ts, Γ, .Tuple es _ _ => chkGs ts Γ es
  | _, _, _ => false
def chkGs : MGs → Syn → List Expr → Bool
  | .nil, _, [] => true
  | .cons t ts, Γ, e :: es => okX e && (chkG t Γ e && chkGs ts Γ es)
  | _, _, _ => false
end
section
variable (G : GT)
mutual
def chkE : ME → Syn → Expr → Bool
  | .var i, Γ, .Name x _ => visB Γ i x
  | .int i, _, .Constant (.int j) _ _ => decide (i = j)
  | .str s, _, .Constant (.str t) _ _ => decide (s = t)
  | .bl b, _, .Constant (.bool c) _ _ => b == c
  | .non, _, .Constant .none _ _ => true
  | .con g, Γ, .Name x _ => glB G Γ g x && (match conOf G g with
    | some _ => true
    | none => false)
  | .bin op a b, Γ, .BinOp x op' y _ => decide (op = op') && (chkE a Γ x && chkE b Γ y)
  | .madd a b, Γ, .BinOp x op y _ => decide (op = .Add) && (chkE a Γ x && chkE b Γ y)
  | .neg a, Γ, .UnaryOp .USub x _ => chkE a Γ x
  | .cmp op a b, Γ, .Compare x [op'] [y] _ => decide (op = op') && (okX y && (chkE a Γ x && chkE b Γ y))
  | .ch op op' a b c, Γ, .Compare x [p, q] [y, z] _ => decide (op = p) && (decide (op' = q) && (okX z && (chkE a Γ x && (chkE b Γ y && chkE c Γ z))))
  | .and a b, Γ, .BoolOp .And (x :: y :: r) p => chkE a Γ x && chkE b Γ (.BoolOp .And (y :: r) p)
  | .or a b, Γ, .BoolOp .Or (x :: y :: r) p => chkE a Γ x && chkE b Γ (.BoolOp .Or (y :: r) p)
  | .one a, Γ, .BoolOp _ [x] _ => chkE a Γ x
  | .not a, Γ, .UnaryOp .Not x _ => chkE a Γ x
  | .ifE c a b, Γ, .IfExp t x y _ => chkE c Γ t && (chkE a Γ x && chkE b Γ y)
  | .tup es, Γ, .Tuple xs _ _ => chkEs es Γ xs
  | .lst es, Γ, .List xs _ => chkEs es Γ xs
  | .mlst es, Γ, .List xs _ => chkEs es Γ xs
  | .dict ps, Γ, .Dict ks vs _ => decide (ks.length ≤ 15) && (decide (ks.length = vs.length) && chkPs ps Γ ks vs)
  | .idx a i, Γ, .Subscript x y _ => okX y && (chkE a Γ x && chkE i Γ y)
  | .sl a lo hi, Γ, .Subscript x (.Slice l h none _) _ => chkE a Γ x && (chkO lo Γ l && chkO hi Γ h)
  | .slR a hi, Γ, .Subscript x (.Slice none h (some (.UnaryOp .USub (.Constant (.int i) _ _) _)) _) _ => decide (i = 1) && (chkE a Γ x && chkO hi Γ h)
  | .call g es, Γ, .Call (.Name x _) xs [] _ => glB G Γ g x && (isFnB G g && chkEs es Γ xs)
  | .attr a f, Γ, .Attribute x f' _ => decide (f = f') && (noCall x && chkE a Γ x)
  | .mcall c o m es, Γ, .Call (.Attribute y nm ap) xs [] cp => decide (nm = m) && (decide (m ≠ "__init__") && (noCall y && ((ap.endLine == cp.line) && (decide (xs.length < 30) && ((metOf G c m).isSome && (chkE o Γ y && chkEs es Γ xs))))))
  | .make g es, Γ, .Call (.Name x _) xs [] _ => glB G Γ g x && (isClsB G g && ((metOf G g "__init__").isSome && chkEs es Γ xs))
  | .bi b g es, Γ, .Call (.Name x _) xs [] _ => glB G Γ g x && (isBlt G g && (decide (x = biName b) && (!xs.isEmpty && chkEs es Γ xs)))
  | .isI g h n a, Γ, .Call (.Name x _) [y, .Name t _] [] _ => glB G Γ g x && (isBlt G g && (decide (x = "isinstance") && (glB G Γ h t && (isBlt G h && (decide (bootBuiltins t = some (.type n)) && (okX y && chkE a Γ y))))))
  | .meth m o es, Γ, .Call (.Attribute y nm ap) xs [] cp => decide (nm = mtName m) && (noCall y && ((ap.endLine == cp.line) && (decide (xs.length < 30) && (chkE o Γ y && chkEs es Γ xs))))
  | .mdict g e, Γ, .Call (.Name x _) [y] [] _ => glB G Γ g x && (isBlt G g && (decide (x = "dict") && (okX y && chkE e Γ y)))
  | .dget o k d, Γ, .Call (.Attribute y nm ap) [u, v] [] cp => decide (nm = "get") && (noCall y && ((ap.endLine == cp.line) && (okX u && (okX v && (chkE o Γ y && (chkE k Γ u && chkE d Γ v))))))
  | .sset g h e, Γ, .Call (.Name x _) [z] [] _ => glB G Γ g x && (isBlt G g && (decide (x = "sorted") && (setCall z).any fun q => glB G Γ h q.1 && (isBlt G h && (decide (q.1 = ("set" : Str)) && (okX q.2 && chkE e Γ q.2)))))
  | .lc _ vs elt tg it cs, Γ, .ListComp y [⟨t, i, ifs, a⟩] scope _ => decide (a = 0) && (okX i && (blkC Γ.N Γ.sc scope (ownOf Γ.N vs) && ((slG tg).all (fun j => decide (j ∈ vs)) &&
      (chkG tg (Γ.blk scope) t && (chkI it Γ i && (chkCs cs (Γ.blk scope) ifs && chkE elt (Γ.blk scope) y))))))
  | .lc2 _ vs elt tg it cs vs1 tg1 it1 cs1, Γ, .ListComp y [⟨t, i, ifs, a⟩, ⟨t1, i1, ifs1, a1⟩] scope _ => decide (a = 0) && (decide (a1 = 0) && (okX i && (okX i1 && (blkC Γ.N Γ.sc scope (ownOf Γ.N vs) && (vs1.all (fun j => decide (j ∈ vs)) && ((slG tg).all (fun j => decide (j ∈ vs)) && ((slG tg1).all (fun j => decide (j ∈ vs1)) &&
      (chkG tg (Γ.blk scope) t && (chkI it Γ i && (chkCs cs (Γ.blk scope) ifs && (chkG tg1 (Γ.blk scope) t1 && (chkI it1 (Γ.blk scope) i1 && (chkCs cs1 (Γ.blk scope) ifs1 && chkE elt (Γ.blk scope) y)))))))))))))
  | _, _, _ => false
def chkEs : MEs → Syn → List Expr → Bool
  | .nil, _, [] => true
  | .cons e es, Γ, x :: xs => okX x && (chkE e Γ x && chkEs es Γ xs)
  | _, _, _ => false
def chkO : MO → Syn → Option Expr → Bool
  | .none, _, none => true
  | .some e, Γ, some x => chkE e Γ x
  | _, _, _ => false
def chkCs : MO → Syn → List Expr → Bool
  | .none, _, [] => true
  | .some e, Γ, [x] => chkE e Γ x
  | _, _, _ => false
def chkPs : MPs → Syn → List (Option Expr) → List Expr → Bool
  | .nil, _, [], [] => true
  | .cons k v ps, Γ, some x :: ks, y :: vs => chkE k Γ x && (chkE v Γ y && chkPs ps Γ ks vs)
  | _, _, _, _ => false
def chkI : MI → Syn → Expr → Bool
  | .seq e, Γ, x => chkE e Γ x
  | .rng g es, Γ, .Call (.Name x _) xs [] _ => glB G Γ g x && (isBlt G g && (decide (x = "range") && ((decide (xs.length = 1) || (decide (xs.length = 2) || decide (xs.length = 3))) && chkEs es Γ xs)))
  | _, _, _ => false
end
/-- both names on one line, and not all that stands there is folded: the pair is stored from the right -/
def swB (ls : List Pos) (vs : List Expr) : Bool := (match ls with
  | [] => true
  | p :: r => r.all fun q => q.line == p.line) && (!vs.all (foldedForSure 8) && !vs.all (constantsAlone 8))
/-- stored from the left -/
def noSw (Γ : Syn) (ts vs : List Expr) : Bool :=
  (!(ts.length == 2 || ts.length == 3) || vs.length != ts.length) ||
    (((ts.filterMap fun
      | .Name id pos => if Γ.sc.names.lookup id == some .local && pos.line == (ts.head?.map (·.pos.line)).getD 0 then some id else none
      | _ => none).length != ts.length) || vs.all (foldedForSure 8))
def asgB (Γ : Syn) (t v : Expr) : Bool := match t, v with
  | .Name y py, .ListComp e _ s p => (decide (Γ.sc.names.lookup y = some .local) && ((py.line == p.line) && !(s.names.any fun (n, k) => n == y && (k == .local || k == .cell)))) || decide (Γ.sc.names.lookup y = some .cell)
  | .Tuple ts _ _, .Tuple vs _ _ => noSw Γ ts vs
  | .Tuple _ _ _, .ListComp _ _ _ _ => true
  | _, v => notLc v
mutual
def chkS : MS → Syn → Stmt → Bool
  | .asg tg e, Γ, st => (match st with
    | .Assign [t] v _ => asgB Γ t v && (chkG tg Γ t && chkE G e Γ v)
    | _ => false)
  | .par2 i j a b, Γ, st => (match st with
    | .Assign [.Tuple [.Name x px, .Name y py] _ _] (.Tuple [u, v] _ _) _ => swB [px, py] [u, v] && (lclB Γ i x && (lclB Γ j y && (decide (i ≠ j) && (decide (x ≠ y) && (okX u && (okX v && (chkE G a Γ u && chkE G b Γ v)))))))
    | _ => false)
  | .par3 i j l a b c, Γ, st => (match st with
    | .Assign [.Tuple [.Name x px, .Name y py, .Name z pz] _ _] (.Tuple [u, v, w] _ _) _ => swB [px, py, pz] [u, v, w] && (lclB Γ i x && (lclB Γ j y && (lclB Γ l z && (decide (i ≠ j ∧ i ≠ l ∧ j ≠ l) && (decide (x ≠ y ∧ x ≠ z ∧ y ≠ z) && (okX u && (okX v && (okX w && (chkE G a Γ u && (chkE G b Γ v && chkE G c Γ w))))))))))
    | _ => false)
  | .aug i op e, Γ, st => (match st with
    | .AugAssign (.Name x _) op' v _ => locB Γ i x && (decide (op = op') && chkE G e Γ v)
    | _ => false)
  | .setI o i e, Γ, st => (match st with
    | .Assign [.Subscript p q _] v _ => okX q && (notLc v && (chkE G e Γ v && (chkE G o Γ p && chkE G i Γ q)))
    | _ => false)
  | .setA o f e, Γ, st => (match st with
    | .Assign [.Attribute p f' _] v _ => decide (f = f') && (notLc v && (chkE G e Γ v && chkE G o Γ p))
    | _ => false)
  | .augI o i op e, Γ, st => (match st with
    | .AugAssign (.Subscript p q _) op' v _ => okX q && (decide (op = op') && (chkE G e Γ v && (chkE G o Γ p && chkE G i Γ q)))
    | _ => false)
  | .ifS c a b, Γ, st => (match st with
    | .If t x y _ => chkE G c Γ t && (chkSs a Γ x && chkSs b Γ y)
    | _ => false)
  | .whl c b, Γ, st => (match st with
    | .While t x [] _ => chkE G c Γ t && chkSs b Γ x
    | _ => false)
  | .forS tg it b, Γ, st => (match st with
    | .For t i x [] _ => okX i && (chkG tg Γ t && (chkI G it Γ i && chkSs b Γ x))
    | _ => false)
  | .ret e, Γ, st => (match st with
    | .Return (some v) _ => chkE G e Γ v
    | _ => false)
  | .retN, _, st => (match st with
    | .Return none _ => true
    | _ => false)
  | .ex e, Γ, st => (match st with
    | .Expr v _ => notLc v && chkE G e Γ v
    | _ => false)
  | .pass, _, st => (match st with
    | .Pass _ => true
    | _ => false)
  | .brk, _, st => (match st with
    | .Break _ => true
    | _ => false)
  | .nev, _, _ => true
def chkSs : MSs → Syn → List Stmt → Bool
  | .nil, _, [] => true
  | .cons s ss, Γ, x :: xs => chkS s Γ x && chkSs ss Γ xs
  | _, _, _ => false
end
end
end Rw

/-! M6: the text does what is said: the parts -/
namespace Rw
open PySem PySem.Spec PyProof.Rows L2

/-! ### set(xs), dict(ps) -/
section
variable {P : Program} {w : World} {A : Around} {E : Value → Shared → Prop} {s : Shared}
/-- the new set's object, not yet filled -/
abbrev setOb (w : World) : Obj := { cls := .type "set", dict := none, data := .set #[] 0 (.fresh 0 0 (!w.params.followText "set-order")) }
/-- set(l) of a list of whole numbers -/
theorem set_of_list {l : Addr} {its : Array Value} {ns : List Int} {Q : Value → Shared → Prop} (hh : A.handled = none) (hl : s.heap.IsList l its) (hi : IntsAre its.toList ns) (hb : ns.length + 1 < scanBound)
    (q : ∀ (h' : Heap) (tk c : Nat), SetR w h' s.heap.objs.size (fun j => decide (j ∈ ns)) c → c ≤ ns.length → (∀ b o, s.heap.get? b = some o → h'.get? b = some o) → Q (.ref s.heap.objs.size) { s with heap := h', toks := tk }) :
    wpAny (model P w) A (call (.type "set") [.ref l]) Q E s := by
  have hn : its.size = ns.length := by simpa using IntsAre.length hi
  have g0 : (s.heap.push (setOb w)).get? s.heap.objs.size = some (setOb w) := Heap.get?_push_size _ rfl
  have hT : Shared.TypeIs { s with heap := s.heap.push (setOb w) } (.ref s.heap.objs.size) "set" := ⟨_, g0, rfl⟩
  have tc := F.called_set
  obtain ⟨c0, c1, hm⟩ := tc.mro
  have t1 := tc.made
  have t2 := tc.sub
  have t3 := tc.notType
  have t4 := tc.canCreate
  have t5 := F.typeCall_set_1 (.ref l)
  have t6 := tc.init.lookup
  have t7 := tc.init.bind (.ref s.heap.objs.size)
  refine wpAny_call (codeAny_of_tree ?_)
  show wpAny _ _ (callAny (.type "set") _) _ _ _
  refine wpAny_pure ⟨Code.quiet_builtin _ (by decide +kernel), codeAny_builtin F.entry_type_call ?_⟩
  rw [Around.under_plain (weight_type_call_type "set" [.ref l] []) rfl]
  repeat (any_goals (first | assumption | wp_step))
  refine codeAny_mono (code_set_led1 (.ref l) (E := E) (Q₁ := fun ob s₁ => ob = .ref s.heap.objs.size ∧ s₁ = { s with heap := s.heap.push (setOb w) }) ⟨rfl, rfl⟩) fun r s₁ hr => ?_
  cases r with
  | error e => exact hr
  | ok fl =>
  cases fl with
  | ret ob =>
  obtain ⟨rfl, rfl⟩ := hr
  repeat (any_goals (first | assumption | wp_step))
  refine codeAny_mono (codeAny_call_builtin (R := wants (fun r s₂ => r = .none ∧ Q (.ref s.heap.objs.size) s₂) E) tc.init.plain F.entry_set_init (check_set_init_1 hT ?_)) fun r₂ s₂ hr₂ => ?_
  rotate_left
  · cases r₂ with
    | error e => exact hr₂
    | ok f₂ =>
      cases f₂ with
      | ret r =>
        obtain ⟨rfl, hq⟩ := hr₂
        repeat (any_goals (first | assumption | wp_step))
      | _ => exact hr₂.elim
  have hl1 : (s.heap.push (setOb w)).IsList l its := hl.push _
  have old : ∀ b o, s.heap.get? b = some o → b < s.heap.objs.size := fun b o e => Heap.lt_size e
  obtain ⟨o, ho, hc, n, hd⟩ := hl
  have hlt := old l o ho
  obtain ⟨oc, od, odt, os⟩ := o
  simp only at hc hd
  subst hc hd
  have ho1 : (s.heap.push (setOb w)).get? l = some ⟨.type "list", od, .seq its n, os⟩ := Heap.get?_push_of_some _ ho
  have k1 := F.sub_list_set
  have k2 := F.sub_list_frozenset
  have k3 : (Value.type "list" == Value.type "dict") = false := by decide
  unfold Builtin.«set.__init__» noKeywords Builtin.Frozenset.updateFrom
  generalize hIt : pyIter = It
  wp_walk
  subst hIt
  refine wpAny_pyIter_list hl1 (wpAny_bind (wpAny_runValue ?_))
  have sz : (s.heap.push (setOb w)).objs.size = s.heap.objs.size + 1 := Heap.size_push ..
  have n1 : l ≠ (s.heap.push (setOb w)).objs.size := by rw [sz]; exact Nat.ne_of_lt (Nat.lt_succ_of_lt hlt)
  have n2 : s.heap.objs.size ∉ [(s.heap.push (setOb w)).objs.size, l] := by
    rw [sz]
    simp only [List.mem_cons, List.not_mem_nil, or_false, not_or]
    exact ⟨Nat.ne_of_lt (Nat.lt_succ_self _), Nat.ne_of_gt hlt⟩
  refine set_update_ints ((Walks.list (by simpa using hh) _ l n1 its).toS) s.heap.objs.size n2 ns hn hb (fun i v hv => ?_) its.size 0 _ (Nat.sub_zero _) (Nat.zero_le _) ⟨⟨_, Heap.get?_push_size _ rfl, rfl, rfl⟩, hl1.push _⟩ ⟨0, Nat.le_refl 0, ?_⟩ fun s' c m hc' hS => ?_
  · have hi' : i < ns.length := by rw [← hn]; exact (Array.getElem?_eq_some_iff.mp hv).1
    obtain ⟨t, e⟩ := PyProof.Rows.IntsAre.int_at hi i v (by rw [Array.getElem?_toList]; exact hv)
    exact ⟨_, t, List.getElem?_eq_getElem hi', by rw [e, List.getD_eq_getElem?_getD, List.getElem?_eq_getElem hi'] <;> rfl⟩
  · exact setR_new_at (Heap.get?_push_of_some _ g0)
  · have fin : s' = { s with heap := s'.heap, toks := s'.toks } := by
      have e1 := m.gens
      have e2 := m.drawn
      have e3 := m.os
      cases s'
      simp only at e1 e2 e3
      subst e1 e2 e3
      rfl
    rw [fin]
    refine wpAny_pure (wpAny_pure ⟨rfl, q s'.heap s'.toks c hS (by rw [← hn]; exact hc') fun b u e => ?_⟩)
    have hb1 := old b u e
    refine m.heap b u ?_ (Heap.get?_push_of_some _ (Heap.get?_push_of_some _ e))
    rw [sz]
    simp only [List.mem_cons, List.not_mem_nil, or_false, not_or]
    exact ⟨Nat.ne_of_lt hb1, Nat.ne_of_lt (Nat.lt_succ_of_lt hb1)⟩
  | _ => exact hr.elim
end

/-- set(l), a list of whole numbers -/
def rSetL (K : PySem.W.Frag) (w : World) : List V → Hp → VK → Prop := fun vs H Q => ∃ (a : Addr) (ns : List Int), vs = [.ref a] ∧ SqL K H a (ns.map V.int) ∧ ns.length + 1 < scanBound ∧ ∀ p c, c ≤ ns.length → H p = none → Q (.ref p) (upd H p (SetO w p (fun j => decide (j ∈ ns)) c))
theorem call_setL {X : Cx} (hc : X.calm = true) : CallR X (.type "set") (rSetL X.K X.w) := by
  intro pins s σ H vs us Q I r h
  obtain ⟨a, ns, rfl, hq, hb, q⟩ := h
  obtain ⟨u, rfl, rx⟩ := vals1 r
  cases rx
  obtain ⟨its, rv, pl, _⟩ := I.list hq
  refine set_of_list (I.ok.hd hc) pl.isList (intsAre_of rv) hb fun h' tk c R hl k => ?_
  exact ⟨.ref s.heap.objs.size, upd H s.heap.objs.size (SetO X.w s.heap.objs.size (fun j => decide (j ∈ ns)) c), I.laid (t' := tk) k (Nat.le_refl _) (setO_new R), rfl, q _ c hl (I.hok.fresh (Nat.le_refl _))⟩
/-- the pairs that stand there -/
theorem pairs_at {X : Cx} {pins : List (Addr × Obj)} {σ : L2.St} {H : Hp} {s : Shared} (I : Inv X pins σ H s) : ∀ {ps : List Addr} {kvs : List (Key × V)}, Paired (fun p kv => SqT X.K H p [kV kv.1, kv.2]) ps kvs →
    ∃ (prs : List (Key × Value)) (uvs : List (Value × Value)), KV kvs prs ∧ prs.length = ps.length ∧ uvs.length = ps.length ∧ (∀ (j : Nat) (u v : Value), uvs[j]? = some (u, v) → ∃ (k : Key), prs[j]? = some (k, v) ∧ (mixKind X.prog X.w).is k u = true) ∧
      ∀ (j : Nat) (u v : Value), uvs[j]? = some (u, v) → PairAt s.heap (ps.getD j 0) u v
  | _, _, .nil => ⟨[], [], .nil, rfl, rfl, fun j u v e => by simp at e, fun j u v e => by simp at e⟩
  | _, _, .cons (a := p) (b := kv) h t => by
    obtain ⟨prs, uvs, r, l1, l2, h1, h2⟩ := pairs_at I t
    obtain ⟨its, rv, ht, _⟩ := I.tuple h
    obtain ⟨u, y, ei, ru, ry⟩ := vals2 rv
    subst ei
    refine ⟨(kv.1, y) :: prs, (u, y) :: uvs, .cons ⟨rfl, ry⟩ r, by simp [l1], by simp [l2], fun j u' v' e => ?_, fun j u' v' e => ?_⟩
    · cases j with
      | zero =>
        cases (show some (u, y) = some (u', v') from e)
        exact ⟨kv.1, rfl, kV_is ru⟩
      | succ j => exact h1 j u' v' (by simpa using e)
    · cases j with
      | zero =>
        cases (show some (u, y) = some (u', v') from e)
        exact .inl ht
      | succ j => exact h2 j u' v' (by simpa using e)
/-- dict(t), a plain tuple of pairs -/
theorem call_dictT {X : Cx} (hc : X.calm = true) : CallR X (.type "dict") (fun vs H Q => ∃ (a : Addr) (ps : List Addr) (kvs : List (Key × V)), vs = [.ref a] ∧ PlT X.K H a (ps.map V.ref) ∧ Paired (fun p kv => SqT X.K H p [kV kv.1, kv.2]) ps kvs ∧
    ∀ p, H p = none → Q (.ref p) (upd H p (.dK (mergeK [] kvs)))) := by
  intro pins s σ H vs us Q I r h
  obtain ⟨a, ps, kvs, rfl, hq, hp, q⟩ := h
  obtain ⟨u, rfl, rx⟩ := vals1 r
  cases rx
  obtain ⟨o, its, n, e1, e2, e3, e4, e5, rv⟩ : ∃ (o : Obj) (its : List Value) (n : Nat), s.heap.get? a = some o ∧ o.cls = .type "tuple" ∧ o.dict = none ∧ o.data = .seq its.toArray n ∧ its.length ≤ sizeLine ∧ Vals (ps.map V.ref) its := by
    rcases hq with ⟨o, h, hd⟩ | ⟨o, its, n, hk, hcl, hd, hs, hz, r⟩
    · obtain ⟨e, hz, us, r, o', e', hcl, n, hs⟩ := I.hok a _ h
      rw [e] at e'
      cases e'
      exact ⟨o, us, n, e, hcl, hd, hs, by rw [← r.length]; exact hz, r⟩
    · exact ⟨o, its.toList, n, I.kIn a o hk, hcl, hd, by simpa using hs, by simpa using hz, r⟩
  have ei := refs_at rv
  subst ei
  obtain ⟨prs, uvs, rel, l1, l2, h1, h2⟩ := pairs_at I hp
  have hn : (ps.map Value.ref).length = ps.length := List.length_map _
  refine PySem.call_dict_pairs (knd := mixKind X.prog X.w) (kvs := prs) (PairArg.tuple a (ps.map Value.ref).toArray (fun j => ps.getD j 0) uvs) (I.ok.hd hc) ⟨⟨o, n, e1, e2, e3, e4⟩, by simp [l2], fun j u v e => ⟨?_, h2 j u v e⟩⟩ ⟨by rw [l1, l2], fun j u v e => h1 j u v e⟩ (by rw [l2, ← hn]; exact e5) fun h' tk hd' k => ?_
  · have hj : j < ps.length := by rw [← l2]; exact (List.getElem?_eq_some_iff.mp e).1
    simp [hj]
  · have hm : (s.heap.objs.size == sysModules) = false := beq_eq_false_iff_ne.mpr (Nat.ne_of_gt I.big)
    have hlen : (mergeK [] kvs).length ≤ sizeLine := by
      refine Nat.le_trans (length_mergeK kvs []) ?_
      rw [List.length_nil, Nat.zero_add, rel.length, l1, ← hn]
      exact e5
    exact ⟨.ref s.heap.objs.size, upd H s.heap.objs.size (.dK (mergeK [] kvs)), I.laid (t' := tk) (fun b u e => k b u (by simp) e) (Nat.le_refl _) (show ObjOk X.prog X.w _ _ _ (.dK (mergeK [] kvs)) from ⟨hlen, hm, merged [] prs, KV.merge rel .nil, hd'⟩), rfl, q _ (I.hok.fresh (Nat.le_refl _))⟩

/-! ### the syntax's own facts -/
theorem max_fold : ∀ (ns : List Int) (n : Int), (∀ m ∈ n :: ns, m ≤ ns.foldl max n) ∧ ns.foldl max n ∈ n :: ns
  | [], n => by simp
  | k :: ns, n => by
    obtain ⟨h1, h2⟩ := max_fold ns (max n k)
    have h3 := h1 (max n k) List.mem_cons_self
    refine ⟨?_, ?_⟩
    · intro m hm
      rw [List.foldl_cons]
      rcases List.mem_cons.mp hm with rfl | hm
      · omega
      · rcases List.mem_cons.mp hm with rfl | hm
        · omega
        · exact h1 m (List.mem_cons_of_mem _ hm)
    · rw [List.foldl_cons]
      rcases List.mem_cons.mp h2 with e | e
      · rw [e]
        rcases Int.le_total n k with q | q
        · rw [Int.max_eq_right q]; simp
        · rw [Int.max_eq_left q]; simp
      · exact List.mem_cons_of_mem _ (List.mem_cons_of_mem _ e)
theorem star_ok {e : Expr} (h : okX e = true) (es : List Expr) (env : PySem.Env) : starEach (e :: es) env = (false, eval e env) :: starEach es env := by
  cases e <;> first | rfl | cases h
theorem asgEach_ok {e : Expr} (h : okX e = true) (es : List Expr) (env : PySem.Env) : assignEach (e :: es) env = (false, assign e env) :: assignEach es env := by
  cases e <;> first | rfl | cases h
theorem fold_ok {e : Expr} (h : okX e = true) (env : PySem.Env) (x : Value) : foldedSetIterable e env x = pure x := by
  cases e <;> first | rfl | cases h
theorem mark_ok {e : Expr} (h : okX e = true) (op : CmpOp) : behindInMarks op e = false := by
  cases e <;> first | rfl | cases h
theorem sub_ok {e : Expr} (h : okX e = true) (o i : Value) : subscripted e false o i = operate [o, i] (getItem o i) := by
  cases e <;> first | rfl | cases h
theorem aug_ok {e : Expr} (h : okX e = true) (ov iv new : Value) : augStore e ov iv new = (do holding [new, ov, iv] (setItem ov iv new); release [new, ov, iv] []; pure .next) := by
  cases e <;> first | rfl | cases h
theorem asgsub_ok {i : Expr} (h : okX i = true) (o : Expr) (pos : Pos) (env : PySem.Env) (v : Value) : assign (.Subscript o i pos) env v = (do
      let ov ← holding [v] (eval o env)
      let iv ← holding [v, ov] (eval i env)
      standAt pos
      holding [v, ov, iv] (setItem ov iv v)
      release [v, ov, iv] []) := by
  cases i <;> first | rfl | cases h
theorem swaps_ok {e : Expr} (h : notLc e = true) (t : Option Expr) (n : Nat) (env : PySem.Env) : swapsWith e t n env = pure false := by
  cases e <;> first | rfl | cases h
theorem base_ok {o : Expr} (h : noCall o = true) (nm : Str) (env : PySem.Env) (w : Sem Value) : attributeBase o nm env w = w := by
  cases o with
  | Call f xs kw pos =>
    cases xs with
    | nil => cases h
    | cons x xs => cases f <;> rfl
  | _ => rfl
theorem bk {a b : Bool} (h : (a && b) = true) : a = true ∧ b = true := Bool.and_eq_true_iff.mp h
theorem dec {p : Prop} [Decidable p] (h : decide p = true) : p := of_decide_eq_true h

/-! ### order -/
theorem insZ_perm (k : Int) : ∀ l : List Int, (insZ k l).Perm (k :: l)
  | [] => .refl _
  | x :: r => by
    unfold insZ
    split
    · exact .refl _
    · exact ((insZ_perm k r).cons x).trans (.swap k x r)
theorem srtZ_perm : ∀ l : List Int, (srtZ l).Perm l
  | [] => .refl _
  | x :: r => (insZ_perm x (srtZ r)).trans ((srtZ_perm r).cons x)
theorem insZ_pw (k : Int) : ∀ {l : List Int}, l.Pairwise (· ≤ ·) → (insZ k l).Pairwise (· ≤ ·)
  | [], _ => by simp [insZ]
  | x :: r, h => by
    obtain ⟨h1, h2⟩ := List.pairwise_cons.mp h
    unfold insZ
    split
    · rename_i c
      refine List.pairwise_cons.mpr ⟨fun y hy => ?_, h⟩
      rcases List.mem_cons.mp hy with rfl | hy
      · exact c
      · exact Int.le_trans c (h1 y hy)
    · rename_i c
      refine List.pairwise_cons.mpr ⟨fun y hy => ?_, insZ_pw k h2⟩
      rcases List.mem_cons.mp ((insZ_perm k r).mem_iff.mp hy) with rfl | hy
      · omega
      · exact h1 y hy
theorem srtZ_pw : ∀ l : List Int, (srtZ l).Pairwise (· ≤ ·)
  | [] => .nil
  | x :: r => insZ_pw x (srtZ_pw r)
theorem srt_one : ∀ {a b : List Int}, a.Perm b → a.Pairwise (· ≤ ·) → b.Pairwise (· ≤ ·) → a = b
  | [], b, p, _, _ => p.nil_eq
  | x :: r, [], p, _, _ => absurd p.length_eq (by simp)
  | x :: r, y :: t, p, ha, hb => by
    obtain ⟨a1, a2⟩ := List.pairwise_cons.mp ha
    obtain ⟨b1, b2⟩ := List.pairwise_cons.mp hb
    have e : x = y := by
      rcases List.mem_cons.mp (p.mem_iff.mp List.mem_cons_self) with e | m1
      · exact e
      · rcases List.mem_cons.mp (p.mem_iff.mpr List.mem_cons_self) with e | m2
        · exact e.symm
        · exact Int.le_antisymm (a1 y m2) (b1 x m1)
    subst e
    rw [srt_one p.cons_inv a2 b2]
theorem addZ_mem (k : Int) : ∀ (l : List Int) (y : Int), y ∈ addZ k l ↔ y = k ∨ y ∈ l
  | [], y => by simp [addZ]
  | x :: r, y => by
    unfold addZ
    split
    · simp
    · split
      · rename_i c
        subst c
        simp
      · rw [List.mem_cons, addZ_mem k r y, List.mem_cons]
        exact ⟨fun h => by rcases h with h | h | h <;> simp [h], fun h => by rcases h with h | h | h <;> simp [h]⟩
theorem addZ_pw (k : Int) : ∀ {l : List Int}, l.Pairwise (· < ·) → (addZ k l).Pairwise (· < ·)
  | [], _ => by simp [addZ]
  | x :: r, h => by
    obtain ⟨h1, h2⟩ := List.pairwise_cons.mp h
    unfold addZ
    split
    · rename_i c
      refine List.pairwise_cons.mpr ⟨fun y hy => ?_, h⟩
      rcases List.mem_cons.mp hy with rfl | hy
      · exact c
      · exact Int.lt_trans c (h1 y hy)
    · split
      · exact h
      · refine List.pairwise_cons.mpr ⟨fun y hy => ?_, addZ_pw k h2⟩
        rcases (addZ_mem k r y).mp hy with rfl | hy
        · omega
        · exact h1 y hy
theorem setZ_mem : ∀ (l : List Int) (y : Int), y ∈ setZ l ↔ y ∈ l
  | [], y => by simp [setZ]
  | x :: r, y => by
    show y ∈ addZ x (setZ r) ↔ _
    rw [addZ_mem, setZ_mem r y, List.mem_cons]
theorem setZ_pw : ∀ l : List Int, (setZ l).Pairwise (· < ·)
  | [] => .nil
  | x :: r => addZ_pw x (setZ_pw r)
theorem asc_one : ∀ {a b : List Int}, a.Pairwise (· < ·) → b.Pairwise (· < ·) → (∀ y, y ∈ a ↔ y ∈ b) → a = b
  | [], [], _, _, _ => rfl
  | [], y :: r, _, _, h => absurd ((h y).mpr List.mem_cons_self) List.not_mem_nil
  | x :: r, [], _, _, h => absurd ((h x).mp List.mem_cons_self) List.not_mem_nil
  | x :: r, y :: t, ha, hb, h => by
    obtain ⟨a1, a2⟩ := List.pairwise_cons.mp ha
    obtain ⟨b1, b2⟩ := List.pairwise_cons.mp hb
    have e : x = y := by
      rcases List.mem_cons.mp ((h x).mp List.mem_cons_self) with e | m1
      · exact e
      · rcases List.mem_cons.mp ((h y).mpr List.mem_cons_self) with e | m2
        · exact e.symm
        · have := a1 y m2
          have := b1 x m1
          omega
    subst e
    rw [asc_one a2 b2 fun z => ⟨fun hz => ?_, fun hz => ?_⟩]
    · rcases List.mem_cons.mp ((h z).mp (List.mem_cons_of_mem _ hz)) with rfl | q
      · have := a1 z hz; omega
      · exact q
    · rcases List.mem_cons.mp ((h z).mpr (List.mem_cons_of_mem _ hz)) with rfl | q
      · have := b1 z hz; omega
      · exact q
theorem keysI_eq : ∀ {kvs : List (Key × D)} {ks : List Int}, keysI kvs = some ks → kvs.map (·.1) = ks.map Sum.inl
  | [], _, e => by cases e; rfl
  | (.inl k, _) :: r, ks, e => by
    cases c : keysI r with
    | none => simp [keysI, c] at e
    | some ms =>
      have : ks = k :: ms := by simpa [keysI, c] using e.symm
      subst this
      simp [keysI_eq c]
  | (.inr _, _) :: _, _, e => by cases e
theorem ints_rep {K : PySem.W.Frag} {W : Hp} {μ : List Addr} : ∀ ns : List Int, Reps K W μ (ns.map D.int) (ns.map V.int)
  | [] => rfl
  | n :: ns => ⟨_, _, rfl, rfl, ints_rep ns⟩
theorem keys_rep {K : PySem.W.Frag} {W : Hp} {μ : List Addr} : ∀ {kvs : List (Key × D)} {ws : List (Key × V)}, kvs.map (·.1) = ws.map (·.1) → Reps K W μ (kvs.map fun kv => kD kv.1) (ws.map fun kv => kV kv.1)
  | [], [], _ => rfl
  | [], _ :: _, e => by simp at e
  | _ :: _, [], e => by simp at e
  | (k, _) :: r, (k', _) :: t, e => by
    obtain ⟨e1, e2⟩ := (by simpa using e : k = k' ∧ r.map (·.1) = t.map (·.1))
    subst e1
    refine ⟨kV k, _, rfl, ?_, keys_rep e2⟩
    cases k <;> rfl

/-! ### built-in functions -/
def rBi (K : PySem.W.Frag) (b : BI) : List V → Hp → VK → Prop := fun vs H Q => ∃ W F μ S ds r, Stt K W F μ S H ∧ Reps K W μ ds vs ∧ biD S b ds = some r ∧ Post K W F μ S r Q
def biVal : BI → Value
  | .len => .builtin "len" | .abs => .builtin "abs" | .max => .builtin "max" | .min => .builtin "min" | .int => .type "int" | .str => .type "str" | .tuple => .type "tuple" | .list => .type "list" | .any => .builtin "any" | .all => .builtin "all" | .sorted => .builtin "sorted"
theorem bi_boot (b : BI) : bootBuiltins (biName b) = some (biVal b) := by
  cases b <;> decide +kernel
section
variable {X : Cx} {K : PySem.W.Frag} {W F : Hp} {μ : List Addr} {S : Sto} {H : Hp}
theorem cell_lst (st : Stt K W F μ S H) {i : Nat} {v : V} {r : D} {f : List D → D} (hv : Rep K W μ (.ref i) v) (h : (match S[i]? with
    | some (.lst xs) => some (f xs)
    | _ => none) = some r) : ∃ a vs xs, v = .ref a ∧ H a = some (.lst vs) ∧ Reps K W μ xs vs ∧ r = f xs := by
  obtain ⟨a, hr, rfl⟩ := hv
  cases c : S[i]? with
  | none => rw [c] at h; cases h
  | some cc =>
    rw [c] at h
    cases cc with
    | lst ys =>
      cases h
      obtain ⟨vs, h1, h2⟩ := st.lst hr c
      exact ⟨a, vs, ys, rfl, h1, h2, rfl⟩
    | dk _ => cases h
    | ob _ _ _ => cases h
theorem bi_call (hc : X.calm = true) (b : BI) : CallR X (biVal b) (rBi X.K b) := by
  intro pins s σ H vs us Q I rs h
  obtain ⟨W, F, μ, S, ds, r, st, rd, hb, p⟩ := h
  cases b with
  | len =>
    have hb : biLen S ds = some r := hb
    unfold biLen at hb
    split at hb
    · cases hb
      obtain ⟨v, rfl, a, ws, rfl, h1, r1⟩ := rd.inv1
      exact call_len pins s σ H _ us Q I rs ⟨_, _, rfl, .inr ⟨ws, st.sqT h1, r1.length.symm⟩, p.int st⟩
    · split at hb
      · rename_i q
        cases hb
        obtain ⟨v, rfl, r1⟩ := rd.inv1
        cases (show v = _ from r1)
        exact call_len pins s σ H _ us Q I rs ⟨_, _, rfl, ⟨q, rfl⟩, p.int st⟩
      · cases hb
    · cases hb
      obtain ⟨v, rfl, a, ws, rfl, h1, r1⟩ := rd.inv1
      exact call_len pins s σ H _ us Q I rs ⟨_, _, rfl, .inl ⟨ws, SqL.of (st.sub _ _ h1), r1.length.symm⟩, p.int st⟩
    · cases hb
      obtain ⟨v, rfl, a, ws, rfl, h1, r1⟩ := rd.inv1
      exact call_len pins s σ H _ us Q I rs ⟨_, _, rfl, .inl ⟨ws, st.sqL h1, r1.length.symm⟩, p.int st⟩
    · obtain ⟨v, rfl, r1⟩ := rd.inv1
      obtain ⟨a, ws, xs, rfl, h1, h2, rfl⟩ := cell_lst st (f := fun xs => .int xs.length) r1 hb
      exact call_len pins s σ H _ us Q I rs ⟨_, _, rfl, .inl ⟨ws, SqL.of h1, h2.length.symm⟩, p.int st⟩
    · cases hb
  | abs =>
    have hb : biAbs ds = some r := hb
    unfold biAbs at hb
    split at hb
    · cases hb
      obtain ⟨v, rfl, r1⟩ := rd.inv1
      cases (show v = _ from r1)
      exact call_abs pins s σ H _ us Q I rs ⟨_, rfl, p.int st⟩
    · cases hb
  | max =>
    have hb : biMax ds = some r := hb
    unfold biMax at hb
    split at hb
    · cases hb
      obtain ⟨v, u, rfl, r1, r2⟩ := rd.inv2
      cases (show v = _ from r1)
      cases (show u = _ from r2)
      exact call_max2 hc pins s σ H _ us Q I rs ⟨_, _, rfl, p.int st⟩
    · rename_i xs
      split at hb
      · rename_i n ns hn
        cases hb
        obtain ⟨v, rfl, r1⟩ := rd.inv1
        obtain ⟨a, vs, rfl, h1, h2⟩ := r1
        have hv := h2.ints hn
        subst hv
        refine cr_max hc pins s σ H _ us Q I rs ⟨a, n :: ns, rfl, SqL.of (st.sub _ _ h1), Nat.succ_pos _, fun m hm hy => ?_⟩
        have : m = ns.foldl max n := by
          have f1 := max_fold ns n
          exact Int.le_antisymm (f1.1 m hm) (hy _ f1.2)
        rw [this]
        exact p.int st
      · cases hb
    · cases hb
  | min =>
    have hb : biMin ds = some r := hb
    unfold biMin at hb
    split at hb
    · cases hb
      obtain ⟨v, u, rfl, r1, r2⟩ := rd.inv2
      cases (show v = _ from r1)
      cases (show u = _ from r2)
      exact call_min2 hc pins s σ H _ us Q I rs ⟨_, _, rfl, p.int st⟩
    · cases hb
  | int =>
    have hb : biInt ds = some r := hb
    unfold biInt at hb
    split at hb
    · cases hb
      obtain ⟨v, rfl, r1⟩ := rd.inv1
      cases (show v = _ from r1)
      exact call_int1 pins s σ H _ us Q I rs (.inl ⟨_, rfl, p.int st⟩)
    · cases hb
      obtain ⟨v, rfl, r1⟩ := rd.inv1
      cases (show v = _ from r1)
      exact call_int1 pins s σ H _ us Q I rs (.inr ⟨_, rfl, p.int st⟩)
    · cases hb
  | str =>
    have hb : biStr ds = some r := hb
    unfold biStr at hb
    split at hb
    · split at hb
      · rename_i c
        cases hb
        obtain ⟨v, rfl, r1⟩ := rd.inv1
        cases (show v = _ from r1)
        exact call_str_int pins s σ H _ us Q I rs ⟨_, rfl, c, p.strv st⟩
      · cases hb
    · cases hb
  | tuple =>
    have hb : biTup S ds = some r := hb
    unfold biTup at hb
    split at hb
    · cases hb
      obtain ⟨v, rfl, r1⟩ := rd.inv1
      obtain ⟨a, vs, rfl, h1, r2⟩ := r1
      exact call_tupP pins s σ H _ us Q I rs ⟨a, vs, rfl, .inr ⟨st.sqT h1, p.same st ⟨a, vs, rfl, h1, r2⟩⟩⟩
    · cases hb
      obtain ⟨v, rfl, r1⟩ := rd.inv1
      obtain ⟨a, vs, rfl, h1, r2⟩ := r1
      exact call_tupP pins s σ H _ us Q I rs ⟨a, vs, rfl, .inl ⟨SqL.of (st.sub _ _ h1), p.tup st r2⟩⟩
    · cases hb
      obtain ⟨v, rfl, r1⟩ := rd.inv1
      obtain ⟨a, vs, rfl, h1, r2⟩ := r1
      exact call_tupP pins s σ H _ us Q I rs ⟨a, vs, rfl, .inl ⟨st.sqL h1, p.tup st r2⟩⟩
    · obtain ⟨v, rfl, r1⟩ := rd.inv1
      obtain ⟨a, ws, xs, rfl, h1, h2, rfl⟩ := cell_lst st (f := fun xs => .tup xs) r1 hb
      exact call_tupP pins s σ H _ us Q I rs ⟨a, ws, rfl, .inl ⟨SqL.of h1, p.tup st h2⟩⟩
    · cases hb
  | list =>
    have hb : biLst S ds = some r := hb
    unfold biLst at hb
    split at hb
    · cases hb
      obtain ⟨v, rfl, r1⟩ := rd.inv1
      obtain ⟨a, vs, rfl, h1, r2⟩ := r1
      exact call_list_of pins s σ H _ us Q I rs ⟨a, vs, rfl, .inr (st.sqT h1), p.lst st r2⟩
    · cases hb
      obtain ⟨v, rfl, r1⟩ := rd.inv1
      obtain ⟨a, vs, rfl, h1, r2⟩ := r1
      exact call_list_of pins s σ H _ us Q I rs ⟨a, vs, rfl, .inl (SqL.of (st.sub _ _ h1)), p.lst st r2⟩
    · cases hb
      obtain ⟨v, rfl, r1⟩ := rd.inv1
      obtain ⟨a, vs, rfl, h1, r2⟩ := r1
      exact call_list_of pins s σ H _ us Q I rs ⟨a, vs, rfl, .inl (st.sqL h1), p.lst st r2⟩
    · rename_i i _
      obtain ⟨v, rfl, a, hr, rfl⟩ := rd.inv1
      cases c : S[i]? with
      | none => rw [c] at hb; cases hb
      | some cc =>
        rw [c] at hb
        cases cc with
        | lst ys =>
          cases hb
          obtain ⟨ws, h1, h2⟩ := st.lst hr c
          exact call_list_of pins s σ H _ us Q I rs ⟨a, ws, rfl, .inl (SqL.of h1), p.lst st h2⟩
        | dk kvs =>
          cases hb
          obtain ⟨ws, h1, h2⟩ := st.dk hr c
          exact call_listD hc pins s σ H _ us Q I rs ⟨a, ws, rfl, .inl h1, p.lst st (keys_rep h2.1)⟩
        | ob _ _ _ => cases hb
    · cases hb
  | any =>
    have hb : biAny ds = some r := hb
    unfold biAny at hb
    split at hb
    · rename_i _ xs _
      cases c : blsD xs with
      | none => rw [c] at hb; cases hb
      | some bs =>
        rw [c] at hb
        cases hb
        obtain ⟨v, rfl, r1⟩ := rd.inv1
        obtain ⟨a, vs, rfl, h1, r2⟩ := r1
        have := r2.bls c
        subst this
        exact cr_any hc pins s σ H _ us Q I rs ⟨a, bs, rfl, SqL.of (st.sub _ _ h1), p.blv st⟩
    · cases hb
  | all =>
    have hb : biAll ds = some r := hb
    unfold biAll at hb
    split at hb
    · rename_i _ xs _
      cases c : blsD xs with
      | none => rw [c] at hb; cases hb
      | some bs =>
        rw [c] at hb
        cases hb
        obtain ⟨v, rfl, r1⟩ := rd.inv1
        obtain ⟨a, vs, rfl, h1, r2⟩ := r1
        have := r2.bls c
        subst this
        exact cr_all hc pins s σ H _ us Q I rs ⟨a, bs, rfl, SqL.of (st.sub _ _ h1), p.blv st⟩
    · cases hb
  | sorted =>
    have hb : biSrt S ds = some r := hb
    unfold biSrt at hb
    split at hb
    · rename_i i _
      obtain ⟨v, rfl, a, hr, rfl⟩ := rd.inv1
      cases c : S[i]? with
      | none => rw [c] at hb; cases hb
      | some cc =>
        rw [c] at hb
        cases cc with
        | lst _ => cases hb
        | ob _ _ _ => cases hb
        | dk kvs =>
          cases c2 : keysI kvs with
          | none => simp only [c2] at hb; cases hb
          | some ks =>
            simp only [c2, Option.bind_some] at hb
            split at hb
            · rename_i h64
              cases hb
              obtain ⟨ws, h1, h2⟩ := st.dk hr c
              refine call_sortedDI hc pins s σ H _ us Q I rs ⟨a, ws, ks, rfl, .inl h1, by rw [← h2.1]; exact keysI_eq c2, h64, fun ys b pm pw hb => ?_⟩
              have : ys = srtZ ks := srt_one (pm.trans (srtZ_perm ks).symm) pw (srtZ_pw ks)
              rw [this]
              exact p.lst st (ints_rep _) b hb
            · cases hb
    · cases hb
end

/-! ### isinstance -/
theorem ty_rep {K : PySem.W.Frag} {W F : Hp} {μ : List Addr} {S : Sto} {H : Hp} (st : Stt K W F μ S H) {d : D} {v : V} {n : String} (r : Rep K W μ d v) (h : tyName S d = some n) : TyX K H v (.type n) := by
  have tupX : ∀ {a : Addr} {xs : List V}, SqT K H a xs → TyX K H (.ref a) (.type "tuple") := fun {a xs} q => by
    rcases q with (q | ⟨o, q⟩) | ⟨o, its, n, hk, hc, _⟩
    · exact .base (.tup q)
    · exact .fTuple q
    · exact .kTuple hk hc
  have lstX : ∀ {a : Addr} {xs : List V}, SqL K H a xs → TyX K H (.ref a) (.type "list") := fun {a xs} q => by
    rcases q with (q | ⟨o, q⟩) | ⟨o, its, n, hk, hc, _⟩
    · exact .base (.lst q)
    · exact .base (.frz q)
    · exact .kList hk hc
  cases d with
  | non => cases h; cases (show v = _ from r); exact .base .non
  | bl b => cases h; cases (show v = _ from r); exact .base (.bl b)
  | int b => cases h; cases (show v = _ from r); exact .base (.int b)
  | str b => cases h; cases (show v = _ from r); exact .base (.str b)
  | tup xs => cases h; obtain ⟨a, vs, rfl, h1, _⟩ := r; exact tupX (st.sqT h1)
  | lst xs => cases h; obtain ⟨a, vs, rfl, h1, _⟩ := r; exact lstX (SqL.of (st.sub _ _ h1))
  | flst xs => cases h; obtain ⟨a, vs, rfl, h1, _⟩ := r; exact lstX (st.sqL h1)
  | ref i =>
    obtain ⟨a, hr, rfl⟩ := r
    cases c : S[i]? with
    | none => simp only [tyName, c] at h; cases h
    | some cc =>
      cases cc with
      | ob _ _ _ => simp only [tyName, c] at h; cases h
      | lst ys =>
        simp only [tyName, c] at h
        cases h
        obtain ⟨vs, h1, _⟩ := st.lst hr c
        exact .base (.lst h1)
      | dk kvs =>
        simp only [tyName, c] at h
        cases h
        obtain ⟨vs, h1, _⟩ := st.dk hr c
        exact .base (.dK h1)
  | ty n => cases h

/-! ### methods -/
def rMt (K : PySem.W.Frag) (m : MT) : V → List V → Hp → VK → Prop := fun x vs H Q => ∃ W F μ S d ds r S', Stt K W F μ S H ∧ Rep K W μ d x ∧ Reps K W μ ds vs ∧ methD m S d ds = some (r, S') ∧ Post K W F μ S' r Q
def mtId : MT → String
  | .append => "list.append" | .pop => "list.pop" | .extend => "list.extend"
section
variable {X : Cx}
theorem mt_call (m : MT) : MtR X (mtId m) (rMt X.K m) := by
  intro pins s σ H x vs u us Q I rx rs h
  obtain ⟨W, F, μ, S, d, ds, r, S', st, hd, hds, hm, p⟩ := h
  unfold methD at hm
  split at hm
  · rename_i i y
    obtain ⟨a, hr, rfl⟩ := hd
    obtain ⟨v, rfl, r1⟩ := hds.inv1
    cases c : S[i]? with
    | none => rw [c] at hm; cases hm
    | some cc =>
      rw [c] at hm
      cases cc with
      | dk _ => cases hm
      | ob _ _ _ => cases hm
      | lst xs =>
        obtain ⟨ws, h1, h2⟩ := st.lst hr c
        simp only at hm
        split at hm
        · rename_i hl
          cases hm
          refine mt_append pins s σ H _ _ u us Q I rx rs ⟨a, ws, v, rfl, rfl, h1, by rw [h2.length]; exact hl, ?_⟩
          have hc : CellAt X.K W μ (upd H a (.lst (ws ++ [v]))) a (.lst (xs ++ [y])) := ⟨_, upd_same, h2.app (Reps.one r1)⟩
          exact p _ _ W μ Ext.refl (st.put _ _ hr hc) rfl
        · cases hm
  · rename_i i
    obtain ⟨a, hr, rfl⟩ := hd
    cases (show vs = [] from hds)
    cases c : S[i]? with
    | none => rw [c] at hm; cases hm
    | some cc =>
      rw [c] at hm
      cases cc with
      | dk _ => cases hm
      | ob _ _ _ => cases hm
      | lst xs =>
        obtain ⟨ws, h1, h2⟩ := st.lst hr c
        simp only at hm
        split at hm
        · rename_i y hy
          cases hm
          obtain ⟨v, e1, e2⟩ := h2.get hy
          refine mt_pop pins s σ H _ _ u us Q I rx rs ⟨a, ws, v, rfl, rfl, h1, by rw [h2.length]; exact e1, ?_⟩
          have hc : CellAt X.K W μ (upd H a (.lst ws.dropLast)) a (.lst xs.dropLast) := ⟨_, upd_same, h2.dropLast⟩
          exact p _ _ W μ Ext.refl (st.put _ _ hr hc) e2
        · cases hm
  · rename_i i ys
    obtain ⟨a, hr, rfl⟩ := hd
    obtain ⟨v, rfl, b, zs, rfl, h3, h4⟩ := hds.inv1
    cases c : S[i]? with
    | none => rw [c] at hm; cases hm
    | some cc =>
      rw [c] at hm
      cases cc with
      | dk _ => cases hm
      | ob _ _ _ => cases hm
      | lst xs =>
        obtain ⟨ws, h1, h2⟩ := st.lst hr c
        simp only at hm
        split at hm
        · rename_i hl
          cases hm
          refine mt_extend pins s σ H _ _ u us Q I rx rs ⟨a, b, ws, zs, rfl, rfl, h1, st.sub _ _ h3, by rw [h2.length, h4.length]; exact hl, ?_⟩
          have hc : CellAt X.K W μ (upd H a (.lst (ws ++ zs))) a (.lst (xs ++ ys)) := ⟨_, upd_same, h2.app h4⟩
          exact p _ _ W μ Ext.refl (st.put _ _ hr hc) rfl
        · cases hm
  · cases hm
end
end Rw

/-! M7: loops -/
namespace Rw
open PySem PySem.Spec PyProof.Rows L2

/-! ### what is walked -/
/-- the iterator J yields the items xs, as long as the cell o holds them -/
def WkOk (K : PySem.W.Frag) (W : Hp) (μ : List Addr) (xs : List D) (o : Option Nat) (J : It) : Prop :=
  ∀ (i : Nat) W' F' μ' S' H', Ext W μ W' μ' → Stt K W' F' μ' S' H' → okS o xs S' →
    (i < xs.length → J.go i H' ∧ ∀ x H'', J.yld i H' x H'' → H'' = H' ∧ ∃ d, xs[i]? = some d ∧ Rep K W' μ' d x) ∧ (xs.length ≤ i → J.stop i H')
def TIR (K : PySem.W.Frag) (ev : Env → Sto → Rs (List D × Option Nat)) : TI := fun σ H R => ∃ W F μ ρ S w S', Stt K W F μ S H ∧ EnvR K W μ ρ σ ∧ ev ρ S = some (w, S') ∧
  ∀ J H' W' μ', Ext W μ W' μ' → Stt K W' F μ' S' H' → WkOk K W' μ' w.1 w.2 J → R J H'
theorem _root_.L2.PI.weak {X : Cx} {tg e : Expr} {t t' : TI} (h : PI X tg e t) (w : ∀ σ H R, t' σ H R → t σ H R) : PI X tg e t' := ⟨fun pins s σ H R I q => h.run pins s σ H R I (w σ H R q)⟩
theorem wk_list {K : PySem.W.Frag} {W : Hp} {μ : List Addr} {xs : List D} {o : Option Nat} {a : Addr}
    (h : ∀ W' F' μ' S' H', Ext W μ W' μ' → Stt K W' F' μ' S' H' → okS o xs S' → ∃ vs, SqL K H' a vs ∧ Reps K W' μ' xs vs) : WkOk K W μ xs o (Itl K a) := by
  intro i W' F' μ' S' H' x st ok
  obtain ⟨vs, h1, h2⟩ := h W' F' μ' S' H' x st ok
  refine ⟨fun hi => ⟨⟨vs, vs[i]'(by rw [h2.length]; exact hi), h1, by simp⟩, fun y H'' hy => ?_⟩, fun hi => ⟨vs, h1, by rw [h2.length]; exact hi⟩⟩
  obtain ⟨e, q⟩ := hy
  exact ⟨e, h2.get2 (q vs h1)⟩
theorem wk_tup {K : PySem.W.Frag} {W : Hp} {μ : List Addr} {xs : List D} {a : Addr} {vs : List V} (h : PlT K W a vs) (r : Reps K W μ xs vs) : WkOk K W μ xs none (Itt K a) := by
  intro i W' F' μ' S' H' x st _
  have h1 : SqT K H' a vs := st.sqT (plT_le x.w h)
  have h2 := r.m x
  refine ⟨fun hi => ⟨⟨vs, vs[i]'(by rw [h2.length]; exact hi), h1, by simp⟩, fun y H'' hy => ?_⟩, fun hi => ⟨vs, h1, by rw [h2.length]; exact hi⟩⟩
  obtain ⟨e, q⟩ := hy
  exact ⟨e, h2.get2 (q vs h1)⟩
theorem wk_rng {K : PySem.W.Frag} {W : Hp} {μ : List Addr} {lo : Int} {n : Nat} : WkOk K W μ ((List.range n).map fun (i : Nat) => D.int (lo + (i : Int))) none (Itr lo n) := by
  intro i W' F' μ' S' H' x st _
  have hl : ((List.range n).map fun (i : Nat) => D.int (lo + (i : Int))).length = n := by simp
  rw [hl]
  refine ⟨fun hi => ⟨hi, fun y H'' hy => ?_⟩, fun hi => hi⟩
  obtain ⟨e, q⟩ := hy
  exact ⟨e, .int (lo + i), by simp [hi], q⟩
theorem wk_rngC {K : PySem.W.Frag} {W : Hp} {μ : List Addr} {lo c : Int} {n : Nat} : WkOk K W μ ((List.range n).map fun (i : Nat) => D.int (lo + (i : Int) * c)) none (Itc lo c n) := by
  intro i W' F' μ' S' H' x st _
  have hl : ((List.range n).map fun (i : Nat) => D.int (lo + (i : Int) * c)).length = n := by simp
  rw [hl]
  refine ⟨fun hi => ⟨hi, fun y H'' hy => ?_⟩, fun hi => hi⟩
  obtain ⟨e, q⟩ := hy
  exact ⟨e, .int (lo + i * c), by simp [hi], q⟩
/-- over a list or a tuple -/
def iSeq (K : PySem.W.Frag) (tl : TE) : TI := fun σ H R => tl σ H fun x H1 => ∃ a, x = .ref a ∧ (((∃ xs, SqL K H1 a xs) ∧ R (Itl K a) H1) ∨ ((∃ xs, SqT K H1 a xs) ∧ R (Itt K a) H1))
theorem pi_seq {X : Cx} {tg l : Expr} {tl : TE} (hl : PE X l tl) : PI X tg l (iSeq X.K tl) := by
  refine ⟨fun pins s σ H R I h => ?_⟩
  refine thn (hl.run pins s σ H _ I h) fun v s1 ⟨x, H1, I1, r1, q1⟩ => ?_
  obtain ⟨a, e, ⟨⟨xs, hq⟩, q⟩ | ⟨⟨xs, hq⟩, q⟩⟩ := q1
  · subst e
    cases r1
    obtain ⟨its, rv, p, hz⟩ := I1.list hq
    refine wpAny_pyIter_list p.isList ?_
    refine ⟨s1.heap.objs.size, [s1.heap.objs.size], _, _, H1, rfl, I1.kept (t' := s1.toks) fun b o e => Heap.get?_push_of_some _ e, turn_list a _, ⟨_, Heap.get?_push_size _ rfl, rfl, rfl⟩, fun b hb => ?_, q⟩
    have e : b = s1.heap.objs.size := by simpa using hb
    subst e
    exact I1.fpOk (Nat.le_refl _) (I1.hok.fresh (Nat.le_refl _))
  · subst e
    cases r1
    obtain ⟨its, rv, p, hz⟩ := I1.tuple hq
    refine wpAny_pyIter_tuple (show s1.heap.IsTuple a its.toArray from p) ?_
    refine ⟨s1.heap.objs.size, [s1.heap.objs.size], _, _, H1, rfl, I1.kept (t' := s1.toks) fun b o e => Heap.get?_push_of_some _ e, turn_tuple a _, ⟨_, Heap.get?_push_size _ rfl, rfl, rfl⟩, fun b hb => ?_, q⟩
    have e : b = s1.heap.objs.size := by simpa using hb
    subst e
    exact I1.fpOk (Nat.le_refl _) (I1.hok.fresh (Nat.le_refl _))
section
variable {K : PySem.W.Frag} {W F : Hp} {μ : List Addr} {S : Sto} {H : Hp}
/-- what is walked, by the value -/
theorem items_rep (st : Stt K W F μ S H) {d : D} {v : V} {w : List D × Option Nat} (r : Rep K W μ d v) (h : itemsOf S d = some w) :
    ∃ a, v = .ref a ∧ (((∃ xs, SqL K H a xs) ∧ WkOk K W μ w.1 w.2 (Itl K a)) ∨ ((∃ xs, SqT K H a xs) ∧ WkOk K W μ w.1 w.2 (Itt K a))) := by
  cases d with
  | tup xs =>
    cases h
    obtain ⟨a, vs, rfl, h1, r1⟩ := r
    exact ⟨a, rfl, .inr ⟨⟨vs, st.sqT h1⟩, wk_tup h1 r1⟩⟩
  | lst xs =>
    cases h
    obtain ⟨a, vs, rfl, h1, r1⟩ := r
    exact ⟨a, rfl, .inl ⟨⟨vs, SqL.of (st.sub _ _ h1)⟩, wk_list fun W' F' μ' S' H' x st' _ => ⟨vs, SqL.of (st'.sub _ _ (x.w _ _ h1)), r1.m x⟩⟩⟩
  | flst xs =>
    cases h
    obtain ⟨a, vs, rfl, h1, r1⟩ := r
    exact ⟨a, rfl, .inl ⟨⟨vs, st.sqL h1⟩, wk_list fun W' F' μ' S' H' x st' _ => ⟨vs, st'.sqL (sqL_le x.w h1), r1.m x⟩⟩⟩
  | ref i =>
    obtain ⟨a, hr, rfl⟩ := r
    cases c : S[i]? with
    | none => simp only [itemsOf, c] at h; cases h
    | some cc =>
      cases cc with
      | lst ys =>
        simp only [itemsOf, c] at h
        cases h
        obtain ⟨vs, h1, _⟩ := st.lst hr c
        refine ⟨a, rfl, .inl ⟨⟨vs, SqL.of h1⟩, wk_list fun W' F' μ' S' H' x st' ok => ?_⟩⟩
        obtain ⟨vs', h2, h3⟩ := st'.lst (x.m _ _ hr) (show S'[i]? = _ from ok)
        exact ⟨vs', SqL.of h2, h3⟩
      | dk kvs => simp only [itemsOf, c] at h; cases h
      | ob _ _ _ => simp only [itemsOf, c] at h; cases h
  | _ => cases h

/-! ### targets -/
end
def TGR (K : PySem.W.Frag) (sl : List Nat) (f : D → Env → Option Env) : TG := fun v σ H Q => ∃ W F μ ρ S d ρ', Stt K W F μ S H ∧ EnvR K W μ ρ σ ∧ Rep K W μ d v ∧ f d ρ = some ρ' ∧
  ∀ σ', EnvR K W μ ρ' σ' → σ'.length = σ.length → (∀ i, i ∉ sl → σ'[i]? = σ[i]?) → Q σ' H
def TGRs (K : PySem.W.Frag) (sl : List Nat) (f : List D → Env → Option Env) : TGs := fun vs σ H Q => ∃ W F μ ρ S ds ρ', Stt K W F μ S H ∧ EnvR K W μ ρ σ ∧ Reps K W μ ds vs ∧ f ds ρ = some ρ' ∧
  ∀ σ', EnvR K W μ ρ' σ' → σ'.length = σ.length → (∀ i, i ∉ sl → σ'[i]? = σ[i]?) → Q σ' H
theorem _root_.L2.PG.weak {X : Cx} {e : Expr} {t t' : TG} (h : PG X e t) (w : ∀ v σ H Q, t' v σ H Q → t v σ H Q) : PG X e t' := ⟨fun pins s σ H v u Q I r q => h.run pins s σ H v u Q I r (w v σ H Q q)⟩
theorem _root_.L2.PGs.weak {X : Cx} {es : List Expr} {t t' : TGs} (h : PGs X es t) (w : ∀ v σ H Q, t' v σ H Q → t v σ H Q) : PGs X es t' := ⟨fun pins s σ H v u Q I r q => h.run pins s σ H v u Q I r (w v σ H Q q)⟩
theorem _root_.L2.PG.or {X : Cx} {e : Expr} {t t' : TG} (h : PG X e t) (h' : PG X e t') : PG X e (fun v σ H Q => t v σ H Q ∨ t' v σ H Q) := ⟨fun pins s σ H v u Q I r q => by
  rcases q with q | q
  · exact h.run pins s σ H v u Q I r q
  · exact h'.run pins s σ H v u Q I r q⟩
/-- what the text's checker knows of a context -/
structure Sy (Γ : Syn) (X : Cx) : Prop where
  N : X.N = Γ.N
  nd : X.N.Nodup
  sc : X.env.scope = Γ.sc
  fn : X.fn = Γ.fn
  calm : X.calm = true
theorem loc_ok {Γ : Syn} {X : Cx} (y : Sy Γ X) {i : Nat} {x : Str} (h : locB Γ i x = true) : X.N[i]? = some x ∧ L2.Loc X.env.scope x ∧ (X.fn x = true ∨ X.env.scope.names.lookup x = some .local) := by
  obtain ⟨h1, h2⟩ := bk h
  refine ⟨by rw [y.N]; exact dec h1, ?_⟩
  unfold L2.Loc
  rw [y.sc, y.fn]
  split at h2
  · rename_i e; exact ⟨.inl e, .inr e⟩
  · rename_i e; exact ⟨.inr e, .inl h2⟩
  · cases h2
theorem asgE_len : ∀ {ts : MGs} {es : List Expr} {Γ : Syn} {env : PySem.Env}, chkGs ts Γ es = true → (assignEach es env).length = es.length ∧ (assignEach es env).findIdx? (·.1) = none ∧ ∀ (ds : List D) (ρ ρ' : Env), asgGs ts ds ρ = some ρ' → ds.length = es.length
  | .nil, [], _, _, _ => ⟨rfl, rfl, fun ds ρ ρ' h => by
    cases ds with
    | nil => rfl
    | cons _ _ => cases h⟩
  | .nil, _ :: _, _, _, h => by cases h
  | .cons t ts, [], _, _, h => by cases h
  | .cons t ts, e :: es, Γ, env, h => by
    obtain ⟨h1, h2⟩ := bk (show (okX e && (chkG t Γ e && chkGs ts Γ es)) = true from h)
    obtain ⟨_, h3⟩ := bk h2
    obtain ⟨a, b, c⟩ := asgE_len (env := env) h3
    rw [asgEach_ok h1]
    refine ⟨by simp [a], by rw [List.findIdx?_cons, b]; rfl, fun ds ρ ρ' q => ?_⟩
    cases ds with
    | nil => cases q
    | cons d ds =>
      have q : (asgG t d ρ).bind (fun ρ1 => asgGs ts ds ρ1) = some ρ' := q
      cases e1 : asgG t d ρ with
      | none => rw [e1] at q; cases q
      | some ρ1 =>
        rw [e1] at q
        have := c ds ρ1 ρ' q
        simp [this]
theorem asgGs_tup {ts : MGs} {d : D} {ρ ρ' : Env} (h : asgG (.tup ts) d ρ = some ρ') : (∃ xs, d = .tup xs ∧ asgGs ts xs ρ = some ρ') ∨ ∃ xs, d = .lst xs ∧ asgGs ts xs ρ = some ρ' := by
  cases d with
  | tup xs => exact .inl ⟨xs, rfl, h⟩
  | lst xs => exact .inr ⟨xs, rfl, h⟩
  | _ => cases h
mutual
theorem chkG_ok {X : Cx} {Γ : Syn} (y : Sy Γ X) : ∀ (t : MG) (e : Expr), chkG t Γ e = true → PG X e (TGR X.K (slG t) (asgG t))
  | .name i, e, h => by
    cases e with
    | Name x pos =>
      obtain ⟨h1, h2, h3⟩ := loc_ok y (show locB Γ i x = true from h)
      refine (pg_name (i := i) y.nd h1 h2 h3).weak ?_
      rintro v σ H Q ⟨W, F, μ, ρ, S, d, ρ', st, en, r, e, k⟩
      have e : (if i < ρ.length then some (ρ.set i (some d)) else none) = some ρ' := e
      split at e
      · cases e
        exact k _ (en.set r) (by simp) fun j hj => by
          rw [List.getElem?_set_ne]
          intro q
          exact hj (by simp [slG, q])
      · cases e
    | _ => cases h
  | .tup ts, e, h => by
    cases e with
    | Tuple es k pos =>
      have h : chkGs ts Γ es = true := h
      obtain ⟨a, b, c⟩ := asgE_len (env := X.env) h
      have hp := chkGs_ok y ts es h
      refine ((pg_tup (n := es.length) y.calm hp a b).or (pg_unl (n := es.length) y.calm hp a b)).weak ?_
      rintro v σ H Q ⟨W, F, μ, ρ, S, d, ρ', st, en, r, e, k⟩
      rcases asgGs_tup e with ⟨xs, rfl, e⟩ | ⟨xs, rfl, e⟩
      · obtain ⟨p, vs, rfl, h1, r1⟩ := r
        exact .inl ⟨p, vs, rfl, st.sqT h1, by rw [r1.length]; exact c xs ρ ρ' e, W, F, μ, ρ, S, xs, ρ', st, en, r1, e, k⟩
      · obtain ⟨p, vs, rfl, h1, r1⟩ := r
        exact .inr ⟨p, vs, rfl, SqL.of (st.sub _ _ h1), by rw [r1.length]; exact c xs ρ ρ' e, W, F, μ, ρ, S, xs, ρ', st, en, r1, e, k⟩
    | _ => cases h
theorem chkGs_ok {X : Cx} {Γ : Syn} (y : Sy Γ X) : ∀ (ts : MGs) (es : List Expr), chkGs ts Γ es = true → PGs X es (TGRs X.K (slGs ts) (asgGs ts))
  | .nil, [], _ => pgs_nil.weak (by
    rintro vs σ H Q ⟨W, F, μ, ρ, S, ds, ρ', st, en, r, e, k⟩
    cases ds with
    | nil =>
      cases (show vs = [] from r)
      cases e
      exact ⟨rfl, k σ en rfl fun _ _ => rfl⟩
    | cons _ _ => cases e)
  | .nil, _ :: _, h => by cases h
  | .cons t ts, [], h => by cases h
  | .cons t ts, e :: es, h => by
    obtain ⟨h1, h2⟩ := bk (show (okX e && (chkG t Γ e && chkGs ts Γ es)) = true from h)
    obtain ⟨h3, h4⟩ := bk h2
    refine (pgs_cons (chkG_ok y t e h3) (chkGs_ok y ts es h4) (by rw [asgEach_ok h1]; rfl)).weak ?_
    rintro vs σ H Q ⟨W, F, μ, ρ, S, ds, ρ', st, en, r, q, k⟩
    cases ds with
    | nil => cases q
    | cons d ds =>
      have q : (asgG t d ρ).bind (fun ρ1 => asgGs ts ds ρ1) = some ρ' := q
      obtain ⟨v, rr, rfl, r1, r2⟩ := r
      cases e1 : asgG t d ρ with
      | none => rw [e1] at q; cases q
      | some ρ1 =>
        rw [e1] at q
        refine ⟨v, rr, rfl, W, F, μ, ρ, S, d, ρ1, st, en, r1, e1, fun σ1 en1 l1 k1 => ⟨W, F, μ, ρ1, S, ds, ρ', st, en1, r2, q, fun σ2 en2 l2 k2 => ?_⟩⟩
        refine k σ2 en2 (l2.trans l1) fun i hi => ?_
        have hi : i ∉ slG t ++ slGs ts := hi
        simp only [List.mem_append, not_or] at hi
        rw [k2 i hi.2, k1 i hi.1]
end

/-! ### frames -/
section
variable {K : PySem.W.Frag} {W F : Hp} {μ : List Addr} {S : Sto} {H : Hp}
theorem Stt.noF (st : Stt K W F μ S H) {p : Addr} (h : H p = none) : F p = none ∧ W p = none ∧ ∀ (i : Nat) a, μ[i]? = some a → a ≠ p := by
  refine ⟨?_, ?_, fun i a e q => ?_⟩
  · cases c : F p with
    | none => rfl
    | some u => rw [st.frm _ _ c] at h; cases h
  · cases c : W p with
    | none => rfl
    | some u => rw [st.sub _ _ c] at h; cases h
  · obtain ⟨u, c⟩ := st.there e
    rw [q, h] at c; cases c
/-- a new object of ours -/
theorem Stt.frame (st : Stt K W F μ S H) {p : Addr} (o : HO) (h : H p = none) : Stt K W (upd F p o) μ S (upd H p o) := by
  obtain ⟨hF, hW, hμ⟩ := st.noF h
  refine ⟨fun a u e => ?_, fun a u e => ?_, fun a u e => ?_, st.len, st.nd, fun i a e => ?_, fun i a c e hc => ?_⟩
  · rw [upd_ne (ne_of_none e hW)]; exact st.sub _ _ e
  · by_cases q : a = p
    · subst q; rw [upd_same] at e; rw [upd_same]; exact e
    · rw [upd_ne q] at e; rw [upd_ne q]; exact st.frm _ _ e
  · by_cases q : a = p
    · subst q; exact hW
    · rw [upd_ne q] at e; exact st.dis _ _ e
  · rw [upd_ne (hμ i a e)]; exact st.apart i a e
  · exact (st.cel i a c e hc).mono Ext.refl (upd_ne (hμ i a e))
/-- it changes -/
theorem Stt.reframe {o o' : HO} {p : Addr} (st : Stt K W (upd F p o) μ S H) : Stt K W (upd F p o') μ S (upd H p o') := by
  have hW : W p = none := st.dis p o upd_same
  have hμ : ∀ (i : Nat) a, μ[i]? = some a → a ≠ p := fun i a e q => by
    have := (st.apart i a e).2
    rw [q, upd_same] at this; cases this
  refine ⟨fun a u e => ?_, fun a u e => ?_, fun a u e => ?_, st.len, st.nd, fun i a e => ?_, fun i a c e hc => ?_⟩
  · rw [upd_ne (ne_of_none e hW)]; exact st.sub _ _ e
  · by_cases q : a = p
    · subst q; rw [upd_same] at e; rw [upd_same]; exact e
    · rw [upd_ne q] at e; rw [upd_ne q]; exact st.frm _ _ (by rw [upd_ne q]; exact e)
  · by_cases q : a = p
    · subst q; exact hW
    · rw [upd_ne q] at e; exact st.dis _ _ (by rw [upd_ne q]; exact e)
  · have := st.apart i a e
    rw [upd_ne (hμ i a e)] at this
    rw [upd_ne (hμ i a e)]; exact this
  · exact (st.cel i a c e hc).mono Ext.refl (upd_ne (hμ i a e))
theorem Stt.inF {o : HO} {p : Addr} (st : Stt K W (upd F p o) μ S H) : H p = some o := st.frm _ _ upd_same
/-- it becomes a thing that never changes -/
theorem Stt.toImm {o : HO} {p : Addr} (st : Stt K W (upd F p o) μ S H) (hF : F p = none) : Stt K (upd W p o) F μ S H ∧ Ext W μ (upd W p o) μ := by
  have hW : W p = none := st.dis p o upd_same
  have hμ : ∀ (i : Nat) a, μ[i]? = some a → a ≠ p := fun i a e q => by
    have := (st.apart i a e).2
    rw [q, upd_same] at this; cases this
  have x : Ext W μ (upd W p o) μ := ⟨fun a u h => by rw [upd_ne (ne_of_none h hW)]; exact h, fun _ _ h => h⟩
  refine ⟨⟨fun a u e => ?_, fun a u e => ?_, fun a u e => ?_, st.len, st.nd, fun i a e => ?_, fun i a c e hc => ?_⟩, x⟩
  · by_cases q : a = p
    · subst q; rw [upd_same] at e; cases e; exact st.inF
    · rw [upd_ne q] at e; exact st.sub _ _ e
  · exact st.frm _ _ (by rw [upd_ne (ne_of_none e hF)]; exact e)
  · have q := ne_of_none e hF
    rw [upd_ne q]
    exact st.dis _ _ (by rw [upd_ne q]; exact e)
  · have h := st.apart i a e
    rw [upd_ne (hμ i a e)] at h ⊢
    exact h
  · exact (st.cel i a c e hc).mono x rfl
/-- it becomes a cell -/
theorem Stt.toCell {o : HO} {p : Addr} {c : Cell} (st : Stt K W (upd F p o) μ S H) (hF : F p = none) (hc : CellAt K W (μ ++ [p]) H p c) : Stt K W F (μ ++ [p]) (S ++ [c]) H ∧ Ext W μ W (μ ++ [p]) := by
  have hW : W p = none := st.dis p o upd_same
  have hμ : ∀ (i : Nat) a, μ[i]? = some a → a ≠ p := fun i a e q => by
    have := (st.apart i a e).2
    rw [q, upd_same] at this; cases this
  have x : Ext W μ W (μ ++ [p]) := ⟨fun _ _ h => h, fun r a h => by rw [List.getElem?_append_left (List.getElem?_eq_some_iff.mp h).1]; exact h⟩
  refine ⟨⟨st.sub, fun a u e => st.frm _ _ (by rw [upd_ne (ne_of_none e hF)]; exact e), fun a u e => st.dis _ _ (by rw [upd_ne (ne_of_none e hF)]; exact e), by simp [st.len], fun i j a h1 h2 => ?_, fun i a h => ?_, fun i a c' h hc' => ?_⟩, x⟩
  · rcases get_snoc h1 with h1 | ⟨e1, h1⟩ <;> rcases get_snoc h2 with h2 | ⟨e2, h2⟩
    · exact st.nd i j a h1 h2
    · exact absurd h2.symm (hμ i a h1)
    · exact absurd h1.symm (hμ j a h2)
    · omega
  · rcases get_snoc h with h | ⟨_, h⟩
    · have q := st.apart i a h
      rw [upd_ne (hμ i a h)] at q
      exact q
    · rw [← h]; exact ⟨hW, hF⟩
  · rcases get_snoc h with h | ⟨e, h⟩
    · have hl : i < S.length := by rw [← st.len]; exact (List.getElem?_eq_some_iff.mp h).1
      rw [List.getElem?_append_left hl] at hc'
      exact (st.cel i a c' h hc').mono x rfl
    · subst h
      rw [e, st.len, List.getElem?_append_right (Nat.le_refl _)] at hc'
      simp at hc'
      subst hc'
      exact hc
end
end Rw

/-! M8: comprehensions, for, while -/
namespace Rw
open PySem PySem.Spec PyProof.Rows L2

section
variable {K : PySem.W.Frag} {W F : Hp} {μ : List Addr}
theorem EnvR.setN {ρ : Env} {σ : L2.St} (h : EnvR K W μ ρ σ) (i : Nat) : EnvR K W μ (ρ.set i none) (σ.set i none) := by
  refine ⟨by simp [h.1], fun j e q => ?_⟩
  by_cases hj : i = j
  · subst hj
    have hl : i < ρ.length := by
      have := (List.getElem?_eq_some_iff.mp q).1
      simpa using this
    rw [List.getElem?_set_self hl] at q
    cases q
  · rw [List.getElem?_set_ne hj] at q
    obtain ⟨u, h1, h2⟩ := h.2 j e q
    exact ⟨u, by rw [List.getElem?_set_ne hj]; exact h1, h2⟩
theorem EnvR.wipe {ρ : Env} {σ : L2.St} (h : EnvR K W μ ρ σ) : ∀ vs : List Nat, EnvR K W μ (wipeE ρ vs) (L2.wipe σ vs)
  | [] => h
  | v :: vs => (h.wipe vs).setN v
theorem wipe_get (τ : L2.St) (i : Nat) : ∀ vs : List Nat, (L2.wipe τ vs)[i]? = if i ∈ vs ∧ i < τ.length then some none else τ[i]?
  | [] => by simp [L2.wipe]
  | v :: vs => by
    show ((L2.wipe τ vs).set v none)[i]? = _
    by_cases e : v = i
    · subst e
      by_cases hl : v < τ.length
      · rw [List.getElem?_set_self (by rw [L2.wipe_length]; exact hl), if_pos ⟨List.mem_cons_self, hl⟩]
      · rw [if_neg fun q => hl q.2, List.getElem?_eq_none (by simp [L2.wipe_length]; omega), List.getElem?_eq_none (by omega)]
    · rw [List.getElem?_set_ne e, wipe_get τ i vs]
      have : (i ∈ v :: vs) ↔ i ∈ vs := by simp [List.mem_cons, Ne.symm e]
      simp only [this]
theorem wipe_eq {σ τ : L2.St} {sl vs : List Nat} (hl : τ.length = (L2.wipe σ vs).length) (h : ∀ i, i ∉ sl → τ[i]? = (L2.wipe σ vs)[i]?) (hs : ∀ i ∈ sl, i ∈ vs) : L2.wipe τ vs = L2.wipe σ vs := by
  have hl2 : τ.length = σ.length := by rw [hl, L2.wipe_length]
  refine List.ext_getElem? fun i => ?_
  rw [wipe_get, wipe_get, hl2]
  by_cases c : i ∈ vs ∧ i < σ.length
  · rw [if_pos c, if_pos c]
  · rw [if_neg c, if_neg c]
    by_cases q : i ∈ vs
    · have : ¬ i < σ.length := fun z => c ⟨q, z⟩
      rw [List.getElem?_eq_none (by omega), List.getElem?_eq_none (by omega)]
    · rw [h i fun z => q (hs i z), wipe_get, if_neg c]
theorem drop_at {α : Type} {xs : List α} {i : Nat} {x : α} (h : xs[i]? = some x) : xs.drop i = x :: xs.drop (i + 1) := by
  obtain ⟨hl, e⟩ := List.getElem?_eq_some_iff.mp h
  rw [List.drop_eq_getElem_cons hl, e]

/-! ### comprehensions -/
def turnE (f : D → Env → Option Env) (c : Env → Sto → Rs Bool) (e : Env → Sto → Rs D) (ρ : Env) : D → Sto → Rs (Option D) :=
  fun x S2 => lft (f x ρ) fun ρ1 => bnd (c ρ1 S2) fun t S3 => if t = true then bnd (e ρ1 S3) fun y S4 => some (some y, S4) else some (none, S3)
theorem comp_reads {S S' : Sto} {H1 : Hp} {σ : L2.St} {ρ : Env} {J : It} {xs acc : List D} {o : Option Nat} {f : D → Env → Option Env} {c : Env → Sto → Rs Bool} {e : Env → Sto → Rs D} {vs sl : List Nat} {Q : VK} {mu : Bool}
    (st : Stt K W F μ S H1) (en : EnvR K W μ ρ σ) (wk : WkOk K W μ xs o J) (hl : xs.length ≤ sizeLine) (hs : ∀ i ∈ sl, i ∈ vs)
    (h : compL o xs (turnE f c e (wipeE ρ vs)) xs S [] = some (acc, S'))
    (p : Post K W F μ (if mu = true then S' ++ [.lst acc] else S') (if mu = true then .ref S'.length else .lst acc) Q) :
    ∀ D, H1 D = none → ∃ Wv : Nat → Nat → Hp → Prop, (∃ m, Wv 0 m (upd H1 D (.lst []))) ∧ ∀ i m H, Wv i m H →
      (J.stop i H ∧ Q (.ref D) H) ∨ (J.go i H ∧ ∃ Nx : Hp → Prop, (∀ H', Nx H' → ∃ m', m' < m ∧ Wv (i + 1) m' H') ∧ ∀ x H', J.yld i H x H' → TGR K sl f x (L2.wipe σ vs) H' fun σ2 H2 => L2.wipe σ2 vs = L2.wipe σ vs ∧ TTR K c σ2 H2 fun b H3 =>
        if b = true then TR K e σ2 H3 fun y H4 => ∃ acc, H4 D = some (.lst acc) ∧ acc.length < sizeLine ∧ Nx (upd H4 D (.lst (acc ++ [y]))) else Nx H3) := by
  intro p0 hp0
  have hF := (st.noF hp0).1
  refine ⟨fun i m H => ∃ W' μ' Si ac av, m = xs.length - i ∧ i ≤ xs.length ∧ Ext W μ W' μ' ∧ Stt K W' (upd F p0 (.lst av)) μ' Si H ∧ Reps K W' μ' ac av ∧ ac.length ≤ i ∧ compL o xs (turnE f c e (wipeE ρ vs)) (xs.drop i) Si ac = some (acc, S'),
    ⟨xs.length, W, μ, S, [], [], by simp, Nat.zero_le _, Ext.refl, st.frame _ hp0, rfl, Nat.le_refl _, by simpa using h⟩, ?_⟩
  rintro i m H ⟨W', μ', Si, ac, av, rfl, hi, x, sti, ra, la, hc⟩
  by_cases hlt : i < xs.length
  · obtain ⟨d0, hd0⟩ : ∃ d, xs[i]? = some d := ⟨xs[i], by simp [hlt]⟩
    rw [drop_at hd0] at hc
    unfold compL at hc
    split at hc
    · rename_i ok
      obtain ⟨go, yl⟩ := (wk i W' _ μ' Si H x sti ok).1 hlt
      obtain ⟨r, S1, e1, e2⟩ := bnd_inv hc
      obtain ⟨ρ1, e3, e4⟩ := lft_inv e1
      obtain ⟨t, S3, e5, e6⟩ := bnd_inv e4
      refine .inr ⟨go, fun H' => ∃ W' μ' Si ac av, i + 1 ≤ xs.length ∧ Ext W μ W' μ' ∧ Stt K W' (upd F p0 (.lst av)) μ' Si H' ∧ Reps K W' μ' ac av ∧ ac.length ≤ i + 1 ∧ compL o xs (turnE f c e (wipeE ρ vs)) (xs.drop (i + 1)) Si ac = some (acc, S'),
        fun H' ⟨W2, μ2, S2, a2, v2, q1, q2, q3, q4, q5, q6⟩ => ⟨xs.length - (i + 1), by omega, W2, μ2, S2, a2, v2, rfl, q1, q2, q3, q4, q5, q6⟩, fun y H'' hy => ?_⟩
      obtain ⟨rfl, d, hd, rd⟩ := yl y H'' hy
      rw [hd0] at hd; cases hd
      refine ⟨W', upd F p0 (.lst av), μ', wipeE ρ vs, Si, d0, ρ1, sti, (en.mono x).wipe vs, rd, e3, fun σ2 en2 l2 k2 => ⟨wipe_eq l2 k2 hs, ?_⟩⟩
      refine ⟨W', upd F p0 (.lst av), μ', ρ1, Si, t, S3, sti, en2, e5, fun H3 W3 μ3 x3 st3 => ?_⟩
      cases t with
      | false =>
        rw [if_neg Bool.false_ne_true]
        rw [if_neg Bool.false_ne_true] at e6
        cases e6
        exact ⟨W3, μ3, _, ac, av, hlt, x.trans x3, st3, ra.m x3, by omega, e2⟩
      | true =>
        rw [if_pos rfl]
        rw [if_pos rfl] at e6
        obtain ⟨y', S4, e7, e8⟩ := bnd_inv e6
        cases e8
        refine ⟨W3, upd F p0 (.lst av), μ3, ρ1, S3, y', _, st3, en2.mono x3, e7, fun v H4 W4 μ4 x4 st4 r4 => ⟨av, st4.inF, by have := ra.length; omega, W4, μ4, _, ac ++ [y'], av ++ [v], hlt, (x.trans x3).trans x4, st4.reframe, (ra.m (x3.trans x4)).app (Reps.one r4), by simp; omega, e2⟩⟩
    · cases hc
  · have : i = xs.length := by omega
    subst this
    rw [List.drop_length] at hc
    unfold compL at hc
    split at hc
    · rename_i ok
      cases hc
      refine .inl ⟨(wk _ W' _ μ' _ H x sti ok).2 (Nat.le_refl _), ?_⟩
      cases mu with
      | false =>
        obtain ⟨st2, x2⟩ := sti.toImm hF
        exact p _ _ _ _ (x.trans x2) st2 ⟨p0, av, rfl, upd_same, ra.m x2⟩
      | true =>
        have x2 : Ext W' μ' W' (μ' ++ [p0]) := ⟨fun _ _ h => h, fun r a h => by rw [List.getElem?_append_left (List.getElem?_eq_some_iff.mp h).1]; exact h⟩
        obtain ⟨st2, _⟩ := sti.toCell (c := .lst acc) hF ⟨av, sti.inF, ra.m x2⟩
        exact p _ _ _ _ (x.trans x2) st2 ⟨p0, by rw [← sti.len]; simp, rfl⟩
    · cases hc

/-- the inner loop -/
theorem comp_in {S S' : Sto} {H1 : Hp} {σ : L2.St} {ρ : Env} {J : It} {xs ac acc : List D} {o : Option Nat} {f : D → Env → Option Env} {c : Env → Sto → Rs Bool} {e : Env → Sto → Rs D} {vs sl : List Nat} {p0 : Addr} {av : List V} {Nx : Hp → Prop}
    (st : Stt K W (upd F p0 (.lst av)) μ S H1) (en : EnvR K W μ ρ σ) (ra : Reps K W μ ac av) (wk : WkOk K W μ xs o J) (hl : ac.length + xs.length ≤ sizeLine) (hs : ∀ i ∈ sl, i ∈ vs)
    (h : compL o xs (turnE f c e (wipeE ρ vs)) xs S ac = some (acc, S'))
    (p : ∀ H' W' μ' av', Ext W μ W' μ' → Stt K W' (upd F p0 (.lst av')) μ' S' H' → Reps K W' μ' acc av' → Nx H') :
    ∃ Wv : Nat → Nat → Hp → Prop, (∃ m, Wv 0 m H1) ∧ ∀ i m H, Wv i m H →
      (J.stop i H ∧ Nx H) ∨ (J.go i H ∧ ∃ Nx1 : Hp → Prop, (∀ H', Nx1 H' → ∃ m', m' < m ∧ Wv (i + 1) m' H') ∧ ∀ x H', J.yld i H x H' → TGR K sl f x (L2.wipe σ vs) H' fun σ2 H2 => L2.wipe σ2 vs = L2.wipe σ vs ∧ TTR K c σ2 H2 fun b H3 =>
        if b = true then TR K e σ2 H3 fun y H4 => ∃ acc, H4 p0 = some (.lst acc) ∧ acc.length < sizeLine ∧ Nx1 (upd H4 p0 (.lst (acc ++ [y]))) else Nx1 H3) := by
  refine ⟨fun i m H => ∃ W' μ' Si a2 av, m = xs.length - i ∧ i ≤ xs.length ∧ Ext W μ W' μ' ∧ Stt K W' (upd F p0 (.lst av)) μ' Si H ∧ Reps K W' μ' a2 av ∧ a2.length ≤ ac.length + i ∧ compL o xs (turnE f c e (wipeE ρ vs)) (xs.drop i) Si a2 = some (acc, S'),
    ⟨xs.length, W, μ, S, ac, av, by simp, Nat.zero_le _, Ext.refl, st, ra, Nat.le_refl _, by simpa using h⟩, ?_⟩
  rintro i m H ⟨W', μ', Si, a2, av, rfl, hi, x, sti, ra, la, hc⟩
  by_cases hlt : i < xs.length
  · obtain ⟨d0, hd0⟩ : ∃ d, xs[i]? = some d := ⟨xs[i], by simp [hlt]⟩
    rw [drop_at hd0] at hc
    unfold compL at hc
    split at hc
    · rename_i ok
      obtain ⟨go, yl⟩ := (wk i W' _ μ' Si H x sti ok).1 hlt
      obtain ⟨r, S1, e1, e2⟩ := bnd_inv hc
      obtain ⟨ρ1, e3, e4⟩ := lft_inv e1
      obtain ⟨t, S3, e5, e6⟩ := bnd_inv e4
      refine .inr ⟨go, fun H' => ∃ W' μ' Si a2 av, i + 1 ≤ xs.length ∧ Ext W μ W' μ' ∧ Stt K W' (upd F p0 (.lst av)) μ' Si H' ∧ Reps K W' μ' a2 av ∧ a2.length ≤ ac.length + (i + 1) ∧ compL o xs (turnE f c e (wipeE ρ vs)) (xs.drop (i + 1)) Si a2 = some (acc, S'),
        fun H' ⟨W2, μ2, S2, a2, v2, q1, q2, q3, q4, q5, q6⟩ => ⟨xs.length - (i + 1), by omega, W2, μ2, S2, a2, v2, rfl, q1, q2, q3, q4, q5, q6⟩, fun y H'' hy => ?_⟩
      obtain ⟨rfl, d, hd, rd⟩ := yl y H'' hy
      rw [hd0] at hd; cases hd
      refine ⟨W', upd F p0 (.lst av), μ', wipeE ρ vs, Si, d0, ρ1, sti, (en.mono x).wipe vs, rd, e3, fun σ2 en2 l2 k2 => ⟨wipe_eq l2 k2 hs, ?_⟩⟩
      refine ⟨W', upd F p0 (.lst av), μ', ρ1, Si, t, S3, sti, en2, e5, fun H3 W3 μ3 x3 st3 => ?_⟩
      cases t with
      | false =>
        rw [if_neg Bool.false_ne_true]
        rw [if_neg Bool.false_ne_true] at e6
        cases e6
        exact ⟨W3, μ3, _, a2, av, hlt, x.trans x3, st3, ra.m x3, by omega, e2⟩
      | true =>
        rw [if_pos rfl]
        rw [if_pos rfl] at e6
        obtain ⟨y', S4, e7, e8⟩ := bnd_inv e6
        cases e8
        refine ⟨W3, upd F p0 (.lst av), μ3, ρ1, S3, y', _, st3, en2.mono x3, e7, fun v H4 W4 μ4 x4 st4 r4 => ⟨av, st4.inF, by have := ra.length; omega, W4, μ4, _, a2 ++ [y'], av ++ [v], hlt, (x.trans x3).trans x4, st4.reframe, (ra.m (x3.trans x4)).app (Reps.one r4), by simp; omega, e2⟩⟩
    · cases hc
  · have : i = xs.length := by omega
    subst this
    rw [List.drop_length] at hc
    unfold compL at hc
    split at hc
    · rename_i ok
      cases hc
      exact .inl ⟨(wk _ W' _ μ' _ H x sti ok).2 (Nat.le_refl _), p _ _ _ _ x sti ra⟩
    · cases hc
noncomputable def turn2 (f : D → Env → Option Env) (c : Env → Sto → Rs Bool) (it : Env → Sto → Rs (List D × Option Nat)) (f1 : D → Env → Option Env) (c1 : Env → Sto → Rs Bool) (e : Env → Sto → Rs D) (vs1 : List Nat) (ρ : Env) : D → Sto → List D → Rs (List D) :=
  fun x S2 acc => lft (f x ρ) fun ρ1 => bnd (c ρ1 S2) fun t S3 => if t = true then
      bnd (it ρ1 S3) fun w1 S4 => if acc.length + w1.1.length ≤ sizeLine then compL w1.2 w1.1 (turnE f1 c1 e (wipeE ρ1 vs1)) w1.1 S4 acc else none
      else some (acc, S3)
theorem comp2_reads {S S' : Sto} {H1 : Hp} {σ : L2.St} {ρ : Env} {J : It} {xs acc : List D} {o : Option Nat} {f f1 : D → Env → Option Env} {c c1 : Env → Sto → Rs Bool} {it : Env → Sto → Rs (List D × Option Nat)} {e : Env → Sto → Rs D} {vs sl vs1 sl1 : List Nat} {Q : VK} {mu : Bool}
    (st : Stt K W F μ S H1) (en : EnvR K W μ ρ σ) (wk : WkOk K W μ xs o J) (hs : ∀ i ∈ sl, i ∈ vs) (hs1 : ∀ i ∈ sl1, i ∈ vs1)
    (h : compA o xs (turn2 f c it f1 c1 e vs1 (wipeE ρ vs)) xs S [] = some (acc, S'))
    (p : Post K W F μ (if mu = true then S' ++ [.lst acc] else S') (if mu = true then .ref S'.length else .lst acc) Q) :
    ∀ D, H1 D = none → ∃ Wv : Nat → Nat → Hp → Prop, (∃ m, Wv 0 m (upd H1 D (.lst []))) ∧ ∀ i m H, Wv i m H →
      (J.stop i H ∧ Q (.ref D) H) ∨ (J.go i H ∧ ∃ Nx : Hp → Prop, (∀ H', Nx H' → ∃ m', m' < m ∧ Wv (i + 1) m' H') ∧ ∀ x H', J.yld i H x H' → TGR K sl f x (L2.wipe σ vs) H' fun σ2 H2 => L2.wipe σ2 vs = L2.wipe σ vs ∧ TTR K c σ2 H2 fun b H3 =>
        if b = true then TIR K it σ2 H3 fun J1 H4 => ∃ W1 : Nat → Nat → Hp → Prop, (∃ m, W1 0 m H4) ∧ ∀ j k H, W1 j k H →
          (J1.stop j H ∧ Nx H) ∨ (J1.go j H ∧ ∃ Nx1 : Hp → Prop, (∀ H', Nx1 H' → ∃ k', k' < k ∧ W1 (j + 1) k' H') ∧ ∀ x H', J1.yld j H x H' → TGR K sl1 f1 x (L2.wipe σ2 vs1) H' fun σ3 H5 => L2.wipe σ3 vs1 = L2.wipe σ2 vs1 ∧ TTR K c1 σ3 H5 fun b H6 =>
            if b = true then TR K e σ3 H6 fun y H7 => ∃ acc, H7 D = some (.lst acc) ∧ acc.length < sizeLine ∧ Nx1 (upd H7 D (.lst (acc ++ [y]))) else Nx1 H6)
        else Nx H3) := by
  intro p0 hp0
  have hF := (st.noF hp0).1
  refine ⟨fun i m H => ∃ W' μ' Si ac av, m = xs.length - i ∧ i ≤ xs.length ∧ Ext W μ W' μ' ∧ Stt K W' (upd F p0 (.lst av)) μ' Si H ∧ Reps K W' μ' ac av ∧ compA o xs (turn2 f c it f1 c1 e vs1 (wipeE ρ vs)) (xs.drop i) Si ac = some (acc, S'),
    ⟨xs.length, W, μ, S, [], [], by simp, Nat.zero_le _, Ext.refl, st.frame _ hp0, rfl, by simpa using h⟩, ?_⟩
  rintro i m H ⟨W', μ', Si, ac, av, rfl, hi, x, sti, ra, hc⟩
  by_cases hlt : i < xs.length
  · obtain ⟨d0, hd0⟩ : ∃ d, xs[i]? = some d := ⟨xs[i], by simp [hlt]⟩
    rw [drop_at hd0] at hc
    unfold compA at hc
    split at hc
    · rename_i ok
      obtain ⟨go, yl⟩ := (wk i W' _ μ' Si H x sti ok).1 hlt
      obtain ⟨r, S1, e1, e2⟩ := bnd_inv hc
      obtain ⟨ρ1, e3, e4⟩ := lft_inv e1
      obtain ⟨t, S3, e5, e6⟩ := bnd_inv e4
      refine .inr ⟨go, fun H' => ∃ W' μ' Si ac av, i + 1 ≤ xs.length ∧ Ext W μ W' μ' ∧ Stt K W' (upd F p0 (.lst av)) μ' Si H' ∧ Reps K W' μ' ac av ∧ compA o xs (turn2 f c it f1 c1 e vs1 (wipeE ρ vs)) (xs.drop (i + 1)) Si ac = some (acc, S'),
        fun H' ⟨W2, μ2, S2, a2, v2, q1, q2, q3, q4, q6⟩ => ⟨xs.length - (i + 1), by omega, W2, μ2, S2, a2, v2, rfl, q1, q2, q3, q4, q6⟩, fun y H'' hy => ?_⟩
      obtain ⟨rfl, d, hd, rd⟩ := yl y H'' hy
      rw [hd0] at hd; cases hd
      refine ⟨W', upd F p0 (.lst av), μ', wipeE ρ vs, Si, d0, ρ1, sti, (en.mono x).wipe vs, rd, e3, fun σ2 en2 l2 k2 => ⟨wipe_eq l2 k2 hs, ?_⟩⟩
      refine ⟨W', upd F p0 (.lst av), μ', ρ1, Si, t, S3, sti, en2, e5, fun H3 W3 μ3 x3 st3 => ?_⟩
      cases t with
      | false =>
        rw [if_neg Bool.false_ne_true]
        rw [if_neg Bool.false_ne_true] at e6
        cases e6
        exact ⟨W3, μ3, _, ac, av, hlt, x.trans x3, st3, ra.m x3, e2⟩
      | true =>
        rw [if_pos rfl]
        rw [if_pos rfl] at e6
        obtain ⟨w1, S4, e7, e8⟩ := bnd_inv e6
        split at e8
        · rename_i hl
          refine ⟨W3, upd F p0 (.lst av), μ3, ρ1, S3, w1, S4, st3, en2.mono x3, e7, fun J1 H4 W4 μ4 x4 st4 wk4 => ?_⟩
          exact comp_in st4 (en2.mono (x3.trans x4)) (ra.m (x3.trans x4)) wk4 hl hs1 e8 fun H5 W5 μ5 av5 x5 st5 ra5 => ⟨W5, μ5, _, r, av5, hlt, ((x.trans x3).trans x4).trans x5, st5, ra5, e2⟩
        · cases e8
    · cases hc
  · have : i = xs.length := by omega
    subst this
    rw [List.drop_length] at hc
    unfold compA at hc
    split at hc
    · rename_i ok
      cases hc
      refine .inl ⟨(wk _ W' _ μ' _ H x sti ok).2 (Nat.le_refl _), ?_⟩
      cases mu with
      | false =>
        obtain ⟨st2, x2⟩ := sti.toImm hF
        exact p _ _ _ _ (x.trans x2) st2 ⟨p0, av, rfl, upd_same, ra.m x2⟩
      | true =>
        have x2 : Ext W' μ' W' (μ' ++ [p0]) := ⟨fun _ _ h => h, fun r a h => by rw [List.getElem?_append_left (List.getElem?_eq_some_iff.mp h).1]; exact h⟩
        obtain ⟨st2, _⟩ := sti.toCell (c := .lst acc) hF ⟨av, sti.inF, ra.m x2⟩
        exact p _ _ _ _ (x.trans x2) st2 ⟨p0, by rw [← sti.len]; simp, rfl⟩
    · cases hc

/-! ### for -/
theorem for_reads {S S' : Sto} {H1 : Hp} {σ : L2.St} {ρ : Env} {J : It} {xs : List D} {o : Option Nat} {f : D → Env → Option Env} {b : Env → Sto → Rs Fl} {sl : List Nat} {fl : Fl} {D : Ends}
    (st : Stt K W F μ S H1) (en : EnvR K W μ ρ σ) (wk : WkOk K W μ xs o J)
    (h : forL o xs (fun x ρ1 S2 => lft (f x ρ1) fun ρ2 => b ρ2 S2) xs ρ S = some (fl, S')) (p : PostS K W F μ S' fl D) :
    ∃ Wv : Nat → Nat → L2.St → Hp → Prop, (∃ m, Wv 0 m σ H1) ∧ ∀ i m σ H, Wv i m σ H →
      (J.stop i H ∧ D.nx σ H) ∨ (J.go i H ∧ ∃ N : L2.St → Hp → Prop, (∀ σ' H', N σ' H' → ∃ m', m' < m ∧ Wv (i + 1) m' σ' H') ∧ ∀ x H', J.yld i H x H' → TGR K sl f x σ H' fun σ2 H2 => TSR K b { D with nx := N, ct := N, bk := D.nx } σ2 H2) := by
  refine ⟨fun i m σ H => ∃ W' μ' ρi Si, m = xs.length - i ∧ i ≤ xs.length ∧ Ext W μ W' μ' ∧ Stt K W' F μ' Si H ∧ EnvR K W' μ' ρi σ ∧ forL o xs (fun x ρ1 S2 => lft (f x ρ1) fun ρ2 => b ρ2 S2) (xs.drop i) ρi Si = some (fl, S'),
    ⟨xs.length, W, μ, ρ, S, by simp, Nat.zero_le _, Ext.refl, st, en, by simpa using h⟩, ?_⟩
  rintro i m σ H ⟨W', μ', ρi, Si, rfl, hi, x, sti, eni, hc⟩
  by_cases hlt : i < xs.length
  · obtain ⟨d0, hd0⟩ : ∃ d, xs[i]? = some d := ⟨xs[i], by simp [hlt]⟩
    rw [drop_at hd0] at hc
    unfold forL at hc
    split at hc
    · rename_i ok
      obtain ⟨go, yl⟩ := (wk i W' _ μ' Si H x sti ok).1 hlt
      obtain ⟨fl1, S1, e1, e2⟩ := bnd_inv hc
      obtain ⟨ρ2, e3, e4⟩ := lft_inv e1
      refine .inr ⟨go, fun σ' H' => ∃ W' μ' ρi Si, i + 1 ≤ xs.length ∧ Ext W μ W' μ' ∧ Stt K W' F μ' Si H' ∧ EnvR K W' μ' ρi σ' ∧ forL o xs (fun x ρ1 S2 => lft (f x ρ1) fun ρ2 => b ρ2 S2) (xs.drop (i + 1)) ρi Si = some (fl, S'),
        fun σ' H' ⟨W2, μ2, r2, S2, q1, q2, q3, q4, q5⟩ => ⟨xs.length - (i + 1), by omega, W2, μ2, r2, S2, rfl, q1, q2, q3, q4, q5⟩, fun y H'' hy => ?_⟩
      obtain ⟨rfl, d, hd, rd⟩ := yl y H'' hy
      rw [hd0] at hd; cases hd
      refine ⟨W', F, μ', ρi, Si, d0, ρ2, sti, eni, rd, e3, fun σ2 en2 _ _ => ⟨W', F, μ', ρ2, Si, fl1, S1, sti, en2, e4, ?_⟩⟩
      cases fl1 with
      | nx ρ3 => exact fun σ3 H3 W3 μ3 x3 st3 en3 => ⟨W3, μ3, ρ3, S1, hlt, x.trans x3, st3, en3, e2⟩
      | bk ρ3 =>
        cases e2
        exact fun σ3 H3 W3 μ3 x3 st3 en3 => p σ3 H3 W3 μ3 (x.trans x3) st3 en3
      | rt d =>
        cases e2
        exact fun v H3 W3 μ3 x3 st3 r3 => p v H3 W3 μ3 (x.trans x3) st3 r3
    · cases hc
  · have : i = xs.length := by omega
    subst this
    rw [List.drop_length] at hc
    unfold forL at hc
    split at hc
    · rename_i ok
      cases hc
      exact .inl ⟨(wk _ W' _ μ' _ H x sti ok).2 (Nat.le_refl _), p σ H W' μ' x sti eni⟩
    · cases hc

/-! ### while -/
theorem whE_inv {c : Env → Sto → Rs Bool} {b : Env → Sto → Rs Fl} {ρ : Env} {S : Sto} {r : Fl × Sto} (h : whE c b ρ S = some r) : ∃ n, whF c b n ρ S = some r := by
  unfold whE at h
  split at h
  · exact ⟨_, h⟩
  · cases h
theorem while_reads {S S' : Sto} {H : Hp} {σ : L2.St} {ρ : Env} {c : Env → Sto → Rs Bool} {b : Env → Sto → Rs Fl} {fl : Fl} {D : Ends}
    (st : Stt K W F μ S H) (en : EnvR K W μ ρ σ) (h : whE c b ρ S = some (fl, S')) (p : PostS K W F μ S' fl D) : tWhile (TTR K c) (TSR K b) D σ H := by
  obtain ⟨n, h⟩ := whE_inv h
  refine ⟨fun m σ H => ∃ W' μ' ρi Si, Ext W μ W' μ' ∧ Stt K W' F μ' Si H ∧ EnvR K W' μ' ρi σ ∧ whF c b m ρi Si = some (fl, S'), ⟨n, W, μ, ρ, S, Ext.refl, st, en, h⟩, ?_⟩
  rintro m σ H ⟨W', μ', ρi, Si, x, sti, eni, hc⟩
  cases m with
  | zero => cases hc
  | succ m =>
    obtain ⟨t, S1, e1, e2⟩ := bnd_inv (show bnd (c ρi Si) _ = _ from hc)
    refine ⟨W', F, μ', ρi, Si, t, S1, sti, eni, e1, fun H1 W1 μ1 x1 st1 => ?_⟩
    cases t with
    | false =>
      rw [if_neg Bool.false_ne_true] at e2 ⊢
      cases e2
      exact p σ H1 W1 μ1 (x.trans x1) st1 (eni.mono x1)
    | true =>
      rw [if_pos rfl] at e2 ⊢
      obtain ⟨fl1, S2, e3, e4⟩ := bnd_inv e2
      refine ⟨fun σ' H' => ∃ W' μ' ρi Si, Ext W μ W' μ' ∧ Stt K W' F μ' Si H' ∧ EnvR K W' μ' ρi σ' ∧ whF c b m ρi Si = some (fl, S'), fun σ' H' q => ⟨m, Nat.lt_succ_self _, q⟩, ?_⟩
      refine ⟨W1, F, μ1, ρi, S1, fl1, S2, st1, eni.mono x1, e3, ?_⟩
      cases fl1 with
      | nx ρ3 => exact fun σ3 H3 W3 μ3 x3 st3 en3 => ⟨W3, μ3, ρ3, S2, (x.trans x1).trans x3, st3, en3, e4⟩
      | bk ρ3 =>
        cases e4
        exact fun σ3 H3 W3 μ3 x3 st3 en3 => p σ3 H3 W3 μ3 ((x.trans x1).trans x3) st3 en3
      | rt d =>
        cases e4
        exact fun v H3 W3 μ3 x3 st3 r3 => p v H3 W3 μ3 ((x.trans x1).trans x3) st3 r3
end
end Rw

/-! M9: the text does what is said -/
namespace Rw
open PySem PySem.Spec PyProof.Rows L2

/-- a def's promise: what the call cl gives -/
def spOf (K : PySem.W.Frag) (n : Nat) (cl : List D → Sto → Rs D) : Sp := fun vs H Q _ => vs.length = n ∧ ∃ W F μ S ds d S', Stt K W F μ S H ∧ Reps K W μ ds vs ∧ cl ds S = some (d, S') ∧ Post K W F μ S' d Q
structure GF (P : Program) (w : World) (K : PySem.W.Frag) (mg : Str → Option Value) (base : Heap) (G : GT) (k : Nat) (cl : Nat → List D → Sto → Rs D) : Prop where
  fn : ∀ g x f, G[g]? = some (x, .fn f) → ∃ a fd ps, mg x = some (.ref a) ∧ PySem.W.keepIn K (.ref a) = true ∧ Binds K fd ps [] ∧ FnOk P w K mg base CX0 (2 * k) a fd ps (spOf K f.np (cl g))
  len : ∀ g x q f ds S r, G[g]? = some (x, q) → q.fn? = some f → cl g ds S = some r → ds.length = f.np
  cls : ∀ c x ms fl, clsOf G c = some (x, ms, fl) → mg x = some (.ref (He.ga K x)) ∧ Cls K (He.ga K x) ∧ (∀ f ∈ fl, NoAttr K (He.ga K x) f) ∧ ∀ m g, ms.lookup m = some g → ∃ y f a fd ps, G[g]? = some (y, .met f) ∧ (m = "__init__" → Mk K (He.ga K x) a) ∧ (m ≠ "__init__" → Meth K (He.ga K x) m a) ∧ Binds K fd ps [] ∧ FnOk P w K mg base CX0 (2 * k) a fd ps (spOf K f.np (cl g))
  blt : ∀ (g : Nat) x, G[g]? = some (x, .blt) → mg x = none
  con : ∀ (g : Nat) x d, G[g]? = some (x, .con d) → ∃ u v, mg x = some u ∧ RelV v u ∧ ∀ W μ, Rep K W μ d v
structure Good (G : GT) (cl : Nat → List D → Sto → Rs D) (k : Nat) (Γ : Syn) (X : Cx) : Prop extends Sy Γ X where
  xe : X.xe = fun _ _ => False
  room : Room (2 * k + 1) X.A
  gf : GF X.prog X.w X.K X.mg X.base G k cl
section
variable {G : GT} {cl : Nat → List D → Sto → Rs D} {k : Nat} {Γ : Syn} {X : Cx}
theorem Good.hu (g : Good G cl k Γ X) : X.A.units + 65 < cLine := by have := g.room.un; omega
theorem Good.hu1 (g : Good G cl k Γ X) : X.A.units + 1 < cLine := by have := g.room.units; omega
/-- within a comprehension -/
theorem Good.blk (g : Good G cl k Γ X) {scope : Scope} (s : Shared) (H : Hp) (C : Addr) (cells : List (Str × Addr)) (fp : List Addr) : Good G cl k (Γ.blk scope) (X.blk s H scope (compEnvC scope cells C X.env) fp) :=
  ⟨⟨g.N, g.nd, by show relS scope X.env.scope = relS scope Γ.sc; rw [g.sc], rfl, g.calm⟩, rfl, g.room, g.gf⟩
theorem Good.passes (g : Good G cl k Γ X) : PassesOwn (model X.prog X.w) X.A X.env X.xe := by rw [g.xe]; exact PassesOwn.never
theorem vis_ok (y : Sy Γ X) {i : Nat} {x : Str} {pos : Pos} (h : visB Γ i x = true) : PE X (.Name x pos) (tVar i) := by
  obtain ⟨h1, h2⟩ := bk h
  obtain ⟨h3, h4⟩ := bk h2
  obtain ⟨h5, h6⟩ := bk h4
  refine pe_var (by rw [y.N]; exact dec h1) ?_ (by simpa using h5) (by simpa using h6)
  unfold Vis
  rw [y.sc]
  split at h3
  · rename_i e; exact .inl e
  · rename_i e; exact .inr (.inl e)
  · rename_i e; exact .inr (.inr e)
  · cases h3
theorem gl_ok (y : Sy Γ X) {g : Nat} {x : Str} (h : glB G Γ g x = true) : (∃ q, G[g]? = some (x, q)) ∧ Gl X x ∧ (x == ("__debug__" : Str)) = false ∧ x ≠ "__name__" := by
  obtain ⟨h1, h2⟩ := bk h
  obtain ⟨h3, h4⟩ := bk h2
  obtain ⟨h5, h6⟩ := bk h4
  refine ⟨?_, by show X.env.scope.names.lookup x = _; rw [y.sc]; exact dec h3, by simpa using h5, dec h6⟩
  cases c : G[g]? with
  | none => rw [c] at h1; cases h1
  | some p =>
    rw [c] at h1
    have e : p.1 = x := dec h1
    exact ⟨p.2, by rw [← e]⟩
theorem fn_at {g : Nat} {x : Str} {q : GK} (h : G[g]? = some (x, q)) (h2 : isFnB G g = true) : ∃ f, G[g]? = some (x, .fn f) := by
  unfold isFnB at h2
  rw [h] at h2
  cases q with
  | fn f => exact ⟨f, h⟩
  | _ => cases h2
theorem blt_at {g : Nat} {x : Str} {q : GK} (h : G[g]? = some (x, q)) (h2 : isBlt G g = true) : G[g]? = some (x, .blt) := by
  unfold isBlt at h2
  rw [h] at h2
  cases q with
  | blt => exact h
  | _ => cases h2
/-- an argument list's trees -/
theorem stars_any : ∀ {m : MEs} {xs : List Expr} {pos : Pos} {env : PySem.Env}, chkEs G m Γ xs = true → (backTo pos (starEach xs env)).any (·.1) = false ∧ (backTo pos (starEach xs env)).all (fun x => !x.1) = true
  | .nil, [], _, _, _ => ⟨rfl, rfl⟩
  | .nil, _ :: _, _, _, h => by cases h
  | .cons e es, [], _, _, h => by cases h
  | .cons e es, x :: xs, pos, env, h => by
    obtain ⟨h1, h2⟩ := bk (show (okX x && (chkE G e Γ x && chkEs G es Γ xs)) = true from h)
    obtain ⟨_, h3⟩ := bk h2
    obtain ⟨a, b⟩ := stars_any (pos := pos) (env := env) h3
    rw [star_ok h1]
    exact ⟨by show (false || (backTo pos (starEach xs env)).any (·.1)) = false; rw [a]; rfl, by show (!false && (backTo pos (starEach xs env)).all (fun x => !x.1)) = true; rw [b]; rfl⟩
theorem PE.bool {e : Expr} {ev : Env → Sto → Rs D} (h : PE X e (TR X.K ev)) (hp : ∀ whole, isTrue e X.env whole = (do let v ← whole; standAt e.pos; holding [v] (truthy v))) :
    PT X e (TTR X.K fun ρ S => bnd (ev ρ S) fun d S1 => lft (truD S1 d) fun t => some (t, S1)) := by
  refine (pt_truth h hp).weak ?_
  rintro σ H Q ⟨W, F, μ, ρ, S, b, S', st, en, e, p⟩
  obtain ⟨d, S1, e1, e2⟩ := bnd_inv e
  obtain ⟨t, e3, e4⟩ := lft_inv e2
  cases e4
  exact ⟨W, F, μ, ρ, S, d, _, st, en, e1, fun v H' W' μ' x st' r => ⟨b, tru_rep st' r e3, p H' W' μ' x st'⟩⟩
end
section
variable (G : GT) (cl : Nat → List D → Sto → Rs D) (k : Nat)
/-- an expression, as a value, as a test, as a chain of and | or -/
structure Eok (m : ME) (X : Cx) (e : Expr) : Prop where
  pe : PE X e (TR X.K (evE G cl m))
  pt : PT X e (TTR X.K (evT G cl m))
  pw : ∀ op es pos, e = .BoolOp op es pos → PW X e (TTR X.K (evT G cl m))
variable {G cl k}
theorem Eok.plain {m : ME} {X : Cx} {e : Expr} (h : PE X e (TR X.K (evE G cl m))) (hp : ∀ whole, isTrue e X.env whole = (do let v ← whole; standAt e.pos; holding [v] (truthy v))) (hb : ∀ op es pos, e ≠ .BoolOp op es pos) : Eok G cl m X e :=
  ⟨h, PE.bool h hp, fun op es pos q => absurd q (hb op es pos)⟩
variable {Γ : Syn} {X : Cx}
theorem tr_and {a b : ME} {x y : Expr} {r : List Expr} {pos : Pos} (ha : PE X x (TR X.K (evE G cl a))) (hb : PE X (.BoolOp .And (y :: r) pos) (TR X.K (evE G cl b))) : PE X (.BoolOp .And (x :: y :: r) pos) (TR X.K (evE G cl (.and a b))) := by
  refine (pe_andT ha hb).weak ?_
  rintro σ H Q ⟨W, F, μ, ρ, S, d, S', st, en, e, p⟩
  obtain ⟨d1, S1, e1, e2⟩ := bnd_inv e
  obtain ⟨t, e3, e4⟩ := lft_inv e2
  refine ⟨W, F, μ, ρ, S, d1, S1, st, en, e1, fun v H' W' μ' x st' rr => ⟨t, tru_rep st' rr e3, ?_⟩⟩
  cases t with
  | true => rw [if_pos rfl] at e4 ⊢; exact ⟨W', F, μ', ρ, S1, d, S', st', en.mono x, e4, p.ext x⟩
  | false =>
    rw [if_neg Bool.false_ne_true] at e4 ⊢
    cases e4
    exact p v H' W' μ' x st' rr
theorem tr_or {a b : ME} {x y : Expr} {r : List Expr} {pos : Pos} (ha : PE X x (TR X.K (evE G cl a))) (hb : PE X (.BoolOp .Or (y :: r) pos) (TR X.K (evE G cl b))) : PE X (.BoolOp .Or (x :: y :: r) pos) (TR X.K (evE G cl (.or a b))) := by
  refine (pe_orT ha hb).weak ?_
  rintro σ H Q ⟨W, F, μ, ρ, S, d, S', st, en, e, p⟩
  obtain ⟨d1, S1, e1, e2⟩ := bnd_inv e
  obtain ⟨t, e3, e4⟩ := lft_inv e2
  refine ⟨W, F, μ, ρ, S, d1, S1, st, en, e1, fun v H' W' μ' x st' rr => ⟨t, tru_rep st' rr e3, ?_⟩⟩
  cases t with
  | false => rw [if_neg Bool.false_ne_true] at e4 ⊢; exact ⟨W', F, μ', ρ, S1, d, S', st', en.mono x, e4, p.ext x⟩
  | true =>
    rw [if_pos rfl] at e4 ⊢
    cases e4
    exact p v H' W' μ' x st' rr
theorem tt_and {a b : ME} {x y : Expr} {r : List Expr} {pos : Pos} (ha : PT X x (TTR X.K (evT G cl a))) (hb : PW X (.BoolOp .And (y :: r) pos) (TTR X.K (evT G cl b))) : PW X (.BoolOp .And (x :: y :: r) pos) (TTR X.K (evT G cl (.and a b))) := by
  refine (pw_and ha hb).weak ?_
  rintro σ H Q ⟨W, F, μ, ρ, S, t, S', st, en, e, p⟩
  obtain ⟨d, S2, e1, e2⟩ := bnd_inv e
  obtain ⟨t', e3, e4⟩ := lft_inv e2
  cases e4
  obtain ⟨d1, S1, e5, e6⟩ := bnd_inv e1
  obtain ⟨t1, e7, e8⟩ := lft_inv e6
  refine ⟨W, F, μ, ρ, S, t1, S1, st, en, by simp only [evT, e5, bnd_some, e7, lft_some], fun H' W' μ' x st' => ?_⟩
  cases t1 with
  | true => rw [if_pos rfl] at e8 ⊢; exact ⟨W', F, μ', ρ, S1, t, _, st', en.mono x, by simp only [evT, e8, bnd_some, e3, lft_some], p.ext x⟩
  | false =>
    rw [if_neg Bool.false_ne_true] at e8 ⊢
    cases e8
    rw [e7] at e3; cases e3
    exact p H' W' μ' x st'
theorem tt_or {a b : ME} {x y : Expr} {r : List Expr} {pos : Pos} (ha : PT X x (TTR X.K (evT G cl a))) (hb : PW X (.BoolOp .Or (y :: r) pos) (TTR X.K (evT G cl b))) : PW X (.BoolOp .Or (x :: y :: r) pos) (TTR X.K (evT G cl (.or a b))) := by
  refine (pw_or ha hb).weak ?_
  rintro σ H Q ⟨W, F, μ, ρ, S, t, S', st, en, e, p⟩
  obtain ⟨d, S2, e1, e2⟩ := bnd_inv e
  obtain ⟨t', e3, e4⟩ := lft_inv e2
  cases e4
  obtain ⟨d1, S1, e5, e6⟩ := bnd_inv e1
  obtain ⟨t1, e7, e8⟩ := lft_inv e6
  refine ⟨W, F, μ, ρ, S, t1, S1, st, en, by simp only [evT, e5, bnd_some, e7, lft_some], fun H' W' μ' x st' => ?_⟩
  cases t1 with
  | false => rw [if_neg Bool.false_ne_true] at e8 ⊢; exact ⟨W', F, μ', ρ, S1, t, _, st', en.mono x, by simp only [evT, e8, bnd_some, e3, lft_some], p.ext x⟩
  | true =>
    rw [if_pos rfl] at e8 ⊢
    cases e8
    rw [e7] at e3; cases e3
    exact p H' W' μ' x st'
theorem tr_not {a : ME} {x : Expr} {pos : Pos} (ha : Eok G cl a X x) : Eok G cl (.not a) X (.UnaryOp .Not x pos) := by
  refine ⟨(pe_notT ha.pe).weak ?_, (pt_not ha.pt).weak ?_, fun op es pos q => by cases q⟩
  · rintro σ H Q ⟨W, F, μ, ρ, S, d, S', st, en, e, p⟩
    obtain ⟨d1, S1, e1, e2⟩ := bnd_inv e
    obtain ⟨t, e3, e4⟩ := lft_inv e2
    cases e4
    exact ⟨W, F, μ, ρ, S, d1, _, st, en, e1, fun v H' W' μ' x st' rr => ⟨t, tru_rep st' rr e3, (p.ext x).blv st'⟩⟩
  · rintro σ H Q ⟨W, F, μ, ρ, S, t, S', st, en, e, p⟩
    obtain ⟨d, S2, e1, e2⟩ := bnd_inv e
    obtain ⟨t', e3, e4⟩ := lft_inv e2
    cases e4
    obtain ⟨d1, S1, e5, e6⟩ := bnd_inv e1
    obtain ⟨t1, e7, e8⟩ := lft_inv e6
    cases e8
    cases e3
    exact ⟨W, F, μ, ρ, S, t1, _, st, en, by simp only [evT, e5, bnd_some, e7, lft_some], fun H' W' μ' x st' => p H' W' μ' x st'⟩
theorem tr_if {c a b : ME} {x y z : Expr} {pos : Pos} (hc : Eok G cl c X x) (ha : Eok G cl a X y) (hb : Eok G cl b X z) : Eok G cl (.ifE c a b) X (.IfExp x y z pos) := by
  refine ⟨(pe_ifExp hc.pt ha.pe hb.pe).weak ?_, ⟨fun pins s σ H Q I h => ?_⟩, fun op es pos q => by cases q⟩
  · rintro σ H Q ⟨W, F, μ, ρ, S, d, S', st, en, e, p⟩
    obtain ⟨d1, S1, e1, e2⟩ := bnd_inv e
    obtain ⟨t, e3, e4⟩ := lft_inv e2
    refine ⟨W, F, μ, ρ, S, t, S1, st, en, by simp only [evT, e1, bnd_some, e3, lft_some], fun H' W' μ' x st' => ?_⟩
    cases t with
    | true => rw [if_pos rfl] at e4 ⊢; exact ⟨W', F, μ', ρ, S1, d, S', st', en.mono x, e4, p.ext x⟩
    | false => rw [if_neg Bool.false_ne_true] at e4 ⊢; exact ⟨W', F, μ', ρ, S1, d, S', st', en.mono x, e4, p.ext x⟩
  · obtain ⟨W, F, μ, ρ, S, t, S', st, en, e, p⟩ := h
    obtain ⟨d, S2, e1, e2⟩ := bnd_inv e
    obtain ⟨t', e3, e4⟩ := lft_inv e2
    cases e4
    obtain ⟨d1, S1, e5, e6⟩ := bnd_inv e1
    obtain ⟨t1, e7, e8⟩ := lft_inv e6
    refine isTrue_IfExp (thn (hc.pt.run pins s σ H (fun b' H1 => if b' = true then TTR X.K (evT G cl a) σ H1 Q else TTR X.K (evT G cl b) σ H1 Q) I
      ⟨W, F, μ, ρ, S, t1, S1, st, en, by simp only [evT, e5, bnd_some, e7, lft_some], fun H' W' μ' x st' => ?_⟩) fun bb s1 ⟨H1, I1, q1⟩ => ?_)
    · cases t1 with
      | true => rw [if_pos rfl] at e8 ⊢; exact ⟨W', F, μ', ρ, S1, t, _, st', en.mono x, by simp only [evT, e8, bnd_some, e3, lft_some], p.ext x⟩
      | false => rw [if_neg Bool.false_ne_true] at e8 ⊢; exact ⟨W', F, μ', ρ, S1, t, _, st', en.mono x, by simp only [evT, e8, bnd_some, e3, lft_some], p.ext x⟩
    · cases bb with
      | true => exact ha.pt.run pins s1 σ H1 Q I1 q1
      | false => exact hb.pt.run pins s1 σ H1 Q I1 q1
theorem tr_bin {op : Operator} {a b : ME} {x y : Expr} {pos : Pos} (ha : PE X x (TR X.K (evE G cl a))) (hb : PE X y (TR X.K (evE G cl b))) : PE X (.BinOp x op y pos) (TR X.K (evE G cl (.bin op a b))) := by
  refine (pe_op (op_bin op) ha hb).weak ?_
  rintro σ H Q ⟨W, F, μ, ρ, S, d, S', st, en, e, p⟩
  obtain ⟨d1, S1, e1, e2⟩ := bnd_inv e
  obtain ⟨d2, S2, e3, e4⟩ := bnd_inv e2
  obtain ⟨r, e5, e6⟩ := lft_inv e4
  cases e6
  exact ⟨W, F, μ, ρ, S, d1, S1, st, en, e1, fun v1 H1 W1 μ1 x1 st1 r1 => ⟨W1, F, μ1, ρ, S1, d2, _, st1, en.mono x1, e3, fun v2 H2 W2 μ2 x2 st2 r2 => ⟨W2, F, μ2, _, d1, d2, d, st2, r1.m x2, r2, e5, p.ext (x1.trans x2)⟩⟩⟩
theorem tr_idx (hu : X.A.units + 1 < cLine) {a b : ME} {x y : Expr} {pos : Pos} (ok : okX y = true) (ha : PE X x (TR X.K (evE G cl a))) (hb : PE X y (TR X.K (evE G cl b))) : PE X (.Subscript x y pos) (TR X.K (evE G cl (.idx a b))) := by
  refine (pe_ix (ix_any hu) ha hb fun o i => sub_ok ok o i).weak ?_
  rintro σ H Q ⟨W, F, μ, ρ, S, d, S', st, en, e, p⟩
  obtain ⟨d1, S1, e1, e2⟩ := bnd_inv e
  obtain ⟨d2, S2, e3, e4⟩ := bnd_inv e2
  obtain ⟨r, e5, e6⟩ := lft_inv e4
  cases e6
  exact ⟨W, F, μ, ρ, S, d1, S1, st, en, e1, fun v1 H1 W1 μ1 x1 st1 r1 => ⟨W1, F, μ1, ρ, S1, d2, _, st1, en.mono x1, e3, fun v2 H2 W2 μ2 x2 st2 r2 => ⟨W2, F, μ2, _, d1, d2, d, st2, r1.m x2, r2, e5, p.ext (x1.trans x2)⟩⟩⟩
theorem tr_cmp (hu : X.A.units + 65 < cLine) {op : CmpOp} {a b : ME} {x y : Expr} {pos : Pos} (ok : okX y = true) (ha : PE X x (TR X.K (evE G cl a))) (hb : PE X y (TR X.K (evE G cl b))) : Eok G cl (.cmp op a b) X (.Compare x [op] [y] pos) := by
  refine ⟨(pe_cmpR (op_cmp hu op) ha hb (mark_ok ok op)).weak ?_, (pt_cmpR (op_cmp hu op) ha hb (mark_ok ok op)).weak ?_, fun op es pos q => by cases q⟩
  · rintro σ H Q ⟨W, F, μ, ρ, S, d, S', st, en, e, p⟩
    obtain ⟨d1, S1, e1, e2⟩ := bnd_inv e
    obtain ⟨d2, S2, e3, e4⟩ := bnd_inv e2
    obtain ⟨r, e5, e6⟩ := lft_inv e4
    cases e6
    exact ⟨W, F, μ, ρ, S, d1, S1, st, en, e1, fun v1 H1 W1 μ1 x1 st1 r1 => ⟨W1, F, μ1, ρ, S1, d2, _, st1, en.mono x1, e3, fun v2 H2 W2 μ2 x2 st2 r2 => ⟨W2, F, μ2, _, d1, d2, r, st2, r1.m x2, r2, e5, fun H3 W3 μ3 x3 st3 => p _ H3 W3 μ3 ((x1.trans x2).trans x3) st3 rfl⟩⟩⟩
  · rintro σ H Q ⟨W, F, μ, ρ, S, t, S', st, en, e, p⟩
    obtain ⟨d, S3, e7, e8⟩ := bnd_inv e
    obtain ⟨t', e9, e10⟩ := lft_inv e8
    cases e10
    obtain ⟨d1, S1, e1, e2⟩ := bnd_inv e7
    obtain ⟨d2, S2, e3, e4⟩ := bnd_inv e2
    obtain ⟨r, e5, e6⟩ := lft_inv e4
    cases e6
    cases e9
    exact ⟨W, F, μ, ρ, S, d1, S1, st, en, e1, fun v1 H1 W1 μ1 x1 st1 r1 => ⟨W1, F, μ1, ρ, S1, d2, _, st1, en.mono x1, e3, fun v2 H2 W2 μ2 x2 st2 r2 => ⟨W2, F, μ2, _, d1, d2, t, st2, r1.m x2, r2, e5, fun H3 W3 μ3 x3 st3 => ⟨t, rfl, p H3 W3 μ3 ((x1.trans x2).trans x3) st3⟩⟩⟩⟩
theorem tr_ch (hu : X.A.units + 65 < cLine) {op op' : CmpOp} {a b c : ME} {x y z : Expr} {pos : Pos} (ok : okX z = true) (ha : PE X x (TR X.K (evE G cl a))) (hb : PE X y (TR X.K (evE G cl b))) (hc : PE X z (TR X.K (evE G cl c))) : Eok G cl (.ch op op' a b c) X (.Compare x [op, op'] [y, z] pos) := by
  refine ⟨(pe_chain (op_cmp hu op) (op_cmp hu op') ha hb hc (mark_ok ok op')).weak ?_, (pt_chain (op_cmp hu op) (op_cmp hu op') ha hb hc (mark_ok ok op')).weak ?_, fun op es pos q => by cases q⟩
  · rintro σ H Q ⟨W, F, μ, ρ, S, d, S', st, en, e, p⟩
    obtain ⟨d1, S1, e1, e2⟩ := bnd_inv e
    obtain ⟨d2, S2, e3, e4⟩ := bnd_inv e2
    obtain ⟨r, e5, e6⟩ := lft_inv e4
    refine ⟨W, F, μ, ρ, S, d1, S1, st, en, e1, fun v1 H1 W1 μ1 x1 st1 r1 => ⟨W1, F, μ1, ρ, S1, d2, _, st1, en.mono x1, e3, fun v2 H2 W2 μ2 x2 st2 r2 => ⟨W2, F, μ2, _, d1, d2, r, st2, r1.m x2, r2, e5, fun H3 W3 μ3 x3 st3 => ⟨r, rfl, ?_⟩⟩⟩⟩
    cases r with
    | false =>
      cases e6
      exact p _ H3 W3 μ3 ((x1.trans x2).trans x3) st3 rfl
    | true =>
      obtain ⟨d3, S3, e7, e8⟩ := bnd_inv (show bnd (evE G cl c ρ S2) (fun f S3 => lft (cmpD S3 op' d2 f) fun q => some (.bl q, S3)) = some (d, S') from e6)
      obtain ⟨t, e9, e10⟩ := lft_inv e8
      cases e10
      exact ⟨W3, F, μ3, ρ, S2, d3, _, st3, en.mono ((x1.trans x2).trans x3), e7, fun v4 H4 W4 μ4 x4 st4 r4 => ⟨W4, F, μ4, _, d2, d3, t, st4, (r2.m x3).m x4, r4, e9, fun H5 W5 μ5 x5 st5 => p _ H5 W5 μ5 ((((x1.trans x2).trans x3).trans x4).trans x5) st5 rfl⟩⟩
  · rintro σ H Q ⟨W, F, μ, ρ, S, t, S', st, en, e, p⟩
    obtain ⟨d, S3, e7, e8⟩ := bnd_inv e
    obtain ⟨t', e9, e10⟩ := lft_inv e8
    cases e10
    obtain ⟨d1, S1, e1, e2⟩ := bnd_inv e7
    obtain ⟨d2, S2, e3, e4⟩ := bnd_inv e2
    obtain ⟨r, e5, e6⟩ := lft_inv e4
    refine ⟨W, F, μ, ρ, S, d1, S1, st, en, e1, fun v1 H1 W1 μ1 x1 st1 r1 => ⟨W1, F, μ1, ρ, S1, d2, _, st1, en.mono x1, e3, fun v2 H2 W2 μ2 x2 st2 r2 => ⟨W2, F, μ2, _, d1, d2, r, st2, r1.m x2, r2, e5, fun H3 W3 μ3 x3 st3 => ⟨r, rfl, ?_⟩⟩⟩⟩
    cases r with
    | false =>
      cases e6
      cases e9
      exact ⟨false, rfl, p H3 W3 μ3 ((x1.trans x2).trans x3) st3⟩
    | true =>
      obtain ⟨d3, S3', e7', e8'⟩ := bnd_inv (show bnd (evE G cl c ρ S2) (fun f S3 => lft (cmpD S3 op' d2 f) fun q => some (.bl q, S3)) = some (d, _) from e6)
      obtain ⟨t2, e9', e10'⟩ := lft_inv e8'
      cases e10'
      cases e9
      exact ⟨W3, F, μ3, ρ, S2, d3, _, st3, en.mono ((x1.trans x2).trans x3), e7', fun v4 H4 W4 μ4 x4 st4 r4 => ⟨W4, F, μ4, _, d2, d3, _, st4, (r2.m x3).m x4, r4, e9', fun H5 W5 μ5 x5 st5 => ⟨_, rfl, p H5 W5 μ5 ((((x1.trans x2).trans x3).trans x4).trans x5) st5⟩⟩⟩
end
end Rw

/-! M10: .. further -/
namespace Rw
open PySem PySem.Spec PyProof.Rows L2
section
variable {G : GT} {cl : Nat → List D → Sto → Rs D} {k : Nat} {Γ : Syn} {X : Cx}
/-- not a chain of and | or, and a plain test -/
theorem Eok.of {m : ME} {e : Expr} (h : PE X e (TR X.K (evE G cl m))) (hp : ∀ whole, isTrue e X.env whole = (do let v ← whole; standAt e.pos; holding [v] (truthy v)) := by intro _; rfl) (hb : ∀ op es pos, e ≠ .BoolOp op es pos := by intro _ _ _ q; cases q) : Eok G cl m X e := Eok.plain h hp hb
theorem PA.tr {es : MEs} {xs : List Expr} (h : PA X xs (TAR X.K (evEs G cl es))) : PA X xs (TAR X.K (evEs G cl es)) := h
theorem ta_nil : PA X [] (TAR X.K (evEs G cl .nil)) := pa_nil.weak (by
  rintro σ H Q ⟨W, F, μ, ρ, S, ds, S', st, en, e, p⟩
  cases e
  exact p [] H W μ Ext.refl st rfl)
theorem ta_cons {e : ME} {es : MEs} {x : Expr} {xs : List Expr} (ok : okX x = true) (h : PE X x (TR X.K (evE G cl e))) (hs : PA X xs (TAR X.K (evEs G cl es))) : PA X (x :: xs) (TAR X.K (evEs G cl (.cons e es))) := (pa_cons h hs (star_ok ok xs X.env)).weak (by
  rintro σ H Q ⟨W, F, μ, ρ, S, ds, S', st, en, e, p⟩
  obtain ⟨d1, S1, e1, e2⟩ := bnd_inv e
  obtain ⟨d2, S2, e3, e4⟩ := bnd_inv e2
  cases e4
  exact ⟨W, F, μ, ρ, S, d1, S1, st, en, e1, fun v1 H1 W1 μ1 x1 st1 r1 => ⟨W1, F, μ1, ρ, S1, d2, _, st1, en.mono x1, e3, fun v2 H2 W2 μ2 x2 st2 r2 => p _ H2 W2 μ2 (x1.trans x2) st2 ⟨v1, v2, rfl, r1.m x2, r2⟩⟩⟩)
theorem tr_tup {es : MEs} {xs : List Expr} {n : Nat} {pos : Pos} (h : PA X xs (TAR X.K (evEs G cl es))) : PE X (.Tuple xs n pos) (TR X.K (evE G cl (.tup es))) := (pe_tupP h).weak (by
  rintro σ H Q ⟨W, F, μ, ρ, S, d, S', st, en, e, p⟩
  obtain ⟨ds, S1, e1, e2⟩ := bnd_inv e
  split at e2
  · rename_i c
    cases e2
    exact ⟨W, F, μ, ρ, S, ds, _, st, en, e1, fun vs H1 W1 μ1 x1 st1 r1 => ⟨by rw [r1.length]; exact c, (p.ext x1).tup st1 r1⟩⟩
  · cases e2)
theorem tr_lst {es : MEs} {xs : List Expr} {pos : Pos} (h : PA X xs (TAR X.K (evEs G cl es))) : PE X (.List xs pos) (TR X.K (evE G cl (.lst es))) := (pe_lst h).weak (by
  rintro σ H Q ⟨W, F, μ, ρ, S, d, S', st, en, e, p⟩
  obtain ⟨ds, S1, e1, e2⟩ := bnd_inv e
  split at e2
  · rename_i c
    cases e2
    exact ⟨W, F, μ, ρ, S, ds, _, st, en, e1, fun vs H1 W1 μ1 x1 st1 r1 => ⟨by rw [r1.length]; exact c, (p.ext x1).lst st1 r1⟩⟩
  · cases e2)
theorem tr_mlst {es : MEs} {xs : List Expr} {pos : Pos} (h : PA X xs (TAR X.K (evEs G cl es))) : PE X (.List xs pos) (TR X.K (evE G cl (.mlst es))) := (pe_lst h).weak (by
  rintro σ H Q ⟨W, F, μ, ρ, S, d, S', st, en, e, p⟩
  obtain ⟨ds, S1, e1, e2⟩ := bnd_inv e
  split at e2
  · rename_i c
    cases e2
    refine ⟨W, F, μ, ρ, S, ds, _, st, en, e1, fun vs H1 W1 μ1 x1 st1 r1 => ⟨by rw [r1.length]; exact c, fun a ha => ?_⟩⟩
    obtain ⟨st2, x2⟩ := st1.cell (.lst vs) (.lst ds) ha fun W' μ' x => ⟨vs, upd_same, r1.m x⟩
    exact p _ _ _ _ (x1.trans x2) st2 ⟨a, by rw [← st1.len]; simp, rfl⟩
  · cases e2)
theorem tr_madd {a b : ME} {x y : Expr} {pos : Pos} (ha : PE X x (TR X.K (evE G cl a))) (hb : PE X y (TR X.K (evE G cl b))) : PE X (.BinOp x .Add y pos) (TR X.K (evE G cl (.madd a b))) := by
  refine (pe_op op_cat ha hb).weak ?_
  rintro σ H Q ⟨W, F, μ, ρ, S, d, S', st, en, e, p⟩
  obtain ⟨d1, S1, e1, e2⟩ := bnd_inv e
  obtain ⟨d2, S2, e3, e4⟩ := bnd_inv e2
  split at e4
  · split at e4
    · rename_i xs ys c
      cases e4
      refine ⟨W, F, μ, ρ, S, .lst xs, S1, st, en, e1, fun v1 H1 W1 μ1 x1 st1 r1 => ⟨W1, F, μ1, ρ, S1, .lst ys, _, st1, en.mono x1, e3, fun v2 H2 W2 μ2 x2 st2 r2 => ?_⟩⟩
      obtain ⟨a, vs, rfl, h1, q1⟩ := r1.m x2
      obtain ⟨b, us, rfl, h2, q2⟩ := r2
      refine ⟨a, b, vs, us, rfl, rfl, st2.sub _ _ h1, st2.sub _ _ h2, by rw [q1.length, q2.length]; exact c, fun z hz => ?_⟩
      obtain ⟨st3, x3⟩ := st2.cell (.lst (vs ++ us)) (.lst (xs ++ ys)) hz fun W' μ' x => ⟨vs ++ us, upd_same, (q1.app q2).m x⟩
      exact p _ _ _ _ ((x1.trans x2).trans x3) st3 ⟨z, by rw [← st2.len]; simp, rfl⟩
    · cases e4
  · cases e4
theorem tr_neg {a : ME} {x : Expr} {pos : Pos} (h : PE X x (TR X.K (evE G cl a))) : PE X (.UnaryOp .USub x pos) (TR X.K (evE G cl (.neg a))) := (pe_un un_neg h).weak (by
  rintro σ H Q ⟨W, F, μ, ρ, S, d, S', st, en, e, p⟩
  obtain ⟨d1, S1, e1, e2⟩ := bnd_inv e
  cases d1 with
  | int i =>
    cases e2
    refine ⟨W, F, μ, ρ, S, .int i, _, st, en, e1, fun v H1 W1 μ1 x1 st1 r1 => ?_⟩
    cases (show v = _ from r1)
    exact ⟨i, rfl, (p.ext x1).int st1⟩
  | _ => cases e2)
theorem tr_var (y : Sy Γ X) {i : Nat} {x : Str} {pos : Pos} (h : visB Γ i x = true) : PE X (.Name x pos) (TR X.K (evE G cl (.var i))) := (vis_ok y h).weak (by
  rintro σ H Q ⟨W, F, μ, ρ, S, d, S', st, en, e, p⟩
  cases c : ρ[i]? with
  | none => simp only [evE, c] at e; cases e
  | some q =>
    cases q with
    | none => simp only [evE, c] at e; cases e
    | some d' =>
      simp only [evE, c] at e
      cases e
      obtain ⟨v, h1, h2⟩ := en.2 i _ c
      exact ⟨v, h1, p.same st h2⟩)
theorem tr_const {m : ME} {d : D} {v : V} {e : Expr} (h : PE X e (tC v)) (hd : ∀ ρ S, evE G cl m ρ S = some (d, S)) (hr : ∀ W μ, Rep X.K W μ d v) : PE X e (TR X.K (evE G cl m)) := h.weak (by
  rintro σ H Q ⟨W, F, μ, ρ, S, d', S', st, en, e, p⟩
  rw [hd] at e
  cases e
  exact p.same st (hr W μ))
/-- a part of a slice -/
def TOR (K : PySem.W.Frag) (ev : Env → Sto → Rs (Option Int)) : TO := fun σ H Q => ∃ W F μ ρ S o S', Stt K W F μ S H ∧ EnvR K W μ ρ σ ∧ ev ρ S = some (o, S') ∧ ∀ H' W' μ', Ext W μ W' μ' → Stt K W' F μ' S' H' → Q o H'
theorem _root_.L2.PO.weak {e : Option Expr} {t t' : TO} (h : PO X e t) (w : ∀ σ H Q, t' σ H Q → t σ H Q) : PO X e t' := ⟨fun pins s σ H Q I q => h.run pins s σ H Q I (w σ H Q q)⟩
theorem to_none : PO X none (TOR X.K (evO G cl .none)) := po_none.weak (by
  rintro σ H Q ⟨W, F, μ, ρ, S, d, S', st, en, e, p⟩
  cases e
  exact p H W μ Ext.refl st)
theorem to_some {a : ME} {x : Expr} (h : PE X x (TR X.K (evE G cl a))) : PO X (some x) (TOR X.K (evO G cl (.some a))) := (po_some h).weak (by
  rintro σ H Q ⟨W, F, μ, ρ, S, d, S', st, en, e, p⟩
  obtain ⟨d1, S1, e1, e2⟩ := bnd_inv e
  cases d1 with
  | int i =>
    cases e2
    refine ⟨W, F, μ, ρ, S, .int i, _, st, en, e1, fun v H1 W1 μ1 x1 st1 r1 => ?_⟩
    cases (show v = _ from r1)
    exact ⟨i, rfl, p H1 W1 μ1 x1 st1⟩
  | _ => cases e2)
theorem tr_sl {a : ME} {lo hi : MO} {x : Expr} {l h : Option Expr} {p2 pos : Pos} (ha : PE X x (TR X.K (evE G cl a))) (hl : PO X l (TOR X.K (evO G cl lo))) (hh : PO X h (TOR X.K (evO G cl hi))) :
    PE X (.Subscript x (.Slice l h none p2) pos) (TR X.K (evE G cl (.sl a lo hi))) := (pe_slice sl_any ha hl hh).weak (by
  rintro σ H Q ⟨W, F, μ, ρ, S, d, S', st, en, e, p⟩
  obtain ⟨d1, S1, e1, e2⟩ := bnd_inv e
  obtain ⟨o1, S2, e3, e4⟩ := bnd_inv e2
  obtain ⟨o2, S3, e5, e6⟩ := bnd_inv e4
  obtain ⟨r, e7, e8⟩ := lft_inv e6
  cases e8
  exact ⟨W, F, μ, ρ, S, d1, S1, st, en, e1, fun v H1 W1 μ1 x1 st1 r1 => ⟨W1, F, μ1, ρ, S1, o1, S2, st1, en.mono x1, e3, fun H2 W2 μ2 x2 st2 => ⟨W2, F, μ2, ρ, S2, o2, _, st2, en.mono (x1.trans x2), e5, fun H3 W3 μ3 x3 st3 =>
    ⟨W3, F, μ3, _, d1, d, st3, r1.m (x2.trans x3), e7, p.ext ((x1.trans x2).trans x3)⟩⟩⟩⟩)
/-! xs[:hi:-1] -/
theorem pick_back (xs : List Value) : ∀ c, c ≤ xs.length → ((List.range c).map fun k => xs.length - 1 - k).filterMap (fun j => xs[j]?) = xs.reverse.take c
  | 0, _ => by simp
  | c + 1, h => by
    have h1 : xs.length - 1 - c < xs.length := by omega
    rw [List.range_succ, List.map_append, List.filterMap_append, pick_back xs c (by omega), List.take_add_one]
    congr 1
    simp only [List.map_cons, List.map_nil, List.filterMap_cons, List.filterMap_nil]
    rw [List.getElem?_reverse (by omega), List.getElem?_eq_getElem h1]
    rfl
theorem pick_backI (items : Array Value) (i : Int) (h : 0 ≤ i) : slicePick items none (some i) (some (-1)) = (items.toList.drop (i.toNat + 1)).reverse.toArray := by
  have hs : items.size = items.toList.length := by simp
  have hb : sliceBounds none (some i) (some (-1)) items.size = ((items.size : Int) - 1, max (-1) (min i ((items.size : Int) - 1)), -1) := by
    have h0 : ¬ i < 0 := by omega
    simp [sliceBounds, h0]
  unfold slicePick
  rw [hb]
  show ((sliceRange ((items.size : Int) - 1) (max (-1) (min i ((items.size : Int) - 1))) (-1)).filterMap (items[·]?)).toArray = _
  have hr : sliceRange ((items.size : Int) - 1) (max (-1) (min i ((items.size : Int) - 1))) (-1) = (List.range (items.size - (i.toNat + 1))).map fun k => items.size - 1 - k := by
    unfold sliceRange
    have h1 : ¬ ((-1 : Int) > 0) := by decide
    by_cases c : (items.size : Int) - 1 > max (-1) (min i ((items.size : Int) - 1))
    · have e : (((items.size : Int) - 1 - max (-1) (min i ((items.size : Int) - 1)) - -1 - 1) / (- -1)) = ((items.size - (i.toNat + 1) : Nat) : Int) := by
        rw [show (- -1 : Int) = 1 by decide, Int.ediv_one]
        omega
      simp only [h1, if_false, c, if_true, e, Int.toNat_natCast]
      apply List.map_congr_left
      intro k hk
      have := List.mem_range.mp hk
      omega
    · have e : items.size - (i.toNat + 1) = 0 := by omega
      rw [e]
      simp only [h1, if_false, c]
      rfl
  rw [hr]
  have e2 : (fun j : Nat => items[j]?) = fun j : Nat => items.toList[j]? := by
    funext j
    simp
  rw [e2, hs, pick_back items.toList _ (by omega), List.take_reverse]
  by_cases c : i.toNat + 1 ≤ items.toList.length
  · rw [show items.toList.length - (items.toList.length - (i.toNat + 1)) = i.toNat + 1 by omega]
  · rw [List.drop_eq_nil_of_le (show items.toList.length ≤ i.toNat + 1 by omega), List.drop_eq_nil_of_le (show items.toList.length ≤ items.toList.length - (items.toList.length - (i.toNat + 1)) by omega)]
section
variable {prog : Program} {w : World} {A : Around} {E : Value → Shared → Prop} {s : Shared}
theorem sliceApplied_rev {sl : Addr} {vl vu vs : Value} {n : Nat} {Q : Int × Int × Nat → Shared → Prop} (hs : s.heap.IsSliceOf sl vl vu vs) (pl : IsPart vl none) (pu : IsPart vu none) (ps : IsPart vs (some (-1)))
    (h : Q ((n : Int) - 1, -1, n) s) : wpAny (model prog w) A (Builtin.Slice.sliceApplied (.ref sl) (pure (n : Int))) Q E s := by
  obtain ⟨os, hos, hcs, hds⟩ := id hs
  unfold Builtin.Slice.sliceApplied Builtin.Slice.sliceFields
  refine wpAny_bind (wpAny_bind (wpAny_field hos hds (x := vl) rfl (wpAny_bind (wpAny_field hos hds (x := vu) rfl (wpAny_bind (wpAny_field hos hds (x := vs) rfl (wpAny_pure ?_)))))))
  refine wpAny_bind (HT.slicePart_ ps ?_)
  show wpAny _ _ (if ((-1 : Int) == 0) = true then _ else _) _ _ s
  rw [if_neg (by decide)]
  refine wpAny_bind (HT.slicePart_ pl (wpAny_bind (HT.slicePart_ pu (wpAny_bind (wpAny_pure ?_)))))
  show wpAny _ _ (match Builtin.Slice.sliceAdjust none none (-1) (n : Int) with | (lo, hi) => pure (lo, (-1 : Int), Builtin.Slice.slicePlaces lo hi (-1))) _ _ s
  have e1 : Builtin.Slice.sliceAdjust none none (-1) (n : Int) = ((n : Int) - 1, -1) := rfl
  rw [e1]
  show wpAny _ _ (pure ((n : Int) - 1, (-1 : Int), Builtin.Slice.slicePlaces ((n : Int) - 1) (-1) (-1))) _ _ s
  have e2 : Builtin.Slice.slicePlaces ((n : Int) - 1) (-1) (-1) = n := by
    unfold Builtin.Slice.slicePlaces
    have h1 : ¬ ((-1 : Int) > 0) := by decide
    simp only [h1, if_false]
    rw [show (- (-1 : Int)) = 1 by decide, Int.ediv_one]
    split <;> omega
  rw [e2]
  exact wpAny_pure h
theorem pick_revT (xs : Array Value) : ((List.range xs.size).filterMap fun (k : Nat) => xs[(((xs.size : Int) - 1) + (k : Int) * (-1)).toNat]?).toArray = xs.toList.reverse.toArray := by
  have hs : xs.size = xs.toList.length := by simp
  have e : (List.range xs.size).filterMap (fun (k : Nat) => xs[(((xs.size : Int) - 1) + (k : Int) * (-1)).toNat]?) = ((List.range xs.size).map fun k => xs.toList.length - 1 - k).filterMap (fun j => xs.toList[j]?) := by
    rw [List.filterMap_map]
    congr 1
    funext k
    show _ = xs.toList[xs.toList.length - 1 - k]?
    rw [Array.getElem?_toList]
    congr 1
    rw [← hs]
    omega
  rw [e, hs, pick_back _ _ (Nat.le_refl _), List.take_of_length_le (by simp)]
theorem getItem_tuple_rev {t sl : Addr} {items : Array Value} {vl vu vs : Value} {Q : Value → Shared → Prop} (ht : IsTup s.heap t items) (hs : s.heap.IsSliceOf sl vl vu vs) (pl : IsPart vl none) (pu : IsPart vu none) (ps : IsPart vs (some (-1)))
    (h : Q (.ref s.heap.objs.size) { s with heap := s.heap.push { cls := .type "tuple", data := .seq items.toList.reverse.toArray } })
    (hsz : items.size ≤ sizeLine) : wpAny (model prog w) A (getItem (.ref t) (.ref sl)) Q E s := by
  have htake : sizeOk (.seq items.toList.reverse.toArray) := by
    show items.toList.reverse.toArray.size ≤ sizeLine
    rw [List.size_toArray, List.length_reverse, Array.length_toList]
    exact hsz
  obtain ⟨os, hos, hcs, hds⟩ := id hs
  have hTs : s.TypeIs (.ref sl) "slice" := ⟨os, hos, hcs⟩
  unfold getItem
  try with_reducible refine wpAny_holding ?_
  first | refine wpAny_bind (wpAny_pure ?_) | skip
  refine wpAny_bind (wpAny_sequenceKey ht.typeIs (by decide) ?_)
  refine wpAny_bind (wpAny_callSpecial?_slot (name := Str.ofString "__getitem__") ht.typeIs PyProof.Rows.slot_tuple_getitem
    (wpAny_call_entry PyProof.Rows.slot_tuple_getitem ht.typeIs PyProof.Rows.entry_tuple_getitem ?_ (PyProof.Rows.args_tuple_getitem _ _)))
  show wpAny _ _ (Builtin.Tuple.tupleItemsOf (.ref t) >>= _) _ _ s
  refine wpAny_bind (tupleItemsOf_ ht ?_)
  refine wpAny_bind (wpAny_typeOf hTs ?_)
  rw [if_pos (by decide)]
  refine wpAny_bind (sliceApplied_rev hs pl pu ps ?_)
  have hno : ¬ ((((items.size : Int) - 1) == 0 && (-1 : Int) == 1 && items.size == items.size) = true) := by
    intro q
    rw [Bool.and_eq_true, Bool.and_eq_true] at q
    exact absurd q.1.2 (by decide)
  show wpAny _ _ (if (((items.size : Int) - 1) == 0 && (-1 : Int) == 1 && items.size == items.size) = true then _ else _) _ _ s
  rw [if_neg hno, pick_revT]
  first
    | exact wpAny_bind (m := Builtin.Tuple.tupleExact _) (wpAny_newObj_type (wpAny_pure ⟨_, rfl, wpAny_pure h⟩) htake)
    | exact wpAny_bind (m := Builtin.Tuple.tupleExact _) (wpAny_newObj_type (wpAny_bind (wpAny_pure (wpAny_pure ⟨_, rfl, wpAny_pure h⟩))) htake)
    | exact wpAny_bind (wpAny_bind (m := Builtin.Tuple.tupleExact _) (wpAny_newObj_type (wpAny_pure (wpAny_pure ⟨_, rfl, wpAny_pure h⟩)) htake))
    | exact wpAny_bind (wpAny_bind (m := Builtin.Tuple.tupleExact _) (wpAny_newObj_type (wpAny_pure ⟨_, rfl, wpAny_pure h⟩) htake))
end
def tSlR (K : PySem.W.Frag) (te : TE) (th : TO) : TE := fun σ H Q => te σ H fun x H1 => th σ H1 fun u H2 => (∃ a xs, x = .ref a ∧ SqT K H2 a xs ∧ u = none ∧ ∀ p (o : Obj), o.dict = none → H2 p = none → Q (.ref p) (upd H2 p (.frz o (.tup xs.reverse)))) ∨ ∃ a xs ys, x = .ref a ∧ SqL K H2 a xs ∧ ((u = none ∧ ys = xs.reverse) ∨ ∃ i, u = some i ∧ 0 ≤ i ∧ ys = (xs.drop (i.toNat + 1)).reverse) ∧ ∀ p, H2 p = none → Q (.ref p) (upd H2 p (.lst ys))
theorem pe_slR {X : Cx} {e : Expr} {hi : Option Expr} {te : TE} {th : TO} {k : Nat} {p1 p2 p3 pos : Pos} (he : PE X e te) (hu : PO X hi th) : PE X (.Subscript e (.Slice none hi (some (.UnaryOp .USub (.Constant (.int 1) k p1) p2)) p3) pos) (tSlR X.K te th) := by
  refine ⟨fun pins s σ H Q I h => ?_⟩
  refine Subscript_ (thn (he.run pins s σ H _ I h) fun v s1 ⟨x, H1, I1, r1, q1⟩ => ?_)
  have hst : PO X (some (.UnaryOp .USub (.Constant (.int 1) k p1) p2)) (tPart (tUn (rU fun i => .int (-i)) (tC (.int 1)))) := po_some (pe_un un_neg pe_int)
  refine wpAny_Slice (thn (po_none.run pins s1 σ H1 (fun o H2 => o = none ∧ H2 = H1) I1 ⟨rfl, rfl⟩) fun vl s2 ⟨l, H2, I2, pl, el, e2⟩ => ?_)
  subst el e2
  refine thn (hu.run pins s2 σ H2 _ I2 q1) fun vu s3 ⟨u, H3, I3, pu, q2⟩ => ?_
  rcases q2 with ⟨a, xs, ex, hx, eu, q⟩ | ⟨a, xs, ys, ex, hx, hy, q⟩
  · subst ex eu
    cases r1
    refine thn (hst.run pins s3 σ H3 (fun o H4 => o = some (-1) ∧ H4 = H3) I3 ⟨1, rfl, -1, rfl, rfl, rfl⟩) fun vs s4 ⟨o, H4, I4, ps, eo, e4⟩ => ?_
    subst eo e4
    have I5 : Inv X pins σ H4 { s4 with heap := s4.heap.push { cls := .type "slice", data := .fields #[vl, vu, vs] } } := I4.kept (t' := s4.toks) fun b ob q => Heap.get?_push_of_some _ q
    obtain ⟨its, r, ht, hz⟩ := I5.tuple hx
    have hlen := r.length
    show wpAny (model X.prog X.w) X.A (subscriptTail e (.Slice none hi (some (.UnaryOp .USub (.Constant (.int 1) k p1) p2)) p3) (.ref a) (.ref s4.heap.objs.size)) (EP X pins σ Q) X.xe { s4 with heap := s4.heap.push { cls := .type "slice", data := .fields #[vl, vu, vs] } }
    refine tail_any (ops := [.ref a, .ref s4.heap.objs.size]) ht.typeIs (PyProof.Rows.slot_tuple_getitem.lookup) ?_ (by with_unfolding_all rfl)
    refine getItem_tuple_rev ht (Heap.IsSliceOf.new _ vl vu vs) pl pu ps ?_ (by rw [List.size_toArray]; omega)
    exact lay_tup I5 r.reverse (by rw [List.length_reverse]; exact hz) q _
  subst ex
  cases r1
  refine thn (hst.run pins s3 σ H3 (fun o H4 => o = some (-1) ∧ H4 = H3) I3 ⟨1, rfl, -1, rfl, rfl, rfl⟩) fun vs s4 ⟨o, H4, I4, ps, eo, e4⟩ => ?_
  subst eo e4
  have I5 : Inv X pins σ H4 { s4 with heap := s4.heap.push { cls := .type "slice", data := .fields #[vl, vu, vs] } } := I4.kept (t' := s4.toks) fun b ob q => Heap.get?_push_of_some _ q
  obtain ⟨its, r, ht, hz⟩ := I5.list hx
  have hlen := r.length
  show wpAny (model X.prog X.w) X.A (subscriptTail e (.Slice none hi (some (.UnaryOp .USub (.Constant (.int 1) k p1) p2)) p3) (.ref a) (.ref s4.heap.objs.size)) (EP X pins σ Q) X.xe { s4 with heap := s4.heap.push { cls := .type "slice", data := .fields #[vl, vu, vs] } }
  refine tail_any (ops := [.ref a, .ref s4.heap.objs.size]) ht.isList.typeIs (PySem.slot_list_getitem.lookup) ?_ (by with_unfolding_all rfl)
  refine wpAny_getItem_list_slice ht.isList (Heap.IsSliceOf.new _ vl vu vs) pl pu ps (by decide) ?_ (by rw [List.size_toArray]; omega)
  rcases hy with ⟨rfl, rfl⟩ | ⟨i, rfl, h0, rfl⟩
  · rw [PySem.W.krv_pick]
    refine ⟨.ref _, _, I5.laid (t' := s4.toks) (o := .lst xs.reverse) (fun b ob q => Heap.get?_push_of_some _ q) (Nat.le_refl _) ?_, rfl, q _ (I5.hok.fresh (Nat.le_refl _))⟩
    exact ⟨by rw [List.length_reverse]; exact hz, _, 0, r.reverse, Heap.get?_push_size _ rfl⟩
  · rw [pick_backI _ _ h0]
    refine ⟨.ref _, _, I5.laid (t' := s4.toks) (o := .lst (xs.drop (i.toNat + 1)).reverse) (fun b ob q => Heap.get?_push_of_some _ q) (Nat.le_refl _) ?_, rfl, q _ (I5.hok.fresh (Nat.le_refl _))⟩
    exact ⟨by rw [List.length_reverse, List.length_drop]; omega, _, 0, (r.drop (i.toNat + 1)).reverse, Heap.get?_push_size _ rfl⟩
theorem tr_slR {a : ME} {hi : MO} {x : Expr} {h : Option Expr} {k' : Nat} {p1 p2 p3 pos : Pos} (ha : PE X x (TR X.K (evE G cl a))) (hh : PO X h (TOR X.K (evO G cl hi))) :
    PE X (.Subscript x (.Slice none h (some (.UnaryOp .USub (.Constant (.int 1) k' p1) p2)) p3) pos) (TR X.K (evE G cl (.slR a hi))) := (pe_slR ha hh).weak (by
  rintro σ H Q ⟨W, F, μ, ρ, S, d, S', st, en, e, p⟩
  obtain ⟨d1, S1, e1, e2⟩ := bnd_inv e
  obtain ⟨o2, S3, e5, e6⟩ := bnd_inv e2
  obtain ⟨r, e7, e8⟩ := lft_inv e6
  cases e8
  refine ⟨W, F, μ, ρ, S, d1, S1, st, en, e1, fun v H1 W1 μ1 x1 st1 r1 => ⟨W1, F, μ1, ρ, S1, o2, _, st1, en.mono x1, e5, fun H3 W3 μ3 x3 st3 => ?_⟩⟩
  by_cases ct : ∃ xs, d1 = .tup xs
  · obtain ⟨xs, rfl⟩ := ct
    cases o2 with
    | some _ => cases e7
    | none =>
      cases e7
      obtain ⟨a, vs, rfl, h1, h2⟩ := r1.m x3
      exact .inl ⟨a, vs, rfl, st3.sqT h1, rfl, (p.ext (x1.trans x3)).tup st3 h2.reverse⟩
  have e7 : slRL S' d1 o2 = some d := by
    cases d1 <;> first | exact e7 | exact absurd ⟨_, rfl⟩ ct
  refine .inr ?_
  cases q : lstOf S' d1 with
  | none => simp only [slRL, q] at e7; cases e7
  | some xs =>
    obtain ⟨a, vs, rfl, h1, h2⟩ := lst_of st3 (r1.m x3) q
    cases o2 with
    | none =>
      simp only [slRL, q] at e7
      cases e7
      exact ⟨a, vs, vs.reverse, rfl, h1, .inl ⟨rfl, rfl⟩, (p.ext (x1.trans x3)).lst st3 h2.reverse⟩
    | some i =>
      simp only [slRL, q, Option.bind_some] at e7
      split at e7
      · rename_i c
        cases e7
        exact ⟨a, vs, _, rfl, h1, .inr ⟨i, rfl, c, rfl⟩, (p.ext (x1.trans x3)).lst st3 (h2.drop _).reverse⟩
      · cases e7)
theorem tr_call (gd : Good G cl k Γ X) {g : Nat} {f : Fn} {es : MEs} {x : Str} {xs : List Expr} {p pos : Pos} (hg : G[g]? = some (x, .fn f)) (hgl : Gl X x) (hdb : (x == ("__debug__" : Str)) = false) (hx : chkEs G es Γ xs = true) (h : PA X xs (TAR X.K (evEs G cl es))) :
    PE X (.Call (.Name x p) xs [] pos) (TR X.K (evE G cl (.call g es))) := by
  obtain ⟨a, fd, ps, hm, hk, hb, F⟩ := gd.gf.fn g x f hg
  have w : ∀ σ H Q, TR X.K (evE G cl (.call g es)) σ H Q → tCall (spOf X.K f.np (cl g)) [] E0 (TAR X.K (evEs G cl es)) σ H Q := by
    rintro σ H Q ⟨W, F, μ, ρ, S, d, S', st, en, e, p⟩
    obtain ⟨ds, S1, e1, e2⟩ := bnd_inv e
    refine ⟨W, F, μ, ρ, S, ds, S1, st, en, e1, fun vs H1 W1 μ1 x1 st1 r1 => ?_⟩
    show spOf X.K f.np (cl g) (vs ++ []) H1 Q E0
    rw [List.append_nil]
    exact ⟨r1.length.trans (gd.gf.len g x _ f ds S1 _ hg rfl e2), W1, F, μ1, S1, ds, d, S', st1, r1, e2, p.ext x1⟩
  cases xs with
  | nil =>
    cases es with
    | cons _ _ => cases hx
    | nil =>
      refine (pe_call0 F (gd.room.mono (Nat.le_succ _)) hgl hm hk hb .nil pass0 hdb).weak fun σ H Q q => ?_
      obtain ⟨W, F, μ, ρ, S, d, S', st, en, e, p⟩ := q
      have e : cl g [] S = some (d, S') := e
      show spOf X.K f.np (cl g) ([] ++ []) H Q E0
      exact ⟨(gd.gf.len g x _ f [] S _ hg rfl e), W, F, μ, S, [], d, S', st, rfl, e, p⟩
  | cons y ys =>
    cases es with
    | nil => cases hx
    | cons e1 es' =>
      obtain ⟨ok, h2⟩ := bk (show (okX y && (chkE G e1 Γ y && chkEs G es' Γ ys)) = true from hx)
      exact (pe_call F (gd.room.mono (Nat.le_succ _)) hgl hm hk hb .nil pass0 h hdb (star_ok ok ys X.env) (stars_any (bk h2).2).1).weak w
theorem tr_bi (gd : Good G cl k Γ X) {g : Nat} {b : BI} {es : MEs} {xs : List Expr} {p pos : Pos} (hg : G[g]? = some (biName b, .blt)) (hgl : Gl X (biName b)) (hx : chkEs G es Γ xs = true) (hne : xs.isEmpty = false) (h : PA X xs (TAR X.K (evEs G cl es))) :
    PE X (.Call (.Name (biName b) p) xs [] pos) (TR X.K (evE G cl (.bi b g es))) := by
  have hm := gd.gf.blt g _ hg
  have w : ∀ σ H Q, TR X.K (evE G cl (.bi b g es)) σ H Q → tCB (rBi X.K b) (TAR X.K (evEs G cl es)) σ H Q := by
    rintro σ H Q ⟨W, F, μ, ρ, S, d, S', st, en, e, p⟩
    obtain ⟨ds, S1, e1, e2⟩ := bnd_inv e
    obtain ⟨r, e3, e4⟩ := lft_inv e2
    cases e4
    exact ⟨W, F, μ, ρ, S, ds, _, st, en, e1, fun vs H1 W1 μ1 x1 st1 r1 => ⟨W1, F, μ1, _, ds, d, st1, r1, e3, p.ext x1⟩⟩
  cases xs with
  | nil => cases hne
  | cons y ys =>
    cases es with
    | nil => cases hx
    | cons e1 es' =>
      obtain ⟨ok, h2⟩ := bk (show (okX y && (chkE G e1 Γ y && chkEs G es' Γ ys)) = true from hx)
      have s1 := star_ok ok ys X.env
      have s2 := (stars_any (pos := pos) (env := X.env) (bk h2).2).1
      have hv := bi_boot b
      have hc := bi_call (X := X) gd.calm b
      have go1 : ∀ id, biVal b = .builtin id → PE X (.Call (.Name (biName b) p) (y :: ys) [] pos) (tCB (rBi X.K b) (TAR X.K (evEs G cl (.cons e1 es')))) := fun id e => by
        rw [e] at hv hc
        exact pe_callB hc hgl hm hv h (by cases b <;> decide) (by cases b <;> decide) s1 s2
      have go2 : ∀ T, biVal b = .type T → PE X (.Call (.Name (biName b) p) (y :: ys) [] pos) (tCB (rBi X.K b) (TAR X.K (evEs G cl (.cons e1 es')))) := fun T e => by
        rw [e] at hv hc
        exact pe_callTy hc hgl hm hv h (by cases b <;> decide) (by cases b <;> decide) s1 s2
      refine L2.PE.weak ?_ w
      cases b <;> first | exact go1 _ rfl | exact go2 _ rfl
theorem tr_isI (gd : Good G cl k Γ X) {g h' : Nat} {n : String} {a : ME} {y : Expr} {t : Str} {p p2 pos : Pos} (hg : G[g]? = some (("isinstance" : Str), GK.blt)) (hgl : Gl X "isinstance") (hh : G[h']? = some (t, .blt)) (hhl : Gl X t) (hdb : (t == ("__debug__" : Str)) = false) (hnm : t ≠ "__name__")
    (hb : bootBuiltins t = some (.type n)) (ok : okX y = true) (h : PE X y (TR X.K (evE G cl a))) : PE X (.Call (.Name "isinstance" p) [y, .Name t p2] [] pos) (TR X.K (evE G cl (.isI g h' n a))) := by
  have hm := gd.gf.blt g _ hg
  have hm2 := gd.gf.blt h' _ hh
  refine (pe_callB (call_isi (X := X)) hgl hm (by decide +kernel) (pa_cons h (pa_cons (pe_bltn (v := .ty n) hhl hm2 hb rfl hnm hdb) pa_nil (by rfl)) (star_ok ok _ X.env)) (by decide) (by decide) (star_ok ok _ X.env) (by rfl)).weak ?_
  rintro σ H Q ⟨W, F, μ, ρ, S, d, S', st, en, e, p⟩
  obtain ⟨d1, S1, e1, e2⟩ := bnd_inv e
  obtain ⟨tn, e3, e4⟩ := lft_inv e2
  obtain ⟨b, e5, e6⟩ := lft_inv e4
  cases e6
  exact ⟨W, F, μ, ρ, S, d1, _, st, en, e1, fun v H1 W1 μ1 x1 st1 r1 => ⟨v, .ty n, .type tn, .type n, b, rfl, .ty n, ty_rep st1 r1 e3, kit_ty e5, (p.ext x1).blv st1⟩⟩
theorem tr_meth (gd : Good G cl k Γ X) {m : MT} {o : ME} {es : MEs} {y : Expr} {xs : List Expr} {ap pos : Pos} (hc : noCall y = true) (hl : (ap.endLine == pos.line) = true) (h30 : xs.length < 30) (ho : PE X y (TR X.K (evE G cl o))) (hx : chkEs G es Γ xs = true) (h : PA X xs (TAR X.K (evEs G cl es))) :
    PE X (.Call (.Attribute y (mtName m) ap) xs [] pos) (TR X.K (evE G cl (.meth m o es))) := by
  have w : ∀ σ H Q, TR X.K (evE G cl (.meth m o es)) σ H Q → tBM X.K "list" (rMt X.K m) (TR X.K (evE G cl o)) (TAR X.K (evEs G cl es)) σ H Q := by
    rintro σ H Q ⟨W, F, μ, ρ, S, d, S', st, en, e, p⟩
    obtain ⟨d1, S1, e1, e2⟩ := bnd_inv e
    obtain ⟨ys, e3, e4⟩ := lft_inv e2
    obtain ⟨ds, S2, e5, e6⟩ := bnd_inv e4
    refine ⟨W, F, μ, ρ, S, d1, S1, st, en, e1, fun v H1 W1 μ1 x1 st1 r1 => ⟨?_, W1, F, μ1, ρ, S1, ds, S2, st1, en.mono x1, e5, fun vs H2 W2 μ2 x2 st2 r2 => ⟨W2, F, μ2, S2, d1, ds, d, S', st2, r1.m x2, r2, e6, p.ext (x1.trans x2)⟩⟩⟩
    obtain ⟨a, vs, rfl, h1, _⟩ := lst_of st1 r1 e3
    exact Or.inl ⟨rfl, vs, h1⟩
  have pa := PySem.F.plainAttrs_list
  cases xs with
  | nil =>
    cases es with
    | cons _ _ => cases hx
    | nil =>
      have go : ∀ {name : Str} {id : String}, name = mtName m → id = mtId m → Slot "list" name id → typeOf (.builtin id) = pure (.type "method_descriptor") → PE X (.Call (.Attribute y (mtName m) ap) [] [] pos) (TR X.K (evE G cl (.meth m o .nil))) := fun {name id} e1 e2 sl ty => by
        subst e1 e2
        refine (pe_bm0 pa sl ty (mt_call m) ho (base_ok hc _ _ _) hl).weak fun σ H Q q => ?_
        obtain ⟨W, F, μ, ρ, S, d, S', st, en, e, p⟩ := q
        obtain ⟨d1, S1, e1, e2⟩ := bnd_inv e
        obtain ⟨ys, e3, e4⟩ := lft_inv e2
        have e6 : methD m S1 d1 [] = some (d, S') := e4
        refine ⟨W, F, μ, ρ, S, d1, S1, st, en, e1, fun v H1 W1 μ1 x1 st1 r1 => ⟨?_, W1, F, μ1, S1, d1, [], d, S', st1, r1, rfl, e6, p.ext x1⟩⟩
        obtain ⟨a, vs, rfl, h1, _⟩ := lst_of st1 r1 e3
        exact Or.inl ⟨rfl, vs, h1⟩
      cases m
      · exact go rfl rfl PySem.F.slot_list_append PySem.F.type_list_append
      · exact go rfl rfl PySem.F.slot_list_pop PySem.F.type_list_pop
      · exact go rfl rfl PySem.F.slot_list_extend PySem.F.type_list_extend
  | cons z zs =>
    cases es with
    | nil => cases hx
    | cons e1 es' =>
      obtain ⟨ok, h2⟩ := bk (show (okX z && (chkE G e1 Γ z && chkEs G es' Γ zs)) = true from hx)
      have s1 := star_ok ok zs X.env
      have s2 := (stars_any (pos := pos) (env := X.env) (bk h2).2).1
      have s3 : ((backTo pos (starEach (z :: zs) X.env)).all (fun x => !x.1) && (backToKw pos (keywordEach [] X.env)).all (fun x => x.1.isSome) && decide ((z :: zs).length + ([] : List Keyword).length + (if ([] : List Keyword).isEmpty then 0 else 1) < 30)) = true := by
        rw [(stars_any (pos := pos) (env := X.env) hx).2]
        have : decide ((z :: zs).length + ([] : List Keyword).length + (if ([] : List Keyword).isEmpty then 0 else 1) < 30) = true := decide_eq_true (by simpa using h30)
        rw [this]
        rfl
      have go : ∀ {name : Str} {id : String}, name = mtName m → id = mtId m → Slot "list" name id → typeOf (.builtin id) = pure (.type "method_descriptor") → PE X (.Call (.Attribute y (mtName m) ap) (z :: zs) [] pos) (TR X.K (evE G cl (.meth m o (.cons e1 es')))) := fun {name id} q1 q2 sl ty => by
        subst q1 q2
        exact (pe_bm pa sl ty (mt_call m) ho h (base_ok hc _ _ _) s3 hl s1 s2).weak w
      cases m
      · exact go rfl rfl PySem.F.slot_list_append PySem.F.type_list_append
      · exact go rfl rfl PySem.F.slot_list_pop PySem.F.type_list_pop
      · exact go rfl rfl PySem.F.slot_list_extend PySem.F.type_list_extend
/-! ### instances -/
theorem RepFS.look {K : PySem.W.Frag} {W : Hp} {μ : List Addr} : ∀ {fs : List (Str × D)} {ws : List (Str × V)} {f : Str}, RepFS K W μ fs ws → (∀ d, fs.lookup f = some d → ∃ v, ws.lookup f = some v ∧ Rep K W μ d v) ∧ (fs.lookup f = none → ws.lookup f = none)
  | [], ws, f, h => by
    have : ws = [] := by simpa using h.1.symm
    subst this
    exact ⟨fun d e => absurd e (by simp), fun _ => rfl⟩
  | (x, d) :: fs, ws, f, h => by
    obtain ⟨h1, v, r, e, h2, h3⟩ := h
    match ws, h1, e with
    | (y, u) :: ws, h1, e =>
      obtain ⟨h4, h5⟩ := List.cons.inj (show x :: fs.map (·.1) = y :: ws.map (·.1) from h1)
      obtain ⟨h6, h7⟩ := List.cons.inj (show u :: ws.map (·.2) = v :: r from e)
      subst h4 h6 h7
      obtain ⟨i1, i2⟩ := RepFS.look (f := f) (show RepFS K W μ fs ws from ⟨h5, h3⟩)
      rw [List.lookup_cons, List.lookup_cons]
      cases c : f == x with
      | true => exact ⟨fun d' e' => ⟨u, rfl, by cases e'; exact h2⟩, fun e' => by cases e'⟩
      | false => exact ⟨i1, i2⟩
theorem RepFS.put {K : PySem.W.Frag} {W : Hp} {μ : List Addr} {f : Str} {d : D} {v : V} (hd : Rep K W μ d v) : ∀ {fs : List (Str × D)} {ws : List (Str × V)}, RepFS K W μ fs ws → RepFS K W μ (setFs f d fs) (putF f v ws)
  | [], ws, h => by
    have : ws = [] := by simpa using h.1.symm
    subst this
    exact ⟨rfl, v, [], rfl, hd, rfl⟩
  | (x, e) :: fs, ws, h => by
    obtain ⟨h1, u, r, e1, h2, h3⟩ := h
    match ws, h1, e1 with
    | (y, u') :: ws, h1, e1 =>
      obtain ⟨h4, h5⟩ := List.cons.inj (show x :: fs.map (·.1) = y :: ws.map (·.1) from h1)
      obtain ⟨h6, h7⟩ := List.cons.inj (show u' :: ws.map (·.2) = u :: r from e1)
      subst h4 h6 h7
      unfold setFs putF
      by_cases c : x = f
      · rw [if_pos c, if_pos c]
        exact ⟨by simp [h5], v, _, rfl, hd, h3⟩
      · rw [if_neg c, if_neg c]
        obtain ⟨i1, i2⟩ := RepFS.put hd (show RepFS K W μ fs ws from ⟨h5, h3⟩)
        exact ⟨by simp [i1], u', _, rfl, h2, i2⟩
theorem RepFS.len {K : PySem.W.Frag} {W : Hp} {μ : List Addr} {fs : List (Str × D)} {ws : List (Str × V)} (h : RepFS K W μ fs ws) : ws.length = fs.length := by
  have := congrArg List.length h.1
  simpa using this.symm
theorem tr_attr (gd : Good G cl k Γ X) {a : ME} {f : Str} {x : Expr} {pos : Pos} (hc : noCall x = true) (ha : PE X x (TR X.K (evE G cl a))) : PE X (.Attribute x f pos) (TR X.K (evE G cl (.attr a f))) := (pe_fld ha (base_ok hc _ _ _)).weak (by
  rintro σ H Q ⟨W, F, μ, ρ, S, d, S', st, en, e, p⟩
  obtain ⟨d1, S1, e1, e2⟩ := bnd_inv e
  obtain ⟨r, e3, e4⟩ := lft_inv e2
  cases e4
  refine ⟨W, F, μ, ρ, S, d1, _, st, en, e1, fun v H1 W1 μ1 x1 st1 r1 => ?_⟩
  unfold fldD at e3
  split at e3
  · split at e3
    · rename_i g y fs hS
      split at e3
      · rename_i y' ms fl hC
        split at e3
        · rename_i hf
          obtain ⟨rfl, hf⟩ := hf
          obtain ⟨a', hr, rfl⟩ := r1
          obtain ⟨dx, ws, h1, h2⟩ := st1.ob hr hS
          obtain ⟨u, h3, h4⟩ := h2.look.1 _ e3
          obtain ⟨_, c1, c2, _⟩ := gd.gf.cls _ _ _ _ hC
          exact ⟨a', _, dx, ws, u, rfl, h1, c1, c2 f hf, h3, (p.ext x1).same st1 h4⟩
        · cases e3
      · cases e3
    · cases e3
  · cases e3)
theorem mcall_eval {o : Expr} {m : Str} {apos pos : Pos} {xs : List Expr} {env : PySem.Env} (hb : attributeBase o m env (eval o env) = eval o env) (hf : methodCallForm (xs.length + ([] : List Keyword).length) (backTo pos (starEach xs env)) (backToKw pos (keywordEach [] env)) = true) (hl : (apos.endLine == pos.line) = true) :
    eval (.Call (.Attribute o m apos) xs [] pos) env = (do
      let ov ← eval o env
      standAt apos.atName
      let (f, first) ← holding [ov] (getMethod ov m (do return (← importBound o env).getD true))
      callWith pos f first (backTo pos (starEach xs env)) (backToKw pos (keywordEach [] env))) := by
  show (do
    let ov ← attributeBase o m env (eval o env)
    standAt apos.atName
    methodCall o m apos pos env ov (xs.length + ([] : List Keyword).length) (backTo pos (starEach xs env)) (backToKw pos (keywordEach [] env))) = _
  rw [hb]
  unfold methodCall calleeOf methodCallPos
  rw [hf]
  simp only [hl, Bool.not_true, Bool.false_or, if_true, pure_bind]
theorem isOb_rep {K : PySem.W.Frag} {W F : Hp} {μ : List Addr} {S : Sto} {H : Hp} (st : Stt K W F μ S H) {d : D} {v : V} {c : Nat} {m : Str} {u : Unit} (r : Rep K W μ d v) (h : isOb G S d c m = some u) : ∃ x ms fl a dx fs, clsOf G c = some (x, ms, fl) ∧ v = .ref a ∧ H a = some (.ins (He.ga K x) dx fs) ∧ fs.lookup m = none := by
  unfold isOb at h
  split at h
  · split at h
    · rename_i g y fs hS
      split at h
      · rename_i y' ms fl hC
        split at h
        · rename_i hf
          obtain ⟨rfl, rfl, hn⟩ := hf
          obtain ⟨a', hr, rfl⟩ := r
          obtain ⟨dx, ws, h1, h2⟩ := st.ob hr hS
          exact ⟨_, _, _, a', dx, ws, hC, rfl, h1, h2.look.2 hn⟩
        · cases h
      · cases h
    · cases h
  · cases h
theorem tr_mcall (gd : Good G cl k Γ X) {c : Nat} {o : ME} {m : Str} {es : MEs} {y : Expr} {xs : List Expr} {ap pos : Pos} (hm : m ≠ "__init__") (hc : noCall y = true) (hl : (ap.endLine == pos.line) = true) (h30 : xs.length < 30) (hs : (metOf G c m).isSome = true) (ho : PE X y (TR X.K (evE G cl o))) (hx : chkEs G es Γ xs = true) (h : PA X xs (TAR X.K (evEs G cl es))) :
    PE X (.Call (.Attribute y m ap) xs [] pos) (TR X.K (evE G cl (.mcall c o m es))) := by
  obtain ⟨g, hg⟩ := Option.isSome_iff_exists.mp hs
  cases hC : clsOf G c with
  | none => unfold metOf at hg; rw [hC] at hg; cases hg
  | some q =>
    obtain ⟨x, ms, fl⟩ := q
    have hg' : ms.lookup m = some g := by unfold metOf at hg; rw [hC] at hg; exact hg
    obtain ⟨c0, c1, c2, c3⟩ := gd.gf.cls _ _ _ _ hC
    obtain ⟨yn, f, a, fd, ps, q1, q2, q3, q4, q5⟩ := c3 m g hg'
    have hmt := q3 hm
    have rm := gd.room.mono (Nat.le_succ _)
    have w : ∀ σ H Q, TR X.K (evE G cl (.mcall c o m es)) σ H Q → tMeth (He.ga X.K x) m (spOf X.K f.np (cl g)) [] E0 (TR X.K (evE G cl o)) (TAR X.K (evEs G cl es)) σ H Q := by
      rintro σ H Q ⟨W, F, μ, ρ, S, d, S', st, en, e, p⟩
      obtain ⟨d1, S1, e1, e2⟩ := bnd_inv e
      obtain ⟨u, e3, e4⟩ := lft_inv e2
      obtain ⟨g', e5, e6⟩ := lft_inv e4
      rw [hg] at e5
      cases e5
      obtain ⟨ds, S2, e7, e8⟩ := bnd_inv e6
      refine ⟨W, F, μ, ρ, S, d1, S1, st, en, e1, fun v H1 W1 μ1 x1 st1 r1 => ?_⟩
      obtain ⟨x', ms', fl', b, dx, fs, f1, f2, f3, f4⟩ := isOb_rep st1 r1 e3
      rw [hC] at f1
      cases f1
      refine ⟨b, dx, fs, f2, f3, f4, W1, F, μ1, ρ, S1, ds, S2, st1, en.mono x1, e7, fun vs H2 W2 μ2 x2 st2 r2 => ?_⟩
      show spOf X.K f.np (cl g) (v :: (vs ++ [])) H2 Q E0
      rw [List.append_nil]
      have hlen := gd.gf.len g yn _ f _ S2 _ q1 rfl e8
      exact ⟨by rw [List.length_cons, r2.length, ← hlen, List.length_cons], W2, F, μ2, S2, d1 :: ds, d, S', st2, ⟨v, vs, rfl, r1.m x2, r2⟩, e8, p.ext (x1.trans x2)⟩
    cases xs with
    | nil =>
      cases es with
      | cons _ _ => cases hx
      | nil =>
        refine (pe_meth0 ho c1 hmt q5 rm q4 .nil pass0 (mcall_eval (xs := []) (base_ok hc _ _ _) rfl hl)).weak fun σ H Q q => ?_
        have := w σ H Q q
        obtain ⟨W, F, μ, ρ, S, d1, S1, st, en, e1, p⟩ := this
        refine ⟨W, F, μ, ρ, S, d1, S1, st, en, e1, fun v H1 W1 μ1 x1 st1 r1 => ?_⟩
        obtain ⟨b, dx, fs, f2, f3, f4, W2, F2, μ2, ρ2, S2, ds, S3, st2, en2, e2, p2⟩ := p v H1 W1 μ1 x1 st1 r1
        cases e2
        exact ⟨b, dx, fs, f2, f3, f4, p2 [] H1 W2 μ2 Ext.refl st2 rfl⟩
    | cons z zs =>
      cases es with
      | nil => cases hx
      | cons e1 es' =>
        obtain ⟨ok, h2⟩ := bk (show (okX z && (chkE G e1 Γ z && chkEs G es' Γ zs)) = true from hx)
        have hf : methodCallForm ((z :: zs).length + ([] : List Keyword).length) (backTo pos (starEach (z :: zs) X.env)) (backToKw pos (keywordEach [] X.env)) = true := by
          unfold methodCallForm
          rw [(stars_any (pos := pos) (env := X.env) hx).2]
          have : decide ((z :: zs).length + ([] : List Keyword).length + (if (backToKw pos (keywordEach [] X.env)).isEmpty then 0 else 1) < 30) = true := decide_eq_true (by
            show (z :: zs).length + 0 + 0 < 30
            simpa using h30)
          rw [this]
          rfl
        exact (pe_meth ho c1 hmt q5 rm q4 .nil pass0 h (star_ok ok zs X.env) (stars_any (bk h2).2).1 (mcall_eval (base_ok hc _ _ _) hf hl)).weak w
theorem tr_make (gd : Good G cl k Γ X) {c : Nat} {es : MEs} {x : Str} {xs : List Expr} {p pos : Pos} {ms : List (Str × Nat)} {fl : List Str} (hC : clsOf G c = some (x, ms, fl)) (hs : (metOf G c "__init__").isSome = true) (hgl : Gl X x) (hdb : (x == ("__debug__" : Str)) = false) (hx : chkEs G es Γ xs = true) (h : PA X xs (TAR X.K (evEs G cl es))) :
    PE X (.Call (.Name x p) xs [] pos) (TR X.K (evE G cl (.make c es))) := by
  obtain ⟨g, hg⟩ := Option.isSome_iff_exists.mp hs
  have hg' : ms.lookup ("__init__" : Str) = some g := by unfold metOf at hg; rw [hC] at hg; exact hg
  obtain ⟨c0, c1, c2, c3⟩ := gd.gf.cls _ _ _ _ hC
  obtain ⟨yn, f, a, fd, ps, q1, q2, q3, q4, q5⟩ := c3 _ g hg'
  have M := q2 rfl
  have w : ∀ σ H Q, TR X.K (evE G cl (.make c es)) σ H Q → tMake (He.ga X.K x) (spOf X.K f.np (cl g)) [] E0 (TAR X.K (evEs G cl es)) σ H Q := by
    rintro σ H Q ⟨W, F, μ, ρ, S, d, S', st, en, e, pp⟩
    obtain ⟨q, e1, e2⟩ := lft_inv e
    rw [hC] at e1
    cases e1
    obtain ⟨g', e3, e4⟩ := lft_inv e2
    rw [hg] at e3
    cases e3
    obtain ⟨ds, S1, e5, e6⟩ := bnd_inv e4
    obtain ⟨d2, S2, e7, e8⟩ := bnd_inv e6
    refine ⟨W, F, μ, ρ, S, ds, S1, st, en, e5, fun vs H1 W1 μ1 x1 st1 r1 => ?_⟩
    intro b dx hb hdx hne
    split at e8
    · rename_i hn
      cases e8
      obtain ⟨st2, x2⟩ := st1.imm (.own b) hdx
      have hb2 : upd H1 dx (.own b) b = none := by rw [upd_ne (Ne.symm hne)]; exact hb
      obtain ⟨st3, x3⟩ := st2.cell (.ins (He.ga X.K x) dx []) (.ob c x []) hb2 (fun W' μ' _ => ⟨dx, [], upd_same, rfl, rfl⟩)
      have hlast : (μ1 ++ [b])[S1.length]? = some b := by rw [← st1.len]; simp
      have hlen := gd.gf.len g yn _ f _ _ _ q1 rfl e7
      show spOf X.K f.np (cl g) (.ref b :: (vs ++ [])) _ _ E0
      rw [List.append_nil]
      refine ⟨by rw [List.length_cons, r1.length, ← hlen, List.length_cons], _, F, _, _, .ref S1.length :: ds, d2, _, st3, ⟨.ref b, vs, rfl, ⟨b, hlast, rfl⟩, (r1.m x2).m x3⟩, e7, fun v H2 W2 μ2 x4 st4 r4 => ?_⟩
      have hv : v = .non := by
        cases d2 with
        | non => exact r4
        | _ => cases hn
      exact ⟨hv, pp _ H2 W2 μ2 (((x1.trans x2).trans x3).trans x4) st4 ⟨b, x4.m _ _ hlast, rfl⟩⟩
    · cases e8
  cases xs with
  | nil =>
    cases es with
    | cons _ _ => cases hx
    | nil =>
      refine (pe_make0 M q5 gd.room hgl c0 q4 .nil pass0 hdb).weak fun σ H Q q => ?_
      have := w σ H Q q
      obtain ⟨W, F, μ, ρ, S, ds, S1, st, en, e1, p⟩ := this
      cases e1
      exact p [] H W μ Ext.refl st rfl
  | cons z zs =>
    cases es with
    | nil => cases hx
    | cons e1 es' =>
      obtain ⟨ok, h2⟩ := bk (show (okX z && (chkE G e1 Γ z && chkEs G es' Γ zs)) = true from hx)
      exact (pe_make M q5 gd.room hgl c0 q4 .nil pass0 h hdb (star_ok ok zs X.env) (stars_any (bk h2).2).1).weak w
end
end Rw

/-! M11: displays of dicts, comprehensions, all expressions -/
namespace Rw
open PySem PySem.Spec PyProof.Rows L2
section
variable {G : GT} {cl : Nat → List D → Sto → Rs D} {k : Nat} {Γ : Syn} {X : Cx}
/-! ### dicts -/
theorem RepKV.nil {K : PySem.W.Frag} {W : Hp} {μ : List Addr} : RepKV K W μ [] [] := ⟨rfl, rfl⟩
theorem RepKV.cons {K : PySem.W.Frag} {W : Hp} {μ : List Addr} {q : Key} {d : D} {v : V} {kvs : List (Key × D)} {ws : List (Key × V)} (hd : Rep K W μ d v) (h : RepKV K W μ kvs ws) : RepKV K W μ ((q, d) :: kvs) ((q, v) :: ws) :=
  ⟨by simp [h.1], ⟨v, _, rfl, hd, h.2⟩⟩
theorem RepKV.inv {K : PySem.W.Frag} {W : Hp} {μ : List Addr} {q : Key} {d : D} {kvs : List (Key × D)} {ws : List (Key × V)} (h : RepKV K W μ ((q, d) :: kvs) ws) : ∃ v r, ws = (q, v) :: r ∧ Rep K W μ d v ∧ RepKV K W μ kvs r := by
  obtain ⟨h1, v, r, e, h2, h3⟩ := h
  cases ws with
  | nil => simp at h1
  | cons p ps =>
    obtain ⟨pk, pv⟩ := p
    have e1 : q = pk ∧ kvs.map (·.1) = ps.map (·.1) := by simpa using h1
    have e2 : pv = v ∧ ps.map (·.2) = r := by simpa using e
    obtain ⟨rfl, e3⟩ := e1
    obtain ⟨rfl, rfl⟩ := e2
    exact ⟨pv, ps, rfl, h2, e3, h3⟩
theorem RepKV.store {K : PySem.W.Frag} {W : Hp} {μ : List Addr} : ∀ {kvs : List (Key × D)} {ws : List (Key × V)} {q : Key} {d : D} {v : V}, RepKV K W μ kvs ws → Rep K W μ d v → RepKV K W μ (storeK kvs q d) (putK ws q v) := by
  intro kvs ws q d v h hd
  have hany : ∀ {kvs : List (Key × D)} {ws : List (Key × V)}, RepKV K W μ kvs ws → (kvs.any fun kv => decide (kv.1 = q)) = (ws.any fun kv => decide (kv.1 = q)) := by
    intro kvs
    induction kvs with
    | nil =>
      intro ws h
      cases ws with
      | nil => rfl
      | cons p ps => have := h.1; simp at this
    | cons p ps ih =>
      intro ws h
      obtain ⟨pk, pd⟩ := p
      obtain ⟨v, r, rfl, _, h2⟩ := h.inv
      simp only [List.any_cons, ih h2]
  have hmap : ∀ {kvs : List (Key × D)} {ws : List (Key × V)}, RepKV K W μ kvs ws → RepKV K W μ (kvs.map fun kv => if kv.1 = q then (kv.1, d) else kv) (ws.map fun kv => if kv.1 = q then (kv.1, v) else kv) := by
    intro kvs
    induction kvs with
    | nil =>
      intro ws h
      cases ws with
      | nil => exact RepKV.nil
      | cons p ps => have := h.1; simp at this
    | cons p ps ih =>
      intro ws h
      obtain ⟨pk, pd⟩ := p
      obtain ⟨u, r, rfl, h1, h2⟩ := h.inv
      simp only [List.map_cons]
      by_cases c : pk = q
      · rw [if_pos c, if_pos c]; exact (ih h2).cons hd
      · rw [if_neg c, if_neg c]; exact (ih h2).cons h1
  unfold storeK putK
  rw [hany h]
  split
  · exact hmap h
  · exact ⟨by simp [h.1], by simpa using h.2.app (Reps.one hd)⟩
theorem RepKV.merge {K : PySem.W.Frag} {W : Hp} {μ : List Addr} : ∀ {more : List (Key × D)} {mw : List (Key × V)} {kvs : List (Key × D)} {ws : List (Key × V)}, RepKV K W μ kvs ws → RepKV K W μ more mw → RepKV K W μ (mergeKD kvs more) (mergeK ws mw) := by
  intro more
  induction more with
  | nil =>
    intro mw kvs ws h h2
    cases mw with
    | nil => exact h
    | cons p ps => have := h2.1; simp at this
  | cons p ps ih =>
    intro mw kvs ws h h2
    obtain ⟨pk, pd⟩ := p
    obtain ⟨u, r, rfl, h3, h4⟩ := h2.inv
    exact ih (mw := r) (kvs := storeK kvs pk pd) (ws := putK ws pk u) (h.store h3) h4
/-- the pairs of a display -/
def PPost (K : PySem.W.Frag) (W F : Hp) (μ : List Addr) (S : Sto) (ps : List (D × D)) (Q : List (V × V) → Hp → Prop) : Prop :=
  ∀ qs H' W' μ', Ext W μ W' μ' → Stt K W' F μ' S H' → Reps K W' μ' (ps.map (·.1)) (qs.map (·.1)) → Reps K W' μ' (ps.map (·.2)) (qs.map (·.2)) → Q qs H'
structure PPok (X : Cx) (pos : Pos) (keys : List (Option Expr)) (values : List Expr) (ev : Env → Sto → Rs (List (D × D))) : Prop where
  ex : ∃ trs, PPs X pos keys values trs ∧ ∀ σ H Q W F μ ρ S ps S', Stt X.K W F μ S H → EnvR X.K W μ ρ σ → ev ρ S = some (ps, S') → PPost X.K W F μ S' ps Q → tPairs trs σ H Q
theorem pp_nil {pos : Pos} : PPok X pos [] [] (evPs G cl .nil) := ⟨[], pps_nil, fun σ H Q W F μ ρ S ps S' st en e p => by
  cases e
  exact p [] H W μ Ext.refl st rfl rfl⟩
theorem pp_cons {pos : Pos} {a b : ME} {r : MPs} {x y : Expr} {ks : List (Option Expr)} {vs : List Expr} (ha : PE X x (TR X.K (evE G cl a))) (hb : PE X y (TR X.K (evE G cl b))) (hr : PPok X pos ks vs (evPs G cl r)) : PPok X pos (some x :: ks) (y :: vs) (evPs G cl (.cons a b r)) := by
  obtain ⟨trs, h1, h2⟩ := hr
  refine ⟨_, pps_cons ha hb h1, fun σ H Q W F μ ρ S ps S' st en e p => ?_⟩
  obtain ⟨d1, S1, e1, e2⟩ := bnd_inv e
  obtain ⟨d2, S2, e3, e4⟩ := bnd_inv e2
  obtain ⟨d3, S3, e5, e6⟩ := bnd_inv e4
  cases e6
  refine ⟨W, F, μ, ρ, S, d1, S1, st, en, e1, fun v1 H1 W1 μ1 x1 st1 r1 => ⟨W1, F, μ1, ρ, S1, d2, S2, st1, en.mono x1, e3, fun v2 H2 W2 μ2 x2 st2 r2 => ?_⟩⟩
  refine h2 σ H2 _ W2 F μ2 ρ S2 d3 _ st2 (en.mono (x1.trans x2)) e5 fun qs H3 W3 μ3 x3 st3 q1 q2 => ?_
  exact p ((v1, v2) :: qs) H3 W3 μ3 ((x1.trans x2).trans x3) st3 ⟨v1, _, rfl, r1.m (x2.trans x3), q1⟩ ⟨v2, _, rfl, r2.m x3, q2⟩
theorem keysD_rep {K : PySem.W.Frag} {W : Hp} {μ : List Addr} : ∀ {ps : List (D × D)} {qs : List (V × V)} {kvs : List (Key × D)}, keysD ps = some kvs → Reps K W μ (ps.map (·.1)) (qs.map (·.1)) → Reps K W μ (ps.map (·.2)) (qs.map (·.2)) →
    ∃ ws : List (Key × V), qs = ws.map (fun kv => (kV kv.1, kv.2)) ∧ RepKV K W μ kvs ws ∧ ws.length = kvs.length
  | [], qs, kvs, e, h1, h2 => by
    cases e
    cases qs with
    | nil => exact ⟨[], rfl, RepKV.nil, rfl⟩
    | cons p ps => have := h1.length; simp at this
  | (a, b) :: ps, qs, kvs, e, h1, h2 => by
    simp only [keysD] at e
    cases q1 : keyD a with
    | none => rw [q1] at e; cases e
    | some key =>
      cases q2 : keysD ps with
      | none => rw [q1, q2] at e; cases e
      | some kvs' =>
        rw [q1, q2] at e
        cases e
        cases qs with
        | nil => have := h1.length; simp at this
        | cons p qs =>
          obtain ⟨p1, p2⟩ := p
          obtain ⟨v, r, e1, r1, t1⟩ := (show ∃ v r, (p1 :: qs.map (·.1)) = v :: r ∧ Rep K W μ a v ∧ Reps K W μ (ps.map (·.1)) r from h1)
          obtain ⟨u, r', e2, r2, t2⟩ := (show ∃ v r, (p2 :: qs.map (·.2)) = v :: r ∧ Rep K W μ b v ∧ Reps K W μ (ps.map (·.2)) r from h2)
          cases e1
          cases e2
          obtain ⟨ws, e3, e4, e5⟩ := keysD_rep q2 t1 t2
          have := key_rep r1 q1
          subst this
          exact ⟨(key, p2) :: ws, by simp [e3], e4.cons r2, by simp [e5]⟩
theorem tr_dict {ps : MPs} {ks : List (Option Expr)} {vs : List Expr} {pos : Pos} (h : PPok X pos ks vs (evPs G cl ps)) (hall : ks.all (·.isSome) = true) (hl : ks.length = vs.length) (h0 : ks ≠ []) (h15 : ks.length ≤ 15) : PE X (.Dict ks vs pos) (TR X.K (evE G cl (.dict ps))) := by
  obtain ⟨trs, h1, h2⟩ := h
  refine (pe_disp h1 hall hl h0 h15).weak ?_
  rintro σ H Q ⟨W, F, μ, ρ, S, d, S', st, en, e, p⟩
  obtain ⟨qs, S1, e1, e2⟩ := bnd_inv e
  obtain ⟨kvs, e3, e4⟩ := lft_inv e2
  split at e4
  · rename_i c
    cases e4
    intro a ha
    have hF := (st.noF ha).1
    refine h2 σ _ _ W (upd F a (.dK [])) μ ρ S qs _ (st.frame (.dK []) ha) en e1 fun us H2 W2 μ2 x2 st2 q1 q2 => ?_
    obtain ⟨ws, e5, e6, e7⟩ := keysD_rep e3 q1 q2
    refine ⟨st2.inF, ws, e5, by rw [e7]; exact c, ?_⟩
    have x3 : Ext W2 μ2 W2 (μ2 ++ [a]) := ⟨fun _ _ h => h, fun r b h => by rw [List.getElem?_append_left (List.getElem?_eq_some_iff.mp h).1]; exact h⟩
    obtain ⟨st3, _⟩ := (st2.reframe (o' := .dK (mergeK [] ws))).toCell (c := .dk (mergeKD [] kvs)) hF ⟨_, upd_same, (RepKV.merge RepKV.nil e6).mono x3⟩
    exact p _ _ _ _ (x2.trans x3) st3 ⟨a, by rw [← st2.len]; simp, rfl⟩
  · cases e4

theorem tr_dict0 {pos : Pos} : PE X (.Dict [] [] pos) (TR X.K (evE G cl (.dict .nil))) := pe_dnewK.weak (by
  rintro σ H Q ⟨W, F, μ, ρ, S, d, S', st, en, e, p⟩
  have e' : (some (.ref S.length, S ++ [.dk []]) : Rs D) = some (d, S') := e
  cases e'
  intro a ha
  obtain ⟨st2, x2⟩ := st.cell (.dK []) (.dk []) ha fun W' μ' x => ⟨_, upd_same, RepKV.nil⟩
  exact p _ _ _ _ x2 st2 ⟨a, by rw [← st.len]; simp, rfl⟩)
theorem pairsD_rep {K : PySem.W.Frag} {W H : Hp} {μ : List Addr} (hs : ∀ a o, W a = some o → H a = some o) : ∀ {xs : List D} {vs : List V} {kvs : List (Key × D)}, Reps K W μ xs vs → pairsD xs = some kvs →
    ∃ (ps : List Addr) (ws : List (Key × V)), vs = ps.map V.ref ∧ RepKV K W μ kvs ws ∧ Paired (fun p kv => SqT K H p [kV kv.1, kv.2]) ps ws
  | [], vs, kvs, h, e => by
    cases (show vs = [] from h)
    cases e
    exact ⟨[], [], rfl, RepKV.nil, .nil⟩
  | x :: r, vs, kvs, h, e => by
    obtain ⟨v, vr, rfl, h1, h2⟩ := h
    match x, e with
    | .tup [k, d], e =>
      unfold pairsD at e
      cases c1 : keyD k with
      | none => rw [c1] at e; cases e
      | some q =>
        cases c2 : pairsD r with
        | none => rw [c1, c2] at e; cases e
        | some s =>
          rw [c1, c2] at e
          cases e
          obtain ⟨ps, ws, rfl, q1, q2⟩ := pairsD_rep hs h2 c2
          obtain ⟨a, us, rfl, p1, p2⟩ := h1
          obtain ⟨u, y, rfl, r1, r2⟩ := p2.inv2
          have := key_rep r1 c1
          subst this
          exact ⟨a :: ps, (q, y) :: ws, rfl, q1.cons r2, .cons (sqT_le hs p1.sq) q2⟩
theorem tr_mdict (gd : Good G cl k Γ X) {g : Nat} {e : ME} {y : Expr} {p pos : Pos} (hg : G[g]? = some (("dict" : Str), GK.blt)) (hgl : Gl X "dict") (ok : okX y = true) (h : PE X y (TR X.K (evE G cl e))) : PE X (.Call (.Name "dict" p) [y] [] pos) (TR X.K (evE G cl (.mdict g e))) := by
  have hm := gd.gf.blt g _ hg
  have hc : CallR X (.type "dict") (fun vs H Q => ∃ W F μ S d kvs, Stt X.K W F μ S H ∧ Reps X.K W μ [d] vs ∧ dctD d = some kvs ∧ Post X.K W F μ (S ++ [.dk (mergeKD [] kvs)]) (.ref S.length) Q) := by
    intro pins s σ H vs us Q I rs q
    obtain ⟨W, F, μ, S, d, kvs, st, rd, hd, po⟩ := q
    obtain ⟨v, rfl, r1⟩ := rd.inv1
    have fin : ∀ ws : List (Key × V), RepKV X.K W μ kvs ws → ∀ a, H a = none → Q (.ref a) (upd H a (.dK (mergeK [] ws))) := fun ws hw a ha => by
      obtain ⟨st2, x2⟩ := st.cell (.dK (mergeK [] ws)) (.dk (mergeKD [] kvs)) ha fun W' μ' x => ⟨_, upd_same, (RepKV.merge RepKV.nil hw).mono x⟩
      exact po _ _ _ _ x2 st2 ⟨a, by rw [← st.len]; simp, rfl⟩
    unfold dctD at hd
    split at hd
    · obtain ⟨a, ws, rfl, h1, h2⟩ := r1
      obtain ⟨ps, kws, rfl, q1, q2⟩ := pairsD_rep st.sub h2 hd
      exact call_dictT gd.calm pins s σ H _ us Q I rs ⟨a, ps, kws, rfl, plT_le st.sub h1, q2, fin kws q1⟩
    · obtain ⟨a, ws, rfl, h1, h2⟩ := r1
      obtain ⟨ps, kws, rfl, q1, q2⟩ := pairsD_rep st.sub h2 hd
      exact call_dictP gd.calm pins s σ H _ us Q I rs ⟨a, ps, kws, rfl, SqL.of (st.sub _ _ h1), q2, fin kws q1⟩
    · cases hd
  refine (pe_callTy hc hgl hm (by decide +kernel) (pa_cons h pa_nil (star_ok ok [] X.env)) (by decide) (by decide) (star_ok ok [] X.env) (by rfl)).weak ?_
  rintro σ H Q ⟨W, F, μ, ρ, S, d, S', st, en, e, p⟩
  obtain ⟨d1, S1, e1, e2⟩ := bnd_inv e
  obtain ⟨kvs, e3, e4⟩ := lft_inv e2
  cases e4
  exact ⟨W, F, μ, ρ, S, d1, S1, st, en, e1, fun v H1 W1 μ1 x1 st1 r1 => ⟨W1, F, μ1, S1, d1, kvs, st1, Reps.one r1, e3, p.ext x1⟩⟩
theorem look_none : ∀ {kvs : List (Key × D)} {ws : List (Key × V)} {q : Key}, kvs.map (·.1) = ws.map (·.1) → lookK kvs q = none → valV ws q = none
  | [], [], _, _, _ => rfl
  | [], _ :: _, _, h, _ => by simp at h
  | _ :: _, [], _, h, _ => by simp at h
  | (a, x) :: r, (b, y) :: t, q, h, e => by
    obtain ⟨h1, h2⟩ := (by simpa using h : a = b ∧ r.map (·.1) = t.map (·.1))
    subst h1
    by_cases c : a = q
    · subst c
      simp [lookK] at e
    · rw [valV_neg (p := (a, y)) c]
      refine look_none h2 ?_
      simpa [lookK, List.find?_cons, c] using e
theorem tr_dget (gd : Good G cl k Γ X) {o q d : ME} {y u v : Expr} {ap pos : Pos} (hc : noCall y = true) (hl : (ap.endLine == pos.line) = true) (o1 : okX u = true) (o2 : okX v = true) (ho : PE X y (TR X.K (evE G cl o))) (hq : PE X u (TR X.K (evE G cl q))) (hd : PE X v (TR X.K (evE G cl d))) :
    PE X (.Call (.Attribute y "get" ap) [u, v] [] pos) (TR X.K (evE G cl (.dget o q d))) := by
  have s1 : starEach [u, v] X.env = [(false, eval u X.env), (false, eval v X.env)] := (star_ok o1 [v] X.env).trans (congrArg (_ :: ·) (star_ok o2 [] X.env))
  have m : M2 X y "get" ap u v pos := ⟨base_ok hc _ _ _, by rw [s1]; rfl, hl, by rw [s1]; rfl⟩
  refine (pe_dget2 gd.hu1 ho hq hd m).weak ?_
  rintro σ H Q ⟨W, F, μ, ρ, S, r, S', st, en, e, p⟩
  obtain ⟨x, S1, e1, e2⟩ := bnd_inv e
  obtain ⟨_, e3, e4⟩ := lft_inv e2
  obtain ⟨a, S2, e5, e6⟩ := bnd_inv e4
  obtain ⟨z, S3, e7, e8⟩ := bnd_inv e6
  obtain ⟨r', e9, e10⟩ := lft_inv e8
  cases e10
  refine ⟨W, F, μ, ρ, S, x, S1, st, en, e1, fun v1 H1 W1 μ1 x1 st1 r1 => ?_⟩
  cases x with
  | ref i =>
    obtain ⟨ad, hr, rfl⟩ := r1
    have dk : ∀ {S : Sto} {kvs : List (Key × D)}, S[i]? = some (.dk kvs) → True := fun _ => trivial
    refine ⟨ad, rfl, ?_, W1, F, μ1, ρ, S1, a, S2, st1, en.mono x1, e5, fun v2 H2 W2 μ2 x2 st2 r2 => ⟨W2, F, μ2, ρ, S2, z, _, st2, en.mono (x1.trans x2), e7, fun v3 H3 W3 μ3 x3 st3 r3 => ?_⟩⟩
    · cases c : S1[i]? with
      | none => simp only [dkOf, c] at e3; cases e3
      | some cc =>
        cases cc with
        | dk kvs =>
          obtain ⟨ws, h1, _⟩ := st1.dk hr c
          exact .inl ⟨ws, .inl h1⟩
        | lst _ => simp only [dkOf, c] at e3; cases e3
        | ob _ _ _ => simp only [dkOf, c] at e3; cases e3
    · have hr3 := (x2.trans x3).m i ad hr
      unfold dgetD at e9
      cases c : S'[i]? with
      | none => simp only [c] at e9; cases e9
      | some cc =>
        simp only [c] at e9
        cases cc with
        | lst _ => cases e9
        | ob _ _ _ => cases e9
        | dk kvs =>
          cases c2 : keyD a with
          | none => simp only [c2] at e9; cases e9
          | some key =>
            simp only [c2, Option.map_some, Option.some.injEq] at e9
            obtain ⟨ws, h1, h2⟩ := st3.dk hr3 c
            have kr := key_rep (r2.m x3) c2
            subst kr
            refine ⟨valV ws key, DGet.k h1, ?_⟩
            cases c3 : lookK kvs key with
            | none =>
              rw [look_none h2.1 c3]
              rw [c3] at e9
              cases e9
              exact (p.ext ((x1.trans x2).trans x3)).same st3 r3
            | some dd =>
              rw [c3] at e9
              cases e9
              obtain ⟨w, h3, h4⟩ := h2.look c3
              rw [h3]
              exact (p.ext ((x1.trans x2).trans x3)).same st3 h4
  | _ => cases e3
theorem tr_sset (gd : Good G cl k Γ X) {g h' : Nat} {e : ME} {y : Expr} {p p2 pos pos2 : Pos} (hg : G[g]? = some (("sorted" : Str), GK.blt)) (hgl : Gl X "sorted") (hh : G[h']? = some (("set" : Str), GK.blt)) (hhl : Gl X "set") (ok : okX y = true) (h : PE X y (TR X.K (evE G cl e))) :
    PE X (.Call (.Name "sorted" p) [.Call (.Name "set" p2) [y] [] pos2] [] pos) (TR X.K (evE G cl (.sset g h' e))) := by
  have hm := gd.gf.blt g _ hg
  have hm2 := gd.gf.blt h' _ hh
  have i1 := pe_callTy (pos := pos2) (p := p2) (call_setL gd.calm) hhl hm2 (by decide +kernel) (pa_cons h pa_nil (star_ok ok [] X.env)) (by decide) (by decide) (star_ok ok [] X.env) (by rfl)
  refine (pe_callB (cr_sortedSet gd.calm) hgl hm (by decide +kernel) (pa_cons i1 pa_nil (by rfl)) (by decide) (by decide) (by rfl) (by rfl)).weak ?_
  rintro σ H Q ⟨W, F, μ, ρ, S, d, S', st, en, e, p⟩
  obtain ⟨d1, S1, e1, e2⟩ := bnd_inv e
  obtain ⟨r, e3, e4⟩ := lft_inv e2
  cases e4
  refine ⟨W, F, μ, ρ, S, d1, _, st, en, e1, fun v H1 W1 μ1 x1 st1 r1 => ?_⟩
  cases d1 with
  | lst xs =>
    cases c : intsD xs with
    | none => simp only [ssetD, c] at e3; cases e3
    | some ns =>
      simp only [ssetD, c, Option.bind_some] at e3
      split at e3
      · rename_i h64
        cases e3
        obtain ⟨a, vs, rfl, h1, h2⟩ := r1
        have := h2.ints c
        subst this
        refine ⟨a, ns, rfl, SqL.of (st1.sub _ _ h1), by unfold scanBound; omega, fun b n hn hb => ?_⟩
        obtain ⟨st2, x2⟩ := st1.imm (SetO X.w b (fun j => decide (j ∈ ns)) n) hb
        refine ⟨b, _, n, rfl, upd_same, Nat.lt_of_le_of_lt hn h64, fun ys c2 pw mem _ hc2 => ?_⟩
        have : ys = setZ ns := asc_one pw (setZ_pw ns) fun z => by rw [mem, setZ_mem]; simp
        rw [this]
        exact (p.ext (x1.trans x2)).lst st2 (ints_rep _) c2 hc2
      · cases e3
  | _ => cases e3

/-! ### comprehensions -/
theorem ti_seq {e : ME} {x tg : Expr} (h : PE X x (TR X.K (evE G cl e))) : PI X tg x (TIR X.K (evI G cl (.seq e))) := (pi_seq h).weak (by
  rintro σ H R ⟨W, F, μ, ρ, S, w, S', st, en, e, p⟩
  obtain ⟨d1, S1, e1, e2⟩ := bnd_inv e
  obtain ⟨w', e3, e4⟩ := lft_inv e2
  cases e4
  refine ⟨W, F, μ, ρ, S, d1, _, st, en, e1, fun v H1 W1 μ1 x1 st1 r1 => ?_⟩
  obtain ⟨a, rfl, ⟨h1, wk⟩ | ⟨h1, wk⟩⟩ := items_rep st1 r1 e3
  · exact ⟨a, rfl, .inl ⟨h1, p _ H1 W1 μ1 x1 st1 wk⟩⟩
  · exact ⟨a, rfl, .inr ⟨h1, p _ H1 W1 μ1 x1 st1 wk⟩⟩)
theorem ti_rng (gd : Good G cl k Γ X) {g : Nat} {es : MEs} {xs : List Expr} {tg : Expr} {p pos : Pos} (hg : G[g]? = some (("range" : Str), GK.blt)) (hgl : Gl X "range") (hx : chkEs G es Γ xs = true) (hn : xs.length = 1 ∨ xs.length = 2 ∨ xs.length = 3) (h : PA X xs (TAR X.K (evEs G cl es))) :
    PI X tg (.Call (.Name "range" p) xs [] pos) (TIR X.K (evI G cl (.rng g es))) := by
  have hm := gd.gf.blt g _ hg
  rcases hn with hn | hn | hn
  · match xs, hn, es, hx, h with
    | [x], _, .nil, hx, _ => cases hx
    | [x], _, .cons e1 es', hx, h =>
      obtain ⟨ok, h2⟩ := bk (show (okX x && (chkE G e1 Γ x && chkEs G es' Γ [])) = true from hx)
      refine (pi_range1 hgl hm h (star_ok ok [] X.env)).weak ?_
      rintro σ H R ⟨W, F, μ, ρ, S, w, S', st, en, e, p⟩
      obtain ⟨ds, S1, e3, e4⟩ := bnd_inv e
      obtain ⟨ys, e5, e6⟩ := lft_inv e4
      cases e6
      refine ⟨W, F, μ, ρ, S, ds, _, st, en, e3, fun vs H1 W1 μ1 x1 st1 r1 => ?_⟩
      cases es' with
      | cons _ _ => cases (bk h2).2
      | nil =>
        obtain ⟨d, Sa, e7, e8⟩ := bnd_inv e3
        cases e8
        unfold rngD at e5
        split at e5
        · rename_i b q
          have : d = .int b := by
            have := congrArg List.head? q
            simpa using this
          subst this
          obtain ⟨v, rfl, r2⟩ := r1.inv1
          cases (show v = _ from r2)
          split at e5
          · rename_i c
            cases e5
            exact ⟨b, rfl, c.1, c.2, p _ H1 W1 μ1 x1 st1 wk_rng⟩
          · cases e5
        · rename_i q; simp at q
        · rename_i q; simp at q
        · cases e5
  · match xs, hn, es, hx, h with
    | [x, y], _, .nil, hx, _ => cases hx
    | [x, y], _, .cons e1 es', hx, h =>
      obtain ⟨ok, h2⟩ := bk (show (okX x && (chkE G e1 Γ x && chkEs G es' Γ [y])) = true from hx)
      cases es' with
      | nil => cases (bk h2).2
      | cons e2 es2 =>
        obtain ⟨ok2, h3⟩ := bk (show (okX y && (chkE G e2 Γ y && chkEs G es2 Γ [])) = true from (bk h2).2)
        have s2 : starEach [y] X.env = [(false, eval y X.env)] := star_ok ok2 [] X.env
        refine (pi_range2 hgl hm h (by rw [star_ok ok [y] X.env, s2]) s2).weak ?_
        rintro σ H R ⟨W, F, μ, ρ, S, w, S', st, en, e, p⟩
        obtain ⟨ds, S1, e3, e4⟩ := bnd_inv e
        obtain ⟨ys, e5, e6⟩ := lft_inv e4
        cases e6
        refine ⟨W, F, μ, ρ, S, ds, _, st, en, e3, fun vs H1 W1 μ1 x1 st1 r1 => ?_⟩
        cases es2 with
        | cons _ _ => cases (bk h3).2
        | nil =>
          obtain ⟨d, Sa, e7, e8⟩ := bnd_inv e3
          obtain ⟨dd, Sb, e9, e10⟩ := bnd_inv e8
          cases e10
          obtain ⟨d', Sc, e11, e12⟩ := bnd_inv e9
          cases e12
          unfold rngD at e5
          split at e5
          · rename_i q; simp at q
          · rename_i a b q
            have q1 : d = .int a ∧ d' = .int b := by simpa using q
            obtain ⟨rfl, rfl⟩ := q1
            obtain ⟨v, u, rfl, r2, r3⟩ := r1.inv2
            cases (show v = _ from r2)
            cases (show u = _ from r3)
            split at e5
            · rename_i c
              cases e5
              exact ⟨a, b, rfl, c, p _ H1 W1 μ1 x1 st1 wk_rng⟩
            · cases e5
          · rename_i q; simp at q
          · cases e5
  · match xs, hn, es, hx, h with
    | [x, y, z], _, .nil, hx, _ => cases hx
    | [x, y, z], _, .cons e1 es', hx, h =>
      obtain ⟨ok, h2⟩ := bk (show (okX x && (chkE G e1 Γ x && chkEs G es' Γ [y, z])) = true from hx)
      cases es' with
      | nil => cases (bk h2).2
      | cons e2 es2 =>
        obtain ⟨ok2, h3⟩ := bk (show (okX y && (chkE G e2 Γ y && chkEs G es2 Γ [z])) = true from (bk h2).2)
        cases es2 with
        | nil => cases (bk h3).2
        | cons e3' es3 =>
          obtain ⟨ok3, h4⟩ := bk (show (okX z && (chkE G e3' Γ z && chkEs G es3 Γ [])) = true from (bk h3).2)
          refine (pi_range3 hgl hm h (star_ok ok [y, z] X.env) (stars_any (pos := pos) (env := X.env) (bk h2).2).1).weak ?_
          rintro σ H R ⟨W, F, μ, ρ, S, w, S', st, en, e, p⟩
          obtain ⟨ds, S1, e3, e4⟩ := bnd_inv e
          obtain ⟨ys, e5, e6⟩ := lft_inv e4
          cases e6
          refine ⟨W, F, μ, ρ, S, ds, _, st, en, e3, fun vs H1 W1 μ1 x1 st1 r1 => ?_⟩
          cases es3 with
          | cons _ _ => cases (bk h4).2
          | nil =>
            obtain ⟨d, Sa, e7, e8⟩ := bnd_inv e3
            obtain ⟨dd, Sb, e9, e10⟩ := bnd_inv e8
            cases e10
            obtain ⟨d', Sc, e11, e12⟩ := bnd_inv e9
            obtain ⟨dd', Sd, e13, e14⟩ := bnd_inv e12
            cases e14
            obtain ⟨d'', Se, e15, e16⟩ := bnd_inv e13
            cases e16
            unfold rngD at e5
            split at e5
            · rename_i q; simp at q
            · rename_i q; simp at q
            · rename_i a b c q
              have q1 : d = .int a ∧ d' = .int b ∧ d'' = .int c := by simpa using q
              obtain ⟨rfl, rfl, rfl⟩ := q1
              obtain ⟨v1, r2, rfl, r3, v2, r4, rfl, r5, v3, r6, rfl, r7, r8⟩ := r1
              cases (show r6 = [] from r8)
              cases (show v1 = _ from r3)
              cases (show v2 = _ from r5)
              cases (show v3 = _ from r7)
              split at e5
              · rename_i hc
                obtain ⟨rfl, c1, c2, c3, c4⟩ := hc
                cases e5
                exact ⟨a, b, -1, (a - b).toNat, rfl, RgC.neg c1 c2 c3 c4, p _ H1 W1 μ1 x1 st1 wk_rngC⟩
              · cases e5
            · cases e5
theorem _root_.L2.PTs.weak {ifs : List Expr} {t t' : TT} (h : PTs X ifs t) (w : ∀ σ H Q, t' σ H Q → t σ H Q) : PTs X ifs t' := ⟨fun pins s σ H Q I q => h.run pins s σ H Q I (w σ H Q q)⟩
theorem tc_nil : PTs X [] (TTR X.K (evC G cl .none)) := pts_nil.weak (by
  rintro σ H Q ⟨W, F, μ, ρ, S, b, S', st, en, e, p⟩
  cases e
  exact p H W μ Ext.refl st)
theorem tc_one {e : ME} {x : Expr} (h : PT X x (TTR X.K (evT G cl e))) : PTs X [x] (TTR X.K (evC G cl (.some e))) := pts_one h
theorem own_snd (N : List Str) (vs : List Nat) : (ownOf N vs).map (·.2) = vs := by
  unfold ownOf
  rw [List.map_map]
  exact List.map_id vs
/-- what a comprehension's parts do, in its block -/
structure LcOk (G : GT) (cl : Nat → List D → Sto → Rs D) (X : Cx) (scope : Scope) (elt tg : Expr) (ifs : List Expr) (me : ME) (mg : MG) (mc : MO) : Prop where
  g : ∀ (s : Shared) (H : Hp) (C : Addr) (cells : List (Str × Addr)) (fp : List Addr), PG (X.blk s H scope (compEnvC scope cells C X.env) fp) tg (TGR X.K (slG mg) (asgG mg))
  t : ∀ (s : Shared) (H : Hp) (C : Addr) (cells : List (Str × Addr)) (fp : List Addr), PTs (X.blk s H scope (compEnvC scope cells C X.env) fp) ifs (TTR X.K (evC G cl mc))
  e : ∀ (s : Shared) (H : Hp) (C : Addr) (cells : List (Str × Addr)) (fp : List Addr), PE (X.blk s H scope (compEnvC scope cells C X.env) fp) elt (TR X.K (evE G cl me))
theorem lc_w {mu : Bool} {vs : List Nat} {me : ME} {mg : MG} {mi : MI} {mc : MO} (hs : ∀ i ∈ slG mg, i ∈ vs) : ∀ σ H Q, TR X.K (evE G cl (.lc mu vs me mg mi mc)) σ H Q → tLc (TIR X.K (evI G cl mi)) (TGR X.K (slG mg) (asgG mg)) (TTR X.K (evC G cl mc)) (TR X.K (evE G cl me)) vs σ H Q := by
  rintro σ H Q ⟨W, F, μ, ρ, S, d, S', st, en, e, p⟩
  obtain ⟨w, S1, e1, e2⟩ := bnd_inv e
  split at e2
  · rename_i hl
    obtain ⟨acc, S5, e3, e4⟩ := bnd_inv e2
    refine ⟨W, F, μ, ρ, S, w, S1, st, en, e1, fun J H1 W1 μ1 x1 st1 wk => ?_⟩
    refine comp_reads (mu := mu) st1 (en.mono x1) wk hl hs e3 ?_
    cases mu with
    | true => rw [if_pos rfl] at e4 ⊢; cases e4; exact p.ext x1
    | false => rw [if_neg Bool.false_ne_true] at e4 ⊢; cases e4; exact p.ext x1
  · cases e2
theorem tr_lc (gd : Good G cl k Γ X) {mu : Bool} {vs : List Nat} {me : ME} {mg : MG} {mi : MI} {mc : MO} {elt tg iter : Expr} {ifs : List Expr} {scope : Scope} {pos : Pos} (hs : ∀ i ∈ slG mg, i ∈ vs) (ok : okX iter = true) (hb : blkC Γ.N Γ.sc scope (ownOf Γ.N vs) = true)
    (hi : PI X tg iter (TIR X.K (evI G cl mi))) (L : LcOk G cl X scope elt tg ifs me mg mc) : PE X (.ListComp elt [⟨tg, iter, ifs, 0⟩] scope pos) (TR X.K (evE G cl (.lc mu vs me mg mi mc))) := by
  have B : BlkOk X.N X.env.scope scope (ownOf Γ.N vs) := by rw [gd.N, gd.sc]; exact blkOk_by hb
  have h := pe_lc (pos := pos) gd.calm gd.nd hi B L.g L.t L.e (fold_ok ok X.env)
  rw [own_snd] at h
  exact h.weak (lc_w hs)

theorem lc2_w {mu : Bool} {vs vs1 : List Nat} {me : ME} {mg mg1 : MG} {mi mi1 : MI} {mc mc1 : MO} (hs : ∀ i ∈ slG mg, i ∈ vs) (hs1 : ∀ i ∈ slG mg1, i ∈ vs1) : ∀ σ H Q, TR X.K (evE G cl (.lc2 mu vs me mg mi mc vs1 mg1 mi1 mc1)) σ H Q → tLc2 (TIR X.K (evI G cl mi)) (TGR X.K (slG mg) (asgG mg)) (TTR X.K (evC G cl mc)) (TIR X.K (evI G cl mi1)) (TGR X.K (slG mg1) (asgG mg1)) (TTR X.K (evC G cl mc1)) (TR X.K (evE G cl me)) vs vs1 σ H Q := by
  rintro σ H Q ⟨W, F, μ, ρ, S, d, S', st, en, e, p⟩
  obtain ⟨w, S1, e1, e2⟩ := bnd_inv e
  obtain ⟨acc, S5, e3, e4⟩ := bnd_inv e2
  refine ⟨W, F, μ, ρ, S, w, S1, st, en, e1, fun J H1 W1 μ1 x1 st1 wk => ?_⟩
  refine comp2_reads (mu := mu) st1 (en.mono x1) wk hs hs1 e3 ?_
  cases mu with
  | true => rw [if_pos rfl] at e4 ⊢; cases e4; exact p.ext x1
  | false => rw [if_neg Bool.false_ne_true] at e4 ⊢; cases e4; exact p.ext x1
structure Lc2Ok (G : GT) (cl : Nat → List D → Sto → Rs D) (X : Cx) (scope : Scope) (elt tg : Expr) (ifs : List Expr) (tg1 iter1 : Expr) (ifs1 : List Expr) (me : ME) (mg : MG) (mc : MO) (mg1 : MG) (mi1 : MI) (mc1 : MO) : Prop where
  g : ∀ (s : Shared) (H : Hp) (C : Addr) (cells : List (Str × Addr)) (fp : List Addr), PG (X.blk s H scope (compEnvC scope cells C X.env) fp) tg (TGR X.K (slG mg) (asgG mg))
  t : ∀ (s : Shared) (H : Hp) (C : Addr) (cells : List (Str × Addr)) (fp : List Addr), PTs (X.blk s H scope (compEnvC scope cells C X.env) fp) ifs (TTR X.K (evC G cl mc))
  g1 : ∀ (s : Shared) (H : Hp) (C : Addr) (cells : List (Str × Addr)) (fp : List Addr), PG (X.blk s H scope (compEnvC scope cells C X.env) fp) tg1 (TGR X.K (slG mg1) (asgG mg1))
  i1 : ∀ (s : Shared) (H : Hp) (C : Addr) (cells : List (Str × Addr)) (fp : List Addr), PI (X.blk s H scope (compEnvC scope cells C X.env) fp) tg1 iter1 (TIR X.K (evI G cl mi1))
  t1 : ∀ (s : Shared) (H : Hp) (C : Addr) (cells : List (Str × Addr)) (fp : List Addr), PTs (X.blk s H scope (compEnvC scope cells C X.env) fp) ifs1 (TTR X.K (evC G cl mc1))
  e : ∀ (s : Shared) (H : Hp) (C : Addr) (cells : List (Str × Addr)) (fp : List Addr), PE (X.blk s H scope (compEnvC scope cells C X.env) fp) elt (TR X.K (evE G cl me))
theorem tr_lc2 (gd : Good G cl k Γ X) {mu : Bool} {vs vs1 : List Nat} {me : ME} {mg mg1 : MG} {mi mi1 : MI} {mc mc1 : MO} {elt tg iter tg1 iter1 : Expr} {ifs ifs1 : List Expr} {scope : Scope} {pos : Pos} (hv : ∀ i ∈ vs1, i ∈ vs) (hs : ∀ i ∈ slG mg, i ∈ vs) (hs1 : ∀ i ∈ slG mg1, i ∈ vs1) (ok : okX iter = true) (ok1 : okX iter1 = true) (hb : blkC Γ.N Γ.sc scope (ownOf Γ.N vs) = true)
    (hi : PI X tg iter (TIR X.K (evI G cl mi))) (L : Lc2Ok G cl X scope elt tg ifs tg1 iter1 ifs1 me mg mc mg1 mi1 mc1) : PE X (.ListComp elt [⟨tg, iter, ifs, 0⟩, ⟨tg1, iter1, ifs1, 0⟩] scope pos) (TR X.K (evE G cl (.lc2 mu vs me mg mi mc vs1 mg1 mi1 mc1))) := by
  have B : BlkOk X.N X.env.scope scope (ownOf Γ.N vs) := by rw [gd.N, gd.sc]; exact blkOk_by hb
  have h := pe_lc2 (vs1 := vs1) (pos := pos) gd.calm gd.nd hi B (by rw [own_snd]; exact hv) L.g L.t L.i1 L.g1 L.t1 L.e (fold_ok ok X.env) (fun env x => fold_ok ok1 env x)
  rw [own_snd] at h
  exact h.weak (lc2_w hs hs1)

/-! ### all expressions -/
mutual
theorem chkE_ok {G : GT} {cl : Nat → List D → Sto → Rs D} {k : Nat} : ∀ (m : ME) {Γ : Syn} {X : Cx} (e : Expr), Good G cl k Γ X → chkE G m Γ e = true → Eok G cl m X e
  | .var i, Γ, X, e, gd, h => by
    cases e <;> try (exact absurd (show false = true from h) Bool.false_ne_true)
    exact .of (tr_var gd.toSy h)
  | .int i, Γ, X, e, gd, h => by
    cases e <;> try (exact absurd (show false = true from h) Bool.false_ne_true)
    rename_i c n pos
    cases c <;> try (exact absurd (show false = true from h) Bool.false_ne_true)
    cases (dec (show decide (i = _) = true from h))
    exact .of (tr_const pe_int (fun _ _ => rfl) fun _ _ => rfl)
  | .str i, Γ, X, e, gd, h => by
    cases e <;> try (exact absurd (show false = true from h) Bool.false_ne_true)
    rename_i c n pos
    cases c <;> try (exact absurd (show false = true from h) Bool.false_ne_true)
    cases (dec (show decide (i = _) = true from h))
    exact .of (tr_const pe_str (fun _ _ => rfl) fun _ _ => rfl)
  | .bl i, Γ, X, e, gd, h => by
    cases e <;> try (exact absurd (show false = true from h) Bool.false_ne_true)
    rename_i c n pos
    cases c <;> try (exact absurd (show false = true from h) Bool.false_ne_true)
    cases (show i = _ from by simpa using (show (i == _) = true from h))
    exact .of (tr_const pe_bl (fun _ _ => rfl) fun _ _ => rfl)
  | .non, Γ, X, e, gd, h => by
    cases e <;> try (exact absurd (show false = true from h) Bool.false_ne_true)
    rename_i c n pos
    cases c <;> try (exact absurd (show false = true from h) Bool.false_ne_true)
    exact .of (tr_const pe_non (fun _ _ => rfl) fun _ _ => rfl)
  | .con g, Γ, X, e, gd, h => by
    cases e <;> try (exact absurd (show false = true from h) Bool.false_ne_true)
    rename_i x pos
    obtain ⟨h1, h2⟩ := bk (show (glB G Γ g x && (match conOf G g with
      | some _ => true
      | none => false)) = true from h)
    obtain ⟨⟨q, hg⟩, hgl, hdb, hnm⟩ := gl_ok gd.toSy h1
    cases c : conOf G g with
    | none => rw [c] at h2; cases h2
    | some d =>
      have hq : q = .con d := by
        unfold conOf at c
        rw [hg] at c
        cases q with
        | con d' => cases c; rfl
        | _ => cases c
      subst hq
      obtain ⟨u, v, hm, hr, hrep⟩ := gd.gf.con g x d hg
      exact .of (tr_const (pe_glob hgl hm hr hdb) (fun ρ S => by simp only [evE, c, lft_some]) hrep)
  | .madd a b, Γ, X, e, gd, h => by
    cases e <;> try (exact absurd (show false = true from h) Bool.false_ne_true)
    rename_i x op' y pos
    obtain ⟨h1, h2⟩ := bk (show (decide (op' = .Add) && (chkE G a Γ x && chkE G b Γ y)) = true from h)
    obtain ⟨h3, h4⟩ := bk h2
    cases (dec h1)
    exact .of (tr_madd (chkE_ok a x gd h3).pe (chkE_ok b y gd h4).pe)
  | .bin op a b, Γ, X, e, gd, h => by
    cases e <;> try (exact absurd (show false = true from h) Bool.false_ne_true)
    rename_i x op' y pos
    obtain ⟨h1, h2⟩ := bk (show (decide (op = op') && (chkE G a Γ x && chkE G b Γ y)) = true from h)
    obtain ⟨h3, h4⟩ := bk h2
    cases (dec h1)
    exact .of (tr_bin (chkE_ok a x gd h3).pe (chkE_ok b y gd h4).pe)
  | .neg a, Γ, X, e, gd, h => by
    cases e <;> try (exact absurd (show false = true from h) Bool.false_ne_true)
    rename_i op x pos
    cases op <;> try (exact absurd (show false = true from h) Bool.false_ne_true)
    exact .of (tr_neg (chkE_ok a x gd h).pe)
  | .cmp op a b, Γ, X, e, gd, h => by
    cases e <;> try (exact absurd (show false = true from h) Bool.false_ne_true)
    rename_i x ops ys pos
    match ops, ys, h with
    | [op'], [y], h =>
      obtain ⟨h1, h2⟩ := bk (show (decide (op = op') && (okX y && (chkE G a Γ x && chkE G b Γ y))) = true from h)
      obtain ⟨h3, h4⟩ := bk h2
      obtain ⟨h5, h6⟩ := bk h4
      cases (dec h1)
      exact tr_cmp gd.hu h3 (chkE_ok a x gd h5).pe (chkE_ok b y gd h6).pe
    | [], _, h => exact nomatch h
    | _ :: _ :: _, _, h => exact nomatch h
    | [_], [], h => exact nomatch h
    | [_], _ :: _ :: _, h => exact nomatch h
  | .ch op op' a b c, Γ, X, e, gd, h => by
    cases e <;> try (exact absurd (show false = true from h) Bool.false_ne_true)
    rename_i x ops ys pos
    match ops, ys, h with
    | [p, q], [y, z], h =>
      obtain ⟨h1, h2⟩ := bk (show (decide (op = p) && (decide (op' = q) && (okX z && (chkE G a Γ x && (chkE G b Γ y && chkE G c Γ z))))) = true from h)
      obtain ⟨h3, h4⟩ := bk h2
      obtain ⟨h5, h6⟩ := bk h4
      obtain ⟨h7, h8⟩ := bk h6
      obtain ⟨h9, h10⟩ := bk h8
      cases (dec h1)
      cases (dec h3)
      exact tr_ch gd.hu h5 (chkE_ok a x gd h7).pe (chkE_ok b y gd h9).pe (chkE_ok c z gd h10).pe
    | [], _, h => exact nomatch h
    | [_], _, h => exact nomatch h
    | _ :: _ :: _ :: _, _, h => exact nomatch h
    | [_, _], [], h => exact nomatch h
    | [_, _], [_], h => exact nomatch h
    | [_, _], _ :: _ :: _ :: _, h => exact nomatch h
  | .and a b, Γ, X, e, gd, h => by
    cases e <;> try (exact absurd (show false = true from h) Bool.false_ne_true)
    rename_i op es pos
    cases op <;> try (exact absurd (show false = true from h) Bool.false_ne_true)
    match es, h with
    | x :: y :: r, h =>
      obtain ⟨h1, h2⟩ := bk (show (chkE G a Γ x && chkE G b Γ (.BoolOp .And (y :: r) pos)) = true from h)
      have A := chkE_ok a x gd h1
      have B := chkE_ok b (.BoolOp .And (y :: r) pos) gd h2
      have T := tt_and A.pt (B.pw _ _ _ rfl)
      exact ⟨tr_and A.pe B.pe, T.pt, fun op es' pos' q => by cases q; exact T⟩
    | [], h => exact nomatch h
    | [_], h => exact nomatch h
  | .or a b, Γ, X, e, gd, h => by
    cases e <;> try (exact absurd (show false = true from h) Bool.false_ne_true)
    rename_i op es pos
    cases op <;> try (exact absurd (show false = true from h) Bool.false_ne_true)
    match es, h with
    | x :: y :: r, h =>
      obtain ⟨h1, h2⟩ := bk (show (chkE G a Γ x && chkE G b Γ (.BoolOp .Or (y :: r) pos)) = true from h)
      have A := chkE_ok a x gd h1
      have B := chkE_ok b (.BoolOp .Or (y :: r) pos) gd h2
      have T := tt_or A.pt (B.pw _ _ _ rfl)
      exact ⟨tr_or A.pe B.pe, T.pt, fun op es' pos' q => by cases q; exact T⟩
    | [], h => exact nomatch h
    | [_], h => exact nomatch h
  | .one a, Γ, X, e, gd, h => by
    cases e <;> try (exact absurd (show false = true from h) Bool.false_ne_true)
    rename_i op es pos
    match es, h with
    | [x], h =>
      have A := chkE_ok a x gd (show chkE G a Γ x = true by cases op <;> exact h)
      have T : PW X (.BoolOp op [x] pos) (TTR X.K (evT G cl (.one a))) := by
        cases op
        · exact pw_and1 A.pt
        · exact pw_or1 A.pt
      exact ⟨pe_one A.pe, T.pt, fun op es' pos' q => by cases q; exact T⟩
    | [], h => cases op <;> exact nomatch h
    | _ :: _ :: _, h => cases op <;> exact nomatch h
  | .not a, Γ, X, e, gd, h => by
    cases e <;> try (exact absurd (show false = true from h) Bool.false_ne_true)
    rename_i op x pos
    cases op <;> try (exact absurd (show false = true from h) Bool.false_ne_true)
    exact tr_not (chkE_ok a x gd h)
  | .ifE c a b, Γ, X, e, gd, h => by
    cases e <;> try (exact absurd (show false = true from h) Bool.false_ne_true)
    rename_i x y z pos
    obtain ⟨h1, h2⟩ := bk (show (chkE G c Γ x && (chkE G a Γ y && chkE G b Γ z)) = true from h)
    obtain ⟨h3, h4⟩ := bk h2
    exact tr_if (chkE_ok c x gd h1) (chkE_ok a y gd h3) (chkE_ok b z gd h4)
  | .tup es, Γ, X, e, gd, h => by
    cases e <;> try (exact absurd (show false = true from h) Bool.false_ne_true)
    exact .of (tr_tup (chkEs_ok es _ gd h))
  | .lst es, Γ, X, e, gd, h => by
    cases e <;> try (exact absurd (show false = true from h) Bool.false_ne_true)
    exact .of (tr_lst (chkEs_ok es _ gd h))
  | .mlst es, Γ, X, e, gd, h => by
    cases e <;> try (exact absurd (show false = true from h) Bool.false_ne_true)
    exact .of (tr_mlst (chkEs_ok es _ gd h))
  | .dict ps, Γ, X, e, gd, h => by
    cases e <;> try (exact absurd (show false = true from h) Bool.false_ne_true)
    rename_i ks vs pos
    obtain ⟨h1, h2⟩ := bk (show (decide (ks.length ≤ 15) && (decide (ks.length = vs.length) && chkPs G ps Γ ks vs)) = true from h)
    obtain ⟨h3, h4⟩ := bk h2
    cases ks with
    | nil =>
      cases vs with
      | cons _ _ => cases (dec h3)
      | nil =>
        cases ps with
        | cons _ _ _ => cases h4
        | nil => exact .of tr_dict0
    | cons k1 ks1 =>
      obtain ⟨a1, a2⟩ := chkPs_ok (pos := pos) ps (k1 :: ks1) vs gd h4
      exact .of (tr_dict a1 a2 (dec h3) (List.cons_ne_nil _ _) (dec h1))
  | .idx a i, Γ, X, e, gd, h => by
    cases e <;> try (exact absurd (show false = true from h) Bool.false_ne_true)
    rename_i x y pos
    have h' : (okX y && (chkE G a Γ x && chkE G i Γ y)) = true := h
    obtain ⟨h1, h2⟩ := bk h'
    obtain ⟨h3, h4⟩ := bk h2
    exact .of (tr_idx gd.hu1 h1 (chkE_ok a x gd h3).pe (chkE_ok i y gd h4).pe)
  | .slR a hi, Γ, X, e, gd, h => by
    cases e <;> try (exact absurd (show false = true from h) Bool.false_ne_true)
    rename_i x y pos
    cases y <;> try (exact absurd (show false = true from h) Bool.false_ne_true)
    rename_i l u st p2
    cases l <;> try (exact absurd (show false = true from h) Bool.false_ne_true)
    cases st <;> try (exact absurd (show false = true from h) Bool.false_ne_true)
    rename_i st
    cases st <;> try (exact absurd (show false = true from h) Bool.false_ne_true)
    rename_i op ee p3
    cases op <;> try (exact absurd (show false = true from h) Bool.false_ne_true)
    cases ee <;> try (exact absurd (show false = true from h) Bool.false_ne_true)
    rename_i c kk p4
    cases c <;> try (exact absurd (show false = true from h) Bool.false_ne_true)
    rename_i i
    obtain ⟨h0, h1⟩ := bk (show (decide (i = 1) && (chkE G a Γ x && chkO G hi Γ u)) = true from h)
    obtain ⟨h2, h3⟩ := bk h1
    cases (dec h0)
    exact .of (tr_slR (chkE_ok a x gd h2).pe (chkO_ok hi u gd h3))
  | .sl a lo hi, Γ, X, e, gd, h => by
    cases e <;> try (exact absurd (show false = true from h) Bool.false_ne_true)
    rename_i x y pos
    cases y <;> try (exact absurd (show false = true from h) Bool.false_ne_true)
    rename_i l u st p2
    cases st <;> try (exact absurd (show false = true from h) Bool.false_ne_true)
    obtain ⟨h1, h2⟩ := bk (show (chkE G a Γ x && (chkO G lo Γ l && chkO G hi Γ u)) = true from h)
    obtain ⟨h3, h4⟩ := bk h2
    exact .of (tr_sl (chkE_ok a x gd h1).pe (chkO_ok lo l gd h3) (chkO_ok hi u gd h4))
  | .call g es, Γ, X, e, gd, h => by
    cases e <;> try (exact absurd (show false = true from h) Bool.false_ne_true)
    rename_i f xs kw pos
    cases f <;> try (exact absurd (show false = true from h) Bool.false_ne_true)
    cases kw <;> try (exact absurd (show false = true from h) Bool.false_ne_true)
    rename_i x p
    obtain ⟨h1, h2⟩ := bk (show (glB G Γ g x && (isFnB G g && chkEs G es Γ xs)) = true from h)
    obtain ⟨h3, h4⟩ := bk h2
    obtain ⟨⟨q, hg⟩, hgl, hdb, hnm⟩ := gl_ok gd.toSy h1
    obtain ⟨f, hf⟩ := fn_at hg h3
    exact .of (tr_call gd hf hgl hdb h4 (chkEs_ok es xs gd h4))
  | .attr a f, Γ, X, e, gd, h => by
    cases e <;> try (exact absurd (show false = true from h) Bool.false_ne_true)
    rename_i x f' pos
    obtain ⟨h1, h2⟩ := bk (show (decide (f = f') && (noCall x && chkE G a Γ x)) = true from h)
    obtain ⟨h3, h4⟩ := bk h2
    cases (dec h1)
    exact .of (tr_attr gd h3 (chkE_ok a x gd h4).pe)
  | .mcall c o m es, Γ, X, e, gd, h => by
    cases e <;> try (exact absurd (show false = true from h) Bool.false_ne_true)
    rename_i f xs kw pos
    cases f <;> try (exact absurd (show false = true from h) Bool.false_ne_true)
    cases kw <;> try (exact absurd (show false = true from h) Bool.false_ne_true)
    rename_i y nm ap
    obtain ⟨h1, h2⟩ := bk (show (decide (nm = m) && (decide (m ≠ "__init__") && (noCall y && ((ap.endLine == pos.line) && (decide (xs.length < 30) && ((metOf G c m).isSome && (chkE G o Γ y && chkEs G es Γ xs))))))) = true from h)
    obtain ⟨h3, h4⟩ := bk h2
    obtain ⟨h5, h6⟩ := bk h4
    obtain ⟨h7, h8⟩ := bk h6
    obtain ⟨h9, h10⟩ := bk h8
    obtain ⟨h11, h12⟩ := bk h10
    obtain ⟨h13, h14⟩ := bk h12
    cases (dec h1)
    exact .of (tr_mcall gd (dec h3) h5 h7 (dec h9) h11 (chkE_ok o y gd h13).pe h14 (chkEs_ok es xs gd h14))
  | .make g es, Γ, X, e, gd, h => by
    cases e <;> try (exact absurd (show false = true from h) Bool.false_ne_true)
    rename_i f xs kw pos
    cases f <;> try (exact absurd (show false = true from h) Bool.false_ne_true)
    cases kw <;> try (exact absurd (show false = true from h) Bool.false_ne_true)
    rename_i x p
    obtain ⟨h1, h2⟩ := bk (show (glB G Γ g x && (isClsB G g && ((metOf G g "__init__").isSome && chkEs G es Γ xs))) = true from h)
    obtain ⟨h3, h4⟩ := bk h2
    obtain ⟨h5, h6⟩ := bk h4
    obtain ⟨⟨q, hg⟩, hgl, hdb, hnm⟩ := gl_ok gd.toSy h1
    obtain ⟨⟨x', ms, fl⟩, hC⟩ := Option.isSome_iff_exists.mp h3
    have hx : x' = x := by
      unfold clsOf at hC
      rw [hg] at hC
      cases q <;> cases hC
      rfl
    subst hx
    exact .of (tr_make gd hC h5 hgl hdb h6 (chkEs_ok es xs gd h6))
  | .bi b g es, Γ, X, e, gd, h => by
    cases e <;> try (exact absurd (show false = true from h) Bool.false_ne_true)
    rename_i f xs kw pos
    cases f <;> try (exact absurd (show false = true from h) Bool.false_ne_true)
    cases kw <;> try (exact absurd (show false = true from h) Bool.false_ne_true)
    rename_i x p
    obtain ⟨h1, h2⟩ := bk (show (glB G Γ g x && (isBlt G g && (decide (x = biName b) && (!xs.isEmpty && chkEs G es Γ xs)))) = true from h)
    obtain ⟨h3, h4⟩ := bk h2
    obtain ⟨h5, h6⟩ := bk h4
    obtain ⟨h7, h8⟩ := bk h6
    cases (dec h5)
    obtain ⟨⟨q, hg⟩, hgl, hdb, hnm⟩ := gl_ok gd.toSy h1
    exact .of (tr_bi gd (blt_at hg h3) hgl h8 (by simpa using h7) (chkEs_ok es xs gd h8))
  | .isI g hh n a, Γ, X, e, gd, h => by
    cases e <;> try (exact absurd (show false = true from h) Bool.false_ne_true)
    rename_i f xs kw pos
    cases f <;> try (exact absurd (show false = true from h) Bool.false_ne_true)
    rcases kw with _ | ⟨kw1, kws⟩
    rotate_left
    · simp [chkE] at h
    rename_i x p
    match xs, h with
    | [y, .Name t p2], h =>
      obtain ⟨h1, h2⟩ := bk (show (glB G Γ g x && (isBlt G g && (decide (x = "isinstance") && (glB G Γ hh t && (isBlt G hh && (decide (bootBuiltins t = some (.type n)) && (okX y && chkE G a Γ y))))))) = true from h)
      obtain ⟨h3, h4⟩ := bk h2
      obtain ⟨h5, h6⟩ := bk h4
      obtain ⟨h7, h8⟩ := bk h6
      obtain ⟨h9, h10⟩ := bk h8
      obtain ⟨h11, h12⟩ := bk h10
      obtain ⟨h13, h14⟩ := bk h12
      cases (dec h5)
      obtain ⟨⟨q, hg⟩, hgl, hdb, hnm⟩ := gl_ok gd.toSy h1
      obtain ⟨⟨q2, hg2⟩, hgl2, hdb2, hnm2⟩ := gl_ok gd.toSy h7
      exact .of (tr_isI gd (blt_at hg h3) hgl (blt_at hg2 h9) hgl2 hdb2 hnm2 (dec h11) h13 (chkE_ok a y gd h14).pe)
    | [], h => exact nomatch h
    | [_], h => exact nomatch h
    | _ :: _ :: _ :: _, h => simp [chkE] at h
    | [y, .BoolOp .. ], h => exact nomatch h
    | [y, .NamedExpr .. ], h => exact nomatch h
    | [y, .BinOp .. ], h => exact nomatch h
    | [y, .UnaryOp .. ], h => exact nomatch h
    | [y, .Lambda .. ], h => exact nomatch h
    | [y, .IfExp .. ], h => exact nomatch h
    | [y, .Dict .. ], h => exact nomatch h
    | [y, .Set .. ], h => exact nomatch h
    | [y, .ListComp .. ], h => exact nomatch h
    | [y, .SetComp .. ], h => exact nomatch h
    | [y, .DictComp .. ], h => exact nomatch h
    | [y, .GeneratorExp .. ], h => exact nomatch h
    | [y, .Await .. ], h => exact nomatch h
    | [y, .Yield .. ], h => exact nomatch h
    | [y, .YieldFrom .. ], h => exact nomatch h
    | [y, .Compare .. ], h => exact nomatch h
    | [y, .Call .. ], h => exact nomatch h
    | [y, .FormattedValue .. ], h => exact nomatch h
    | [y, .JoinedStr .. ], h => exact nomatch h
    | [y, .Constant .. ], h => exact nomatch h
    | [y, .Attribute .. ], h => exact nomatch h
    | [y, .Subscript .. ], h => exact nomatch h
    | [y, .Starred .. ], h => exact nomatch h
    | [y, .List .. ], h => exact nomatch h
    | [y, .Tuple .. ], h => exact nomatch h
    | [y, .Slice .. ], h => exact nomatch h
  | .meth m o es, Γ, X, e, gd, h => by
    cases e <;> try (exact absurd (show false = true from h) Bool.false_ne_true)
    rename_i f xs kw pos
    cases f <;> try (exact absurd (show false = true from h) Bool.false_ne_true)
    cases kw <;> try (exact absurd (show false = true from h) Bool.false_ne_true)
    rename_i y nm ap
    obtain ⟨h1, h2⟩ := bk (show (decide (nm = mtName m) && (noCall y && ((ap.endLine == pos.line) && (decide (xs.length < 30) && (chkE G o Γ y && chkEs G es Γ xs))))) = true from h)
    obtain ⟨h3, h4⟩ := bk h2
    obtain ⟨h5, h6⟩ := bk h4
    obtain ⟨h7, h8⟩ := bk h6
    obtain ⟨h9, h10⟩ := bk h8
    cases (dec h1)
    exact .of (tr_meth gd h3 h5 (dec h7) (chkE_ok o y gd h9).pe h10 (chkEs_ok es xs gd h10))
  | .mdict g a, Γ, X, e, gd, h => by
    cases e <;> try (exact absurd (show false = true from h) Bool.false_ne_true)
    rename_i f xs kw pos
    cases f <;> try (exact absurd (show false = true from h) Bool.false_ne_true)
    rename_i x p
    match xs, kw, h with
    | [y], [], h =>
      obtain ⟨h1, h2⟩ := bk (show (glB G Γ g x && (isBlt G g && (decide (x = "dict") && (okX y && chkE G a Γ y)))) = true from h)
      obtain ⟨h3, h4⟩ := bk h2
      obtain ⟨h5, h6⟩ := bk h4
      obtain ⟨h7, h8⟩ := bk h6
      cases (dec h5)
      obtain ⟨⟨q, hg⟩, hgl, hdb, hnm⟩ := gl_ok gd.toSy h1
      exact .of (tr_mdict gd (blt_at hg h3) hgl h7 (chkE_ok a y gd h8).pe)
    | [], _, h => exact nomatch h
    | [_], _ :: _, h => exact nomatch h
    | _ :: _ :: _, _, h => exact nomatch h
  | .dget o q d, Γ, X, e, gd, h => by
    cases e <;> try (exact absurd (show false = true from h) Bool.false_ne_true)
    rename_i f xs kw pos
    cases f <;> try (exact absurd (show false = true from h) Bool.false_ne_true)
    rename_i y nm ap
    match xs, kw, h with
    | [u, v], [], h =>
      obtain ⟨h1, h2⟩ := bk (show (decide (nm = "get") && (noCall y && ((ap.endLine == pos.line) && (okX u && (okX v && (chkE G o Γ y && (chkE G q Γ u && chkE G d Γ v))))))) = true from h)
      obtain ⟨h3, h4⟩ := bk h2
      obtain ⟨h5, h6⟩ := bk h4
      obtain ⟨h7, h8⟩ := bk h6
      obtain ⟨h9, h10⟩ := bk h8
      obtain ⟨h11, h12⟩ := bk h10
      obtain ⟨h13, h14⟩ := bk h12
      cases (dec h1)
      exact .of (tr_dget gd h3 h5 h7 h9 (chkE_ok o y gd h11).pe (chkE_ok q u gd h13).pe (chkE_ok d v gd h14).pe)
    | [], _, h => exact nomatch h
    | [_], _, h => exact nomatch h
    | [_, _], _ :: _, h => exact nomatch h
    | _ :: _ :: _ :: _, _, h => exact nomatch h
  | .sset g hh a, Γ, X, e, gd, h => by
    cases e <;> try (exact absurd (show false = true from h) Bool.false_ne_true)
    rename_i f xs kw pos
    cases f <;> try (exact absurd (show false = true from h) Bool.false_ne_true)
    rename_i x p
    match xs, kw, h with
    | [z], [], h =>
      obtain ⟨h1, h2⟩ := bk (show (glB G Γ g x && (isBlt G g && (decide (x = "sorted") && (setCall z).any fun q => glB G Γ hh q.1 && (isBlt G hh && (decide (q.1 = ("set" : Str)) && (okX q.2 && chkE G a Γ q.2)))))) = true from h)
      obtain ⟨h3, h4⟩ := bk h2
      obtain ⟨h5, h6⟩ := bk h4
      cases (dec h5)
      obtain ⟨⟨q, hg⟩, hgl, hdb, hnm⟩ := gl_ok gd.toSy h1
      cases e6 : setCall z with
      | none => rw [e6] at h6; cases h6
      | some ty =>
        obtain ⟨t, y⟩ := ty
        rw [e6] at h6
        have hz : ∃ p2 pos2, z = .Call (.Name t p2) [y] [] pos2 := by
          unfold setCall at e6
          split at e6
          · cases e6
            exact ⟨_, _, rfl⟩
          · cases e6
        obtain ⟨p2, pos2, rfl⟩ := hz
        obtain ⟨h7, h8⟩ := bk (show (glB G Γ hh t && (isBlt G hh && (decide (t = "set") && (okX y && chkE G a Γ y)))) = true from h6)
        obtain ⟨h9, h10⟩ := bk h8
        obtain ⟨h11, h12⟩ := bk h10
        obtain ⟨h13, h14⟩ := bk h12
        cases (dec h11)
        obtain ⟨⟨q2, hg2⟩, hgl2, hdb2, hnm2⟩ := gl_ok gd.toSy h7
        exact .of (tr_sset gd (blt_at hg h3) hgl (blt_at hg2 h9) hgl2 h13 (chkE_ok a y gd h14).pe)
    | [], _, h => exact nomatch h
    | [_], _ :: _, h => exact nomatch h
    | _ :: _ :: _, _, h => exact nomatch h
  | .lc mu vs elt tg it cs, Γ, X, e, gd, h => by
    cases e <;> try (exact absurd (show false = true from h) Bool.false_ne_true)
    rename_i y gs scope pos
    match gs, h with
    | [⟨t, i, ifs, a⟩], h =>
      obtain ⟨h1, h2⟩ := bk (show (decide (a = 0) && (okX i && (blkC Γ.N Γ.sc scope (ownOf Γ.N vs) && ((slG tg).all (fun j => decide (j ∈ vs)) &&
        (chkG tg (Γ.blk scope) t && (chkI G it Γ i && (chkCs G cs (Γ.blk scope) ifs && chkE G elt (Γ.blk scope) y))))))) = true from h)
      obtain ⟨h3, h4⟩ := bk h2
      obtain ⟨h5, h6⟩ := bk h4
      obtain ⟨h7, h8⟩ := bk h6
      obtain ⟨h9, h10⟩ := bk h8
      obtain ⟨h11, h12⟩ := bk h10
      obtain ⟨h13, h14⟩ := bk h12
      cases (dec h1)
      exact .of (tr_lc gd (fun j hj => dec (List.all_eq_true.mp h7 j hj)) h3 h5 (chkI_ok it i gd h11)
        ⟨fun s H C cells fp => chkG_ok (gd.blk s H C cells fp).toSy tg t h9, fun s H C cells fp => chkCs_ok cs ifs (gd.blk s H C cells fp) h13, fun s H C cells fp => (chkE_ok elt y (gd.blk s H C cells fp) h14).pe⟩)
    | [], h => exact nomatch h
    | ⟨_, _, _, _⟩ :: _ :: _, h => exact nomatch h
  | .lc2 mu vs elt tg it cs vs1 tg1 it1 cs1, Γ, X, e, gd, h => by
    cases e <;> try (exact absurd (show false = true from h) Bool.false_ne_true)
    rename_i y gs scope pos
    match gs, h with
    | [⟨t, i, ifs, a⟩, ⟨t1, i1, ifs1, a1⟩], h =>
      obtain ⟨h1, h2⟩ := bk (show (decide (a = 0) && (decide (a1 = 0) && (okX i && (okX i1 && (blkC Γ.N Γ.sc scope (ownOf Γ.N vs) && (vs1.all (fun j => decide (j ∈ vs)) && ((slG tg).all (fun j => decide (j ∈ vs)) && ((slG tg1).all (fun j => decide (j ∈ vs1)) &&
      (chkG tg (Γ.blk scope) t && (chkI G it Γ i && (chkCs G cs (Γ.blk scope) ifs && (chkG tg1 (Γ.blk scope) t1 && (chkI G it1 (Γ.blk scope) i1 && (chkCs G cs1 (Γ.blk scope) ifs1 && chkE G elt (Γ.blk scope) y)))))))))))))) = true from h)
      obtain ⟨h3, h4⟩ := bk h2
      obtain ⟨h5, h6⟩ := bk h4
      obtain ⟨h7, h8⟩ := bk h6
      obtain ⟨h9, h10⟩ := bk h8
      obtain ⟨h11, h12⟩ := bk h10
      obtain ⟨h13, h14⟩ := bk h12
      obtain ⟨h15, h16⟩ := bk h14
      obtain ⟨h17, h18⟩ := bk h16
      obtain ⟨h19, h20⟩ := bk h18
      obtain ⟨h21, h22⟩ := bk h20
      obtain ⟨h23, h24⟩ := bk h22
      obtain ⟨h25, h26⟩ := bk h24
      obtain ⟨h27, h28⟩ := bk h26
      cases (dec h1)
      cases (dec h3)
      exact .of (tr_lc2 gd (fun j hj => dec (List.all_eq_true.mp h11 j hj)) (fun j hj => dec (List.all_eq_true.mp h13 j hj)) (fun j hj => dec (List.all_eq_true.mp h15 j hj)) h5 h7 h9 (chkI_ok it i gd h19)
        ⟨fun s H C cells fp => chkG_ok (gd.blk s H C cells fp).toSy tg t h17, fun s H C cells fp => chkCs_ok cs ifs (gd.blk s H C cells fp) h21, fun s H C cells fp => chkG_ok (gd.blk s H C cells fp).toSy tg1 t1 h23, fun s H C cells fp => chkI_ok it1 i1 (gd.blk s H C cells fp) h25, fun s H C cells fp => chkCs_ok cs1 ifs1 (gd.blk s H C cells fp) h27, fun s H C cells fp => (chkE_ok elt y (gd.blk s H C cells fp) h28).pe⟩)
    | [], h => exact nomatch h
    | [⟨_, _, _, _⟩], h => exact nomatch h
    | ⟨_, _, _, _⟩ :: ⟨_, _, _, _⟩ :: _ :: _, h => exact nomatch h
theorem chkEs_ok {G : GT} {cl : Nat → List D → Sto → Rs D} {k : Nat} : ∀ (ms : MEs) {Γ : Syn} {X : Cx} (es : List Expr), Good G cl k Γ X → chkEs G ms Γ es = true → PA X es (TAR X.K (evEs G cl ms))
  | .nil, Γ, X, es, gd, h => by
    cases es with
    | nil => exact ta_nil
    | cons _ _ => exact nomatch h
  | .cons m ms, Γ, X, es, gd, h => by
    cases es with
    | nil => exact nomatch h
    | cons e es =>
      obtain ⟨h1, h2⟩ := bk (show (okX e && (chkE G m Γ e && chkEs G ms Γ es)) = true from h)
      obtain ⟨h3, h4⟩ := bk h2
      exact ta_cons h1 (chkE_ok m e gd h3).pe (chkEs_ok ms es gd h4)
theorem chkO_ok {G : GT} {cl : Nat → List D → Sto → Rs D} {k : Nat} : ∀ (m : MO) {Γ : Syn} {X : Cx} (o : Option Expr), Good G cl k Γ X → chkO G m Γ o = true → PO X o (TOR X.K (evO G cl m))
  | .none, Γ, X, o, gd, h => by
    cases o with
    | none => exact to_none
    | some _ => exact nomatch h
  | .some m, Γ, X, o, gd, h => by
    cases o with
    | none => exact nomatch h
    | some e => exact to_some (chkE_ok m e gd h).pe
theorem chkCs_ok {G : GT} {cl : Nat → List D → Sto → Rs D} {k : Nat} : ∀ (m : MO) {Γ : Syn} {X : Cx} (es : List Expr), Good G cl k Γ X → chkCs G m Γ es = true → PTs X es (TTR X.K (evC G cl m))
  | .none, Γ, X, es, gd, h => by
    cases es with
    | nil => exact tc_nil
    | cons _ _ => exact nomatch h
  | .some m, Γ, X, es, gd, h => by
    match es, h with
    | [e], h => exact tc_one (chkE_ok m e gd h).pt
    | [], h => exact nomatch h
    | _ :: _ :: _, h => exact nomatch h
theorem chkPs_ok {G : GT} {cl : Nat → List D → Sto → Rs D} {k : Nat} {pos : Pos} : ∀ (ps : MPs) {Γ : Syn} {X : Cx} (ks : List (Option Expr)) (vs : List Expr), Good G cl k Γ X → chkPs G ps Γ ks vs = true → PPok X pos ks vs (evPs G cl ps) ∧ ks.all (·.isSome) = true
  | .nil, Γ, X, ks, vs, gd, h => by
    match ks, vs, h with
    | [], [], _ => exact ⟨pp_nil, rfl⟩
    | [], _ :: _, h => exact nomatch h
    | _ :: _, _, h => exact nomatch h
  | .cons a b ps, Γ, X, ks, vs, gd, h => by
    match ks, vs, h with
    | some x :: ks, y :: vs, h =>
      obtain ⟨h1, h2⟩ := bk (show (chkE G a Γ x && (chkE G b Γ y && chkPs G ps Γ ks vs)) = true from h)
      obtain ⟨h3, h4⟩ := bk h2
      obtain ⟨a1, a2⟩ := chkPs_ok (pos := pos) ps ks vs gd h4
      exact ⟨pp_cons (chkE_ok a x gd h1).pe (chkE_ok b y gd h3).pe a1, by simpa using a2⟩
    | [], _, h => exact nomatch h
    | none :: _, _, h => exact nomatch h
    | some _ :: _, [], h => exact nomatch h
theorem chkI_ok {G : GT} {cl : Nat → List D → Sto → Rs D} {k : Nat} : ∀ (m : MI) {Γ : Syn} {X : Cx} (e : Expr) {tg : Expr}, Good G cl k Γ X → chkI G m Γ e = true → PI X tg e (TIR X.K (evI G cl m))
  | .seq m, Γ, X, e, tg, gd, h => ti_seq (chkE_ok m e gd h).pe
  | .rng g es, Γ, X, e, tg, gd, h => by
    cases e <;> try (exact absurd (show false = true from h) Bool.false_ne_true)
    rename_i f xs kw pos
    cases f <;> try (exact absurd (show false = true from h) Bool.false_ne_true)
    cases kw <;> try (exact absurd (show false = true from h) Bool.false_ne_true)
    rename_i x p
    obtain ⟨h1, h2⟩ := bk (show (glB G Γ g x && (isBlt G g && (decide (x = "range") && ((decide (xs.length = 1) || (decide (xs.length = 2) || decide (xs.length = 3))) && chkEs G es Γ xs)))) = true from h)
    obtain ⟨h3, h4⟩ := bk h2
    obtain ⟨h5, h6⟩ := bk h4
    obtain ⟨h7, h8⟩ := bk h6
    cases (dec h5)
    obtain ⟨⟨q, hg⟩, hgl, hdb, hnm⟩ := gl_ok gd.toSy h1
    exact ti_rng gd (blt_at hg h3) hgl h8 (by simpa using h7) (chkEs_ok es xs gd h8)
end
end
end Rw

/-! M12: statements, defs -/
namespace Rw
open PySem PySem.Spec PyProof.Rows L2
section
variable {G : GT} {cl : Nat → List D → Sto → Rs D} {k : Nat} {Γ : Syn} {X : Cx}
def rAug (K : PySem.W.Frag) (op : Operator) : TIp := fun x y H Q => ∃ W F μ S d e r, Stt K W F μ S H ∧ Rep K W μ d x ∧ Rep K W μ e y ∧ augD op d e = some r ∧ Post K W F μ S r Q
theorem ip_any (op : Operator) : PIp X op (rAug X.K op) := by
  intro pins s σ H x y v u Q I rx ry h
  obtain ⟨W, F, μ, S, d, e, r, st, hd, he, hb, p⟩ := h
  unfold augD at hb
  split at hb
  · cases hb; cases (show x = _ from hd); cases (show y = _ from he)
    exact iop_add pins s σ H _ _ v u Q I rx ry ⟨_, _, rfl, rfl, p.int st⟩
  · cases hb; cases (show x = _ from hd); cases (show y = _ from he)
    exact iop_sub pins s σ H _ _ v u Q I rx ry ⟨_, _, rfl, rfl, p.int st⟩
  · split at hb
    · rename_i c
      cases hb; cases (show x = _ from hd); cases (show y = _ from he)
      exact iop_mul pins s σ H _ _ v u Q I rx ry ⟨_, _, rfl, rfl, c, p.int st⟩
    · cases hb
  · split at hb
    · rename_i c
      cases hb; cases (show x = _ from hd); cases (show y = _ from he)
      exact iop_add_str pins s σ H _ _ v u Q I rx ry ⟨_, _, rfl, rfl, c, p.strv st⟩
    · cases hb
  · cases hb
def rPut (K : PySem.W.Frag) : TSet := fun o i v H Q => ∃ W F μ S d e r S', Stt K W F μ S H ∧ Rep K W μ d o ∧ Rep K W μ e i ∧ Rep K W μ r v ∧ putI S d e r = some S' ∧ ∀ H' W' μ', Ext W μ W' μ' → Stt K W' F μ' S' H' → Q H'
theorem set_any (hu : X.A.units + 1 < cLine) : PSet X (rPut X.K) := by
  intro pins s σ H o i v ov iv u Q I ro ri rv h
  obtain ⟨W, F, μ, S, d, e, r, S', st, hd, he, hr, hb, p⟩ := h
  unfold putI at hb
  split at hb
  · rename_i j
    obtain ⟨a, hj, rfl⟩ := hd
    cases c : S[j]? with
    | none => rw [c] at hb; cases hb
    | some cc =>
      rw [c] at hb
      cases cc with
      | ob _ _ _ => cases hb
      | lst xs =>
        obtain ⟨ws, h1, h2⟩ := st.lst hj c
        simp only at hb
        split at hb
        · rename_i q
          cases (show i = _ from he)
          cases z : ixN xs.length q with
          | none => rw [z] at hb; cases hb
          | some n =>
            rw [z] at hb
            cases hb
            refine set_list pins s σ H _ _ _ ov iv u Q I ro ri rv ⟨a, ws, q, n, rfl, rfl, h1, by rw [h2.length]; exact z, ?_⟩
            exact p _ W μ Ext.refl (st.put _ _ hj ⟨_, upd_same, Reps.set n hr h2⟩)
        · cases hb
      | dk kvs =>
        obtain ⟨ws, h1, h2⟩ := st.dk hj c
        simp only at hb
        cases z : keyD e with
        | none => rw [z] at hb; cases hb
        | some q =>
          rw [z] at hb
          have hb : (if kvs.length < sizeLine then some (S.set j (.dk (storeK kvs q r))) else none) = some S' := hb
          split at hb
          · rename_i hl
            cases hb
            have hk := key_rep he z
            subst hk
            have hl2 : ws.length = kvs.length := by have := congrArg List.length h2.1; simpa using this.symm
            have e2 : ov = Value.ref a := ro
            subst e2
            refine d_setItem hu I (DPut.k (k := q) (v := v) h1 (by rw [hl2]; exact hl)) ri rv fun s' I' => ⟨_, I', ?_⟩
            exact p _ W μ Ext.refl (st.put _ _ hj ⟨_, upd_same, h2.store hr⟩)
          · cases hb
  · cases hb
def rGetK (K : PySem.W.Frag) : V → V → Hp → VK → Prop := fun o i H Q => ∃ W F μ S d e r, Stt K W F μ S H ∧ Rep K W μ d o ∧ Rep K W μ e i ∧ augGet S d e = some r ∧ Post K W F μ S r Q
theorem get_any (hu : X.A.units + 1 < cLine) : PGet X (rGetK X.K) := by
  intro pins s σ H o i ov iv Q I ro ri h
  obtain ⟨W, F, μ, S, d, e, r, st, hd, he, hb, p⟩ := h
  unfold augGet at hb
  split at hb
  · rename_i j
    obtain ⟨a, hj, rfl⟩ := hd
    cases c : S[j]? with
    | none => rw [c] at hb; cases hb
    | some cc =>
      rw [c] at hb
      cases cc with
      | ob _ _ _ => cases hb
      | lst xs => cases hb
      | dk kvs =>
        obtain ⟨ws, h1, h2⟩ := st.dk hj c
        simp only at hb
        cases z : keyD e with
        | none => rw [z] at hb; cases hb
        | some q =>
          rw [z] at hb
          obtain ⟨v, h3, h4⟩ := h2.look (show lookK kvs q = some r from hb)
          have hk := key_rep he z
          subst hk
          have e2 : ov = Value.ref a := ro
          subst e2
          exact d_getItem hu I (by rw [← h3]; exact DGet.k h1) ri fun w' s3 I3 rw' => ⟨v, H, I3, rw', p.same st h4⟩
  · cases hb

/-! ### stores -/
structure GoodS (G : GT) (cl : Nat → List D → Sto → Rs D) (k : Nat) (Γ : Syn) (X : Cx) : Prop extends Good G cl k Γ X where
  kd : Γ.sc.kind = .function
theorem GoodS.bk (g : GoodS G cl k Γ X) : X.env.blockKind = .function := by
  unfold PySem.Env.blockKind
  rw [g.sc, g.kd]
  rfl
theorem asg_none_name {x : Str} {p : Pos} {v : Expr} {env : PySem.Env} : swappedStores [.Name x p] v env = pure none := by
  cases v <;> rfl
theorem asg_none_val {ts : List Expr} {n : Nat} {p : Pos} {v : Expr} {env : PySem.Env} (h : ∀ vs m q, v ≠ .Tuple vs m q) : swappedStores [.Tuple ts n p] v env = pure none := by
  cases v <;> first | rfl | exact absurd rfl (h _ _ _)
theorem asg_none_sub {o i : Expr} {p : Pos} {v : Expr} {env : PySem.Env} : swappedStores [.Subscript o i p] v env = pure none := by
  cases v <;> rfl
theorem noSw_ok (g : GoodS G cl k Γ X) {ts vs : List Expr} {n m : Nat} {p q : Pos} (h : noSw Γ ts vs = true) : swappedStores [.Tuple ts n p] (.Tuple vs m q) X.env = pure none := by
  unfold swappedStores
  simp only [pure_bind]
  unfold noSw at h
  by_cases c1 : (!(ts.length == 2 || ts.length == 3) || vs.length != ts.length) = true
  · have : (!(ts.length == 2 || ts.length == 3) || vs.length != ts.length || X.env.blockKind != ScopeKind.function) = true := by rw [c1]; rfl
    rw [if_pos this]
  · rw [Bool.not_eq_true] at c1
    rw [c1, Bool.false_or] at h
    have hbk : (X.env.blockKind != ScopeKind.function) = false := by rw [g.bk]; rfl
    have : (!(ts.length == 2 || ts.length == 3) || vs.length != ts.length || X.env.blockKind != ScopeKind.function) = false := by rw [c1, hbk]; rfl
    rw [if_neg (by rw [this]; exact Bool.false_ne_true)]
    split
    · rfl
    · have hk : ∀ id, X.env.kindOf id = Γ.sc.names.lookup id := fun id => by show X.env.scope.names.lookup id = _; rw [g.sc]
      simp only [hk]
      rcases Bool.or_eq_true_iff.mp h with h | h
      · split
        · rfl
        · rename_i hh
          exact absurd (Bool.or_eq_true_iff.mpr (Or.inl h)) hh
      · split
        · rfl
        · first | rfl | rw [if_pos h]
theorem sw2_ok (g : GoodS G cl k Γ X) {x y : Str} {px py p q : Pos} {a b : Expr} {n m : Nat} (hs : swB [px, py] [a, b] = true) (hx : X.env.scope.names.lookup x = some .local) (hy : X.env.scope.names.lookup y = some .local) (hxy : x ≠ y) (oa : okX a = true) (ob : okX b = true) :
    swappedStores [.Tuple [.Name x px, .Name y py] n p] (.Tuple [a, b] m q) X.env = pure (some [x, y]) := by
  obtain ⟨h1, h2⟩ := Rw.bk hs
  obtain ⟨h3, h4⟩ := Rw.bk h2
  have hl : (py.line == px.line) = true := by simpa using h1
  have kx : (X.env.kindOf x == some NameKind.local) = true := by show (X.env.scope.names.lookup x == some NameKind.local) = true; rw [hx]; rfl
  have ky : (X.env.kindOf y == some NameKind.local) = true := by show (X.env.scope.names.lookup y == some NameKind.local) = true; rw [hy]; rfl
  have hbk : (X.env.blockKind != ScopeKind.function) = false := by rw [g.bk]; rfl
  have hst : ([a, b].any fun
    | .Starred .. => true
    | _ => false) = false := by
    cases a <;> first | (cases oa; done) | skip
    all_goals (cases b <;> first | rfl | cases ob)
  have hlx : (px.line == px.line) = true := by simp
  have hf1 : [a, b].all (foldedForSure 8) = false := by
    cases q : [a, b].all (foldedForSure 8) with
    | true => rw [q] at h3; cases h3
    | false => rfl
  have hf2 : [a, b].all (constantsAlone 8) = false := by
    cases q : [a, b].all (constantsAlone 8) with
    | true => rw [q] at h4; cases h4
    | false => rfl
  have hd : ([x, y] : List Str).eraseDups.length = 2 := by
    have e1 : (y == x) = false := by rw [beq_eq_false_iff_ne]; exact Ne.symm hxy
    simp [List.eraseDups_cons, e1]
  unfold swappedStores
  simp only [pure_bind]
  split
  · rename_i hh
    rw [hbk] at hh
    simp at hh
  · split
    · rename_i hh
      exact absurd (hst.symm.trans hh) Bool.false_ne_true
    · simp only [List.head?_cons, Option.map_some, Option.getD_some, List.filterMap_cons, kx, ky, Bool.true_and, Expr.pos, hl, hlx, if_true, List.filterMap_nil, List.length_cons, List.length_nil, Nat.zero_add, hd, hf1, hf2]
      rfl
theorem sw3_ok (g : GoodS G cl k Γ X) {x y z : Str} {px py pz p q : Pos} {a b c : Expr} {n m : Nat} (hs : swB [px, py, pz] [a, b, c] = true) (hx : X.env.scope.names.lookup x = some .local) (hy : X.env.scope.names.lookup y = some .local) (hz : X.env.scope.names.lookup z = some .local) (hne : x ≠ y ∧ x ≠ z ∧ y ≠ z) (oa : okX a = true) (ob : okX b = true) (oc : okX c = true) :
    swappedStores [.Tuple [.Name x px, .Name y py, .Name z pz] n p] (.Tuple [a, b, c] m q) X.env = pure (some [x, y, z]) := by
  obtain ⟨h1, h2⟩ := Rw.bk hs
  obtain ⟨h3, h4⟩ := Rw.bk h2
  have hl2 : (py.line == px.line) = true ∧ (pz.line == px.line) = true := by simpa using h1
  have hl := hl2.1
  have hlz := hl2.2
  have kx : (X.env.kindOf x == some NameKind.local) = true := by show (X.env.scope.names.lookup x == some NameKind.local) = true; rw [hx]; rfl
  have ky : (X.env.kindOf y == some NameKind.local) = true := by show (X.env.scope.names.lookup y == some NameKind.local) = true; rw [hy]; rfl
  have kz : (X.env.kindOf z == some NameKind.local) = true := by show (X.env.scope.names.lookup z == some NameKind.local) = true; rw [hz]; rfl
  have hbk : (X.env.blockKind != ScopeKind.function) = false := by rw [g.bk]; rfl
  have hP : ∀ e : Expr, okX e = true → ((fun
    | .Starred .. => true
    | _ => false : Expr → Bool) e) = false := by
    intro e he
    cases e <;> first | rfl | cases he
  have hst : ([a, b, c].any fun
    | .Starred .. => true
    | _ => false) = false := by
    rw [List.any_eq_false]
    intro e he w
    refine Bool.false_ne_true ((hP e ?_).symm.trans w)
    simp only [List.mem_cons, List.not_mem_nil, or_false] at he
    rcases he with rfl | rfl | rfl <;> assumption
  have hlx : (px.line == px.line) = true := by simp
  have hf1 : [a, b, c].all (foldedForSure 8) = false := by
    cases q : [a, b, c].all (foldedForSure 8) with
    | true => rw [q] at h3; cases h3
    | false => rfl
  have hf2 : [a, b, c].all (constantsAlone 8) = false := by
    cases q : [a, b, c].all (constantsAlone 8) with
    | true => rw [q] at h4; cases h4
    | false => rfl
  have hd : ([x, y, z] : List Str).eraseDups.length = 3 := by
    have e1 : (y == x) = false := by rw [beq_eq_false_iff_ne]; exact Ne.symm hne.1
    have e2 : (z == x) = false := by rw [beq_eq_false_iff_ne]; exact Ne.symm hne.2.1
    have e3 : (z == y) = false := by rw [beq_eq_false_iff_ne]; exact Ne.symm hne.2.2
    simp [List.eraseDups_cons, e1, e2, e3]
  unfold swappedStores
  simp only [pure_bind]
  split
  · rename_i hh
    rw [hbk] at hh
    simp at hh
  · split
    · rename_i hh
      exact absurd (hst.symm.trans hh) Bool.false_ne_true
    · simp only [List.head?_cons, Option.map_some, Option.getD_some, List.filterMap_cons, kx, ky, kz, Bool.true_and, Expr.pos, hl, hlz, hlx, if_true, List.filterMap_nil, List.length_cons, List.length_nil, Nat.zero_add, hd, hf1, hf2]
      rfl
theorem ts_asg (g : GoodS G cl k Γ X) {tg : MG} {e : ME} {t v : Expr} {pos : Pos} (hn : notLc v = true) (hw : swappedStores [t] v X.env = pure none) (ht : chkG tg Γ t = true) (hv : PE X v (TR X.K (evE G cl e))) : PS X (.Assign [t] v pos) (TSR X.K (evS G cl (.asg tg e))) := by
  have ot : okX t = true := by
    cases tg <;> cases t <;> first | rfl | exact absurd (show false = true from ht) Bool.false_ne_true
  refine (ps_asg hv (chkG_ok g.toSy tg t ht) (swaps_ok hn _ _ _) hw (by rw [asgEach_ok ot]; rfl)).weak ?_
  rintro D σ H ⟨W, F, μ, ρ, S, fl, S', st, en, e1, p⟩
  obtain ⟨d, S1, e2, e3⟩ := bnd_inv e1
  obtain ⟨ρ1, e4, e5⟩ := lft_inv e3
  cases e5
  exact ⟨W, F, μ, ρ, S, d, _, st, en, e2, fun x H1 W1 μ1 x1 st1 r1 => ⟨W1, F, μ1, ρ, _, d, ρ1, st1, en.mono x1, r1, e4, fun σ1 en1 _ _ => p σ1 H1 W1 μ1 x1 st1 en1⟩⟩
theorem sw_cell {y : Str} {py : Pos} {elt : Expr} {gs : List Comprehension} {scope : Scope} {pos : Pos} {l : Nat} (h : X.env.scope.names.lookup y = some .cell) : swapsWithSole [.Name y py] (.ListComp elt gs scope pos) l X.env = pure false := by
  show (pure (X.env.blockKind == .function && X.env.kindOf y == some .local && py.line == pos.line && !(scope.names.any fun (n, k) => n == y && (k == .local || k == .cell))) : Sem Bool) = pure false
  have e : (X.env.kindOf y == some NameKind.local) = false := by show (X.env.scope.names.lookup y == some NameKind.local) = false; rw [h]; rfl
  rw [e]
  simp
theorem ts_asgC (g : GoodS G cl k Γ X) {tg : MG} {e : ME} {t v : Expr} {pos : Pos} (hn : swapsWithSole [t] v pos.line X.env = pure false) (hw : swappedStores [t] v X.env = pure none) (ht : chkG tg Γ t = true) (hv : PE X v (TR X.K (evE G cl e))) : PS X (.Assign [t] v pos) (TSR X.K (evS G cl (.asg tg e))) := by
  have ot : okX t = true := by
    cases tg <;> cases t <;> first | rfl | exact absurd (show false = true from ht) Bool.false_ne_true
  refine (ps_asg hv (chkG_ok g.toSy tg t ht) hn hw (by rw [asgEach_ok ot]; rfl)).weak ?_
  rintro D σ H ⟨W, F, μ, ρ, S, fl, S', st, en, e1, p⟩
  obtain ⟨d, S1, e2, e3⟩ := bnd_inv e1
  obtain ⟨ρ1, e4, e5⟩ := lft_inv e3
  cases e5
  exact ⟨W, F, μ, ρ, S, d, _, st, en, e2, fun x H1 W1 μ1 x1 st1 r1 => ⟨W1, F, μ1, ρ, _, d, ρ1, st1, en.mono x1, r1, e4, fun σ1 en1 _ _ => p σ1 H1 W1 μ1 x1 st1 en1⟩⟩
theorem ts_lc (g : GoodS G cl k Γ X) {i : Nat} {y : Str} {py : Pos} {mu : Bool} {vs : List Nat} {me : ME} {mg : MG} {mi : MI} {mc : MO} {elt tg iter : Expr} {ifs : List Expr} {scope : Scope} {pos spos : Pos} (hy : locB Γ i y = true) (hyl : Γ.sc.names.lookup y = some .local) (hln : (py.line == pos.line) = true)
    (hany : (scope.names.any fun (n, k) => n == y && (k == .local || k == .cell)) = false) (hs : ∀ i ∈ slG mg, i ∈ vs) (ok : okX iter = true) (hb : blkC Γ.N Γ.sc scope (ownOf Γ.N vs) = true)
    (hi : PI X tg iter (TIR X.K (evI G cl mi))) (L : LcOk G cl X scope elt tg ifs me mg mc) : PS X (.Assign [.Name y py] (.ListComp elt [⟨tg, iter, ifs, 0⟩] scope pos) spos) (TSR X.K (evS G cl (.asg (.name i) (.lc mu vs me mg mi mc)))) := by
  have B : BlkOk X.N X.env.scope scope (ownOf Γ.N vs) := by rw [g.N, g.sc]; exact blkOk_by hb
  obtain ⟨h1, h2, h3⟩ := loc_ok g.toSy hy
  have hl' : X.env.scope.names.lookup y = some .local := by rw [g.sc]; exact hyl
  have h := ps_setLc (py := py) (pos := pos) (spos := spos) g.calm g.nd h1 hl' (sw_true (by rw [g.sc]; exact g.kd) hl' hln hany) hi B L.g L.t L.e (fold_ok ok X.env)
  rw [own_snd] at h
  refine h.weak ?_
  rintro D σ H ⟨W, F, μ, ρ, S, fl, S', st, en, e1, p⟩
  obtain ⟨d, S1, e2, e3⟩ := bnd_inv e1
  obtain ⟨ρ1, e4, e5⟩ := lft_inv e3
  cases e5
  refine lc_w hs σ H _ ⟨W, F, μ, ρ, S, d, _, st, en, e2, fun x H1 W1 μ1 x1 st1 r1 => ?_⟩
  have e4 : (if i < ρ.length then some (ρ.set i (some d)) else none) = some ρ1 := e4
  split at e4
  · cases e4
    exact p _ H1 W1 μ1 x1 st1 ((en.mono x1).set r1)
  · cases e4
theorem ts_lc2 (g : GoodS G cl k Γ X) {i : Nat} {y : Str} {py : Pos} {mu : Bool} {vs vs1 : List Nat} {me : ME} {mg mg1 : MG} {mi mi1 : MI} {mc mc1 : MO} {elt tg iter tg1 iter1 : Expr} {ifs ifs1 : List Expr} {scope : Scope} {pos spos : Pos} (hy : locB Γ i y = true) (hyl : Γ.sc.names.lookup y = some .local) (hln : (py.line == pos.line) = true)
    (hany : (scope.names.any fun (n, k) => n == y && (k == .local || k == .cell)) = false) (hv : ∀ i ∈ vs1, i ∈ vs) (hs : ∀ i ∈ slG mg, i ∈ vs) (hs1 : ∀ i ∈ slG mg1, i ∈ vs1) (ok : okX iter = true) (ok1 : okX iter1 = true) (hb : blkC Γ.N Γ.sc scope (ownOf Γ.N vs) = true)
    (hi : PI X tg iter (TIR X.K (evI G cl mi))) (L : Lc2Ok G cl X scope elt tg ifs tg1 iter1 ifs1 me mg mc mg1 mi1 mc1) : PS X (.Assign [.Name y py] (.ListComp elt [⟨tg, iter, ifs, 0⟩, ⟨tg1, iter1, ifs1, 0⟩] scope pos) spos) (TSR X.K (evS G cl (.asg (.name i) (.lc2 mu vs me mg mi mc vs1 mg1 mi1 mc1)))) := by
  have B : BlkOk X.N X.env.scope scope (ownOf Γ.N vs) := by rw [g.N, g.sc]; exact blkOk_by hb
  obtain ⟨h1, h2, h3⟩ := loc_ok g.toSy hy
  have hl' : X.env.scope.names.lookup y = some .local := by rw [g.sc]; exact hyl
  have h := ps_setLc2 (vs1 := vs1) (py := py) (pos := pos) (spos := spos) g.calm g.nd h1 hl' (sw_true (by rw [g.sc]; exact g.kd) hl' hln hany) hi B (by rw [own_snd]; exact hv) L.g L.t L.i1 L.g1 L.t1 L.e (fold_ok ok X.env) (fun env x => fold_ok ok1 env x)
  rw [own_snd] at h
  refine h.weak ?_
  rintro D σ H ⟨W, F, μ, ρ, S, fl, S', st, en, e1, p⟩
  obtain ⟨d, S1, e2, e3⟩ := bnd_inv e1
  obtain ⟨ρ1, e4, e5⟩ := lft_inv e3
  cases e5
  refine lc2_w hs hs1 σ H _ ⟨W, F, μ, ρ, S, d, _, st, en, e2, fun x H1 W1 μ1 x1 st1 r1 => ?_⟩
  have e4 : (if i < ρ.length then some (ρ.set i (some d)) else none) = some ρ1 := e4
  split at e4
  · cases e4
    exact p _ H1 W1 μ1 x1 st1 ((en.mono x1).set r1)
  · cases e4
theorem lcl_ok (y : Sy Γ X) {i : Nat} {x : Str} (h : lclB Γ i x = true) : X.N[i]? = some x ∧ X.env.scope.names.lookup x = some .local := by
  obtain ⟨h1, h2⟩ := bk h
  exact ⟨by rw [y.N]; exact dec h1, by rw [y.sc]; exact dec h2⟩
theorem ts_par2 (g : GoodS G cl k Γ X) {i j : Nat} {a b : ME} {x y : Str} {u v : Expr} {px py p q pos : Pos} {n m : Nat} (hs : swB [px, py] [u, v] = true) (hx : lclB Γ i x = true) (hy : lclB Γ j y = true) (hij : i ≠ j) (hxy : x ≠ y) (ou : okX u = true) (ov : okX v = true)
    (ha : PE X u (TR X.K (evE G cl a))) (hb : PE X v (TR X.K (evE G cl b))) : PS X (.Assign [.Tuple [.Name x px, .Name y py] n p] (.Tuple [u, v] m q) pos) (TSR X.K (evS G cl (.par2 i j a b))) := by
  obtain ⟨h1, h2⟩ := lcl_ok g.toSy hx
  obtain ⟨h3, h4⟩ := lcl_ok g.toSy hy
  refine (ps_par g.calm g.nd h1 h3 hij h2 h4 (pa_cons ha (pa_cons hb pa_nil (star_ok ov _ _)) (star_ok ou _ _)) (sw2_ok g hs h2 h4 hxy ou ov)).weak ?_
  rintro D σ H ⟨W, F, μ, ρ, S, fl, S', st, en, e1, p⟩
  obtain ⟨d, S1, e2, e3⟩ := bnd_inv e1
  obtain ⟨e, S2, e4, e5⟩ := bnd_inv e3
  cases e5
  exact ⟨W, F, μ, ρ, S, d, S1, st, en, e2, fun v1 H1 W1 μ1 x1 st1 r1 => ⟨W1, F, μ1, ρ, S1, e, _, st1, en.mono x1, e4, fun v2 H2 W2 μ2 x2 st2 r2 => ⟨v1, v2, rfl, p _ H2 W2 μ2 (x1.trans x2) st2 (((en.mono (x1.trans x2)).set (r1.m x2)).set r2)⟩⟩⟩
theorem ts_par3 (g : GoodS G cl k Γ X) {i j l : Nat} {a b c : ME} {x y z : Str} {u v w : Expr} {px py pz p q pos : Pos} {n m : Nat} (hs : swB [px, py, pz] [u, v, w] = true) (hx : lclB Γ i x = true) (hy : lclB Γ j y = true) (hz : lclB Γ l z = true) (hij : i ≠ j ∧ i ≠ l ∧ j ≠ l) (hxy : x ≠ y ∧ x ≠ z ∧ y ≠ z) (ou : okX u = true) (ov : okX v = true) (ow : okX w = true)
    (ha : PE X u (TR X.K (evE G cl a))) (hb : PE X v (TR X.K (evE G cl b))) (hc : PE X w (TR X.K (evE G cl c))) : PS X (.Assign [.Tuple [.Name x px, .Name y py, .Name z pz] n p] (.Tuple [u, v, w] m q) pos) (TSR X.K (evS G cl (.par3 i j l a b c))) := by
  obtain ⟨h1, h2⟩ := lcl_ok g.toSy hx
  obtain ⟨h3, h4⟩ := lcl_ok g.toSy hy
  obtain ⟨h5, h6⟩ := lcl_ok g.toSy hz
  refine (ps_par3 g.calm g.nd h1 h3 h5 hij.1 hij.2.1 hij.2.2 h2 h4 h6 (pa_cons ha (pa_cons hb (pa_cons hc pa_nil (star_ok ow _ _)) (star_ok ov _ _)) (star_ok ou _ _)) (sw3_ok g hs h2 h4 h6 hxy ou ov ow)).weak ?_
  rintro D σ H ⟨W, F, μ, ρ, S, fl, S', st, en, e1, p⟩
  obtain ⟨d, S1, e2, e3⟩ := bnd_inv e1
  obtain ⟨e, S2, e4, e5⟩ := bnd_inv e3
  obtain ⟨f, S3, e6, e7⟩ := bnd_inv e5
  cases e7
  exact ⟨W, F, μ, ρ, S, d, S1, st, en, e2, fun v1 H1 W1 μ1 x1 st1 r1 => ⟨W1, F, μ1, ρ, S1, e, S2, st1, en.mono x1, e4, fun v2 H2 W2 μ2 x2 st2 r2 => ⟨W2, F, μ2, ρ, S2, f, _, st2, en.mono (x1.trans x2), e6, fun v3 H3 W3 μ3 x3 st3 r3 => ⟨v1, v2, v3, rfl, p _ H3 W3 μ3 ((x1.trans x2).trans x3) st3 ((((en.mono ((x1.trans x2).trans x3)).set (r1.m (x2.trans x3))).set (r2.m x3)).set r3)⟩⟩⟩⟩
theorem ts_aug (g : GoodS G cl k Γ X) {i : Nat} {op : Operator} {e : ME} {x : Str} {v : Expr} {p pos : Pos} (hx : locB Γ i x = true) (hv : PE X v (TR X.K (evE G cl e))) : PS X (.AugAssign (.Name x p) op v pos) (TSR X.K (evS G cl (.aug i op e))) := by
  obtain ⟨h1, h2, h3⟩ := loc_ok g.toSy hx
  refine (ps_aug g.nd h1 h2 hv (ip_any op) h3).weak ?_
  rintro D σ H ⟨W, F, μ, ρ, S, fl, S', st, en, e1, p⟩
  cases c : ρ[i]? with
  | none => simp only [evS, c] at e1; cases e1
  | some q =>
    cases q with
    | none => simp only [evS, c] at e1; cases e1
    | some d =>
      simp only [evS, c] at e1
      obtain ⟨y, S1, e2, e3⟩ := bnd_inv e1
      obtain ⟨r, e4, e5⟩ := lft_inv e3
      cases e5
      obtain ⟨u, hu, ru⟩ := en.2 i d c
      exact ⟨u, hu, W, F, μ, ρ, S, y, _, st, en, e2, fun v1 H1 W1 μ1 x1 st1 r1 => ⟨W1, F, μ1, _, d, y, r, st1, ru.m x1, r1, e4, fun v2 H2 W2 μ2 x2 st2 r2 => p _ H2 W2 μ2 (x1.trans x2) st2 ((en.mono (x1.trans x2)).set r2)⟩⟩
theorem ts_setI (g : GoodS G cl k Γ X) {o i e : ME} {p q v : Expr} {tp pos : Pos} (ok : okX q = true) (hn : notLc v = true) (hv : PE X v (TR X.K (evE G cl e))) (ho : PE X p (TR X.K (evE G cl o))) (hi : PE X q (TR X.K (evE G cl i))) : PS X (.Assign [.Subscript p q tp] v pos) (TSR X.K (evS G cl (.setI o i e))) := by
  refine (ps_asg hv (pg_sub ho hi (set_any g.hu1) fun w => asgsub_ok ok p tp X.env w) (show swapsWithSole [.Subscript p q tp] v pos.line X.env = pure false from swaps_ok hn (some (.Subscript p q tp)) pos.line X.env) asg_none_sub (by rfl)).weak ?_
  rintro D σ H ⟨W, F, μ, ρ, S, fl, S', st, en, e1, p⟩
  obtain ⟨d1, S1, e2, e3⟩ := bnd_inv e1
  obtain ⟨d2, S2, e4, e5⟩ := bnd_inv e3
  obtain ⟨d3, S3, e6, e7⟩ := bnd_inv e5
  obtain ⟨S4, e8, e9⟩ := lft_inv e7
  cases e9
  exact ⟨W, F, μ, ρ, S, d1, S1, st, en, e2, fun v1 H1 W1 μ1 x1 st1 r1 => ⟨W1, F, μ1, ρ, S1, d2, S2, st1, en.mono x1, e4, fun v2 H2 W2 μ2 x2 st2 r2 => ⟨W2, F, μ2, ρ, S2, d3, S3, st2, en.mono (x1.trans x2), e6, fun v3 H3 W3 μ3 x3 st3 r3 =>
    ⟨W3, F, μ3, S3, d2, d3, d1, _, st3, r2.m x3, r3, r1.m (x2.trans x3), e8, fun H4 W4 μ4 x4 st4 => p σ H4 W4 μ4 (((x1.trans x2).trans x3).trans x4) st4 (en.mono (((x1.trans x2).trans x3).trans x4))⟩⟩⟩⟩
theorem ts_setA (g : GoodS G cl k Γ X) {o e : ME} {f : Str} {p v : Expr} {tp pos : Pos} (hn : notLc v = true) (hv : PE X v (TR X.K (evE G cl e))) (ho : PE X p (TR X.K (evE G cl o))) : PS X (.Assign [.Attribute p f tp] v pos) (TSR X.K (evS G cl (.setA o f e))) := by
  refine (ps_fld ho hv (swaps_ok hn (some (.Attribute p f tp)) pos.line X.env)).weak ?_
  rintro D σ H ⟨W, F, μ, ρ, S, fl, S', st, en, e1, p⟩
  obtain ⟨d1, S1, e2, e3⟩ := bnd_inv e1
  obtain ⟨d2, S2, e4, e5⟩ := bnd_inv e3
  obtain ⟨S3, e6, e7⟩ := lft_inv e5
  cases e7
  refine ⟨W, F, μ, ρ, S, d1, S1, st, en, e2, fun v1 H1 W1 μ1 x1 st1 r1 => ⟨W1, F, μ1, ρ, S1, d2, S2, st1, en.mono x1, e4, fun v2 H2 W2 μ2 x2 st2 r2 => ?_⟩⟩
  unfold setD at e6
  split at e6
  · split at e6
    · rename_i g' y fs hS
      split at e6
      · rename_i y' ms fl hC
        split at e6
        · rename_i hf
          obtain ⟨rfl, hf, hl⟩ := hf
          cases e6
          obtain ⟨a, hr, rfl⟩ := r2
          obtain ⟨dx, ws, h1, h2⟩ := st2.ob hr hS
          obtain ⟨_, c1, c2, _⟩ := g.toGood.gf.cls _ _ _ _ hC
          refine ⟨a, _, dx, ws, rfl, h1, c1, c2 f hf, by rw [h2.len]; exact hl, ?_⟩
          exact p σ _ W2 μ2 (x1.trans x2) (st2.put _ _ hr ⟨dx, _, upd_same, RepFS.put (r1.m x2) h2⟩) (en.mono (x1.trans x2))
        · cases e6
      · cases e6
    · cases e6
  · cases e6
theorem ts_augI (g : GoodS G cl k Γ X) {o i e : ME} {op : Operator} {p q v : Expr} {tp pos : Pos} (ok : okX q = true) (hv : PE X v (TR X.K (evE G cl e))) (ho : PE X p (TR X.K (evE G cl o))) (hi : PE X q (TR X.K (evE G cl i))) : PS X (.AugAssign (.Subscript p q tp) op v pos) (TSR X.K (evS G cl (.augI o i op e))) := by
  refine (ps_augS ho hi (get_any g.hu1) hv (ip_any op) (set_any g.hu1) fun ov iv new => aug_ok ok ov iv new).weak ?_
  rintro D σ H ⟨W, F, μ, ρ, S, fl, S', st, en, e1, p⟩
  obtain ⟨d1, S1, e2, e3⟩ := bnd_inv e1
  obtain ⟨d2, S2, e4, e5⟩ := bnd_inv e3
  obtain ⟨dx, e6, e7⟩ := lft_inv e5
  obtain ⟨d3, S3, e8, e9⟩ := bnd_inv e7
  obtain ⟨r, e10, e11⟩ := lft_inv e9
  obtain ⟨S4, e12, e13⟩ := lft_inv e11
  cases e13
  refine ⟨W, F, μ, ρ, S, d1, S1, st, en, e2, fun v1 H1 W1 μ1 x1 st1 r1 => ⟨W1, F, μ1, ρ, S1, d2, S2, st1, en.mono x1, e4, fun v2 H2 W2 μ2 x2 st2 r2 => ⟨W2, F, μ2, S2, d1, d2, dx, st2, r1.m x2, r2, e6, fun v3 H3 W3 μ3 x3 st3 r3 => ?_⟩⟩⟩
  refine ⟨W3, F, μ3, ρ, S2, d3, S3, st3, en.mono ((x1.trans x2).trans x3), e8, fun v4 H4 W4 μ4 x4 st4 r4 => ⟨W4, F, μ4, S3, dx, d3, r, st4, r3.m x4, r4, e10, fun v5 H5 W5 μ5 x5 st5 r5 => ?_⟩⟩
  exact ⟨W5, F, μ5, S3, d1, d2, r, _, st5, r1.m (((x2.trans x3).trans x4).trans x5), r2.m ((x3.trans x4).trans x5), r5, e12, fun H6 W6 μ6 x6 st6 => p σ H6 W6 μ6 (((((x1.trans x2).trans x3).trans x4).trans x5).trans x6) st6 (en.mono (((((x1.trans x2).trans x3).trans x4).trans x5).trans x6))⟩
theorem ts_if {c : ME} {a b : MSs} {t : Expr} {x y : List Stmt} {pos : Pos} (hc : PT X t (TTR X.K (evT G cl c))) (ha : PSs X x (TSR X.K (evSs G cl a))) (hb : PSs X y (TSR X.K (evSs G cl b))) : PS X (.If t x y pos) (TSR X.K (evS G cl (.ifS c a b))) := by
  refine (ps_if hc ha hb).weak ?_
  rintro D σ H ⟨W, F, μ, ρ, S, fl, S', st, en, e1, p⟩
  obtain ⟨t, S1, e2, e3⟩ := bnd_inv e1
  refine ⟨W, F, μ, ρ, S, t, S1, st, en, e2, fun H1 W1 μ1 x1 st1 => ?_⟩
  cases t with
  | true => rw [if_pos rfl] at e3 ⊢; exact ⟨W1, F, μ1, ρ, S1, fl, S', st1, en.mono x1, e3, p.ext x1⟩
  | false => rw [if_neg Bool.false_ne_true] at e3 ⊢; exact ⟨W1, F, μ1, ρ, S1, fl, S', st1, en.mono x1, e3, p.ext x1⟩
theorem ts_whl (g : GoodS G cl k Γ X) {c : ME} {b : MSs} {t : Expr} {x : List Stmt} {pos : Pos} (hc : PT X t (TTR X.K (evT G cl c))) (hb : PSs X x (TSR X.K (evSs G cl b))) : PS X (.While t x [] pos) (TSR X.K (evS G cl (.whl c b))) := by
  refine (ps_while g.passes hc hb).weak ?_
  rintro D σ H ⟨W, F, μ, ρ, S, fl, S', st, en, e1, p⟩
  exact while_reads st en e1 p
theorem ts_for (g : GoodS G cl k Γ X) {tg : MG} {it : MI} {b : MSs} {t i : Expr} {x : List Stmt} {pos : Pos} (ok : okX i = true) (ht : chkG tg Γ t = true) (hi : PI X t i (TIR X.K (evI G cl it))) (hb : PSs X x (TSR X.K (evSs G cl b))) : PS X (.For t i x [] pos) (TSR X.K (evS G cl (.forS tg it b))) := by
  refine (ps_for g.passes g.calm hi (chkG_ok g.toSy tg t ht) hb (fold_ok ok X.env)).weak ?_
  rintro D σ H ⟨W, F, μ, ρ, S, fl, S', st, en, e1, p⟩
  obtain ⟨w, S1, e2, e3⟩ := bnd_inv e1
  exact ⟨W, F, μ, ρ, S, w, S1, st, en, e2, fun J H1 W1 μ1 x1 st1 wk => for_reads st1 (en.mono x1) wk e3 (p.ext x1)⟩
theorem ts_ret {e : ME} {v : Expr} {pos : Pos} (hv : PE X v (TR X.K (evE G cl e))) : PS X (.Return (some v) pos) (TSR X.K (evS G cl (.ret e))) := by
  refine (ps_ret hv).weak ?_
  rintro D σ H ⟨W, F, μ, ρ, S, fl, S', st, en, e1, p⟩
  obtain ⟨d, S1, e2, e3⟩ := bnd_inv e1
  cases e3
  exact ⟨W, F, μ, ρ, S, d, _, st, en, e2, p⟩
theorem ts_ex {e : ME} {v : Expr} {pos : Pos} (hn : notLc v = true) (hv : PE X v (TR X.K (evE G cl e))) : PS X (.Expr v pos) (TSR X.K (evS G cl (.ex e))) := by
  refine (ps_expr hv (swaps_ok hn _ _ _)).weak ?_
  rintro D σ H ⟨W, F, μ, ρ, S, fl, S', st, en, e1, p⟩
  obtain ⟨d, S1, e2, e3⟩ := bnd_inv e1
  cases e3
  exact ⟨W, F, μ, ρ, S, d, _, st, en, e2, fun v H1 W1 μ1 x1 st1 _ => p σ H1 W1 μ1 x1 st1 (en.mono x1)⟩
theorem tss_cons {s : MS} {ss : MSs} {x : Stmt} {xs : List Stmt} (h : PS X x (TSR X.K (evS G cl s))) (hs : PSs X xs (TSR X.K (evSs G cl ss))) : PSs X (x :: xs) (TSR X.K (evSs G cl (.cons s ss))) := by
  refine (pss_cons h hs).weak ?_
  rintro D σ H ⟨W, F, μ, ρ, S, fl, S', st, en, e1, p⟩
  obtain ⟨fl1, S1, e2, e3⟩ := bnd_inv e1
  refine ⟨W, F, μ, ρ, S, fl1, S1, st, en, e2, ?_⟩
  cases fl1 with
  | nx ρ1 => exact fun σ1 H1 W1 μ1 x1 st1 en1 => ⟨W1, F, μ1, ρ1, S1, fl, S', st1, en1, e3, p.ext x1⟩
  | bk ρ1 => cases e3; exact p
  | rt d => cases e3; exact p
theorem tss_nil : PSs X [] (TSR X.K (evSs G cl .nil)) := pss_nil.weak (by
  rintro D σ H ⟨W, F, μ, ρ, S, fl, S', st, en, e1, p⟩
  cases e1
  exact p σ H W μ Ext.refl st en)
/-- a comprehension's text is a comprehension -/
theorem lc_only {m : ME} {Γ : Syn} {elt : Expr} {gs : List Comprehension} {scope : Scope} {pos : Pos} (h : chkE G m Γ (.ListComp elt gs scope pos) = true) : (∃ mu vs me mg mi mc, m = .lc mu vs me mg mi mc) ∨ ∃ mu vs me mg mi mc vs1 mg1 mi1 mc1, m = .lc2 mu vs me mg mi mc vs1 mg1 mi1 mc1 := by
  cases m <;> first | exact .inl ⟨_, _, _, _, _, _, rfl⟩ | exact .inr ⟨_, _, _, _, _, _, _, _, _, _, rfl⟩ | exact absurd (show false = true from h) Bool.false_ne_true
end
theorem asgB_other {Γ : Syn} {t v : Expr} (h1 : ∀ y py e gs s p, ¬ (t = .Name y py ∧ v = .ListComp e gs s p)) (h2 : ∀ ts n p vs m q, ¬ (t = .Tuple ts n p ∧ v = .Tuple vs m q)) (h3 : ∀ ts n p e gs s q, ¬ (t = .Tuple ts n p ∧ v = .ListComp e gs s q)) (h : asgB Γ t v = true) : notLc v = true := by
  unfold asgB at h
  split at h
  · exact absurd ⟨rfl, rfl⟩ (h1 _ _ _ _ _ _)
  · exact absurd ⟨rfl, rfl⟩ (h2 _ _ _ _ _ _)
  · exact absurd ⟨rfl, rfl⟩ (h3 _ _ _ _ _ _ _)
  · exact h
mutual
theorem chkS_ok {G : GT} {cl : Nat → List D → Sto → Rs D} {k : Nat} {Γ : Syn} {X : Cx} (g : GoodS G cl k Γ X) : ∀ (m : MS) (st : Stmt), chkS G m Γ st = true → PS X st (TSR X.K (evS G cl m))
  | .asg tg e, st, h => by
    cases st <;> try (exact absurd (show false = true from h) Bool.false_ne_true)
    rename_i ts v pos
    match ts, h with
    | [t], h =>
      obtain ⟨h1, h2⟩ := bk (show (asgB Γ t v && (chkG tg Γ t && chkE G e Γ v)) = true from h)
      obtain ⟨h3, h4⟩ := bk h2
      by_cases c1 : ∃ y py e gs s p, t = .Name y py ∧ v = .ListComp e gs s p
      · obtain ⟨y, py, e', gs, s, p, rfl, rfl⟩ := c1
        by_cases qc : Γ.sc.names.lookup y = some .cell
        · exact ts_asgC g (sw_cell (by rw [g.sc]; exact qc)) asg_none_name h3 (chkE_ok e _ g.toGood h4).pe
        obtain ⟨q1, q2⟩ := bk (show (decide (Γ.sc.names.lookup y = some .local) && ((py.line == p.line) && !(s.names.any fun (n, k) => n == y && (k == .local || k == .cell)))) = true by
          have h1 : ((decide (Γ.sc.names.lookup y = some .local) && ((py.line == p.line) && !(s.names.any fun (n, k) => n == y && (k == .local || k == .cell)))) || decide (Γ.sc.names.lookup y = some .cell)) = true := h1
          rw [decide_eq_false qc, Bool.or_false] at h1
          exact h1)
        obtain ⟨q3, q4⟩ := bk q2
        cases tg with
        | tup _ => exact absurd (show false = true from h3) Bool.false_ne_true
        | name i =>
         rcases lc_only h4 with ⟨mu, vs, me, mg, mi, mc, rfl⟩ | ⟨mu, vs, me, mg, mi, mc, vs1, mg1, mi1, mc1, rfl⟩
         · match gs, h4 with
          | [⟨t', it', ifs, a⟩], h4 =>
            obtain ⟨a1, a2⟩ := bk (show (decide (a = 0) && (okX it' && (blkC Γ.N Γ.sc s (ownOf Γ.N vs) && ((slG mg).all (fun j => decide (j ∈ vs)) &&
              (chkG mg (Γ.blk s) t' && (chkI G mi Γ it' && (chkCs G mc (Γ.blk s) ifs && chkE G me (Γ.blk s) e'))))))) = true from h4)
            obtain ⟨a3, a4⟩ := bk a2
            obtain ⟨a5, a6⟩ := bk a4
            obtain ⟨a7, a8⟩ := bk a6
            obtain ⟨a9, a10⟩ := bk a8
            obtain ⟨a11, a12⟩ := bk a10
            obtain ⟨a13, a14⟩ := bk a12
            cases (dec a1)
            exact ts_lc g h3 (dec q1) q3 (by simpa using q4) (fun j hj => dec (List.all_eq_true.mp a7 j hj)) a3 a5 (chkI_ok mi it' g.toGood a11)
              ⟨fun s H C cells fp => chkG_ok (g.toGood.blk s H C cells fp).toSy mg t' a9, fun s H C cells fp => chkCs_ok mc ifs (g.toGood.blk s H C cells fp) a13, fun s H C cells fp => (chkE_ok me e' (g.toGood.blk s H C cells fp) a14).pe⟩
          | [], h4 => exact absurd (show false = true from h4) Bool.false_ne_true
          | ⟨_, _, _, _⟩ :: _ :: _, h4 => exact absurd (show false = true from h4) Bool.false_ne_true
         · match gs, h4 with
          | [⟨t', it', ifs, a⟩, ⟨t1, i1, ifs1, a1⟩], h4 =>
            obtain ⟨h1, h2⟩ := bk (show (decide (a = 0) && (decide (a1 = 0) && (okX it' && (okX i1 && (blkC Γ.N Γ.sc s (ownOf Γ.N vs) && (vs1.all (fun j => decide (j ∈ vs)) && ((slG mg).all (fun j => decide (j ∈ vs)) && ((slG mg1).all (fun j => decide (j ∈ vs1)) &&
              (chkG mg (Γ.blk s) t' && (chkI G mi Γ it' && (chkCs G mc (Γ.blk s) ifs && (chkG mg1 (Γ.blk s) t1 && (chkI G mi1 (Γ.blk s) i1 && (chkCs G mc1 (Γ.blk s) ifs1 && chkE G me (Γ.blk s) e')))))))))))))) = true from h4)
            obtain ⟨h3', h4⟩ := bk h2
            obtain ⟨h5, h6⟩ := bk h4
            obtain ⟨h7, h8⟩ := bk h6
            obtain ⟨h9, h10⟩ := bk h8
            obtain ⟨h11, h12⟩ := bk h10
            obtain ⟨h13, h14⟩ := bk h12
            obtain ⟨h15, h16⟩ := bk h14
            obtain ⟨h17, h18⟩ := bk h16
            obtain ⟨h19, h20⟩ := bk h18
            obtain ⟨h21, h22⟩ := bk h20
            obtain ⟨h23, h24⟩ := bk h22
            obtain ⟨h25, h26⟩ := bk h24
            obtain ⟨h27, h28⟩ := bk h26
            cases (dec h1)
            cases (dec h3')
            exact ts_lc2 g h3 (dec q1) q3 (by simpa using q4) (fun j hj => dec (List.all_eq_true.mp h11 j hj)) (fun j hj => dec (List.all_eq_true.mp h13 j hj)) (fun j hj => dec (List.all_eq_true.mp h15 j hj)) h5 h7 h9 (chkI_ok mi it' g.toGood h19)
              ⟨fun s H C cells fp => chkG_ok (g.toGood.blk s H C cells fp).toSy mg t' h17, fun s H C cells fp => chkCs_ok mc ifs (g.toGood.blk s H C cells fp) h21, fun s H C cells fp => chkG_ok (g.toGood.blk s H C cells fp).toSy mg1 t1 h23, fun s H C cells fp => chkI_ok mi1 i1 (g.toGood.blk s H C cells fp) h25, fun s H C cells fp => chkCs_ok mc1 ifs1 (g.toGood.blk s H C cells fp) h27, fun s H C cells fp => (chkE_ok me e' (g.toGood.blk s H C cells fp) h28).pe⟩
          | [], h4 => exact absurd (show false = true from h4) Bool.false_ne_true
          | [⟨_, _, _, _⟩], h4 => exact absurd (show false = true from h4) Bool.false_ne_true
          | ⟨_, _, _, _⟩ :: ⟨_, _, _, _⟩ :: _ :: _, h4 => exact absurd (show false = true from h4) Bool.false_ne_true
      · by_cases c2 : ∃ ts n p vs m q, t = .Tuple ts n p ∧ v = .Tuple vs m q
        · obtain ⟨ts, n, p, vs, m, q, rfl, rfl⟩ := c2
          exact ts_asg g rfl (noSw_ok g h1) h3 (chkE_ok e _ g.toGood h4).pe
        · by_cases c3 : ∃ ts n p e gs s q, t = .Tuple ts n p ∧ v = .ListComp e gs s q
          · obtain ⟨ts, n, p, e', gs, s, q, rfl, rfl⟩ := c3
            exact ts_asgC g rfl (asg_none_val fun vs m q e => by cases e) h3 (chkE_ok e _ g.toGood h4).pe
          have hn := asgB_other (fun y py e gs s p z => c1 ⟨y, py, e, gs, s, p, z⟩) (fun ts n p vs m q z => c2 ⟨ts, n, p, vs, m, q, z⟩) (fun ts n p e gs s q z => c3 ⟨ts, n, p, e, gs, s, q, z⟩) h1
          have hw : swappedStores [t] v X.env = pure none := by
            cases t <;> try (cases tg <;> exact absurd (show false = true from h3) Bool.false_ne_true)
            · exact asg_none_name
            · exact asg_none_val fun vs m q e => c2 ⟨_, _, _, vs, m, q, rfl, e⟩
          exact ts_asg g hn hw h3 (chkE_ok e _ g.toGood h4).pe
    | [], h => exact absurd (show false = true from h) Bool.false_ne_true
    | _ :: _ :: _, h => exact absurd (show false = true from h) Bool.false_ne_true
  | .par2 i j a b, st, h => by
    unfold chkS at h
    split at h
    · rename_i x px y py _ _ u v _ _ _
      obtain ⟨h1, h2⟩ := bk h
      obtain ⟨h3, h4⟩ := bk h2
      obtain ⟨h5, h6⟩ := bk h4
      obtain ⟨h7, h8⟩ := bk h6
      obtain ⟨h9, h10⟩ := bk h8
      obtain ⟨h11, h12⟩ := bk h10
      obtain ⟨h13, h14⟩ := bk h12
      obtain ⟨h15, h16⟩ := bk h14
      exact ts_par2 g h1 h3 h5 (dec h7) (dec h9) h11 h13 (chkE_ok a _ g.toGood h15).pe (chkE_ok b _ g.toGood h16).pe
    · cases h
  | .par3 i j l a b c, st, h => by
    unfold chkS at h
    split at h
    · obtain ⟨h1, h2⟩ := bk h
      obtain ⟨h3, h4⟩ := bk h2
      obtain ⟨h5, h6⟩ := bk h4
      obtain ⟨h7, h8⟩ := bk h6
      obtain ⟨h9, h10⟩ := bk h8
      obtain ⟨h11, h12⟩ := bk h10
      obtain ⟨h13, h14⟩ := bk h12
      obtain ⟨h15, h16⟩ := bk h14
      obtain ⟨h17, h18⟩ := bk h16
      obtain ⟨h19, h20⟩ := bk h18
      obtain ⟨h21, h22⟩ := bk h20
      exact ts_par3 g h1 h3 h5 h7 (dec h9) (dec h11) h13 h15 h17 (chkE_ok a _ g.toGood h19).pe (chkE_ok b _ g.toGood h21).pe (chkE_ok c _ g.toGood h22).pe
    · cases h
  | .aug i op e, st, h => by
    unfold chkS at h
    split at h
    · obtain ⟨h1, h2⟩ := bk h
      obtain ⟨h3, h4⟩ := bk h2
      cases (dec h3)
      exact ts_aug g h1 (chkE_ok e _ g.toGood h4).pe
    · cases h
  | .setI o i e, st, h => by
    unfold chkS at h
    split at h
    · obtain ⟨h1, h2⟩ := bk h
      obtain ⟨h3, h4⟩ := bk h2
      obtain ⟨h5, h6⟩ := bk h4
      obtain ⟨h7, h8⟩ := bk h6
      exact ts_setI g h1 h3 (chkE_ok e _ g.toGood h5).pe (chkE_ok o _ g.toGood h7).pe (chkE_ok i _ g.toGood h8).pe
    · cases h
  | .setA o f e, st, h => by
    unfold chkS at h
    split at h
    · obtain ⟨h1, h2⟩ := bk h
      obtain ⟨h3, h4⟩ := bk h2
      obtain ⟨h5, h6⟩ := bk h4
      cases (dec h1)
      exact ts_setA g h3 (chkE_ok e _ g.toGood h5).pe (chkE_ok o _ g.toGood h6).pe
    · cases h
  | .augI o i op e, st, h => by
    unfold chkS at h
    split at h
    · obtain ⟨h1, h2⟩ := bk h
      obtain ⟨h3, h4⟩ := bk h2
      obtain ⟨h5, h6⟩ := bk h4
      obtain ⟨h7, h8⟩ := bk h6
      cases (dec h3)
      exact ts_augI g h1 (chkE_ok e _ g.toGood h5).pe (chkE_ok o _ g.toGood h7).pe (chkE_ok i _ g.toGood h8).pe
    · cases h
  | .ifS c a b, st, h => by
    unfold chkS at h
    split at h
    · obtain ⟨h1, h2⟩ := bk h
      obtain ⟨h3, h4⟩ := bk h2
      exact ts_if (chkE_ok c _ g.toGood h1).pt (chkSs_ok g a _ h3) (chkSs_ok g b _ h4)
    · cases h
  | .whl c b, st, h => by
    unfold chkS at h
    split at h
    · obtain ⟨h1, h2⟩ := bk h
      exact ts_whl g (chkE_ok c _ g.toGood h1).pt (chkSs_ok g b _ h2)
    · cases h
  | .forS tg it b, st, h => by
    unfold chkS at h
    split at h
    · obtain ⟨h1, h2⟩ := bk h
      obtain ⟨h3, h4⟩ := bk h2
      obtain ⟨h5, h6⟩ := bk h4
      exact ts_for g h1 h3 (chkI_ok it _ g.toGood h5) (chkSs_ok g b _ h6)
    · cases h
  | .ret e, st, h => by
    unfold chkS at h
    split at h
    · exact ts_ret (chkE_ok e _ g.toGood h).pe
    · cases h
  | .retN, st, h => by
    unfold chkS at h
    split at h
    · refine ps_retN.weak ?_
      rintro D σ H ⟨W, F, μ, ρ, S, fl, S', st, en, e1, p⟩
      cases e1
      exact p _ H W μ Ext.refl st rfl
    · cases h
  | .ex e, st, h => by
    unfold chkS at h
    split at h
    · obtain ⟨h1, h2⟩ := bk h
      exact ts_ex h1 (chkE_ok e _ g.toGood h2).pe
    · cases h
  | .pass, st, h => by
    unfold chkS at h
    split at h
    · refine ps_pass.weak ?_
      rintro D σ H ⟨W, F, μ, ρ, S, fl, S', st, en, e1, p⟩
      cases e1
      exact p σ H W μ Ext.refl st en
    · cases h
  | .brk, st, h => by
    unfold chkS at h
    split at h
    · refine ps_break.weak ?_
      rintro D σ H ⟨W, F, μ, ρ, S, fl, S', st, en, e1, p⟩
      cases e1
      exact p σ H W μ Ext.refl st en
    · cases h
  | .nev, st, h => ps_never.weak (by
    rintro D σ H ⟨W, F, μ, ρ, S, fl, S', st, en, e1, p⟩
    cases e1)
theorem chkSs_ok {G : GT} {cl : Nat → List D → Sto → Rs D} {k : Nat} {Γ : Syn} {X : Cx} (g : GoodS G cl k Γ X) : ∀ (ms : MSs) (sts : List Stmt), chkSs G ms Γ sts = true → PSs X sts (TSR X.K (evSs G cl ms))
  | .nil, sts, h => by
    cases sts with
    | nil => exact tss_nil
    | cons _ _ => exact absurd (show false = true from h) Bool.false_ne_true
  | .cons m ms, sts, h => by
    cases sts with
    | nil => exact absurd (show false = true from h) Bool.false_ne_true
    | cons x xs =>
      obtain ⟨h1, h2⟩ := bk (show (chkS G m Γ x && chkSs G ms Γ xs) = true from h)
      exact tss_cons (chkS_ok g m x h1) (chkSs_ok g ms xs h2)
end
end Rw

/-! M13: defs, the program, the law's end -/
namespace Rw
open PySem PySem.Spec PyProof.Rows L2

/-! ### parameters -/
theorem zip_look : ∀ {ps : List Str} {us : List Value} {n : Str}, n ∈ ps → us.length = ps.length → ((ps.zip us).lookup n).isSome = true
  | p :: ps, u :: us, n, h, hl => by
    show (List.lookup n ((p, u) :: ps.zip us)).isSome = true
    rw [List.lookup_cons]
    cases c : n == p with
    | true => rfl
    | false =>
      rcases List.mem_cons.mp h with rfl | h
      · simp at c
      · exact zip_look h (by simpa using hl)
  | p :: ps, [], n, h, hl => by simp at hl
theorem fm_congr {α β : Type} {f g : α → Option β} : ∀ {l : List α}, (∀ x ∈ l, f x = g x) → l.filterMap f = l.filterMap g
  | [], _ => rfl
  | a :: l, h => by
    rw [List.filterMap_cons, List.filterMap_cons, h a List.mem_cons_self, fm_congr fun x hx => h x (List.mem_cons_of_mem _ hx)]
theorem zip_fm : ∀ {ps : List Str} {us : List Value}, ps.Nodup → us.length = ps.length → (ps.filterMap fun n => ((ps.zip us).lookup n).map fun v => (n, v)) = ps.zip us
  | [], _, _, _ => rfl
  | p :: ps, [], _, hl => by simp at hl
  | p :: ps, u :: us, nd, hl => by
    obtain ⟨h1, h2⟩ := List.nodup_cons.mp nd
    have ih := zip_fm h2 (show us.length = ps.length by simpa using hl)
    have e1 : List.lookup p ((p, u) :: ps.zip us) = some u := by simp [List.lookup_cons]
    have e2 : (ps.filterMap fun n => (((p, u) :: ps.zip us).lookup n).map fun v => (n, v)) = ps.filterMap fun n => ((ps.zip us).lookup n).map fun v => (n, v) := by
      refine fm_congr fun n hn => ?_
      have : (n == p) = false := by
        rw [beq_eq_false_iff_ne]
        rintro rfl
        exact h1 hn
      simp only [List.lookup_cons, this]
    show ((p :: ps).filterMap fun n => (List.lookup n ((p, u) :: ps.zip us)).map fun v => (n, v)) = (p, u) :: ps.zip us
    rw [List.filterMap_cons, e1]
    simp only [Option.map_some]
    rw [e2, ih]
theorem bind_ok {x qual : Str} {as : List Arg} {body : List Stmt} {scope : Scope} {kV doc pm : Value} {an : Option Addr} {cdv ct : Value} {us : List Value} (nd : (as.map (·.arg)).Nodup) (hl : us.length = (as.map (·.arg)).length) :
    bindArgs (PySem.W.fnOf x qual ⟨[], as, none, [], [], none, []⟩ body scope .none kV doc pm an cdv ct) ⟨us, []⟩ = pure ((as.map (·.arg)).zip us) := by
  have hm : ((as.map (·.arg)).filter fun n => ((as.map (·.arg)).zip us |>.lookup n).isNone) = [] := by
    rw [List.filter_eq_nil_iff]
    intro n hn
    have := zip_look hn hl
    cases c : ((as.map (·.arg)).zip us).lookup n with
    | none => rw [c] at this; cases this
    | some _ => simp
  have hsi : seqItems? Value.none = pure none := rfl
  have hf := zip_fm nd hl
  have hn0 : (as.map (·.arg)).take (as.map (·.arg)).length = as.map (·.arg) := List.take_of_length_le (Nat.le_refl _)
  have hg : ¬ us.length > (as.map (·.arg)).length := by omega
  unfold bindArgs
  simp only [PySem.W.fnOf, List.map_nil, List.nil_append, List.append_nil, List.forIn_nil, pure_bind, hsi, Option.getD_none]
  generalize hps : as.map (·.arg) = ps at hm hf hn0 hg hl nd ⊢
  have hg' : decide (us.length > ps.length) = false := decide_eq_false hg
  have e0 : (#[] : Array Value).toList = [] := rfl
  simp only [hg', Bool.false_and, Bool.false_eq_true, if_false, e0, List.drop_nil, List.length_nil, Nat.sub_zero, hn0, hm, List.isEmpty_nil, Bool.not_true, List.zip_nil_right, List.forIn_nil, pure_bind, hf]
theorem binds_of {K : PySem.W.Frag} {x qual : Str} {as : List Arg} {body : List Stmt} {scope : Scope} {kws : List (Str × V)} {f : Addr} {fd : FuncData} (F : FunD K x qual ⟨[], as, none, [], [], none, []⟩ body scope [] kws f fd) (nd : (as.map (·.arg)).Nodup) : Binds K fd (as.map (·.arg)) [] :=
  F.bindsN fun _ _ _ _ _ _ us hl => bind_ok nd hl

/-! ### what a call leaves -/
section
variable {K : PySem.W.Frag} {W W' F : Hp} {μ μ' : List Addr} {S S1 : Sto} {H H0 : Hp}
mutual
theorem Rep.down (x : Ext W μ W' μ') : ∀ (d : D) (v0 v : V), Rep K W μ d v0 → Rep K W' μ' d v → Rep K W' μ d v
  | .non, _, _, _, h => h
  | .bl _, _, _, _, h => h
  | .int _, _, _, _, h => h
  | .str _, _, _, _, h => h
  | .ty _, _, _, _, h => h
  | .ref r, _, _, ⟨a0, h0, _⟩, ⟨a, h, e⟩ => by
    have q := x.m r a0 h0
    have q2 : a = a0 := Option.some.inj (h.symm.trans q)
    exact ⟨a, by rw [q2]; exact h0, e⟩
  | .tup ds, _, _, ⟨_, vs0, _, _, r0⟩, ⟨a, vs, e, h, r⟩ => ⟨a, vs, e, h, Reps.down x ds vs0 vs r0 r⟩
  | .lst ds, _, _, ⟨_, vs0, _, _, r0⟩, ⟨a, vs, e, h, r⟩ => ⟨a, vs, e, h, Reps.down x ds vs0 vs r0 r⟩
  | .flst ds, _, _, ⟨_, vs0, _, _, r0⟩, ⟨a, vs, e, h, r⟩ => ⟨a, vs, e, h, Reps.down x ds vs0 vs r0 r⟩
theorem Reps.down (x : Ext W μ W' μ') : ∀ (ds : List D) (vs0 vs : List V), Reps K W μ ds vs0 → Reps K W' μ' ds vs → Reps K W' μ ds vs
  | [], _, _, _, h => h
  | d :: ds, _, _, ⟨v0, r0, _, h0, q0⟩, ⟨v, r, e, h, q⟩ => ⟨v, r, e, Rep.down x d v0 v h0 h, Reps.down x ds r0 r q0 q⟩
end
mutual
theorem Rep.below (x : Ext W μ W' μ') : ∀ (d : D) (v : V), below μ.length d = true → Rep K W' μ' d v → Rep K W' μ d v
  | .non, _, _, h => h
  | .bl _, _, _, h => h
  | .int _, _, _, h => h
  | .str _, _, _, h => h
  | .ty _, _, _, h => h
  | .ref r, _, b, ⟨a, h, e⟩ => by
    have hl : r < μ.length := of_decide_eq_true b
    have h0 : μ[r]? = some μ[r] := by simp [hl]
    have q := x.m r _ h0
    have q2 : a = μ[r] := Option.some.inj (h.symm.trans q)
    exact ⟨a, by rw [q2]; exact h0, e⟩
  | .tup ds, _, b, ⟨a, vs, e, h, r⟩ => ⟨a, vs, e, h, Reps.below x ds vs b r⟩
  | .lst ds, _, b, ⟨a, vs, e, h, r⟩ => ⟨a, vs, e, h, Reps.below x ds vs b r⟩
  | .flst ds, _, b, ⟨a, vs, e, h, r⟩ => ⟨a, vs, e, h, Reps.below x ds vs b r⟩
theorem Reps.below (x : Ext W μ W' μ') : ∀ (ds : List D) (vs : List V), belows μ.length ds = true → Reps K W' μ' ds vs → Reps K W' μ ds vs
  | [], _, _, h => h
  | d :: ds, _, b, ⟨v, r, e, h, q⟩ => by
    obtain ⟨b1, b2⟩ := bk (show (Rw.below μ.length d && belows μ.length ds) = true from b)
    exact ⟨v, r, e, Rep.below x d v b1 h, Reps.below x ds r b2 q⟩
end
theorem CellAt.down (x : Ext W μ W' μ') {a : Addr} : ∀ {c : Cell}, CellAt K W μ H0 a c → CellAt K W' μ' H a c → CellAt K W' μ H a c
  | .lst ds, ⟨vs0, _, r0⟩, ⟨vs, h, r⟩ => ⟨vs, h, Reps.down x ds vs0 vs r0 r⟩
  | .dk kvs, ⟨ws0, _, r0⟩, ⟨ws, h, r⟩ => ⟨ws, h, r.1, Reps.down x _ _ _ r0.2 r.2⟩
  | .ob _ _ fs, ⟨_, ws0, _, r0⟩, ⟨dx, ws, h, r⟩ => ⟨dx, ws, h, r.1, Reps.down x _ _ _ r0.2 r.2⟩
theorem prune_ok (st0 : Stt K W F μ S H0) (x : Ext W μ W' μ') (st : Stt K W' F μ' S1 H) {d : D} {v : V} (r : Rep K W' μ' d v) : (prune S d S1).1 = d ∧ ∃ μ2, Ext W μ W' μ2 ∧ Stt K W' F μ2 (prune S d S1).2 H ∧ Rep K W' μ2 d v := by
  unfold prune
  split
  · rename_i c
    refine ⟨rfl, μ, ⟨x.w, fun _ _ h => h⟩, ⟨st.sub, st.frm, st.dis, st0.len, st0.nd, fun i a h => st.apart i a (x.m i a h), fun i a cc h hc => ?_⟩, Rep.below x d v (by rw [st0.len]; exact c.2) r⟩
    have h1 : S1[i]? = some cc := by
      have hl : i < S.length := by rw [← st0.len]; exact (List.getElem?_eq_some_iff.mp h).1
      have := congrArg (·[i]?) c.1
      simp only [List.getElem?_take_of_lt hl] at this
      rw [this]; exact hc
    exact (st0.cel i a cc h hc).down x (st.cel i a cc (x.m i a h) h1)
  · exact ⟨rfl, μ', x, st, r⟩
end

/-! ### defs -/
def chkD (G : GT) (f : Fn) (N : List Str) (pa : Arguments) (scope : Scope) (body : List Stmt) : Bool :=
  (match pa with
    | ⟨[], as, none, [], [], none, []⟩ => decide (N.take (as.map (·.arg)).length = as.map (·.arg)) && ((as.map (·.arg)).all (fun x => decide (scope.names.lookup x = some .local) || decide (scope.names.lookup x = some .cell)) && (decide (as.map (·.arg)).Nodup && decide (f.np = as.length)))
    | _ => false) && (decide (scope.kind = .function) && (!scope.isCoroutine && (!scope.isGenerator && (decide N.Nodup && (scope.names.all (fun y => decide (y.2 ≠ .free)) && (decide (f.nl = N.length) && chkSs G f.body ⟨N, scope, fun _ => true⟩ body))))))
theorem env_start {K : PySem.W.Frag} {W : Hp} {μ : List Addr} {ds : List D} {vs : List V} (r : Reps K W μ ds vs) (N : List Str) (n : Nat) (hn : n = N.length) : EnvR K W μ (ds.map some ++ List.replicate (n - ds.length) none) (L2.start N vs) := by
  subst hn
  have hl := r.length
  unfold L2.start
  refine ⟨by simp [hl], fun i d e => ?_⟩
  by_cases hi : i < ds.length
  · rw [List.getElem?_append_left (by simpa using hi), List.getElem?_map] at e
    cases c : ds[i]? with
    | none => rw [c] at e; cases e
    | some d' =>
      rw [c] at e
      cases e
      obtain ⟨v, h1, h2⟩ := r.get c
      exact ⟨v, by rw [List.getElem?_append_left (by simp; omega), List.getElem?_map, h1]; rfl, h2⟩
  · rw [List.getElem?_append_right (by simp; omega), List.getElem?_replicate] at e
    split at e <;> cases e
theorem fn_ok {P : Program} {w : World} {K : PySem.W.Frag} {mg : Str → Option Value} {base : Heap} {G : GT} {k g : Nat} {x y qual : Str} {q : GK} {f : Fn} {a : Addr} {fd : FuncData} {as : List Arg} {N : List Str} {scope : Scope} {body : List Stmt}
    (gf : GF P w K mg base G k (callK G k)) (hg : G[g]? = some (y, q)) (hq : q.fn? = some f) (FD : FunD K x qual ⟨[], as, none, [], [], none, []⟩ body scope [] [] a fd) (h : chkD G f N ⟨[], as, none, [], [], none, []⟩ scope body = true) :
    FnOk P w K mg base CX0 (2 * (k + 1)) a fd (as.map (·.arg)) (spOf K f.np (callK G (k + 1) g)) := by
  show FnOk P w K mg base CX0 (2 * k + 1 + 1) a fd (as.map (·.arg)) (spOf K f.np (callK G (k + 1) g))
  obtain ⟨h1, h2⟩ := bk h
  obtain ⟨a1, a2⟩ := bk (show (decide (N.take (as.map (·.arg)).length = as.map (·.arg)) && ((as.map (·.arg)).all (fun x => decide (scope.names.lookup x = some .local) || decide (scope.names.lookup x = some .cell)) && (decide (as.map (·.arg)).Nodup && decide (f.np = as.length)))) = true from h1)
  obtain ⟨a3, a4⟩ := bk a2
  obtain ⟨a5, a6⟩ := bk a4
  obtain ⟨b1, b2⟩ := bk h2
  obtain ⟨b3, b4⟩ := bk b2
  obtain ⟨b5, b6⟩ := bk b4
  obtain ⟨b7, b8⟩ := bk b6
  obtain ⟨b9, b10⟩ := bk b8
  obtain ⟨b11, b12⟩ := bk b10
  have S : FnScope N (as.map (·.arg)) scope := ⟨dec b1, by simpa using b3, by simpa using b5, dec b7, dec a1, fun x hx => by
    have := List.all_eq_true.mp a3 x hx
    rcases Bool.or_eq_true_iff.mp this with q | q
    · exact .inl (dec q)
    · exact .inr (dec q), fun y hy => dec (List.all_eq_true.mp b9 y hy)⟩
  refine FD.ok S (fun vs H Q E q => by rw [q.1, dec a6, List.length_map]) fun cdv A outer s H vs Q E hr q => ?_
  have gd : GoodS G (callK G k) k ⟨N, scope, fun _ => true⟩ (cxOf CX0 P w K mg base N qual scope a cdv A outer s H E).nox :=
    ⟨⟨⟨rfl, S.nd, rfl, rfl, rfl⟩, rfl, hr, gf⟩, dec b1⟩
  refine ⟨_, PSs.nox (chkSs_ok gd f.body body b12), ?_⟩
  obtain ⟨hl, W, F, μ, S0, ds, d, S', st, rd, e, p⟩ := q
  simp only [callK, hg, hq] at e
  split at e
  · obtain ⟨fl, S1, e1, e2⟩ := bnd_inv e
    refine ⟨W, F, μ, _, S0, fl, S1, st, env_start rd N f.nl (dec b11), e1, ?_⟩
    cases fl with
    | nx ρ =>
      have e3 := Option.some.inj e2
      intro σ H1 W1 μ1 x1 st1 _
      obtain ⟨q1, μ2, q2, q3, q4⟩ := prune_ok (d := .non) (v := .non) st x1 st1 rfl
      rw [e3] at q1 q3
      cases q1
      exact p _ H1 W1 μ2 q2 q3 q4
    | bk ρ => cases e2
    | rt d' =>
      have e3 := Option.some.inj e2
      intro v H1 W1 μ1 x1 st1 r1
      obtain ⟨q1, μ2, q2, q3, q4⟩ := prune_ok st x1 st1 r1
      rw [e3] at q1 q3
      cases q1
      exact p _ H1 W1 μ2 q2 q3 q4
  · cases e

/-! ### the program -/
inductive TK where
  | fn (i : Nat) (N : List Str) (f : Fn) | blt | con (d : D) | met (c m q : Str) (i j : Nat) (N : List Str) (f : Fn) | cls (ms : List (Str × Nat)) (fl : List Str)
abbrev Tab := List (Str × TK)
def TK.gk : TK → GK
  | .fn _ _ f => .fn f
  | .blt => .blt
  | .con d => .con d
  | .met _ _ _ _ _ _ f => .met f
  | .cls ms fl => .cls ms fl
def gtOf (T : Tab) : GT := T.map fun e => (e.1, e.2.gk)
mutual
def repB (K : PySem.W.Frag) : D → Value → Bool
  | .int i, .int j _ => decide (i = j)
  | .bl b, .bool c => decide (b = c)
  | .str s, .str t _ => decide (s = t)
  | .non, .none => true
  | .tup ds, .ref a => (match K.lookup a with
    | some ⟨.type c, none, .seq its _, _⟩ => decide (c = "tuple") && (decide (its.size ≤ sizeLine) && repsB K ds its.toList)
    | _ => false)
  | _, _ => false
def repsB (K : PySem.W.Frag) : List D → List Value → Bool
  | [], [] => true
  | d :: ds, u :: us => repB K d u && repsB K ds us
  | _, _ => false
end
mutual
theorem repB_ok {K : PySem.W.Frag} : ∀ (d : D) (u : Value), repB K d u = true → ∃ v, RelV v u ∧ ∀ W μ, Rep K W μ d v
  | .int i, u, h => by
    cases u <;> first | exact absurd (show false = true from h) Bool.false_ne_true | skip
    cases (dec (show decide (i = _) = true from h))
    exact ⟨.int i, ⟨_, rfl⟩, fun _ _ => rfl⟩
  | .bl i, u, h => by
    cases u <;> first | exact absurd (show false = true from h) Bool.false_ne_true | skip
    cases (dec (show decide (i = _) = true from h))
    exact ⟨.bl i, rfl, fun _ _ => rfl⟩
  | .str i, u, h => by
    cases u <;> first | exact absurd (show false = true from h) Bool.false_ne_true | skip
    cases (dec (show decide (i = _) = true from h))
    exact ⟨.str i, ⟨_, rfl⟩, fun _ _ => rfl⟩
  | .non, u, h => by
    cases u <;> first | exact absurd (show false = true from h) Bool.false_ne_true | skip
    exact ⟨.non, rfl, fun _ _ => rfl⟩
  | .tup ds, u, h => by
    cases u <;> first | exact absurd (show false = true from h) Bool.false_ne_true | skip
    rename_i a
    have h : (match K.lookup a with
      | some ⟨.type c, none, .seq its _, _⟩ => decide (c = "tuple") && (decide (its.size ≤ sizeLine) && repsB K ds its.toList)
      | _ => false) = true := h
    cases q : K.lookup a with
    | none => rw [q] at h; cases h
    | some o =>
      obtain ⟨oc, od, dt, osl⟩ := o
      rw [q] at h
      cases oc <;> try (exact absurd (show false = true from h) Bool.false_ne_true)
      rename_i c
      cases od <;> try (exact absurd (show false = true from h) Bool.false_ne_true)
      cases dt <;> try (exact absurd (show false = true from h) Bool.false_ne_true)
      rename_i its n
      obtain ⟨h1, h2⟩ := bk (show (decide (c = "tuple") && (decide (its.size ≤ sizeLine) && repsB K ds its.toList)) = true from h)
      obtain ⟨h3, h4⟩ := bk h2
      obtain ⟨vs, r1, r2⟩ := repsB_ok ds its.toList h4
      exact ⟨.ref a, rfl, fun W μ => ⟨a, vs, rfl, .inr ⟨_, its, n, q, congrArg Value.type (dec h1), rfl, rfl, dec h3, r1⟩, r2 W μ⟩⟩
  | .lst _, u, h => absurd (show false = true by cases u <;> exact h) Bool.false_ne_true
  | .flst _, u, h => absurd (show false = true by cases u <;> exact h) Bool.false_ne_true
  | .ref _, u, h => absurd (show false = true by cases u <;> exact h) Bool.false_ne_true
  | .ty _, u, h => absurd (show false = true by cases u <;> exact h) Bool.false_ne_true
theorem repsB_ok {K : PySem.W.Frag} : ∀ (ds : List D) (us : List Value), repsB K ds us = true → ∃ vs, Vals vs us ∧ ∀ W μ, Reps K W μ ds vs
  | [], [], _ => ⟨[], .nil, fun _ _ => rfl⟩
  | [], _ :: _, h => absurd (show false = true from h) Bool.false_ne_true
  | _ :: _, [], h => absurd (show false = true from h) Bool.false_ne_true
  | d :: ds, u :: us, h => by
    obtain ⟨h1, h2⟩ := bk (show (repB K d u && repsB K ds us) = true from h)
    obtain ⟨v, r1, r2⟩ := repB_ok d u h1
    obtain ⟨vs, r3, r4⟩ := repsB_ok ds us h2
    exact ⟨v :: vs, .cons r1 r3, fun W μ => ⟨v, vs, rfl, r2 W μ, r4 W μ⟩⟩
end
def conB (K : PySem.W.Frag) (x : Str) (d : D) : Bool := match PySem.W.nsIn K mainGlobals x with
  | some (some u) => repB K d u
  | _ => false
def ddOf (top : Nat → Stmt) (x : Str) (i : Nat) : He.DefD := ⟨(x, none), x, x, defArgs (top i), defBody (top i), defScope (top i), [], []⟩
/-- a def in a class -/
def inCls (s : Stmt) (j : Nat) : Stmt := match s with
  | .ClassDef _ _ _ body _ _ _ _ _ _ _ => body.getD j (.Pass ⟨0, 0, 0, 0⟩)
  | s => s
def ddM (top : Nat → Stmt) (c m q : Str) (i j : Nat) : He.DefD := ⟨(c, some m), m, q, defArgs (inCls (top i) j), defBody (inCls (top i) j), defScope (inCls (top i) j), [], []⟩
def faEl (e : Str × TK) : List He.Fa := match e.2 with
  | .fn _ _ _ => [.glo e.1]
  | .blt => [.free e.1]
  | .con _ => []
  | .met _ _ _ _ _ _ _ => []
  | .cls ms fl => .glo e.1 :: .cls e.1 :: (fl.map (fun f => He.Fa.noat e.1 f) ++ ms.map fun m => if m.1 = ("__init__" : Str) then He.Fa.mkr e.1 else He.Fa.meth e.1 m.1)
def faOf (T : Tab) : List He.Fa := T.flatMap faEl
def fnOf' (top : Nat → Stmt) (T : Tab) : List He.DefD := T.filterMap fun e => match e.2 with
  | .fn i _ _ => some (ddOf top e.1 i)
  | .met c m q i j _ _ => some (ddM top c m q i j)
  | _ => none
def exOf (T : Tab) (K : PySem.W.Frag) : Bool := T.all fun e => match e.2 with
  | .con d => conB K e.1 d
  | _ => true
def chkT (top : Nat → Stmt) (T : Tab) : Bool := T.all fun e => match e.2 with
  | .fn i N f => chkD (gtOf T) f N (defArgs (top i)) (defScope (top i)) (defBody (top i))
  | .met _ _ _ i j N f => chkD (gtOf T) f N (defArgs (inCls (top i) j)) (defScope (inCls (top i) j)) (defBody (inCls (top i) j))
  | .cls ms _ => ms.all fun m => match T[m.2]? with
    | some (_, .met c n _ _ _ _ _) => decide (c = e.1) && decide (n = m.1)
    | _ => false
  | _ => true
/-- the head's look -/
def hookR (n : Nat) (fa : List He.Fa) (fn : List He.DefD) (ex : PySem.W.Frag → Bool) : PySem.W.Hook where
  α := He.AlD × Bool
  obs := fun s => (He.obsDG n fa fn s.heap.get?, ex (He.frG s.heap.get? (He.asD s.heap.get? n)))
  val := fun _ => (He.valD fn, true)
  says := fun _ h => ∃ K : PySem.W.Frag, K.In h ∧ He.SaysD fa fn K ∧ ex K = true
  of := fun _ _ e => ⟨_, He.frG_in, congrArg (fun z : He.AlD × Bool => z.1) e, congrArg (fun z : He.AlD × Bool => z.2) e⟩
  keeps := fun _ _ _ ⟨K, hK, c⟩ k => ⟨K, PySem.W.Frag.In.keeps hK k, c⟩
theorem facts_mem {fa : List He.Fa} {fn : List He.DefD} {K : PySem.W.Frag} (c : He.SaysD fa fn K) {f : He.Fa} (h : f ∈ fa) : f.ok K = true := by
  obtain ⟨i, hi, e⟩ := List.mem_iff_getElem.mp h
  exact c.fact i (f := f) (by rw [List.getElem?_eq_getElem hi, e])
theorem defs_mem {fa : List He.Fa} {fn : List He.DefD} {K : PySem.W.Frag} (c : He.SaysD fa fn K) {d : He.DefD} (h : d ∈ fn) : ∃ fd, FunD K d.name d.qual d.params d.body d.scope (d.dvs K) (d.kws K) (He.fAd K d.at_) fd := by
  obtain ⟨i, hi, e⟩ := List.mem_iff_getElem.mp h
  exact c.def_ i (d := d) (by rw [List.getElem?_eq_getElem hi, e])
theorem tab_at {T : Tab} {g : Nat} {x : Str} {q : GK} (h : (gtOf T)[g]? = some (x, q)) : ∃ t, (x, t) ∈ T ∧ t.gk = q := by
  unfold gtOf at h
  rw [List.getElem?_map] at h
  cases c : T[g]? with
  | none => rw [c] at h; cases h
  | some e =>
    rw [c] at h
    cases h
    exact ⟨e.2, List.mem_of_getElem? c, rfl⟩
theorem mem_fa {T : Tab} {e : Str × TK} {f : He.Fa} (h : e ∈ T) (g : f ∈ faEl e) : f ∈ faOf T := List.mem_flatMap.mpr ⟨e, h, g⟩
theorem plain_args {G : GT} {f : Fn} {N : List Str} {pa : Arguments} {scope : Scope} {body : List Stmt} (h : chkD G f N pa scope body = true) : ∃ as, pa = ⟨[], as, none, [], [], none, []⟩ := by
  match pa, h with
  | ⟨[], as, none, [], [], none, []⟩, h => exact ⟨as, rfl⟩
  | ⟨_ :: _, _, _, _, _, _, _⟩, hc => exact absurd (bk hc).1 Bool.false_ne_true
  | ⟨[], _, some _, _, _, _, _⟩, hc => exact absurd (bk hc).1 Bool.false_ne_true
  | ⟨[], _, none, _ :: _, _, _, _⟩, hc => exact absurd (bk hc).1 Bool.false_ne_true
  | ⟨[], _, none, [], _ :: _, _, _⟩, hc => exact absurd (bk hc).1 Bool.false_ne_true
  | ⟨[], _, none, [], [], some _, _⟩, hc => exact absurd (bk hc).1 Bool.false_ne_true
  | ⟨[], _, none, [], [], none, _ :: _⟩, hc => exact absurd (bk hc).1 Bool.false_ne_true
theorem clsOf_at {G : GT} {c : Nat} {x : Str} {ms : List (Str × Nat)} {fl : List Str} (h : clsOf G c = some (x, ms, fl)) : G[c]? = some (x, .cls ms fl) := by
  unfold clsOf at h
  split at h
  · rename_i q
    cases h
    exact q
  · cases h
theorem look_mem : ∀ {ms : List (Str × Nat)} {m : Str} {g : Nat}, ms.lookup m = some g → (m, g) ∈ ms
  | [], _, _, h => by cases h
  | (x, y) :: ms, m, g, h => by
    rw [List.lookup_cons] at h
    cases c : m == x with
    | true =>
      rw [c] at h
      cases h
      rw [eq_of_beq c]
      exact List.mem_cons_self
    | false =>
      rw [c] at h
      exact List.mem_cons_of_mem _ (look_mem h)
theorem gf_ok {P : Program} {w : World} {K : PySem.W.Frag} {mg : Str → Option Value} {base h : Heap} {top : Nat → Stmt} {T : Tab} (X : K.In h) (NS : h.Ns mainGlobals mg) (c : He.SaysD (faOf T) (fnOf' top T) K) (ex : exOf T K = true) (ck : chkT top T = true) : ∀ k, GF P w K mg base (gtOf T) k (callK (gtOf T) k) := by
  have fnAt : ∀ {g : Nat} {x : Str} {f : Fn}, (gtOf T)[g]? = some (x, GK.fn f) → ∃ (N : List Str) (as : List Arg) (body : List Stmt) (scope : Scope) (fd : FuncData), mg x = some (.ref (He.ga K x)) ∧ FunD K x x ⟨[], as, none, [], [], none, []⟩ body scope [] [] (He.ga K x) fd ∧ chkD (gtOf T) f N ⟨[], as, none, [], [], none, []⟩ scope body = true := fun {g x f} hg => by
    obtain ⟨t, ht, e⟩ := tab_at hg
    cases t with
    | fn i N f' =>
      cases e
      have hd : ddOf top x i ∈ fnOf' top T := List.mem_filterMap.mpr ⟨(x, TK.fn i N f), ht, rfl⟩
      have hm := He.glo_ok X NS (facts_mem c (mem_fa (f := He.Fa.glo x) ht List.mem_cons_self))
      obtain ⟨fd, FD⟩ := defs_mem c hd
      have hc : chkD (gtOf T) f N (defArgs (top i)) (defScope (top i)) (defBody (top i)) = true := List.all_eq_true.mp ck (x, TK.fn i N f) ht
      have FD : FunD K x x (defArgs (top i)) (defBody (top i)) (defScope (top i)) [] [] (He.ga K x) fd := FD
      obtain ⟨as, ea⟩ := plain_args hc
      rw [ea] at hc FD
      exact ⟨N, as, _, _, fd, hm, FD, hc⟩
    | _ => cases e
  have meAt : ∀ {x m : Str} {ms : List (Str × Nat)} {fl : List Str} {g : Nat}, (x, TK.cls ms fl) ∈ T → (m, g) ∈ ms → ∃ (y : Str) (f : Fn) (N : List Str) (as : List Arg) (body : List Stmt) (scope : Scope) (fd : FuncData) (q : Str), (gtOf T)[g]? = some (y, GK.met f) ∧ FunD K m q ⟨[], as, none, [], [], none, []⟩ body scope [] [] (He.ma K (He.ga K x) m) fd ∧ chkD (gtOf T) f N ⟨[], as, none, [], [], none, []⟩ scope body = true := fun {x m ms fl g} ht hm => by
    have h1 := List.all_eq_true.mp ck (x, TK.cls ms fl) ht
    have h2 := List.all_eq_true.mp (show (ms.all fun m => match T[m.2]? with
      | some (_, .met c n _ _ _ _ _) => decide (c = x) && decide (n = m.1)
      | _ => false) = true from h1) (m, g) hm
    simp only at h2
    split at h2
    · rename_i y c' n q i j N f hT
      obtain ⟨h3, h4⟩ := bk h2
      cases (dec h3)
      cases (dec h4)
      have hmem : (y, TK.met x m q i j N f) ∈ T := List.mem_of_getElem? hT
      have hd : ddM top x m q i j ∈ fnOf' top T := List.mem_filterMap.mpr ⟨_, hmem, rfl⟩
      obtain ⟨fd, FD⟩ := defs_mem c hd
      have hc : chkD (gtOf T) f N (defArgs (inCls (top i) j)) (defScope (inCls (top i) j)) (defBody (inCls (top i) j)) = true := List.all_eq_true.mp ck _ hmem
      have FD : FunD K m q (defArgs (inCls (top i) j)) (defBody (inCls (top i) j)) (defScope (inCls (top i) j)) [] [] (He.ma K (He.ga K x) m) fd := FD
      obtain ⟨as, ea⟩ := plain_args hc
      rw [ea] at hc FD
      refine ⟨y, f, N, as, _, _, fd, q, ?_, FD, hc⟩
      unfold gtOf
      rw [List.getElem?_map, hT]
      rfl
    · cases h2
  have bltAt : ∀ (g : Nat) x, (gtOf T)[g]? = some (x, GK.blt) → mg x = none := fun g x hg => by
    obtain ⟨t, ht, e⟩ := tab_at hg
    cases t with
    | blt => exact He.free_ok X NS (facts_mem c (mem_fa (f := He.Fa.free x) ht List.mem_cons_self))
    | _ => cases e
  have conAt : ∀ (g : Nat) x d, (gtOf T)[g]? = some (x, GK.con d) → ∃ u v, mg x = some u ∧ RelV v u ∧ ∀ W μ, Rep K W μ d v := fun g x d hg => by
    obtain ⟨t, ht, e⟩ := tab_at hg
    cases t with
    | con d' =>
      cases e
      have h1 : conB K x d = true := List.all_eq_true.mp ex (x, TK.con d) ht
      unfold conB at h1
      cases q : PySem.W.nsIn K mainGlobals x with
      | none => rw [q] at h1; cases h1
      | some o =>
        rw [q] at h1
        cases o with
        | none => cases h1
        | some u =>
          obtain ⟨v, r1, r2⟩ := repB_ok d u h1
          exact ⟨u, v, PySem.W.mg_of X NS q, r1, r2⟩
    | _ => cases e
  have nd : ∀ {f : Fn} {N : List Str} {as : List Arg} {scope : Scope} {body : List Stmt}, chkD (gtOf T) f N ⟨[], as, none, [], [], none, []⟩ scope body = true → (as.map (·.arg)).Nodup := fun hc => by
    have := (bk hc).1
    exact dec (bk (bk (bk this).2).2).1
  have mk : ∀ k, (∀ g y q f a fd (as : List Arg), (gtOf T)[g]? = some (y, q) → q.fn? = some f → (∃ (x : Str) (qual : Str) (N : List Str) (body : List Stmt) (scope : Scope), FunD K x qual ⟨[], as, none, [], [], none, []⟩ body scope [] [] a fd ∧ chkD (gtOf T) f N ⟨[], as, none, [], [], none, []⟩ scope body = true) → FnOk P w K mg base CX0 (2 * k) a fd (as.map (·.arg)) (spOf K f.np (callK (gtOf T) k g))) → GF P w K mg base (gtOf T) k (callK (gtOf T) k) := fun k h =>
    ⟨fun g x f hg => (by
      obtain ⟨N, as, body, scope, fd, hm, FD, hc⟩ := fnAt hg
      exact ⟨_, fd, _, hm, FD.kp, binds_of FD (nd hc), h g x _ f _ fd as hg rfl ⟨_, _, _, _, _, FD, hc⟩⟩),
     (fun g x q f ds S r hg hq e => by
      cases k with
      | zero => cases e
      | succ k =>
        simp only [callK, hg, hq] at e
        split at e
        · assumption
        · cases e),
     (fun c' x ms fl hC => by
      have hg := clsOf_at hC
      obtain ⟨t, ht, e⟩ := tab_at hg
      cases t with
      | cls ms' fl' =>
        cases e
        have hm := He.glo_ok X NS (facts_mem c (mem_fa (f := He.Fa.glo x) ht List.mem_cons_self))
        have hc1 := He.cls_ok (facts_mem c (mem_fa (f := He.Fa.cls x) ht (List.mem_cons_of_mem _ List.mem_cons_self)))
        refine ⟨hm, hc1, fun f hf => He.noat_ok (facts_mem c (mem_fa (f := He.Fa.noat x f) ht (List.mem_cons_of_mem _ (List.mem_cons_of_mem _ (List.mem_append_left _ (List.mem_map.mpr ⟨f, hf, rfl⟩)))))), fun m g hl => ?_⟩
        have hmem := look_mem hl
        obtain ⟨y, f, N, as, body, scope, fd, q, e1, FD, hc⟩ := meAt ht hmem
        have hfa : (if m = ("__init__" : Str) then He.Fa.mkr x else He.Fa.meth x m) ∈ faOf T := mem_fa ht (List.mem_cons_of_mem _ (List.mem_cons_of_mem _ (List.mem_append_right _ (List.mem_map.mpr ⟨(m, g), hmem, rfl⟩))))
        refine ⟨y, f, He.ma K (He.ga K x) m, fd, _, e1, fun em => ?_, fun em => ?_, binds_of FD (nd hc), h g y _ f _ fd as e1 rfl ⟨_, _, _, _, _, FD, hc⟩⟩
        · subst em
          rw [if_pos rfl] at hfa
          exact He.mkr_ok (facts_mem c hfa)
        · rw [if_neg em] at hfa
          exact He.meth_ok (facts_mem c hfa)
      | _ => cases e), bltAt, conAt⟩
  intro k
  induction k with
  | zero =>
    refine mk 0 fun g y q f a fd as hg hq _ => ⟨fun vs H Q E q => ?_, fun A outer s H args us vs Q E _ _ _ _ q => ?_⟩
    · obtain ⟨_, W, F, μ, S, ds, d, S', _, _, e, _⟩ := q
      cases e
    · obtain ⟨_, W, F, μ, S, ds, d, S', _, _, e, _⟩ := q
      cases e
  | succ k ih =>
    refine mk (k + 1) fun g y q f a fd as hg hq hx => ?_
    obtain ⟨x, qual, N, body, scope, FD, hc⟩ := hx
    exact fn_ok ih hg hq FD hc

/-! ### the law -/
theorem reps_ints {K : PySem.W.Frag} {W : Hp} {μ : List Addr} : ∀ ns : List Int, Reps K W μ (ns.map D.int) (ns.map V.int)
  | [] => rfl
  | n :: ns => ⟨.int n, _, rfl, rfl, reps_ints ns⟩
theorem law_sp {K : PySem.W.Frag} {G : GT} {k g : Nat} {H : Hp} {a : Addr} {ns : List Int} (hS : SqL K H a (ns.map V.int)) (h : ∃ S', callK G k g [.flst (ns.map D.int)] [] = some (.bl true, S')) {E : XK} :
    spOf K 1 (callK G k g) [.ref a] H (fun v _ => v = .bl true) E := by
  obtain ⟨S', h⟩ := h
  refine ⟨rfl, H, fun _ => none, [], [], [.flst (ns.map D.int)], .bl true, S', ⟨fun _ _ e => e, fun _ _ e => (by cases e), fun _ _ e => (by cases e), rfl, fun i j a e => by simp at e, fun i a e => by simp at e, fun i a c e => by simp at e⟩, ⟨.ref a, [], rfl, ⟨a, _, rfl, hS, reps_ints ns⟩, rfl⟩, h, fun v H' W' μ' _ _ r => r⟩
theorem law_walk {l : PySem.W.OpenLaw} {q : Program} {loose : List Str} {XP : (Str → Option Value) → Heap → Prop} {d : DefRec} {top : Nat → Stmt} {T : Tab} {n : Nat} {g k i : Nat} {N : List Str} {f : Fn} (hn : l.most = some 63) (hdf : d.params.defaults = []) (hr : Room (2 * k) callerA) (hname : d.name = ("law" : Str))
    (ck : chkT top T = true) (hg : T[g]? = some (("law" : Str), .fn i N f)) (hp : defArgs (top i) = ⟨[], [⟨"script", none, (match (defArgs (top i)).args with
      | a :: _ => a.pos
      | [] => ⟨0, 0, 0, 0⟩)⟩], none, [], [], none, []⟩)
    (h : ∀ ns : List Int, ns.length ≤ 63 → ∃ S', callK (gtOf T) k g [.flst (ns.map D.int)] [] = some (.bl true, S')) :
    PySem.W.WalkO q loose XP (hookR n (faOf T) (fnOf' top T) (exOf T)).says l.row.toRowW d [] (fun f vs => PySem.call f vs) := by
  refine L2.walk_ofE (l := l) (n := 63) (k := 2 * k) (x := "script") (CX := L2.CX0) hn (by decide) hdf hr ?F (fun _ _ _ _ z => z)
  intro w mg fa h0 Y NS hmg
  obtain ⟨K, KX, c, ex⟩ := Y
  rw [hname] at hmg
  have GFk : ∀ base, GF l.prog w K mg base (gtOf T) k (callK (gtOf T) k) := fun base => gf_ok KX NS c ex ck k
  have hgt : (gtOf T)[g]? = some (("law" : Str), .fn f) := by
    unfold gtOf
    rw [List.getElem?_map, hg]
    rfl
  have ht : (("law" : Str), TK.fn i N f) ∈ T := List.mem_of_getElem? hg
  have hd : ddOf top "law" i ∈ fnOf' top T := List.mem_filterMap.mpr ⟨_, ht, rfl⟩
  obtain ⟨fd0, FD⟩ := defs_mem c hd
  have hm := He.glo_ok KX NS (facts_mem c (mem_fa (f := He.Fa.glo "law") ht List.mem_cons_self))
  have e := hmg.symm.trans hm
  cases e
  have FD : FunD K "law" "law" (defArgs (top i)) (defBody (top i)) (defScope (top i)) [] [] (He.ga K "law") fd0 := FD
  have hc : chkD (gtOf T) f N (defArgs (top i)) (defScope (top i)) (defBody (top i)) = true := List.all_eq_true.mp ck _ ht
  rw [hp] at FD hc
  have hnd : ([⟨"script", none, (match (defArgs (top i)).args with
      | a :: _ => a.pos
      | [] => ⟨0, 0, 0, 0⟩)⟩] : List Arg).map (·.arg) = (["script"] : List Str) := rfl
  have hnp : f.np = 1 := dec (bk (bk (bk (bk hc).1).2).2).2
  refine ⟨K, fd0, spOf K 1 (callK (gtOf T) k g), KX, fun s u => FD.bindsA (ps := (["script"] : List Str)) (fun _ _ _ _ _ _ us hl => bind_ok (as := [⟨"script", none, _⟩]) (by simp) hl) s [u] rfl, fun H a ns hl _ hS => law_sp hS (h ns hl), fun base KB NB => ?_⟩
  cases k with
  | zero =>
    obtain ⟨S', e⟩ := h [] (by decide)
    cases e
  | succ k =>
    have := fn_ok (P := l.prog) (w := w) (mg := mg) (base := base) (gf_ok KX NS c ex ck k) hgt rfl FD hc
    rw [hnp] at this
    exact this
end Rw

/-! M14: how the evaluator is used -/
namespace Rw
open PySem L2

theorem whF_mono {c : Env → Sto → Rs Bool} {b : Env → Sto → Rs Fl} : ∀ {n : Nat} {ρ : Env} {S : Sto} {r : Fl × Sto}, whF c b n ρ S = some r → whF c b (n + 1) ρ S = some r
  | 0, _, _, _, h => by cases h
  | n + 1, ρ, S, r, h => by
    simp only [whF] at h ⊢
    obtain ⟨t, S1, h1, h2⟩ := bnd_inv h
    rw [h1]
    cases t with
    | false => exact h2
    | true =>
      simp only [if_true, bnd_some] at h2 ⊢
      obtain ⟨fl, S2, h3, h4⟩ := bnd_inv h2
      rw [h3]
      cases fl with
      | nx ρ2 => exact whF_mono (n := n) h4
      | bk ρ2 => exact h4
      | rt d => exact h4
theorem whF_le {c : Env → Sto → Rs Bool} {b : Env → Sto → Rs Fl} {n m : Nat} (hl : n ≤ m) {ρ : Env} {S : Sto} {r : Fl × Sto} (h : whF c b n ρ S = some r) : whF c b m ρ S = some r := by
  induction hl with
  | refl => exact h
  | step _ ih => exact whF_mono ih
theorem whE_of {c : Env → Sto → Rs Bool} {b : Env → Sto → Rs Fl} {n : Nat} {ρ : Env} {S : Sto} {r : Fl × Sto} (h : whF c b n ρ S = some r) : whE c b ρ S = some r := by
  unfold whE
  have hx : ∃ n r, whF c b n ρ S = some r := ⟨n, r, h⟩
  rw [dif_pos hx]
  obtain ⟨r', hr⟩ := hx.choose_spec
  rw [hr]
  have h1 := whF_le (Nat.le_max_left n hx.choose) h
  have h2 := whF_le (Nat.le_max_right n hx.choose) hr
  rw [h1] at h2
  exact h2.symm
/-- one turn more -/
theorem whE_turn {c : Env → Sto → Rs Bool} {b : Env → Sto → Rs Fl} {ρ ρ2 : Env} {S S1 S2 : Sto} {r : Fl × Sto} (h1 : c ρ S = some (true, S1)) (h2 : b ρ S1 = some (.nx ρ2, S2)) (h3 : whE c b ρ2 S2 = some r) : whE c b ρ S = some r := by
  obtain ⟨n, h⟩ := whE_inv h3
  refine whE_of (n := n + 1) ?_
  simp only [whF, h1, bnd_some, if_true, h2]
  exact h
theorem whE_end {c : Env → Sto → Rs Bool} {b : Env → Sto → Rs Fl} {ρ : Env} {S S1 : Sto} (h1 : c ρ S = some (false, S1)) : whE c b ρ S = some (.nx ρ, S1) :=
  whE_of (n := 1) (by simp only [whF, h1, bnd_some, Bool.false_eq_true, if_false])
theorem whE_ret {c : Env → Sto → Rs Bool} {b : Env → Sto → Rs Fl} {ρ : Env} {S S1 S2 : Sto} {d : D} (h1 : c ρ S = some (true, S1)) (h2 : b ρ S1 = some (.rt d, S2)) : whE c b ρ S = some (.rt d, S2) :=
  whE_of (n := 1) (by simp only [whF, h1, bnd_some, if_true, h2])
theorem prune_same {S : Sto} {d : D} : prune S d S = (d, S) := by
  unfold prune
  split <;> rfl
theorem prune_new {S T : Sto} {d : D} (h : below S.length d = true) : prune S d (S ++ T) = (d, S) := by
  unfold prune
  rw [if_pos ⟨by simp, h⟩]
/-- a call -/
theorem callK_any {G : GT} {k g : Nat} {x : Str} {q : GK} {f : Fn} {ds : List D} {S : Sto} (hg : G[g]? = some (x, q)) (hq : q.fn? = some f) (hn : ds.length = f.np) : callK G (k + 1) g ds S = bnd (evSs G (callK G k) f.body (ds.map some ++ List.replicate (f.nl - ds.length) none) S) fun fl S1 => match fl with
      | .nx _ => some (prune S .non S1)
      | .rt d => some (prune S d S1)
      | .bk _ => none := by
  simp only [callK, hg, hq, hn, if_true]
  try rfl
theorem callK_fn {G : GT} {k g : Nat} {x : Str} {f : Fn} {ds : List D} {S : Sto} (hg : G[g]? = some (x, .fn f)) (hn : ds.length = f.np) : callK G (k + 1) g ds S = bnd (evSs G (callK G k) f.body (ds.map some ++ List.replicate (f.nl - ds.length) none) S) fun fl S1 => match fl with
      | .nx _ => some (prune S .non S1)
      | .rt d => some (prune S d S1)
      | .bk _ => none := callK_any hg rfl hn
theorem bnd_bnd {α β γ : Type} (x : Rs α) (f : α → Sto → Rs β) (g : β → Sto → Rs γ) : bnd (bnd x f) g = bnd x fun a S => bnd (f a S) g := by
  cases x <;> rfl
theorem bnd_ite {α β : Type} {p : Prop} [Decidable p] (x y : Rs α) (f : α → Sto → Rs β) : bnd (if p then x else y) f = if p then bnd x f else bnd y f := by
  split <;> rfl
end Rw

/-! M15: the evaluator, step by step -/
namespace Rw
open PySem L2

theorem bnd_congr {α β : Type} {x y : Rs α} (h : x = y) (f : α → Sto → Rs β) : bnd x f = bnd y f := by rw [h]
theorem lft_congr {α β : Type} {x y : Option α} (h : x = y) (f : α → Rs β) : lft x f = lft y f := by rw [h]

theorem nrfl {α : Sort _} {a b : α} (h : a = b) : a = b := h
theorem bnd_s {α β : Type} (a : α) (S : Sto) (f : α → Sto → Rs β) : bnd (some (a, S)) f = f a S := nrfl rfl
theorem bnd_n {α β : Type} (f : α → Sto → Rs β) : bnd none f = none := nrfl rfl
theorem lft_s {α β : Type} (a : α) (f : α → Rs β) : lft (some a) f = f a := nrfl rfl
theorem lft_n {α β : Type} (f : α → Rs β) : lft none f = none := nrfl rfl
/-- and then -/
noncomputable def sq (G : GT) (cl : Nat → List D → Sto → Rs D) (ss : MSs) (x : Rs Fl) : Rs Fl := bnd x fun fl S1 => match fl with
    | .nx ρ1 => evSs G cl ss ρ1 S1
    | .bk ρ1 => some (.bk ρ1, S1)
    | .rt d => some (.rt d, S1)
/-- the end of a call -/
noncomputable def fin (S : Sto) (x : Rs Fl) : Rs D := bnd x fun fl S1 => match fl with
      | .nx _ => some (prune S .non S1)
      | .rt d => some (prune S d S1)
      | .bk _ => none
noncomputable def fbd (G : GT) (cl : Nat → List D → Sto → Rs D) (tg : MG) (b : MSs) (x : D) (ρ1 : Env) (S2 : Sto) : Rs Fl := lft (asgG tg x ρ1) fun ρ2 => evSs G cl b ρ2 S2
noncomputable def ctn (G : GT) (cl : Nat → List D → Sto → Rs D) (elt : ME) (tg : MG) (cs : MO) (ρ : Env) (x : D) (S2 : Sto) : Rs (Option D) := lft (asgG tg x ρ) fun ρ1 => bnd (evC G cl cs ρ1 S2) fun t S3 => if t = true then bnd (evE G cl elt ρ1 S3) fun y S4 => some (some y, S4) else some (none, S3)
/-- a turn of a comprehension of two clauses -/
noncomputable def ctn2 (G : GT) (cl : Nat → List D → Sto → Rs D) (elt : ME) (tg : MG) (cs : MO) (vs1 : List Nat) (tg1 : MG) (it1 : MI) (cs1 : MO) (ρ : Env) (x : D) (S2 : Sto) (acc : List D) : Rs (List D) := lft (asgG tg x ρ) fun ρ1 => bnd (evC G cl cs ρ1 S2) fun t S3 => if t = true then
      bnd (evI G cl it1 ρ1 S3) fun w1 S4 => if acc.length + w1.1.length ≤ sizeLine then compL w1.2 w1.1 (ctn G cl elt tg1 cs1 (wipeE ρ1 vs1)) w1.1 S4 acc else none
      else some (acc, S3)
/-- a comprehension's list -/
noncomputable def cls (mu : Bool) (x : Rs (List D)) : Rs D := bnd x fun acc S5 => if mu = true then some (.ref S5.length, S5 ++ [.lst acc]) else some (.lst acc, S5)
section
variable {G : GT} {cl : Nat → List D → Sto → Rs D} {ρ ρ1 : Env} {S S1 : Sto} {d : D}
theorem sq_nx {ss : MSs} : sq G cl ss (some (.nx ρ, S)) = evSs G cl ss ρ S := nrfl rfl
theorem sq_bk {ss : MSs} : sq G cl ss (some (.bk ρ, S)) = some (.bk ρ, S) := nrfl rfl
theorem sq_rt {ss : MSs} : sq G cl ss (some (.rt d, S)) = some (.rt d, S) := nrfl rfl
theorem fin_nx : fin S (some (.nx ρ, S1)) = some (prune S .non S1) := nrfl rfl
theorem fin_rt : fin S (some (.rt d, S1)) = some (prune S d S1) := nrfl rfl
theorem cls_f {acc : List D} : cls false (some (acc, S)) = some (.lst acc, S) := nrfl rfl
theorem cls_t {acc : List D} : cls true (some (acc, S)) = some (.ref S.length, S ++ [.lst acc]) := nrfl rfl
theorem sq_ite {ss : MSs} {p : Prop} [Decidable p] {x y : Rs Fl} : sq G cl ss (if p then x else y) = if p then sq G cl ss x else sq G cl ss y := by
  split <;> rfl
theorem fin_ite {p : Prop} [Decidable p] {x y : Rs Fl} : fin S (if p then x else y) = if p then fin S x else fin S y := by
  split <;> rfl
theorem call_fn {k g : Nat} {x : Str} {f : Fn} {ds : List D} (hg : G[g]? = some (x, .fn f)) (hn : ds.length = f.np) : callK G (k + 1) g ds S = fin S (evSs G (callK G k) f.body (ds.map some ++ List.replicate (f.nl - ds.length) none) S) := callK_fn hg hn
theorem call_met {k g : Nat} {x : Str} {f : Fn} {ds : List D} (hg : G[g]? = some (x, .met f)) (hn : ds.length = f.np) : callK G (k + 1) g ds S = fin S (evSs G (callK G k) f.body (ds.map some ++ List.replicate (f.nl - ds.length) none) S) := callK_any hg rfl hn
theorem ev_attr {a : ME} {f : Str} : evE G cl (.attr a f) ρ S = bnd (evE G cl a ρ S) fun d S1 => lft (fldD G S1 d f) fun r => some (r, S1) := nrfl rfl
theorem ev_mcall {c : Nat} {o : ME} {m : Str} {es : MEs} : evE G cl (.mcall c o m es) ρ S = bnd (evE G cl o ρ S) fun d S1 => lft (isOb G S1 d c m) fun _ => lft (metOf G c m) fun g => bnd (evEs G cl es ρ S1) fun ds S2 => cl g (d :: ds) S2 := nrfl rfl
theorem ev_make {c : Nat} {es : MEs} : evE G cl (.make c es) ρ S = lft (clsOf G c) fun q => lft (metOf G c "__init__") fun g => bnd (evEs G cl es ρ S) fun ds S1 => bnd (cl g (.ref S1.length :: ds) (S1 ++ [.ob c q.1 []])) fun d S2 => if isNone d = true then some (.ref S1.length, S2) else none := nrfl rfl
theorem ev_setA {o e : ME} {f : Str} : evS G cl (.setA o f e) ρ S = bnd (evE G cl e ρ S) fun v S1 => bnd (evE G cl o ρ S1) fun d S2 => lft (setD G S2 d f v) fun S3 => some (.nx ρ, S3) := nrfl rfl
theorem ev_var {i : Nat} : evE G cl (.var i) ρ S = (match ρ[i]? with
    | some (some d) => some (d, S)
    | _ => none) := nrfl rfl
theorem ev_int {i : Int} : evE G cl (.int i) ρ S = some (.int i, S) := nrfl rfl
theorem ev_str {i : Str} : evE G cl (.str i) ρ S = some (.str i, S) := nrfl rfl
theorem ev_bl {i : Bool} : evE G cl (.bl i) ρ S = some (.bl i, S) := nrfl rfl
theorem ev_non : evE G cl .non ρ S = some (.non, S) := nrfl rfl
theorem ev_con {g : Nat} : evE G cl (.con g) ρ S = lft (conOf G g) fun d => some (d, S) := nrfl rfl
theorem ev_bin {op : Operator} {a b : ME} : evE G cl (.bin op a b) ρ S = bnd (evE G cl a ρ S) fun d S1 => bnd (evE G cl b ρ S1) fun e S2 => lft (binD op d e) fun r => some (r, S2) := nrfl rfl
theorem ev_madd {a b : ME} : evE G cl (.madd a b) ρ S = bnd (evE G cl a ρ S) fun d S1 => bnd (evE G cl b ρ S1) fun e S2 => match d, e with
    | .lst xs, .lst ys => if xs.length + ys.length ≤ sizeLine then some (.ref S2.length, S2 ++ [.lst (xs ++ ys)]) else none
    | _, _ => none := nrfl rfl
theorem ev_neg {a : ME} : evE G cl (.neg a) ρ S = bnd (evE G cl a ρ S) fun d S1 => match d with
    | .int i => some (.int (-i), S1)
    | _ => none := nrfl rfl
theorem ev_cmp {op : CmpOp} {a b : ME} : evE G cl (.cmp op a b) ρ S = bnd (evE G cl a ρ S) fun d S1 => bnd (evE G cl b ρ S1) fun e S2 => lft (cmpD S2 op d e) fun r => some (.bl r, S2) := nrfl rfl
theorem ev_ch {op op' : CmpOp} {a b c : ME} : evE G cl (.ch op op' a b c) ρ S = bnd (evE G cl a ρ S) fun d S1 => bnd (evE G cl b ρ S1) fun e S2 => lft (cmpD S2 op d e) fun r => if r = true then bnd (evE G cl c ρ S2) fun f S3 => lft (cmpD S3 op' e f) fun q => some (.bl q, S3) else some (.bl false, S2) := nrfl rfl
theorem ev_and {a b : ME} : evE G cl (.and a b) ρ S = bnd (evE G cl a ρ S) fun d S1 => lft (truD S1 d) fun t => if t = true then evE G cl b ρ S1 else some (d, S1) := nrfl rfl
theorem ev_or {a b : ME} : evE G cl (.or a b) ρ S = bnd (evE G cl a ρ S) fun d S1 => lft (truD S1 d) fun t => if t = true then some (d, S1) else evE G cl b ρ S1 := nrfl rfl
theorem ev_one {a : ME} : evE G cl (.one a) ρ S = evE G cl a ρ S := nrfl rfl
theorem ev_not {a : ME} : evE G cl (.not a) ρ S = bnd (evE G cl a ρ S) fun d S1 => lft (truD S1 d) fun t => some (.bl (!t), S1) := nrfl rfl
theorem ev_ifE {c a b : ME} : evE G cl (.ifE c a b) ρ S = bnd (evE G cl c ρ S) fun d S1 => lft (truD S1 d) fun t => if t = true then evE G cl a ρ S1 else evE G cl b ρ S1 := nrfl rfl
theorem ev_tup {es : MEs} : evE G cl (.tup es) ρ S = bnd (evEs G cl es ρ S) fun ds S1 => if ds.length ≤ sizeLine then some (.tup ds, S1) else none := nrfl rfl
theorem ev_lst {es : MEs} : evE G cl (.lst es) ρ S = bnd (evEs G cl es ρ S) fun ds S1 => if ds.length ≤ sizeLine then some (.lst ds, S1) else none := nrfl rfl
theorem ev_mlst {es : MEs} : evE G cl (.mlst es) ρ S = bnd (evEs G cl es ρ S) fun ds S1 => if ds.length ≤ sizeLine then some (.ref S1.length, S1 ++ [.lst ds]) else none := nrfl rfl
theorem ev_dict {ps : MPs} : evE G cl (.dict ps) ρ S = bnd (evPs G cl ps ρ S) fun ps S1 => lft (keysD ps) fun kvs => if kvs.length ≤ 15 then some (.ref S1.length, S1 ++ [.dk (mergeKD [] kvs)]) else none := nrfl rfl
theorem ev_idx {a i : ME} : evE G cl (.idx a i) ρ S = bnd (evE G cl a ρ S) fun d S1 => bnd (evE G cl i ρ S1) fun e S2 => lft (idxD S2 d e) fun r => some (r, S2) := nrfl rfl
theorem ev_sl {a : ME} {lo hi : MO} : evE G cl (.sl a lo hi) ρ S = bnd (evE G cl a ρ S) fun d S1 => bnd (evO G cl lo ρ S1) fun l S2 => bnd (evO G cl hi ρ S2) fun h S3 => lft (slD S3 d l h) fun r => some (r, S3) := nrfl rfl
theorem ev_slR {a : ME} {hi : MO} : evE G cl (.slR a hi) ρ S = bnd (evE G cl a ρ S) fun d S1 => bnd (evO G cl hi ρ S1) fun h S2 => lft (slRD S2 d h) fun r => some (r, S2) := nrfl rfl
theorem ev_call {g : Nat} {es : MEs} : evE G cl (.call g es) ρ S = bnd (evEs G cl es ρ S) fun ds S1 => cl g ds S1 := nrfl rfl
theorem ev_bi {b : BI} {g : Nat} {es : MEs} : evE G cl (.bi b g es) ρ S = bnd (evEs G cl es ρ S) fun ds S1 => lft (biD S1 b ds) fun r => some (r, S1) := nrfl rfl
theorem ev_isI {g h : Nat} {n : String} {a : ME} : evE G cl (.isI g h n a) ρ S = bnd (evE G cl a ρ S) fun d S1 => lft (tyName S1 d) fun t => lft (kitB t n) fun b => some (.bl b, S1) := nrfl rfl
theorem ev_mdict {g : Nat} {e : ME} : evE G cl (.mdict g e) ρ S = bnd (evE G cl e ρ S) fun d S1 => lft (dctD d) fun kvs => some (.ref S1.length, S1 ++ [.dk (mergeKD [] kvs)]) := nrfl rfl
theorem ev_dget {o k d : ME} : evE G cl (.dget o k d) ρ S = bnd (evE G cl o ρ S) fun x S1 => lft (dkOf S1 x) fun _ => bnd (evE G cl k ρ S1) fun y S2 => bnd (evE G cl d ρ S2) fun z S3 => lft (dgetD S3 x y z) fun r => some (r, S3) := nrfl rfl
theorem ev_sset {g h : Nat} {e : ME} : evE G cl (.sset g h e) ρ S = bnd (evE G cl e ρ S) fun d S1 => lft (ssetD d) fun r => some (r, S1) := nrfl rfl
theorem ev_meth {m : MT} {o : ME} {es : MEs} : evE G cl (.meth m o es) ρ S = bnd (evE G cl o ρ S) fun d S1 => lft (lstOf S1 d) fun _ => bnd (evEs G cl es ρ S1) fun ds S2 => methD m S2 d ds := nrfl rfl
theorem ev_lc {mu : Bool} {vs : List Nat} {elt : ME} {tg : MG} {it : MI} {cs : MO} : evE G cl (.lc mu vs elt tg it cs) ρ S = bnd (evI G cl it ρ S) fun w S1 => if w.1.length ≤ sizeLine then cls mu (compL w.2 w.1 (ctn G cl elt tg cs (wipeE ρ vs)) w.1 S1 []) else none := nrfl rfl
theorem ev_lc2 {mu : Bool} {vs vs1 : List Nat} {elt : ME} {tg tg1 : MG} {it it1 : MI} {cs cs1 : MO} : evE G cl (.lc2 mu vs elt tg it cs vs1 tg1 it1 cs1) ρ S = bnd (evI G cl it ρ S) fun w S1 => cls mu (compA w.2 w.1 (ctn2 G cl elt tg cs vs1 tg1 it1 cs1 (wipeE ρ vs)) w.1 S1 []) := nrfl rfl
theorem ev_nil : evEs G cl .nil ρ S = some ([], S) := nrfl rfl
theorem ev_cons {e : ME} {es : MEs} : evEs G cl (.cons e es) ρ S = bnd (evE G cl e ρ S) fun d S1 => bnd (evEs G cl es ρ S1) fun ds S2 => some (d :: ds, S2) := nrfl rfl
theorem ev_oN : evO G cl .none ρ S = some (none, S) := nrfl rfl
theorem ev_oS {e : ME} : evO G cl (.some e) ρ S = bnd (evE G cl e ρ S) fun d S1 => match d with
    | .int i => some (some i, S1)
    | _ => none := nrfl rfl
theorem ev_cN : evC G cl .none ρ S = some (true, S) := nrfl rfl
theorem ev_cS {e : ME} : evC G cl (.some e) ρ S = bnd (evE G cl e ρ S) fun d S1 => lft (truD S1 d) fun t => some (t, S1) := nrfl rfl
theorem ev_pN : evPs G cl .nil ρ S = some ([], S) := nrfl rfl
theorem ev_pC {k v : ME} {ps : MPs} : evPs G cl (.cons k v ps) ρ S = bnd (evE G cl k ρ S) fun a S1 => bnd (evE G cl v ρ S1) fun b S2 => bnd (evPs G cl ps ρ S2) fun r S3 => some ((a, b) :: r, S3) := nrfl rfl
theorem ev_seq {e : ME} : evI G cl (.seq e) ρ S = bnd (evE G cl e ρ S) fun d S1 => lft (itemsOf S1 d) fun w => some (w, S1) := nrfl rfl
theorem ev_rng {g : Nat} {es : MEs} : evI G cl (.rng g es) ρ S = bnd (evEs G cl es ρ S) fun ds S1 => lft (rngD ds) fun xs => some ((xs, none), S1) := nrfl rfl
theorem ev_T {e : ME} : evT G cl e ρ S = bnd (evE G cl e ρ S) fun d S1 => lft (truD S1 d) fun t => some (t, S1) := nrfl rfl
theorem ev_asg {tg : MG} {e : ME} : evS G cl (.asg tg e) ρ S = bnd (evE G cl e ρ S) fun d S1 => lft (asgG tg d ρ) fun ρ1 => some (.nx ρ1, S1) := nrfl rfl
theorem ev_par2 {i j : Nat} {a b : ME} : evS G cl (.par2 i j a b) ρ S = bnd (evE G cl a ρ S) fun d S1 => bnd (evE G cl b ρ S1) fun e S2 => some (.nx ((ρ.set i (some d)).set j (some e)), S2) := nrfl rfl
theorem ev_par3 {i j l : Nat} {a b c : ME} : evS G cl (.par3 i j l a b c) ρ S = bnd (evE G cl a ρ S) fun d S1 => bnd (evE G cl b ρ S1) fun e S2 => bnd (evE G cl c ρ S2) fun f S3 => some (.nx (((ρ.set i (some d)).set j (some e)).set l (some f)), S3) := nrfl rfl
theorem ev_aug {i : Nat} {op : Operator} {e : ME} : evS G cl (.aug i op e) ρ S = (match ρ[i]? with
    | some (some d) => bnd (evE G cl e ρ S) fun y S1 => lft (augD op d y) fun r => some (.nx (ρ.set i (some r)), S1)
    | _ => none) := nrfl rfl
theorem ev_setI {o i e : ME} : evS G cl (.setI o i e) ρ S = bnd (evE G cl e ρ S) fun v S1 => bnd (evE G cl o ρ S1) fun d S2 => bnd (evE G cl i ρ S2) fun k S3 => lft (putI S3 d k v) fun S4 => some (.nx ρ, S4) := nrfl rfl
theorem ev_augI {o i e : ME} {op : Operator} : evS G cl (.augI o i op e) ρ S = bnd (evE G cl o ρ S) fun d S1 => bnd (evE G cl i ρ S1) fun k S2 => lft (augGet S2 d k) fun x => bnd (evE G cl e ρ S2) fun y S3 => lft (augD op x y) fun r => lft (putI S3 d k r) fun S4 => some (.nx ρ, S4) := nrfl rfl
theorem ev_ifS {c : ME} {a b : MSs} : evS G cl (.ifS c a b) ρ S = bnd (evT G cl c ρ S) fun t S1 => if t = true then evSs G cl a ρ S1 else evSs G cl b ρ S1 := nrfl rfl
theorem ev_whl {c : ME} {b : MSs} : evS G cl (.whl c b) ρ S = whE (evT G cl c) (evSs G cl b) ρ S := nrfl rfl
theorem ev_for {tg : MG} {it : MI} {b : MSs} : evS G cl (.forS tg it b) ρ S = bnd (evI G cl it ρ S) fun w S1 => forL w.2 w.1 (fbd G cl tg b) w.1 ρ S1 := nrfl rfl
theorem ev_ret {e : ME} : evS G cl (.ret e) ρ S = bnd (evE G cl e ρ S) fun d S1 => some (.rt d, S1) := nrfl rfl
theorem ev_retN : evS G cl .retN ρ S = some (.rt .non, S) := nrfl rfl
theorem ev_ex {e : ME} : evS G cl (.ex e) ρ S = bnd (evE G cl e ρ S) fun _ S1 => some (.nx ρ, S1) := nrfl rfl
theorem ev_pass : evS G cl .pass ρ S = some (.nx ρ, S) := nrfl rfl
theorem ev_brk : evS G cl .brk ρ S = some (.bk ρ, S) := nrfl rfl
theorem ev_sN : evSs G cl .nil ρ S = some (.nx ρ, S) := nrfl rfl
theorem ev_sC {s : MS} {ss : MSs} : evSs G cl (.cons s ss) ρ S = sq G cl ss (evS G cl s ρ S) := nrfl rfl
theorem asg_name {i : Nat} {d : D} (h : i < ρ.length) : asgG (.name i) d ρ = some (ρ.set i (some d)) := by
  simp only [asgG, h, if_true]
theorem asg_tup {ts : MGs} {xs : List D} : asgG (.tup ts) (.tup xs) ρ = asgGs ts xs ρ := nrfl rfl
theorem asg_lst {ts : MGs} {xs : List D} : asgG (.tup ts) (.lst xs) ρ = asgGs ts xs ρ := nrfl rfl
theorem asg_nil : asgGs .nil [] ρ = some ρ := nrfl rfl
theorem asg_cons {t : MG} {ts : MGs} {x : D} {xs : List D} : asgGs (.cons t ts) (x :: xs) ρ = (asgG t x ρ).bind fun ρ1 => asgGs ts xs ρ1 := nrfl rfl
end
/-! operations -/
section
variable {S : Sto} {a b : Int}
theorem add_i : binD .Add (.int a) (.int b) = some (.int (a + b)) := nrfl rfl
theorem add_t {xs ys : List D} : binD .Add (.tup xs) (.tup ys) = if xs.length + ys.length ≤ sizeLine then some (.tup (xs ++ ys)) else none := nrfl rfl
theorem add_s {xs ys : Str} : binD .Add (.str xs) (.str ys) = if xs.length + ys.length ≤ sizeLine then some (.str (xs ++ ys)) else none := nrfl rfl
theorem add_l {xs ys : List D} : binD .Add (.lst xs) (.lst ys) = if xs.length + ys.length ≤ sizeLine then some (.lst (xs ++ ys)) else none := nrfl rfl
theorem sub_i : binD .Sub (.int a) (.int b) = some (.int (a - b)) := nrfl rfl
theorem sub_b {a b : Bool} : binD .Sub (.bl a) (.bl b) = some (.int (b2i a - b2i b)) := nrfl rfl
theorem mul_i : binD .Mult (.int a) (.int b) = if mulOk a b then some (.int (a * b)) else none := nrfl rfl
theorem div_i : binD .FloorDiv (.int a) (.int b) = if divOk b then some (.int (a.fdiv b)) else none := nrfl rfl
theorem mod_i : binD .Mod (.int a) (.int b) = if b ≠ 0 then some (.int (a.fmod b)) else none := nrfl rfl
theorem pow_i : binD .Pow (.int a) (.int b) = if powOk a b then some (.int (a ^ b.toNat)) else none := nrfl rfl
theorem shl_i : binD .LShift (.int a) (.int b) = if shlOk a b then some (.int (a * 2 ^ b.toNat)) else none := nrfl rfl
theorem shr_i : binD .RShift (.int a) (.int b) = if 0 ≤ b then some (.int (a / 2 ^ b.toNat)) else none := nrfl rfl
theorem and_i : binD .BitAnd (.int a) (.int b) = some (.int (Builtin.bitAnd a b)) := nrfl rfl
theorem xor_i : binD .BitXor (.int a) (.int b) = some (.int (Builtin.bitXor a b)) := nrfl rfl
theorem any_l {xs : List D} : biD S .any [.lst xs] = (blsD xs).map fun bs => .bl (bs.any id) := nrfl rfl
theorem all_l {xs : List D} : biD S .all [.lst xs] = (blsD xs).map fun bs => .bl (bs.all id) := nrfl rfl
theorem lt_i : cmpD S .Lt (.int a) (.int b) = some (decide (a < b)) := nrfl rfl
theorem le_i : cmpD S .LtE (.int a) (.int b) = some (decide (a ≤ b)) := nrfl rfl
theorem gt_i : cmpD S .Gt (.int a) (.int b) = some (decide (b < a)) := nrfl rfl
theorem ge_i : cmpD S .GtE (.int a) (.int b) = some (decide (b ≤ a)) := nrfl rfl
theorem eq_i : cmpD S .Eq (.int a) (.int b) = some (decide (a = b)) := nrfl rfl
theorem ne_i : cmpD S .NotEq (.int a) (.int b) = some (!decide (a = b)) := nrfl rfl
theorem eq_b {a b : Bool} : cmpD S .Eq (.bl a) (.bl b) = some (decide (a = b)) := nrfl rfl
theorem ne_b {a b : Bool} : cmpD S .NotEq (.bl a) (.bl b) = some (!decide (a = b)) := nrfl rfl
theorem eq_s {a b : Str} : cmpD S .Eq (.str a) (.str b) = some (decide (a = b)) := nrfl rfl
theorem ne_s {a b : Str} : cmpD S .NotEq (.str a) (.str b) = some (!decide (a = b)) := nrfl rfl
theorem eq_n : cmpD S .Eq .non .non = some true := nrfl rfl
theorem ne_n : cmpD S .NotEq .non .non = some false := nrfl rfl
theorem is_n {d : D} : cmpD S .Is d .non = some (isNone d) := nrfl rfl
theorem is_bl {a b : Bool} : cmpD S .Is (.bl a) (.bl b) = some (decide (a = b)) := nrfl rfl
theorem isnt_bl {a b : Bool} : cmpD S .IsNot (.bl a) (.bl b) = some (!decide (a = b)) := nrfl rfl
theorem isnt_n {d : D} : cmpD S .IsNot d .non = some (!isNone d) := nrfl rfl
theorem tru_b {b : Bool} : truD S (.bl b) = some b := nrfl rfl
theorem tru_i : truD S (.int a) = some (a != 0) := nrfl rfl
theorem tru_n : truD S .non = some false := nrfl rfl
theorem idx_t {xs : List D} : idxD S (.tup xs) (.int a) = atI xs a := nrfl rfl
theorem idx_l {xs : List D} : idxD S (.lst xs) (.int a) = atI xs a := nrfl rfl
theorem idx_f {xs : List D} : idxD S (.flst xs) (.int a) = atI xs a := nrfl rfl
theorem at_0 {α : Type} {x : α} {xs : List α} : atI (x :: xs) 0 = some x := by
  simp [atI, ixN]
theorem at_1 {α : Type} {x y : α} {xs : List α} : atI (x :: y :: xs) 1 = some y := by
  have : (1 : Int) < ((x :: y :: xs).length : Int) := by simp; omega
  simp only [atI, ixN, this, if_true]; rfl
theorem at_2 {α : Type} {x y z : α} {xs : List α} : atI (x :: y :: z :: xs) 2 = some z := by
  have : (2 : Int) < ((x :: y :: z :: xs).length : Int) := by simp; omega
  simp only [atI, ixN, this, if_true]; rfl
theorem at_nat {α : Type} {xs : List α} {n : Nat} (h : n < xs.length) : atI xs (n : Int) = some xs[n] := by
  simp [atI, ixN, h]
theorem abs_i : biD S .abs [.int a] = some (.int (if a < 0 then -a else a)) := nrfl rfl
theorem max_i : biD S .max [.int a, .int b] = some (.int (if b > a then b else a)) := nrfl rfl
theorem min_i : biD S .min [.int a, .int b] = some (.int (if b < a then b else a)) := nrfl rfl
theorem int_i : biD S .int [.int a] = some (.int a) := nrfl rfl
theorem int_b {a : Bool} : biD S .int [.bl a] = some (.int (b2i a)) := nrfl rfl
theorem str_i : biD S .str [.int a] = if a.natAbs.log2 < 1920 then some (.str (toString a)) else none := nrfl rfl
theorem len_t {xs : List D} : biD S .len [.tup xs] = some (.int xs.length) := nrfl rfl
theorem len_l {xs : List D} : biD S .len [.lst xs] = some (.int xs.length) := nrfl rfl
theorem len_f {xs : List D} : biD S .len [.flst xs] = some (.int xs.length) := nrfl rfl
theorem aug_addI : augD .Add (.int a) (.int b) = some (.int (a + b)) := nrfl rfl
theorem aug_subI : augD .Sub (.int a) (.int b) = some (.int (a - b)) := nrfl rfl
theorem ty_i : tyName S (.int a) = some "int" := nrfl rfl
theorem ty_b {b : Bool} : tyName S (.bl b) = some "bool" := nrfl rfl
theorem ty_n : tyName S .non = some "NoneType" := nrfl rfl
theorem ty_s {b : Str} : tyName S (.str b) = some "str" := nrfl rfl
theorem ty_t {xs : List D} : tyName S (.tup xs) = some "tuple" := nrfl rfl
theorem ty_l {xs : List D} : tyName S (.lst xs) = some "list" := nrfl rfl
theorem it_t {xs : List D} : itemsOf S (.tup xs) = some (xs, none) := nrfl rfl
theorem it_l {xs : List D} : itemsOf S (.lst xs) = some (xs, none) := nrfl rfl
theorem it_f {xs : List D} : itemsOf S (.flst xs) = some (xs, none) := nrfl rfl
end
theorem size_eq : sizeLine = 16777216 := nrfl rfl
theorem sz_0 : (0 ≤ sizeLine) = True := eq_true (by rw [size_eq]; decide)
theorem sz_1 : (1 ≤ sizeLine) = True := eq_true (by rw [size_eq]; decide)
theorem sz_2 : (2 ≤ sizeLine) = True := eq_true (by rw [size_eq]; decide)
theorem sz_3 : (3 ≤ sizeLine) = True := eq_true (by rw [size_eq]; decide)
theorem sz_4 : (4 ≤ sizeLine) = True := eq_true (by rw [size_eq]; decide)
theorem sz_5 : (5 ≤ sizeLine) = True := eq_true (by rw [size_eq]; decide)
theorem sz_6 : (6 ≤ sizeLine) = True := eq_true (by rw [size_eq]; decide)
theorem sz_7 : (7 ≤ sizeLine) = True := eq_true (by rw [size_eq]; decide)
theorem sz_8 : (8 ≤ sizeLine) = True := eq_true (by rw [size_eq]; decide)
theorem sz_9 : (9 ≤ sizeLine) = True := eq_true (by rw [size_eq]; decide)
theorem sz_10 : (10 ≤ sizeLine) = True := eq_true (by rw [size_eq]; decide)
theorem sz_11 : (11 ≤ sizeLine) = True := eq_true (by rw [size_eq]; decide)
theorem sz_12 : (12 ≤ sizeLine) = True := eq_true (by rw [size_eq]; decide)
theorem sz_13 : (13 ≤ sizeLine) = True := eq_true (by rw [size_eq]; decide)
theorem sz_14 : (14 ≤ sizeLine) = True := eq_true (by rw [size_eq]; decide)
theorem sz_15 : (15 ≤ sizeLine) = True := eq_true (by rw [size_eq]; decide)
theorem sz_16 : (16 ≤ sizeLine) = True := eq_true (by rw [size_eq]; decide)
theorem sz_17 : (17 ≤ sizeLine) = True := eq_true (by rw [size_eq]; decide)
theorem sz_18 : (18 ≤ sizeLine) = True := eq_true (by rw [size_eq]; decide)
theorem sz_19 : (19 ≤ sizeLine) = True := eq_true (by rw [size_eq]; decide)
theorem sz_20 : (20 ≤ sizeLine) = True := eq_true (by rw [size_eq]; decide)
theorem sz_21 : (21 ≤ sizeLine) = True := eq_true (by rw [size_eq]; decide)
theorem sz_22 : (22 ≤ sizeLine) = True := eq_true (by rw [size_eq]; decide)
theorem sz_23 : (23 ≤ sizeLine) = True := eq_true (by rw [size_eq]; decide)
theorem sz_24 : (24 ≤ sizeLine) = True := eq_true (by rw [size_eq]; decide)
theorem sz_25 : (25 ≤ sizeLine) = True := eq_true (by rw [size_eq]; decide)
theorem sz_26 : (26 ≤ sizeLine) = True := eq_true (by rw [size_eq]; decide)
theorem sz_27 : (27 ≤ sizeLine) = True := eq_true (by rw [size_eq]; decide)
theorem sz_28 : (28 ≤ sizeLine) = True := eq_true (by rw [size_eq]; decide)
theorem sz_29 : (29 ≤ sizeLine) = True := eq_true (by rw [size_eq]; decide)
theorem sz_30 : (30 ≤ sizeLine) = True := eq_true (by rw [size_eq]; decide)
theorem sz_31 : (31 ≤ sizeLine) = True := eq_true (by rw [size_eq]; decide)
theorem sz_32 : (32 ≤ sizeLine) = True := eq_true (by rw [size_eq]; decide)
theorem sz_33 : (33 ≤ sizeLine) = True := eq_true (by rw [size_eq]; decide)
theorem sz_34 : (34 ≤ sizeLine) = True := eq_true (by rw [size_eq]; decide)
theorem sz_35 : (35 ≤ sizeLine) = True := eq_true (by rw [size_eq]; decide)
theorem sz_36 : (36 ≤ sizeLine) = True := eq_true (by rw [size_eq]; decide)
theorem sz_37 : (37 ≤ sizeLine) = True := eq_true (by rw [size_eq]; decide)
theorem sz_38 : (38 ≤ sizeLine) = True := eq_true (by rw [size_eq]; decide)
theorem sz_39 : (39 ≤ sizeLine) = True := eq_true (by rw [size_eq]; decide)
theorem sz_40 : (40 ≤ sizeLine) = True := eq_true (by rw [size_eq]; decide)
theorem le_size {n : Nat} (h : n ≤ 1000000) : n ≤ sizeLine := by rw [size_eq]; omega
theorem kb_int_int : kitB "int" "int" = some true := by decide +kernel
theorem kb_int_bool : kitB "int" "bool" = some false := by decide +kernel
theorem kb_int_str : kitB "int" "str" = some false := by decide +kernel
theorem kb_int_tuple : kitB "int" "tuple" = some false := by decide +kernel
theorem kb_int_list : kitB "int" "list" = some false := by decide +kernel
theorem kb_int_dict : kitB "int" "dict" = some false := by decide +kernel
theorem kb_bool_int : kitB "bool" "int" = some true := by decide +kernel
theorem kb_bool_bool : kitB "bool" "bool" = some true := by decide +kernel
theorem kb_bool_str : kitB "bool" "str" = some false := by decide +kernel
theorem kb_bool_tuple : kitB "bool" "tuple" = some false := by decide +kernel
theorem kb_bool_list : kitB "bool" "list" = some false := by decide +kernel
theorem kb_bool_dict : kitB "bool" "dict" = some false := by decide +kernel
theorem kb_str_int : kitB "str" "int" = some false := by decide +kernel
theorem kb_str_bool : kitB "str" "bool" = some false := by decide +kernel
theorem kb_str_str : kitB "str" "str" = some true := by decide +kernel
theorem kb_str_tuple : kitB "str" "tuple" = some false := by decide +kernel
theorem kb_str_list : kitB "str" "list" = some false := by decide +kernel
theorem kb_str_dict : kitB "str" "dict" = some false := by decide +kernel
theorem kb_tuple_int : kitB "tuple" "int" = some false := by decide +kernel
theorem kb_tuple_bool : kitB "tuple" "bool" = some false := by decide +kernel
theorem kb_tuple_str : kitB "tuple" "str" = some false := by decide +kernel
theorem kb_tuple_tuple : kitB "tuple" "tuple" = some true := by decide +kernel
theorem kb_tuple_list : kitB "tuple" "list" = some false := by decide +kernel
theorem kb_tuple_dict : kitB "tuple" "dict" = some false := by decide +kernel
theorem kb_list_int : kitB "list" "int" = some false := by decide +kernel
theorem kb_list_bool : kitB "list" "bool" = some false := by decide +kernel
theorem kb_list_str : kitB "list" "str" = some false := by decide +kernel
theorem kb_list_tuple : kitB "list" "tuple" = some false := by decide +kernel
theorem kb_list_list : kitB "list" "list" = some true := by decide +kernel
theorem kb_list_dict : kitB "list" "dict" = some false := by decide +kernel
theorem kb_dict_int : kitB "dict" "int" = some false := by decide +kernel
theorem kb_dict_bool : kitB "dict" "bool" = some false := by decide +kernel
theorem kb_dict_str : kitB "dict" "str" = some false := by decide +kernel
theorem kb_dict_tuple : kitB "dict" "tuple" = some false := by decide +kernel
theorem kb_dict_list : kitB "dict" "list" = some false := by decide +kernel
theorem kb_dict_dict : kitB "dict" "dict" = some true := by decide +kernel
theorem kb_NoneType_int : kitB "NoneType" "int" = some false := by decide +kernel
theorem kb_NoneType_bool : kitB "NoneType" "bool" = some false := by decide +kernel
theorem kb_NoneType_str : kitB "NoneType" "str" = some false := by decide +kernel
theorem kb_NoneType_tuple : kitB "NoneType" "tuple" = some false := by decide +kernel
theorem kb_NoneType_list : kitB "NoneType" "list" = some false := by decide +kernel
theorem kb_NoneType_dict : kitB "NoneType" "dict" = some false := by decide +kernel
theorem obind_some {α β : Type} (a : α) (f : α → Option β) : (some a).bind f = f a := nrfl rfl
theorem pow_succ_eq (n : Nat) : (2 : Int) ^ n > 0 := Int.pow_pos (by decide)
def E1 := And.intro @bnd_s (And.intro @lft_s (And.intro @lft_n (And.intro @bnd_n (And.intro @obind_some (And.intro @ev_var (And.intro @ev_int (And.intro @ev_str (And.intro @ev_bl (And.intro @ev_non (And.intro @ev_con (And.intro @ev_bin (And.intro @ev_neg (And.intro @ev_cmp (And.intro @ev_ch (And.intro @ev_and (And.intro @ev_or (And.intro @ev_one (And.intro @ev_not (And.intro @ev_ifE (And.intro @ev_tup (And.intro @ev_lst (And.intro @ev_mlst (And.intro @ev_dict (And.intro @ev_idx (@ev_sl)))))))))))))))))))))))))
def E2 := And.intro @ev_madd (And.intro @ev_slR (And.intro @ev_call (And.intro @ev_bi (And.intro @ev_isI (And.intro @ev_meth (And.intro @ev_mdict (And.intro @ev_dget (And.intro @ev_sset (And.intro @ev_lc (And.intro @ev_lc2 (And.intro @ev_nil (And.intro @ev_cons (And.intro @ev_oN (And.intro @ev_oS (And.intro @ev_cN (And.intro @ev_cS (And.intro @ev_pN (And.intro @ev_pC (And.intro @ev_seq (And.intro @ev_rng (And.intro @ev_T (And.intro @ev_asg (And.intro @ev_par2 (And.intro @ev_par3 (And.intro @ev_aug (And.intro @ev_setI (And.intro @ev_augI (And.intro @ev_ifS (And.intro @ev_whl (And.intro @ev_for (@ev_ret)))))))))))))))))))))))))))))))
def E3 := And.intro @ev_retN (And.intro @ev_ex (And.intro @ev_pass (And.intro @ev_brk (And.intro @ev_sN (And.intro @ev_sC (And.intro @sq_nx (And.intro @sq_rt (And.intro @sq_bk (And.intro @fin_nx (And.intro @fin_rt (And.intro @cls_f (And.intro @cls_t (And.intro @sz_0 (And.intro @sz_1 (And.intro @sz_2 (And.intro @sz_3 (And.intro @sz_4 (And.intro @sz_5 (And.intro @sz_6 (And.intro @sz_7 (And.intro @sz_8 (And.intro @sz_9 (And.intro @sz_10 (@sz_11))))))))))))))))))))))))
def E4 := And.intro @sz_12 (And.intro @sz_13 (And.intro @sz_14 (And.intro @sz_15 (And.intro @sz_16 (And.intro @sz_17 (And.intro @sz_18 (And.intro @sz_19 (And.intro @sz_20 (And.intro @sz_21 (And.intro @sz_22 (And.intro @sz_23 (And.intro @sz_24 (And.intro @sz_25 (And.intro @sz_26 (And.intro @sz_27 (And.intro @sz_28 (And.intro @sz_29 (And.intro @sz_30 (And.intro @sz_31 (And.intro @sz_32 (And.intro @sz_33 (And.intro @sz_34 (And.intro @sz_35 (@sz_36))))))))))))))))))))))))
def E5 := And.intro @sz_37 (And.intro @sz_38 (And.intro @sz_39 (And.intro @sz_40 (And.intro @kb_int_int (And.intro @kb_int_bool (And.intro @kb_int_str (And.intro @kb_int_tuple (And.intro @kb_int_list (And.intro @kb_int_dict (And.intro @kb_bool_int (And.intro @kb_bool_bool (And.intro @kb_bool_str (And.intro @kb_bool_tuple (And.intro @kb_bool_list (And.intro @kb_bool_dict (And.intro @kb_str_int (And.intro @kb_str_bool (And.intro @kb_str_str (And.intro @kb_str_tuple (And.intro @kb_str_list (And.intro @kb_str_dict (And.intro @kb_tuple_int (And.intro @kb_tuple_bool (@kb_tuple_str))))))))))))))))))))))))
def E6 := And.intro @kb_tuple_tuple (And.intro @kb_tuple_list (And.intro @kb_tuple_dict (And.intro @kb_list_int (And.intro @kb_list_bool (And.intro @kb_list_str (And.intro @kb_list_tuple (And.intro @kb_list_list (And.intro @kb_list_dict (And.intro @kb_dict_int (And.intro @kb_dict_bool (And.intro @kb_dict_str (And.intro @kb_dict_tuple (And.intro @kb_dict_list (And.intro @kb_dict_dict (And.intro @kb_NoneType_int (And.intro @kb_NoneType_bool (And.intro @kb_NoneType_str (And.intro @kb_NoneType_tuple (And.intro @kb_NoneType_list (And.intro @kb_NoneType_dict (And.intro @asg_name (And.intro @asg_tup (And.intro @asg_lst (@asg_nil))))))))))))))))))))))))
def E7 := And.intro @asg_cons (And.intro @add_i (And.intro @add_t (And.intro @add_s (And.intro @add_l (And.intro @sub_i (And.intro @sub_b (And.intro @mul_i (And.intro @div_i (And.intro @mod_i (And.intro @pow_i (And.intro @shl_i (And.intro @shr_i (And.intro @lt_i (And.intro @le_i (And.intro @gt_i (And.intro @ge_i (And.intro @eq_i (And.intro @ne_i (And.intro @eq_b (And.intro @ne_b (And.intro @eq_s (And.intro @ne_s (And.intro @eq_n (@ne_n))))))))))))))))))))))))
def E8 := And.intro @is_bl (And.intro @isnt_bl (And.intro @is_n (And.intro @isnt_n (And.intro @tru_b (And.intro @tru_i (And.intro @tru_n (And.intro @idx_t (And.intro @idx_l (And.intro @idx_f (And.intro @at_0 (And.intro @at_1 (And.intro @at_2 (And.intro @abs_i (And.intro @max_i (And.intro @min_i (And.intro @int_i (And.intro @int_b (And.intro @str_i (And.intro @len_t (And.intro @len_l (And.intro @len_f (And.intro @aug_addI (And.intro @aug_subI (And.intro @ty_i (And.intro @ty_b (@ty_n))))))))))))))))))))))))))
def E9 := And.intro @ev_attr (And.intro @ev_mcall (And.intro @ev_make (And.intro @ev_setA (And.intro @and_i (And.intro @xor_i (And.intro @any_l (And.intro @all_l (And.intro @ty_s (And.intro @ty_t (And.intro @ty_l (And.intro @it_t (And.intro @it_l (And.intro @it_f (@prune_same))))))))))))))
end Rw

/-! M16: fractions -/
namespace Rw
open PySem L2

def fr (q : Rat) : D := .tup [.int q.num, .int (q.den : Int)]
/-- of at most n bits -/
def Bd (n : Nat) (a : Int) : Prop := a.natAbs < 2 ^ n
def Sm (n : Nat) (q : Rat) : Prop := q.num.natAbs < 2 ^ n ∧ q.den < 2 ^ n
theorem log_lt {a n : Nat} (h : a < 2 ^ n) (hn : 0 < n) : a.log2 < n := by
  by_cases e : a = 0
  · subst e
    simpa using hn
  · exact (Nat.log2_lt e).mpr h
theorem Bd.mono {n m : Nat} {a : Int} (h : Bd n a) (l : n ≤ m) : Bd m a := Nat.lt_of_lt_of_le h (Nat.pow_le_pow_right (by decide) l)
theorem Sm.mono {n m : Nat} {q : Rat} (h : Sm n q) (l : n ≤ m) : Sm m q := ⟨Nat.lt_of_lt_of_le h.1 (Nat.pow_le_pow_right (by decide) l), Nat.lt_of_lt_of_le h.2 (Nat.pow_le_pow_right (by decide) l)⟩
theorem Bd.mulOk {n m : Nat} {a b : Int} (h : Bd n a) (g : Bd m b) (l : n + m < 500000) : mulOk a b := by
  have h1 := log_lt (h.mono (Nat.le_succ n)) (Nat.succ_pos n)
  have h2 := log_lt (g.mono (Nat.le_succ m)) (Nat.succ_pos m)
  unfold Rw.mulOk
  omega
theorem Bd.divOk {n : Nat} {a : Int} (h : Bd n a) (z : a ≠ 0) (l : n < 9000) : divOk a := ⟨z, Nat.lt_of_lt_of_le (log_lt (h.mono (Nat.le_succ n)) (Nat.succ_pos n)) l⟩
theorem Bd.mul {n m : Nat} {a b : Int} (h : Bd n a) (g : Bd m b) : Bd (n + m) (a * b) := by
  unfold Bd at *
  rw [Int.natAbs_mul, Nat.pow_add]
  exact Nat.mul_lt_mul'' h g
theorem Bd.add {n m : Nat} {a b : Int} (h : Bd n a) (g : Bd m b) : Bd (max n m + 1) (a + b) := by
  have h' := h.mono (Nat.le_max_left n m)
  have g' := g.mono (Nat.le_max_right n m)
  unfold Bd at *
  have := Int.natAbs_add_le a b
  rw [Nat.pow_succ]
  omega
theorem Bd.neg {n : Nat} {a : Int} (h : Bd n a) : Bd n (-a) := by
  unfold Bd at *
  rwa [Int.natAbs_neg]
theorem Bd.sub {n m : Nat} {a b : Int} (h : Bd n a) (g : Bd m b) : Bd (max n m + 1) (a - b) := by
  rw [Int.sub_eq_add_neg]
  exact h.add g.neg
theorem Bd.of_le {n : Nat} {a b : Int} (h : Bd n a) (l : b.natAbs ≤ a.natAbs) : Bd n b := Nat.lt_of_le_of_lt l h
theorem Sm.nm {n : Nat} {q : Rat} (h : Sm n q) : Bd n q.num := h.1
theorem Sm.dn {n : Nat} {q : Rat} (h : Sm n q) : Bd n (q.den : Int) := by simpa [Bd] using h.2
theorem den_ne {q : Rat} : (q.den : Int) ≠ 0 := by
  have := q.den_nz
  omega
theorem den_pos {q : Rat} : (0 : Int) < (q.den : Int) := by
  have := q.den_pos
  omega
theorem num_le {a b : Int} : (Rat.divInt a b).num.natAbs ≤ a.natAbs := by
  rw [Rat.num_divInt]
  refine Nat.le_trans (Int.natAbs_ediv_le_natAbs _ _) ?_
  rw [Int.natAbs_mul]
  have : b.sign.natAbs ≤ 1 := by
    rcases Int.lt_trichotomy b 0 with h | h | h
    · rw [Int.sign_eq_neg_one_of_neg h]; decide
    · rw [h]; decide
    · rw [Int.sign_eq_one_of_pos h]; decide
  calc _ ≤ 1 * a.natAbs := Nat.mul_le_mul_right _ this
    _ = _ := Nat.one_mul _
theorem den_le {a b : Int} (h : b ≠ 0) : (Rat.divInt a b).den ≤ b.natAbs := by
  rw [Rat.den_divInt, if_neg h]
  exact Nat.div_le_self _ _
theorem Sm.div {n m : Nat} {a b : Int} (h : Bd n a) (g : Bd m b) (z : b ≠ 0) : Sm (max n m) (Rat.divInt a b) :=
  ⟨Nat.lt_of_le_of_lt num_le (h.mono (Nat.le_max_left n m)), Nat.lt_of_le_of_lt (den_le z) (g.mono (Nat.le_max_right n m))⟩
theorem add_eq (p q : Rat) : p + q = Rat.divInt (p.num * q.den + q.num * p.den) (p.den * q.den) := by
  conv => lhs; rw [← Rat.num_divInt_den p, ← Rat.num_divInt_den q]
  exact Rat.divInt_add_divInt _ _ den_ne den_ne
theorem mul_eq (p q : Rat) : p * q = Rat.divInt (p.num * q.num) (p.den * q.den) := by
  conv => lhs; rw [← Rat.num_divInt_den p, ← Rat.num_divInt_den q]
  exact Rat.divInt_mul_divInt _ _
theorem div_eq (p q : Rat) : p / q = Rat.divInt (p.num * q.den) (p.den * q.num) := by
  conv => lhs; rw [← Rat.num_divInt_den p, ← Rat.num_divInt_den q]
  rw [Rat.div_def, Rat.inv_divInt, Rat.divInt_mul_divInt]
theorem Sm.add {n m : Nat} {p q : Rat} (h : Sm n p) (g : Sm m q) : Sm (n + m + 1) (p + q) := by
  rw [add_eq]
  have h1 := (h.nm.mul g.dn).add (g.nm.mul h.dn)
  have h2 := h.dn.mul g.dn
  have := Sm.div h1 h2 (Int.mul_ne_zero den_ne den_ne)
  exact this.mono (by omega)
theorem Sm.mul {n m : Nat} {p q : Rat} (h : Sm n p) (g : Sm m q) : Sm (n + m) (p * q) := by
  rw [mul_eq]
  have := Sm.div (h.nm.mul g.nm) (h.dn.mul g.dn) (Int.mul_ne_zero den_ne den_ne)
  exact this.mono (by omega)
theorem Sm.neg {n : Nat} {p : Rat} (h : Sm n p) : Sm n (-p) := by
  refine ⟨?_, h.2⟩
  show (-p.num).natAbs < _
  rw [Int.natAbs_neg]
  exact h.1
theorem num_ne {q : Rat} (h : q ≠ 0) : q.num ≠ 0 := fun e => h (Rat.num_eq_zero.mp e)
theorem Sm.quo {n m : Nat} {p q : Rat} (h : Sm n p) (g : Sm m q) (z : q ≠ 0) : Sm (n + m) (p / q) := by
  rw [div_eq]
  have := Sm.div (h.nm.mul g.dn) (h.dn.mul g.nm) (Int.mul_ne_zero den_ne (num_ne z))
  exact this.mono (by omega)
theorem fr_neg {p : Rat} : fr (-p) = .tup [.int (-p.num), .int (p.den : Int)] := rfl
theorem fr_abs {p : Rat} : fr p.abs = .tup [.int (if p.num < 0 then -p.num else p.num), .int (p.den : Int)] := by
  unfold Rat.abs
  by_cases h : 0 ≤ p
  · have : ¬ p.num < 0 := by
      have := Rat.num_nonneg.mpr h
      omega
    simp only [h, this, if_true, if_false]
    rfl
  · have : p.num < 0 := by
      have : ¬ 0 ≤ p.num := fun q => h (Rat.num_nonneg.mp q)
      omega
    simp only [h, this, if_true, if_false]
    rfl
/-- least terms -/
theorem fr_div {u l : Int} (h : l ≠ 0) : fr (Rat.divInt u l) = .tup [.int (u.fdiv (if 0 < l then (Int.gcd u l : Int) else -(Int.gcd u l : Int))), .int (l.fdiv (if 0 < l then (Int.gcd u l : Int) else -(Int.gcd u l : Int)))] := by
  have hg : (Int.gcd u l : Int) ≠ 0 := by
    have : Int.gcd u l ≠ 0 := fun e => h (Int.gcd_eq_zero_iff.mp e).2
    omega
  have d1 : (Int.gcd u l : Int) ∣ u := Int.gcd_dvd_left ..
  have d2 : (Int.gcd u l : Int) ∣ l := Int.gcd_dvd_right ..
  unfold fr
  rw [Rat.num_divInt, Rat.den_divInt, if_neg h, Int.gcd_comm l u]
  by_cases c : 0 < l
  · rw [if_pos c, Int.fdiv_eq_ediv_of_dvd d1, Int.fdiv_eq_ediv_of_dvd d2, Int.sign_eq_one_of_pos c, Int.one_mul]
    congr
    rw [Int.natCast_ediv]
    congr
    omega
  · have cl : l < 0 := by omega
    rw [if_neg c, Int.fdiv_eq_ediv_of_dvd (Int.neg_dvd.mpr d1), Int.fdiv_eq_ediv_of_dvd (Int.neg_dvd.mpr d2), Int.sign_eq_neg_one_of_neg cl, Int.ediv_neg, Int.ediv_neg]
    have e1 : -1 * u / (Int.gcd u l : Int) = -(u / (Int.gcd u l : Int)) := by
      rw [Int.neg_one_mul, Int.neg_ediv_of_dvd d1]
    have e2 : ((l.natAbs / Int.gcd u l : Nat) : Int) = -(l / (Int.gcd u l : Int)) := by
      rw [Int.natCast_ediv, ← Int.neg_ediv_of_dvd d2]
      congr
      omega
    rw [e1, e2]
theorem gcd_bd {n : Nat} {u l : Int} (h : l ≠ 0) (g : Bd n l) : Bd n (Int.gcd u l : Int) := by
  refine Nat.lt_of_le_of_lt ?_ g
  show Int.gcd u l ≤ l.natAbs
  exact Nat.le_of_dvd (by omega) (Nat.gcd_dvd_right _ _)
theorem gcd_ne {u l : Int} (h : l ≠ 0) : (Int.gcd u l : Int) ≠ 0 := by
  have : Int.gcd u l ≠ 0 := fun e => h (Int.gcd_eq_zero_iff.mp e).2
  omega
theorem lt_eq {p q : Rat} : decide (p.num * (q.den : Int) < q.num * (p.den : Int)) = decide (p < q) := by
  rw [decide_eq_decide, Rat.lt_iff]
theorem le_eq {p q : Rat} : decide (p.num * (q.den : Int) ≤ q.num * (p.den : Int)) = decide (p ≤ q) := by
  rw [decide_eq_decide, Rat.le_iff]
theorem fmod_nat (m n : Nat) : Int.fmod (m : Int) (n : Int) = ((m % n : Nat) : Int) := by
  rw [Int.fmod_eq_emod_of_nonneg _ (by omega)]
  rfl
theorem abs_nat (a : Int) : (if a < 0 then -a else a) = (a.natAbs : Int) := by
  split <;> omega
/-! powers of two -/
theorem shl_one {b : Int} (h : 0 ≤ b) (g : b ≤ 10000) : shlOk 1 b := by
  refine ⟨h, ?_⟩
  have : Builtin.Int.intBits 1 = 1 := by decide +kernel
  rw [this]
  omega
/-- how many bits -/
def bln (m : Nat) : Nat := if m = 0 then 0 else m.log2 + 1
theorem bln_lt (m i : Nat) : i < bln m ↔ 2 ^ i ≤ m := by
  unfold bln
  split
  · rename_i h
    subst h
    have := Nat.two_pow_pos i
    omega
  · rename_i h
    rw [← Nat.le_log2 h]
    omega
theorem bln_shr {m i : Nat} : (0 : Int) < (m : Int) / 2 ^ (i : Int).toNat ↔ i < bln m := by
  rw [bln_lt]
  have e : ((m : Int) / 2 ^ (i : Int).toNat) = ((m / 2 ^ i : Nat) : Int) := by
    rw [Int.toNat_natCast, Int.natCast_ediv, Int.natCast_pow]
    rfl
  rw [e]
  have := Nat.div_pos_iff (a := m) (b := 2 ^ i)
  have := Nat.two_pow_pos i
  constructor
  · intro h
    have : 0 < m / 2 ^ i := by omega
    omega
  · intro h
    have : 0 < m / 2 ^ i := by omega
    omega
theorem two_nat (n : Nat) : (2 : Rat) ^ n = Rat.divInt ((2 ^ n : Nat) : Int) 1 := by
  induction n with
  | zero => rfl
  | succ n ih =>
    rw [Rat.pow_succ, ih, show (2 : Rat) = Rat.divInt 2 1 from rfl, Rat.divInt_mul_divInt]
    congr 1
theorem two_num (n : Nat) : ((2 : Rat) ^ n).num = (2 : Int) ^ n ∧ ((2 : Rat) ^ n).den = 1 := by
  rw [two_nat]
  refine ⟨?_, ?_⟩
  · rw [Rat.num_divInt]
    simp
  · rw [Rat.den_divInt]
    simp
theorem two_neg (n : Nat) : ((2 : Rat) ^ (-(n : Int))).num = 1 ∧ ((2 : Rat) ^ (-(n : Int))).den = 2 ^ n := by
  have e : (2 : Rat) ^ (-(n : Int)) = Rat.divInt 1 ((2 ^ n : Nat) : Int) := by
    rw [Rat.zpow_neg, Rat.zpow_natCast, two_nat, Rat.inv_divInt]
  have h : ((2 ^ n : Nat) : Int) ≠ 0 := by
    have := Nat.two_pow_pos n
    omega
  rw [e]
  refine ⟨?_, ?_⟩
  · rw [Rat.num_divInt, Int.sign_eq_one_of_pos (by have := Nat.two_pow_pos n; omega)]
    simp
  · rw [Rat.den_divInt, if_neg h]
    simp
theorem fr_two {b : Int} : fr ((2 : Rat) ^ b) = if 0 ≤ b then .tup [.int (2 ^ b.toNat), .int 1] else .tup [.int 1, .int (2 ^ (-b).toNat)] := by
  unfold fr
  split
  · rename_i h
    obtain ⟨n, rfl⟩ := Int.eq_ofNat_of_zero_le h
    rw [Rat.zpow_natCast, (two_num n).1, (two_num n).2]
    rfl
  · rename_i h
    obtain ⟨n, e⟩ := Int.eq_ofNat_of_zero_le (show 0 ≤ -b by omega)
    have : b = -(n : Int) := by omega
    subst this
    rw [(two_neg n).1, (two_neg n).2, Int.neg_neg, Int.toNat_natCast, Int.natCast_pow]
    rfl
theorem sm_two {b : Int} {m : Nat} (h : b.natAbs ≤ m) : Sm (m + 1) ((2 : Rat) ^ b) := by
  by_cases c : 0 ≤ b
  · obtain ⟨n, rfl⟩ := Int.eq_ofNat_of_zero_le c
    rw [Rat.zpow_natCast]
    unfold Sm
    rw [(two_num n).1, (two_num n).2]
    refine ⟨?_, Nat.one_lt_two_pow (by omega)⟩
    rw [Int.natAbs_pow]
    exact Nat.pow_lt_pow_right (by decide) (by omega)
  · obtain ⟨n, e⟩ := Int.eq_ofNat_of_zero_le (show 0 ≤ -b by omega)
    have : b = -(n : Int) := by omega
    subst this
    unfold Sm
    rw [(two_neg n).1, (two_neg n).2]
    exact ⟨Nat.one_lt_two_pow (by omega), Nat.pow_lt_pow_right (by decide) (by omega)⟩
end Rw

/-! M17: loops, data alike -/
namespace Rw
open PySem L2

/-! ### loops -/
section
variable {all : List D} {body : D → Env → Sto → Rs Fl} {ρ ρ1 : Env} {S S1 : Sto} {x d : D} {xs : List D}
theorem forL_nil : forL none all body [] ρ S = some (.nx ρ, S) := by
  simp only [forL, okS, if_true, reduceIte]
theorem forL_cons (h : body x ρ S = some (.nx ρ1, S1)) : forL none all body (x :: xs) ρ S = forL none all body xs ρ1 S1 := by
  simp only [forL, okS, if_true, h, bnd_some]
theorem forL_ret (h : body x ρ S = some (.rt d, S1)) : forL none all body (x :: xs) ρ S = some (.rt d, S1) := by
  simp only [forL, okS, if_true, h, bnd_some]
theorem forL_brk (h : body x ρ S = some (.bk ρ1, S1)) : forL none all body (x :: xs) ρ S = some (.nx ρ1, S1) := by
  simp only [forL, okS, if_true, h, bnd_some]
theorem forL_run {I : Nat → Env → Sto → Prop} (step : ∀ (i : Nat) (x : D) (ρ : Env) (S : Sto), xs[i]? = some x → I i ρ S → ∃ ρ1 S1, body x ρ S = some (.nx ρ1, S1) ∧ I (i + 1) ρ1 S1) (h0 : I 0 ρ S) :
    ∃ ρ1 S1, forL none all body xs ρ S = some (.nx ρ1, S1) ∧ I xs.length ρ1 S1 := by
  induction xs generalizing ρ S I with
  | nil => exact ⟨ρ, S, forL_nil, h0⟩
  | cons x xs ih =>
    obtain ⟨ρ1, S1, h1, h2⟩ := step 0 x ρ S rfl h0
    obtain ⟨ρ2, S2, h3, h4⟩ := ih (I := fun i => I (i + 1)) (fun i y ρ S e h => step (i + 1) y ρ S e h) h2
    exact ⟨ρ2, S2, (forL_cons h1).trans h3, h4⟩
variable {turn : D → Sto → Rs (Option D)} {acc : List D} {y : D}
theorem compL_nil : compL none all turn [] S acc = some (acc, S) := by
  simp only [compL, okS, if_true, reduceIte]
theorem compL_some (h : turn x S = some (some y, S1)) : compL none all turn (x :: xs) S acc = compL none all turn xs S1 (acc ++ [y]) := by
  simp only [compL, okS, if_true, h, bnd_some]
theorem compL_none (h : turn x S = some (none, S1)) : compL none all turn (x :: xs) S acc = compL none all turn xs S1 acc := by
  simp only [compL, okS, if_true, h, bnd_some]
theorem compL_fm {f : D → Option D} (h : ∀ x ∈ xs, turn x S = some (f x, S)) : compL none all turn xs S acc = some (acc ++ xs.filterMap f, S) := by
  induction xs generalizing acc with
  | nil => rw [compL_nil]; simp
  | cons x xs ih =>
    have h1 := h x List.mem_cons_self
    have h2 := fun acc => ih (acc := acc) fun z hz => h z (List.mem_cons_of_mem _ hz)
    cases c : f x with
    | none => rw [compL_none (by rw [h1, c]), h2, List.filterMap_cons, c]
    | some y => rw [compL_some (by rw [h1, c]), h2, List.filterMap_cons, c]; simp
theorem compL_map {f : D → D} (h : ∀ x ∈ xs, turn x S = some (some (f x), S)) : compL none all turn xs S acc = some (acc ++ xs.map f, S) := by
  rw [compL_fm (f := fun x => some (f x)) h]
  congr
  induction xs with
  | nil => rfl
  | cons x xs ih => simp only [List.filterMap_cons, List.map_cons, ih fun z hz => h z (List.mem_cons_of_mem _ hz)]
end
section
variable {all : List D} {turn : D → Sto → List D → Rs (List D)} {x : D} {xs acc acc1 : List D} {S S1 : Sto}
theorem compA_nil : compA none all turn [] S acc = some (acc, S) := by
  simp only [compA, okS, if_true, reduceIte]
theorem compA_cons (h : turn x S acc = some (acc1, S1)) : compA none all turn (x :: xs) S acc = compA none all turn xs S1 acc1 := by
  simp only [compA, okS, if_true, reduceIte, h, bnd_some]
/-- all turns add their lists -/
theorem compA_app {f : D → List D} (h : ∀ x ∈ xs, ∀ acc, turn x S acc = some (acc ++ f x, S)) : compA none all turn xs S acc = some (acc ++ xs.flatMap f, S) := by
  induction xs generalizing acc with
  | nil => rw [compA_nil]; simp
  | cons x xs ih =>
    rw [compA_cons (h x List.mem_cons_self acc), ih fun y hy => h y (List.mem_cons_of_mem _ hy), List.flatMap_cons, List.append_assoc]
end
/-! ### the store -/
section
variable {S T : Sto} {c c' : Cell} {d : D}
theorem at_new : (S ++ [c])[S.length]? = some c := by simp
theorem set_new : (S ++ [c]).set S.length c' = S ++ [c'] := by simp
theorem prune_len {S' : Sto} (h : S'.length = S.length) : prune S d S' = (d, S') := by
  unfold prune
  split
  · rename_i c
    have : S'.take S.length = S' := List.take_of_length_le (by omega)
    rw [this] at c
    rw [← c.1]
  · rfl
theorem prune_one (h : below S.length d = true) : prune S d (S ++ [c]) = (d, S) := prune_new h
theorem prune_ap (h : below S.length d = true) : prune S d (S ++ T) = (d, S) := prune_new h
theorem getRef : lstOf (S ++ [.lst xs]) (.ref S.length) = some xs := by
  simp only [lstOf, at_new]
theorem bl_int {n : Nat} {i : Int} : below n (.int i) = true := rfl
theorem bl_bl {n : Nat} {i : Bool} : below n (.bl i) = true := rfl
theorem bl_str {n : Nat} {i : Str} : below n (.str i) = true := rfl
theorem bl_non {n : Nat} : below n .non = true := rfl
theorem bls_map {n : Nat} {α : Type} {f : α → D} (h : ∀ x, below n (f x) = true) : ∀ xs : List α, belows n (xs.map f) = true
  | [] => rfl
  | x :: xs => by
    show (below n (f x) && belows n (xs.map f)) = true
    rw [h x, bls_map h xs]
    rfl
theorem bl_fr {n : Nat} {q : Rat} : below n (fr q) = true := rfl
end
/-! ### data alike -/
mutual
/-- plain data: no references, of limited depth -/
def okD : Nat → D → Bool
  | _, .non => true
  | _, .bl _ => true
  | _, .int _ => true
  | _, .str s => PyData.strOk s
  | 0, .tup _ => false
  | 0, .lst _ => false
  | n + 1, .tup xs => okDs n xs && decide (xs.length ≤ sizeLine)
  | n + 1, .lst xs => okDs n xs && decide (xs.length ≤ sizeLine)
  | _, _ => false
def okDs : Nat → List D → Bool
  | _, [] => true
  | n, x :: xs => okD n x && okDs n xs
end
mutual
def pdD : D → PyData
  | .bl b => .bool b
  | .int i => .int i
  | .str s => .str s
  | .tup xs => .tuple (pdDs xs)
  | .lst xs => .list (pdDs xs)
  | _ => .none
def pdDs : List D → List PyData
  | [] => []
  | x :: xs => pdD x :: pdDs xs
end
mutual
theorem pd_ok {S : Sto} : ∀ (n : Nat) (d : D), okD n d = true → pd S d = some (pdD d) ∧ (pdD d).canLay0 = true ∧ (pdD d).depth ≤ n
  | _, .non, _ => ⟨rfl, rfl, Nat.zero_le _⟩
  | _, .bl _, _ => ⟨rfl, rfl, Nat.zero_le _⟩
  | _, .int _, _ => ⟨rfl, rfl, Nat.zero_le _⟩
  | n, .str s, h => ⟨rfl, by
    have : PyData.strOk s = true := by cases n <;> exact h
    simpa [pdD, PyData.canLay0] using this, by simp [pdD, PyData.depth]⟩
  | 0, .tup xs, h => absurd (show false = true from h) Bool.false_ne_true
  | 0, .lst xs, h => absurd (show false = true from h) Bool.false_ne_true
  | n + 1, .tup xs, h => by
    obtain ⟨h1, _⟩ := bk (show (okDs n xs && decide (xs.length ≤ sizeLine)) = true from h)
    obtain ⟨a, b, c⟩ := pds_ok n xs h1
    refine ⟨?_, ?_, ?_⟩
    · show (pds S xs).map PyData.tuple = _
      rw [a]
      rfl
    · simpa [pdD, PyData.canLay0] using b
    · simp only [pdD, PyData.depth]
      omega
  | n + 1, .lst xs, h => by
    obtain ⟨h1, _⟩ := bk (show (okDs n xs && decide (xs.length ≤ sizeLine)) = true from h)
    obtain ⟨a, b, c⟩ := pds_ok n xs h1
    refine ⟨?_, ?_, ?_⟩
    · show (pds S xs).map PyData.list = _
      rw [a]
      rfl
    · simpa [pdD, PyData.canLay0] using b
    · simp only [pdD, PyData.depth]
      omega
  | n, .flst _, h => by cases n <;> exact absurd (show false = true from h) Bool.false_ne_true
  | n, .ref _, h => by cases n <;> exact absurd (show false = true from h) Bool.false_ne_true
  | n, .ty _, h => by cases n <;> exact absurd (show false = true from h) Bool.false_ne_true
theorem pds_ok {S : Sto} : ∀ (n : Nat) (ds : List D), okDs n ds = true → pds S ds = some (pdDs ds) ∧ PyData.canLayAll0 (pdDs ds) = true ∧ PyData.depthAll (pdDs ds) ≤ n
  | n, [], _ => ⟨rfl, rfl, Nat.zero_le _⟩
  | n, x :: xs, h => by
    obtain ⟨h1, h2⟩ := bk (show (okD n x && okDs n xs) = true from h)
    obtain ⟨a, b, c⟩ := pd_ok (S := S) n x h1
    obtain ⟨a', b', c'⟩ := pds_ok (S := S) n xs h2
    refine ⟨by simp only [pds, a, a', pdDs], ?_, ?_⟩
    · simp [pdDs, PyData.canLayAll0, b, b']
    · simp only [pdDs, PyData.depthAll]
      omega
end
def dup (d : D) : D := .tup [d, d]
theorem dup_ok {n : Nat} : ∀ {ds : List D}, okDs n ds = true → okDs (n + 1) (ds.map dup) = true
  | [], _ => rfl
  | d :: ds, h => by
    obtain ⟨h1, h2⟩ := bk (show (okD n d && okDs n ds) = true from h)
    show (okD (n + 1) (dup d) && okDs (n + 1) (ds.map dup)) = true
    rw [dup_ok h2]
    show ((okDs n [d, d] && decide ([d, d].length ≤ sizeLine)) && true) = true
    have : okDs n [d, d] = true := by
      show (okD n d && (okD n d && true)) = true
      rw [h1]
      rfl
    rw [this]
    rfl
/-- a list of the store told from the empty one -/
theorem ne_nil {S : Sto} {ds : List D} {n : Nat} (h : okDs n ds = true) (hn : n ≤ 63) : cmpD (S ++ [.lst ds]) .NotEq (.ref S.length) (.lst []) = some (!ds.isEmpty) := by
  obtain ⟨a, b, c⟩ := pds_ok (S := S ++ [.lst ds]) n ds h
  have e1 : pdT (S ++ [.lst ds]) (.ref S.length) = some (.list (pdDs ds)) := by
    simp only [pdT, at_new, a]
    rfl
  have s1 : SeqAt.shaped (.list (pdDs ds)) = true := by
    have h1 : (PyData.list (pdDs ds)).canLay0 = true := by simpa [PyData.canLay0] using b
    have h2 : (PyData.list (pdDs ds)).depth ≤ 64 := by
      simp only [PyData.depth]
      omega
    unfold SeqAt.shaped
    rw [h1, decide_eq_true h2]
    rfl
  show (eqD _ _ _).map _ = _
  have e2 : eqD (S ++ [.lst ds]) (.ref S.length) (.lst []) = some ds.isEmpty := by
    show (match pdT (S ++ [.lst ds]) (.ref S.length), pdT (S ++ [.lst ds]) (.lst []) with
    | some p, some q => if SeqAt.shaped p = true ∧ SeqAt.shaped q = true then some (PyData.eqv p q) else none
    | _, _ => none) = _
    rw [e1]
    show (if SeqAt.shaped (.list (pdDs ds)) = true ∧ SeqAt.shaped (.list []) = true then some (PyData.eqv (.list (pdDs ds)) (.list [])) else none) = _
    rw [if_pos ⟨s1, rfl⟩]
    cases ds <;> rfl
  rw [e2]
  rfl
theorem okDs_ap {n : Nat} : ∀ {a b : List D}, okDs n (a ++ b) = (okDs n a && okDs n b)
  | [], _ => rfl
  | x :: a, b => by
    show (okD n x && okDs n (a ++ b)) = ((okD n x && okDs n a) && okDs n b)
    rw [okDs_ap, Bool.and_assoc]
mutual
theorem okD_mono {m : Nat} : ∀ {n : Nat} {d : D}, n ≤ m → okD n d = true → okD m d = true
  | _, .non, _, _ => by cases m <;> rfl
  | _, .bl _, _, _ => by cases m <;> rfl
  | _, .int _, _, _ => by cases m <;> rfl
  | n, .str s, _, h => by
    have : PyData.strOk s = true := by cases n <;> exact h
    cases m <;> exact this
  | 0, .tup xs, _, h => absurd (show false = true from h) Bool.false_ne_true
  | 0, .lst xs, _, h => absurd (show false = true from h) Bool.false_ne_true
  | n + 1, .tup xs, l, h => by
    obtain ⟨h1, h2⟩ := bk (show (okDs n xs && decide (xs.length ≤ sizeLine)) = true from h)
    cases m with
    | zero => omega
    | succ m =>
      show (okDs m xs && decide (xs.length ≤ sizeLine)) = true
      rw [okDs_mono (by omega) h1, h2]
      rfl
  | n + 1, .lst xs, l, h => by
    obtain ⟨h1, h2⟩ := bk (show (okDs n xs && decide (xs.length ≤ sizeLine)) = true from h)
    cases m with
    | zero => omega
    | succ m =>
      show (okDs m xs && decide (xs.length ≤ sizeLine)) = true
      rw [okDs_mono (by omega) h1, h2]
      rfl
  | n, .flst _, _, h => by cases n <;> exact absurd (show false = true from h) Bool.false_ne_true
  | n, .ref _, _, h => by cases n <;> exact absurd (show false = true from h) Bool.false_ne_true
  | n, .ty _, _, h => by cases n <;> exact absurd (show false = true from h) Bool.false_ne_true
theorem okDs_mono {m : Nat} : ∀ {n : Nat} {ds : List D}, n ≤ m → okDs n ds = true → okDs m ds = true
  | _, [], _, _ => rfl
  | n, d :: ds, l, h => by
    obtain ⟨h1, h2⟩ := bk (show (okD n d && okDs n ds) = true from h)
    show (okD m d && okDs m ds) = true
    rw [okD_mono l h1, okDs_mono l h2]
    rfl
end
mutual
def szD : D → Nat
  | .tup xs => 1 + szDs xs
  | .lst xs => 1 + szDs xs
  | _ => 1
def szDs : List D → Nat
  | [] => 0
  | x :: xs => szD x + szDs xs
end
theorem szDs_ap : ∀ {a b : List D}, szDs (a ++ b) = szDs a + szDs b
  | [], _ => by simp [szDs]
  | x :: a, b => by
    show szD x + szDs (a ++ b) = szD x + szDs a + szDs b
    rw [szDs_ap]
    omega
theorem okDs_mem {n : Nat} : ∀ {ds : List D} {d : D}, okDs n ds = true → d ∈ ds → okD n d = true
  | x :: xs, d, h, hm => by
    obtain ⟨h1, h2⟩ := bk (show (okD n x && okDs n xs) = true from h)
    rcases List.mem_cons.mp hm with rfl | hm
    · exact h1
    · exact okDs_mem h2 hm
/-! methods on the newest cell -/
section
variable {S : Sto} {xs ys : List D} {x : D}
theorem ap_new : methD .append (S ++ [.lst xs]) (.ref S.length) [x] = if xs.length < sizeLine then some (.non, S ++ [.lst (xs ++ [x])]) else none := by
  simp only [methD, at_new, set_new]
theorem pop_new : methD .pop (S ++ [.lst (xs ++ [x])]) (.ref S.length) [] = some (x, S ++ [.lst xs]) := by
  simp only [methD, at_new, set_new]
  simp
theorem ext_new : methD .extend (S ++ [.lst xs]) (.ref S.length) [.lst ys] = if xs.length + ys.length ≤ sizeLine then some (.non, S ++ [.lst (xs ++ ys)]) else none := by
  simp only [methD, at_new, set_new]
theorem len_new : biD (S ++ [.lst xs]) .len [.ref S.length] = some (.int xs.length) := by
  simp only [biD, biLen, at_new]
theorem wipe_nil {ρ : Env} : wipeE ρ [] = ρ := nrfl rfl
theorem wipe_cons {ρ : Env} {v : Nat} {vs : List Nat} : wipeE ρ (v :: vs) = (wipeE ρ vs).set v none := nrfl rfl
theorem rng_nat {n : Nat} (h : n < 2 ^ 62) : rngD [.int (n : Int)] = some ((List.range n).map fun (i : Nat) => D.int (i : Int)) := by
  have h1 : -(2 ^ 62) ≤ (n : Int) ∧ (n : Int) < 2 ^ 62 := by omega
  simp only [rngD, h1, and_self, if_true, Int.toNat_natCast, Int.zero_add]
theorem rng_two {a b : Int} (h : -(2 ^ 62) ≤ a ∧ a < 2 ^ 62 ∧ -(2 ^ 62) ≤ b ∧ b < 2 ^ 62) : rngD [.int a, .int b] = some ((List.range (b - a).toNat).map fun (i : Nat) => D.int (a + (i : Int))) := by
  simp only [rngD, h, and_self, if_true]
/-- the items by their places -/
theorem by_place {α : Type} (f : D → D) (g : α → D) (xs : List α) (h : ∀ (i : Nat) (hi : i < xs.length), f (.int i) = g xs[i]) : ((List.range xs.length).map fun (i : Nat) => D.int (i : Int)).map f = xs.map g := by
  refine List.ext_getElem (by simp) fun i h1 h2 => ?_
  simp only [List.getElem_map, List.getElem_range]
  exact h i (by simpa using h2)
end
end Rw

/-! M18: exponents, texts of fractions, sums -/
namespace Rw
open PySem L2

theorem idx_fr0 {S : Sto} {p : Rat} : idxD S (fr p) (.int 0) = some (.int p.num) := at_0
theorem idx_fr1 {S : Sto} {p : Rat} : idxD S (fr p) (.int 1) = some (.int (p.den : Int)) := at_1
theorem ty_fr {S : Sto} {p : Rat} : tyName S (fr p) = some "tuple" := nrfl rfl
theorem fr_one : fr 1 = .tup [.int 1, .int 1] := nrfl rfl
theorem fr_zero : fr 0 = .tup [.int 0, .int 1] := nrfl rfl
theorem fr_abs' {p : Rat} : fr p.abs = .tup [.int (p.num.natAbs : Int), .int (p.den : Int)] := by
  rw [fr_abs, abs_nat]
theorem abs_num {p : Rat} : p.abs.num = (p.num.natAbs : Int) := by
  have := fr_abs' (p := p)
  unfold fr at this
  injection this with h
  injection h with h1 _
  injection h1
theorem abs_den {p : Rat} : p.abs.den = p.den := by
  unfold Rat.abs
  split <;> rfl
theorem Sm.abs {n : Nat} {p : Rat} (h : Sm n p) : Sm n p.abs := by
  unfold Sm
  rw [abs_num, abs_den]
  exact h
/-- the exponent as the program finds it -/
def expF (p : Rat) : Int := (bln p.num.natAbs : Int) - (bln p.den : Int)
def expo (p : Rat) : Int := if (2 : Rat) ^ expF p ≤ p.abs then expF p else expF p - 1
theorem bln_le {n m : Nat} (h : m < 2 ^ n) : bln m ≤ n := by
  have := mt (bln_lt m n).mp (by omega)
  omega
theorem expF_le {n : Nat} {p : Rat} (h : Sm n p) : (expF p).natAbs ≤ n := by
  have h1 := bln_le h.1
  have h2 := bln_le h.2
  unfold expF
  omega
theorem expo_le {n : Nat} {p : Rat} (h : Sm n p) : (expo p).natAbs ≤ n + 1 := by
  have := expF_le h
  unfold expo
  split <;> omega
theorem mul_den (q : Rat) : q * (q.den : Rat) = (q.num : Rat) := by
  have h := Rat.num_divInt_den q
  rw [Rat.divInt_eq_div, Rat.intCast_natCast] at h
  have hz : (q.den : Rat) ≠ 0 := by
    have := Rat.natCast_pos.mpr q.den_pos
    intro e
    rw [e] at this
    exact absurd this (by decide)
  conv => lhs; arg 1; rw [← h]
  exact Rat.div_mul_cancel hz
theorem two_pos (b : Int) : (0 : Rat) < (2 : Rat) ^ b := Rat.zpow_pos (by decide)
theorem two_add (a b : Int) : (2 : Rat) ^ (a + b) = (2 : Rat) ^ a * (2 : Rat) ^ b := Rat.zpow_add (by decide) a b
theorem two_cast (n : Nat) : (((2 ^ n : Nat) : Nat) : Rat) = (2 : Rat) ^ (n : Int) := by
  rw [Rat.zpow_natCast, Rat.natCast_pow]
  rfl
theorem abs_mul (p : Rat) : p.abs * (p.den : Rat) = (p.num.natAbs : Rat) := by
  have := mul_den p.abs
  rw [abs_den, abs_num] at this
  exact this
theorem expF_lo {p : Rat} (h : p ≠ 0) : (2 : Rat) ^ (expF p - 1) ≤ p.abs := by
  have hn : p.num.natAbs ≠ 0 := by
    have := num_ne h
    omega
  have h1 : 2 ^ (bln p.num.natAbs - 1) ≤ p.num.natAbs := (bln_lt _ _).mp (by unfold bln; rw [if_neg hn]; omega)
  have h2 : p.den < 2 ^ bln p.den := by
    have := mt (bln_lt p.den (bln p.den)).mpr (by omega)
    omega
  have hb : bln p.num.natAbs ≠ 0 := by unfold bln; rw [if_neg hn]; omega
  refine Rat.le_of_mul_le_mul_right (c := (p.den : Rat)) ?_ (Rat.natCast_pos.mpr p.den_pos)
  rw [abs_mul]
  have a1 : (p.den : Rat) ≤ (2 : Rat) ^ (bln p.den : Int) := by
    rw [← two_cast]
    exact Rat.natCast_le_natCast.mpr (by omega)
  have a2 : (2 : Rat) ^ (((bln p.num.natAbs - 1 : Nat)) : Int) ≤ (p.num.natAbs : Rat) := by
    rw [← two_cast]
    exact Rat.natCast_le_natCast.mpr h1
  have a3 := Rat.mul_le_mul_of_nonneg_left a1 (Rat.le_of_lt (two_pos (expF p - 1)))
  rw [← two_add] at a3
  have e : expF p - 1 + (bln p.den : Int) = ((bln p.num.natAbs - 1 : Nat) : Int) := by
    unfold expF
    omega
  rw [e] at a3
  exact Rat.le_trans a3 a2
theorem expF_hi {p : Rat} : ¬ (2 : Rat) ^ (expF p + 1) ≤ p.abs := by
  have hd : p.den ≠ 0 := p.den_nz
  have h1 : p.num.natAbs < 2 ^ bln p.num.natAbs := by
    have := mt (bln_lt p.num.natAbs (bln p.num.natAbs)).mpr (by omega)
    omega
  have hb : bln p.den ≠ 0 := by unfold bln; rw [if_neg hd]; omega
  have h2 : 2 ^ (bln p.den - 1) ≤ p.den := (bln_lt _ _).mp (by omega)
  intro c
  have a1 : (2 : Rat) ^ (((bln p.den - 1 : Nat)) : Int) ≤ (p.den : Rat) := by
    rw [← two_cast]
    exact Rat.natCast_le_natCast.mpr h2
  have a2 : (p.num.natAbs : Rat) < (2 : Rat) ^ ((bln p.num.natAbs : Nat) : Int) := by
    rw [← two_cast]
    exact Rat.natCast_lt_natCast.mpr h1
  have a3 := Rat.mul_le_mul_of_nonneg_left a1 (Rat.le_of_lt (two_pos (expF p + 1)))
  rw [← two_add] at a3
  have e : expF p + 1 + ((bln p.den - 1 : Nat) : Int) = ((bln p.num.natAbs : Nat) : Int) := by
    unfold expF
    omega
  rw [e] at a3
  have a4 : (2 : Rat) ^ (expF p + 1) * (p.den : Rat) ≤ p.abs * (p.den : Rat) := by
    have := Rat.mul_le_mul_of_nonneg_left c (Rat.le_of_lt (Rat.natCast_pos.mpr p.den_pos))
    rw [Rat.mul_comm _ ((2 : Rat) ^ (expF p + 1)), Rat.mul_comm _ p.abs] at this
    exact this
  rw [abs_mul] at a4
  exact absurd (Rat.le_trans a3 a4) (Rat.not_le.mpr a2)
theorem expo_spec {p : Rat} (h : p ≠ 0) : (2 : Rat) ^ expo p ≤ p.abs ∧ ¬ (2 : Rat) ^ (expo p + 1) ≤ p.abs := by
  unfold expo
  split
  · rename_i c
    exact ⟨c, expF_hi⟩
  · rename_i c
    refine ⟨expF_lo h, ?_⟩
    rw [show expF p - 1 + 1 = expF p by omega]
    exact c
/-- its text -/
def prF (p : Rat) : Str := (toString p.num : Str) ++ (if (p.den : Int) = 1 then ("" : Str) else ("/" : Str) ++ (toString (p.den : Int) : Str))
def prOk (a b : Int) : Bool := decide (a.natAbs.log2 < 1920) && (decide (b.natAbs.log2 < 1920) && (decide ((("/" : Str)).length + ((toString b : Str)).length ≤ sizeLine) && (decide (((toString a : Str)).length + ((if b = 1 then ("" : Str) else ("/" : Str) ++ (toString b : Str))).length ≤ sizeLine) && PyData.strOk ((toString a : Str) ++ (if b = 1 then ("" : Str) else ("/" : Str) ++ (toString b : Str))))))
def frSum (qs : List Rat) : Rat := qs.foldl (· + ·) 0
end Rw

/-! M19: plain data told alike, among others -/
namespace Rw
open PySem L2

theorem pdDs_map : ∀ xs : List D, pdDs xs = xs.map pdD
  | [] => rfl
  | x :: xs => by rw [List.map_cons, ← pdDs_map xs]; rfl
theorem pdT_ok {S : Sto} {n : Nat} {d : D} (h : okD n d = true) : pdT S d = some (pdD d) := by
  have := (pd_ok (S := S) n d h).1
  cases d with
  | ref r => cases n <;> exact absurd (show false = true from h) Bool.false_ne_true
  | _ => exact this
theorem shaped_ok {n : Nat} {d : D} (h : okD n d = true) (hn : n ≤ 64) : SeqAt.shaped (pdD d) = true := by
  obtain ⟨_, b, c⟩ := pd_ok (S := []) n d h
  unfold SeqAt.shaped
  rw [b, decide_eq_true (show (pdD d).depth ≤ 64 by omega)]
  rfl
theorem okD_tup {n : Nat} {xs : List D} (h : okDs n xs = true) (hl : xs.length ≤ sizeLine) : okD (n + 1) (.tup xs) = true := by
  show (okDs n xs && decide (xs.length ≤ sizeLine)) = true
  rw [h, decide_eq_true hl]
  rfl
theorem okD_lst {n : Nat} {xs : List D} (h : okDs n xs = true) (hl : xs.length ≤ sizeLine) : okD (n + 1) (.lst xs) = true := by
  show (okDs n xs && decide (xs.length ≤ sizeLine)) = true
  rw [h, decide_eq_true hl]
  rfl
theorem in_t {S : Sto} {n m : Nat} {d : D} {xs : List D} (h : okD n d = true) (hn : n ≤ 64) (g : okD m (.tup xs) = true) (hm : m ≤ 64) : inD S d (.tup xs) = some (xs.any fun z => PyData.eqv (pdD z) (pdD d)) := by
  have e1 := pdT_ok (S := S) h
  have e2 := pdT_ok (S := S) g
  have s1 := shaped_ok h hn
  have s2 := shaped_ok g hm
  unfold inD
  rw [e1, e2]
  show (if SeqAt.shaped (pdD d) = true ∧ SeqAt.shaped (.tuple (pdDs xs)) = true then some ((pdDs xs).any fun z => PyData.eqv z (pdD d)) else none) = _
  rw [if_pos ⟨s1, s2⟩, pdDs_map, List.any_map]
  rfl
theorem in_l {S : Sto} {n m : Nat} {d : D} {xs : List D} (h : okD n d = true) (hn : n ≤ 64) (g : okD m (.lst xs) = true) (hm : m ≤ 64) : inD S d (.lst xs) = some (xs.any fun z => PyData.eqv (pdD z) (pdD d)) := by
  have e1 := pdT_ok (S := S) h
  have e2 := pdT_ok (S := S) g
  have s1 := shaped_ok h hn
  have s2 := shaped_ok g hm
  unfold inD
  rw [e1, e2]
  show (if SeqAt.shaped (pdD d) = true ∧ SeqAt.shaped (.list (pdDs xs)) = true then some ((pdDs xs).any fun z => PyData.eqv z (pdD d)) else none) = _
  rw [if_pos ⟨s1, s2⟩, pdDs_map, List.any_map]
  rfl
theorem eq_tt {S : Sto} {n m : Nat} {xs ys : List D} (h : okD n (.tup xs) = true) (hn : n ≤ 64) (g : okD m (.tup ys) = true) (hm : m ≤ 64) : eqD S (.tup xs) (.tup ys) = some (PyData.eqvAll (pdDs xs) (pdDs ys)) := by
  have e1 := pdT_ok (S := S) h
  have e2 := pdT_ok (S := S) g
  have s1 := shaped_ok h hn
  have s2 := shaped_ok g hm
  show (match pdT S (.tup xs), pdT S (.tup ys) with
    | some p, some q => if SeqAt.shaped p = true ∧ SeqAt.shaped q = true then some (PyData.eqv p q) else none
    | _, _ => none) = _
  rw [e1, e2]
  show (if SeqAt.shaped (pdD (.tup xs)) = true ∧ SeqAt.shaped (pdD (.tup ys)) = true then some (PyData.eqv (pdD (.tup xs)) (pdD (.tup ys))) else none) = _
  rw [if_pos ⟨s1, s2⟩]
  simp only [pdD, PyData.eqv]
theorem eq_ll {S : Sto} {n m : Nat} {xs ys : List D} (h : okD n (.lst xs) = true) (hn : n ≤ 64) (g : okD m (.lst ys) = true) (hm : m ≤ 64) : eqD S (.lst xs) (.lst ys) = some (PyData.eqvAll (pdDs xs) (pdDs ys)) := by
  have e1 := pdT_ok (S := S) h
  have e2 := pdT_ok (S := S) g
  have s1 := shaped_ok h hn
  have s2 := shaped_ok g hm
  show (match pdT S (.lst xs), pdT S (.lst ys) with
    | some p, some q => if SeqAt.shaped p = true ∧ SeqAt.shaped q = true then some (PyData.eqv p q) else none
    | _, _ => none) = _
  rw [e1, e2]
  show (if SeqAt.shaped (pdD (.lst xs)) = true ∧ SeqAt.shaped (pdD (.lst ys)) = true then some (PyData.eqv (pdD (.lst xs)) (pdD (.lst ys))) else none) = _
  rw [if_pos ⟨s1, s2⟩]
  simp only [pdD, PyData.eqv]
/-- a list told from the empty one -/
theorem ne_l {S : Sto} {n : Nat} {xs : List D} (h : okD n (.lst xs) = true) (hn : n ≤ 64) : cmpD S .NotEq (.lst xs) (.lst []) = some (!xs.isEmpty) := by
  show (eqD S (.lst xs) (.lst [])).map (!·) = _
  rw [eq_ll (m := 1) h hn rfl (by decide)]
  cases xs <;> rfl
theorem ne_l0 {S : Sto} : cmpD S .NotEq (.lst []) (.lst []) = some false := ne_l (n := 1) rfl (by decide)
theorem okD_fr {n : Nat} {p : Rat} : okD (n + 1) (fr p) = true := by
  show (okDs n [.int p.num, .int (p.den : Int)] && decide ([D.int p.num, .int (p.den : Int)].length ≤ sizeLine)) = true
  cases n <;> rfl
theorem eqv_fr {p q : Rat} : PyData.eqv (pdD (fr p)) (pdD (fr q)) = decide (p = q) := by
  simp only [pdD, fr, pdDs, PyData.eqv, PyData.eqvAll, Bool.and_true]
  by_cases h : p = q
  · subst h; simp
  · rw [decide_eq_false h]
    by_cases h1 : p.num = q.num
    · by_cases h2 : p.den = q.den
      · exact absurd (Rat.ext h1 h2) h
      · simp [h1]; omega
    · simp [h1]
theorem eq_fr {S : Sto} {p q : Rat} : cmpD S .Eq (fr p) (fr q) = some (decide (p = q)) := by
  rw [← eqv_fr]
  have := eq_tt (S := S) (n := 1) (m := 1) (xs := [.int p.num, .int (p.den : Int)]) (ys := [.int q.num, .int (q.den : Int)]) (okD_fr (n := 0) (p := p)) (by decide) (okD_fr (n := 0) (p := q)) (by decide)
  show eqD S (fr p) (fr q) = _
  rw [show fr p = .tup [.int p.num, .int (p.den : Int)] from rfl, show fr q = .tup [.int q.num, .int (q.den : Int)] from rfl, this]
  simp only [pdD, PyData.eqv]
theorem ne_fr {S : Sto} {p q : Rat} : cmpD S .NotEq (fr p) (fr q) = some (!decide (p = q)) := by
  have := eq_fr (S := S) (p := p) (q := q)
  show (eqD S (fr p) (fr q)).map (!·) = _
  rw [show eqD S (fr p) (fr q) = _ from this]
  rfl
theorem okDs_all {n : Nat} : ∀ {xs : List D}, (∀ x ∈ xs, okD n x = true) → okDs n xs = true
  | [], _ => rfl
  | x :: xs, h => by
    show (okD n x && okDs n xs) = true
    rw [h x List.mem_cons_self, okDs_all fun y hy => h y (List.mem_cons_of_mem _ hy)]
    rfl
/-- a text among texts -/
theorem eqv_str {a b : Str} : PyData.eqv (.str a) (.str b) = (a == b) := by simp only [PyData.eqv]
theorem rep_l {xs : List D} {k : Int} : binD .Mult (.lst xs) (.int k) = if repOk xs.length k then some (.lst (List.replicate k.toNat xs).flatten) else none := nrfl rfl
theorem cut_1 {S : Sto} {x : D} {xs : List D} : slD S (.lst (x :: xs)) (some 1) none = some (.lst xs) := by
  have h1 : HT.sIx (x :: xs).length 0 (some 1) = 1 := by
    show min (1 : Int).toNat (x :: xs).length = 1
    simp
  have h2 : HT.sIx (x :: xs).length (x :: xs).length none = xs.length + 1 := rfl
  simp only [slD, lstOf, cutD, h1, h2, Option.map_some]
  simp
theorem inN {S : Sto} {d e : D} : cmpD S .In d e = inD S d e := nrfl rfl
theorem inN' {S : Sto} {d e : D} : cmpD S .NotIn d e = (inD S d e).map (!·) := nrfl rfl
end Rw
namespace Rw
section
variable {α : Type} {all : List D} {turn : D → Sto → Rs (Option D)} {S : Sto}
theorem compL_mapT {g f : α → D} : ∀ {xs : List α} {acc : List D}, (∀ x ∈ xs, turn (g x) S = some (some (f x), S)) → compL none all turn (xs.map g) S acc = some (acc ++ xs.map f, S)
  | [], acc, _ => by rw [List.map_nil, compL_nil]; simp
  | x :: xs, acc, h => by
    rw [List.map_cons, compL_some (h x List.mem_cons_self), compL_mapT fun y hy => h y (List.mem_cons_of_mem _ hy)]
    simp
theorem compL_fmT {g : α → D} {f : α → Option D} : ∀ {xs : List α} {acc : List D}, (∀ x ∈ xs, turn (g x) S = some (f x, S)) → compL none all turn (xs.map g) S acc = some (acc ++ xs.filterMap f, S)
  | [], acc, _ => by rw [List.map_nil, compL_nil]; simp
  | x :: xs, acc, h => by
    have h1 := h x List.mem_cons_self
    have ih := fun acc => compL_fmT (acc := acc) fun y hy => h y (List.mem_cons_of_mem x hy)
    cases c : f x with
    | none => rw [List.map_cons, compL_none (by rw [h1, c]), ih, List.filterMap_cons, c]
    | some y => rw [List.map_cons, compL_some (by rw [h1, c]), ih, List.filterMap_cons, c]; simp
theorem compL_noneT {g : α → D} : ∀ {xs : List α} {acc : List D}, (∀ x ∈ xs, turn (g x) S = some (none, S)) → compL none all turn (xs.map g) S acc = some (acc, S)
  | [], acc, _ => by rw [List.map_nil, compL_nil]
  | x :: xs, acc, h => by
    rw [List.map_cons, compL_none (h x List.mem_cons_self), compL_noneT fun y hy => h y (List.mem_cons_of_mem x hy)]
end
end Rw
namespace Rw
open PySem L2
theorem in_strs {S : Sto} {a : Str} {xs : List Str} (h : (PyData.strOk a && xs.all PyData.strOk) = true) (hl : xs.length ≤ 1000) : cmpD S .In (.str a) (.tup (xs.map D.str)) = some (xs.any fun z => z == a) := by
  obtain ⟨h1, h2⟩ := bk h
  rw [inN, in_t (n := 0) (m := 1) (show okD 0 (.str a) = true from h1) (by decide) (okD_tup (okDs_all (by
    intro x hx
    obtain ⟨y, hy, rfl⟩ := List.mem_map.mp hx
    exact List.all_eq_true.mp h2 y hy)) (le_size (by simp; omega))) (by decide), List.any_map]
  congr 1
theorem in_strT {S : Sto} {a : Str} {xs : List Str} {b : Bool} (h : (PyData.strOk a && xs.all PyData.strOk) = true) (hl : xs.length ≤ 1000) (e : (xs.any fun z => z == a) = b) : cmpD S .In (.str a) (.tup (xs.map D.str)) = some b := by
  rw [in_strs h hl, e]
end Rw

/-! the text by slots of roundedwithin_k12_straight_forms, written by gen.py -/
namespace Rw.Pk12
open PySem L2 Rw
def f_is_number : Fn := ⟨1, 1, (.cons (.ret (.and (.isI 6 5 "int" (.var 0)) (.one (.not (.isI 6 3 "bool" (.var 0)))))) .nil)⟩
def f_is_from : Fn := ⟨2, 2, (.cons (.ret (.and (.call 16 (.cons (.var 0) .nil)) (.one (.cmp .GtE (.var 0) (.var 1))))) .nil)⟩
def f_is_tuple_of : Fn := ⟨2, 2, (.cons (.ret (.and (.isI 6 14 "tuple" (.var 0)) (.one (.cmp .Eq (.bi .len 7 (.cons (.var 0) .nil)) (.var 1))))) .nil)⟩
def e_is_ascending_0 : ME := (.cmp .Lt (.idx (.var 0) (.var 1)) (.idx (.var 0) (.bin .Add (.var 1) (.int 1))))
def f_is_ascending : Fn := ⟨1, 2, (.cons (.ret (.bi .all 1 (.cons (.lc false [1] e_is_ascending_0 (.name 1) (.rng 10 (.cons (.bin .Sub (.bi .len 7 (.cons (.var 0) .nil)) (.int 1)) .nil)) .none) .nil))) .nil)⟩
def c_bits_of_0 : ME := (.cmp .Gt (.bin .RShift (.var 0) (.var 1)) (.int 0))
def b_bits_of_0 : MSs := (.cons (.aug 1 .Add (.int 1)) .nil)
def f_bits_of : Fn := ⟨1, 2, (.cons (.asg (.name 1) (.int 0)) (.cons (.whl c_bits_of_0 b_bits_of_0) (.cons (.ret (.var 1)) .nil)))⟩
def c_common_0 : ME := (.cmp .Gt (.var 1) (.int 0))
def b_common_0 : MSs := (.cons (.par2 0 1 (.var 1) (.bin .Mod (.var 0) (.var 1))) .nil)
def f_common : Fn := ⟨2, 2, (.cons (.par2 0 1 (.bi .abs 0 (.cons (.var 0) .nil)) (.bi .abs 0 (.cons (.var 1) .nil))) (.cons (.whl c_common_0 b_common_0) (.cons (.ret (.var 0)) .nil)))⟩
def f_fraction : Fn := ⟨2, 3, (.cons (.asg (.name 2) (.ifE (.cmp .Gt (.var 1) (.int 0)) (.call 21 (.cons (.var 0) (.cons (.var 1) .nil))) (.neg (.call 21 (.cons (.var 0) (.cons (.var 1) .nil)))))) (.cons (.ret (.tup (.cons (.bin .FloorDiv (.var 0) (.var 2)) (.cons (.bin .FloorDiv (.var 1) (.var 2)) .nil)))) .nil))⟩
def f_is_fraction : Fn := ⟨1, 1, (.cons (.ifS (.or (.not (.call 18 (.cons (.var 0) (.cons (.int 2) .nil)))) (.or (.not (.call 16 (.cons (.idx (.var 0) (.int 0)) .nil))) (.one (.not (.call 17 (.cons (.idx (.var 0) (.int 1)) (.cons (.int 1) .nil))))))) (.cons (.ret (.bl false)) .nil) .nil) (.cons (.ret (.cmp .Eq (.call 21 (.cons (.idx (.var 0) (.int 0)) (.cons (.idx (.var 0) (.int 1)) .nil))) (.int 1))) .nil))⟩
def f_added : Fn := ⟨2, 2, (.cons (.ret (.call 22 (.cons (.bin .Add (.bin .Mult (.idx (.var 0) (.int 0)) (.idx (.var 1) (.int 1))) (.bin .Mult (.idx (.var 1) (.int 0)) (.idx (.var 0) (.int 1)))) (.cons (.bin .Mult (.idx (.var 0) (.int 1)) (.idx (.var 1) (.int 1))) .nil)))) .nil)⟩
def f_negated : Fn := ⟨1, 1, (.cons (.ret (.tup (.cons (.neg (.idx (.var 0) (.int 0))) (.cons (.idx (.var 0) (.int 1)) .nil)))) .nil)⟩
def f_taken : Fn := ⟨2, 2, (.cons (.ret (.call 24 (.cons (.var 0) (.cons (.call 25 (.cons (.var 1) .nil)) .nil)))) .nil)⟩
def f_times : Fn := ⟨2, 2, (.cons (.ret (.call 22 (.cons (.bin .Mult (.idx (.var 0) (.int 0)) (.idx (.var 1) (.int 0))) (.cons (.bin .Mult (.idx (.var 0) (.int 1)) (.idx (.var 1) (.int 1))) .nil)))) .nil)⟩
def f_size : Fn := ⟨1, 1, (.cons (.ret (.tup (.cons (.bi .abs 0 (.cons (.idx (.var 0) (.int 0)) .nil)) (.cons (.idx (.var 0) (.int 1)) .nil)))) .nil)⟩
def f_is_most : Fn := ⟨2, 2, (.cons (.ret (.cmp .LtE (.bin .Mult (.idx (.var 0) (.int 0)) (.idx (.var 1) (.int 1))) (.bin .Mult (.idx (.var 1) (.int 0)) (.idx (.var 0) (.int 1))))) .nil)⟩
def f_two_to : Fn := ⟨1, 1, (.cons (.ret (.ifE (.cmp .GtE (.var 0) (.int 0)) (.tup (.cons (.bin .LShift (.int 1) (.var 0)) (.cons (.int 1) .nil))) (.tup (.cons (.int 1) (.cons (.bin .LShift (.int 1) (.neg (.var 0))) .nil))))) .nil)⟩
def f_shifted : Fn := ⟨2, 2, (.cons (.ret (.call 27 (.cons (.var 0) (.cons (.call 30 (.cons (.var 1) .nil)) .nil)))) .nil)⟩
def f_exponent_of : Fn := ⟨1, 4, (.cons (.par2 1 2 (.bi .abs 0 (.cons (.idx (.var 0) (.int 0)) .nil)) (.idx (.var 0) (.int 1))) (.cons (.asg (.name 3) (.bin .Sub (.call 20 (.cons (.var 1) .nil)) (.call 20 (.cons (.var 2) .nil)))) (.cons (.ret (.ifE (.call 29 (.cons (.call 30 (.cons (.var 3) .nil)) (.cons (.tup (.cons (.var 1) (.cons (.var 2) .nil))) .nil))) (.var 3) (.bin .Sub (.var 3) (.int 1)))) .nil)))⟩
def b_sum_of_0 : MSs := (.cons (.asg (.name 1) (.call 24 (.cons (.var 1) (.cons (.var 2) .nil)))) .nil)
def f_sum_of : Fn := ⟨1, 3, (.cons (.asg (.name 1) (.con 15)) (.cons (.forS (.name 2) (.seq (.var 0)) b_sum_of_0) (.cons (.ret (.var 1)) .nil)))⟩
def e_is_straight_0 : ME := (.and (.call 18 (.cons (.var 1) (.cons (.int 2) .nil))) (.and (.call 17 (.cons (.idx (.var 1) (.int 0)) (.cons (.int 0) .nil))) (.one (.call 23 (.cons (.idx (.var 1) (.int 1)) .nil)))))
def e_is_straight_1 : ME := (.cmp .Eq (.var 1) (.con 15))
def e_is_straight_2 : ME := (.var 2)
def f_is_straight : Fn := ⟨1, 4, (.cons (.ifS (.or (.not (.call 18 (.cons (.var 0) (.cons (.int 3) .nil)))) (.or (.not (.call 23 (.cons (.idx (.var 0) (.int 0)) .nil))) (.one (.not (.isI 6 14 "tuple" (.idx (.var 0) (.int 1))))))) (.cons (.ret (.bl false)) .nil) .nil) (.cons (.ifS (.not (.bi .all 1 (.cons (.lc false [1] e_is_straight_0 (.name 1) (.seq (.idx (.var 0) (.int 1))) .none) .nil))) (.cons (.ret (.bl false)) .nil) .nil) (.cons (.ifS (.or (.not (.call 19 (.cons (.lc false [2, 3] e_is_straight_2 (.tup (.cons (.name 2) (.cons (.name 3) .nil))) (.seq (.idx (.var 0) (.int 1))) .none) .nil))) (.one (.bi .any 2 (.cons (.lc false [3, 1] e_is_straight_1 (.tup (.cons (.name 3) (.cons (.name 1) .nil))) (.seq (.idx (.var 0) (.int 1))) .none) .nil)))) (.cons (.ret (.bl false)) .nil) .nil) (.cons (.ret (.and (.call 23 (.cons (.idx (.var 0) (.int 2)) .nil)) (.one (.cmp .GtE (.idx (.idx (.var 0) (.int 2)) (.int 0)) (.int 0))))) .nil))))⟩
def e_straight_0 : ME := (.tup (.cons (.var 3) (.cons (.idx (.var 1) (.var 3)) .nil)))
def k_straight_0 : MO := (.some (.cmp .NotEq (.idx (.var 1) (.var 3)) (.con 15)))
def f_straight : Fn := ⟨3, 4, (.cons (.ret (.tup (.cons (.var 0) (.cons (.bi .tuple 14 (.cons (.lc false [3] e_straight_0 (.name 3) (.seq (.bi .sorted 12 (.cons (.var 1) .nil))) k_straight_0) .nil)) (.cons (.var 2) .nil))))) .nil)⟩
def f_plain : Fn := ⟨1, 1, (.cons (.ret (.tup (.cons (.var 0) (.cons (.tup .nil) (.cons (.con 15) .nil))))) .nil)⟩
def f_of_span : Fn := ⟨2, 3, (.cons (.asg (.name 2) (.call 27 (.cons (.call 24 (.cons (.idx (.var 0) (.int 0)) (.cons (.idx (.var 0) (.int 1)) .nil))) (.cons (.tup (.cons (.int 1) (.cons (.int 2) .nil))) .nil)))) (.cons (.ret (.call 35 (.cons (.var 2) (.cons (.dict (.cons (.var 1) (.call 26 (.cons (.idx (.var 0) (.int 1)) (.cons (.var 2) .nil))) .nil)) (.cons (.con 15) .nil))))) .nil))⟩
def f_with_rest : Fn := ⟨1, 2, (.cons (.asg (.name 1) (.call 27 (.cons (.call 24 (.cons (.idx (.var 0) (.int 0)) (.cons (.idx (.var 0) (.int 1)) .nil))) (.cons (.tup (.cons (.int 1) (.cons (.int 2) .nil))) .nil)))) (.cons (.ret (.tup (.cons (.var 1) (.cons (.tup .nil) (.cons (.call 26 (.cons (.idx (.var 0) (.int 1)) (.cons (.var 1) .nil))) .nil))))) .nil))⟩
def e_swing_0 : ME := (.call 28 (.cons (.var 2) .nil))
def f_swing : Fn := ⟨1, 3, (.cons (.ret (.call 24 (.cons (.call 33 (.cons (.lc false [1, 2] e_swing_0 (.tup (.cons (.name 1) (.cons (.name 2) .nil))) (.seq (.idx (.var 0) (.int 1))) .none) .nil)) (.cons (.idx (.var 0) (.int 2)) .nil)))) .nil)⟩
def f_span_of : Fn := ⟨1, 2, (.cons (.asg (.name 1) (.call 39 (.cons (.var 0) .nil))) (.cons (.ret (.tup (.cons (.call 26 (.cons (.idx (.var 0) (.int 0)) (.cons (.var 1) .nil))) (.cons (.call 24 (.cons (.idx (.var 0) (.int 0)) (.cons (.var 1) .nil))) .nil)))) .nil))⟩
def f_reach_of : Fn := ⟨1, 1, (.cons (.ret (.call 24 (.cons (.call 28 (.cons (.idx (.var 0) (.int 0)) .nil)) (.cons (.call 39 (.cons (.var 0) .nil)) .nil)))) .nil)⟩
def b_both_0 : MSs := (.cons (.setI (.var 2) (.var 3) (.call 24 (.cons (.dget (.var 2) (.var 3) (.con 15)) (.cons (.var 4) .nil)))) .nil)
def f_both : Fn := ⟨2, 5, (.cons (.asg (.name 2) (.mdict 4 (.idx (.var 0) (.int 1)))) (.cons (.forS (.tup (.cons (.name 3) (.cons (.name 4) .nil))) (.seq (.idx (.var 1) (.int 1))) b_both_0) (.cons (.ret (.call 35 (.cons (.call 24 (.cons (.idx (.var 0) (.int 0)) (.cons (.idx (.var 1) (.int 0)) .nil))) (.cons (.var 2) (.cons (.call 24 (.cons (.idx (.var 0) (.int 2)) (.cons (.idx (.var 1) (.int 2)) .nil))) .nil))))) .nil)))⟩
def e_scaled_0 : ME := (.tup (.cons (.var 3) (.cons (.call 27 (.cons (.var 4) (.cons (.var 1) .nil))) .nil)))
def f_scaled : Fn := ⟨2, 5, (.cons (.asg (.name 2) (.mdict 4 (.lc false [3, 4] e_scaled_0 (.tup (.cons (.name 3) (.cons (.name 4) .nil))) (.seq (.idx (.var 0) (.int 1))) .none))) (.cons (.ret (.call 35 (.cons (.call 27 (.cons (.idx (.var 0) (.int 0)) (.cons (.var 1) .nil))) (.cons (.var 2) (.cons (.call 27 (.cons (.idx (.var 0) (.int 2)) (.cons (.call 28 (.cons (.var 1) .nil)) .nil))) .nil))))) .nil))⟩
def f_turned : Fn := ⟨1, 1, (.cons (.ret (.call 43 (.cons (.var 0) (.cons (.tup (.cons (.neg (.int 1)) (.cons (.int 1) .nil))) .nil)))) .nil)⟩
def f_loosened : Fn := ⟨2, 2, (.cons (.ret (.bin .Add (.sl (.var 0) .none (.some (.int 2))) (.tup (.cons (.call 24 (.cons (.idx (.var 0) (.int 2)) (.cons (.var 1) .nil))) .nil)))) .nil)⟩
def f_marked : Fn := ⟨3, 4, (.cons (.asg (.name 3) (.mdict 4 (.idx (.var 0) (.int 1)))) (.cons (.setI (.var 3) (.var 1) (.call 24 (.cons (.dget (.var 3) (.var 1) (.con 15)) (.cons (.var 2) .nil)))) (.cons (.ret (.call 35 (.cons (.idx (.var 0) (.int 0)) (.cons (.var 3) (.cons (.idx (.var 0) (.int 2)) .nil))))) .nil)))⟩
def f_product : Fn := ⟨2, 6, (.cons (.par2 2 3 (.call 43 (.cons (.var 0) (.cons (.idx (.var 1) (.int 0)) .nil))) (.call 43 (.cons (.var 1) (.cons (.idx (.var 0) (.int 0)) .nil)))) (.cons (.asg (.name 4) (.call 42 (.cons (.var 2) (.cons (.var 3) .nil)))) (.cons (.asg (.name 5) (.call 26 (.cons (.idx (.var 4) (.int 0)) (.cons (.call 27 (.cons (.idx (.var 0) (.int 0)) (.cons (.idx (.var 1) (.int 0)) .nil))) .nil)))) (.cons (.ret (.call 45 (.cons (.bin .Add (.tup (.cons (.var 5) .nil)) (.sl (.var 4) (.some (.int 1)) .none)) (.cons (.call 27 (.cons (.call 39 (.cons (.var 0) .nil)) (.cons (.call 39 (.cons (.var 1) .nil)) .nil))) .nil)))) .nil))))⟩
def b_at_marks_0 : MSs := (.cons (.asg (.name 2) (.call 24 (.cons (.var 2) (.cons (.call 27 (.cons (.var 4) (.cons (.idx (.var 1) (.var 3)) .nil))) .nil)))) .nil)
def f_at_marks : Fn := ⟨2, 5, (.cons (.asg (.name 2) (.idx (.var 0) (.int 0))) (.cons (.forS (.tup (.cons (.name 3) (.cons (.name 4) .nil))) (.seq (.idx (.var 0) (.int 1))) b_at_marks_0) (.cons (.ret (.tup (.cons (.call 26 (.cons (.var 2) (.cons (.idx (.var 0) (.int 2)) .nil))) (.cons (.call 24 (.cons (.var 2) (.cons (.idx (.var 0) (.int 2)) .nil))) .nil)))) .nil)))⟩
def b_is_looser_0 : MSs := (.cons (.asg (.name 2) (.call 24 (.cons (.var 2) (.cons (.call 28 (.cons (.call 26 (.cons (.dget (.var 3) (.var 5) (.con 15)) (.cons (.dget (.var 4) (.var 5) (.con 15)) .nil))) .nil)) .nil)))) .nil)
def f_is_looser : Fn := ⟨2, 6, (.cons (.asg (.name 2) (.call 28 (.cons (.call 26 (.cons (.idx (.var 0) (.int 0)) (.cons (.idx (.var 1) (.int 0)) .nil))) .nil))) (.cons (.par2 3 4 (.mdict 4 (.idx (.var 0) (.int 1))) (.mdict 4 (.idx (.var 1) (.int 1)))) (.cons (.forS (.name 5) (.seq (.sset 12 11 (.bin .Add (.bi .list 8 (.cons (.var 3) .nil)) (.bi .list 8 (.cons (.var 4) .nil))))) b_is_looser_0) (.cons (.ret (.cmp .LtE (.bin .Mult (.idx (.call 24 (.cons (.var 2) (.cons (.idx (.var 1) (.int 2)) .nil))) (.int 0)) (.idx (.idx (.var 0) (.int 2)) (.int 1))) (.bin .Mult (.idx (.idx (.var 0) (.int 2)) (.int 0)) (.idx (.call 24 (.cons (.var 2) (.cons (.idx (.var 1) (.int 2)) .nil))) (.int 1))))) .nil))))⟩
def f_coarse : Fn := ⟨3, 6, (.cons (.ifS (.cmp .Eq (.idx (.var 0) (.int 0)) (.int 0)) (.cons (.ret (.var 0)) .nil) .nil) (.cons (.asg (.name 3) (.bin .Add (.bin .Sub (.call 32 (.cons (.var 0) .nil)) (.var 1)) (.int 1))) (.cons (.asg (.name 4) (.call 31 (.cons (.var 0) (.cons (.neg (.var 3)) .nil)))) (.cons (.asg (.name 5) (.ifE (.var 2) (.neg (.bin .FloorDiv (.neg (.idx (.var 4) (.int 0))) (.idx (.var 4) (.int 1)))) (.bin .FloorDiv (.idx (.var 4) (.int 0)) (.idx (.var 4) (.int 1))))) (.cons (.ret (.call 31 (.cons (.tup (.cons (.var 5) (.cons (.int 1) .nil))) (.cons (.var 3) .nil)))) .nil)))))⟩
def b_coarse_straight_0 : MSs := (.cons (.setI (.var 3) (.var 5) (.call 50 (.cons (.var 6) (.cons (.var 1) (.cons (.bl false) .nil))))) (.cons (.asg (.name 4) (.call 24 (.cons (.var 4) (.cons (.call 28 (.cons (.call 26 (.cons (.var 6) (.cons (.idx (.var 3) (.var 5)) .nil))) .nil)) .nil)))) .nil))
def f_coarse_straight : Fn := ⟨2, 7, (.cons (.asg (.name 2) (.call 50 (.cons (.idx (.var 0) (.int 0)) (.cons (.var 1) (.cons (.bl false) .nil))))) (.cons (.par2 3 4 (.dict .nil) (.call 24 (.cons (.idx (.var 0) (.int 2)) (.cons (.call 28 (.cons (.call 26 (.cons (.idx (.var 0) (.int 0)) (.cons (.var 2) .nil))) .nil)) .nil)))) (.cons (.forS (.tup (.cons (.name 5) (.cons (.name 6) .nil))) (.seq (.idx (.var 0) (.int 1))) b_coarse_straight_0) (.cons (.ret (.call 35 (.cons (.var 2) (.cons (.var 3) (.cons (.call 50 (.cons (.var 4) (.cons (.var 1) (.cons (.bl true) .nil)))) .nil))))) .nil))))⟩
def b__law_draws_1 : MSs := (.cons (.ifS (.cmp .Gt (.var 6) (.int 0)) (.cons (.ex (.meth .append (.var 2) (.cons (.bin .Mod (.bi .int 5 (.cons (.var 6) .nil)) (.int 997)) .nil))) (.cons (.asg (.name 6) (.bin .FloorDiv (.var 6) (.int 997))) .nil)) .nil) .nil)
def b__law_draws_0 : MSs := (.cons (.asg (.name 5) (.bi .abs 0 (.cons (.bi .int 5 (.cons (.idx (.var 0) (.var 4)) .nil)) .nil))) (.cons (.asg (.name 3) (.bin .Mod (.bi .int 5 (.cons (.bin .Add (.bin .Add (.bin .Mult (.var 3) (.int 48271)) (.bin .Mod (.var 5) (.int 1000003))) (.var 4)) .nil)) (.int 65537))) (.cons (.asg (.name 6) (.int 0)) (.cons (.ifS (.cmp .GtE (.var 5) (.bin .Pow (.int 10) (.int 18))) (.cons (.asg (.name 6) (.var 5)) .nil) (.cons (.ex (.meth .append (.var 2) (.cons (.bin .Mod (.bi .int 5 (.cons (.var 5) .nil)) (.int 997)) .nil))) (.cons (.ex (.meth .append (.var 2) (.cons (.bin .Mod (.bin .Mod (.bi .int 5 (.cons (.bin .Add (.bin .Mult (.var 3) (.int 69621)) (.int 5)) .nil)) (.int 65521)) (.int 997)) .nil))) .nil))) (.cons (.forS (.name 7) (.rng 10 (.cons (.int 60) .nil)) b__law_draws_1) .nil)))))
def b__law_draws_2 : MSs := (.cons (.asg (.name 3) (.bin .Mod (.bi .int 5 (.cons (.bin .Add (.bin .Add (.bin .Mult (.var 3) (.int 16807)) (.var 4)) (.int 1)) .nil)) (.int 65537))) (.cons (.ex (.meth .append (.var 2) (.cons (.bin .Mod (.bi .int 5 (.cons (.var 3) .nil)) (.int 997)) .nil))) .nil))
def f__law_draws : Fn := ⟨2, 8, (.cons (.asg (.name 2) (.mlst .nil)) (.cons (.asg (.name 3) (.int 7)) (.cons (.forS (.name 4) (.rng 10 (.cons (.bi .len 7 (.cons (.var 0) .nil)) .nil)) b__law_draws_0) (.cons (.forS (.name 4) (.rng 10 (.cons (.var 1) .nil)) b__law_draws_2) (.cons (.ret (.sl (.var 2) .none (.some (.var 1)))) .nil)))))⟩
def f__law_next : Fn := ⟨2, 2, (.cons (.augI (.var 0) (.str "at") .Add (.int 1)) (.cons (.ifS (.cmp .Gt (.idx (.var 0) (.str "at")) (.bi .len 7 (.cons (.idx (.var 0) (.str "draws")) .nil))) (.cons (.ret (.int 0)) .nil) .nil) (.cons (.ret (.bin .Mod (.bi .int 5 (.cons (.idx (.idx (.var 0) (.str "draws")) (.bin .Sub (.idx (.var 0) (.str "at")) (.int 1))) .nil)) (.var 1))) .nil)))⟩
def f__law_pick : Fn := ⟨2, 2, (.cons (.ret (.idx (.var 1) (.call 53 (.cons (.var 0) (.cons (.bi .len 7 (.cons (.var 1) .nil)) .nil))))) .nil)⟩
def e__law_same_1 : ME := (.var 6)
def k__law_same_1 : MO := (.some (.cmp .NotIn (.var 6) (.var 3)))
def e__law_same_2 : ME := (.tup (.cons (.idx (.var 3) (.var 6)) (.cons (.idx (.var 4) (.var 6)) .nil)))
def e__law_same_3 : ME := (.tup (.cons (.idx (.var 5) (.var 6)) (.cons (.var 6) .nil)))
def e__law_same_4 : ME := (.tup (.cons (.idx (.var 3) (.var 7)) (.cons (.idx (.var 4) (.var 7)) .nil)))
def c__law_same_0 : ME := (.cmp .NotEq (.var 2) (.lst .nil))
def b__law_same_0 : MSs := (.cons (.asg (.tup (.cons (.name 3) (.cons (.name 4) .nil))) (.meth .pop (.var 2) .nil)) (.cons (.ifS (.isI 6 4 "dict" (.var 4)) (.cons (.ifS (.or (.not (.isI 6 4 "dict" (.var 3))) (.or (.cmp .NotEq (.bi .len 7 (.cons (.var 3) .nil)) (.bi .len 7 (.cons (.var 4) .nil))) (.one (.cmp .NotEq (.lc false [6] e__law_same_1 (.name 6) (.seq (.var 4)) k__law_same_1) (.lst .nil))))) (.cons (.ret (.bl false)) .nil) .nil) (.cons .nev (.cons (.ex (.meth .extend (.var 2) (.cons (.bin .Add (.lc false [6] e__law_same_2 (.name 6) (.seq (.var 4)) .none) (.lc false [6] e__law_same_3 (.name 6) (.seq (.var 4)) .none)) .nil))) .nil))) (.cons (.ifS (.or (.isI 6 14 "tuple" (.var 4)) (.one (.isI 6 8 "list" (.var 4)))) (.cons (.ifS (.or (.cmp .NotEq (.isI 6 14 "tuple" (.var 3)) (.isI 6 14 "tuple" (.var 4))) (.or (.cmp .NotEq (.isI 6 8 "list" (.var 3)) (.isI 6 8 "list" (.var 4))) (.one (.cmp .NotEq (.bi .len 7 (.cons (.var 3) .nil)) (.bi .len 7 (.cons (.var 4) .nil)))))) (.cons (.ret (.bl false)) .nil) .nil) (.cons (.ex (.meth .extend (.var 2) (.cons (.lc false [7] e__law_same_4 (.name 7) (.rng 10 (.cons (.bi .len 7 (.cons (.var 4) .nil)) .nil)) .none) .nil))) .nil)) (.cons (.ifS (.or (.cmp .NotEq (.isI 6 3 "bool" (.var 3)) (.isI 6 3 "bool" (.var 4))) (.or (.cmp .NotEq (.isI 6 5 "int" (.var 3)) (.isI 6 5 "int" (.var 4))) (.or (.cmp .NotEq (.isI 6 13 "str" (.var 3)) (.isI 6 13 "str" (.var 4))) (.one (.cmp .NotEq (.var 3) (.var 4)))))) (.cons (.ret (.bl false)) .nil) .nil) .nil)) .nil)) .nil))
def f__law_same : Fn := ⟨2, 8, (.cons (.asg (.name 2) (.mlst (.cons (.tup (.cons (.var 0) (.cons (.var 1) .nil))) .nil))) (.cons (.whl c__law_same_0 b__law_same_0) (.cons (.ret (.bl true)) .nil)))⟩
def c__law_least_0 : ME := (.cmp .Gt (.var 3) (.int 0))
def b__law_least_0 : MSs := (.cons (.par2 2 3 (.var 3) (.bin .Mod (.bi .int 5 (.cons (.var 2) .nil)) (.var 3))) .nil)
def f__law_least : Fn := ⟨2, 4, (.cons (.par2 2 3 (.bi .abs 0 (.cons (.var 0) .nil)) (.bi .abs 0 (.cons (.var 1) .nil))) (.cons (.whl c__law_least_0 b__law_least_0) (.cons (.asg (.name 2) (.ifE (.cmp .Gt (.var 1) (.int 0)) (.var 2) (.bin .Sub (.int 0) (.var 2)))) (.cons (.ret (.tup (.cons (.bin .FloorDiv (.var 0) (.var 2)) (.cons (.bin .FloorDiv (.var 1) (.var 2)) .nil)))) .nil))))⟩
def b__law_sum_0 : MSs := (.cons (.asg (.tup (.cons (.name 1) (.cons (.name 2) .nil))) (.call 56 (.cons (.bin .Add (.bin .Mult (.var 1) (.var 4)) (.bin .Mult (.var 3) (.var 2))) (.cons (.bin .Mult (.var 2) (.var 4)) .nil)))) .nil)
def f__law_sum : Fn := ⟨1, 5, (.cons (.asg (.tup (.cons (.name 1) (.cons (.name 2) .nil))) (.tup (.cons (.int 0) (.cons (.int 1) .nil)))) (.cons (.forS (.tup (.cons (.name 3) (.cons (.name 4) .nil))) (.seq (.var 0)) b__law_sum_0) (.cons (.ret (.tup (.cons (.var 1) (.cons (.var 2) .nil)))) .nil)))⟩
def f__law_less : Fn := ⟨2, 2, (.cons (.ret (.cmp .Lt (.bin .Mult (.idx (.var 0) (.int 0)) (.idx (.var 1) (.int 1))) (.bin .Mult (.idx (.var 1) (.int 0)) (.idx (.var 0) (.int 1))))) .nil)⟩
def f__law_product2 : Fn := ⟨2, 2, (.cons (.ret (.call 56 (.cons (.bin .Mult (.idx (.var 0) (.int 0)) (.idx (.var 1) (.int 0))) (.cons (.bin .Mult (.idx (.var 0) (.int 1)) (.idx (.var 1) (.int 1))) .nil)))) .nil)⟩
def b__law_form_0 : MSs := (.cons (.asg (.name 3) (.call 56 (.cons (.bin .Sub (.call 53 (.cons (.var 0) (.cons (.int 9) .nil))) (.int 4)) (.cons (.bin .Add (.int 1) (.call 53 (.cons (.var 0) (.cons (.int 3) .nil)))) .nil)))) (.cons (.ifS (.cmp .NotEq (.idx (.var 3) (.int 0)) (.int 0)) (.cons (.setI (.var 1) (.call 53 (.cons (.var 0) (.cons (.int 4) .nil))) (.var 3)) .nil) .nil) .nil))
def e__law_form_1 : ME := (.tup (.cons (.var 4) (.cons (.idx (.var 1) (.var 4)) .nil)))
def f__law_form : Fn := ⟨1, 5, (.cons (.asg (.name 1) (.dict .nil)) (.cons (.forS (.name 2) (.rng 10 (.cons (.call 53 (.cons (.var 0) (.cons (.int 3) .nil))) .nil)) b__law_form_0) (.cons (.ret (.tup (.cons (.call 56 (.cons (.bin .Sub (.call 53 (.cons (.var 0) (.cons (.int 9) .nil))) (.int 4)) (.cons (.bin .Add (.int 1) (.call 53 (.cons (.var 0) (.cons (.int 2) .nil)))) .nil))) (.cons (.bi .tuple 14 (.cons (.lc false [4] e__law_form_1 (.name 4) (.seq (.bi .sorted 12 (.cons (.var 1) .nil))) .none) .nil)) (.cons (.call 54 (.cons (.var 0) (.cons (.lst (.cons (.tup (.cons (.int 0) (.cons (.int 1) .nil))) (.cons (.tup (.cons (.int 0) (.cons (.int 1) .nil))) (.cons (.tup (.cons (.int 1) (.cons (.int 3) .nil))) (.cons (.tup (.cons (.int 2) (.cons (.int 1) .nil))) .nil))))) .nil))) .nil))))) .nil)))⟩
def b__law_values_0 : MSs := (.cons (.asg (.name 2) (.call 57 (.cons (.lst (.cons (.var 2) (.cons (.call 59 (.cons (.var 4) (.cons (.idx (.var 1) (.var 3)) .nil))) .nil))) .nil))) .nil)
def f__law_values : Fn := ⟨2, 5, (.cons (.asg (.name 2) (.idx (.var 0) (.int 0))) (.cons (.forS (.tup (.cons (.name 3) (.cons (.name 4) .nil))) (.seq (.idx (.var 0) (.int 1))) b__law_values_0) (.cons (.ret (.lst (.cons (.call 57 (.cons (.lst (.cons (.var 2) (.cons (.tup (.cons (.bin .Sub (.int 0) (.idx (.idx (.var 0) (.int 2)) (.int 0))) (.cons (.idx (.idx (.var 0) (.int 2)) (.int 1)) .nil))) .nil))) .nil)) (.cons (.var 2) (.cons (.call 57 (.cons (.lst (.cons (.var 2) (.cons (.idx (.var 0) (.int 2)) .nil))) .nil)) .nil))))) .nil)))⟩
def f__law_in : Fn := ⟨2, 2, (.cons (.ret (.and (.not (.call 58 (.cons (.var 1) (.cons (.idx (.var 0) (.int 0)) .nil)))) (.one (.not (.call 58 (.cons (.idx (.var 0) (.int 1)) (.cons (.var 1) .nil))))))) .nil)⟩
def f__law_takes : Fn := ⟨3, 4, (.cons (.asg (.name 3) (.call 61 (.cons (.var 0) (.cons (.var 2) .nil)))) (.cons (.ret (.call 62 (.cons (.tup (.cons (.idx (.var 3) (.int 0)) (.cons (.idx (.var 3) (.int 2)) .nil))) (.cons (.var 1) .nil)))) .nil))⟩
def s_law_1_0 : MS := (.asg (.tup (.cons (.name 3) (.cons (.name 4) .nil))) (.tup (.cons (.call 60 (.cons (.var 1) .nil)) (.cons (.call 60 (.cons (.var 1) .nil)) .nil)))) -- one, other = (_law_form(w), _law_form(w))
def s_law_1_1 : MS := (.asg (.name 5) (.lst (.cons (.bi .list 8 (.cons (.var 3) .nil)) (.cons (.sl (.var 3) .none (.some (.int 2))) (.cons (.tup (.cons (.tup (.cons (.int 0) (.cons (.int 1) .nil))) (.cons (.tup (.cons (.tup (.cons (.int 1) (.cons (.tup (.cons (.int 0) (.cons (.int 1) .nil))) .nil))) .nil)) (.cons (.tup (.cons (.int 0) (.cons (.int 1) .nil))) .nil)))) (.cons .non .nil)))))) -- wrong = [list(one), one[:2], ((0, 1), ((1, (0, 1)),), (0, 1)), None]
def e_law_3 : ME := (.tup (.cons (.var 18) (.cons (.bl false) .nil)))
def b_law_2 : MSs := (.cons (.ifS (.not (.call 55 (.cons (.call 34 (.cons (.var 6) .nil)) (.cons (.var 7) .nil)))) (.cons (.ret (.bl false)) .nil) .nil) .nil)
def s_law_1_2 : MS := (.forS (.tup (.cons (.name 6) (.cons (.name 7) .nil))) (.seq (.bin .Add (.bin .Add (.lst (.cons (.tup (.cons (.var 3) (.cons (.bl true) .nil))) .nil)) (.lc false [18] e_law_3 (.name 18) (.seq (.var 5)) .none)) (.lst (.cons (.tup (.cons (.tup (.cons (.tup (.cons (.int 0) (.cons (.int 1) .nil))) (.cons (.tup (.cons (.tup (.cons (.int 2) (.cons (.tup (.cons (.int 1) (.cons (.int 1) .nil))) .nil))) (.cons (.tup (.cons (.int 1) (.cons (.tup (.cons (.int 1) (.cons (.int 1) .nil))) .nil))) .nil))) (.cons (.tup (.cons (.int 0) (.cons (.int 1) .nil))) .nil)))) (.cons (.bl false) .nil))) (.cons (.tup (.cons (.tup (.cons (.tup (.cons (.int 0) (.cons (.int 1) .nil))) (.cons (.tup .nil) (.cons (.tup (.cons (.neg (.int 1)) (.cons (.int 2) .nil))) .nil)))) (.cons (.bl false) .nil))) .nil))))) b_law_2) -- for thing, due in [(one, True)] + [(own, False) for own in wrong] + [(((0, 1), ((2, (1, 1)), (1, (1, 1))), (0, 1)), False), (((0, 1), (), (-1, 2)), False)]:
def s_law_1_3 : MS := (.par2 8 9 (.call 56 (.cons (.bin .Sub (.call 53 (.cons (.var 1) (.cons (.int 9) .nil))) (.int 4)) (.cons (.bin .Add (.int 1) (.call 53 (.cons (.var 1) (.cons (.int 3) .nil)))) .nil))) (.call 56 (.cons (.call 53 (.cons (.var 1) (.cons (.int 5) .nil))) (.cons (.int 2) .nil)))) -- by, extra = (_law_least(_law_next(w, 9) - 4, 1 + _law_next(w, 3)), _law_least(_law_next(w, 5), 2))
def s_law_1_4 : MS := (.asg (.name 10) (.tup (.cons (.idx (.var 3) (.int 0)) (.cons (.call 57 (.cons (.lst (.cons (.idx (.var 3) (.int 0)) (.cons (.var 9) .nil))) .nil)) .nil)))) -- span = (one[0], _law_sum([one[0], extra]))
def e_law_5 : ME := (.call 54 (.cons (.var 1) (.cons (.lst (.cons (.tup (.cons (.int 1) (.cons (.int 1) .nil))) (.cons (.tup (.cons (.neg (.int 1)) (.cons (.int 1) .nil))) (.cons (.tup (.cons (.int 0) (.cons (.int 1) .nil))) (.cons (.tup (.cons (.int 1) (.cons (.int 2) .nil))) .nil))))) .nil)))
def e_law_6 : ME := (.var 18)
def k_law_6 : MO := (.some (.not (.call 62 (.cons (.call 40 (.cons (.var 3) .nil)) (.cons (.var 18) .nil)))))
def b_law_8 : MSs := (.cons (.ifS (.or (.not (.call 63 (.cons (.call 42 (.cons (.var 3) (.cons (.var 4) .nil))) (.cons (.call 57 (.cons (.lst (.cons (.var 15) (.cons (.var 16) .nil))) .nil)) (.cons (.var 12) .nil))))) (.one (.not (.call 62 (.cons (.call 40 (.cons (.call 47 (.cons (.var 3) (.cons (.var 4) .nil))) .nil)) (.cons (.call 59 (.cons (.var 15) (.cons (.var 16) .nil))) .nil)))))) (.cons (.ret (.bl false)) .nil) .nil) (.cons (.ifS (.and (.cmp .Eq (.idx (.var 3) (.int 2)) (.tup (.cons (.int 0) (.cons (.int 1) .nil)))) (.and (.cmp .Eq (.idx (.var 4) (.int 2)) (.tup (.cons (.int 0) (.cons (.int 1) .nil)))) (.one (.not (.call 63 (.cons (.call 47 (.cons (.var 3) (.cons (.var 4) .nil))) (.cons (.call 59 (.cons (.var 15) (.cons (.var 16) .nil))) (.cons (.var 12) .nil)))))))) (.cons (.ret (.bl false)) .nil) .nil) .nil))
def b_law_9 : MSs := (.cons (.ifS (.not (.call 63 (.cons (.call 45 (.cons (.var 3) (.cons (.var 9) .nil))) (.cons (.call 57 (.cons (.lst (.cons (.var 15) (.cons (.var 17) .nil))) .nil)) (.cons (.var 12) .nil))))) (.cons (.ret (.bl false)) .nil) .nil) .nil)
def b_law_7 : MSs := (.cons (.forS (.name 16) (.seq (.var 14)) b_law_8) (.cons (.ifS (.or (.not (.call 63 (.cons (.call 43 (.cons (.var 3) (.cons (.var 8) .nil))) (.cons (.call 59 (.cons (.var 15) (.cons (.var 8) .nil))) (.cons (.var 12) .nil))))) (.one (.not (.call 63 (.cons (.call 44 (.cons (.var 3) .nil)) (.cons (.tup (.cons (.bin .Sub (.int 0) (.idx (.var 15) (.int 0))) (.cons (.idx (.var 15) (.int 1)) .nil))) (.cons (.var 12) .nil))))))) (.cons (.ret (.bl false)) .nil) .nil) (.cons (.forS (.name 17) (.seq (.tup (.cons (.var 9) (.cons (.tup (.cons (.bin .Sub (.int 0) (.idx (.var 9) (.int 0))) (.cons (.idx (.var 9) (.int 1)) .nil))) .nil)))) b_law_9) (.cons (.ifS (.not (.call 63 (.cons (.call 46 (.cons (.var 3) (.cons (.int 7) (.cons (.var 8) .nil)))) (.cons (.call 57 (.cons (.lst (.cons (.var 15) (.cons (.call 59 (.cons (.var 8) (.cons (.idx (.var 12) (.int 7)) .nil))) .nil))) .nil)) (.cons (.var 12) .nil))))) (.cons (.ret (.bl false)) .nil) .nil) (.cons (.ifS (.not (.call 63 (.cons (.call 51 (.cons (.var 3) (.cons (.int 4) .nil))) (.cons (.var 15) (.cons (.var 12) .nil))))) (.cons (.ret (.bl false)) .nil) .nil) .nil)))))
def b_law_4 : MSs := (.cons (.asg (.name 12) (.lc false [27] e_law_5 (.name 27) (.rng 10 (.cons (.int 9) .nil)) .none)) (.cons (.par2 13 14 (.call 61 (.cons (.var 3) (.cons (.var 12) .nil))) (.call 61 (.cons (.var 4) (.cons (.var 12) .nil)))) (.cons (.ifS (.or (.not (.call 55 (.cons (.call 48 (.cons (.var 3) (.cons (.var 12) .nil))) (.cons (.tup (.cons (.idx (.var 13) (.int 0)) (.cons (.idx (.var 13) (.int 2)) .nil))) .nil)))) (.one (.cmp .NotEq (.lc false [18] e_law_6 (.name 18) (.seq (.var 13)) k_law_6) (.lst .nil)))) (.cons (.ret (.bl false)) .nil) .nil) (.cons (.forS (.name 15) (.seq (.var 13)) b_law_7) (.cons (.asg (.name 18) (.call 57 (.cons (.lst (.cons (.idx (.var 10) (.int 0)) (.cons (.call 59 (.cons (.var 9) (.cons (.call 54 (.cons (.var 1) (.cons (.lst (.cons (.tup (.cons (.int 0) (.cons (.int 1) .nil))) (.cons (.tup (.cons (.int 1) (.cons (.int 1) .nil))) (.cons (.tup (.cons (.int 1) (.cons (.int 3) .nil))) .nil)))) .nil))) .nil))) .nil))) .nil))) (.cons (.ifS (.or (.not (.call 62 (.cons (.call 40 (.cons (.call 37 (.cons (.var 10) (.cons (.int 3) .nil))) .nil)) (.cons (.var 18) .nil)))) (.one (.not (.call 62 (.cons (.call 40 (.cons (.call 38 (.cons (.var 10) .nil)) .nil)) (.cons (.var 18) .nil)))))) (.cons (.ret (.bl false)) .nil) .nil) .nil))))))
def s_law_1_5 : MS := (.forS (.name 11) (.rng 10 (.cons (.int 4) .nil)) b_law_4) -- for k in range(4):
def e_law_10 : ME := (.tup (.cons (.bi .max 9 (.cons (.idx (.var 18) (.int 0)) (.cons (.bin .Sub (.int 0) (.idx (.var 18) (.int 0))) .nil))) (.cons (.idx (.var 18) (.int 1)) .nil)))
def s_law_1_6 : MS := (.asg (.name 19) (.call 57 (.cons (.bin .Add (.lc false [24, 18] e_law_10 (.tup (.cons (.name 24) (.cons (.name 18) .nil))) (.seq (.idx (.var 3) (.int 1))) .none) (.lst (.cons (.idx (.var 3) (.int 2)) .nil))) .nil))) -- total = _law_sum([(max(own[0], 0 - own[0]), own[1]) for mark, own in one[1]] + [one[2]])
def s_law_1_7 : MS := (.ifS (.or (.not (.call 55 (.cons (.call 39 (.cons (.var 3) .nil)) (.cons (.var 19) .nil)))) (.one (.not (.call 55 (.cons (.call 40 (.cons (.var 3) .nil)) (.cons (.tup (.cons (.call 57 (.cons (.lst (.cons (.idx (.var 3) (.int 0)) (.cons (.tup (.cons (.bin .Sub (.int 0) (.idx (.var 19) (.int 0))) (.cons (.idx (.var 19) (.int 1)) .nil))) .nil))) .nil)) (.cons (.call 57 (.cons (.lst (.cons (.idx (.var 3) (.int 0)) (.cons (.var 19) .nil))) .nil)) .nil))) .nil)))))) (.cons (.ret (.bl false)) .nil) .nil) -- if not _law_same(swing(one), total) or not _law_same(span_of(one), (_law_sum([one[0], (0 - total[0], total[1])]), _law_sum([one[0], total]))):
def s_law_1_8 : MS := (.ifS (.or (.not (.call 55 (.cons (.call 41 (.cons (.var 3) .nil)) (.cons (.call 57 (.cons (.lst (.cons (.tup (.cons (.bi .max 9 (.cons (.idx (.idx (.var 3) (.int 0)) (.int 0)) (.cons (.bin .Sub (.int 0) (.idx (.idx (.var 3) (.int 0)) (.int 0))) .nil))) (.cons (.idx (.idx (.var 3) (.int 0)) (.int 1)) .nil))) (.cons (.var 19) .nil))) .nil)) .nil)))) (.one (.not (.call 55 (.cons (.call 36 (.cons (.var 8) .nil)) (.cons (.tup (.cons (.var 8) (.cons (.tup .nil) (.cons (.tup (.cons (.int 0) (.cons (.int 1) .nil))) .nil)))) .nil)))))) (.cons (.ret (.bl false)) .nil) .nil) -- if not _law_same(reach_of(one), _law_sum([(max(one[0][0], 0 - one[0][0]), one[0][1]), total])) or not _law_same(plain(by), (by, (), (0, 1))):
def s_law_1_9 : MS := (.asg (.name 20) (.call 57 (.cons (.lst (.cons (.idx (.var 10) (.int 0)) (.cons (.call 56 (.cons (.idx (.var 9) (.int 0)) (.cons (.bin .Mult (.idx (.var 9) (.int 1)) (.int 2)) .nil))) .nil))) .nil))) -- mid = _law_sum([span[0], _law_least(extra[0], extra[1] * 2)])
def s_law_1_10 : MS := (.asg (.name 21) (.call 56 (.cons (.idx (.var 9) (.int 0)) (.cons (.bin .Mult (.idx (.var 9) (.int 1)) (.int 2)) .nil)))) -- half = _law_least(extra[0], extra[1] * 2)
def s_law_1_11 : MS := (.ifS (.or (.not (.call 55 (.cons (.call 37 (.cons (.var 10) (.cons (.int 3) .nil))) (.cons (.tup (.cons (.var 20) (.cons (.ifE (.cmp .NotEq (.idx (.var 21) (.int 0)) (.int 0)) (.tup (.cons (.tup (.cons (.int 3) (.cons (.var 21) .nil))) .nil)) (.tup .nil)) (.cons (.tup (.cons (.int 0) (.cons (.int 1) .nil))) .nil)))) .nil)))) (.one (.not (.call 55 (.cons (.call 38 (.cons (.var 10) .nil)) (.cons (.tup (.cons (.var 20) (.cons (.tup .nil) (.cons (.var 21) .nil)))) .nil)))))) (.cons (.ret (.bl false)) .nil) .nil) -- if not _law_same(of_span(span, 3), (mid, ((3, half),) if half[0] != 0 else (), (0, 1))) or not _law_same(with_rest(span), (mid, (), half)):
def s_law_1_12 : MS := (.ifS (.or (.not (.call 55 (.cons (.call 35 (.cons (.idx (.var 3) (.int 0)) (.cons (.mdict 4 (.bin .Add (.bi .list 8 (.cons (.idx (.var 3) (.int 1)) .nil)) (.lst (.cons (.tup (.cons (.int 8) (.cons (.tup (.cons (.int 0) (.cons (.int 1) .nil))) .nil))) .nil)))) (.cons (.idx (.var 3) (.int 2)) .nil)))) (.cons (.var 3) .nil)))) (.one (.not (.call 55 (.cons (.call 42 (.cons (.var 3) (.cons (.call 44 (.cons (.var 3) .nil)) .nil))) (.cons (.tup (.cons (.tup (.cons (.int 0) (.cons (.int 1) .nil))) (.cons (.tup .nil) (.cons (.call 59 (.cons (.tup (.cons (.int 2) (.cons (.int 1) .nil))) (.cons (.idx (.var 3) (.int 2)) .nil))) .nil)))) .nil)))))) (.cons (.ret (.bl false)) .nil) .nil) -- if not _law_same(straight(one[0], dict(list(one[1]) + [(8, (0, 1))]), one[2]), one) or not _law_same(both(one, turned(one)), ((0, 1), (), _law_product2((2, 1), one[2]))):
def s_law_1_13 : MS := (.asg (.name 22) (.call 57 (.cons (.lst (.cons (.idx (.var 3) (.int 0)) (.cons (.tup (.cons (.bin .Sub (.int 0) (.idx (.idx (.var 4) (.int 0)) (.int 0))) (.cons (.idx (.idx (.var 4) (.int 0)) (.int 1)) .nil))) .nil))) .nil))) -- off = _law_sum([one[0], (0 - other[0][0], other[0][1])])
def s_law_1_14 : MS := (.asg (.name 23) (.mlst (.cons (.tup (.cons (.bi .max 9 (.cons (.idx (.var 22) (.int 0)) (.cons (.bin .Sub (.int 0) (.idx (.var 22) (.int 0))) .nil))) (.cons (.idx (.var 22) (.int 1)) .nil))) (.cons (.idx (.var 4) (.int 2)) .nil)))) -- rows = [(max(off[0], 0 - off[0]), off[1]), other[2]]
def b_law_11 : MSs := (.cons (.asg (.name 25) (.call 57 (.cons (.lst (.cons (.dget (.mdict 4 (.idx (.var 3) (.int 1))) (.var 24) (.tup (.cons (.int 0) (.cons (.int 1) .nil)))) (.cons (.call 59 (.cons (.tup (.cons (.neg (.int 1)) (.cons (.int 1) .nil))) (.cons (.dget (.mdict 4 (.idx (.var 4) (.int 1))) (.var 24) (.tup (.cons (.int 0) (.cons (.int 1) .nil)))) .nil))) .nil))) .nil))) (.cons (.ex (.meth .append (.var 23) (.cons (.tup (.cons (.bi .max 9 (.cons (.idx (.var 25) (.int 0)) (.cons (.bin .Sub (.int 0) (.idx (.var 25) (.int 0))) .nil))) (.cons (.idx (.var 25) (.int 1)) .nil))) .nil))) .nil))
def s_law_1_15 : MS := (.forS (.name 24) (.rng 10 (.cons (.int 4) .nil)) b_law_11) -- for mark in range(4):
def s_law_1_16 : MS := (.ifS (.or (.not (.call 55 (.cons (.call 49 (.cons (.var 3) (.cons (.var 4) .nil))) (.cons (.not (.call 58 (.cons (.idx (.var 3) (.int 2)) (.cons (.call 57 (.cons (.var 23) .nil)) .nil)))) .nil)))) (.or (.cmp .IsNot (.call 49 (.cons (.var 3) (.cons (.var 3) .nil))) (.bl true)) (.one (.cmp .IsNot (.call 49 (.cons (.call 45 (.cons (.var 3) (.cons (.var 9) .nil))) (.cons (.var 3) .nil))) (.bl true))))) (.cons (.ret (.bl false)) .nil) .nil) -- if not _law_same(is_looser(one, other), not _law_less(one[2], _law_sum(rows))) or is_looser(one, one) is not True or is_looser(loosened(one, extra), one) is not True:
def s_law_1_17 : MS := (.ifS (.not (.call 55 (.cons (.call 49 (.cons (.var 3) (.cons (.call 45 (.cons (.var 3) (.cons (.tup (.cons (.int 1) (.cons (.int 5) .nil))) .nil))) .nil))) (.cons (.bl false) .nil)))) (.cons (.ret (.bl false)) .nil) .nil) -- if not _law_same(is_looser(one, loosened(one, (1, 5))), False):
def s_law_1_18 : MS := (.asg (.name 26) (.call 51 (.cons (.var 3) (.cons (.int 4) .nil)))) -- small = coarse_straight(one, 4)
def e_law_12 : ME := (.var 28)
def e_law_13 : ME := (.var 18)
def k_law_13 : MO := (.some (.cmp .GtE (.bi .max 9 (.cons (.idx (.var 18) (.int 0)) (.cons (.bin .Sub (.int 0) (.idx (.var 18) (.int 0))) .nil))) (.bin .Mult (.bin .Mult (.int 16) (.idx (.var 18) (.int 1))) (.int 64))))
def s_law_1_19 : MS := (.ifS (.or (.cmp .IsNot (.call 49 (.cons (.var 26) (.cons (.var 3) .nil))) (.bl true)) (.one (.cmp .NotEq (.lc false [18] e_law_13 (.name 18) (.seq (.bin .Add (.lst (.cons (.idx (.var 26) (.int 0)) (.cons (.idx (.var 26) (.int 2)) .nil))) (.lc false [24, 28] e_law_12 (.tup (.cons (.name 24) (.cons (.name 28) .nil))) (.seq (.idx (.var 26) (.int 1))) .none))) k_law_13) (.lst .nil)))) (.cons (.ret (.bl false)) .nil) .nil) -- if is_looser(small, one) is not True or [own for own in [small[0], small[2]] + [number for mark, number in small[1]] if max(own[0], 0 - own[0]) >= 16 * own[1] * 64] != []:
def b_law_0 : MSs := (.cons s_law_1_0 (.cons s_law_1_1 (.cons s_law_1_2 (.cons s_law_1_3 (.cons s_law_1_4 (.cons s_law_1_5 (.cons s_law_1_6 (.cons s_law_1_7 (.cons s_law_1_8 (.cons s_law_1_9 (.cons s_law_1_10 (.cons s_law_1_11 (.cons s_law_1_12 (.cons s_law_1_13 (.cons s_law_1_14 (.cons s_law_1_15 (.cons s_law_1_16 (.cons s_law_1_17 (.cons s_law_1_18 (.cons s_law_1_19 .nil))))))))))))))))))))
def f_law : Fn := ⟨1, 29, (.cons (.asg (.name 1) (.dict (.cons (.str "draws") (.call 52 (.cons (.var 0) (.cons (.int 160) .nil))) (.cons (.str "at") (.int 0) .nil)))) (.cons (.forS (.name 2) (.rng 10 (.cons (.int 4) .nil)) b_law_0) (.cons (.ret (.bl true)) .nil)))⟩
def T : Tab := [
  (("abs" : Str), TK.blt),
  (("all" : Str), TK.blt),
  (("any" : Str), TK.blt),
  (("bool" : Str), TK.blt),
  (("dict" : Str), TK.blt),
  (("int" : Str), TK.blt),
  (("isinstance" : Str), TK.blt),
  (("len" : Str), TK.blt),
  (("list" : Str), TK.blt),
  (("max" : Str), TK.blt),
  (("range" : Str), TK.blt),
  (("set" : Str), TK.blt),
  (("sorted" : Str), TK.blt),
  (("str" : Str), TK.blt),
  (("tuple" : Str), TK.blt),
  (("NOTHING" : Str), TK.con (.tup [(.int 0), (.int 1)])),
  (("is_number" : Str), TK.fn 1 ["thing"] f_is_number),
  (("is_from" : Str), TK.fn 2 ["thing", "least"] f_is_from),
  (("is_tuple_of" : Str), TK.fn 3 ["thing", "many"] f_is_tuple_of),
  (("is_ascending" : Str), TK.fn 4 ["things", "k"] f_is_ascending),
  (("bits_of" : Str), TK.fn 5 ["number", "found"] f_bits_of),
  (("common" : Str), TK.fn 8 ["a", "b"] f_common),
  (("fraction" : Str), TK.fn 9 ["upper", "lower", "d"] f_fraction),
  (("is_fraction" : Str), TK.fn 10 ["thing"] f_is_fraction),
  (("added" : Str), TK.fn 11 ["one", "other"] f_added),
  (("negated" : Str), TK.fn 12 ["one"] f_negated),
  (("taken" : Str), TK.fn 13 ["one", "other"] f_taken),
  (("times" : Str), TK.fn 14 ["one", "other"] f_times),
  (("size" : Str), TK.fn 15 ["one"] f_size),
  (("is_most" : Str), TK.fn 16 ["one", "other"] f_is_most),
  (("two_to" : Str), TK.fn 17 ["by"] f_two_to),
  (("shifted" : Str), TK.fn 18 ["one", "by"] f_shifted),
  (("exponent_of" : Str), TK.fn 19 ["one", "upper", "lower", "found"] f_exponent_of),
  (("sum_of" : Str), TK.fn 20 ["rows", "found", "own"] f_sum_of),
  (("is_straight" : Str), TK.fn 22 ["thing", "own", "mark", "_"] f_is_straight),
  (("straight" : Str), TK.fn 23 ["number", "parts", "rest", "mark"] f_straight),
  (("plain" : Str), TK.fn 24 ["number"] f_plain),
  (("of_span" : Str), TK.fn 25 ["span", "mark", "middle"] f_of_span),
  (("with_rest" : Str), TK.fn 26 ["span", "middle"] f_with_rest),
  (("swing" : Str), TK.fn 27 ["form", "_", "own"] f_swing),
  (("span_of" : Str), TK.fn 28 ["form", "own"] f_span_of),
  (("reach_of" : Str), TK.fn 29 ["form"] f_reach_of),
  (("both" : Str), TK.fn 30 ["one", "other", "parts", "mark", "own"] f_both),
  (("scaled" : Str), TK.fn 31 ["form", "by", "parts", "mark", "own"] f_scaled),
  (("turned" : Str), TK.fn 32 ["form"] f_turned),
  (("loosened" : Str), TK.fn 33 ["form", "more"] f_loosened),
  (("marked" : Str), TK.fn 34 ["form", "mark", "by", "parts"] f_marked),
  (("product" : Str), TK.fn 35 ["one", "other", "first", "second", "whole", "number"] f_product),
  (("at_marks" : Str), TK.fn 36 ["form", "marks", "found", "mark", "own"] f_at_marks),
  (("is_looser" : Str), TK.fn 37 ["one", "other", "off", "parts", "more", "mark"] f_is_looser),
  (("coarse" : Str), TK.fn 39 ["one", "digits", "is_up", "power", "own", "whole"] f_coarse),
  (("coarse_straight" : Str), TK.fn 41 ["form", "digits", "number", "parts", "rest", "mark", "own"] f_coarse_straight),
  (("_law_draws" : Str), TK.fn 43 ["script", "many", "draws", "mixed", "k", "cell", "rest", "turn"] f__law_draws),
  (("_law_next" : Str), TK.fn 44 ["w", "many"] f__law_next),
  (("_law_pick" : Str), TK.fn 45 ["w", "rows"] f__law_pick),
  (("_law_same" : Str), TK.fn 46 ["seen", "due", "waiting", "one", "other", "keys", "key", "k"] f__law_same),
  (("_law_least" : Str), TK.fn 47 ["a", "b", "one", "other"] f__law_least),
  (("_law_sum" : Str), TK.fn 48 ["rows", "upper", "lower", "a", "b"] f__law_sum),
  (("_law_less" : Str), TK.fn 49 ["one", "other"] f__law_less),
  (("_law_product2" : Str), TK.fn 50 ["one", "other"] f__law_product2),
  (("_law_form" : Str), TK.fn 51 ["w", "parts", "k", "own", "mark"] f__law_form),
  (("_law_values" : Str), TK.fn 52 ["form", "marks", "own", "mark", "by"] f__law_values),
  (("_law_in" : Str), TK.fn 53 ["span", "one"] f__law_in),
  (("_law_takes" : Str), TK.fn 54 ["form", "one", "marks", "rows"] f__law_takes),
  (("law" : Str), TK.fn 55 ["script", "w", "turn", "one", "other", "wrong", "thing", "due", "by", "extra", "span", "k", "marks", "first", "second", "a", "b", "more", "own", "total", "mid", "half", "off", "rows", "mark", "gap", "small", "n", "number"] f_law)]
abbrev G : GT := gtOf T
abbrev i_NOTHING : Nat := 15
theorem c_NOTHING : conOf G 15 = some (.tup [(.int 0), (.int 1)]) := rfl
abbrev i_is_number : Nat := 16
theorem g_is_number : G[i_is_number]? = some (("is_number" : Str), GK.fn f_is_number) := rfl
abbrev i_is_from : Nat := 17
theorem g_is_from : G[i_is_from]? = some (("is_from" : Str), GK.fn f_is_from) := rfl
abbrev i_is_tuple_of : Nat := 18
theorem g_is_tuple_of : G[i_is_tuple_of]? = some (("is_tuple_of" : Str), GK.fn f_is_tuple_of) := rfl
abbrev i_is_ascending : Nat := 19
theorem g_is_ascending : G[i_is_ascending]? = some (("is_ascending" : Str), GK.fn f_is_ascending) := rfl
abbrev i_bits_of : Nat := 20
theorem g_bits_of : G[i_bits_of]? = some (("bits_of" : Str), GK.fn f_bits_of) := rfl
abbrev i_common : Nat := 21
theorem g_common : G[i_common]? = some (("common" : Str), GK.fn f_common) := rfl
abbrev i_fraction : Nat := 22
theorem g_fraction : G[i_fraction]? = some (("fraction" : Str), GK.fn f_fraction) := rfl
abbrev i_is_fraction : Nat := 23
theorem g_is_fraction : G[i_is_fraction]? = some (("is_fraction" : Str), GK.fn f_is_fraction) := rfl
abbrev i_added : Nat := 24
theorem g_added : G[i_added]? = some (("added" : Str), GK.fn f_added) := rfl
abbrev i_negated : Nat := 25
theorem g_negated : G[i_negated]? = some (("negated" : Str), GK.fn f_negated) := rfl
abbrev i_taken : Nat := 26
theorem g_taken : G[i_taken]? = some (("taken" : Str), GK.fn f_taken) := rfl
abbrev i_times : Nat := 27
theorem g_times : G[i_times]? = some (("times" : Str), GK.fn f_times) := rfl
abbrev i_size : Nat := 28
theorem g_size : G[i_size]? = some (("size" : Str), GK.fn f_size) := rfl
abbrev i_is_most : Nat := 29
theorem g_is_most : G[i_is_most]? = some (("is_most" : Str), GK.fn f_is_most) := rfl
abbrev i_two_to : Nat := 30
theorem g_two_to : G[i_two_to]? = some (("two_to" : Str), GK.fn f_two_to) := rfl
abbrev i_shifted : Nat := 31
theorem g_shifted : G[i_shifted]? = some (("shifted" : Str), GK.fn f_shifted) := rfl
abbrev i_exponent_of : Nat := 32
theorem g_exponent_of : G[i_exponent_of]? = some (("exponent_of" : Str), GK.fn f_exponent_of) := rfl
abbrev i_sum_of : Nat := 33
theorem g_sum_of : G[i_sum_of]? = some (("sum_of" : Str), GK.fn f_sum_of) := rfl
abbrev i_is_straight : Nat := 34
theorem g_is_straight : G[i_is_straight]? = some (("is_straight" : Str), GK.fn f_is_straight) := rfl
abbrev i_straight : Nat := 35
theorem g_straight : G[i_straight]? = some (("straight" : Str), GK.fn f_straight) := rfl
abbrev i_plain : Nat := 36
theorem g_plain : G[i_plain]? = some (("plain" : Str), GK.fn f_plain) := rfl
abbrev i_of_span : Nat := 37
theorem g_of_span : G[i_of_span]? = some (("of_span" : Str), GK.fn f_of_span) := rfl
abbrev i_with_rest : Nat := 38
theorem g_with_rest : G[i_with_rest]? = some (("with_rest" : Str), GK.fn f_with_rest) := rfl
abbrev i_swing : Nat := 39
theorem g_swing : G[i_swing]? = some (("swing" : Str), GK.fn f_swing) := rfl
abbrev i_span_of : Nat := 40
theorem g_span_of : G[i_span_of]? = some (("span_of" : Str), GK.fn f_span_of) := rfl
abbrev i_reach_of : Nat := 41
theorem g_reach_of : G[i_reach_of]? = some (("reach_of" : Str), GK.fn f_reach_of) := rfl
abbrev i_both : Nat := 42
theorem g_both : G[i_both]? = some (("both" : Str), GK.fn f_both) := rfl
abbrev i_scaled : Nat := 43
theorem g_scaled : G[i_scaled]? = some (("scaled" : Str), GK.fn f_scaled) := rfl
abbrev i_turned : Nat := 44
theorem g_turned : G[i_turned]? = some (("turned" : Str), GK.fn f_turned) := rfl
abbrev i_loosened : Nat := 45
theorem g_loosened : G[i_loosened]? = some (("loosened" : Str), GK.fn f_loosened) := rfl
abbrev i_marked : Nat := 46
theorem g_marked : G[i_marked]? = some (("marked" : Str), GK.fn f_marked) := rfl
abbrev i_product : Nat := 47
theorem g_product : G[i_product]? = some (("product" : Str), GK.fn f_product) := rfl
abbrev i_at_marks : Nat := 48
theorem g_at_marks : G[i_at_marks]? = some (("at_marks" : Str), GK.fn f_at_marks) := rfl
abbrev i_is_looser : Nat := 49
theorem g_is_looser : G[i_is_looser]? = some (("is_looser" : Str), GK.fn f_is_looser) := rfl
abbrev i_coarse : Nat := 50
theorem g_coarse : G[i_coarse]? = some (("coarse" : Str), GK.fn f_coarse) := rfl
abbrev i_coarse_straight : Nat := 51
theorem g_coarse_straight : G[i_coarse_straight]? = some (("coarse_straight" : Str), GK.fn f_coarse_straight) := rfl
abbrev i__law_draws : Nat := 52
theorem g__law_draws : G[i__law_draws]? = some (("_law_draws" : Str), GK.fn f__law_draws) := rfl
abbrev i__law_next : Nat := 53
theorem g__law_next : G[i__law_next]? = some (("_law_next" : Str), GK.fn f__law_next) := rfl
abbrev i__law_pick : Nat := 54
theorem g__law_pick : G[i__law_pick]? = some (("_law_pick" : Str), GK.fn f__law_pick) := rfl
abbrev i__law_same : Nat := 55
theorem g__law_same : G[i__law_same]? = some (("_law_same" : Str), GK.fn f__law_same) := rfl
abbrev i__law_least : Nat := 56
theorem g__law_least : G[i__law_least]? = some (("_law_least" : Str), GK.fn f__law_least) := rfl
abbrev i__law_sum : Nat := 57
theorem g__law_sum : G[i__law_sum]? = some (("_law_sum" : Str), GK.fn f__law_sum) := rfl
abbrev i__law_less : Nat := 58
theorem g__law_less : G[i__law_less]? = some (("_law_less" : Str), GK.fn f__law_less) := rfl
abbrev i__law_product2 : Nat := 59
theorem g__law_product2 : G[i__law_product2]? = some (("_law_product2" : Str), GK.fn f__law_product2) := rfl
abbrev i__law_form : Nat := 60
theorem g__law_form : G[i__law_form]? = some (("_law_form" : Str), GK.fn f__law_form) := rfl
abbrev i__law_values : Nat := 61
theorem g__law_values : G[i__law_values]? = some (("_law_values" : Str), GK.fn f__law_values) := rfl
abbrev i__law_in : Nat := 62
theorem g__law_in : G[i__law_in]? = some (("_law_in" : Str), GK.fn f__law_in) := rfl
abbrev i__law_takes : Nat := 63
theorem g__law_takes : G[i__law_takes]? = some (("_law_takes" : Str), GK.fn f__law_takes) := rfl
abbrev i_law : Nat := 64
theorem g_law : G[i_law]? = some (("law" : Str), GK.fn f_law) := rfl
end Rw.Pk12

set_option exponentiation.threshold 300
namespace Rw.Pk12
open PySem L2 Rw
section
variable {k : Nat} {S : Sto} {p q : Rat} {n : Nat}
theorem common_loop {cl : Nat → List D → Sto → Rs D} : ∀ n m : Nat, whE (evT G cl c_common_0) (evSs G cl b_common_0) [some (.int m), some (.int n)] S = some (.nx [some (.int (Nat.gcd m n : Nat)), some (.int 0)], S) := by
  intro n
  induction n using Nat.strongRecOn with
  | ind n ih =>
    intro m
    by_cases e : n = 0
    · subst e
      refine (whE_end (S1 := S) ?_).trans ?_
      · simp only [E1, E2, E3, E4, E5, E6, E7, E8, E9, List.map_cons, List.map_nil, List.cons_append, List.nil_append, List.append_nil, List.length_cons, List.length_nil, List.replicate_zero, List.replicate_succ, Nat.sub_self, Nat.zero_add, List.getElem?_cons_zero, List.getElem?_cons_succ, List.set_cons_zero, List.set_cons_succ, if_true, if_false, Bool.false_eq_true, decide_true, decide_false, Bool.not_true, Bool.not_false, decide_eq_true_eq, eq_self, Int.cast_ofNat_Int, Int.natCast_zero, Int.natCast_one, Nat.reduceLeDiff, Nat.reduceSub, Nat.reduceAdd, Nat.reduceLT, reduceIte, reduceCtorEq, Int.reduceEq, Int.reduceLT, Int.reduceLE, Int.reduceNeg, Int.reduceAdd, Int.reduceSub, Int.reduceMul, Int.reduceNe, Int.reduceBNe, Int.reduceBEq, c_common_0]
      · rw [Nat.gcd_zero_right]
        rfl
    · refine whE_turn (S1 := S) (ρ2 := [some (.int n), some (.int ((m % n : Nat) : Int))]) (S2 := S) ?_ ?_ ((ih (m % n) (Nat.mod_lt _ (by omega)) n).trans ?_)
      · have : (0 : Int) < (n : Int) := by omega
        simp only [E1, E2, E3, E4, E5, E6, E7, E8, E9, List.map_cons, List.map_nil, List.cons_append, List.nil_append, List.append_nil, List.length_cons, List.length_nil, List.replicate_zero, List.replicate_succ, Nat.sub_self, Nat.zero_add, List.getElem?_cons_zero, List.getElem?_cons_succ, List.set_cons_zero, List.set_cons_succ, if_true, if_false, Bool.false_eq_true, decide_true, decide_false, Bool.not_true, Bool.not_false, decide_eq_true_eq, eq_self, Int.cast_ofNat_Int, Int.natCast_zero, Int.natCast_one, Nat.reduceLeDiff, Nat.reduceSub, Nat.reduceAdd, Nat.reduceLT, reduceIte, reduceCtorEq, Int.reduceEq, Int.reduceLT, Int.reduceLE, Int.reduceNeg, Int.reduceAdd, Int.reduceSub, Int.reduceMul, Int.reduceNe, Int.reduceBNe, Int.reduceBEq, c_common_0, this]
      · have : (n : Int) ≠ 0 := by omega
        simp only [E1, E2, E3, E4, E5, E6, E7, E8, E9, List.map_cons, List.map_nil, List.cons_append, List.nil_append, List.append_nil, List.length_cons, List.length_nil, List.replicate_zero, List.replicate_succ, Nat.sub_self, Nat.zero_add, List.getElem?_cons_zero, List.getElem?_cons_succ, List.set_cons_zero, List.set_cons_succ, if_true, if_false, Bool.false_eq_true, decide_true, decide_false, Bool.not_true, Bool.not_false, decide_eq_true_eq, eq_self, Int.cast_ofNat_Int, Int.natCast_zero, Int.natCast_one, Nat.reduceLeDiff, Nat.reduceSub, Nat.reduceAdd, Nat.reduceLT, reduceIte, reduceCtorEq, Int.reduceEq, Int.reduceLT, Int.reduceLE, Int.reduceNeg, Int.reduceAdd, Int.reduceSub, Int.reduceMul, Int.reduceNe, Int.reduceBNe, Int.reduceBEq, b_common_0, this, fmod_nat, ne_eq, not_false_eq_true]
      · rw [Nat.gcd_comm m n, Nat.gcd_rec n m, Nat.gcd_comm]
theorem common_ok {a b : Int} : callK G (k + 1) i_common [.int a, .int b] S = some (.int (Int.gcd a b : Int), S) := by
  rw [call_fn g_common rfl]
  simp only [E1, E2, E3, E4, E5, E6, E7, E8, E9, List.map_cons, List.map_nil, List.cons_append, List.nil_append, List.append_nil, List.length_cons, List.length_nil, List.replicate_zero, List.replicate_succ, Nat.sub_self, Nat.zero_add, List.getElem?_cons_zero, List.getElem?_cons_succ, List.set_cons_zero, List.set_cons_succ, if_true, if_false, Bool.false_eq_true, decide_true, decide_false, Bool.not_true, Bool.not_false, decide_eq_true_eq, eq_self, Int.cast_ofNat_Int, Int.natCast_zero, Int.natCast_one, Nat.reduceLeDiff, Nat.reduceSub, Nat.reduceAdd, Nat.reduceLT, reduceIte, reduceCtorEq, Int.reduceEq, Int.reduceLT, Int.reduceLE, Int.reduceNeg, Int.reduceAdd, Int.reduceSub, Int.reduceMul, Int.reduceNe, Int.reduceBNe, Int.reduceBEq, f_common, abs_nat, common_loop]
  rfl
theorem fraction_ok {u l : Int} (h : l ≠ 0) (b : Bd 8999 l) : callK G (k + 2) i_fraction [.int u, .int l] S = some (fr (Rat.divInt u l), S) := by
  have hd : divOk (if 0 < l then (Int.gcd u l : Int) else -(Int.gcd u l : Int)) := by
    split
    · exact (gcd_bd h b).divOk (gcd_ne h) (by omega)
    · exact (gcd_bd h b).neg.divOk (by have := gcd_ne (u := u) h; omega) (by omega)
  rw [call_fn g_fraction rfl, fr_div h]
  by_cases c : 0 < l
  · simp only [c, if_true] at hd ⊢
    simp only [E1, E2, E3, E4, E5, E6, E7, E8, E9, List.map_cons, List.map_nil, List.cons_append, List.nil_append, List.append_nil, List.length_cons, List.length_nil, List.replicate_zero, List.replicate_succ, Nat.sub_self, Nat.zero_add, List.getElem?_cons_zero, List.getElem?_cons_succ, List.set_cons_zero, List.set_cons_succ, if_true, if_false, Bool.false_eq_true, decide_true, decide_false, Bool.not_true, Bool.not_false, decide_eq_true_eq, eq_self, Int.cast_ofNat_Int, Int.natCast_zero, Int.natCast_one, Nat.reduceLeDiff, Nat.reduceSub, Nat.reduceAdd, Nat.reduceLT, reduceIte, reduceCtorEq, Int.reduceEq, Int.reduceLT, Int.reduceLE, Int.reduceNeg, Int.reduceAdd, Int.reduceSub, Int.reduceMul, Int.reduceNe, Int.reduceBNe, Int.reduceBEq, f_fraction, c, common_ok, hd]
  · simp only [c, if_false] at hd ⊢
    simp only [E1, E2, E3, E4, E5, E6, E7, E8, E9, List.map_cons, List.map_nil, List.cons_append, List.nil_append, List.append_nil, List.length_cons, List.length_nil, List.replicate_zero, List.replicate_succ, Nat.sub_self, Nat.zero_add, List.getElem?_cons_zero, List.getElem?_cons_succ, List.set_cons_zero, List.set_cons_succ, if_true, if_false, Bool.false_eq_true, decide_true, decide_false, Bool.not_true, Bool.not_false, decide_eq_true_eq, eq_self, Int.cast_ofNat_Int, Int.natCast_zero, Int.natCast_one, Nat.reduceLeDiff, Nat.reduceSub, Nat.reduceAdd, Nat.reduceLT, reduceIte, reduceCtorEq, Int.reduceEq, Int.reduceLT, Int.reduceLE, Int.reduceNeg, Int.reduceAdd, Int.reduceSub, Int.reduceMul, Int.reduceNe, Int.reduceBNe, Int.reduceBEq, f_fraction, c, common_ok, hd]
theorem is_number_int {a : Int} : callK G (k + 1) i_is_number [.int a] S = some (.bl true, S) := by
  rw [call_fn g_is_number rfl]
  simp only [E1, E2, E3, E4, E5, E6, E7, E8, E9, List.map_cons, List.map_nil, List.cons_append, List.nil_append, List.append_nil, List.length_cons, List.length_nil, List.replicate_zero, List.replicate_succ, Nat.sub_self, Nat.zero_add, List.getElem?_cons_zero, List.getElem?_cons_succ, List.set_cons_zero, List.set_cons_succ, if_true, if_false, Bool.false_eq_true, decide_true, decide_false, Bool.not_true, Bool.not_false, decide_eq_true_eq, eq_self, Int.cast_ofNat_Int, Int.natCast_zero, Int.natCast_one, Nat.reduceLeDiff, Nat.reduceSub, Nat.reduceAdd, Nat.reduceLT, reduceIte, reduceCtorEq, Int.reduceEq, Int.reduceLT, Int.reduceLE, Int.reduceNeg, Int.reduceAdd, Int.reduceSub, Int.reduceMul, Int.reduceNe, Int.reduceBNe, Int.reduceBEq, f_is_number]
theorem is_number_bl {a : Bool} : callK G (k + 1) i_is_number [.bl a] S = some (.bl false, S) := by
  rw [call_fn g_is_number rfl]
  simp only [E1, E2, E3, E4, E5, E6, E7, E8, E9, List.map_cons, List.map_nil, List.cons_append, List.nil_append, List.append_nil, List.length_cons, List.length_nil, List.replicate_zero, List.replicate_succ, Nat.sub_self, Nat.zero_add, List.getElem?_cons_zero, List.getElem?_cons_succ, List.set_cons_zero, List.set_cons_succ, if_true, if_false, Bool.false_eq_true, decide_true, decide_false, Bool.not_true, Bool.not_false, decide_eq_true_eq, eq_self, Int.cast_ofNat_Int, Int.natCast_zero, Int.natCast_one, Nat.reduceLeDiff, Nat.reduceSub, Nat.reduceAdd, Nat.reduceLT, reduceIte, reduceCtorEq, Int.reduceEq, Int.reduceLT, Int.reduceLE, Int.reduceNeg, Int.reduceAdd, Int.reduceSub, Int.reduceMul, Int.reduceNe, Int.reduceBNe, Int.reduceBEq, f_is_number]
theorem is_number_non : callK G (k + 1) i_is_number [.non] S = some (.bl false, S) := by
  rw [call_fn g_is_number rfl]
  simp only [E1, E2, E3, E4, E5, E6, E7, E8, E9, List.map_cons, List.map_nil, List.cons_append, List.nil_append, List.append_nil, List.length_cons, List.length_nil, List.replicate_zero, List.replicate_succ, Nat.sub_self, Nat.zero_add, List.getElem?_cons_zero, List.getElem?_cons_succ, List.set_cons_zero, List.set_cons_succ, if_true, if_false, Bool.false_eq_true, decide_true, decide_false, Bool.not_true, Bool.not_false, decide_eq_true_eq, eq_self, Int.cast_ofNat_Int, Int.natCast_zero, Int.natCast_one, Nat.reduceLeDiff, Nat.reduceSub, Nat.reduceAdd, Nat.reduceLT, reduceIte, reduceCtorEq, Int.reduceEq, Int.reduceLT, Int.reduceLE, Int.reduceNeg, Int.reduceAdd, Int.reduceSub, Int.reduceMul, Int.reduceNe, Int.reduceBNe, Int.reduceBEq, f_is_number]
theorem is_number_str {a : Str} : callK G (k + 1) i_is_number [.str a] S = some (.bl false, S) := by
  rw [call_fn g_is_number rfl]
  simp only [E1, E2, E3, E4, E5, E6, E7, E8, E9, List.map_cons, List.map_nil, List.cons_append, List.nil_append, List.append_nil, List.length_cons, List.length_nil, List.replicate_zero, List.replicate_succ, Nat.sub_self, Nat.zero_add, List.getElem?_cons_zero, List.getElem?_cons_succ, List.set_cons_zero, List.set_cons_succ, if_true, if_false, Bool.false_eq_true, decide_true, decide_false, Bool.not_true, Bool.not_false, decide_eq_true_eq, eq_self, Int.cast_ofNat_Int, Int.natCast_zero, Int.natCast_one, Nat.reduceLeDiff, Nat.reduceSub, Nat.reduceAdd, Nat.reduceLT, reduceIte, reduceCtorEq, Int.reduceEq, Int.reduceLT, Int.reduceLE, Int.reduceNeg, Int.reduceAdd, Int.reduceSub, Int.reduceMul, Int.reduceNe, Int.reduceBNe, Int.reduceBEq, f_is_number]
theorem is_number_tup {a : List D} : callK G (k + 1) i_is_number [.tup a] S = some (.bl false, S) := by
  rw [call_fn g_is_number rfl]
  simp only [E1, E2, E3, E4, E5, E6, E7, E8, E9, List.map_cons, List.map_nil, List.cons_append, List.nil_append, List.append_nil, List.length_cons, List.length_nil, List.replicate_zero, List.replicate_succ, Nat.sub_self, Nat.zero_add, List.getElem?_cons_zero, List.getElem?_cons_succ, List.set_cons_zero, List.set_cons_succ, if_true, if_false, Bool.false_eq_true, decide_true, decide_false, Bool.not_true, Bool.not_false, decide_eq_true_eq, eq_self, Int.cast_ofNat_Int, Int.natCast_zero, Int.natCast_one, Nat.reduceLeDiff, Nat.reduceSub, Nat.reduceAdd, Nat.reduceLT, reduceIte, reduceCtorEq, Int.reduceEq, Int.reduceLT, Int.reduceLE, Int.reduceNeg, Int.reduceAdd, Int.reduceSub, Int.reduceMul, Int.reduceNe, Int.reduceBNe, Int.reduceBEq, f_is_number]
theorem is_number_lst {a : List D} : callK G (k + 1) i_is_number [.lst a] S = some (.bl false, S) := by
  rw [call_fn g_is_number rfl]
  simp only [E1, E2, E3, E4, E5, E6, E7, E8, E9, List.map_cons, List.map_nil, List.cons_append, List.nil_append, List.append_nil, List.length_cons, List.length_nil, List.replicate_zero, List.replicate_succ, Nat.sub_self, Nat.zero_add, List.getElem?_cons_zero, List.getElem?_cons_succ, List.set_cons_zero, List.set_cons_succ, if_true, if_false, Bool.false_eq_true, decide_true, decide_false, Bool.not_true, Bool.not_false, decide_eq_true_eq, eq_self, Int.cast_ofNat_Int, Int.natCast_zero, Int.natCast_one, Nat.reduceLeDiff, Nat.reduceSub, Nat.reduceAdd, Nat.reduceLT, reduceIte, reduceCtorEq, Int.reduceEq, Int.reduceLT, Int.reduceLE, Int.reduceNeg, Int.reduceAdd, Int.reduceSub, Int.reduceMul, Int.reduceNe, Int.reduceBNe, Int.reduceBEq, f_is_number]
theorem is_from_int {a b : Int} : callK G (k + 2) i_is_from [.int a, .int b] S = some (.bl (decide (b ≤ a)), S) := by
  rw [call_fn g_is_from rfl]
  simp only [E1, E2, E3, E4, E5, E6, E7, E8, E9, List.map_cons, List.map_nil, List.cons_append, List.nil_append, List.append_nil, List.length_cons, List.length_nil, List.replicate_zero, List.replicate_succ, Nat.sub_self, Nat.zero_add, List.getElem?_cons_zero, List.getElem?_cons_succ, List.set_cons_zero, List.set_cons_succ, if_true, if_false, Bool.false_eq_true, decide_true, decide_false, Bool.not_true, Bool.not_false, decide_eq_true_eq, eq_self, Int.cast_ofNat_Int, Int.natCast_zero, Int.natCast_one, Nat.reduceLeDiff, Nat.reduceSub, Nat.reduceAdd, Nat.reduceLT, reduceIte, reduceCtorEq, Int.reduceEq, Int.reduceLT, Int.reduceLE, Int.reduceNeg, Int.reduceAdd, Int.reduceSub, Int.reduceMul, Int.reduceNe, Int.reduceBNe, Int.reduceBEq, f_is_from, is_number_int]
theorem is_tuple_of_tup {a : List D} {m : Int} : callK G (k + 1) i_is_tuple_of [.tup a, .int m] S = some (.bl (decide ((a.length : Int) = m)), S) := by
  rw [call_fn g_is_tuple_of rfl]
  simp only [E1, E2, E3, E4, E5, E6, E7, E8, E9, List.map_cons, List.map_nil, List.cons_append, List.nil_append, List.append_nil, List.length_cons, List.length_nil, List.replicate_zero, List.replicate_succ, Nat.sub_self, Nat.zero_add, List.getElem?_cons_zero, List.getElem?_cons_succ, List.set_cons_zero, List.set_cons_succ, if_true, if_false, Bool.false_eq_true, decide_true, decide_false, Bool.not_true, Bool.not_false, decide_eq_true_eq, eq_self, Int.cast_ofNat_Int, Int.natCast_zero, Int.natCast_one, Nat.reduceLeDiff, Nat.reduceSub, Nat.reduceAdd, Nat.reduceLT, reduceIte, reduceCtorEq, Int.reduceEq, Int.reduceLT, Int.reduceLE, Int.reduceNeg, Int.reduceAdd, Int.reduceSub, Int.reduceMul, Int.reduceNe, Int.reduceBNe, Int.reduceBEq, f_is_tuple_of]
theorem is_tuple_of_lst {a : List D} {m : Int} : callK G (k + 1) i_is_tuple_of [.lst a, .int m] S = some (.bl false, S) := by
  rw [call_fn g_is_tuple_of rfl]
  simp only [E1, E2, E3, E4, E5, E6, E7, E8, E9, List.map_cons, List.map_nil, List.cons_append, List.nil_append, List.append_nil, List.length_cons, List.length_nil, List.replicate_zero, List.replicate_succ, Nat.sub_self, Nat.zero_add, List.getElem?_cons_zero, List.getElem?_cons_succ, List.set_cons_zero, List.set_cons_succ, if_true, if_false, Bool.false_eq_true, decide_true, decide_false, Bool.not_true, Bool.not_false, decide_eq_true_eq, eq_self, Int.cast_ofNat_Int, Int.natCast_zero, Int.natCast_one, Nat.reduceLeDiff, Nat.reduceSub, Nat.reduceAdd, Nat.reduceLT, reduceIte, reduceCtorEq, Int.reduceEq, Int.reduceLT, Int.reduceLE, Int.reduceNeg, Int.reduceAdd, Int.reduceSub, Int.reduceMul, Int.reduceNe, Int.reduceBNe, Int.reduceBEq, f_is_tuple_of]
theorem is_tuple_of_non {m : Int} : callK G (k + 1) i_is_tuple_of [.non, .int m] S = some (.bl false, S) := by
  rw [call_fn g_is_tuple_of rfl]
  simp only [E1, E2, E3, E4, E5, E6, E7, E8, E9, List.map_cons, List.map_nil, List.cons_append, List.nil_append, List.append_nil, List.length_cons, List.length_nil, List.replicate_zero, List.replicate_succ, Nat.sub_self, Nat.zero_add, List.getElem?_cons_zero, List.getElem?_cons_succ, List.set_cons_zero, List.set_cons_succ, if_true, if_false, Bool.false_eq_true, decide_true, decide_false, Bool.not_true, Bool.not_false, decide_eq_true_eq, eq_self, Int.cast_ofNat_Int, Int.natCast_zero, Int.natCast_one, Nat.reduceLeDiff, Nat.reduceSub, Nat.reduceAdd, Nat.reduceLT, reduceIte, reduceCtorEq, Int.reduceEq, Int.reduceLT, Int.reduceLE, Int.reduceNeg, Int.reduceAdd, Int.reduceSub, Int.reduceMul, Int.reduceNe, Int.reduceBNe, Int.reduceBEq, f_is_tuple_of]
theorem is_fraction_ii {a b : Int} : callK G (k + 3) i_is_fraction [.tup [.int a, .int b]] S = some (.bl (decide (1 ≤ b) && decide ((Int.gcd a b : Int) = 1)), S) := by
  rw [call_fn g_is_fraction rfl]
  by_cases h : 1 ≤ b
  · simp only [E1, E2, E3, E4, E5, E6, E7, E8, E9, List.map_cons, List.map_nil, List.cons_append, List.nil_append, List.append_nil, List.length_cons, List.length_nil, List.replicate_zero, List.replicate_succ, Nat.sub_self, Nat.zero_add, List.getElem?_cons_zero, List.getElem?_cons_succ, List.set_cons_zero, List.set_cons_succ, if_true, if_false, Bool.false_eq_true, decide_true, decide_false, Bool.not_true, Bool.not_false, decide_eq_true_eq, eq_self, Int.cast_ofNat_Int, Int.natCast_zero, Int.natCast_one, Nat.reduceLeDiff, Nat.reduceSub, Nat.reduceAdd, Nat.reduceLT, reduceIte, reduceCtorEq, Int.reduceEq, Int.reduceLT, Int.reduceLE, Int.reduceNeg, Int.reduceAdd, Int.reduceSub, Int.reduceMul, Int.reduceNe, Int.reduceBNe, Int.reduceBEq, f_is_fraction, is_tuple_of_tup, is_number_int, is_from_int, common_ok, h]
    simp
  · simp only [E1, E2, E3, E4, E5, E6, E7, E8, E9, List.map_cons, List.map_nil, List.cons_append, List.nil_append, List.append_nil, List.length_cons, List.length_nil, List.replicate_zero, List.replicate_succ, Nat.sub_self, Nat.zero_add, List.getElem?_cons_zero, List.getElem?_cons_succ, List.set_cons_zero, List.set_cons_succ, if_true, if_false, Bool.false_eq_true, decide_true, decide_false, Bool.not_true, Bool.not_false, decide_eq_true_eq, eq_self, Int.cast_ofNat_Int, Int.natCast_zero, Int.natCast_one, Nat.reduceLeDiff, Nat.reduceSub, Nat.reduceAdd, Nat.reduceLT, reduceIte, reduceCtorEq, Int.reduceEq, Int.reduceLT, Int.reduceLE, Int.reduceNeg, Int.reduceAdd, Int.reduceSub, Int.reduceMul, Int.reduceNe, Int.reduceBNe, Int.reduceBEq, f_is_fraction, is_tuple_of_tup, is_number_int, is_from_int, common_ok, h]
    simp
theorem added_ok (h : Sm 4000 p) (g : Sm 4000 q) : callK G (k + 3) i_added [fr p, fr q] S = some (fr (p + q), S) := by
  rw [call_fn g_added rfl, add_eq]
  have h1 := h.nm.mulOk g.dn (by decide)
  have h2 := g.nm.mulOk h.dn (by decide)
  have h3 := h.dn.mulOk g.dn (by decide)
  have hf := fun u => fraction_ok (k := k) (S := S) (u := u) (Int.mul_ne_zero (den_ne (q := p)) (den_ne (q := q))) ((h.dn.mul g.dn).mono (by decide))
  simp only [E1, E2, E3, E4, E5, E6, E7, E8, E9, List.map_cons, List.map_nil, List.cons_append, List.nil_append, List.append_nil, List.length_cons, List.length_nil, List.replicate_zero, List.replicate_succ, Nat.sub_self, Nat.zero_add, List.getElem?_cons_zero, List.getElem?_cons_succ, List.set_cons_zero, List.set_cons_succ, if_true, if_false, Bool.false_eq_true, decide_true, decide_false, Bool.not_true, Bool.not_false, decide_eq_true_eq, eq_self, Int.cast_ofNat_Int, Int.natCast_zero, Int.natCast_one, Nat.reduceLeDiff, Nat.reduceSub, Nat.reduceAdd, Nat.reduceLT, reduceIte, reduceCtorEq, Int.reduceEq, Int.reduceLT, Int.reduceLE, Int.reduceNeg, Int.reduceAdd, Int.reduceSub, Int.reduceMul, Int.reduceNe, Int.reduceBNe, Int.reduceBEq, f_added, fr, h1, h2, h3, hf]
theorem negated_ok : callK G (k + 1) i_negated [fr p] S = some (fr (-p), S) := by
  rw [call_fn g_negated rfl, fr_neg]
  simp only [E1, E2, E3, E4, E5, E6, E7, E8, E9, List.map_cons, List.map_nil, List.cons_append, List.nil_append, List.append_nil, List.length_cons, List.length_nil, List.replicate_zero, List.replicate_succ, Nat.sub_self, Nat.zero_add, List.getElem?_cons_zero, List.getElem?_cons_succ, List.set_cons_zero, List.set_cons_succ, if_true, if_false, Bool.false_eq_true, decide_true, decide_false, Bool.not_true, Bool.not_false, decide_eq_true_eq, eq_self, Int.cast_ofNat_Int, Int.natCast_zero, Int.natCast_one, Nat.reduceLeDiff, Nat.reduceSub, Nat.reduceAdd, Nat.reduceLT, reduceIte, reduceCtorEq, Int.reduceEq, Int.reduceLT, Int.reduceLE, Int.reduceNeg, Int.reduceAdd, Int.reduceSub, Int.reduceMul, Int.reduceNe, Int.reduceBNe, Int.reduceBEq, f_negated, fr]
theorem taken_ok (h : Sm 4000 p) (g : Sm 4000 q) : callK G (k + 4) i_taken [fr p, fr q] S = some (fr (p - q), S) := by
  rw [call_fn g_taken rfl, Rat.sub_eq_add_neg]
  simp only [E1, E2, E3, E4, E5, E6, E7, E8, E9, List.map_cons, List.map_nil, List.cons_append, List.nil_append, List.append_nil, List.length_cons, List.length_nil, List.replicate_zero, List.replicate_succ, Nat.sub_self, Nat.zero_add, List.getElem?_cons_zero, List.getElem?_cons_succ, List.set_cons_zero, List.set_cons_succ, if_true, if_false, Bool.false_eq_true, decide_true, decide_false, Bool.not_true, Bool.not_false, decide_eq_true_eq, eq_self, Int.cast_ofNat_Int, Int.natCast_zero, Int.natCast_one, Nat.reduceLeDiff, Nat.reduceSub, Nat.reduceAdd, Nat.reduceLT, reduceIte, reduceCtorEq, Int.reduceEq, Int.reduceLT, Int.reduceLE, Int.reduceNeg, Int.reduceAdd, Int.reduceSub, Int.reduceMul, Int.reduceNe, Int.reduceBNe, Int.reduceBEq, f_taken, negated_ok, added_ok h g.neg]
theorem times_ok (h : Sm 4000 p) (g : Sm 4000 q) : callK G (k + 3) i_times [fr p, fr q] S = some (fr (p * q), S) := by
  rw [call_fn g_times rfl, mul_eq]
  have h1 := h.nm.mulOk g.nm (by decide)
  have h3 := h.dn.mulOk g.dn (by decide)
  have hf := fun u => fraction_ok (k := k) (S := S) (u := u) (Int.mul_ne_zero (den_ne (q := p)) (den_ne (q := q))) ((h.dn.mul g.dn).mono (by decide))
  simp only [E1, E2, E3, E4, E5, E6, E7, E8, E9, List.map_cons, List.map_nil, List.cons_append, List.nil_append, List.append_nil, List.length_cons, List.length_nil, List.replicate_zero, List.replicate_succ, Nat.sub_self, Nat.zero_add, List.getElem?_cons_zero, List.getElem?_cons_succ, List.set_cons_zero, List.set_cons_succ, if_true, if_false, Bool.false_eq_true, decide_true, decide_false, Bool.not_true, Bool.not_false, decide_eq_true_eq, eq_self, Int.cast_ofNat_Int, Int.natCast_zero, Int.natCast_one, Nat.reduceLeDiff, Nat.reduceSub, Nat.reduceAdd, Nat.reduceLT, reduceIte, reduceCtorEq, Int.reduceEq, Int.reduceLT, Int.reduceLE, Int.reduceNeg, Int.reduceAdd, Int.reduceSub, Int.reduceMul, Int.reduceNe, Int.reduceBNe, Int.reduceBEq, f_times, fr, h1, h3, hf]
theorem size_ok : callK G (k + 1) i_size [fr p] S = some (fr p.abs, S) := by
  rw [call_fn g_size rfl, fr_abs]
  simp only [E1, E2, E3, E4, E5, E6, E7, E8, E9, List.map_cons, List.map_nil, List.cons_append, List.nil_append, List.append_nil, List.length_cons, List.length_nil, List.replicate_zero, List.replicate_succ, Nat.sub_self, Nat.zero_add, List.getElem?_cons_zero, List.getElem?_cons_succ, List.set_cons_zero, List.set_cons_succ, if_true, if_false, Bool.false_eq_true, decide_true, decide_false, Bool.not_true, Bool.not_false, decide_eq_true_eq, eq_self, Int.cast_ofNat_Int, Int.natCast_zero, Int.natCast_one, Nat.reduceLeDiff, Nat.reduceSub, Nat.reduceAdd, Nat.reduceLT, reduceIte, reduceCtorEq, Int.reduceEq, Int.reduceLT, Int.reduceLE, Int.reduceNeg, Int.reduceAdd, Int.reduceSub, Int.reduceMul, Int.reduceNe, Int.reduceBNe, Int.reduceBEq, f_size, fr]
theorem is_most_ok (h : Sm 4000 p) (g : Sm 4000 q) : callK G (k + 1) i_is_most [fr p, fr q] S = some (.bl (decide (p ≤ q)), S) := by
  rw [call_fn g_is_most rfl, ← le_eq]
  have h1 := h.nm.mulOk g.dn (by decide)
  have h2 := g.nm.mulOk h.dn (by decide)
  simp only [E1, E2, E3, E4, E5, E6, E7, E8, E9, List.map_cons, List.map_nil, List.cons_append, List.nil_append, List.append_nil, List.length_cons, List.length_nil, List.replicate_zero, List.replicate_succ, Nat.sub_self, Nat.zero_add, List.getElem?_cons_zero, List.getElem?_cons_succ, List.set_cons_zero, List.set_cons_succ, if_true, if_false, Bool.false_eq_true, decide_true, decide_false, Bool.not_true, Bool.not_false, decide_eq_true_eq, eq_self, Int.cast_ofNat_Int, Int.natCast_zero, Int.natCast_one, Nat.reduceLeDiff, Nat.reduceSub, Nat.reduceAdd, Nat.reduceLT, reduceIte, reduceCtorEq, Int.reduceEq, Int.reduceLT, Int.reduceLE, Int.reduceNeg, Int.reduceAdd, Int.reduceSub, Int.reduceMul, Int.reduceNe, Int.reduceBNe, Int.reduceBEq, f_is_most, fr, h1, h2]
theorem two_to_ok {b : Int} (h : b.natAbs ≤ 10000) : callK G (k + 1) i_two_to [.int b] S = some (fr ((2 : Rat) ^ b), S) := by
  rw [call_fn g_two_to rfl, fr_two]
  by_cases c : 0 ≤ b
  · have := shl_one (b := b) c (by omega)
    simp only [E1, E2, E3, E4, E5, E6, E7, E8, E9, List.map_cons, List.map_nil, List.cons_append, List.nil_append, List.append_nil, List.length_cons, List.length_nil, List.replicate_zero, List.replicate_succ, Nat.sub_self, Nat.zero_add, List.getElem?_cons_zero, List.getElem?_cons_succ, List.set_cons_zero, List.set_cons_succ, if_true, if_false, Bool.false_eq_true, decide_true, decide_false, Bool.not_true, Bool.not_false, decide_eq_true_eq, eq_self, Int.cast_ofNat_Int, Int.natCast_zero, Int.natCast_one, Nat.reduceLeDiff, Nat.reduceSub, Nat.reduceAdd, Nat.reduceLT, reduceIte, reduceCtorEq, Int.reduceEq, Int.reduceLT, Int.reduceLE, Int.reduceNeg, Int.reduceAdd, Int.reduceSub, Int.reduceMul, Int.reduceNe, Int.reduceBNe, Int.reduceBEq, f_two_to, c, this, Int.one_mul]
  · have := shl_one (b := -b) (by omega) (by omega)
    simp only [E1, E2, E3, E4, E5, E6, E7, E8, E9, List.map_cons, List.map_nil, List.cons_append, List.nil_append, List.append_nil, List.length_cons, List.length_nil, List.replicate_zero, List.replicate_succ, Nat.sub_self, Nat.zero_add, List.getElem?_cons_zero, List.getElem?_cons_succ, List.set_cons_zero, List.set_cons_succ, if_true, if_false, Bool.false_eq_true, decide_true, decide_false, Bool.not_true, Bool.not_false, decide_eq_true_eq, eq_self, Int.cast_ofNat_Int, Int.natCast_zero, Int.natCast_one, Nat.reduceLeDiff, Nat.reduceSub, Nat.reduceAdd, Nat.reduceLT, reduceIte, reduceCtorEq, Int.reduceEq, Int.reduceLT, Int.reduceLE, Int.reduceNeg, Int.reduceAdd, Int.reduceSub, Int.reduceMul, Int.reduceNe, Int.reduceBNe, Int.reduceBEq, f_two_to, c, this, Int.one_mul]
theorem shifted_ok {b : Int} (h : Sm 4000 p) (g : b.natAbs ≤ 3999) : callK G (k + 4) i_shifted [fr p, .int b] S = some (fr (p * (2 : Rat) ^ b), S) := by
  rw [call_fn g_shifted rfl]
  simp only [E1, E2, E3, E4, E5, E6, E7, E8, E9, List.map_cons, List.map_nil, List.cons_append, List.nil_append, List.append_nil, List.length_cons, List.length_nil, List.replicate_zero, List.replicate_succ, Nat.sub_self, Nat.zero_add, List.getElem?_cons_zero, List.getElem?_cons_succ, List.set_cons_zero, List.set_cons_succ, if_true, if_false, Bool.false_eq_true, decide_true, decide_false, Bool.not_true, Bool.not_false, decide_eq_true_eq, eq_self, Int.cast_ofNat_Int, Int.natCast_zero, Int.natCast_one, Nat.reduceLeDiff, Nat.reduceSub, Nat.reduceAdd, Nat.reduceLT, reduceIte, reduceCtorEq, Int.reduceEq, Int.reduceLT, Int.reduceLE, Int.reduceNeg, Int.reduceAdd, Int.reduceSub, Int.reduceMul, Int.reduceNe, Int.reduceBNe, Int.reduceBEq, f_shifted, two_to_ok (b := b) (by omega), times_ok h (sm_two g)]
theorem bits_loop {cl : Nat → List D → Sto → Rs D} {m : Nat} (d : Nat) : ∀ i : Nat, i + d = bln m → whE (evT G cl c_bits_of_0) (evSs G cl b_bits_of_0) [some (.int m), some (.int i)] S = some (.nx [some (.int m), some (.int (bln m : Nat))], S) := by
  induction d with
  | zero =>
    intro i e
    refine (whE_end (S1 := S) ?_).trans ?_
    · have h0 : (0 : Int) ≤ (i : Int) := by omega
      have h1 : ¬ (0 : Int) < ((m : Int) / 2 ^ (i : Int).toNat) := by
        rw [bln_shr]
        omega
      simp only [E1, E2, E3, E4, E5, E6, E7, E8, E9, List.map_cons, List.map_nil, List.cons_append, List.nil_append, List.append_nil, List.length_cons, List.length_nil, List.replicate_zero, List.replicate_succ, Nat.sub_self, Nat.zero_add, List.getElem?_cons_zero, List.getElem?_cons_succ, List.set_cons_zero, List.set_cons_succ, if_true, if_false, Bool.false_eq_true, decide_true, decide_false, Bool.not_true, Bool.not_false, decide_eq_true_eq, eq_self, Int.cast_ofNat_Int, Int.natCast_zero, Int.natCast_one, Nat.reduceLeDiff, Nat.reduceSub, Nat.reduceAdd, Nat.reduceLT, reduceIte, reduceCtorEq, Int.reduceEq, Int.reduceLT, Int.reduceLE, Int.reduceNeg, Int.reduceAdd, Int.reduceSub, Int.reduceMul, Int.reduceNe, Int.reduceBNe, Int.reduceBEq, c_bits_of_0, h0, h1]
    · rw [← e]
      rfl
  | succ d ih =>
    intro i e
    refine whE_turn (S1 := S) (ρ2 := [some (.int m), some (.int ((i + 1 : Nat) : Int))]) (S2 := S) ?_ ?_ (ih (i + 1) (by omega))
    · have h0 : (0 : Int) ≤ (i : Int) := by omega
      have h1 : (0 : Int) < ((m : Int) / 2 ^ (i : Int).toNat) := by
        rw [bln_shr]
        omega
      simp only [E1, E2, E3, E4, E5, E6, E7, E8, E9, List.map_cons, List.map_nil, List.cons_append, List.nil_append, List.append_nil, List.length_cons, List.length_nil, List.replicate_zero, List.replicate_succ, Nat.sub_self, Nat.zero_add, List.getElem?_cons_zero, List.getElem?_cons_succ, List.set_cons_zero, List.set_cons_succ, if_true, if_false, Bool.false_eq_true, decide_true, decide_false, Bool.not_true, Bool.not_false, decide_eq_true_eq, eq_self, Int.cast_ofNat_Int, Int.natCast_zero, Int.natCast_one, Nat.reduceLeDiff, Nat.reduceSub, Nat.reduceAdd, Nat.reduceLT, reduceIte, reduceCtorEq, Int.reduceEq, Int.reduceLT, Int.reduceLE, Int.reduceNeg, Int.reduceAdd, Int.reduceSub, Int.reduceMul, Int.reduceNe, Int.reduceBNe, Int.reduceBEq, c_bits_of_0, h0, h1]
    · simp only [E1, E2, E3, E4, E5, E6, E7, E8, E9, List.map_cons, List.map_nil, List.cons_append, List.nil_append, List.append_nil, List.length_cons, List.length_nil, List.replicate_zero, List.replicate_succ, Nat.sub_self, Nat.zero_add, List.getElem?_cons_zero, List.getElem?_cons_succ, List.set_cons_zero, List.set_cons_succ, if_true, if_false, Bool.false_eq_true, decide_true, decide_false, Bool.not_true, Bool.not_false, decide_eq_true_eq, eq_self, Int.cast_ofNat_Int, Int.natCast_zero, Int.natCast_one, Nat.reduceLeDiff, Nat.reduceSub, Nat.reduceAdd, Nat.reduceLT, reduceIte, reduceCtorEq, Int.reduceEq, Int.reduceLT, Int.reduceLE, Int.reduceNeg, Int.reduceAdd, Int.reduceSub, Int.reduceMul, Int.reduceNe, Int.reduceBNe, Int.reduceBEq, b_bits_of_0]
      rfl
theorem bits_ok {m : Nat} : callK G (k + 1) i_bits_of [.int m] S = some (.int (bln m : Nat), S) := by
  rw [call_fn g_bits_of rfl]
  simp only [E1, E2, E3, E4, E5, E6, E7, E8, E9, List.map_cons, List.map_nil, List.cons_append, List.nil_append, List.append_nil, List.length_cons, List.length_nil, List.replicate_zero, List.replicate_succ, Nat.sub_self, Nat.zero_add, List.getElem?_cons_zero, List.getElem?_cons_succ, List.set_cons_zero, List.set_cons_succ, if_true, if_false, Bool.false_eq_true, decide_true, decide_false, Bool.not_true, Bool.not_false, decide_eq_true_eq, eq_self, Int.cast_ofNat_Int, Int.natCast_zero, Int.natCast_one, Nat.reduceLeDiff, Nat.reduceSub, Nat.reduceAdd, Nat.reduceLT, reduceIte, reduceCtorEq, Int.reduceEq, Int.reduceLT, Int.reduceLE, Int.reduceNeg, Int.reduceAdd, Int.reduceSub, Int.reduceMul, Int.reduceNe, Int.reduceBNe, Int.reduceBEq, f_bits_of]
  have := bits_loop (S := S) (cl := callK G k) (m := m) (bln m) 0 (by omega)
  rw [show ((0 : Nat) : Int) = 0 from rfl] at this
  rw [this]
  simp only [E1, E2, E3, E4, E5, E6, E7, E8, E9, List.map_cons, List.map_nil, List.cons_append, List.nil_append, List.append_nil, List.length_cons, List.length_nil, List.replicate_zero, List.replicate_succ, Nat.sub_self, Nat.zero_add, List.getElem?_cons_zero, List.getElem?_cons_succ, List.set_cons_zero, List.set_cons_succ, if_true, if_false, Bool.false_eq_true, decide_true, decide_false, Bool.not_true, Bool.not_false, decide_eq_true_eq, eq_self, Int.cast_ofNat_Int, Int.natCast_zero, Int.natCast_one, Nat.reduceLeDiff, Nat.reduceSub, Nat.reduceAdd, Nat.reduceLT, reduceIte, reduceCtorEq, Int.reduceEq, Int.reduceLT, Int.reduceLE, Int.reduceNeg, Int.reduceAdd, Int.reduceSub, Int.reduceMul, Int.reduceNe, Int.reduceBNe, Int.reduceBEq]
end

end Rw.Pk12

set_option exponentiation.threshold 300
namespace Rw.Pk12
open PySem L2 Rw
section
variable {k : Nat} {S : Sto}
/-- alike data are found alike -/
theorem same_turn {cl : Nat → List D → Sto → Rs D} {d : D} {ds : List D} {n : Nat} {a0 a1 a3 a4 a5 a6 a7 : Option D} (hd : okD n d = true) (hn : n ≤ 60) (hl : szD d + szDs ds ≤ 1000000) :
    ∃ (b3 b4 b5 b6 b7 : Option D) (es : List D) , evSs G cl b__law_same_0 [a0, a1, some (.ref S.length), a3, a4, a5, a6, a7] (S ++ [.lst ((ds ++ [d]).map dup)]) = some (.nx [a0, a1, some (.ref S.length), b3, b4, b5, b6, b7], S ++ [.lst ((ds ++ es).map dup)]) ∧ okDs n es = true ∧ szDs es < szD d := by
  have hlen : ∀ xs : List D, xs.length ≤ szDs xs := by
    intro xs
    induction xs with
    | nil => exact Nat.le_refl _
    | cons x xs ih =>
      show xs.length + 1 ≤ szD x + szDs xs
      have : 1 ≤ szD x := by cases x <;> simp [szD]
      omega
  have hds := hlen ds
  have he : (ds ++ [d]).map dup = ds.map dup ++ [dup d] := by simp
  rw [he]
  cases d with
  | non =>
    refine ⟨some .non, some .non, a5, a6, a7, [], ?_, rfl, Nat.zero_lt_one⟩
    simp only [E1, E2, E3, E4, E5, E6, E7, E8, E9, List.map_cons, List.map_nil, List.cons_append, List.nil_append, List.append_nil, List.length_cons, List.length_nil, List.replicate_zero, List.replicate_succ, Nat.sub_self, Nat.zero_add, List.getElem?_cons_zero, List.getElem?_cons_succ, List.set_cons_zero, List.set_cons_succ, if_true, if_false, Bool.false_eq_true, decide_true, decide_false, Bool.not_true, Bool.not_false, decide_eq_true_eq, eq_self, Int.cast_ofNat_Int, Int.natCast_zero, Int.natCast_one, Nat.reduceLeDiff, Nat.reduceSub, Nat.reduceAdd, Nat.reduceLT, reduceIte, reduceCtorEq, Int.reduceEq, Int.reduceLT, Int.reduceLE, Int.reduceNeg, Int.reduceAdd, Int.reduceSub, Int.reduceMul, Int.reduceNe, Int.reduceBNe, Int.reduceBEq, b__law_same_0, getRef, pop_new, dup]
  | bl b =>
    refine ⟨some (.bl b), some (.bl b), a5, a6, a7, [], ?_, rfl, Nat.zero_lt_one⟩
    simp only [E1, E2, E3, E4, E5, E6, E7, E8, E9, List.map_cons, List.map_nil, List.cons_append, List.nil_append, List.append_nil, List.length_cons, List.length_nil, List.replicate_zero, List.replicate_succ, Nat.sub_self, Nat.zero_add, List.getElem?_cons_zero, List.getElem?_cons_succ, List.set_cons_zero, List.set_cons_succ, if_true, if_false, Bool.false_eq_true, decide_true, decide_false, Bool.not_true, Bool.not_false, decide_eq_true_eq, eq_self, Int.cast_ofNat_Int, Int.natCast_zero, Int.natCast_one, Nat.reduceLeDiff, Nat.reduceSub, Nat.reduceAdd, Nat.reduceLT, reduceIte, reduceCtorEq, Int.reduceEq, Int.reduceLT, Int.reduceLE, Int.reduceNeg, Int.reduceAdd, Int.reduceSub, Int.reduceMul, Int.reduceNe, Int.reduceBNe, Int.reduceBEq, b__law_same_0, getRef, pop_new, dup]
  | int b =>
    refine ⟨some (.int b), some (.int b), a5, a6, a7, [], ?_, rfl, Nat.zero_lt_one⟩
    simp only [E1, E2, E3, E4, E5, E6, E7, E8, E9, List.map_cons, List.map_nil, List.cons_append, List.nil_append, List.append_nil, List.length_cons, List.length_nil, List.replicate_zero, List.replicate_succ, Nat.sub_self, Nat.zero_add, List.getElem?_cons_zero, List.getElem?_cons_succ, List.set_cons_zero, List.set_cons_succ, if_true, if_false, Bool.false_eq_true, decide_true, decide_false, Bool.not_true, Bool.not_false, decide_eq_true_eq, eq_self, Int.cast_ofNat_Int, Int.natCast_zero, Int.natCast_one, Nat.reduceLeDiff, Nat.reduceSub, Nat.reduceAdd, Nat.reduceLT, reduceIte, reduceCtorEq, Int.reduceEq, Int.reduceLT, Int.reduceLE, Int.reduceNeg, Int.reduceAdd, Int.reduceSub, Int.reduceMul, Int.reduceNe, Int.reduceBNe, Int.reduceBEq, b__law_same_0, getRef, pop_new, dup]
  | str b =>
    refine ⟨some (.str b), some (.str b), a5, a6, a7, [], ?_, rfl, Nat.zero_lt_one⟩
    simp only [E1, E2, E3, E4, E5, E6, E7, E8, E9, List.map_cons, List.map_nil, List.cons_append, List.nil_append, List.append_nil, List.length_cons, List.length_nil, List.replicate_zero, List.replicate_succ, Nat.sub_self, Nat.zero_add, List.getElem?_cons_zero, List.getElem?_cons_succ, List.set_cons_zero, List.set_cons_succ, if_true, if_false, Bool.false_eq_true, decide_true, decide_false, Bool.not_true, Bool.not_false, decide_eq_true_eq, eq_self, Int.cast_ofNat_Int, Int.natCast_zero, Int.natCast_one, Nat.reduceLeDiff, Nat.reduceSub, Nat.reduceAdd, Nat.reduceLT, reduceIte, reduceCtorEq, Int.reduceEq, Int.reduceLT, Int.reduceLE, Int.reduceNeg, Int.reduceAdd, Int.reduceSub, Int.reduceMul, Int.reduceNe, Int.reduceBNe, Int.reduceBEq, b__law_same_0, getRef, pop_new, dup]
  | tup xs =>
    cases n with
    | zero => exact absurd (show false = true from hd) Bool.false_ne_true
    | succ n =>
      obtain ⟨h1, h2⟩ := bk (show (okDs n xs && decide (xs.length ≤ sizeLine)) = true from hd)
      have hx := hlen xs
      have hz : szD (.tup xs) = 1 + szDs xs := rfl
      refine ⟨some (.tup xs), some (.tup xs), a5, a6, a7, xs, ?_, okDs_mono (Nat.le_succ n) h1, by omega⟩
      have hr := rng_nat (n := xs.length) (by omega)
      have hc : compL none ((List.range xs.length).map fun (i : Nat) => D.int (i : Int)) (ctn G cl e__law_same_4 (.name 7) .none [a0, a1, some (.ref S.length), some (.tup xs), some (.tup xs), a5, a6, none]) ((List.range xs.length).map fun (i : Nat) => D.int (i : Int)) (S ++ [.lst (ds.map dup)]) [] = some (xs.map dup, S ++ [.lst (ds.map dup)]) := by
        rw [compL_map (f := fun x => match x with
          | .int i => dup (xs[i.toNat]?.getD .non)
          | _ => .non), by_place _ dup]
        · simp
        · intro i hi
          simp [hi]
        · intro x hx
          obtain ⟨i, hi, rfl⟩ := List.mem_map.mp hx
          have hi := List.mem_range.mp hi
          have hat := at_nat hi
          unfold ctn
          simp only [E1, E2, E3, E4, E5, E6, E7, E8, E9, List.map_cons, List.map_nil, List.cons_append, List.nil_append, List.append_nil, List.length_cons, List.length_nil, List.replicate_zero, List.replicate_succ, Nat.sub_self, Nat.zero_add, List.getElem?_cons_zero, List.getElem?_cons_succ, List.set_cons_zero, List.set_cons_succ, if_true, if_false, Bool.false_eq_true, decide_true, decide_false, Bool.not_true, Bool.not_false, decide_eq_true_eq, eq_self, Int.cast_ofNat_Int, Int.natCast_zero, Int.natCast_one, Nat.reduceLeDiff, Nat.reduceSub, Nat.reduceAdd, Nat.reduceLT, reduceIte, reduceCtorEq, Int.reduceEq, Int.reduceLT, Int.reduceLE, Int.reduceNeg, Int.reduceAdd, Int.reduceSub, Int.reduceMul, Int.reduceNe, Int.reduceBNe, Int.reduceBEq, e__law_same_4, hat]
          simp [hi, dup]
      have hL : (ds.map dup).length + (xs.map dup).length ≤ sizeLine := le_size (by simp; omega)
      have hL2 : xs.length ≤ sizeLine := le_size (by omega)
      simp only [E1, E2, E3, E4, E5, E6, E7, E8, E9, List.map_cons, List.map_nil, List.cons_append, List.nil_append, List.append_nil, List.length_cons, List.length_nil, List.replicate_zero, List.replicate_succ, Nat.sub_self, Nat.zero_add, List.getElem?_cons_zero, List.getElem?_cons_succ, List.set_cons_zero, List.set_cons_succ, if_true, if_false, Bool.false_eq_true, decide_true, decide_false, Bool.not_true, Bool.not_false, decide_eq_true_eq, eq_self, Int.cast_ofNat_Int, Int.natCast_zero, Int.natCast_one, Nat.reduceLeDiff, Nat.reduceSub, Nat.reduceAdd, Nat.reduceLT, reduceIte, reduceCtorEq, Int.reduceEq, Int.reduceLT, Int.reduceLE, Int.reduceNeg, Int.reduceAdd, Int.reduceSub, Int.reduceMul, Int.reduceNe, Int.reduceBNe, Int.reduceBEq, b__law_same_0, getRef, pop_new, dup, hr, wipe_nil, wipe_cons, hc, List.length_range, List.length_map, hL2]
      simp only [E1, E2, E3, E4, E5, E6, E7, E8, E9, List.map_cons, List.map_nil, List.cons_append, List.nil_append, List.append_nil, List.length_cons, List.length_nil, List.replicate_zero, List.replicate_succ, Nat.sub_self, Nat.zero_add, List.getElem?_cons_zero, List.getElem?_cons_succ, List.set_cons_zero, List.set_cons_succ, if_true, if_false, Bool.false_eq_true, decide_true, decide_false, Bool.not_true, Bool.not_false, decide_eq_true_eq, eq_self, Int.cast_ofNat_Int, Int.natCast_zero, Int.natCast_one, Nat.reduceLeDiff, Nat.reduceSub, Nat.reduceAdd, Nat.reduceLT, reduceIte, reduceCtorEq, Int.reduceEq, Int.reduceLT, Int.reduceLE, Int.reduceNeg, Int.reduceAdd, Int.reduceSub, Int.reduceMul, Int.reduceNe, Int.reduceBNe, Int.reduceBEq, ext_new, hL, List.map_append]
  | lst xs =>
    cases n with
    | zero => exact absurd (show false = true from hd) Bool.false_ne_true
    | succ n =>
      obtain ⟨h1, h2⟩ := bk (show (okDs n xs && decide (xs.length ≤ sizeLine)) = true from hd)
      have hx := hlen xs
      have hz : szD (.lst xs) = 1 + szDs xs := rfl
      refine ⟨some (.lst xs), some (.lst xs), a5, a6, a7, xs, ?_, okDs_mono (Nat.le_succ n) h1, by omega⟩
      have hr := rng_nat (n := xs.length) (by omega)
      have hc : compL none ((List.range xs.length).map fun (i : Nat) => D.int (i : Int)) (ctn G cl e__law_same_4 (.name 7) .none [a0, a1, some (.ref S.length), some (.lst xs), some (.lst xs), a5, a6, none]) ((List.range xs.length).map fun (i : Nat) => D.int (i : Int)) (S ++ [.lst (ds.map dup)]) [] = some (xs.map dup, S ++ [.lst (ds.map dup)]) := by
        rw [compL_map (f := fun x => match x with
          | .int i => dup (xs[i.toNat]?.getD .non)
          | _ => .non), by_place _ dup]
        · simp
        · intro i hi
          simp [hi]
        · intro x hx
          obtain ⟨i, hi, rfl⟩ := List.mem_map.mp hx
          have hi := List.mem_range.mp hi
          have hat := at_nat hi
          unfold ctn
          simp only [E1, E2, E3, E4, E5, E6, E7, E8, E9, List.map_cons, List.map_nil, List.cons_append, List.nil_append, List.append_nil, List.length_cons, List.length_nil, List.replicate_zero, List.replicate_succ, Nat.sub_self, Nat.zero_add, List.getElem?_cons_zero, List.getElem?_cons_succ, List.set_cons_zero, List.set_cons_succ, if_true, if_false, Bool.false_eq_true, decide_true, decide_false, Bool.not_true, Bool.not_false, decide_eq_true_eq, eq_self, Int.cast_ofNat_Int, Int.natCast_zero, Int.natCast_one, Nat.reduceLeDiff, Nat.reduceSub, Nat.reduceAdd, Nat.reduceLT, reduceIte, reduceCtorEq, Int.reduceEq, Int.reduceLT, Int.reduceLE, Int.reduceNeg, Int.reduceAdd, Int.reduceSub, Int.reduceMul, Int.reduceNe, Int.reduceBNe, Int.reduceBEq, e__law_same_4, hat]
          simp [hi, dup]
      have hL : (ds.map dup).length + (xs.map dup).length ≤ sizeLine := le_size (by simp; omega)
      have hL2 : xs.length ≤ sizeLine := le_size (by omega)
      simp only [E1, E2, E3, E4, E5, E6, E7, E8, E9, List.map_cons, List.map_nil, List.cons_append, List.nil_append, List.append_nil, List.length_cons, List.length_nil, List.replicate_zero, List.replicate_succ, Nat.sub_self, Nat.zero_add, List.getElem?_cons_zero, List.getElem?_cons_succ, List.set_cons_zero, List.set_cons_succ, if_true, if_false, Bool.false_eq_true, decide_true, decide_false, Bool.not_true, Bool.not_false, decide_eq_true_eq, eq_self, Int.cast_ofNat_Int, Int.natCast_zero, Int.natCast_one, Nat.reduceLeDiff, Nat.reduceSub, Nat.reduceAdd, Nat.reduceLT, reduceIte, reduceCtorEq, Int.reduceEq, Int.reduceLT, Int.reduceLE, Int.reduceNeg, Int.reduceAdd, Int.reduceSub, Int.reduceMul, Int.reduceNe, Int.reduceBNe, Int.reduceBEq, b__law_same_0, getRef, pop_new, dup, hr, wipe_nil, wipe_cons, hc, List.length_range, List.length_map, hL2]
      simp only [E1, E2, E3, E4, E5, E6, E7, E8, E9, List.map_cons, List.map_nil, List.cons_append, List.nil_append, List.append_nil, List.length_cons, List.length_nil, List.replicate_zero, List.replicate_succ, Nat.sub_self, Nat.zero_add, List.getElem?_cons_zero, List.getElem?_cons_succ, List.set_cons_zero, List.set_cons_succ, if_true, if_false, Bool.false_eq_true, decide_true, decide_false, Bool.not_true, Bool.not_false, decide_eq_true_eq, eq_self, Int.cast_ofNat_Int, Int.natCast_zero, Int.natCast_one, Nat.reduceLeDiff, Nat.reduceSub, Nat.reduceAdd, Nat.reduceLT, reduceIte, reduceCtorEq, Int.reduceEq, Int.reduceLT, Int.reduceLE, Int.reduceNeg, Int.reduceAdd, Int.reduceSub, Int.reduceMul, Int.reduceNe, Int.reduceBNe, Int.reduceBEq, ext_new, hL, List.map_append]
  | flst _ => cases n <;> exact absurd (show false = true from hd) Bool.false_ne_true
  | ref _ => cases n <;> exact absurd (show false = true from hd) Bool.false_ne_true
  | ty _ => cases n <;> exact absurd (show false = true from hd) Bool.false_ne_true
theorem same_loop {cl : Nat → List D → Sto → Rs D} {n : Nat} (hn : n ≤ 60) (m : Nat) : ∀ (ds : List D) (a0 a1 a3 a4 a5 a6 a7 : Option D), szDs ds ≤ m → szDs ds ≤ 1000000 → okDs n ds = true →
    ∃ (b3 b4 b5 b6 b7 : Option D), whE (evT G cl c__law_same_0) (evSs G cl b__law_same_0) [a0, a1, some (.ref S.length), a3, a4, a5, a6, a7] (S ++ [.lst (ds.map dup)]) = some (.nx [a0, a1, some (.ref S.length), b3, b4, b5, b6, b7], S ++ [.lst []]) := by
  induction m with
  | zero =>
    intro ds a0 a1 a3 a4 a5 a6 a7 hm h1 ho
    cases ds with
    | nil =>
      refine ⟨a3, a4, a5, a6, a7, whE_end ?_⟩
      have := ne_nil (S := S) (ds := []) (n := 0) rfl (by decide)
      simp only [E1, E2, E3, E4, E5, E6, E7, E8, E9, List.map_cons, List.map_nil, List.cons_append, List.nil_append, List.append_nil, List.length_cons, List.length_nil, List.replicate_zero, List.replicate_succ, Nat.sub_self, Nat.zero_add, List.getElem?_cons_zero, List.getElem?_cons_succ, List.set_cons_zero, List.set_cons_succ, if_true, if_false, Bool.false_eq_true, decide_true, decide_false, Bool.not_true, Bool.not_false, decide_eq_true_eq, eq_self, Int.cast_ofNat_Int, Int.natCast_zero, Int.natCast_one, Nat.reduceLeDiff, Nat.reduceSub, Nat.reduceAdd, Nat.reduceLT, reduceIte, reduceCtorEq, Int.reduceEq, Int.reduceLT, Int.reduceLE, Int.reduceNeg, Int.reduceAdd, Int.reduceSub, Int.reduceMul, Int.reduceNe, Int.reduceBNe, Int.reduceBEq, c__law_same_0, this, List.isEmpty_nil]
    | cons d ds =>
      have : szDs (d :: ds) = szD d + szDs ds := rfl
      have : 1 ≤ szD d := by cases d <;> simp [szD]
      omega
  | succ m ih =>
    intro ds a0 a1 a3 a4 a5 a6 a7 hm h1 ho
    rcases List.eq_nil_or_concat ds with rfl | ⟨es, d, rfl⟩
    · exact ih [] a0 a1 a3 a4 a5 a6 a7 (Nat.zero_le _) (Nat.zero_le _) rfl
    · rw [List.concat_eq_append] at *
      rw [szDs_ap] at hm h1
      have ho' := ho
      rw [okDs_ap] at ho
      obtain ⟨o1, o2⟩ := bk ho
      have o3 : okD n d = true := (bk (show (okD n d && true) = true from o2)).1
      have e1 : szDs [d] = szD d := by simp [szDs]
      obtain ⟨b3, b4, b5, b6, b7, fs, hb, hf, hs⟩ := same_turn (S := S) (cl := cl) (d := d) (ds := es) (a0 := a0) (a1 := a1) (a3 := a3) (a4 := a4) (a5 := a5) (a6 := a6) (a7 := a7) o3 hn (by omega)
      obtain ⟨c3, c4, c5, c6, c7, h⟩ := ih (es ++ fs) a0 a1 b3 b4 b5 b6 b7 (by rw [szDs_ap]; omega) (by rw [szDs_ap]; omega) (by rw [okDs_ap, o1, hf]; rfl)
      refine ⟨c3, c4, c5, c6, c7, whE_turn ?_ hb h⟩
      have hok : okDs (n + 1) ((es ++ [d]).map dup) = true := dup_ok ho'
      have := ne_nil (S := S) hok (by omega)
      simp only [E1, E2, E3, E4, E5, E6, E7, E8, E9, List.map_cons, List.map_nil, List.cons_append, List.nil_append, List.append_nil, List.length_cons, List.length_nil, List.replicate_zero, List.replicate_succ, Nat.sub_self, Nat.zero_add, List.getElem?_cons_zero, List.getElem?_cons_succ, List.set_cons_zero, List.set_cons_succ, if_true, if_false, Bool.false_eq_true, decide_true, decide_false, Bool.not_true, Bool.not_false, decide_eq_true_eq, eq_self, Int.cast_ofNat_Int, Int.natCast_zero, Int.natCast_one, Nat.reduceLeDiff, Nat.reduceSub, Nat.reduceAdd, Nat.reduceLT, reduceIte, reduceCtorEq, Int.reduceEq, Int.reduceLT, Int.reduceLE, Int.reduceNeg, Int.reduceAdd, Int.reduceSub, Int.reduceMul, Int.reduceNe, Int.reduceBNe, Int.reduceBEq, c__law_same_0, this]
      simp
theorem same_ok {d : D} {n : Nat} (h : okD n d = true) (hn : n ≤ 60) (hz : szD d ≤ 1000000) : callK G (k + 1) i__law_same [d, d] S = some (.bl true, S) := by
  rw [call_fn g__law_same rfl]
  have hd : okDs n [d] = true := by
    show (okD n d && true) = true
    rw [h]
    rfl
  obtain ⟨b3, b4, b5, b6, b7, hl⟩ := same_loop (S := S) (cl := callK G k) hn (szD d) [d] (some d) (some d) none none none none none (by simp [szDs]) (by simp [szDs]; omega) hd
  have hl' : whE (evT G (callK G k) c__law_same_0) (evSs G (callK G k) b__law_same_0) [some d, some d, some (.ref S.length), none, none, none, none, none] (S ++ [.lst [.tup [d, d]]]) = some (.nx [some d, some d, some (.ref S.length), b3, b4, b5, b6, b7], S ++ [.lst []]) := hl
  simp only [E1, E2, E3, E4, E5, E6, E7, E8, E9, List.map_cons, List.map_nil, List.cons_append, List.nil_append, List.append_nil, List.length_cons, List.length_nil, List.replicate_zero, List.replicate_succ, Nat.sub_self, Nat.zero_add, List.getElem?_cons_zero, List.getElem?_cons_succ, List.set_cons_zero, List.set_cons_succ, if_true, if_false, Bool.false_eq_true, decide_true, decide_false, Bool.not_true, Bool.not_false, decide_eq_true_eq, eq_self, Int.cast_ofNat_Int, Int.natCast_zero, Int.natCast_one, Nat.reduceLeDiff, Nat.reduceSub, Nat.reduceAdd, Nat.reduceLT, reduceIte, reduceCtorEq, Int.reduceEq, Int.reduceLT, Int.reduceLE, Int.reduceNeg, Int.reduceAdd, Int.reduceSub, Int.reduceMul, Int.reduceNe, Int.reduceBNe, Int.reduceBEq, f__law_same, hl', prune_one bl_bl]
end

section
variable {k : Nat} {S T : Sto}
def wC (L : List D) (a : Int) : Cell := .dk [(.inr "draws", .lst L), (.inr "at", .int a)]
theorem w_at0 {L : List D} {a : Int} : (wC L a :: T)[0]? = some (wC L a) := rfl
/-- the next draw -/
theorem next_ok {L : List D} {a m : Int} (hL : ∀ d ∈ L, ∃ x : Int, d = .int x) (hm : 0 < m) (ha : 0 ≤ a) : ∃ v : Int, 0 ≤ v ∧ v < m ∧ callK G (k + 1) i__law_next [.ref 0, .int m] (wC L a :: T) = some (.int v, wC L (a + 1) :: T) := by
  rw [call_fn g__law_next rfl]
  have hs : ¬ (("draws" : Str) = ("at" : Str)) := by decide +kernel
  have hz : 2 < sizeLine := by rw [size_eq]; decide
  have e1 : augGet (wC L a :: T) (.ref 0) (.str "at") = some (.int a) := by
    simp [augGet, wC, keyD, lookK, hs]
  have e2 : putI (wC L a :: T) (.ref 0) (.str "at") (.int (a + 1)) = some (wC L (a + 1) :: T) := by
    simp [putI, wC, keyD, storeK, hz, hs]
  have e3 : idxD (wC L (a + 1) :: T) (.ref 0) (.str "at") = some (.int (a + 1)) := by
    simp [idxD, wC, keyD, lookK, hs]
  have e4 : idxD (wC L (a + 1) :: T) (.ref 0) (.str "draws") = some (.lst L) := by
    simp [idxD, wC, keyD, lookK, hs]
  have pl : ∀ d, prune (wC L a :: T) d (wC L (a + 1) :: T) = (d, wC L (a + 1) :: T) := fun d => prune_len rfl
  by_cases c : (L.length : Int) < a + 1
  · refine ⟨0, Int.le_refl _, hm, ?_⟩
    simp only [E1, E2, E3, E4, E5, E6, E7, E8, E9, List.map_cons, List.map_nil, List.cons_append, List.nil_append, List.append_nil, List.length_cons, List.length_nil, List.replicate_zero, List.replicate_succ, Nat.sub_self, Nat.zero_add, List.getElem?_cons_zero, List.getElem?_cons_succ, List.set_cons_zero, List.set_cons_succ, if_true, if_false, Bool.false_eq_true, decide_true, decide_false, Bool.not_true, Bool.not_false, decide_eq_true_eq, eq_self, Int.cast_ofNat_Int, Int.natCast_zero, Int.natCast_one, Nat.reduceLeDiff, Nat.reduceSub, Nat.reduceAdd, Nat.reduceLT, reduceIte, reduceCtorEq, Int.reduceEq, Int.reduceLT, Int.reduceLE, Int.reduceNeg, Int.reduceAdd, Int.reduceSub, Int.reduceMul, Int.reduceNe, Int.reduceBNe, Int.reduceBEq, f__law_next, e1, e2, e3, e4, c, pl]
  · have hi : (a.toNat) < L.length := by omega
    have hat : atI L (a + 1 - 1) = some L[a.toNat] := by
      have := at_nat hi
      rw [show a + 1 - 1 = ((a.toNat : Nat) : Int) by omega]
      exact this
    obtain ⟨x, hx⟩ := hL _ (List.getElem_mem hi)
    refine ⟨x.fmod m, Int.fmod_nonneg_of_pos _ hm, Int.fmod_lt_of_pos _ hm, ?_⟩
    have hm' : m ≠ 0 := by omega
    simp only [E1, E2, E3, E4, E5, E6, E7, E8, E9, List.map_cons, List.map_nil, List.cons_append, List.nil_append, List.append_nil, List.length_cons, List.length_nil, List.replicate_zero, List.replicate_succ, Nat.sub_self, Nat.zero_add, List.getElem?_cons_zero, List.getElem?_cons_succ, List.set_cons_zero, List.set_cons_succ, if_true, if_false, Bool.false_eq_true, decide_true, decide_false, Bool.not_true, Bool.not_false, decide_eq_true_eq, eq_self, Int.cast_ofNat_Int, Int.natCast_zero, Int.natCast_one, Nat.reduceLeDiff, Nat.reduceSub, Nat.reduceAdd, Nat.reduceLT, reduceIte, reduceCtorEq, Int.reduceEq, Int.reduceLT, Int.reduceLE, Int.reduceNeg, Int.reduceAdd, Int.reduceSub, Int.reduceMul, Int.reduceNe, Int.reduceBNe, Int.reduceBEq, f__law_next, e1, e2, e3, e4, c, pl, hat, hx, hm', ne_eq, not_false_eq_true]
theorem pick_ok {L : List D} {a : Int} {xs : List D} (hL : ∀ d ∈ L, ∃ x : Int, d = .int x) (hx : xs ≠ []) (ha : 0 ≤ a) : ∃ d ∈ xs, callK G (k + 2) i__law_pick [.ref 0, .lst xs] (wC L a :: T) = some (d, wC L (a + 1) :: T) := by
  have hp : 0 < xs.length := List.length_pos_iff.mpr hx
  obtain ⟨v, h1, h2, h3⟩ := next_ok (k := k) (T := T) (m := (xs.length : Int)) hL (by omega) ha
  have hi : v.toNat < xs.length := by omega
  refine ⟨xs[v.toNat], List.getElem_mem hi, ?_⟩
  rw [call_fn g__law_pick rfl]
  have hat : atI xs v = some xs[v.toNat] := by
    have := at_nat hi
    rw [show ((v.toNat : Nat) : Int) = v by omega] at this
    exact this
  have pl : ∀ d, prune (wC L a :: T) d (wC L (a + 1) :: T) = (d, wC L (a + 1) :: T) := fun d => prune_len rfl
  simp only [E1, E2, E3, E4, E5, E6, E7, E8, E9, List.map_cons, List.map_nil, List.cons_append, List.nil_append, List.append_nil, List.length_cons, List.length_nil, List.replicate_zero, List.replicate_succ, Nat.sub_self, Nat.zero_add, List.getElem?_cons_zero, List.getElem?_cons_succ, List.set_cons_zero, List.set_cons_succ, if_true, if_false, Bool.false_eq_true, decide_true, decide_false, Bool.not_true, Bool.not_false, decide_eq_true_eq, eq_self, Int.cast_ofNat_Int, Int.natCast_zero, Int.natCast_one, Nat.reduceLeDiff, Nat.reduceSub, Nat.reduceAdd, Nat.reduceLT, reduceIte, reduceCtorEq, Int.reduceEq, Int.reduceLT, Int.reduceLE, Int.reduceNeg, Int.reduceAdd, Int.reduceSub, Int.reduceMul, Int.reduceNe, Int.reduceBNe, Int.reduceBEq, f__law_pick, h3, hat, pl]
/-! the draws -/
theorem p18 : powOk 10 18 := by
  refine ⟨by decide, by decide, ?_⟩
  show (10 : Nat) < 2 ^ 64
  decide
theorem d997 : divOk 997 := ⟨by decide, by decide +kernel⟩
theorem draws_rest {cl : Nat → List D → Sto → Rs D} {a0 a1 a3 a4 a5 a7 : Option D} {c : Int} {xs : List Int} (hc : 0 ≤ c) (hl : xs.length ≤ 100000) :
    ∃ (c' : Int) (b7 : Option D) (ys : List Int), forL none ((List.range 60).map fun (i : Nat) => D.int (i : Int)) (fbd G cl (.name 7) b__law_draws_1) ((List.range 60).map fun (i : Nat) => D.int (i : Int)) [a0, a1, some (.ref S.length), a3, a4, a5, some (.int c), a7] (S ++ [.lst (xs.map D.int)]) = some (.nx [a0, a1, some (.ref S.length), a3, a4, a5, some (.int c'), b7], S ++ [.lst (ys.map D.int)]) ∧ ys.length ≤ xs.length + 60 := by
  have := forL_run (all := (List.range 60).map fun (i : Nat) => D.int (i : Int)) (body := fbd G cl (.name 7) b__law_draws_1) (xs := (List.range 60).map fun (i : Nat) => D.int (i : Int)) (ρ := [a0, a1, some (.ref S.length), a3, a4, a5, some (.int c), a7]) (S := S ++ [.lst (xs.map D.int)])
    (I := fun i ρ S' => ∃ (c' : Int) (b7 : Option D) (ys : List Int), ρ = [a0, a1, some (.ref S.length), a3, a4, a5, some (.int c'), b7] ∧ S' = S ++ [.lst (ys.map D.int)] ∧ ys.length ≤ xs.length + i) ?_ ⟨c, a7, xs, rfl, rfl, Nat.le_refl _⟩
  · obtain ⟨ρ1, S1, h, c', b7, ys, rfl, rfl, hy⟩ := this
    exact ⟨c', b7, ys, h, by simpa using hy⟩
  · rintro i x ρ S' hx ⟨c', b7, ys, rfl, rfl, hy⟩
    have hi : i < 60 := by
      have := (List.getElem?_eq_some_iff.mp hx).1
      simpa using this
    by_cases hp : 0 < c'
    · have hl' : (ys.map D.int).length < sizeLine := by
        have : (ys.map D.int).length + 1 ≤ sizeLine := le_size (by simp; omega)
        omega
      refine ⟨[a0, a1, some (.ref S.length), a3, a4, a5, some (.int (c'.fdiv 997)), some x], S ++ [.lst ((ys ++ [c'.fmod 997]).map D.int)], ?_, c'.fdiv 997, some x, _, rfl, rfl, by simp; omega⟩
      unfold fbd
      simp only [E1, E2, E3, E4, E5, E6, E7, E8, E9, List.map_cons, List.map_nil, List.cons_append, List.nil_append, List.append_nil, List.length_cons, List.length_nil, List.replicate_zero, List.replicate_succ, Nat.sub_self, Nat.zero_add, List.getElem?_cons_zero, List.getElem?_cons_succ, List.set_cons_zero, List.set_cons_succ, if_true, if_false, Bool.false_eq_true, decide_true, decide_false, Bool.not_true, Bool.not_false, decide_eq_true_eq, eq_self, Int.cast_ofNat_Int, Int.natCast_zero, Int.natCast_one, Nat.reduceLeDiff, Nat.reduceSub, Nat.reduceAdd, Nat.reduceLT, reduceIte, reduceCtorEq, Int.reduceEq, Int.reduceLT, Int.reduceLE, Int.reduceNeg, Int.reduceAdd, Int.reduceSub, Int.reduceMul, Int.reduceNe, Int.reduceBNe, Int.reduceBEq, b__law_draws_1, hp, getRef, ap_new, hl', d997, ne_eq, not_false_eq_true, List.map_append]
    · refine ⟨_, _, ?_, c', some x, ys, rfl, rfl, by omega⟩
      unfold fbd
      simp only [E1, E2, E3, E4, E5, E6, E7, E8, E9, List.map_cons, List.map_nil, List.cons_append, List.nil_append, List.append_nil, List.length_cons, List.length_nil, List.replicate_zero, List.replicate_succ, Nat.sub_self, Nat.zero_add, List.getElem?_cons_zero, List.getElem?_cons_succ, List.set_cons_zero, List.set_cons_succ, if_true, if_false, Bool.false_eq_true, decide_true, decide_false, Bool.not_true, Bool.not_false, decide_eq_true_eq, eq_self, Int.cast_ofNat_Int, Int.natCast_zero, Int.natCast_one, Nat.reduceLeDiff, Nat.reduceSub, Nat.reduceAdd, Nat.reduceLT, reduceIte, reduceCtorEq, Int.reduceEq, Int.reduceLT, Int.reduceLE, Int.reduceNeg, Int.reduceAdd, Int.reduceSub, Int.reduceMul, Int.reduceNe, Int.reduceBNe, Int.reduceBEq, b__law_draws_1, hp]
theorem draws_ok {ns : List Int} {m : Nat} (hn : ns.length ≤ 63) (hm : m ≤ 30000) : ∃ L : List Int, callK G (k + 1) i__law_draws [.flst (ns.map D.int), .int (m : Int)] S = some (.lst (L.map D.int), S) := by
  rw [call_fn g__law_draws rfl]
  have r1 := rng_nat (n := ns.length) (by omega)
  have r2 := rng_nat (n := m) (by omega)
  have r3 := rng_nat (n := 60) (by omega)
  obtain ⟨ρ1, S1, h1, x4, x5, x6, x7, mx, ys, rfl, rfl, hmx, hys⟩ := forL_run (all := (List.range ns.length).map fun (i : Nat) => D.int (i : Int)) (body := fbd G (callK G k) (.name 4) b__law_draws_0) (xs := (List.range ns.length).map fun (i : Nat) => D.int (i : Int)) (ρ := [some (.flst (ns.map D.int)), some (.int (m : Int)), some (.ref S.length), some (.int 7), none, none, none, none]) (S := S ++ [.lst []])
    (I := fun i ρ S' => ∃ (x4 x5 x6 x7 : Option D) (mx : Int) (ys : List Int), ρ = [some (.flst (ns.map D.int)), some (.int (m : Int)), some (.ref S.length), some (.int mx), x4, x5, x6, x7] ∧ S' = S ++ [.lst (ys.map D.int)] ∧ Bd 17 mx ∧ ys.length ≤ 62 * i)
    (by
      rintro i x ρ S' hx ⟨x4, x5, x6, x7, mx, ys, rfl, rfl, hmx, hys⟩
      have hi : i < ns.length := by
        have := (List.getElem?_eq_some_iff.mp hx).1
        simpa using this
      have hxi : x = .int (i : Int) := by
        have := (List.getElem?_eq_some_iff.mp hx).2
        simpa using this.symm
      subst hxi
      have hat := at_nat (xs := ns.map D.int) (n := i) (by simpa using hi)
      simp only [List.getElem_map] at hat
      have m1 := hmx.mulOk (n := 17) (m := 16) (b := 48271) (show (48271 : Nat) < 2 ^ 16 by decide) (by decide)
      have hp : (10 : Int) ^ (18 : Int).toNat = 1000000000000000000 := by decide
      have z1 : (1000003 : Int) ≠ 0 := by decide
      have z2 : (65537 : Int) ≠ 0 := by decide
      have b2 : ∀ z : Int, Bd 17 (z.fmod 65537) := fun z => by
        have h1 := Int.fmod_nonneg_of_pos z (b := 65537) (by decide)
        have h2 := Int.fmod_lt_of_pos z (b := 65537) (by decide)
        show (z.fmod 65537).natAbs < 131072
        omega
      by_cases c : (1000000000000000000 : Int) ≤ (ns[i].natAbs : Int)
      · obtain ⟨c', b7, zs, h, hz⟩ := draws_rest (S := S) (cl := callK G k) (a0 := some (.flst (ns.map D.int))) (a1 := some (.int (m : Int))) (a3 := some (.int ((mx * 48271 + ((ns[i].natAbs : Int)).fmod 1000003 + i).fmod 65537))) (a4 := some (.int (i : Int))) (a5 := some (.int (ns[i].natAbs : Int))) (a7 := x7) (c := (ns[i].natAbs : Int)) (xs := ys) (by omega) (by omega)
        refine ⟨_, _, ?_, some (.int (i : Int)), some (.int (ns[i].natAbs : Int)), some (.int c'), b7, (mx * 48271 + ((ns[i].natAbs : Int)).fmod 1000003 + i).fmod 65537, zs, rfl, rfl, b2 _, by omega⟩
        unfold fbd
        simp only [E1, E2, E3, E4, E5, E6, E7, E8, E9, List.map_cons, List.map_nil, List.cons_append, List.nil_append, List.append_nil, List.length_cons, List.length_nil, List.replicate_zero, List.replicate_succ, Nat.sub_self, Nat.zero_add, List.getElem?_cons_zero, List.getElem?_cons_succ, List.set_cons_zero, List.set_cons_succ, if_true, if_false, Bool.false_eq_true, decide_true, decide_false, Bool.not_true, Bool.not_false, decide_eq_true_eq, eq_self, Int.cast_ofNat_Int, Int.natCast_zero, Int.natCast_one, Nat.reduceLeDiff, Nat.reduceSub, Nat.reduceAdd, Nat.reduceLT, reduceIte, reduceCtorEq, Int.reduceEq, Int.reduceLT, Int.reduceLE, Int.reduceNeg, Int.reduceAdd, Int.reduceSub, Int.reduceMul, Int.reduceNe, Int.reduceBNe, Int.reduceBEq, b__law_draws_0, hat, abs_nat, m1, p18, hp, c, ne_eq, not_false_eq_true]
        rw [show (60 : Int) = ((60 : Nat) : Int) from rfl, r3]
        simp only [E1, E2, E3, E4, E5, E6, E7, E8, E9, List.map_cons, List.map_nil, List.cons_append, List.nil_append, List.append_nil, List.length_cons, List.length_nil, List.replicate_zero, List.replicate_succ, Nat.sub_self, Nat.zero_add, List.getElem?_cons_zero, List.getElem?_cons_succ, List.set_cons_zero, List.set_cons_succ, if_true, if_false, Bool.false_eq_true, decide_true, decide_false, Bool.not_true, Bool.not_false, decide_eq_true_eq, eq_self, Int.cast_ofNat_Int, Int.natCast_zero, Int.natCast_one, Nat.reduceLeDiff, Nat.reduceSub, Nat.reduceAdd, Nat.reduceLT, reduceIte, reduceCtorEq, Int.reduceEq, Int.reduceLT, Int.reduceLE, Int.reduceNeg, Int.reduceAdd, Int.reduceSub, Int.reduceMul, Int.reduceNe, Int.reduceBNe, Int.reduceBEq, List.length_map, List.length_range]
        rw [h]
        simp only [E1, E2, E3, E4, E5, E6, E7, E8, E9, List.map_cons, List.map_nil, List.cons_append, List.nil_append, List.append_nil, List.length_cons, List.length_nil, List.replicate_zero, List.replicate_succ, Nat.sub_self, Nat.zero_add, List.getElem?_cons_zero, List.getElem?_cons_succ, List.set_cons_zero, List.set_cons_succ, if_true, if_false, Bool.false_eq_true, decide_true, decide_false, Bool.not_true, Bool.not_false, decide_eq_true_eq, eq_self, Int.cast_ofNat_Int, Int.natCast_zero, Int.natCast_one, Nat.reduceLeDiff, Nat.reduceSub, Nat.reduceAdd, Nat.reduceLT, reduceIte, reduceCtorEq, Int.reduceEq, Int.reduceLT, Int.reduceLE, Int.reduceNeg, Int.reduceAdd, Int.reduceSub, Int.reduceMul, Int.reduceNe, Int.reduceBNe, Int.reduceBEq]
      · have hl1 : (ys.map D.int).length < sizeLine := by
          have : (ys.map D.int).length + 1 ≤ sizeLine := le_size (by simp; omega)
          omega
        have hl2 : (ys.map D.int).length + 1 < sizeLine := by
          have : (ys.map D.int).length + 1 + 1 ≤ sizeLine := le_size (by simp; omega)
          omega
        have m2 := (b2 (mx * 48271 + ((ns[i].natAbs : Int)).fmod 1000003 + i)).mulOk (n := 17) (m := 17) (b := 69621) (show (69621 : Nat) < 2 ^ 17 by decide) (by decide)
        obtain ⟨c', b7, zs, h, hz⟩ := draws_rest (S := S) (cl := callK G k) (a0 := some (.flst (ns.map D.int))) (a1 := some (.int (m : Int))) (a3 := some (.int ((mx * 48271 + ((ns[i].natAbs : Int)).fmod 1000003 + i).fmod 65537))) (a4 := some (.int (i : Int))) (a5 := some (.int (ns[i].natAbs : Int))) (a7 := x7) (c := 0) (xs := ys ++ [((ns[i].natAbs : Int)).fmod 997, (((mx * 48271 + ((ns[i].natAbs : Int)).fmod 1000003 + i).fmod 65537 * 69621 + 5).fmod 65521).fmod 997]) (by omega) (by simp; omega)
        refine ⟨_, _, ?_, some (.int (i : Int)), some (.int (ns[i].natAbs : Int)), some (.int c'), b7, (mx * 48271 + ((ns[i].natAbs : Int)).fmod 1000003 + i).fmod 65537, zs, rfl, rfl, b2 _, by simp at hz; omega⟩
        unfold fbd
        simp only [E1, E2, E3, E4, E5, E6, E7, E8, E9, List.map_cons, List.map_nil, List.cons_append, List.nil_append, List.append_nil, List.length_cons, List.length_nil, List.replicate_zero, List.replicate_succ, Nat.sub_self, Nat.zero_add, List.getElem?_cons_zero, List.getElem?_cons_succ, List.set_cons_zero, List.set_cons_succ, if_true, if_false, Bool.false_eq_true, decide_true, decide_false, Bool.not_true, Bool.not_false, decide_eq_true_eq, eq_self, Int.cast_ofNat_Int, Int.natCast_zero, Int.natCast_one, Nat.reduceLeDiff, Nat.reduceSub, Nat.reduceAdd, Nat.reduceLT, reduceIte, reduceCtorEq, Int.reduceEq, Int.reduceLT, Int.reduceLE, Int.reduceNeg, Int.reduceAdd, Int.reduceSub, Int.reduceMul, Int.reduceNe, Int.reduceBNe, Int.reduceBEq, b__law_draws_0, hat, abs_nat, m1, m2, p18, hp, c, ne_eq, not_false_eq_true, getRef, ap_new, hl1, hl2, List.length_append]
        rw [show (60 : Int) = ((60 : Nat) : Int) from rfl, r3]
        simp only [List.map_append, List.map_cons, List.map_nil] at h
        simp only [E1, E2, E3, E4, E5, E6, E7, E8, E9, List.map_cons, List.map_nil, List.cons_append, List.nil_append, List.append_nil, List.length_cons, List.length_nil, List.replicate_zero, List.replicate_succ, Nat.sub_self, Nat.zero_add, List.getElem?_cons_zero, List.getElem?_cons_succ, List.set_cons_zero, List.set_cons_succ, if_true, if_false, Bool.false_eq_true, decide_true, decide_false, Bool.not_true, Bool.not_false, decide_eq_true_eq, eq_self, Int.cast_ofNat_Int, Int.natCast_zero, Int.natCast_one, Nat.reduceLeDiff, Nat.reduceSub, Nat.reduceAdd, Nat.reduceLT, reduceIte, reduceCtorEq, Int.reduceEq, Int.reduceLT, Int.reduceLE, Int.reduceNeg, Int.reduceAdd, Int.reduceSub, Int.reduceMul, Int.reduceNe, Int.reduceBNe, Int.reduceBEq, List.append_assoc, h])
    ⟨none, none, none, none, 7, [], rfl, rfl, (by show (7 : Nat) < 2 ^ 17; decide), Nat.le_refl _⟩
  obtain ⟨ρ2, S2, h2, y4, y5, y6, y7, my, zs, rfl, rfl, hmy, hzs⟩ := forL_run (all := (List.range m).map fun (i : Nat) => D.int (i : Int)) (body := fbd G (callK G k) (.name 4) b__law_draws_2) (xs := (List.range m).map fun (i : Nat) => D.int (i : Int)) (ρ := [some (.flst (ns.map D.int)), some (.int (m : Int)), some (.ref S.length), some (.int mx), x4, x5, x6, x7]) (S := S ++ [.lst (ys.map D.int)])
    (I := fun i ρ S' => ∃ (x4 x5 x6 x7 : Option D) (mx : Int) (zs : List Int), ρ = [some (.flst (ns.map D.int)), some (.int (m : Int)), some (.ref S.length), some (.int mx), x4, x5, x6, x7] ∧ S' = S ++ [.lst (zs.map D.int)] ∧ Bd 17 mx ∧ zs.length ≤ 62 * 63 + i)
    (by
      rintro i x ρ S' hx ⟨x4, x5, x6, x7, mx, zs, rfl, rfl, hmx, hzs⟩
      have hi : i < m := by
        have := (List.getElem?_eq_some_iff.mp hx).1
        simpa using this
      have hxi : x = .int (i : Int) := by
        have := (List.getElem?_eq_some_iff.mp hx).2
        simpa using this.symm
      subst hxi
      have m1 := hmx.mulOk (n := 17) (m := 15) (b := 16807) (show (16807 : Nat) < 2 ^ 15 by decide) (by decide)
      have hl1 : (zs.map D.int).length < sizeLine := by
        have : (zs.map D.int).length + 1 ≤ sizeLine := le_size (by simp; omega)
        omega
      refine ⟨_, _, ?_, some (.int (i : Int)), x5, x6, x7, (mx * 16807 + i + 1).fmod 65537, zs ++ [((mx * 16807 + i + 1).fmod 65537).fmod 997], rfl, rfl, ?_, by simp; omega⟩
      · unfold fbd
        simp only [E1, E2, E3, E4, E5, E6, E7, E8, E9, List.map_cons, List.map_nil, List.cons_append, List.nil_append, List.append_nil, List.length_cons, List.length_nil, List.replicate_zero, List.replicate_succ, Nat.sub_self, Nat.zero_add, List.getElem?_cons_zero, List.getElem?_cons_succ, List.set_cons_zero, List.set_cons_succ, if_true, if_false, Bool.false_eq_true, decide_true, decide_false, Bool.not_true, Bool.not_false, decide_eq_true_eq, eq_self, Int.cast_ofNat_Int, Int.natCast_zero, Int.natCast_one, Nat.reduceLeDiff, Nat.reduceSub, Nat.reduceAdd, Nat.reduceLT, reduceIte, reduceCtorEq, Int.reduceEq, Int.reduceLT, Int.reduceLE, Int.reduceNeg, Int.reduceAdd, Int.reduceSub, Int.reduceMul, Int.reduceNe, Int.reduceBNe, Int.reduceBEq, b__law_draws_2, m1, ne_eq, not_false_eq_true, getRef, ap_new, hl1, List.map_append]
      · have h1 := Int.fmod_nonneg_of_pos (mx * 16807 + i + 1) (b := 65537) (by decide)
        have h2 := Int.fmod_lt_of_pos (mx * 16807 + i + 1) (b := 65537) (by decide)
        show ((mx * 16807 + i + 1).fmod 65537).natAbs < 131072
        omega)
    ⟨x4, x5, x6, x7, mx, ys, rfl, rfl, hmx, by simp at hys; omega⟩
  refine ⟨cutD zs none (some (m : Int)), ?_⟩
  have hcut : slD (S ++ [.lst (zs.map D.int)]) (.ref S.length) none (some (m : Int)) = some (.lst ((cutD zs none (some (m : Int))).map D.int)) := by
    show (lstOf (S ++ [.lst (zs.map D.int)]) (.ref S.length)).map _ = _
    rw [getRef]
    simp [cutD, List.map_take, List.map_drop]
  have hb : below S.length (.lst ((cutD zs none (some (m : Int))).map D.int)) = true := bls_map (f := D.int) (fun _ => rfl) _
  simp only [E1, E2, E3, E4, E5, E6, E7, E8, E9, List.map_cons, List.map_nil, List.cons_append, List.nil_append, List.append_nil, List.length_cons, List.length_nil, List.replicate_zero, List.replicate_succ, Nat.sub_self, Nat.zero_add, List.getElem?_cons_zero, List.getElem?_cons_succ, List.set_cons_zero, List.set_cons_succ, if_true, if_false, Bool.false_eq_true, decide_true, decide_false, Bool.not_true, Bool.not_false, decide_eq_true_eq, eq_self, Int.cast_ofNat_Int, Int.natCast_zero, Int.natCast_one, Nat.reduceLeDiff, Nat.reduceSub, Nat.reduceAdd, Nat.reduceLT, reduceIte, reduceCtorEq, Int.reduceEq, Int.reduceLT, Int.reduceLE, Int.reduceNeg, Int.reduceAdd, Int.reduceSub, Int.reduceMul, Int.reduceNe, Int.reduceBNe, Int.reduceBEq, f__law_draws, r1, r2, len_f, List.length_map, h1, h2, hcut, prune_one hb]
end

end Rw.Pk12

set_option exponentiation.threshold 300
namespace Rw.Pk12
open PySem L2 Rw
section
variable {k : Nat} {S : Sto} {p q r : Rat} {n : Nat}
theorem least_loop {cl : Nat → List D → Sto → Rs D} {x y : Option D} : ∀ n m : Nat, whE (evT G cl c__law_least_0) (evSs G cl b__law_least_0) [x, y, some (.int m), some (.int n)] S = some (.nx [x, y, some (.int (Nat.gcd m n : Nat)), some (.int 0)], S) := by
  intro n
  induction n using Nat.strongRecOn with
  | ind n ih =>
    intro m
    by_cases e : n = 0
    · subst e
      refine (whE_end (S1 := S) ?_).trans ?_
      · simp only [E1, E2, E3, E4, E5, E6, E7, E8, E9, List.map_cons, List.map_nil, List.cons_append, List.nil_append, List.append_nil, List.length_cons, List.length_nil, List.replicate_zero, List.replicate_succ, Nat.sub_self, Nat.zero_add, List.getElem?_cons_zero, List.getElem?_cons_succ, List.set_cons_zero, List.set_cons_succ, if_true, if_false, Bool.false_eq_true, decide_true, decide_false, Bool.not_true, Bool.not_false, decide_eq_true_eq, eq_self, Int.cast_ofNat_Int, Int.natCast_zero, Int.natCast_one, Nat.reduceLeDiff, Nat.reduceSub, Nat.reduceAdd, Nat.reduceLT, reduceIte, reduceCtorEq, Int.reduceEq, Int.reduceLT, Int.reduceLE, Int.reduceNeg, Int.reduceAdd, Int.reduceSub, Int.reduceMul, Int.reduceNe, Int.reduceBNe, Int.reduceBEq, c__law_least_0]
      · rw [Nat.gcd_zero_right]
        rfl
    · refine whE_turn (S1 := S) (ρ2 := [x, y, some (.int n), some (.int ((m % n : Nat) : Int))]) (S2 := S) ?_ ?_ ((ih (m % n) (Nat.mod_lt _ (by omega)) n).trans ?_)
      · have : (0 : Int) < (n : Int) := by omega
        simp only [E1, E2, E3, E4, E5, E6, E7, E8, E9, List.map_cons, List.map_nil, List.cons_append, List.nil_append, List.append_nil, List.length_cons, List.length_nil, List.replicate_zero, List.replicate_succ, Nat.sub_self, Nat.zero_add, List.getElem?_cons_zero, List.getElem?_cons_succ, List.set_cons_zero, List.set_cons_succ, if_true, if_false, Bool.false_eq_true, decide_true, decide_false, Bool.not_true, Bool.not_false, decide_eq_true_eq, eq_self, Int.cast_ofNat_Int, Int.natCast_zero, Int.natCast_one, Nat.reduceLeDiff, Nat.reduceSub, Nat.reduceAdd, Nat.reduceLT, reduceIte, reduceCtorEq, Int.reduceEq, Int.reduceLT, Int.reduceLE, Int.reduceNeg, Int.reduceAdd, Int.reduceSub, Int.reduceMul, Int.reduceNe, Int.reduceBNe, Int.reduceBEq, c__law_least_0, this]
      · have : (n : Int) ≠ 0 := by omega
        simp only [E1, E2, E3, E4, E5, E6, E7, E8, E9, List.map_cons, List.map_nil, List.cons_append, List.nil_append, List.append_nil, List.length_cons, List.length_nil, List.replicate_zero, List.replicate_succ, Nat.sub_self, Nat.zero_add, List.getElem?_cons_zero, List.getElem?_cons_succ, List.set_cons_zero, List.set_cons_succ, if_true, if_false, Bool.false_eq_true, decide_true, decide_false, Bool.not_true, Bool.not_false, decide_eq_true_eq, eq_self, Int.cast_ofNat_Int, Int.natCast_zero, Int.natCast_one, Nat.reduceLeDiff, Nat.reduceSub, Nat.reduceAdd, Nat.reduceLT, reduceIte, reduceCtorEq, Int.reduceEq, Int.reduceLT, Int.reduceLE, Int.reduceNeg, Int.reduceAdd, Int.reduceSub, Int.reduceMul, Int.reduceNe, Int.reduceBNe, Int.reduceBEq, b__law_least_0, this, fmod_nat, ne_eq, not_false_eq_true]
      · rw [Nat.gcd_comm m n, Nat.gcd_rec n m, Nat.gcd_comm]
theorem least_ok {u l : Int} (h : l ≠ 0) (b : Bd 8999 l) : callK G (k + 1) i__law_least [.int u, .int l] S = some (fr (Rat.divInt u l), S) := by
  have hd : divOk (if 0 < l then (Int.gcd u l : Int) else -(Int.gcd u l : Int)) := by
    split
    · exact (gcd_bd h b).divOk (gcd_ne h) (by omega)
    · exact (gcd_bd h b).neg.divOk (by have := gcd_ne (u := u) h; omega) (by omega)
  have hg : ((Nat.gcd u.natAbs l.natAbs : Nat) : Int) = (Int.gcd u l : Int) := rfl
  rw [call_fn g__law_least rfl, fr_div h]
  by_cases c : 0 < l
  · simp only [c, if_true] at hd ⊢
    simp only [E1, E2, E3, E4, E5, E6, E7, E8, E9, List.map_cons, List.map_nil, List.cons_append, List.nil_append, List.append_nil, List.length_cons, List.length_nil, List.replicate_zero, List.replicate_succ, Nat.sub_self, Nat.zero_add, List.getElem?_cons_zero, List.getElem?_cons_succ, List.set_cons_zero, List.set_cons_succ, if_true, if_false, Bool.false_eq_true, decide_true, decide_false, Bool.not_true, Bool.not_false, decide_eq_true_eq, eq_self, Int.cast_ofNat_Int, Int.natCast_zero, Int.natCast_one, Nat.reduceLeDiff, Nat.reduceSub, Nat.reduceAdd, Nat.reduceLT, reduceIte, reduceCtorEq, Int.reduceEq, Int.reduceLT, Int.reduceLE, Int.reduceNeg, Int.reduceAdd, Int.reduceSub, Int.reduceMul, Int.reduceNe, Int.reduceBNe, Int.reduceBEq, f__law_least, c, abs_nat, least_loop, hg, hd]
  · simp only [c, if_false] at hd ⊢
    simp only [E1, E2, E3, E4, E5, E6, E7, E8, E9, List.map_cons, List.map_nil, List.cons_append, List.nil_append, List.append_nil, List.length_cons, List.length_nil, List.replicate_zero, List.replicate_succ, Nat.sub_self, Nat.zero_add, List.getElem?_cons_zero, List.getElem?_cons_succ, List.set_cons_zero, List.set_cons_succ, if_true, if_false, Bool.false_eq_true, decide_true, decide_false, Bool.not_true, Bool.not_false, decide_eq_true_eq, eq_self, Int.cast_ofNat_Int, Int.natCast_zero, Int.natCast_one, Nat.reduceLeDiff, Nat.reduceSub, Nat.reduceAdd, Nat.reduceLT, reduceIte, reduceCtorEq, Int.reduceEq, Int.reduceLT, Int.reduceLE, Int.reduceNeg, Int.reduceAdd, Int.reduceSub, Int.reduceMul, Int.reduceNe, Int.reduceBNe, Int.reduceBEq, f__law_least, c, abs_nat, least_loop, hg, Int.zero_sub, hd]
theorem least_mul (h : Sm 4000 p) (g : Sm 4000 q) : callK G (k + 1) i__law_least [.int (p.num * q.num), .int ((p.den : Int) * (q.den : Int))] S = some (fr (p * q), S) := by
  rw [mul_eq]
  exact least_ok (Int.mul_ne_zero den_ne den_ne) ((h.dn.mul g.dn).mono (by decide))
theorem least_quo (h : Sm 4000 p) (g : Sm 4000 q) (z : q.num ≠ 0) : callK G (k + 1) i__law_least [.int (p.num * (q.den : Int)), .int ((p.den : Int) * q.num)] S = some (fr (p / q), S) := by
  rw [div_eq]
  exact least_ok (Int.mul_ne_zero den_ne z) ((h.dn.mul g.nm).mono (by decide))
theorem least_add (h : Sm 4000 p) (g : Sm 4000 q) : callK G (k + 1) i__law_least [.int (p.num * (q.den : Int) + q.num * (p.den : Int)), .int ((p.den : Int) * (q.den : Int))] S = some (fr (p + q), S) := by
  rw [add_eq]
  exact least_ok (Int.mul_ne_zero den_ne den_ne) ((h.dn.mul g.dn).mono (by decide))
/-- the sum of small fractions, as the law takes it -/
theorem lsum_loop {all : List D} {x : Option D} (hn : n ≤ 4000) : ∀ (qs : List Rat) (q0 : Rat) (m : Nat) (y z : Option D), Sm m q0 → (∀ q ∈ qs, Sm n q) → m + qs.length * (n + 1) ≤ 4000 → ∃ y' z', forL none all (fbd G (callK G (k + 1)) (.tup (.cons (.name 3) (.cons (.name 4) .nil))) b__law_sum_0) (qs.map fr) [x, some (.int q0.num), some (.int (q0.den : Int)), y, z] S = some (.nx [x, some (.int (qs.foldl (· + ·) q0).num), some (.int ((qs.foldl (· + ·) q0).den : Int)), y', z'], S)
  | [], q0, m, y, z, _, _, _ => ⟨y, z, forL_nil⟩
  | q :: qs, q0, m, y, z, h0, hq, hl => by
    have hl' : (qs.length + 1) * (n + 1) = qs.length * (n + 1) + (n + 1) := Nat.succ_mul _ _
    have hl2 : m + ((qs.length + 1) * (n + 1)) ≤ 4000 := hl
    have h1 : Sm n q := hq q List.mem_cons_self
    obtain ⟨y', z', e⟩ := lsum_loop (all := all) (x := x) hn qs (q0 + q) (m + n + 1) (some (.int q.num)) (some (.int (q.den : Int))) (h0.add h1) (fun r hr => hq r (List.mem_cons_of_mem _ hr)) (by omega)
    refine ⟨y', z', (forL_cons (ρ1 := [x, some (.int (q0 + q).num), some (.int ((q0 + q).den : Int)), some (.int q.num), some (.int (q.den : Int))]) (S1 := S) ?_).trans e⟩
    have o1 := (h0.mono (show m ≤ 4000 by omega)).nm.mulOk h1.dn (by omega)
    have o2 := h1.nm.mulOk (h0.mono (show m ≤ 4000 by omega)).dn (by omega)
    have o3 := (h0.mono (show m ≤ 4000 by omega)).dn.mulOk h1.dn (by omega)
    have hla := least_add (k := k) (S := S) (h0.mono (show m ≤ 4000 by omega)) (h1.mono hn)
    unfold fbd
    simp only [E1, E2, E3, E4, E5, E6, E7, E8, E9, List.map_cons, List.map_nil, List.cons_append, List.nil_append, List.append_nil, List.length_cons, List.length_nil, List.replicate_zero, List.replicate_succ, Nat.sub_self, Nat.zero_add, List.getElem?_cons_zero, List.getElem?_cons_succ, List.set_cons_zero, List.set_cons_succ, if_true, if_false, Bool.false_eq_true, decide_true, decide_false, Bool.not_true, Bool.not_false, decide_eq_true_eq, eq_self, Int.cast_ofNat_Int, Int.natCast_zero, Int.natCast_one, Nat.reduceLeDiff, Nat.reduceSub, Nat.reduceAdd, Nat.reduceLT, reduceIte, reduceCtorEq, Int.reduceEq, Int.reduceLT, Int.reduceLE, Int.reduceNeg, Int.reduceAdd, Int.reduceSub, Int.reduceMul, Int.reduceNe, Int.reduceBNe, Int.reduceBEq, b__law_sum_0, fr, o1, o2, o3]
    rw [hla]
    simp only [E1, E2, E3, E4, E5, E6, E7, E8, E9, List.map_cons, List.map_nil, List.cons_append, List.nil_append, List.append_nil, List.length_cons, List.length_nil, List.replicate_zero, List.replicate_succ, Nat.sub_self, Nat.zero_add, List.getElem?_cons_zero, List.getElem?_cons_succ, List.set_cons_zero, List.set_cons_succ, if_true, if_false, Bool.false_eq_true, decide_true, decide_false, Bool.not_true, Bool.not_false, decide_eq_true_eq, eq_self, Int.cast_ofNat_Int, Int.natCast_zero, Int.natCast_one, Nat.reduceLeDiff, Nat.reduceSub, Nat.reduceAdd, Nat.reduceLT, reduceIte, reduceCtorEq, Int.reduceEq, Int.reduceLT, Int.reduceLE, Int.reduceNeg, Int.reduceAdd, Int.reduceSub, Int.reduceMul, Int.reduceNe, Int.reduceBNe, Int.reduceBEq, fr]
theorem lsum_ok {qs : List Rat} (hq : ∀ q ∈ qs, Sm n q) (hn : n ≤ 4000) (hl : 1 + qs.length * (n + 1) ≤ 4000) : callK G (k + 2) i__law_sum [.lst (qs.map fr)] S = some (fr (frSum qs), S) := by
  rw [call_fn g__law_sum rfl]
  have h0 : Sm 1 0 := ⟨by decide, by decide⟩
  obtain ⟨y, z, e⟩ := lsum_loop (k := k) (S := S) (all := qs.map fr) (x := some (.lst (qs.map fr))) hn qs 0 1 none none h0 hq hl
  rw [show (0 : Rat).num = 0 from rfl, show (((0 : Rat).den : Nat) : Int) = 1 from rfl] at e
  simp only [E1, E2, E3, E4, E5, E6, E7, E8, E9, List.map_cons, List.map_nil, List.cons_append, List.nil_append, List.append_nil, List.length_cons, List.length_nil, List.replicate_zero, List.replicate_succ, Nat.sub_self, Nat.zero_add, List.getElem?_cons_zero, List.getElem?_cons_succ, List.set_cons_zero, List.set_cons_succ, if_true, if_false, Bool.false_eq_true, decide_true, decide_false, Bool.not_true, Bool.not_false, decide_eq_true_eq, eq_self, Int.cast_ofNat_Int, Int.natCast_zero, Int.natCast_one, Nat.reduceLeDiff, Nat.reduceSub, Nat.reduceAdd, Nat.reduceLT, reduceIte, reduceCtorEq, Int.reduceEq, Int.reduceLT, Int.reduceLE, Int.reduceNeg, Int.reduceAdd, Int.reduceSub, Int.reduceMul, Int.reduceNe, Int.reduceBNe, Int.reduceBEq, f__law_sum, e]
  rfl
/-- .. as the program takes it -/
theorem psum_loop {all : List D} {x : Option D} (hn : n ≤ 4000) : ∀ (qs : List Rat) (q0 : Rat) (m : Nat) (y : Option D), Sm m q0 → (∀ q ∈ qs, Sm n q) → m + qs.length * (n + 1) ≤ 4000 → ∃ y', forL none all (fbd G (callK G (k + 3)) (.name 2) b_sum_of_0) (qs.map fr) [x, some (fr q0), y] S = some (.nx [x, some (fr (qs.foldl (· + ·) q0)), y'], S)
  | [], q0, m, y, _, _, _ => ⟨y, forL_nil⟩
  | q :: qs, q0, m, y, h0, hq, hl => by
    have hl' : (qs.length + 1) * (n + 1) = qs.length * (n + 1) + (n + 1) := Nat.succ_mul _ _
    have hl2 : m + ((qs.length + 1) * (n + 1)) ≤ 4000 := hl
    have h1 : Sm n q := hq q List.mem_cons_self
    obtain ⟨y', e⟩ := psum_loop (all := all) (x := x) hn qs (q0 + q) (m + n + 1) (some (fr q)) (h0.add h1) (fun r hr => hq r (List.mem_cons_of_mem _ hr)) (by omega)
    refine ⟨y', (forL_cons (ρ1 := [x, some (fr (q0 + q)), some (fr q)]) (S1 := S) ?_).trans e⟩
    have hla := added_ok (k := k) (S := S) (h0.mono (show m ≤ 4000 by omega)) (h1.mono hn)
    unfold fbd
    simp only [E1, E2, E3, E4, E5, E6, E7, E8, E9, List.map_cons, List.map_nil, List.cons_append, List.nil_append, List.append_nil, List.length_cons, List.length_nil, List.replicate_zero, List.replicate_succ, Nat.sub_self, Nat.zero_add, List.getElem?_cons_zero, List.getElem?_cons_succ, List.set_cons_zero, List.set_cons_succ, if_true, if_false, Bool.false_eq_true, decide_true, decide_false, Bool.not_true, Bool.not_false, decide_eq_true_eq, eq_self, Int.cast_ofNat_Int, Int.natCast_zero, Int.natCast_one, Nat.reduceLeDiff, Nat.reduceSub, Nat.reduceAdd, Nat.reduceLT, reduceIte, reduceCtorEq, Int.reduceEq, Int.reduceLT, Int.reduceLE, Int.reduceNeg, Int.reduceAdd, Int.reduceSub, Int.reduceMul, Int.reduceNe, Int.reduceBNe, Int.reduceBEq, b_sum_of_0, hla]
theorem psum_ok {qs : List Rat} (hq : ∀ q ∈ qs, Sm n q) (hn : n ≤ 4000) (hl : 1 + qs.length * (n + 1) ≤ 4000) : callK G (k + 4) i_sum_of [.lst (qs.map fr)] S = some (fr (frSum qs), S) := by
  rw [call_fn g_sum_of rfl]
  have h0 : Sm 1 0 := ⟨by decide, by decide⟩
  obtain ⟨y, e⟩ := psum_loop (k := k) (S := S) (all := qs.map fr) (x := some (.lst (qs.map fr))) hn qs 0 1 none h0 hq hl
  rw [fr_zero] at e
  simp only [E1, E2, E3, E4, E5, E6, E7, E8, E9, List.map_cons, List.map_nil, List.cons_append, List.nil_append, List.append_nil, List.length_cons, List.length_nil, List.replicate_zero, List.replicate_succ, Nat.sub_self, Nat.zero_add, List.getElem?_cons_zero, List.getElem?_cons_succ, List.set_cons_zero, List.set_cons_succ, if_true, if_false, Bool.false_eq_true, decide_true, decide_false, Bool.not_true, Bool.not_false, decide_eq_true_eq, eq_self, Int.cast_ofNat_Int, Int.natCast_zero, Int.natCast_one, Nat.reduceLeDiff, Nat.reduceSub, Nat.reduceAdd, Nat.reduceLT, reduceIte, reduceCtorEq, Int.reduceEq, Int.reduceLT, Int.reduceLE, Int.reduceNeg, Int.reduceAdd, Int.reduceSub, Int.reduceMul, Int.reduceNe, Int.reduceBNe, Int.reduceBEq, f_sum_of, c_NOTHING, e]
  rfl
theorem exponent_ok (h : Sm 3000 p) : callK G (k + 2) i_exponent_of [fr p] S = some (.int (expo p), S) := by
  rw [call_fn g_exponent_of rfl]
  have h1 := expF_le h
  have h2 := two_to_ok (k := k) (S := S) (b := expF p) (by omega)
  have h3 := is_most_ok (k := k) (S := S) (p := (2 : Rat) ^ expF p) (q := p.abs) ((sm_two (b := expF p) h1).mono (by decide)) (h.abs.mono (by decide))
  rw [fr_abs'] at h3
  have e : (bln p.num.natAbs : Int) - (bln p.den : Int) = expF p := rfl
  unfold expo
  by_cases c : (2 : Rat) ^ expF p ≤ p.abs
  · simp only [E1, E2, E3, E4, E5, E6, E7, E8, E9, List.map_cons, List.map_nil, List.cons_append, List.nil_append, List.append_nil, List.length_cons, List.length_nil, List.replicate_zero, List.replicate_succ, Nat.sub_self, Nat.zero_add, List.getElem?_cons_zero, List.getElem?_cons_succ, List.set_cons_zero, List.set_cons_succ, if_true, if_false, Bool.false_eq_true, decide_true, decide_false, Bool.not_true, Bool.not_false, decide_eq_true_eq, eq_self, Int.cast_ofNat_Int, Int.natCast_zero, Int.natCast_one, Nat.reduceLeDiff, Nat.reduceSub, Nat.reduceAdd, Nat.reduceLT, reduceIte, reduceCtorEq, Int.reduceEq, Int.reduceLT, Int.reduceLE, Int.reduceNeg, Int.reduceAdd, Int.reduceSub, Int.reduceMul, Int.reduceNe, Int.reduceBNe, Int.reduceBEq, f_exponent_of, idx_fr0, idx_fr1, abs_nat, bits_ok, e, h2, h3, c]
  · simp only [E1, E2, E3, E4, E5, E6, E7, E8, E9, List.map_cons, List.map_nil, List.cons_append, List.nil_append, List.append_nil, List.length_cons, List.length_nil, List.replicate_zero, List.replicate_succ, Nat.sub_self, Nat.zero_add, List.getElem?_cons_zero, List.getElem?_cons_succ, List.set_cons_zero, List.set_cons_succ, if_true, if_false, Bool.false_eq_true, decide_true, decide_false, Bool.not_true, Bool.not_false, decide_eq_true_eq, eq_self, Int.cast_ofNat_Int, Int.natCast_zero, Int.natCast_one, Nat.reduceLeDiff, Nat.reduceSub, Nat.reduceAdd, Nat.reduceLT, reduceIte, reduceCtorEq, Int.reduceEq, Int.reduceLT, Int.reduceLE, Int.reduceNeg, Int.reduceAdd, Int.reduceSub, Int.reduceMul, Int.reduceNe, Int.reduceBNe, Int.reduceBEq, f_exponent_of, idx_fr0, idx_fr1, abs_nat, bits_ok, e, h2, h3, c]
end

end Rw.Pk12

set_option exponentiation.threshold 300
namespace Rw.Pk12
open PySem L2 Rw
/-! ### marks with fractions -/
abbrev ML := List (Nat × Rat)
def vl (l : ML) (k : Nat) : Rat := ((l.find? fun e => decide (e.1 = k)).map (·.2)).getD 0
def kvD (l : ML) : List (Key × D) := l.map fun e => ((.inl (e.1 : Int) : Key), fr e.2)
def mkD (e : Nat × Rat) : D := .tup [.int (e.1 : Int), fr e.2]
def ps (p : Nat → Rat) : ML := (List.range 9).filterMap fun k => if p k = 0 then none else some (k, p k)
def fmD (c : Rat) (p : Nat → Rat) (r : Rat) : D := .tup [fr c, .tup ((ps p).map mkD), fr r]
structure Dc (l : ML) : Prop where
  nd : (l.map (·.1)).Nodup
  lt : ∀ e ∈ l, e.1 < 9
def put (l : ML) (k : Nat) (q : Rat) : ML := if l.any (fun e => decide (e.1 = k)) = true then l.map (fun e => if e.1 = k then (e.1, q) else e) else l ++ [(k, q)]
theorem key_eq {a b : Nat} : ((.inl (a : Int) : Key) = .inl (b : Int)) ↔ a = b :=
  ⟨fun h => by have := Sum.inl.inj h; omega, fun h => by rw [h]⟩
theorem store_kv {l : ML} {k : Nat} {q : Rat} : storeK (kvD l) (.inl (k : Int)) (fr q) = kvD (put l k q) := by
  have h1 : (kvD l).any (fun kv => decide (kv.1 = .inl (k : Int))) = l.any (fun e => decide (e.1 = k)) := by
    unfold kvD
    rw [List.any_map]
    congr 1
    funext e
    simp only [Function.comp, key_eq]
  unfold storeK put
  rw [h1]
  split
  · unfold kvD
    rw [List.map_map, List.map_map]
    refine List.map_congr_left fun e _ => ?_
    simp only [Function.comp, key_eq]
    split <;> rfl
  · simp [kvD]
theorem look_kv {l : ML} {k : Nat} : lookK (kvD l) (.inl (k : Int)) = (l.find? fun e => decide (e.1 = k)).map fun e => fr e.2 := by
  unfold lookK kvD
  rw [List.find?_map, Option.map_map]
  have : ((fun kv : Key × D => decide (kv.1 = .inl (k : Int))) ∘ fun e : Nat × Rat => ((.inl (e.1 : Int) : Key), fr e.2)) = fun e => decide (e.1 = k) := by
    funext e
    simp only [Function.comp, key_eq]
  rw [this]
  rfl
theorem get_kv {l : ML} {k : Nat} : (lookK (kvD l) (.inl (k : Int))).getD (fr 0) = fr (vl l k) := by
  rw [look_kv]
  unfold vl
  cases l.find? fun e => decide (e.1 = k) <;> rfl
theorem vl_nil {k : Nat} : vl [] k = 0 := rfl
theorem vl_cons {e : Nat × Rat} {l : ML} {k : Nat} : vl (e :: l) k = if e.1 = k then e.2 else vl l k := by
  unfold vl
  rw [List.find?_cons]
  by_cases h : e.1 = k
  · simp [h]
  · simp [h]
theorem vl_no {k : Nat} : ∀ {l : ML}, ¬ k ∈ l.map (·.1) → vl l k = 0
  | [], _ => rfl
  | e :: l, h => by
    rw [List.map_cons, List.mem_cons, not_or] at h
    rw [vl_cons, if_neg (fun q => h.1 q.symm), vl_no h.2]
theorem look_in {k : Nat} : ∀ {l : ML}, k ∈ l.map (·.1) → lookK (kvD l) (.inl (k : Int)) = some (fr (vl l k))
  | [], h => absurd h List.not_mem_nil
  | e :: l, h => by
    rw [vl_cons, look_kv, List.find?_cons]
    by_cases c : e.1 = k
    · simp [c]
    · rw [List.map_cons, List.mem_cons] at h
      have h2 := look_in (k := k) (l := l) (h.resolve_left fun q => c q.symm)
      rw [look_kv] at h2
      simp [c, h2]
theorem vl_ap {k j : Nat} {q : Rat} : ∀ {l : ML}, ¬ k ∈ l.map (·.1) → vl (l ++ [(k, q)]) j = if j = k then q else vl l j
  | [], _ => by
    rw [List.nil_append, vl_cons]
    by_cases c : j = k
    · simp [c]
    · rw [if_neg (fun z => c z.symm), if_neg c]
  | e :: l, h => by
    rw [List.map_cons, List.mem_cons, not_or] at h
    rw [List.cons_append, vl_cons, vl_ap h.2, vl_cons]
    by_cases c : e.1 = j
    · have : ¬ j = k := fun q => h.1 (q.symm.trans c.symm)
      simp [c, this]
    · simp [c]
theorem vl_rep {k j : Nat} {q : Rat} : ∀ {l : ML}, k ∈ l.map (·.1) → vl (l.map fun e => if e.1 = k then (e.1, q) else e) j = if j = k then q else vl l j
  | [], h => absurd h List.not_mem_nil
  | e :: l, h => by
    rw [List.map_cons, vl_cons, vl_cons]
    have f1 : (if e.1 = k then (e.1, q) else e).1 = e.1 := by split <;> rfl
    rw [f1]
    by_cases c : e.1 = j
    · rw [if_pos c, if_pos c]
      by_cases d : e.1 = k
      · simp [d, ← c]
      · have : ¬ j = k := fun q => d (c.trans q)
        simp [d, this]
    · rw [if_neg c, if_neg c]
      by_cases d : k ∈ l.map (·.1)
      · exact vl_rep d
      · rw [List.map_cons, List.mem_cons] at h
        have ek : e.1 = k := ((h.resolve_right d)).symm
        have e2 : (l.map fun e => if e.1 = k then (e.1, q) else e) = l := by
          refine (List.map_congr_left fun x hx => ?_).trans (List.map_id l)
          have : ¬ x.1 = k := fun z => d (List.mem_map.mpr ⟨x, hx, z⟩)
          simp [this]
        rw [e2]
        have : ¬ j = k := fun q => c (ek.trans q.symm)
        simp [this]
theorem any_key {l : ML} {k : Nat} : l.any (fun e => decide (e.1 = k)) = true ↔ k ∈ l.map (·.1) := by
  simp [List.any_eq_true]
theorem vl_put {l : ML} {k j : Nat} {q : Rat} : vl (put l k q) j = if j = k then q else vl l j := by
  unfold put
  split
  · rename_i h
    exact vl_rep (any_key.mp h)
  · rename_i h
    exact vl_ap (fun z => h (any_key.mpr z))
theorem Dc.put {l : ML} (h : Dc l) {k : Nat} {q : Rat} (hk : k < 9) : Dc (put l k q) := by
  unfold Pk12.put
  split
  · have e : ((l.map fun e => if e.1 = k then (e.1, q) else e).map (·.1)) = l.map (·.1) := by
      rw [List.map_map]
      refine List.map_congr_left fun e _ => ?_
      simp only [Function.comp]
      split <;> rfl
    refine ⟨by rw [e]; exact h.nd, fun x hx => ?_⟩
    have : x.1 ∈ l.map (·.1) := by rw [← e]; exact List.mem_map.mpr ⟨x, hx, rfl⟩
    obtain ⟨y, hy, ey⟩ := List.mem_map.mp this
    rw [← ey]
    exact h.lt y hy
  · rename_i c
    refine ⟨?_, fun x hx => ?_⟩
    · rw [List.map_append, List.nodup_append]
      refine ⟨h.nd, by simp, fun a ha b hb e => c (any_key.mpr ?_)⟩
      have : b = k := by simpa using hb
      rw [← this, ← e]
      exact ha
    · rcases List.mem_append.mp hx with hx | hx
      · exact h.lt x hx
      · have : x = (k, q) := by simpa using hx
        rw [this]
        exact hk
theorem Dc.nil : Dc [] := ⟨.nil, fun _ h => absurd h List.not_mem_nil⟩
theorem merge_go : ∀ {a b : ML}, ((a ++ b).map (·.1)).Nodup → mergeKD (kvD a) (kvD b) = kvD (a ++ b)
  | a, [], _ => by simp [kvD, mergeKD]
  | a, e :: b, h => by
    have h1 : ¬ a.any (fun x => decide (x.1 = e.1)) = true := fun z => by
      have := any_key.mp z
      rw [List.map_append, List.nodup_append] at h
      exact h.2.2 _ this e.1 (by simp) rfl
    have h2 : storeK (kvD a) (.inl (e.1 : Int)) (fr e.2) = kvD (a ++ [e]) := by
      rw [store_kv]
      unfold Pk12.put
      rw [if_neg h1]
    show mergeKD (storeK (kvD a) (.inl (e.1 : Int)) (fr e.2)) (kvD b) = _
    rw [h2, merge_go (by simpa using h)]
    simp
theorem merge_kv {l : ML} (h : Dc l) : mergeKD [] (kvD l) = kvD l := by
  have := merge_go (a := []) (b := l) (by simpa using h.nd)
  simpa [kvD] using this
theorem pairs_kv : ∀ {l : ML}, pairsD (l.map mkD) = some (kvD l)
  | [] => rfl
  | e :: l => by
    rw [List.map_cons]
    show (match keyD (.int (e.1 : Int)), pairsD (l.map mkD) with
      | some q, some s => some ((q, fr e.2) :: s)
      | _, _ => none) = _
    rw [pairs_kv]
    rfl
theorem dct_t {l : ML} : dctD (.tup (l.map mkD)) = some (kvD l) := pairs_kv
theorem dct_l {l : ML} : dctD (.lst (l.map mkD)) = some (kvD l) := pairs_kv
theorem keysI_kv : ∀ {l : ML}, keysI (kvD l) = some (l.map fun e => (e.1 : Int))
  | [] => rfl
  | e :: l => by
    show (keysI (kvD l)).map _ = _
    rw [keysI_kv]
    rfl
def rk (l : ML) : List Nat := (List.range 9).filter fun k => decide (k ∈ l.map (·.1))
theorem srt_kv {l : ML} (h : Dc l) : srtZ (l.map fun e => (e.1 : Int)) = (rk l).map fun (k : Nat) => (k : Int) := by
  have e0 : (l.map fun e => (e.1 : Int)) = (l.map (·.1)).map fun (k : Nat) => (k : Int) := by rw [List.map_map]; rfl
  have nd : (l.map fun e => (e.1 : Int)).Nodup := by
    rw [e0]
    exact List.Pairwise.map _ (fun a b hab => by omega) h.nd
  have pm := srtZ_perm (l.map fun e => (e.1 : Int))
  refine asc_one ?_ ?_ fun y => ?_
  · have p1 := srtZ_pw (l.map fun e => (e.1 : Int))
    have p2 : (srtZ (l.map fun e => (e.1 : Int))).Nodup := pm.nodup_iff.mpr nd
    exact (List.pairwise_and_iff.mpr ⟨p1, p2⟩).imp fun hab => by omega
  · exact List.Pairwise.map _ (fun a b hab => by omega) (List.Pairwise.filter _ List.pairwise_lt_range)
  · rw [pm.mem_iff]
    simp only [rk, List.mem_map, List.mem_filter, List.mem_range, decide_eq_true_eq]
    constructor
    · rintro ⟨e, he, rfl⟩
      exact ⟨e.1, ⟨h.lt e he, e, he, rfl⟩, rfl⟩
    · rintro ⟨k, ⟨_, e, he, rfl⟩, rfl⟩
      exact ⟨e, he, rfl⟩
theorem Dc.len {l : ML} (h : Dc l) : l.length ≤ 9 := by
  have e := (srtZ_perm (l.map fun e => (e.1 : Int))).length_eq
  rw [srt_kv h, List.length_map, List.length_map] at e
  rw [← e]
  exact Nat.le_trans (List.length_filter_le _ _) (by simp)
theorem mem_ps {p : Nat → Rat} {e : Nat × Rat} : e ∈ ps p ↔ e.1 < 9 ∧ p e.1 ≠ 0 ∧ e.2 = p e.1 := by
  unfold ps
  rw [List.mem_filterMap]
  constructor
  · rintro ⟨k, hk, h⟩
    split at h
    · cases h
    · rename_i c
      cases h
      exact ⟨List.mem_range.mp hk, c, rfl⟩
  · rintro ⟨h1, h2, h3⟩
    refine ⟨e.1, List.mem_range.mpr h1, ?_⟩
    rw [if_neg h2, ← h3]
theorem ps_keys {p : Nat → Rat} : (ps p).map (·.1) = (List.range 9).filter fun k => decide (p k ≠ 0) := by
  unfold ps
  rw [List.map_filterMap, ← List.filterMap_eq_filter]
  congr 1
  funext k
  by_cases h : p k = 0 <;> simp [h, Option.guard]
theorem ps_dc {p : Nat → Rat} : Dc (ps p) := ⟨by rw [ps_keys]; exact List.Pairwise.filter _ List.nodup_range, fun e he => (mem_ps.mp he).1⟩
theorem vl_mem {k : Nat} {q : Rat} : ∀ {l : ML}, (l.map (·.1)).Nodup → (k, q) ∈ l → vl l k = q
  | [], _, h => absurd h List.not_mem_nil
  | e :: l, nd, h => by
    rw [List.map_cons, List.nodup_cons] at nd
    rw [vl_cons]
    rcases List.mem_cons.mp h with h | h
    · rw [← h]; simp
    · have : ¬ e.1 = k := fun z => nd.1 (List.mem_map.mpr ⟨(k, q), h, z.symm⟩)
      rw [if_neg this, vl_mem nd.2 h]
/-- no marks from 9 on -/
def F9 (p : Nat → Rat) : Prop := ∀ k, 9 ≤ k → p k = 0
theorem vl_ps {p : Nat → Rat} (h : F9 p) : vl (ps p) = p := by
  funext k
  by_cases c : k < 9 ∧ p k ≠ 0
  · exact vl_mem ps_dc.nd (mem_ps.mpr ⟨c.1, c.2, rfl⟩)
  · have z : p k = 0 := by
      by_cases d : k < 9
      · exact Decidable.byContradiction fun q => c ⟨d, q⟩
      · exact h k (by omega)
    rw [vl_no, z]
    intro m
    obtain ⟨e, he, rfl⟩ := List.mem_map.mp m
    exact (mem_ps.mp he).2.1 z
theorem Dc.f9 {l : ML} (h : Dc l) : F9 (vl l) := fun k hk => vl_no fun m => by
  obtain ⟨e, he, rfl⟩ := List.mem_map.mp m
  have := h.lt e he
  omega
/-- what straight makes of sorted keys -/
theorem rk_fm {l : ML} {α : Type} (f : Nat → Option α) (hf : ∀ k, vl l k = 0 → f k = none) : (rk l).filterMap f = (List.range 9).filterMap f := by
  unfold rk
  rw [List.filterMap_filter]
  congr 1
  funext k
  by_cases c : k ∈ l.map (·.1)
  · simp [c]
  · rw [hf k (vl_no c)]
    simp
section
variable {S : Sto} {l : ML} {j : Nat} {q z : Rat} {xs : List D}
theorem tup_l : biD S .tuple [.lst xs] = some (.tup xs) := nrfl rfl
theorem lst_t : biD S .list [.tup xs] = some (.lst xs) := nrfl rfl
theorem dk_new {kv : List (Key × D)} : dkOf (S ++ [.dk kv]) (.ref S.length) = some () := by simp [dkOf]
theorem dget_new : dgetD (S ++ [.dk (kvD l)]) (.ref S.length) (.int (j : Int)) (fr 0) = some (fr (vl l j)) := by
  simp only [dgetD, at_new, keyD, Option.map_some, get_kv]
theorem putI_new (h : Dc l) : putI (S ++ [.dk (kvD l)]) (.ref S.length) (.int (j : Int)) (fr q) = some (S ++ [.dk (kvD (put l j q))]) := by
  have hl : (kvD l).length < sizeLine := by
    have := h.len
    have e : (kvD l).length = l.length := List.length_map _
    rw [e, sizeLine_eq]
    omega
  simp only [putI, at_new, keyD, Option.bind_some, hl, if_true, set_new, store_kv]
theorem dkOf_at {i : Nat} {kv : List (Key × D)} (hS : S[i]? = some (.dk kv)) : dkOf S (.ref i) = some () := by simp only [dkOf, hS]
theorem dget_at {i : Nat} (hS : S[i]? = some (.dk (kvD l))) : dgetD S (.ref i) (.int (j : Int)) (fr 0) = some (fr (vl l j)) := by
  simp only [dgetD, hS, keyD, Option.map_some, get_kv]
theorem list_at {i : Nat} (hS : S[i]? = some (.dk (kvD l))) : biD S .list [.ref i] = some (.lst (l.map fun e => D.int (e.1 : Int))) := by
  show biLst S [.ref i] = _
  simp only [biLst, hS]
  unfold kvD
  rw [List.map_map]
  rfl
end

end Rw.Pk12

set_option exponentiation.threshold 300
namespace Rw.Pk12
open PySem L2 Rw
section
variable {k : Nat} {S : Sto} {c c' r r' a b : Rat} {p p' : Nat → Rat} {n m : Nat}
theorem bls_mk {n : Nat} : ∀ l : ML, belows n (l.map mkD) = true := bls_map fun _ => rfl
theorem bl_fm {n : Nat} : below n (fmD c p r) = true := by
  show (true && (belows n ((ps p).map mkD) && (true && true))) = true
  rw [bls_mk]
  rfl
theorem q4 (h : Sm n a) (hn : n ≤ 4000) : Sm 4000 a := h.mono hn
def stF (l : ML) (j : Nat) : Option D := if vl l j = 0 then none else some (mkD (j, vl l j))
theorem st_fm {l : ML} : (rk l).filterMap (stF l) = (ps (vl l)).map mkD := by
  rw [rk_fm _ fun j h => by unfold stF; rw [if_pos h]]
  unfold ps
  rw [List.map_filterMap]
  congr 1
  funext j
  unfold stF
  split <;> rfl
theorem idx_kv {l : ML} {i j : Nat} (hS : S[i]? = some (.dk (kvD l))) (hj : j ∈ l.map (·.1)) : idxD S (.ref i) (.int (j : Int)) = some (fr (vl l j)) := by
  simp only [idxD, hS]
  exact look_in hj
theorem sorted_kv {l : ML} (h : Dc l) {i : Nat} (hS : S[i]? = some (.dk (kvD l))) : biD S .sorted [.ref i] = some (.lst ((rk l).map fun (j : Nat) => D.int (j : Int))) := by
  show biSrt S [.ref i] = _
  have := h.len
  simp only [biSrt, hS, keysI_kv, Option.bind_some, srt_kv h, List.length_map, List.map_map]
  rw [if_pos (by omega)]
  rfl
theorem rk_len {l : ML} : (rk l).length ≤ 9 := Nat.le_trans (List.length_filter_le _ _) (by simp)
theorem straight_ok {l : ML} (h : Dc l) {i : Nat} (hS : S[i]? = some (.dk (kvD l))) : callK G (k + 1) i_straight [fr c, .ref i, fr r] S = some (fmD c (vl l) r, S) := by
  rw [call_fn g_straight rfl]
  have c1 : ∀ all, compL none all (ctn G (callK G k) e_straight_0 (.name 3) k_straight_0 [some (fr c), some (.ref i), some (fr r), none]) ((rk l).map fun (j : Nat) => D.int (j : Int)) S [] = some ((ps (vl l)).map mkD, S) := fun all => by
    have := compL_fmT (all := all) (turn := ctn G (callK G k) e_straight_0 (.name 3) k_straight_0 [some (fr c), some (.ref i), some (fr r), none]) (S := S) (g := fun (j : Nat) => D.int (j : Int)) (f := stF l) (xs := rk l) (acc := []) fun j hj => by
      have hj' : j ∈ l.map (·.1) := by simpa using (List.mem_filter.mp hj).2
      have e1 := idx_kv hS hj'
      have e2 := ne_fr (S := S) (p := vl l j) (q := 0)
      unfold ctn stF
      by_cases z : vl l j = 0
      · rw [z] at e1 e2
        simp only [E1, E2, E3, E4, E5, E6, E7, E8, E9, List.map_cons, List.map_nil, List.cons_append, List.nil_append, List.append_nil, List.length_cons, List.length_nil, List.replicate_zero, List.replicate_succ, Nat.sub_self, Nat.zero_add, List.getElem?_cons_zero, List.getElem?_cons_succ, List.set_cons_zero, List.set_cons_succ, if_true, if_false, Bool.false_eq_true, decide_true, decide_false, Bool.not_true, Bool.not_false, decide_eq_true_eq, eq_self, Int.cast_ofNat_Int, Int.natCast_zero, Int.natCast_one, Nat.reduceLeDiff, Nat.reduceSub, Nat.reduceAdd, Nat.reduceLT, reduceIte, reduceCtorEq, Int.reduceEq, Int.reduceLT, Int.reduceLE, Int.reduceNeg, Int.reduceAdd, Int.reduceSub, Int.reduceMul, Int.reduceNe, Int.reduceBNe, Int.reduceBEq, e_straight_0, k_straight_0, e1, z, c_NOTHING, ← fr_zero, e2]
      · simp only [E1, E2, E3, E4, E5, E6, E7, E8, E9, List.map_cons, List.map_nil, List.cons_append, List.nil_append, List.append_nil, List.length_cons, List.length_nil, List.replicate_zero, List.replicate_succ, Nat.sub_self, Nat.zero_add, List.getElem?_cons_zero, List.getElem?_cons_succ, List.set_cons_zero, List.set_cons_succ, if_true, if_false, Bool.false_eq_true, decide_true, decide_false, Bool.not_true, Bool.not_false, decide_eq_true_eq, eq_self, Int.cast_ofNat_Int, Int.natCast_zero, Int.natCast_one, Nat.reduceLeDiff, Nat.reduceSub, Nat.reduceAdd, Nat.reduceLT, reduceIte, reduceCtorEq, Int.reduceEq, Int.reduceLT, Int.reduceLE, Int.reduceNeg, Int.reduceAdd, Int.reduceSub, Int.reduceMul, Int.reduceNe, Int.reduceBNe, Int.reduceBEq, e_straight_0, k_straight_0, e1, z, c_NOTHING, ← fr_zero, e2]
        rfl
    rw [List.nil_append, st_fm] at this
    exact this
  have hl : (rk l).length ≤ sizeLine := le_size (by have := rk_len (l := l); omega)
  simp only [E1, E2, E3, E4, E5, E6, E7, E8, E9, List.map_cons, List.map_nil, List.cons_append, List.nil_append, List.append_nil, List.length_cons, List.length_nil, List.replicate_zero, List.replicate_succ, Nat.sub_self, Nat.zero_add, List.getElem?_cons_zero, List.getElem?_cons_succ, List.set_cons_zero, List.set_cons_succ, if_true, if_false, Bool.false_eq_true, decide_true, decide_false, Bool.not_true, Bool.not_false, decide_eq_true_eq, eq_self, Int.cast_ofNat_Int, Int.natCast_zero, Int.natCast_one, Nat.reduceLeDiff, Nat.reduceSub, Nat.reduceAdd, Nat.reduceLT, reduceIte, reduceCtorEq, Int.reduceEq, Int.reduceLT, Int.reduceLE, Int.reduceNeg, Int.reduceAdd, Int.reduceSub, Int.reduceMul, Int.reduceNe, Int.reduceBNe, Int.reduceBEq, f_straight, sorted_kv h hS, List.length_map, hl, wipe_nil, wipe_cons, c1, tup_l]
  rfl
theorem ps_zero : ps (fun _ => 0) = [] := by simp [ps]
theorem plain_ok : callK G (k + 1) i_plain [fr c] S = some (fmD c (fun _ => 0) 0, S) := by
  rw [call_fn g_plain rfl]
  have e : fmD c (fun _ => 0) 0 = .tup [fr c, .tup [], fr 0] := by unfold fmD; rw [ps_zero]; rfl
  rw [e]
  simp only [E1, E2, E3, E4, E5, E6, E7, E8, E9, List.map_cons, List.map_nil, List.cons_append, List.nil_append, List.append_nil, List.length_cons, List.length_nil, List.replicate_zero, List.replicate_succ, Nat.sub_self, Nat.zero_add, List.getElem?_cons_zero, List.getElem?_cons_succ, List.set_cons_zero, List.set_cons_succ, if_true, if_false, Bool.false_eq_true, decide_true, decide_false, Bool.not_true, Bool.not_false, decide_eq_true_eq, eq_self, Int.cast_ofNat_Int, Int.natCast_zero, Int.natCast_one, Nat.reduceLeDiff, Nat.reduceSub, Nat.reduceAdd, Nat.reduceLT, reduceIte, reduceCtorEq, Int.reduceEq, Int.reduceLT, Int.reduceLE, Int.reduceNeg, Int.reduceAdd, Int.reduceSub, Int.reduceMul, Int.reduceNe, Int.reduceBNe, Int.reduceBEq, f_plain, c_NOTHING, fr_zero]
def one1 (j : Nat) (q : Rat) : Nat → Rat := fun i => if i = j then q else 0
theorem vl_one {j : Nat} {q : Rat} : vl [(j, q)] = one1 j q := by
  funext i
  rw [vl_cons, vl_nil]
  unfold one1
  by_cases h : i = j
  · simp [h]
  · rw [if_neg (fun z => h z.symm), if_neg h]
theorem dc_one {j : Nat} {q : Rat} (h : j < 9) : Dc [(j, q)] := ⟨by simp, fun e he => by simp at he; rw [he]; exact h⟩
def mid (a b : Rat) : Rat := (a + b) * (1 / 2)
theorem fr_half : fr (1 / 2) = .tup [.int 1, .int 2] := by
  have : (1 / 2 : Rat) = Rat.divInt 1 2 := by decide +kernel
  rw [this]
  rfl
theorem half_sm : Sm 4000 (1 / 2) := by
  have : Sm 2 (1 / 2 : Rat) := ⟨by decide +kernel, by decide +kernel⟩
  exact this.mono (by decide)
theorem mid_sm (h : Sm n a) (g : Sm n b) : Sm (n + n + 3) (mid a b) := by
  have : Sm 2 (1 / 2 : Rat) := ⟨by decide +kernel, by decide +kernel⟩
  exact ((h.add g).mul this)
theorem of_span_ok (h : Sm n a) (g : Sm n b) (hn : n ≤ 500) : callK G (k + 5) i_of_span [.tup [fr a, fr b], .int 3] S = some (fmD (mid a b) (one1 3 (b - mid a b)) 0, S) := by
  rw [call_fn g_of_span rfl]
  have e1 := added_ok (k := k + 1) (S := S) (q4 h (by omega)) (q4 g (by omega))
  have e2 := times_ok (k := k + 1) (S := S) (q4 (h.add g) (by omega)) half_sm
  have e3 := taken_ok (k := k) (S := S) (q4 g (by omega)) (q4 (mid_sm h g) (by omega))
  have e4 : keysD [(D.int 3, fr (b - mid a b))] = some (kvD [(3, b - mid a b)]) := rfl
  have e5 := merge_kv (dc_one (j := 3) (q := b - mid a b) (by decide))
  have e6 := straight_ok (k := k + 3) (S := S ++ [.dk (kvD [(3, b - mid a b)])]) (c := mid a b) (r := 0) (dc_one (by decide)) at_new
  rw [vl_one] at e6
  have e7 : (kvD [(3, b - mid a b)]).length ≤ 15 := by simp [kvD]
  have e8 : (a + b) * (1 / 2) = mid a b := rfl
  rw [e8, fr_half] at e2
  rw [fr_zero] at e6
  simp only [E1, E2, E3, E4, E5, E6, E7, E8, E9, List.map_cons, List.map_nil, List.cons_append, List.nil_append, List.append_nil, List.length_cons, List.length_nil, List.replicate_zero, List.replicate_succ, Nat.sub_self, Nat.zero_add, List.getElem?_cons_zero, List.getElem?_cons_succ, List.set_cons_zero, List.set_cons_succ, if_true, if_false, Bool.false_eq_true, decide_true, decide_false, Bool.not_true, Bool.not_false, decide_eq_true_eq, eq_self, Int.cast_ofNat_Int, Int.natCast_zero, Int.natCast_one, Nat.reduceLeDiff, Nat.reduceSub, Nat.reduceAdd, Nat.reduceLT, reduceIte, reduceCtorEq, Int.reduceEq, Int.reduceLT, Int.reduceLE, Int.reduceNeg, Int.reduceAdd, Int.reduceSub, Int.reduceMul, Int.reduceNe, Int.reduceBNe, Int.reduceBEq, f_of_span, c_NOTHING, e1, e2, e3, e4, e5, e7, e6, prune_one bl_fm]
theorem with_rest_ok (h : Sm n a) (g : Sm n b) (hn : n ≤ 500) : callK G (k + 5) i_with_rest [.tup [fr a, fr b]] S = some (fmD (mid a b) (fun _ => 0) (b - mid a b), S) := by
  rw [call_fn g_with_rest rfl]
  have e1 := added_ok (k := k + 1) (S := S) (q4 h (by omega)) (q4 g (by omega))
  have e2 := times_ok (k := k + 1) (S := S) (q4 (h.add g) (by omega)) half_sm
  have e3 := taken_ok (k := k) (S := S) (q4 g (by omega)) (q4 (mid_sm h g) (by omega))
  have e8 : (a + b) * (1 / 2) = mid a b := rfl
  rw [e8, fr_half] at e2
  have e : fmD (mid a b) (fun _ => 0) (b - mid a b) = .tup [fr (mid a b), .tup [], fr (b - mid a b)] := by unfold fmD; rw [ps_zero]; rfl
  rw [e]
  simp only [E1, E2, E3, E4, E5, E6, E7, E8, E9, List.map_cons, List.map_nil, List.cons_append, List.nil_append, List.append_nil, List.length_cons, List.length_nil, List.replicate_zero, List.replicate_succ, Nat.sub_self, Nat.zero_add, List.getElem?_cons_zero, List.getElem?_cons_succ, List.set_cons_zero, List.set_cons_succ, if_true, if_false, Bool.false_eq_true, decide_true, decide_false, Bool.not_true, Bool.not_false, decide_eq_true_eq, eq_self, Int.cast_ofNat_Int, Int.natCast_zero, Int.natCast_one, Nat.reduceLeDiff, Nat.reduceSub, Nat.reduceAdd, Nat.reduceLT, reduceIte, reduceCtorEq, Int.reduceEq, Int.reduceLT, Int.reduceLE, Int.reduceNeg, Int.reduceAdd, Int.reduceSub, Int.reduceMul, Int.reduceNe, Int.reduceBNe, Int.reduceBEq, f_with_rest, c_NOTHING, e1, e2, e3]
/-- what the marks can do at most -/
def sab (p : Nat → Rat) : Rat := frSum ((ps p).map fun e => e.2.abs)
theorem ps_len : (ps p).length ≤ 9 := ps_dc.len
theorem sm_fold {n : Nat} : ∀ (qs : List Rat) (q0 : Rat) (m : Nat), Sm m q0 → (∀ q ∈ qs, Sm n q) → Sm (m + qs.length * (n + 1)) (qs.foldl (· + ·) q0)
  | [], q0, m, h, _ => by simpa using h
  | q :: qs, q0, m, h, hq => by
    have := sm_fold qs (q0 + q) (m + n + 1) (h.add (hq q List.mem_cons_self)) fun r hr => hq r (List.mem_cons_of_mem _ hr)
    refine this.mono ?_
    rw [List.length_cons, Nat.succ_mul]
    omega
theorem sm_zero {n : Nat} : Sm (n + 1) 0 := ⟨by exact Nat.pos_of_ne_zero (by simp), by
  show (1 : Nat) < 2 ^ (n + 1)
  exact Nat.one_lt_two_pow (by omega)⟩
theorem sab_sm (h : ∀ j, Sm n (p j)) : Sm (9 * (n + 1) + 1) (sab p) := by
  have := sm_fold (n := n) ((ps p).map fun e => e.2.abs) 0 1 sm_zero fun q hq => by
    obtain ⟨e, he, rfl⟩ := List.mem_map.mp hq
    rw [(mem_ps.mp he).2.2]
    exact (h _).abs
  refine this.mono ?_
  rw [List.length_map]
  have := Nat.mul_le_mul_right (n + 1) (ps_len (p := p))
  omega
theorem swing_ok (hp : ∀ j, Sm n (p j)) (hr : Sm n r) (hn : n ≤ 300) : callK G (k + 5) i_swing [fmD c p r] S = some (fr (sab p + r), S) := by
  rw [call_fn g_swing rfl]
  have c1 : ∀ all, compL none all (ctn G (callK G (k + 4)) e_swing_0 (.tup (.cons (.name 1) (.cons (.name 2) .nil))) .none [some (fmD c p r), none, none]) ((ps p).map mkD) S [] = some (((ps p).map fun e => e.2.abs).map fr, S) := fun all => by
    have := compL_mapT (all := all) (turn := ctn G (callK G (k + 4)) e_swing_0 (.tup (.cons (.name 1) (.cons (.name 2) .nil))) .none [some (fmD c p r), none, none]) (S := S) (g := mkD) (f := fun e => fr e.2.abs) (xs := ps p) (acc := []) fun e he => by
      have e1 := size_ok (k := k + 3) (S := S) (p := e.2)
      unfold ctn
      simp only [E1, E2, E3, E4, E5, E6, E7, E8, E9, List.map_cons, List.map_nil, List.cons_append, List.nil_append, List.append_nil, List.length_cons, List.length_nil, List.replicate_zero, List.replicate_succ, Nat.sub_self, Nat.zero_add, List.getElem?_cons_zero, List.getElem?_cons_succ, List.set_cons_zero, List.set_cons_succ, if_true, if_false, Bool.false_eq_true, decide_true, decide_false, Bool.not_true, Bool.not_false, decide_eq_true_eq, eq_self, Int.cast_ofNat_Int, Int.natCast_zero, Int.natCast_one, Nat.reduceLeDiff, Nat.reduceSub, Nat.reduceAdd, Nat.reduceLT, reduceIte, reduceCtorEq, Int.reduceEq, Int.reduceLT, Int.reduceLE, Int.reduceNeg, Int.reduceAdd, Int.reduceSub, Int.reduceMul, Int.reduceNe, Int.reduceBNe, Int.reduceBEq, e_swing_0, mkD, e1]
    rw [List.nil_append] at this
    rw [this, List.map_map]
    rfl
  have hl : (ps p).length ≤ sizeLine := le_size (by have := ps_len (p := p); omega)
  have e2 := psum_ok (k := k) (S := S) (n := n) (qs := (ps p).map fun e => e.2.abs) (fun q hq => by
    obtain ⟨e, he, rfl⟩ := List.mem_map.mp hq
    rw [(mem_ps.mp he).2.2]
    exact (hp _).abs) (by omega) (by
    rw [List.length_map]
    have := Nat.mul_le_mul_right (n + 1) (ps_len (p := p))
    omega)
  have e3 := added_ok (k := k + 1) (S := S) (q4 (sab_sm hp) (by omega)) (q4 hr (by omega))
  unfold fmD at c1 ⊢
  simp only [E1, E2, E3, E4, E5, E6, E7, E8, E9, List.map_cons, List.map_nil, List.cons_append, List.nil_append, List.append_nil, List.length_cons, List.length_nil, List.replicate_zero, List.replicate_succ, Nat.sub_self, Nat.zero_add, List.getElem?_cons_zero, List.getElem?_cons_succ, List.set_cons_zero, List.set_cons_succ, if_true, if_false, Bool.false_eq_true, decide_true, decide_false, Bool.not_true, Bool.not_false, decide_eq_true_eq, eq_self, Int.cast_ofNat_Int, Int.natCast_zero, Int.natCast_one, Nat.reduceLeDiff, Nat.reduceSub, Nat.reduceAdd, Nat.reduceLT, reduceIte, reduceCtorEq, Int.reduceEq, Int.reduceLT, Int.reduceLE, Int.reduceNeg, Int.reduceAdd, Int.reduceSub, Int.reduceMul, Int.reduceNe, Int.reduceBNe, Int.reduceBEq, f_swing, List.length_map, hl, wipe_nil, wipe_cons, c1, e2]
  rw [show frSum ((ps p).map fun e => e.2.abs) = sab p from rfl]
  simp only [E1, E2, E3, E4, E5, E6, E7, E8, E9, List.map_cons, List.map_nil, List.cons_append, List.nil_append, List.append_nil, List.length_cons, List.length_nil, List.replicate_zero, List.replicate_succ, Nat.sub_self, Nat.zero_add, List.getElem?_cons_zero, List.getElem?_cons_succ, List.set_cons_zero, List.set_cons_succ, if_true, if_false, Bool.false_eq_true, decide_true, decide_false, Bool.not_true, Bool.not_false, decide_eq_true_eq, eq_self, Int.cast_ofNat_Int, Int.natCast_zero, Int.natCast_one, Nat.reduceLeDiff, Nat.reduceSub, Nat.reduceAdd, Nat.reduceLT, reduceIte, reduceCtorEq, Int.reduceEq, Int.reduceLT, Int.reduceLE, Int.reduceNeg, Int.reduceAdd, Int.reduceSub, Int.reduceMul, Int.reduceNe, Int.reduceBNe, Int.reduceBEq, e3]
theorem span_of_ok (hc : Sm n c) (hp : ∀ j, Sm n (p j)) (hr : Sm n r) (hn : n ≤ 300) : callK G (k + 6) i_span_of [fmD c p r] S = some (.tup [fr (c - (sab p + r)), fr (c + (sab p + r))], S) := by
  rw [call_fn g_span_of rfl]
  have e1 := swing_ok (k := k) (S := S) (c := c) hp hr hn
  have hs : Sm 4000 (sab p + r) := q4 ((sab_sm hp).add hr) (by omega)
  have e2 := taken_ok (k := k + 1) (S := S) (q4 hc (by omega)) hs
  have e3 := added_ok (k := k + 2) (S := S) (q4 hc (by omega)) hs
  have e4 : idxD S (fmD c p r) (.int 0) = some (fr c) := at_0
  simp only [E1, E2, E3, E4, E5, E6, E7, E8, E9, List.map_cons, List.map_nil, List.cons_append, List.nil_append, List.append_nil, List.length_cons, List.length_nil, List.replicate_zero, List.replicate_succ, Nat.sub_self, Nat.zero_add, List.getElem?_cons_zero, List.getElem?_cons_succ, List.set_cons_zero, List.set_cons_succ, if_true, if_false, Bool.false_eq_true, decide_true, decide_false, Bool.not_true, Bool.not_false, decide_eq_true_eq, eq_self, Int.cast_ofNat_Int, Int.natCast_zero, Int.natCast_one, Nat.reduceLeDiff, Nat.reduceSub, Nat.reduceAdd, Nat.reduceLT, reduceIte, reduceCtorEq, Int.reduceEq, Int.reduceLT, Int.reduceLE, Int.reduceNeg, Int.reduceAdd, Int.reduceSub, Int.reduceMul, Int.reduceNe, Int.reduceBNe, Int.reduceBEq, f_span_of, e1, e4, e2, e3]
theorem reach_of_ok (hc : Sm n c) (hp : ∀ j, Sm n (p j)) (hr : Sm n r) (hn : n ≤ 300) : callK G (k + 6) i_reach_of [fmD c p r] S = some (fr (c.abs + (sab p + r)), S) := by
  rw [call_fn g_reach_of rfl]
  have e1 := swing_ok (k := k) (S := S) (c := c) hp hr hn
  have hs : Sm 4000 (sab p + r) := q4 ((sab_sm hp).add hr) (by omega)
  have e2 := size_ok (k := k + 4) (S := S) (p := c)
  have e3 := added_ok (k := k + 2) (S := S) (q4 hc (by omega)).abs hs
  have e4 : idxD S (fmD c p r) (.int 0) = some (fr c) := at_0
  simp only [E1, E2, E3, E4, E5, E6, E7, E8, E9, List.map_cons, List.map_nil, List.cons_append, List.nil_append, List.append_nil, List.length_cons, List.length_nil, List.replicate_zero, List.replicate_succ, Nat.sub_self, Nat.zero_add, List.getElem?_cons_zero, List.getElem?_cons_succ, List.set_cons_zero, List.set_cons_succ, if_true, if_false, Bool.false_eq_true, decide_true, decide_false, Bool.not_true, Bool.not_false, decide_eq_true_eq, eq_self, Int.cast_ofNat_Int, Int.natCast_zero, Int.natCast_one, Nat.reduceLeDiff, Nat.reduceSub, Nat.reduceAdd, Nat.reduceLT, reduceIte, reduceCtorEq, Int.reduceEq, Int.reduceLT, Int.reduceLE, Int.reduceNeg, Int.reduceAdd, Int.reduceSub, Int.reduceMul, Int.reduceNe, Int.reduceBNe, Int.reduceBEq, f_reach_of, e1, e4, e2, e3]
end

end Rw.Pk12

set_option exponentiation.threshold 300
namespace Rw.Pk12
open PySem L2 Rw
section
variable {k : Nat} {S : Sto} {c c' r r' a b : Rat} {p p' : Nat → Rat} {n m : Nat}
theorem f9_add (h : F9 p) (g : F9 p') : F9 fun j => p j + p' j := fun j hj => by show p j + p' j = 0; rw [h j hj, g j hj]; grind
theorem ps_asc : ((ps p).map (·.1)).Nodup := ps_dc.nd
theorem ps_sm (h : ∀ j, Sm n (p j)) : ∀ e ∈ ps p, Sm n e.2 := fun e he => by rw [(mem_ps.mp he).2.2]; exact h _
theorem both_loop {all : List D} {x0 x1 : Option D} (hn : n ≤ 1000) (hm : m ≤ 1000) : ∀ (es l : ML) (x3 x4 : Option D), (es.map (·.1)).Nodup → (∀ e ∈ es, e.1 < 9) → (∀ e ∈ es, Sm m e.2) → Dc l → (∀ e ∈ es, Sm n (vl l e.1)) →
    ∃ (l' : ML) (y3 y4 : Option D), Dc l' ∧ (∀ j, vl l' j = vl l j + vl es j) ∧ forL none all (fbd G (callK G (k + 3)) (.tup (.cons (.name 3) (.cons (.name 4) .nil))) b_both_0) (es.map mkD) [x0, x1, some (.ref S.length), x3, x4] (S ++ [.dk (kvD l)]) = some (.nx [x0, x1, some (.ref S.length), y3, y4], S ++ [.dk (kvD l')])
  | [], l, x3, x4, _, _, _, h, _ => ⟨l, x3, x4, h, fun j => by rw [vl_nil]; grind, forL_nil⟩
  | e :: es, l, x3, x4, nd, lt, sm, h, g => by
    rw [List.map_cons, List.nodup_cons] at nd
    have he := lt e List.mem_cons_self
    have h1 := h.put (q := vl l e.1 + e.2) he
    obtain ⟨l', y3, y4, d, v, f⟩ := both_loop (all := all) (x0 := x0) (x1 := x1) hn hm es (put l e.1 (vl l e.1 + e.2)) (some (.int (e.1 : Int))) (some (fr e.2)) nd.2 (fun x hx => lt x (List.mem_cons_of_mem _ hx)) (fun x hx => sm x (List.mem_cons_of_mem _ hx)) h1 fun x hx => by
      have : ¬ x.1 = e.1 := fun z => nd.1 (List.mem_map.mpr ⟨x, hx, z⟩)
      rw [vl_put, if_neg this]
      exact g x (List.mem_cons_of_mem _ hx)
    refine ⟨l', y3, y4, d, fun j => ?_, ?_⟩
    · rw [v, vl_put, vl_cons]
      by_cases q : j = e.1
      · subst q
        rw [if_pos rfl, if_pos rfl, vl_no nd.1]
        grind
      · rw [if_neg q, if_neg fun z => q z.symm]
    · rw [List.map_cons]
      refine (forL_cons (ρ1 := [x0, x1, some (.ref S.length), some (.int (e.1 : Int)), some (fr e.2)]) (S1 := S ++ [.dk (kvD (put l e.1 (vl l e.1 + e.2)))]) ?_).trans f
      have e1 := added_ok (k := k) (S := S ++ [.dk (kvD l)]) ((g e List.mem_cons_self).mono (show n ≤ 4000 by omega)) ((sm e List.mem_cons_self).mono (show m ≤ 4000 by omega))
      have e2 := dget_new (S := S) (l := l) (j := e.1)
      rw [fr_zero] at e2
      have e3 := putI_new (S := S) (j := e.1) (q := vl l e.1 + e.2) h
      unfold fbd
      simp only [E1, E2, E3, E4, E5, E6, E7, E8, E9, List.map_cons, List.map_nil, List.cons_append, List.nil_append, List.append_nil, List.length_cons, List.length_nil, List.replicate_zero, List.replicate_succ, Nat.sub_self, Nat.zero_add, List.getElem?_cons_zero, List.getElem?_cons_succ, List.set_cons_zero, List.set_cons_succ, if_true, if_false, Bool.false_eq_true, decide_true, decide_false, Bool.not_true, Bool.not_false, decide_eq_true_eq, eq_self, Int.cast_ofNat_Int, Int.natCast_zero, Int.natCast_one, Nat.reduceLeDiff, Nat.reduceSub, Nat.reduceAdd, Nat.reduceLT, reduceIte, reduceCtorEq, Int.reduceEq, Int.reduceLT, Int.reduceLE, Int.reduceNeg, Int.reduceAdd, Int.reduceSub, Int.reduceMul, Int.reduceNe, Int.reduceBNe, Int.reduceBEq, b_both_0, mkD, dk_new, c_NOTHING, e2, e1, e3]
theorem idx_fm0 : idxD S (fmD c p r) (.int 0) = some (fr c) := at_0
theorem idx_fm1 : idxD S (fmD c p r) (.int 1) = some (.tup ((ps p).map mkD)) := at_1
theorem idx_fm2 : idxD S (fmD c p r) (.int 2) = some (fr r) := nrfl rfl
theorem ps_le : ((ps p).map mkD).length ≤ sizeLine := le_size (by rw [List.length_map]; have := ps_len (p := p); omega)
theorem both_ok (h9 : F9 p) (g9 : F9 p') (hc : Sm n c) (hp : ∀ j, Sm n (p j)) (hr : Sm n r) (hc' : Sm m c') (hp' : ∀ j, Sm m (p' j)) (hr' : Sm m r') (hn : n ≤ 1000) (hm : m ≤ 1000) :
    callK G (k + 4) i_both [fmD c p r, fmD c' p' r'] S = some (fmD (c + c') (fun j => p j + p' j) (r + r'), S) := by
  rw [call_fn g_both rfl]
  obtain ⟨l', y3, y4, d, v, f⟩ := both_loop (k := k) (S := S) (all := (ps p').map mkD) (x0 := some (fmD c p r)) (x1 := some (fmD c' p' r')) hn hm (ps p') (ps p) none none ps_asc (fun e he => ps_dc.lt e he) (ps_sm hp') ps_dc fun e he => by rw [vl_ps h9]; exact hp _
  have ev' : vl l' = fun j => p j + p' j := by
    funext j
    rw [v, vl_ps h9, vl_ps g9]
  have e1 := added_ok (k := k) (S := S ++ [.dk (kvD l')]) (q4 hc (by omega)) (q4 hc' (by omega))
  have e2 := added_ok (k := k) (S := S ++ [.dk (kvD l')]) (q4 hr (by omega)) (q4 hr' (by omega))
  have e3 := straight_ok (k := k + 2) (S := S ++ [.dk (kvD l')]) (c := c + c') (r := r + r') d at_new
  rw [ev'] at e3
  simp only [E1, E2, E3, E4, E5, E6, E7, E8, E9, List.map_cons, List.map_nil, List.cons_append, List.nil_append, List.append_nil, List.length_cons, List.length_nil, List.replicate_zero, List.replicate_succ, Nat.sub_self, Nat.zero_add, List.getElem?_cons_zero, List.getElem?_cons_succ, List.set_cons_zero, List.set_cons_succ, if_true, if_false, Bool.false_eq_true, decide_true, decide_false, Bool.not_true, Bool.not_false, decide_eq_true_eq, eq_self, Int.cast_ofNat_Int, Int.natCast_zero, Int.natCast_one, Nat.reduceLeDiff, Nat.reduceSub, Nat.reduceAdd, Nat.reduceLT, reduceIte, reduceCtorEq, Int.reduceEq, Int.reduceLT, Int.reduceLE, Int.reduceNeg, Int.reduceAdd, Int.reduceSub, Int.reduceMul, Int.reduceNe, Int.reduceBNe, Int.reduceBEq, f_both, idx_fm0, idx_fm1, idx_fm2, dct_t, merge_kv ps_dc, f, e1, e2, e3, prune_one bl_fm]
theorem ps_mul (hb : b ≠ 0) : (ps p).map (fun e => (e.1, e.2 * b)) = ps fun j => p j * b := by
  unfold ps
  rw [List.map_filterMap]
  congr 1
  funext j
  by_cases h : p j = 0
  · simp [h]
  · have : ¬ p j * b = 0 := fun z => (Rat.mul_eq_zero.mp z).elim h hb
    simp [h, this]
theorem dc_mul : Dc ((ps p).map fun e => (e.1, e.2 * b)) := ⟨by
  rw [List.map_map]
  exact ps_asc, fun e he => by
  obtain ⟨x, hx, rfl⟩ := List.mem_map.mp he
  exact ps_dc.lt x hx⟩
theorem vl_mul : ∀ l : ML, vl (l.map fun e => (e.1, e.2 * b)) = fun j => vl l j * b
  | [] => by funext j; show vl [] j = vl [] j * b; rw [vl_nil]; grind
  | e :: l => by
    funext j
    show vl (_ :: _) j = _
    rw [vl_cons, vl_cons, vl_mul l]
    split <;> rfl
theorem scaled_ok (h9 : F9 p) (hc : Sm n c) (hp : ∀ j, Sm n (p j)) (hr : Sm n r) (hb : Sm m b) (hn : n ≤ 1000) (hm : m ≤ 1000) :
    callK G (k + 4) i_scaled [fmD c p r, fr b] S = some (fmD (c * b) (fun j => p j * b) (r * b.abs), S) := by
  rw [call_fn g_scaled rfl]
  have c1 : ∀ all, compL none all (ctn G (callK G (k + 3)) e_scaled_0 (.tup (.cons (.name 3) (.cons (.name 4) .nil))) .none [some (fmD c p r), some (fr b), none, none, none]) ((ps p).map mkD) S [] = some (((ps p).map fun e => (e.1, e.2 * b)).map mkD, S) := fun all => by
    have := compL_mapT (all := all) (turn := ctn G (callK G (k + 3)) e_scaled_0 (.tup (.cons (.name 3) (.cons (.name 4) .nil))) .none [some (fmD c p r), some (fr b), none, none, none]) (S := S) (g := mkD) (f := fun e => mkD (e.1, e.2 * b)) (xs := ps p) (acc := []) fun e he => by
      have e1 := times_ok (k := k) (S := S) (q4 (ps_sm hp e he) (by omega)) (q4 hb (by omega))
      unfold ctn
      simp only [E1, E2, E3, E4, E5, E6, E7, E8, E9, List.map_cons, List.map_nil, List.cons_append, List.nil_append, List.append_nil, List.length_cons, List.length_nil, List.replicate_zero, List.replicate_succ, Nat.sub_self, Nat.zero_add, List.getElem?_cons_zero, List.getElem?_cons_succ, List.set_cons_zero, List.set_cons_succ, if_true, if_false, Bool.false_eq_true, decide_true, decide_false, Bool.not_true, Bool.not_false, decide_eq_true_eq, eq_self, Int.cast_ofNat_Int, Int.natCast_zero, Int.natCast_one, Nat.reduceLeDiff, Nat.reduceSub, Nat.reduceAdd, Nat.reduceLT, reduceIte, reduceCtorEq, Int.reduceEq, Int.reduceLT, Int.reduceLE, Int.reduceNeg, Int.reduceAdd, Int.reduceSub, Int.reduceMul, Int.reduceNe, Int.reduceBNe, Int.reduceBEq, e_scaled_0, mkD, e1]
    rw [List.nil_append] at this
    rw [this, List.map_map]
    rfl
  have d := dc_mul (p := p) (b := b)
  have ev' : vl ((ps p).map fun e => (e.1, e.2 * b)) = fun j => p j * b := by rw [vl_mul, vl_ps h9]
  have e1 := times_ok (k := k) (S := S ++ [.dk (kvD ((ps p).map fun e => (e.1, e.2 * b)))]) (q4 hc (by omega)) (q4 hb (by omega))
  have e2 := size_ok (k := k + 2) (S := S ++ [.dk (kvD ((ps p).map fun e => (e.1, e.2 * b)))]) (p := b)
  have e4 := times_ok (k := k) (S := S ++ [.dk (kvD ((ps p).map fun e => (e.1, e.2 * b)))]) (q4 hr (by omega)) (q4 hb (by omega)).abs
  have e3 := straight_ok (k := k + 2) (S := S ++ [.dk (kvD ((ps p).map fun e => (e.1, e.2 * b)))]) (c := c * b) (r := r * b.abs) d at_new
  rw [ev'] at e3
  have hl := ps_le (p := p)
  simp only [E1, E2, E3, E4, E5, E6, E7, E8, E9, List.map_cons, List.map_nil, List.cons_append, List.nil_append, List.append_nil, List.length_cons, List.length_nil, List.replicate_zero, List.replicate_succ, Nat.sub_self, Nat.zero_add, List.getElem?_cons_zero, List.getElem?_cons_succ, List.set_cons_zero, List.set_cons_succ, if_true, if_false, Bool.false_eq_true, decide_true, decide_false, Bool.not_true, Bool.not_false, decide_eq_true_eq, eq_self, Int.cast_ofNat_Int, Int.natCast_zero, Int.natCast_one, Nat.reduceLeDiff, Nat.reduceSub, Nat.reduceAdd, Nat.reduceLT, reduceIte, reduceCtorEq, Int.reduceEq, Int.reduceLT, Int.reduceLE, Int.reduceNeg, Int.reduceAdd, Int.reduceSub, Int.reduceMul, Int.reduceNe, Int.reduceBNe, Int.reduceBEq, f_scaled, idx_fm0, idx_fm1, idx_fm2, hl, wipe_nil, wipe_cons, c1, dct_l, merge_kv d, e1, e2, e4, e3, prune_one bl_fm]
theorem fr_neg1 : fr (-1) = .tup [.int (-1), .int 1] := nrfl rfl
theorem neg1_sm : Sm 2 (-1) := ⟨by decide, by decide⟩
theorem turned_ok (h9 : F9 p) (hc : Sm n c) (hp : ∀ j, Sm n (p j)) (hr : Sm n r) (hn : n ≤ 1000) : callK G (k + 5) i_turned [fmD c p r] S = some (fmD (-c) (fun j => - p j) r, S) := by
  rw [call_fn g_turned rfl]
  have e1 := scaled_ok (k := k) (S := S) h9 hc hp hr neg1_sm hn (by omega)
  rw [fr_neg1, show c * -1 = -c by grind, show (fun j => p j * -1) = fun j => - p j from funext fun j => by grind, show r * (-1 : Rat).abs = r by rw [show (-1 : Rat).abs = 1 by decide +kernel]; grind] at e1
  simp only [E1, E2, E3, E4, E5, E6, E7, E8, E9, List.map_cons, List.map_nil, List.cons_append, List.nil_append, List.append_nil, List.length_cons, List.length_nil, List.replicate_zero, List.replicate_succ, Nat.sub_self, Nat.zero_add, List.getElem?_cons_zero, List.getElem?_cons_succ, List.set_cons_zero, List.set_cons_succ, if_true, if_false, Bool.false_eq_true, decide_true, decide_false, Bool.not_true, Bool.not_false, decide_eq_true_eq, eq_self, Int.cast_ofNat_Int, Int.natCast_zero, Int.natCast_one, Nat.reduceLeDiff, Nat.reduceSub, Nat.reduceAdd, Nat.reduceLT, reduceIte, reduceCtorEq, Int.reduceEq, Int.reduceLT, Int.reduceLE, Int.reduceNeg, Int.reduceAdd, Int.reduceSub, Int.reduceMul, Int.reduceNe, Int.reduceBNe, Int.reduceBEq, f_turned, e1]
theorem loosened_ok (hr : Sm n r) (ha : Sm m a) (hn : n ≤ 4000) (hm : m ≤ 4000) : callK G (k + 4) i_loosened [fmD c p r, fr a] S = some (fmD c p (r + a), S) := by
  rw [call_fn g_loosened rfl]
  have e1 := added_ok (k := k) (S := S) (q4 hr hn) (q4 ha hm)
  have e2 : slD S (fmD c p r) none (some 2) = some (.tup [fr c, .tup ((ps p).map mkD)]) := by
    show some (D.tup (cutD _ none (some 2))) = _
    rfl
  simp only [E1, E2, E3, E4, E5, E6, E7, E8, E9, List.map_cons, List.map_nil, List.cons_append, List.nil_append, List.append_nil, List.length_cons, List.length_nil, List.replicate_zero, List.replicate_succ, Nat.sub_self, Nat.zero_add, List.getElem?_cons_zero, List.getElem?_cons_succ, List.set_cons_zero, List.set_cons_succ, if_true, if_false, Bool.false_eq_true, decide_true, decide_false, Bool.not_true, Bool.not_false, decide_eq_true_eq, eq_self, Int.cast_ofNat_Int, Int.natCast_zero, Int.natCast_one, Nat.reduceLeDiff, Nat.reduceSub, Nat.reduceAdd, Nat.reduceLT, reduceIte, reduceCtorEq, Int.reduceEq, Int.reduceLT, Int.reduceLE, Int.reduceNeg, Int.reduceAdd, Int.reduceSub, Int.reduceMul, Int.reduceNe, Int.reduceBNe, Int.reduceBEq, f_loosened, idx_fm2, e1, e2]
  rfl
theorem marked_ok (h9 : F9 p) {j : Nat} (hj : j < 9) (hp : ∀ j, Sm n (p j)) (hb : Sm m b) (hn : n ≤ 1000) (hm : m ≤ 1000) : callK G (k + 4) i_marked [fmD c p r, .int (j : Int), fr b] S = some (fmD c (fun i => if i = j then p j + b else p i) r, S) := by
  rw [call_fn g_marked rfl]
  have e1 := added_ok (k := k) (S := S ++ [.dk (kvD (ps p))]) (q4 (hp j) (by omega)) (q4 hb (by omega))
  have e2 := dget_new (S := S) (l := ps p) (j := j)
  have d : Dc (put (ps p) j (p j + b)) := ps_dc.put hj
  rw [fr_zero, vl_ps h9] at e2
  have e3 := putI_new (S := S) (j := j) (q := p j + b) (ps_dc (p := p))
  have ev' : vl (put (ps p) j (p j + b)) = fun i => if i = j then p j + b else p i := by
    funext i
    rw [vl_put, vl_ps h9]
  have e4 := straight_ok (k := k + 2) (S := S ++ [.dk (kvD (put (ps p) j (p j + b)))]) (c := c) (r := r) d at_new
  rw [ev'] at e4
  simp only [E1, E2, E3, E4, E5, E6, E7, E8, E9, List.map_cons, List.map_nil, List.cons_append, List.nil_append, List.append_nil, List.length_cons, List.length_nil, List.replicate_zero, List.replicate_succ, Nat.sub_self, Nat.zero_add, List.getElem?_cons_zero, List.getElem?_cons_succ, List.set_cons_zero, List.set_cons_succ, if_true, if_false, Bool.false_eq_true, decide_true, decide_false, Bool.not_true, Bool.not_false, decide_eq_true_eq, eq_self, Int.cast_ofNat_Int, Int.natCast_zero, Int.natCast_one, Nat.reduceLeDiff, Nat.reduceSub, Nat.reduceAdd, Nat.reduceLT, reduceIte, reduceCtorEq, Int.reduceEq, Int.reduceLT, Int.reduceLE, Int.reduceNeg, Int.reduceAdd, Int.reduceSub, Int.reduceMul, Int.reduceNe, Int.reduceBNe, Int.reduceBEq, f_marked, idx_fm0, idx_fm1, idx_fm2, dct_t, merge_kv ps_dc, dk_new, c_NOTHING, e2, e1, e3, e4, prune_one bl_fm]
theorem f9_mul (h : F9 p) : F9 fun j => p j * b := fun j hj => by show p j * b = 0; rw [h j hj]; grind
theorem product_ok (h9 : F9 p) (g9 : F9 p') (hc : Sm n c) (hp : ∀ j, Sm n (p j)) (hr : Sm n r) (hc' : Sm n c') (hp' : ∀ j, Sm n (p' j)) (hr' : Sm n r') (hn : n ≤ 50) :
    callK G (k + 6) i_product [fmD c p r, fmD c' p' r'] S = some (fmD (c * c' + c' * c - c * c') (fun j => p j * c' + p' j * c) (r * c'.abs + r' * c.abs + (sab p + r) * (sab p' + r')), S) := by
  rw [call_fn g_product rfl]
  have e1 := scaled_ok (k := k + 1) (S := S) h9 hc hp hr hc' (by omega) (by omega)
  have e2 := scaled_ok (k := k + 1) (S := S) g9 hc' hp' hr' hc (by omega) (by omega)
  have e3 := both_ok (k := k + 1) (S := S) (f9_mul (b := c') h9) (f9_mul (b := c) g9) (hc.mul hc') (fun j => (hp j).mul hc') (hr.mul hc'.abs) (hc'.mul hc) (fun j => (hp' j).mul hc) (hr'.mul hc.abs) (by omega) (by omega)
  have e4 := times_ok (k := k + 2) (S := S) (q4 hc (by omega)) (q4 hc' (by omega))
  have e5 := taken_ok (k := k + 1) (S := S) (q4 ((hc.mul hc').add (hc'.mul hc)) (by omega)) (q4 (hc.mul hc') (by omega))
  have e6 := swing_ok (k := k) (S := S) (c := c) hp hr (by omega)
  have e7 := swing_ok (k := k) (S := S) (c := c') hp' hr' (by omega)
  have s1 := (sab_sm hp).add hr
  have s2 := (sab_sm hp').add hr'
  have e8 := times_ok (k := k + 2) (S := S) (q4 s1 (by omega)) (q4 s2 (by omega))
  have e9 := loosened_ok (k := k + 1) (S := S) (c := c * c' + c' * c - c * c') (p := fun j => p j * c' + p' j * c) ((hr.mul hc'.abs).add (hr'.mul hc.abs)) (s1.mul s2) (by omega) (by omega)
  have e10 : slD S (fmD (c * c' + c' * c) (fun j => p j * c' + p' j * c) (r * c'.abs + r' * c.abs)) (some 1) none = some (.tup [.tup ((ps fun j => p j * c' + p' j * c).map mkD), fr (r * c'.abs + r' * c.abs)]) := by
    show some (D.tup (cutD _ (some 1) none)) = _
    rfl
  have e11 : callK G (k + 5) i_loosened [.tup [fr (c * c' + c' * c - c * c'), .tup ((ps fun j => p j * c' + p' j * c).map mkD), fr (r * c'.abs + r' * c.abs)], fr ((sab p + r) * (sab p' + r'))] S = some (fmD (c * c' + c' * c - c * c') (fun j => p j * c' + p' j * c) (r * c'.abs + r' * c.abs + (sab p + r) * (sab p' + r')), S) := e9
  simp only [E1, E2, E3, E4, E5, E6, E7, E8, E9, List.map_cons, List.map_nil, List.cons_append, List.nil_append, List.append_nil, List.length_cons, List.length_nil, List.replicate_zero, List.replicate_succ, Nat.sub_self, Nat.zero_add, List.getElem?_cons_zero, List.getElem?_cons_succ, List.set_cons_zero, List.set_cons_succ, if_true, if_false, Bool.false_eq_true, decide_true, decide_false, Bool.not_true, Bool.not_false, decide_eq_true_eq, eq_self, Int.cast_ofNat_Int, Int.natCast_zero, Int.natCast_one, Nat.reduceLeDiff, Nat.reduceSub, Nat.reduceAdd, Nat.reduceLT, reduceIte, reduceCtorEq, Int.reduceEq, Int.reduceLT, Int.reduceLE, Int.reduceNeg, Int.reduceAdd, Int.reduceSub, Int.reduceMul, Int.reduceNe, Int.reduceBNe, Int.reduceBEq, f_product, idx_fm0, e1, e2, e3, e4, e5, e6, e7, e8, e10, e11]
end

end Rw.Pk12

set_option exponentiation.threshold 300
namespace Rw.Pk12
open PySem L2 Rw
/-! ### numbers for marks -/
def mF (ms : List Rat) (j : Nat) : Rat := ms.getD j 0
def lin (f : Nat → Rat) (es : ML) (c : Rat) : Rat := es.foldl (fun a e => a + e.2 * f e.1) c
section
variable {k : Nat} {S : Sto} {c c' r r' a b : Rat} {p p' : Nat → Rat} {n m : Nat} {ms : List Rat}
theorem idx_ms {j : Nat} (h : j < ms.length) : atI (ms.map fr) (j : Int) = some (fr (mF ms j)) := by
  unfold atI ixN
  rw [if_pos (by omega), if_pos (by rw [List.length_map]; omega)]
  simp [mF, h]
theorem ms_sm (h : ∀ q ∈ ms, Sm m q) {j : Nat} (hj : j < ms.length) : Sm m (mF ms j) := by
  have : mF ms j = ms[j] := by simp [mF, hj]
  rw [this]
  exact h _ (List.getElem_mem hj)
theorem at_loop {all : List D} {x0 : Option D} (hm : 9 ≤ ms.length) (sm : ∀ q ∈ ms, Sm m q) : ∀ (es : ML) (q0 : Rat) (z : Nat) (x3 x4 : Option D), Sm z q0 → (∀ e ∈ es, e.1 < 9) → (∀ e ∈ es, Sm n e.2) → z + es.length * (n + m + 1) ≤ 4000 → n ≤ 4000 → m ≤ 4000 →
    ∃ y3 y4, forL none all (fbd G (callK G (k + 3)) (.tup (.cons (.name 3) (.cons (.name 4) .nil))) b_at_marks_0) (es.map mkD) [x0, some (.lst (ms.map fr)), some (fr q0), x3, x4] S = some (.nx [x0, some (.lst (ms.map fr)), some (fr (lin (mF ms) es q0)), y3, y4], S)
  | [], q0, z, x3, x4, _, _, _, _, _, _ => ⟨x3, x4, forL_nil⟩
  | e :: es, q0, z, x3, x4, h0, lt, hs, hl, hn, hm' => by
    have he := lt e List.mem_cons_self
    have hl' : (es.length + 1) * (n + m + 1) = es.length * (n + m + 1) + (n + m + 1) := Nat.succ_mul _ _
    have hl2 : z + ((es.length + 1) * (n + m + 1)) ≤ 4000 := hl
    have s1 := hs e List.mem_cons_self
    have s2 := ms_sm sm (j := e.1) (by omega)
    obtain ⟨y3, y4, f⟩ := at_loop (all := all) (x0 := x0) hm sm es (q0 + e.2 * mF ms e.1) (z + (n + m) + 1) (some (.int (e.1 : Int))) (some (fr e.2)) (h0.add (s1.mul s2)) (fun x hx => lt x (List.mem_cons_of_mem _ hx)) (fun x hx => hs x (List.mem_cons_of_mem _ hx)) (by omega) hn hm'
    refine ⟨y3, y4, ?_⟩
    rw [List.map_cons]
    refine (forL_cons (ρ1 := [x0, some (.lst (ms.map fr)), some (fr (q0 + e.2 * mF ms e.1)), some (.int (e.1 : Int)), some (fr e.2)]) (S1 := S) ?_).trans f
    have e1 := times_ok (k := k) (S := S) (q4 s1 hn) (q4 s2 hm')
    have e2 := added_ok (k := k) (S := S) (q4 h0 (by omega)) (q4 (s1.mul s2) (by omega))
    have e3 := idx_ms (ms := ms) (j := e.1) (by omega)
    unfold fbd
    simp only [E1, E2, E3, E4, E5, E6, E7, E8, E9, List.map_cons, List.map_nil, List.cons_append, List.nil_append, List.append_nil, List.length_cons, List.length_nil, List.replicate_zero, List.replicate_succ, Nat.sub_self, Nat.zero_add, List.getElem?_cons_zero, List.getElem?_cons_succ, List.set_cons_zero, List.set_cons_succ, if_true, if_false, Bool.false_eq_true, decide_true, decide_false, Bool.not_true, Bool.not_false, decide_eq_true_eq, eq_self, Int.cast_ofNat_Int, Int.natCast_zero, Int.natCast_one, Nat.reduceLeDiff, Nat.reduceSub, Nat.reduceAdd, Nat.reduceLT, reduceIte, reduceCtorEq, Int.reduceEq, Int.reduceLT, Int.reduceLE, Int.reduceNeg, Int.reduceAdd, Int.reduceSub, Int.reduceMul, Int.reduceNe, Int.reduceBNe, Int.reduceBEq, b_at_marks_0, mkD, e3, e1, e2]
theorem lin_sm (hm : 9 ≤ ms.length) (sm : ∀ q ∈ ms, Sm m q) : ∀ (es : ML) (q0 : Rat) (z : Nat), Sm z q0 → (∀ e ∈ es, e.1 < 9) → (∀ e ∈ es, Sm n e.2) → Sm (z + es.length * (n + m + 1)) (lin (mF ms) es q0)
  | [], q0, z, h, _, _ => by simpa [lin] using h
  | e :: es, q0, z, h0, lt, hs => by
    have s1 := hs e List.mem_cons_self
    have s2 := ms_sm sm (j := e.1) (by have := lt e List.mem_cons_self; omega)
    have := lin_sm hm sm es (q0 + e.2 * mF ms e.1) (z + (n + m) + 1) (h0.add (s1.mul s2)) (fun x hx => lt x (List.mem_cons_of_mem _ hx)) (fun x hx => hs x (List.mem_cons_of_mem _ hx))
    refine this.mono ?_
    rw [List.length_cons, Nat.succ_mul]
    omega
theorem vs_sm (hm : 9 ≤ ms.length) (sm : ∀ q ∈ ms, Sm m q) (hc : Sm n c) (hp : ∀ j, Sm n (p j)) : Sm (n + 9 * (n + m + 1)) (lin (mF ms) (ps p) c) := by
  refine (lin_sm hm sm (ps p) c n hc (fun e he => ps_dc.lt e he) (ps_sm hp)).mono ?_
  have := Nat.mul_le_mul_right (n + m + 1) (ps_len (p := p))
  omega
theorem at_ok (hm : 9 ≤ ms.length) (sm : ∀ q ∈ ms, Sm m q) (hc : Sm n c) (hp : ∀ j, Sm n (p j)) (hr : Sm n r) (hn : n ≤ 100) (hm' : m ≤ 100) :
    callK G (k + 5) i_at_marks [fmD c p r, .lst (ms.map fr)] S = some (.tup [fr (lin (mF ms) (ps p) c - r), fr (lin (mF ms) (ps p) c + r)], S) := by
  rw [call_fn g_at_marks rfl]
  have hl := Nat.mul_le_mul_right (n + m + 1) (ps_len (p := p))
  obtain ⟨y3, y4, f⟩ := at_loop (k := k + 1) (S := S) (all := (ps p).map mkD) (x0 := some (fmD c p r)) hm sm (ps p) c n none none hc (fun e he => ps_dc.lt e he) (ps_sm hp) (by omega) (by omega) (by omega)
  have s1 := vs_sm hm sm hc hp
  have e1 := taken_ok (k := k) (S := S) (q4 s1 (by omega)) (q4 hr (by omega))
  have e2 := added_ok (k := k + 1) (S := S) (q4 s1 (by omega)) (q4 hr (by omega))
  simp only [E1, E2, E3, E4, E5, E6, E7, E8, E9, List.map_cons, List.map_nil, List.cons_append, List.nil_append, List.append_nil, List.length_cons, List.length_nil, List.replicate_zero, List.replicate_succ, Nat.sub_self, Nat.zero_add, List.getElem?_cons_zero, List.getElem?_cons_succ, List.set_cons_zero, List.set_cons_succ, if_true, if_false, Bool.false_eq_true, decide_true, decide_false, Bool.not_true, Bool.not_false, decide_eq_true_eq, eq_self, Int.cast_ofNat_Int, Int.natCast_zero, Int.natCast_one, Nat.reduceLeDiff, Nat.reduceSub, Nat.reduceAdd, Nat.reduceLT, reduceIte, reduceCtorEq, Int.reduceEq, Int.reduceLT, Int.reduceLE, Int.reduceNeg, Int.reduceAdd, Int.reduceSub, Int.reduceMul, Int.reduceNe, Int.reduceBNe, Int.reduceBEq, f_at_marks, idx_fm0, idx_fm1, idx_fm2, f, e1, e2]
/-! the law's own sums -/
theorem sum2 (h : Sm n a) (g : Sm n b) (hn : n ≤ 1990) : callK G (k + 2) i__law_sum [.lst [fr a, fr b]] S = some (fr (a + b), S) := by
  have := lsum_ok (k := k) (S := S) (n := n) (qs := [a, b]) (fun q hq => by
    rcases List.mem_cons.mp hq with rfl | hq
    · exact h
    · rw [List.mem_singleton.mp hq]; exact g) (by omega) (by simp; omega)
  have e : frSum [a, b] = a + b := by
    show (0 + a) + b = a + b
    grind
  rw [e] at this
  exact this
theorem prod2 (h : Sm n a) (g : Sm n b) (hn : n ≤ 4000) : callK G (k + 2) i__law_product2 [fr a, fr b] S = some (fr (a * b), S) := by
  rw [call_fn g__law_product2 rfl]
  have e1 := least_mul (k := k) (S := S) (q4 h hn) (q4 g hn)
  have o1 := (q4 h hn).nm.mulOk (q4 g hn).nm (by decide)
  have o2 := (q4 h hn).dn.mulOk (q4 g hn).dn (by decide)
  simp only [E1, E2, E3, E4, E5, E6, E7, E8, E9, List.map_cons, List.map_nil, List.cons_append, List.nil_append, List.append_nil, List.length_cons, List.length_nil, List.replicate_zero, List.replicate_succ, Nat.sub_self, Nat.zero_add, List.getElem?_cons_zero, List.getElem?_cons_succ, List.set_cons_zero, List.set_cons_succ, if_true, if_false, Bool.false_eq_true, decide_true, decide_false, Bool.not_true, Bool.not_false, decide_eq_true_eq, eq_self, Int.cast_ofNat_Int, Int.natCast_zero, Int.natCast_one, Nat.reduceLeDiff, Nat.reduceSub, Nat.reduceAdd, Nat.reduceLT, reduceIte, reduceCtorEq, Int.reduceEq, Int.reduceLT, Int.reduceLE, Int.reduceNeg, Int.reduceAdd, Int.reduceSub, Int.reduceMul, Int.reduceNe, Int.reduceBNe, Int.reduceBEq, f__law_product2, idx_fr0, idx_fr1, o1, o2, e1]
theorem less2 (h : Sm n a) (g : Sm n b) (hn : n ≤ 4000) : callK G (k + 1) i__law_less [fr a, fr b] S = some (.bl (decide (a < b)), S) := by
  rw [call_fn g__law_less rfl]
  have o1 := (q4 h hn).nm.mulOk (q4 g hn).dn (by decide)
  have o2 := (q4 g hn).nm.mulOk (q4 h hn).dn (by decide)
  simp only [E1, E2, E3, E4, E5, E6, E7, E8, E9, List.map_cons, List.map_nil, List.cons_append, List.nil_append, List.append_nil, List.length_cons, List.length_nil, List.replicate_zero, List.replicate_succ, Nat.sub_self, Nat.zero_add, List.getElem?_cons_zero, List.getElem?_cons_succ, List.set_cons_zero, List.set_cons_succ, if_true, if_false, Bool.false_eq_true, decide_true, decide_false, Bool.not_true, Bool.not_false, decide_eq_true_eq, eq_self, Int.cast_ofNat_Int, Int.natCast_zero, Int.natCast_one, Nat.reduceLeDiff, Nat.reduceSub, Nat.reduceAdd, Nat.reduceLT, reduceIte, reduceCtorEq, Int.reduceEq, Int.reduceLT, Int.reduceLE, Int.reduceNeg, Int.reduceAdd, Int.reduceSub, Int.reduceMul, Int.reduceNe, Int.reduceBNe, Int.reduceBEq, f__law_less, idx_fr0, idx_fr1, o1, o2, lt_eq]
theorem neg_fr : D.tup [.int (0 - a.num), .int (a.den : Int)] = fr (-a) := by rw [Int.zero_sub]; rfl
theorem val_loop {all : List D} {x0 : Option D} (hm : 9 ≤ ms.length) (sm : ∀ q ∈ ms, Sm m q) : ∀ (es : ML) (q0 : Rat) (z : Nat) (x3 x4 : Option D), Sm z q0 → (∀ e ∈ es, e.1 < 9) → (∀ e ∈ es, Sm n e.2) → z + es.length * (n + m + 1) ≤ 1400 → n ≤ 1000 → m ≤ 1000 →
    ∃ y3 y4, forL none all (fbd G (callK G (k + 3)) (.tup (.cons (.name 3) (.cons (.name 4) .nil))) b__law_values_0) (es.map mkD) [x0, some (.lst (ms.map fr)), some (fr q0), x3, x4] S = some (.nx [x0, some (.lst (ms.map fr)), some (fr (lin (mF ms) es q0)), y3, y4], S)
  | [], q0, z, x3, x4, _, _, _, _, _, _ => ⟨x3, x4, forL_nil⟩
  | e :: es, q0, z, x3, x4, h0, lt, hs, hl, hn, hm' => by
    have he := lt e List.mem_cons_self
    have hl' : (es.length + 1) * (n + m + 1) = es.length * (n + m + 1) + (n + m + 1) := Nat.succ_mul _ _
    have hl2 : z + ((es.length + 1) * (n + m + 1)) ≤ 1400 := hl
    have s1 := hs e List.mem_cons_self
    have s2 := ms_sm sm (j := e.1) (by omega)
    obtain ⟨y3, y4, f⟩ := val_loop (all := all) (x0 := x0) hm sm es (q0 + e.2 * mF ms e.1) (z + (n + m) + 1) (some (.int (e.1 : Int))) (some (fr e.2)) (h0.add (s1.mul s2)) (fun x hx => lt x (List.mem_cons_of_mem _ hx)) (fun x hx => hs x (List.mem_cons_of_mem _ hx)) (by omega) hn hm'
    refine ⟨y3, y4, ?_⟩
    rw [List.map_cons]
    refine (forL_cons (ρ1 := [x0, some (.lst (ms.map fr)), some (fr (q0 + e.2 * mF ms e.1)), some (.int (e.1 : Int)), some (fr e.2)]) (S1 := S) ?_).trans f
    have e1 := prod2 (k := k + 1) (S := S) (n := 1000) (s1.mono hn) (s2.mono hm') (by omega)
    have e2 := sum2 (k := k + 1) (S := S) (n := 1400) (h0.mono (by omega)) ((s1.mul s2).mono (by omega)) (by omega)
    have e3 := idx_ms (ms := ms) (j := e.1) (by omega)
    unfold fbd
    simp only [E1, E2, E3, E4, E5, E6, E7, E8, E9, List.map_cons, List.map_nil, List.cons_append, List.nil_append, List.append_nil, List.length_cons, List.length_nil, List.replicate_zero, List.replicate_succ, Nat.sub_self, Nat.zero_add, List.getElem?_cons_zero, List.getElem?_cons_succ, List.set_cons_zero, List.set_cons_succ, if_true, if_false, Bool.false_eq_true, decide_true, decide_false, Bool.not_true, Bool.not_false, decide_eq_true_eq, eq_self, Int.cast_ofNat_Int, Int.natCast_zero, Int.natCast_one, Nat.reduceLeDiff, Nat.reduceSub, Nat.reduceAdd, Nat.reduceLT, reduceIte, reduceCtorEq, Int.reduceEq, Int.reduceLT, Int.reduceLE, Int.reduceNeg, Int.reduceAdd, Int.reduceSub, Int.reduceMul, Int.reduceNe, Int.reduceBNe, Int.reduceBEq, b__law_values_0, mkD, e3, e1, e2]
def vsD (v r : Rat) : D := .lst [fr (v - r), fr v, fr (v + r)]
theorem values_ok (hm : 9 ≤ ms.length) (sm : ∀ q ∈ ms, Sm m q) (hc : Sm n c) (hp : ∀ j, Sm n (p j)) (hr : Sm 1900 r) (hn : n ≤ 100) (hl : n + 9 * (n + m + 1) ≤ 1400) (hm' : m ≤ 50) :
    callK G (k + 4) i__law_values [fmD c p r, .lst (ms.map fr)] S = some (vsD (lin (mF ms) (ps p) c) r, S) := by
  rw [call_fn g__law_values rfl]
  have hl2 := Nat.mul_le_mul_right (n + m + 1) (ps_len (p := p))
  obtain ⟨y3, y4, f⟩ := val_loop (k := k) (S := S) (all := (ps p).map mkD) (x0 := some (fmD c p r)) hm sm (ps p) c n none none hc (fun e he => ps_dc.lt e he) (ps_sm hp) (by omega) (by omega) (by omega)
  have s1 := vs_sm hm sm hc hp
  have e1 := sum2 (k := k + 1) (S := S) (n := 1900) (s1.mono (Nat.le_trans hl (by decide))) hr.neg (by omega)
  have e2 := sum2 (k := k + 1) (S := S) (n := 1900) (s1.mono (Nat.le_trans hl (by decide))) hr (by omega)
  rw [← Rat.sub_eq_add_neg] at e1
  simp only [E1, E2, E3, E4, E5, E6, E7, E8, E9, List.map_cons, List.map_nil, List.cons_append, List.nil_append, List.append_nil, List.length_cons, List.length_nil, List.replicate_zero, List.replicate_succ, Nat.sub_self, Nat.zero_add, List.getElem?_cons_zero, List.getElem?_cons_succ, List.set_cons_zero, List.set_cons_succ, if_true, if_false, Bool.false_eq_true, decide_true, decide_false, Bool.not_true, Bool.not_false, decide_eq_true_eq, eq_self, Int.cast_ofNat_Int, Int.natCast_zero, Int.natCast_one, Nat.reduceLeDiff, Nat.reduceSub, Nat.reduceAdd, Nat.reduceLT, reduceIte, reduceCtorEq, Int.reduceEq, Int.reduceLT, Int.reduceLE, Int.reduceNeg, Int.reduceAdd, Int.reduceSub, Int.reduceMul, Int.reduceNe, Int.reduceBNe, Int.reduceBEq, f__law_values, idx_fm0, idx_fm1, idx_fm2, f, idx_fr0, idx_fr1, neg_fr, e1, e2]
  rfl
def sp (a b : Rat) : D := .tup [fr a, fr b]
theorem in_ok {u v x : Rat} (h1 : Sm n u) (h2 : Sm n v) (h3 : Sm n x) (hn : n ≤ 4000) : callK G (k + 2) i__law_in [sp u v, fr x] S = some (.bl (decide (u ≤ x) && decide (x ≤ v)), S) := by
  rw [call_fn g__law_in rfl]
  have e1 := less2 (k := k) (S := S) h3 h1 hn
  have e2 := less2 (k := k) (S := S) h2 h3 hn
  have i0 : idxD S (sp u v) (.int 0) = some (fr u) := at_0
  have i1 : idxD S (sp u v) (.int 1) = some (fr v) := at_1
  by_cases q1 : u ≤ x
  · have : ¬ x < u := by grind
    have q3 : decide (x ≤ v) = !decide (v < x) := by rw [← decide_not, decide_eq_decide]; grind
    simp only [E1, E2, E3, E4, E5, E6, E7, E8, E9, List.map_cons, List.map_nil, List.cons_append, List.nil_append, List.append_nil, List.length_cons, List.length_nil, List.replicate_zero, List.replicate_succ, Nat.sub_self, Nat.zero_add, List.getElem?_cons_zero, List.getElem?_cons_succ, List.set_cons_zero, List.set_cons_succ, if_true, if_false, Bool.false_eq_true, decide_true, decide_false, Bool.not_true, Bool.not_false, decide_eq_true_eq, eq_self, Int.cast_ofNat_Int, Int.natCast_zero, Int.natCast_one, Nat.reduceLeDiff, Nat.reduceSub, Nat.reduceAdd, Nat.reduceLT, reduceIte, reduceCtorEq, Int.reduceEq, Int.reduceLT, Int.reduceLE, Int.reduceNeg, Int.reduceAdd, Int.reduceSub, Int.reduceMul, Int.reduceNe, Int.reduceBNe, Int.reduceBEq, f__law_in, i0, i1, e1, e2, q1, q3, this, Bool.true_and]
  · have : x < u := by grind
    simp only [E1, E2, E3, E4, E5, E6, E7, E8, E9, List.map_cons, List.map_nil, List.cons_append, List.nil_append, List.append_nil, List.length_cons, List.length_nil, List.replicate_zero, List.replicate_succ, Nat.sub_self, Nat.zero_add, List.getElem?_cons_zero, List.getElem?_cons_succ, List.set_cons_zero, List.set_cons_succ, if_true, if_false, Bool.false_eq_true, decide_true, decide_false, Bool.not_true, Bool.not_false, decide_eq_true_eq, eq_self, Int.cast_ofNat_Int, Int.natCast_zero, Int.natCast_one, Nat.reduceLeDiff, Nat.reduceSub, Nat.reduceAdd, Nat.reduceLT, reduceIte, reduceCtorEq, Int.reduceEq, Int.reduceLT, Int.reduceLE, Int.reduceNeg, Int.reduceAdd, Int.reduceSub, Int.reduceMul, Int.reduceNe, Int.reduceBNe, Int.reduceBEq, f__law_in, i0, i1, e1, e2, q1, this, Bool.false_and]
theorem takes_ok {x : Rat} (hm : 9 ≤ ms.length) (sm : ∀ q ∈ ms, Sm m q) (hc : Sm n c) (hp : ∀ j, Sm n (p j)) (hr : Sm 1900 r) (hx : Sm 4000 x) (hn : n ≤ 100) (hl : n + 9 * (n + m + 1) ≤ 1400) (hm' : m ≤ 50)
    (t : lin (mF ms) (ps p) c - r ≤ x ∧ x ≤ lin (mF ms) (ps p) c + r) : callK G (k + 5) i__law_takes [fmD c p r, fr x, .lst (ms.map fr)] S = some (.bl true, S) := by
  rw [call_fn g__law_takes rfl]
  have e1 := values_ok (k := k) (S := S) hm sm hc hp hr hn hl hm'
  have s1 := vs_sm hm sm hc hp
  have e2 := in_ok (k := k + 2) (S := S) (n := 4000) ((Rat.sub_eq_add_neg _ _ ▸ s1.add hr.neg).mono (show _ ≤ 4000 by omega)) ((s1.add hr).mono (by omega)) hx (by omega)
  have i0 : ∀ {v : Rat}, idxD S (vsD v r) (.int 0) = some (fr (v - r)) := at_0
  have i2 : ∀ {v : Rat}, idxD S (vsD v r) (.int 2) = some (fr (v + r)) := nrfl rfl
  rw [decide_eq_true t.1, decide_eq_true t.2] at e2
  unfold sp at e2
  simp only [E1, E2, E3, E4, E5, E6, E7, E8, E9, List.map_cons, List.map_nil, List.cons_append, List.nil_append, List.append_nil, List.length_cons, List.length_nil, List.replicate_zero, List.replicate_succ, Nat.sub_self, Nat.zero_add, List.getElem?_cons_zero, List.getElem?_cons_succ, List.set_cons_zero, List.set_cons_succ, if_true, if_false, Bool.false_eq_true, decide_true, decide_false, Bool.not_true, Bool.not_false, decide_eq_true_eq, eq_self, Int.cast_ofNat_Int, Int.natCast_zero, Int.natCast_one, Nat.reduceLeDiff, Nat.reduceSub, Nat.reduceAdd, Nat.reduceLT, reduceIte, reduceCtorEq, Int.reduceEq, Int.reduceLT, Int.reduceLE, Int.reduceNeg, Int.reduceAdd, Int.reduceSub, Int.reduceMul, Int.reduceNe, Int.reduceBNe, Int.reduceBEq, f__law_takes, e1, i0, i2, e2]
  rfl
end

end Rw.Pk12

set_option exponentiation.threshold 300
namespace Rw.Pk12
open PySem L2 Rw
/-! ### looser ones -/
def gap (p p' : Nat → Rat) (js : List Nat) (o : Rat) : Rat := js.foldl (fun a j => a + (p j - p' j).abs) o
theorem gap_fil {p p' : Nat → Rat} {f : Nat → Bool} (h : ∀ j, f j = false → p j = 0 ∧ p' j = 0) : ∀ (js : List Nat) (o : Rat), gap p p' (js.filter f) o = gap p p' js o
  | [], _ => rfl
  | j :: js, o => by
    rw [List.filter_cons]
    cases c : f j with
    | true => exact gap_fil h js _
    | false =>
      obtain ⟨h1, h2⟩ := h j c
      have e : o + (p j - p' j).abs = o := by
        rw [h1, h2, show ((0 : Rat) - 0).abs = 0 by decide +kernel]
        grind
      show gap p p' (js.filter f) o = gap p p' js (o + (p j - p' j).abs)
      rw [e]
      exact gap_fil h js o
theorem intsD_map : ∀ ns : List Int, intsD (ns.map D.int) = some ns
  | [] => rfl
  | n :: ns => by
    show (intsD (ns.map D.int)).map _ = _
    rw [intsD_map ns]
    rfl
section
variable {k : Nat} {S : Sto} {c c' r r' a b : Rat} {p p' : Nat → Rat} {n m : Nat} {l l' : ML}
def rk2 (l l' : ML) : List Nat := (List.range 9).filter fun j => decide (j ∈ l.map (·.1)) || decide (j ∈ l'.map (·.1))
theorem sset_kv (h : Dc l) (h' : Dc l') : ssetD (.lst ((l.map fun e => D.int (e.1 : Int)) ++ l'.map fun e => D.int (e.1 : Int))) = some (.lst ((rk2 l l').map fun (j : Nat) => D.int (j : Int))) := by
  have e0 : ((l.map fun e => D.int (e.1 : Int)) ++ l'.map fun e => D.int (e.1 : Int)) = (((l.map (·.1)) ++ (l'.map (·.1))).map fun (j : Nat) => (j : Int)).map D.int := by
    simp [List.map_map]
    rfl
  have h1 := h.len
  have h2 := h'.len
  have e1 : setZ (((l.map (·.1)) ++ (l'.map (·.1))).map fun (j : Nat) => (j : Int)) = (rk2 l l').map fun (j : Nat) => (j : Int) := by
    refine asc_one (setZ_pw _) (List.Pairwise.map _ (fun a b hab => by omega) (List.Pairwise.filter _ List.pairwise_lt_range)) fun y => ?_
    rw [setZ_mem]
    simp only [rk2, List.mem_map, List.mem_filter, List.mem_range, List.mem_append, Bool.or_eq_true, decide_eq_true_eq]
    constructor
    · rintro ⟨j, hj, rfl⟩
      refine ⟨j, ⟨?_, hj⟩, rfl⟩
      rcases hj with ⟨e, he, rfl⟩ | ⟨e, he, rfl⟩
      · exact h.lt e he
      · exact h'.lt e he
    · rintro ⟨j, ⟨_, hj⟩, rfl⟩
      exact ⟨j, hj, rfl⟩
  rw [e0]
  simp only [ssetD, intsD_map, Option.bind_some, e1]
  rw [if_pos (by simp; omega), List.map_map]
  rfl
theorem loose_loop {all : List D} {x0 x1 : Option D} {i i' : Nat} (hS : S[i]? = some (.dk (kvD l))) (hS' : S[i']? = some (.dk (kvD l'))) (hl : ∀ j, Sm n (vl l j)) (hl' : ∀ j, Sm n (vl l' j)) (hn : n ≤ 1000) : ∀ (js : List Nat) (q0 : Rat) (z : Nat) (x5 : Option D), Sm z q0 → z + js.length * (n + n + 2) ≤ 4000 →
    ∃ y5, forL none all (fbd G (callK G (k + 4)) (.name 5) b_is_looser_0) (js.map fun (j : Nat) => D.int (j : Int)) [x0, x1, some (fr q0), some (.ref i), some (.ref i'), x5] S = some (.nx [x0, x1, some (fr (gap (vl l) (vl l') js q0)), some (.ref i), some (.ref i'), y5], S)
  | [], q0, z, x5, _, _ => ⟨x5, forL_nil⟩
  | j :: js, q0, z, x5, h0, hz => by
    have hz' : (js.length + 1) * (n + n + 2) = js.length * (n + n + 2) + (n + n + 2) := Nat.succ_mul _ _
    have hz2 : z + ((js.length + 1) * (n + n + 2)) ≤ 4000 := hz
    have s1 : Sm (n + n + 1) (vl l j - vl l' j) := Rat.sub_eq_add_neg _ _ ▸ (hl j).add (hl' j).neg
    obtain ⟨y5, f⟩ := loose_loop (all := all) (x0 := x0) (x1 := x1) hS hS' hl hl' hn js (q0 + (vl l j - vl l' j).abs) (z + (n + n + 1) + 1) (some (.int (j : Int))) (h0.add s1.abs) (by omega)
    refine ⟨y5, ?_⟩
    rw [List.map_cons]
    refine (forL_cons (ρ1 := [x0, x1, some (fr (q0 + (vl l j - vl l' j).abs)), some (.ref i), some (.ref i'), some (.int (j : Int))]) (S1 := S) ?_).trans f
    have e1 := dget_at (j := j) hS
    have e2 := dget_at (j := j) hS'
    rw [fr_zero] at e1 e2
    have e3 := taken_ok (k := k) (S := S) (q4 (hl j) (by omega)) (q4 (hl' j) (by omega))
    have e4 := size_ok (k := k + 3) (S := S) (p := vl l j - vl l' j)
    have e5 := added_ok (k := k + 1) (S := S) (q4 h0 (by omega)) (q4 s1.abs (by omega))
    unfold fbd
    simp only [E1, E2, E3, E4, E5, E6, E7, E8, E9, List.map_cons, List.map_nil, List.cons_append, List.nil_append, List.append_nil, List.length_cons, List.length_nil, List.replicate_zero, List.replicate_succ, Nat.sub_self, Nat.zero_add, List.getElem?_cons_zero, List.getElem?_cons_succ, List.set_cons_zero, List.set_cons_succ, if_true, if_false, Bool.false_eq_true, decide_true, decide_false, Bool.not_true, Bool.not_false, decide_eq_true_eq, eq_self, Int.cast_ofNat_Int, Int.natCast_zero, Int.natCast_one, Nat.reduceLeDiff, Nat.reduceSub, Nat.reduceAdd, Nat.reduceLT, reduceIte, reduceCtorEq, Int.reduceEq, Int.reduceLT, Int.reduceLE, Int.reduceNeg, Int.reduceAdd, Int.reduceSub, Int.reduceMul, Int.reduceNe, Int.reduceBNe, Int.reduceBEq, b_is_looser_0, dkOf_at hS, dkOf_at hS', c_NOTHING, e1, e2, e3, e4, e5]
theorem gap_sm (hp : ∀ j, Sm n (p j)) (hp' : ∀ j, Sm n (p' j)) : ∀ (js : List Nat) (q0 : Rat) (z : Nat), Sm z q0 → Sm (z + js.length * (n + n + 2)) (gap p p' js q0)
  | [], q0, z, h => by simpa [gap] using h
  | j :: js, q0, z, h => by
    have s1 : Sm (n + n + 1) (p j - p' j) := Rat.sub_eq_add_neg _ _ ▸ (hp j).add (hp' j).neg
    refine (gap_sm hp hp' js (q0 + (p j - p' j).abs) (z + (n + n + 1) + 1) (h.add s1.abs)).mono ?_
    rw [List.length_cons, Nat.succ_mul]
    omega
/-- by how much two forms differ -/
def offF (c c' : Rat) (p p' : Nat → Rat) : Rat := gap p p' (List.range 9) (c - c').abs
theorem at_old {c1 c2 : Cell} : ((S ++ [c1]) ++ [c2])[S.length]? = some c1 := by simp
theorem is_looser_ok (h9 : F9 p) (g9 : F9 p') (hc : Sm n c) (hp : ∀ j, Sm n (p j)) (hr : Sm 4000 r) (hc' : Sm n c') (hp' : ∀ j, Sm n (p' j)) (hr' : Sm n r') (hn : n ≤ 150) :
    callK G (k + 5) i_is_looser [fmD c p r, fmD c' p' r'] S = some (.bl (decide (offF c c' p p' + r' ≤ r)), S) := by
  rw [call_fn g_is_looser rfl]
  have s0 : Sm (n + n + 1) (c - c') := Rat.sub_eq_add_neg _ _ ▸ hc.add hc'.neg
  have e1 := taken_ok (k := k) (S := S) (q4 hc (by omega)) (q4 hc' (by omega))
  have e2 := size_ok (k := k + 3) (S := S) (p := c - c')
  have hl : (rk2 (ps p) (ps p')).length ≤ 9 := Nat.le_trans (List.length_filter_le _ _) (by simp)
  have hz := Nat.mul_le_mul_right (n + n + 2) hl
  obtain ⟨y5, f⟩ := loose_loop (k := k) (S := (S ++ [.dk (kvD (ps p))]) ++ [.dk (kvD (ps p'))]) (l := ps p) (l' := ps p') (all := (rk2 (ps p) (ps p')).map fun (j : Nat) => D.int (j : Int)) (x0 := some (fmD c p r)) (x1 := some (fmD c' p' r')) (n := n) at_old at_new (by rw [vl_ps h9]; exact hp) (by rw [vl_ps g9]; exact hp') (by omega) (rk2 (ps p) (ps p')) (c - c').abs (n + n + 1) none s0.abs (by omega)
  rw [vl_ps h9, vl_ps g9] at f
  have eg : gap p p' (rk2 (ps p) (ps p')) (c - c').abs = offF c c' p p' := by
    unfold rk2 offF
    refine gap_fil (fun j hj => ?_) _ _
    rw [Bool.or_eq_false_iff] at hj
    have h1 := vl_no (of_decide_eq_false hj.1)
    have h2 := vl_no (of_decide_eq_false hj.2)
    rw [vl_ps h9] at h1
    rw [vl_ps g9] at h2
    exact ⟨h1, h2⟩
  rw [eg] at f
  have s1 : Sm (n + n + 1 + 9 * (n + n + 2)) (offF c c' p p') := by
    have := gap_sm hp hp' (List.range 9) (c - c').abs (n + n + 1) s0.abs
    simpa [offF] using this
  have s2 := s1.add hr'
  have e3 := fun S => added_ok (k := k + 1) (S := S) (q4 s1 (by omega)) (q4 hr' (by omega))
  have o1 := (q4 s2 (by omega)).nm.mulOk hr.dn (by decide)
  have o2 := hr.nm.mulOk (q4 s2 (by omega)).dn (by decide)
  have l1 := list_at (S := (S ++ [.dk (kvD (ps p))]) ++ [.dk (kvD (ps p'))]) (l := ps p) at_old
  have l2 := list_at (S := (S ++ [.dk (kvD (ps p))]) ++ [.dk (kvD (ps p'))]) (l := ps p') at_new
  have hz2 : ((ps p).map fun e => D.int (e.1 : Int)).length + ((ps p').map fun e => D.int (e.1 : Int)).length ≤ sizeLine := le_size (by
    rw [List.length_map, List.length_map]
    have := ps_len (p := p)
    have := ps_len (p := p')
    omega)
  have ss := sset_kv (l := ps p) (l' := ps p') ps_dc ps_dc
  have pr : prune S (.bl (decide (offF c c' p p' + r' ≤ r))) ((S ++ [.dk (kvD (ps p))]) ++ [.dk (kvD (ps p'))]) = (.bl (decide (offF c c' p p' + r' ≤ r)), S) := by
    rw [List.append_assoc]
    exact prune_ap bl_bl
  simp only [E1, E2, E3, E4, E5, E6, E7, E8, E9, List.map_cons, List.map_nil, List.cons_append, List.nil_append, List.append_nil, List.length_cons, List.length_nil, List.replicate_zero, List.replicate_succ, Nat.sub_self, Nat.zero_add, List.getElem?_cons_zero, List.getElem?_cons_succ, List.set_cons_zero, List.set_cons_succ, if_true, if_false, Bool.false_eq_true, decide_true, decide_false, Bool.not_true, Bool.not_false, decide_eq_true_eq, eq_self, Int.cast_ofNat_Int, Int.natCast_zero, Int.natCast_one, Nat.reduceLeDiff, Nat.reduceSub, Nat.reduceAdd, Nat.reduceLT, reduceIte, reduceCtorEq, Int.reduceEq, Int.reduceLT, Int.reduceLE, Int.reduceNeg, Int.reduceAdd, Int.reduceSub, Int.reduceMul, Int.reduceNe, Int.reduceBNe, Int.reduceBEq, f_is_looser, idx_fm0, idx_fm1, idx_fm2, e1, e2, dct_t, merge_kv ps_dc, l1, l2, hz2, ss, f, e3, idx_fr0, idx_fr1, o1, o2, le_eq, pr]
end

end Rw.Pk12

set_option exponentiation.threshold 300
namespace Rw.Pk12
open PySem L2 Rw
/-! ### coarser ones -/
def crw (up : Bool) (w : Rat) : Int := if up = true then -((-w.num).fdiv (w.den : Int)) else w.num.fdiv (w.den : Int)
def crs (n : Nat) (up : Bool) (q : Rat) : Rat := if q = 0 then 0 else ((crw up (q * (2 : Rat) ^ (-(expo q - (n : Int) + 1))) : Int) : Rat) * (2 : Rat) ^ (expo q - (n : Int) + 1)
theorem fdiv_lo {a b : Int} (h : 0 < b) : a.fdiv b * b ≤ a ∧ a < (a.fdiv b + 1) * b := by
  rw [Int.fdiv_eq_ediv_of_nonneg _ (by omega)]
  exact ⟨Int.ediv_mul_le a (by omega), Int.lt_ediv_add_one_mul_self a h⟩
theorem den_posR {w : Rat} : (0 : Rat) < (w.den : Rat) := by
  have := w.den_pos
  exact_mod_cast this
theorem fl_spec {w : Rat} : ((w.num.fdiv (w.den : Int) : Int) : Rat) ≤ w ∧ w < ((w.num.fdiv (w.den : Int) : Int) : Rat) + 1 := by
  obtain ⟨h1, h2⟩ := fdiv_lo (a := w.num) (den_pos (q := w))
  have e := mul_den w
  have d := den_posR (w := w)
  have g1 : (((w.num.fdiv (w.den : Int)) * (w.den : Int) : Int) : Rat) ≤ (w.num : Rat) := by exact_mod_cast h1
  have g2 : (w.num : Rat) < (((w.num.fdiv (w.den : Int) + 1) * (w.den : Int) : Int) : Rat) := by exact_mod_cast h2
  rw [Rat.intCast_mul] at g1 g2
  rw [Rat.intCast_add] at g2
  rw [← e] at g1 g2
  have cd : (((w.den : Nat) : Int) : Rat) = ((w.den : Nat) : Rat) := rfl
  rw [cd] at g1 g2
  exact ⟨Rat.le_of_mul_le_mul_right g1 d, Rat.lt_of_mul_lt_mul_right g2 (Rat.le_of_lt d)⟩
theorem cl_spec {w : Rat} : w ≤ ((-((-w.num).fdiv (w.den : Int)) : Int) : Rat) ∧ ((-((-w.num).fdiv (w.den : Int)) : Int) : Rat) < w + 1 := by
  have := fl_spec (w := -w)
  rw [show (-w).num = -w.num from rfl, show (-w).den = w.den from rfl] at this
  rw [Rat.intCast_neg]
  generalize (((-w.num).fdiv (w.den : Int) : Int) : Rat) = x at this ⊢
  exact ⟨by grind, by grind⟩
theorem two_inv (e : Int) : (2 : Rat) ^ (-e) * (2 : Rat) ^ e = 1 := by
  rw [← two_add, show -e + e = 0 by omega]
  rfl
theorem crs_up {n : Nat} {q : Rat} : q ≤ crs n true q := by
  unfold crs
  split
  · rename_i h; rw [h]; grind
  · have h1 := (cl_spec (w := q * (2 : Rat) ^ (-(expo q - (n : Int) + 1)))).1
    have h2 := Rat.mul_le_mul_of_nonneg_right h1 (Rat.le_of_lt (two_pos (expo q - (n : Int) + 1)))
    rw [Rat.mul_assoc, two_inv, Rat.mul_one] at h2
    exact h2
theorem abs_le {a b : Rat} : a.abs ≤ b ↔ a ≤ b ∧ -b ≤ a := by
  unfold Rat.abs
  split <;> grind
theorem crs_abs {n : Nat} {up : Bool} {q : Rat} (hn : 1 ≤ n) : (crs n up q).abs ≤ 2 * q.abs := by
  unfold crs
  split
  · rename_i h; rw [h]; decide +kernel
  · rename_i h
    have hp := two_pos (expo q - (n : Int) + 1)
    have h0 := (expo_spec h).1
    have big : (2 : Rat) ^ (expo q - (n : Int) + 1) ≤ q.abs := by
      have e1 : (2 : Rat) ^ expo q = (2 : Rat) ^ (expo q - (n : Int) + 1) * (2 : Rat) ^ ((n : Int) - 1) := by
        rw [← two_add]
        congr 1
        omega
      have e2 : (1 : Rat) ≤ (2 : Rat) ^ ((n : Int) - 1) := by
        obtain ⟨j, hj⟩ : ∃ j : Nat, (n : Int) - 1 = (j : Int) := ⟨n - 1, by omega⟩
        rw [hj, ← two_cast]
        exact_mod_cast Nat.one_le_two_pow
      have := Rat.mul_le_mul_of_nonneg_left e2 (Rat.le_of_lt hp)
      rw [← e1, Rat.mul_one] at this
      exact Rat.le_trans this h0
    have e3 : q = q * (2 : Rat) ^ (-(expo q - (n : Int) + 1)) * (2 : Rat) ^ (expo q - (n : Int) + 1) := by rw [Rat.mul_assoc, two_inv, Rat.mul_one]
    have key : ∀ x : Rat, q * (2 : Rat) ^ (-(expo q - (n : Int) + 1)) - 1 ≤ x → x ≤ q * (2 : Rat) ^ (-(expo q - (n : Int) + 1)) + 1 → (x * (2 : Rat) ^ (expo q - (n : Int) + 1)).abs ≤ 2 * q.abs := fun x h1 h2 => by
      have g1 := Rat.mul_le_mul_of_nonneg_right h1 (Rat.le_of_lt hp)
      have g2 := Rat.mul_le_mul_of_nonneg_right h2 (Rat.le_of_lt hp)
      rw [Rat.add_mul, ← e3, Rat.one_mul] at g2
      rw [Rat.sub_eq_add_neg, Rat.add_mul, ← e3, Rat.neg_mul, Rat.one_mul] at g1
      generalize x * (2 : Rat) ^ (expo q - (n : Int) + 1) = y at g1 g2 ⊢
      generalize (2 : Rat) ^ (expo q - (n : Int) + 1) = t at big g1 g2 hp
      rw [abs_le]
      unfold Rat.abs at big ⊢
      split at big <;> grind
    unfold crw
    cases up with
    | true =>
      have := cl_spec (w := q * (2 : Rat) ^ (-(expo q - (n : Int) + 1)))
      rw [if_pos rfl]
      exact key _ (by grind) (by grind)
    | false =>
      have := fl_spec (w := q * (2 : Rat) ^ (-(expo q - (n : Int) + 1)))
      rw [if_neg Bool.false_ne_true]
      exact key _ (by grind) (by grind)
theorem crs_zero {n : Nat} {up : Bool} : crs n up 0 = 0 := if_pos rfl
theorem fdiv_bd {n : Nat} {a b : Int} (h : Bd n a) (g : 0 < b) : Bd (n + 1) (a.fdiv b) := by
  obtain ⟨h1, h2⟩ := fdiv_lo (a := a) g
  have e2 : 2 ^ (n + 1) = 2 * 2 ^ n := by rw [Nat.pow_succ]; omega
  unfold Bd at h ⊢
  have b1 : a.fdiv b ≤ a.natAbs := by
    refine Decidable.byContradiction fun q => ?_
    have q' : (a.natAbs : Int) + 1 ≤ a.fdiv b := by omega
    have := Int.mul_le_mul_of_nonneg_left (show (1 : Int) ≤ b by omega) (show 0 ≤ a.fdiv b by omega)
    omega
  have b2 : -(a.natAbs : Int) - 1 ≤ a.fdiv b := by
    refine Decidable.byContradiction fun q => ?_
    have q' : a.fdiv b + 1 ≤ -(a.natAbs : Int) - 1 := by omega
    have := Int.mul_le_mul_of_nonneg_left (show (1 : Int) ≤ b by omega) (show 0 ≤ -(a.fdiv b + 1) by omega)
    rw [Int.neg_mul (a.fdiv b + 1) b] at this
    omega
  omega
section
variable {k : Nat} {S : Sto} {c c' r r' a b q : Rat} {p p' : Nat → Rat} {n m : Nat} {l l' : ML}
theorem crw_bd {w : Rat} {up : Bool} (h : Sm n w) : Bd (n + 1) (crw up w) := by
  unfold crw
  split
  · exact (fdiv_bd h.nm.neg den_pos).neg
  · exact fdiv_bd h.nm den_pos
theorem sm_int {z : Int} (h : Bd n z) (hn : 1 ≤ n) : Sm n (z : Rat) := ⟨h, by
  show (1 : Nat) < 2 ^ n
  exact Nat.one_lt_two_pow (by omega)⟩
theorem fr_int {z : Int} : fr (z : Rat) = .tup [.int z, .int 1] := rfl
theorem expo_bd {d : Nat} (h : Sm n q) (hd : d ≤ 10) : (expo q - (d : Int) + 1).natAbs ≤ n + 12 := by
  have := expo_le h
  omega
theorem crs_sm {up : Bool} {d : Nat} (h : Sm n q) (hd : d ≤ 10) : Sm (3 * n + 40) (crs d up q) := by
  unfold crs
  split
  · exact (sm_zero (n := 3 * n + 39))
  · have e1 := expo_bd (d := d) h hd
    have s1 : Sm (n + (n + 13)) (q * (2 : Rat) ^ (-(expo q - (d : Int) + 1))) := h.mul (sm_two (m := n + 12) (by omega))
    have s2 : Sm (n + (n + 13) + 1) ((crw up (q * (2 : Rat) ^ (-(expo q - (d : Int) + 1))) : Int) : Rat) := sm_int (crw_bd s1) (by omega)
    exact (s2.mul (sm_two (m := n + 12) e1)).mono (by omega)
theorem coarse_ok {up : Bool} {d : Nat} (h : Sm n q) (hn : n ≤ 1200) (hd : d ≤ 10) : callK G (k + 5) i_coarse [fr q, .int (d : Int), .bl up] S = some (fr (crs d up q), S) := by
  rw [call_fn g_coarse rfl]
  by_cases z : q = 0
  · subst z
    rw [crs_zero]
    have e0 : idxD S (fr 0) (.int 0) = some (.int 0) := at_0
    simp only [E1, E2, E3, E4, E5, E6, E7, E8, E9, List.map_cons, List.map_nil, List.cons_append, List.nil_append, List.append_nil, List.length_cons, List.length_nil, List.replicate_zero, List.replicate_succ, Nat.sub_self, Nat.zero_add, List.getElem?_cons_zero, List.getElem?_cons_succ, List.set_cons_zero, List.set_cons_succ, if_true, if_false, Bool.false_eq_true, decide_true, decide_false, Bool.not_true, Bool.not_false, decide_eq_true_eq, eq_self, Int.cast_ofNat_Int, Int.natCast_zero, Int.natCast_one, Nat.reduceLeDiff, Nat.reduceSub, Nat.reduceAdd, Nat.reduceLT, reduceIte, reduceCtorEq, Int.reduceEq, Int.reduceLT, Int.reduceLE, Int.reduceNeg, Int.reduceAdd, Int.reduceSub, Int.reduceMul, Int.reduceNe, Int.reduceBNe, Int.reduceBEq, f_coarse, e0]
  · have zn : ¬ q.num = 0 := fun e => z (Rat.num_eq_zero.mp e)
    have e1 := expo_bd (d := d) h hd
    have s1 : Sm (n + (n + 13)) (q * (2 : Rat) ^ (-(expo q - (d : Int) + 1))) := h.mul (sm_two (m := n + 12) (by omega))
    have e2 := exponent_ok (k := k + 2) (S := S) (q4 (n := n) h (by omega) |> fun _ => h.mono (show n ≤ 3000 by omega))
    have e3 := shifted_ok (k := k) (S := S) (b := -(expo q - (d : Int) + 1)) (q4 h (by omega)) (by omega)
    have s2 : Sm (n + (n + 13) + 1) ((crw up (q * (2 : Rat) ^ (-(expo q - (d : Int) + 1))) : Int) : Rat) := sm_int (crw_bd s1) (by omega)
    have e4 := shifted_ok (k := k) (S := S) (b := expo q - (d : Int) + 1) (q4 s2 (by omega)) (by omega)
    rw [fr_int] at e4
    have o1 := (s1.dn).divOk den_ne (by omega)
    have ec : crs d up q = ((crw up (q * (2 : Rat) ^ (-(expo q - (d : Int) + 1))) : Int) : Rat) * (2 : Rat) ^ (expo q - (d : Int) + 1) := if_neg z
    rw [ec]
    cases up with
    | true =>
      have ew : crw true (q * (2 : Rat) ^ (-(expo q - (d : Int) + 1))) = -((-(q * (2 : Rat) ^ (-(expo q - (d : Int) + 1))).num).fdiv ((q * (2 : Rat) ^ (-(expo q - (d : Int) + 1))).den : Int)) := rfl
      rw [ew] at e4 ⊢
      simp only [E1, E2, E3, E4, E5, E6, E7, E8, E9, List.map_cons, List.map_nil, List.cons_append, List.nil_append, List.append_nil, List.length_cons, List.length_nil, List.replicate_zero, List.replicate_succ, Nat.sub_self, Nat.zero_add, List.getElem?_cons_zero, List.getElem?_cons_succ, List.set_cons_zero, List.set_cons_succ, if_true, if_false, Bool.false_eq_true, decide_true, decide_false, Bool.not_true, Bool.not_false, decide_eq_true_eq, eq_self, Int.cast_ofNat_Int, Int.natCast_zero, Int.natCast_one, Nat.reduceLeDiff, Nat.reduceSub, Nat.reduceAdd, Nat.reduceLT, reduceIte, reduceCtorEq, Int.reduceEq, Int.reduceLT, Int.reduceLE, Int.reduceNeg, Int.reduceAdd, Int.reduceSub, Int.reduceMul, Int.reduceNe, Int.reduceBNe, Int.reduceBEq, f_coarse, idx_fr0, idx_fr1, zn, e2, e3, o1, e4]
    | false =>
      have ew : crw false (q * (2 : Rat) ^ (-(expo q - (d : Int) + 1))) = (q * (2 : Rat) ^ (-(expo q - (d : Int) + 1))).num.fdiv ((q * (2 : Rat) ^ (-(expo q - (d : Int) + 1))).den : Int) := rfl
      rw [ew] at e4 ⊢
      simp only [E1, E2, E3, E4, E5, E6, E7, E8, E9, List.map_cons, List.map_nil, List.cons_append, List.nil_append, List.append_nil, List.length_cons, List.length_nil, List.replicate_zero, List.replicate_succ, Nat.sub_self, Nat.zero_add, List.getElem?_cons_zero, List.getElem?_cons_succ, List.set_cons_zero, List.set_cons_succ, if_true, if_false, Bool.false_eq_true, decide_true, decide_false, Bool.not_true, Bool.not_false, decide_eq_true_eq, eq_self, Int.cast_ofNat_Int, Int.natCast_zero, Int.natCast_one, Nat.reduceLeDiff, Nat.reduceSub, Nat.reduceAdd, Nat.reduceLT, reduceIte, reduceCtorEq, Int.reduceEq, Int.reduceLT, Int.reduceLE, Int.reduceNeg, Int.reduceAdd, Int.reduceSub, Int.reduceMul, Int.reduceNe, Int.reduceBNe, Int.reduceBEq, f_coarse, idx_fr0, idx_fr1, zn, e2, e3, o1, e4]
end

end Rw.Pk12

set_option exponentiation.threshold 300
namespace Rw.Pk12
open PySem L2 Rw
section
variable {k : Nat} {S : Sto} {c c' r r' a b q : Rat} {p p' : Nat → Rat} {n m : Nat} {l l' : ML}
/-- what the coarser numbers lose -/
def los (d : Nat) (es : ML) (o : Rat) : Rat := es.foldl (fun a e => a + (e.2 - crs d false e.2).abs) o
theorem put_mem : ∀ {l : ML} {j : Nat} {q : Rat}, j ∈ (put l j q).map (·.1) := by
  intro l j q
  unfold put
  split
  · rename_i h
    rw [List.map_map]
    obtain ⟨e, he, ee⟩ := List.mem_map.mp (any_key.mp h)
    refine List.mem_map.mpr ⟨e, he, ?_⟩
    simp only [Function.comp]
    split <;> exact ee
  · simp
theorem crs_loop {all : List D} {x0 x2 : Option D} (hn : n ≤ 200) : ∀ (es l : ML) (q0 : Rat) (z : Nat) (x5 x6 : Option D), (es.map (·.1)).Nodup → (∀ e ∈ es, e.1 < 9) → (∀ e ∈ es, Sm n e.2) → Dc l → Sm z q0 → z + es.length * (4 * n + 42) ≤ 4000 →
    ∃ (l' : ML) (y5 y6 : Option D), Dc l' ∧ (∀ j, vl l' j = if j ∈ es.map (·.1) then crs 4 false (vl es j) else vl l j) ∧ forL none all (fbd G (callK G (k + 5)) (.tup (.cons (.name 5) (.cons (.name 6) .nil))) b_coarse_straight_0) (es.map mkD) [x0, some (.int 4), x2, some (.ref S.length), some (fr q0), x5, x6] (S ++ [.dk (kvD l)]) = some (.nx [x0, some (.int 4), x2, some (.ref S.length), some (fr (los 4 es q0)), y5, y6], S ++ [.dk (kvD l')])
  | [], l, q0, z, x5, x6, _, _, _, h, _, _ => ⟨l, x5, x6, h, fun j => by simp, forL_nil⟩
  | e :: es, l, q0, z, x5, x6, nd, lt, sm, h, h0, hz => by
    rw [List.map_cons, List.nodup_cons] at nd
    have he := lt e List.mem_cons_self
    have hz' : (es.length + 1) * (4 * n + 42) = es.length * (4 * n + 42) + (4 * n + 42) := Nat.succ_mul _ _
    have hz2 : z + ((es.length + 1) * (4 * n + 42)) ≤ 4000 := hz
    have h1 := h.put (q := crs 4 false e.2) he
    have s1 := sm e List.mem_cons_self
    have s2 : Sm (3 * n + 40) (crs 4 false e.2) := crs_sm s1 (by decide)
    have s3 : Sm (n + (3 * n + 40) + 1) (e.2 - crs 4 false e.2) := Rat.sub_eq_add_neg _ _ ▸ s1.add s2.neg
    obtain ⟨l', y5, y6, d, v, f⟩ := crs_loop (all := all) (x0 := x0) (x2 := x2) hn es (put l e.1 (crs 4 false e.2)) (q0 + (e.2 - crs 4 false e.2).abs) (z + (n + (3 * n + 40) + 1) + 1) (some (.int (e.1 : Int))) (some (fr e.2)) nd.2 (fun x hx => lt x (List.mem_cons_of_mem _ hx)) (fun x hx => sm x (List.mem_cons_of_mem _ hx)) h1 (h0.add s3.abs) (by omega)
    refine ⟨l', y5, y6, d, fun j => ?_, ?_⟩
    · have hm : j ∈ (e :: es).map (·.1) ↔ j = e.1 ∨ j ∈ es.map (·.1) := by rw [List.map_cons, List.mem_cons]
      rw [v, vl_put, vl_cons]
      by_cases q1 : j ∈ es.map (·.1)
      · have : ¬ e.1 = j := fun z => nd.1 (z ▸ q1)
        rw [if_pos q1, if_pos (hm.mpr (.inr q1)), if_neg this]
      · rw [if_neg q1]
        by_cases q2 : j = e.1
        · rw [if_pos q2, if_pos (hm.mpr (.inl q2)), if_pos q2.symm]
        · rw [if_neg q2, if_neg (fun z => (hm.mp z).elim q2 q1)]
    · rw [List.map_cons]
      refine (forL_cons (ρ1 := [x0, some (.int 4), x2, some (.ref S.length), some (fr (q0 + (e.2 - crs 4 false e.2).abs)), some (.int (e.1 : Int)), some (fr e.2)]) (S1 := S ++ [.dk (kvD (put l e.1 (crs 4 false e.2)))]) ?_).trans f
      have e1 := coarse_ok (k := k) (S := S ++ [.dk (kvD l)]) (up := false) (d := 4) s1 (by omega) (by decide)
      rw [show (((4 : Nat) : Int)) = 4 from rfl] at e1
      have e3 := putI_new (S := S) (j := e.1) (q := crs 4 false e.2) h
      have e4 := idx_kv (S := S ++ [.dk (kvD (put l e.1 (crs 4 false e.2)))]) (i := S.length) at_new put_mem
      rw [vl_put, if_pos rfl] at e4
      have e5 := taken_ok (k := k + 1) (S := S ++ [.dk (kvD (put l e.1 (crs 4 false e.2)))]) (q4 s1 (by omega)) (q4 s2 (by omega))
      have e6 := size_ok (k := k + 4) (S := S ++ [.dk (kvD (put l e.1 (crs 4 false e.2)))]) (p := e.2 - crs 4 false e.2)
      have e7 := added_ok (k := k + 2) (S := S ++ [.dk (kvD (put l e.1 (crs 4 false e.2)))]) (q4 h0 (by omega)) (q4 s3.abs (by omega))
      unfold fbd
      simp only [E1, E2, E3, E4, E5, E6, E7, E8, E9, List.map_cons, List.map_nil, List.cons_append, List.nil_append, List.append_nil, List.length_cons, List.length_nil, List.replicate_zero, List.replicate_succ, Nat.sub_self, Nat.zero_add, List.getElem?_cons_zero, List.getElem?_cons_succ, List.set_cons_zero, List.set_cons_succ, if_true, if_false, Bool.false_eq_true, decide_true, decide_false, Bool.not_true, Bool.not_false, decide_eq_true_eq, eq_self, Int.cast_ofNat_Int, Int.natCast_zero, Int.natCast_one, Nat.reduceLeDiff, Nat.reduceSub, Nat.reduceAdd, Nat.reduceLT, reduceIte, reduceCtorEq, Int.reduceEq, Int.reduceLT, Int.reduceLE, Int.reduceNeg, Int.reduceAdd, Int.reduceSub, Int.reduceMul, Int.reduceNe, Int.reduceBNe, Int.reduceBEq, b_coarse_straight_0, mkD, e1, e3, e4, e5, e6, e7]
theorem los_sm (hn : n ≤ 200) : ∀ (es : ML) (q0 : Rat) (z : Nat), Sm z q0 → (∀ e ∈ es, Sm n e.2) → Sm (z + es.length * (4 * n + 42)) (los 4 es q0)
  | [], q0, z, h, _ => by simpa [los] using h
  | e :: es, q0, z, h, sm => by
    have s1 := sm e List.mem_cons_self
    have s2 : Sm (3 * n + 40) (crs 4 false e.2) := crs_sm s1 (by decide)
    have s3 : Sm (n + (3 * n + 40) + 1) (e.2 - crs 4 false e.2) := Rat.sub_eq_add_neg _ _ ▸ s1.add s2.neg
    refine (los_sm hn es (q0 + (e.2 - crs 4 false e.2).abs) (z + (n + (3 * n + 40) + 1) + 1) (h.add s3.abs) fun x hx => sm x (List.mem_cons_of_mem _ hx)).mono ?_
    rw [List.length_cons, Nat.succ_mul es.length (4 * n + 42)]
    omega
def csr (c : Rat) (p : Nat → Rat) (r : Rat) : Rat := los 4 (ps p) (r + (c - crs 4 false c).abs)
theorem csr_sm (hc : Sm n c) (hp : ∀ j, Sm n (p j)) (hr : Sm n r) (hn : n ≤ 15) : Sm (n + (4 * n + 41) + 1 + 9 * (4 * n + 42)) (csr c p r) := by
  have s3 : Sm (n + (3 * n + 40) + 1) (c - crs 4 false c) := Rat.sub_eq_add_neg _ _ ▸ hc.add (crs_sm hc (by decide)).neg
  refine (los_sm (n := n) (by omega) (ps p) _ _ (hr.add s3.abs) (ps_sm hp)).mono ?_
  have := Nat.mul_le_mul_right (4 * n + 42) (ps_len (p := p))
  omega
theorem coarse_straight_ok (h9 : F9 p) (hc : Sm n c) (hp : ∀ j, Sm n (p j)) (hr : Sm n r) (hn : n ≤ 15) :
    callK G (k + 7) i_coarse_straight [fmD c p r, .int 4] S = some (fmD (crs 4 false c) (fun j => crs 4 false (p j)) (crs 4 true (csr c p r)), S) := by
  rw [call_fn g_coarse_straight rfl]
  have s2 : Sm (3 * n + 40) (crs 4 false c) := crs_sm hc (by decide)
  have s3 : Sm (n + (3 * n + 40) + 1) (c - crs 4 false c) := Rat.sub_eq_add_neg _ _ ▸ hc.add s2.neg
  have hz := Nat.mul_le_mul_right (4 * n + 42) (ps_len (p := p))
  obtain ⟨l', y5, y6, d, v, f⟩ := crs_loop (k := k + 1) (S := S) (all := (ps p).map mkD) (x0 := some (fmD c p r)) (x2 := some (fr (crs 4 false c))) (n := n) (by omega) (ps p) [] (r + (c - crs 4 false c).abs) (n + (n + (3 * n + 40) + 1) + 1) none none ps_asc (fun e he => ps_dc.lt e he) (ps_sm hp) Dc.nil (hr.add s3.abs) (by omega)
  have ev' : vl l' = fun j => crs 4 false (p j) := by
    funext j
    rw [v, vl_ps h9]
    split
    · rfl
    · rename_i z
      have := vl_no z
      rw [vl_ps h9] at this
      rw [this, crs_zero]
      rfl
  have e1 := fun S => coarse_ok (k := k + 1) (S := S) (up := false) (d := 4) hc (by omega) (by decide)
  have e2 := fun S => taken_ok (k := k + 2) (S := S) (q4 hc (by omega)) (q4 s2 (by omega))
  have e3 := fun S => size_ok (k := k + 5) (S := S) (p := c - crs 4 false c)
  have e4 := fun S => added_ok (k := k + 3) (S := S) (q4 hr (by omega)) (q4 s3.abs (by omega))
  have e5 := coarse_ok (k := k + 1) (S := S ++ [.dk (kvD l')]) (up := true) (d := 4) (csr_sm hc hp hr hn) (by omega) (by decide)
  rw [show (((4 : Nat) : Int)) = 4 from rfl] at e1 e5
  have e6 := straight_ok (k := k + 5) (S := S ++ [.dk (kvD l')]) (c := crs 4 false c) (r := crs 4 true (csr c p r)) d at_new
  rw [ev'] at e6
  have f' : forL none ((ps p).map mkD) (fbd G (callK G (k + 6)) (.tup (.cons (.name 5) (.cons (.name 6) .nil))) b_coarse_straight_0) ((ps p).map mkD) [some (fmD c p r), some (.int 4), some (fr (crs 4 false c)), some (.ref S.length), some (fr (r + (c - crs 4 false c).abs)), none, none] (S ++ [.dk []]) = some (.nx [some (fmD c p r), some (.int 4), some (fr (crs 4 false c)), some (.ref S.length), some (fr (csr c p r)), y5, y6], S ++ [.dk (kvD l')]) := f
  have m0 : mergeKD [] [] = [] := rfl
  have k0 : keysD [] = some [] := rfl
  simp only [E1, E2, E3, E4, E5, E6, E7, E8, E9, List.map_cons, List.map_nil, List.cons_append, List.nil_append, List.append_nil, List.length_cons, List.length_nil, List.replicate_zero, List.replicate_succ, Nat.sub_self, Nat.zero_add, List.getElem?_cons_zero, List.getElem?_cons_succ, List.set_cons_zero, List.set_cons_succ, if_true, if_false, Bool.false_eq_true, decide_true, decide_false, Bool.not_true, Bool.not_false, decide_eq_true_eq, eq_self, Int.cast_ofNat_Int, Int.natCast_zero, Int.natCast_one, Nat.reduceLeDiff, Nat.reduceSub, Nat.reduceAdd, Nat.reduceLT, reduceIte, reduceCtorEq, Int.reduceEq, Int.reduceLT, Int.reduceLE, Int.reduceNeg, Int.reduceAdd, Int.reduceSub, Int.reduceMul, Int.reduceNe, Int.reduceBNe, Int.reduceBEq, f_coarse_straight, idx_fm0, idx_fm1, idx_fm2, e1, e2, e3, e4, k0, m0, f', e5, e6, prune_one bl_fm]
/-! ### whether a value is a straight form -/
theorem is_fraction_fr : callK G (k + 3) i_is_fraction [fr q] S = some (.bl true, S) := by
  have := is_fraction_ii (k := k) (S := S) (a := q.num) (b := (q.den : Int))
  have h1 : (1 : Int) ≤ (q.den : Int) := by have := den_pos (q := q); omega
  have h2 : ((Int.gcd q.num (q.den : Int) : Nat) : Int) = 1 := by
    have := q.reduced
    unfold Nat.Coprime at this
    rw [Int.gcd, Int.natAbs_natCast, this]
    rfl
  rw [decide_eq_true h1, h2] at this
  exact this
theorem asc_range {ks : List Int} (h : ks.Pairwise (· < ·)) {i : Nat} (hi : i + 1 < ks.length) : ks[i] < ks[i + 1] := List.pairwise_iff_getElem.mp h i (i + 1) (by omega) hi (by omega)
theorem bls_true {α : Type} : ∀ xs : List α, blsD (xs.map fun _ => D.bl true) = some (xs.map fun _ => true)
  | [] => rfl
  | x :: xs => by
    show (blsD (xs.map fun _ => D.bl true)).map _ = _
    rw [bls_true xs]
    rfl
theorem bls_false {α : Type} : ∀ xs : List α, blsD (xs.map fun _ => D.bl false) = some (xs.map fun _ => false)
  | [] => rfl
  | x :: xs => by
    show (blsD (xs.map fun _ => D.bl false)).map _ = _
    rw [bls_false xs]
    rfl
theorem all_true {α : Type} : ∀ xs : List α, (xs.map fun _ => true).all id = true
  | [] => rfl
  | x :: xs => by rw [List.map_cons, List.all_cons, all_true xs]; rfl
theorem any_false {α : Type} : ∀ xs : List α, (xs.map fun _ => false).any id = false
  | [] => rfl
  | x :: xs => by rw [List.map_cons, List.any_cons, any_false xs]; rfl
theorem ascending_ok {ks : List Int} (h : ks.Pairwise (· < ·)) (hl : ks.length ≤ 1000) : callK G (k + 1) i_is_ascending [.lst (ks.map D.int)] S = some (.bl true, S) := by
  rw [call_fn g_is_ascending rfl]
  have c1 : ∀ all, compL none all (ctn G (callK G k) e_is_ascending_0 (.name 1) .none [some (.lst (ks.map D.int)), none]) ((List.range (ks.length - 1)).map fun (i : Nat) => D.int (i : Int)) S [] = some ((List.range (ks.length - 1)).map fun _ => D.bl true, S) := fun all => by
    have := compL_mapT (all := all) (turn := ctn G (callK G k) e_is_ascending_0 (.name 1) .none [some (.lst (ks.map D.int)), none]) (S := S) (g := fun (i : Nat) => D.int (i : Int)) (f := fun _ => D.bl true) (xs := List.range (ks.length - 1)) (acc := []) fun i hi => by
      have hi' := List.mem_range.mp hi
      have a1 : atI (ks.map D.int) (i : Int) = some (.int (ks[i]'(by omega))) := by
        unfold atI ixN
        rw [if_pos (by omega), if_pos (by rw [List.length_map]; omega)]
        simp
      have a2 : atI (ks.map D.int) ((i : Int) + 1) = some (.int (ks[i + 1]'(by omega))) := by
        unfold atI ixN
        rw [if_pos (by omega), if_pos (by rw [List.length_map]; omega), show ((i : Int) + 1).toNat = i + 1 by omega]
        simp
      have a3 := asc_range h (i := i) (by omega)
      unfold ctn
      simp only [E1, E2, E3, E4, E5, E6, E7, E8, E9, List.map_cons, List.map_nil, List.cons_append, List.nil_append, List.append_nil, List.length_cons, List.length_nil, List.replicate_zero, List.replicate_succ, Nat.sub_self, Nat.zero_add, List.getElem?_cons_zero, List.getElem?_cons_succ, List.set_cons_zero, List.set_cons_succ, if_true, if_false, Bool.false_eq_true, decide_true, decide_false, Bool.not_true, Bool.not_false, decide_eq_true_eq, eq_self, Int.cast_ofNat_Int, Int.natCast_zero, Int.natCast_one, Nat.reduceLeDiff, Nat.reduceSub, Nat.reduceAdd, Nat.reduceLT, reduceIte, reduceCtorEq, Int.reduceEq, Int.reduceLT, Int.reduceLE, Int.reduceNeg, Int.reduceAdd, Int.reduceSub, Int.reduceMul, Int.reduceNe, Int.reduceBNe, Int.reduceBEq, e_is_ascending_0, a1, a2, a3]
    rw [List.nil_append] at this
    exact this
  have rr : rngD [.int ((ks.length : Int) - 1)] = some ((List.range (ks.length - 1)).map fun (i : Nat) => D.int (i : Int)) := by
    simp only [rngD]
    rw [if_pos (by omega), show ((ks.length : Int) - 1).toNat = ks.length - 1 by omega]
    simp
  have hz : ks.length - 1 ≤ sizeLine := le_size (by omega)
  simp only [E1, E2, E3, E4, E5, E6, E7, E8, E9, List.map_cons, List.map_nil, List.cons_append, List.nil_append, List.append_nil, List.length_cons, List.length_nil, List.replicate_zero, List.replicate_succ, Nat.sub_self, Nat.zero_add, List.getElem?_cons_zero, List.getElem?_cons_succ, List.set_cons_zero, List.set_cons_succ, if_true, if_false, Bool.false_eq_true, decide_true, decide_false, Bool.not_true, Bool.not_false, decide_eq_true_eq, eq_self, Int.cast_ofNat_Int, Int.natCast_zero, Int.natCast_one, Nat.reduceLeDiff, Nat.reduceSub, Nat.reduceAdd, Nat.reduceLT, reduceIte, reduceCtorEq, Int.reduceEq, Int.reduceLT, Int.reduceLE, Int.reduceNeg, Int.reduceAdd, Int.reduceSub, Int.reduceMul, Int.reduceNe, Int.reduceBNe, Int.reduceBEq, f_is_ascending, List.length_map, rr, List.length_range, hz, wipe_nil, wipe_cons, c1, all_l, bls_true, Option.map_some, all_true]
theorem straight_is (hr : 0 ≤ r) : callK G (k + 4) i_is_straight [fmD c p r] S = some (.bl true, S) := by
  rw [call_fn g_is_straight rfl]
  have x0 : [some (fmD c p r), none, none, none] = [some (fmD c p r), none, none, (none : Option D)] := rfl
  have c1 : ∀ all, compL none all (ctn G (callK G (k + 3)) e_is_straight_0 (.name 1) .none [some (fmD c p r), none, none, none]) ((ps p).map mkD) S [] = some ((ps p).map fun _ => D.bl true, S) := fun all => by
    have := compL_mapT (all := all) (turn := ctn G (callK G (k + 3)) e_is_straight_0 (.name 1) .none [some (fmD c p r), none, none, none]) (S := S) (g := mkD) (f := fun _ => D.bl true) (xs := ps p) (acc := []) fun e he => by
      have e1 := is_tuple_of_tup (k := k + 2) (S := S) (a := [.int (e.1 : Int), fr e.2]) (m := 2)
      have e2 := is_from_int (k := k + 1) (S := S) (a := (e.1 : Int)) (b := 0)
      have e3 := is_fraction_fr (k := k) (S := S) (q := e.2)
      rw [decide_eq_true (show (0 : Int) ≤ (e.1 : Int) by omega)] at e2
      unfold ctn
      simp only [E1, E2, E3, E4, E5, E6, E7, E8, E9, List.map_cons, List.map_nil, List.cons_append, List.nil_append, List.append_nil, List.length_cons, List.length_nil, List.replicate_zero, List.replicate_succ, Nat.sub_self, Nat.zero_add, List.getElem?_cons_zero, List.getElem?_cons_succ, List.set_cons_zero, List.set_cons_succ, if_true, if_false, Bool.false_eq_true, decide_true, decide_false, Bool.not_true, Bool.not_false, decide_eq_true_eq, eq_self, Int.cast_ofNat_Int, Int.natCast_zero, Int.natCast_one, Nat.reduceLeDiff, Nat.reduceSub, Nat.reduceAdd, Nat.reduceLT, reduceIte, reduceCtorEq, Int.reduceEq, Int.reduceLT, Int.reduceLE, Int.reduceNeg, Int.reduceAdd, Int.reduceSub, Int.reduceMul, Int.reduceNe, Int.reduceBNe, Int.reduceBEq, e_is_straight_0, mkD, e1, e2, e3]
    rw [List.nil_append] at this
    exact this
  have c2 : ∀ all, compL none all (ctn G (callK G (k + 3)) e_is_straight_2 (.tup (.cons (.name 2) (.cons (.name 3) .nil))) .none [some (fmD c p r), none, none, none]) ((ps p).map mkD) S [] = some (((ps p).map fun e => (e.1 : Int)).map D.int, S) := fun all => by
    have := compL_mapT (all := all) (turn := ctn G (callK G (k + 3)) e_is_straight_2 (.tup (.cons (.name 2) (.cons (.name 3) .nil))) .none [some (fmD c p r), none, none, none]) (S := S) (g := mkD) (f := fun e => D.int (e.1 : Int)) (xs := ps p) (acc := []) fun e he => by
      unfold ctn
      simp only [E1, E2, E3, E4, E5, E6, E7, E8, E9, List.map_cons, List.map_nil, List.cons_append, List.nil_append, List.append_nil, List.length_cons, List.length_nil, List.replicate_zero, List.replicate_succ, Nat.sub_self, Nat.zero_add, List.getElem?_cons_zero, List.getElem?_cons_succ, List.set_cons_zero, List.set_cons_succ, if_true, if_false, Bool.false_eq_true, decide_true, decide_false, Bool.not_true, Bool.not_false, decide_eq_true_eq, eq_self, Int.cast_ofNat_Int, Int.natCast_zero, Int.natCast_one, Nat.reduceLeDiff, Nat.reduceSub, Nat.reduceAdd, Nat.reduceLT, reduceIte, reduceCtorEq, Int.reduceEq, Int.reduceLT, Int.reduceLE, Int.reduceNeg, Int.reduceAdd, Int.reduceSub, Int.reduceMul, Int.reduceNe, Int.reduceBNe, Int.reduceBEq, e_is_straight_2, mkD]
    rw [List.nil_append] at this
    rw [this, List.map_map]
    rfl
  have c3 : ∀ all, compL none all (ctn G (callK G (k + 3)) e_is_straight_1 (.tup (.cons (.name 3) (.cons (.name 1) .nil))) .none [some (fmD c p r), none, none, none]) ((ps p).map mkD) S [] = some ((ps p).map fun _ => D.bl false, S) := fun all => by
    have := compL_mapT (all := all) (turn := ctn G (callK G (k + 3)) e_is_straight_1 (.tup (.cons (.name 3) (.cons (.name 1) .nil))) .none [some (fmD c p r), none, none, none]) (S := S) (g := mkD) (f := fun _ => D.bl false) (xs := ps p) (acc := []) fun e he => by
      have h1 := (mem_ps.mp he).2
      have e2 := eq_fr (S := S) (p := e.2) (q := 0)
      rw [decide_eq_false (by rw [h1.2]; exact h1.1), fr_zero] at e2
      unfold ctn
      simp only [E1, E2, E3, E4, E5, E6, E7, E8, E9, List.map_cons, List.map_nil, List.cons_append, List.nil_append, List.append_nil, List.length_cons, List.length_nil, List.replicate_zero, List.replicate_succ, Nat.sub_self, Nat.zero_add, List.getElem?_cons_zero, List.getElem?_cons_succ, List.set_cons_zero, List.set_cons_succ, if_true, if_false, Bool.false_eq_true, decide_true, decide_false, Bool.not_true, Bool.not_false, decide_eq_true_eq, eq_self, Int.cast_ofNat_Int, Int.natCast_zero, Int.natCast_one, Nat.reduceLeDiff, Nat.reduceSub, Nat.reduceAdd, Nat.reduceLT, reduceIte, reduceCtorEq, Int.reduceEq, Int.reduceLT, Int.reduceLE, Int.reduceNeg, Int.reduceAdd, Int.reduceSub, Int.reduceMul, Int.reduceNe, Int.reduceBNe, Int.reduceBEq, e_is_straight_1, mkD, c_NOTHING, e2]
    rw [List.nil_append] at this
    exact this
  have pw : ((ps p).map fun e => (e.1 : Int)).Pairwise (· < ·) := by
    have e : ((ps p).map fun e => (e.1 : Int)) = ((ps p).map (·.1)).map fun (j : Nat) => (j : Int) := by rw [List.map_map]; rfl
    rw [e, ps_keys]
    exact List.Pairwise.map _ (fun a b hab => by omega) (List.Pairwise.filter _ List.pairwise_lt_range)
  have e1 := is_tuple_of_tup (k := k + 2) (S := S) (a := [fr c, .tup ((ps p).map mkD), fr r]) (m := 3)
  have e2 := is_fraction_fr (k := k) (S := S) (q := c)
  have e3 := is_fraction_fr (k := k) (S := S) (q := r)
  have e4 := ascending_ok (k := k + 2) (S := S) pw (by rw [List.length_map]; have := ps_len (p := p); omega)
  have hz := ps_le (p := p)
  have hn : (0 : Int) ≤ r.num := Rat.num_nonneg.mpr hr
  unfold fmD at *
  simp only [E1, E2, E3, E4, E5, E6, E7, E8, E9, List.map_cons, List.map_nil, List.cons_append, List.nil_append, List.append_nil, List.length_cons, List.length_nil, List.replicate_zero, List.replicate_succ, Nat.sub_self, Nat.zero_add, List.getElem?_cons_zero, List.getElem?_cons_succ, List.set_cons_zero, List.set_cons_succ, if_true, if_false, Bool.false_eq_true, decide_true, decide_false, Bool.not_true, Bool.not_false, decide_eq_true_eq, eq_self, Int.cast_ofNat_Int, Int.natCast_zero, Int.natCast_one, Nat.reduceLeDiff, Nat.reduceSub, Nat.reduceAdd, Nat.reduceLT, reduceIte, reduceCtorEq, Int.reduceEq, Int.reduceLT, Int.reduceLE, Int.reduceNeg, Int.reduceAdd, Int.reduceSub, Int.reduceMul, Int.reduceNe, Int.reduceBNe, Int.reduceBEq, f_is_straight, e1, e2, e3, hz, wipe_nil, wipe_cons, c1, c2, c3, all_l, any_l, bls_true, bls_false, Option.map_some, all_true, any_false, e4, idx_fr0, hn]
  done
end

end Rw.Pk12

set_option exponentiation.threshold 300
namespace Rw.Pk12
open PySem L2 Rw
/-! ### sums over nine marks -/
def S9 (g : Nat → Rat) : Rat := g 0 + g 1 + g 2 + g 3 + g 4 + g 5 + g 6 + g 7 + g 8
theorem fold9 (g : Nat → Rat) (o : Rat) : (List.range 9).foldl (fun a j => a + g j) o = o + S9 g := by
  show ((((((((o + g 0) + g 1) + g 2) + g 3) + g 4) + g 5) + g 6) + g 7) + g 8 = _
  unfold S9
  grind
theorem fold_ps {p : Nat → Rat} (h : Nat × Rat → Rat) (hz : ∀ j, h (j, 0) = 0) (o : Rat) : (ps p).foldl (fun a e => a + h e) o = o + S9 fun j => h (j, p j) := by
  rw [← fold9]
  unfold ps
  generalize List.range 9 = js
  induction js generalizing o with
  | nil => rfl
  | cons j js ih =>
    rw [List.filterMap_cons, List.foldl_cons]
    by_cases c : p j = 0
    · rw [if_pos c, c, hz, Rat.add_zero]
      exact ih o
    · rw [if_neg c]
      exact ih _
theorem lin9 {p f : Nat → Rat} {c : Rat} : lin f (ps p) c = c + S9 fun j => p j * f j := fold_ps (fun e => e.2 * f e.1) (fun j => Rat.zero_mul _) c
theorem abs0 : (0 : Rat).abs = 0 := by decide +kernel
theorem sab9 {p : Nat → Rat} : sab p = S9 fun j => (p j).abs := by
  unfold sab frSum
  rw [List.foldl_map]
  have := fold_ps (p := p) (fun e => e.2.abs) (fun j => abs0) 0
  rw [this, Rat.zero_add]
theorem off9 {c c' : Rat} {p p' : Nat → Rat} : offF c c' p p' = (c - c').abs + S9 fun j => (p j - p' j).abs := fold9 (fun j => (p j - p' j).abs) _
theorem csr9 {c r : Rat} {p : Nat → Rat} : csr c p r = r + (c - crs 4 false c).abs + S9 fun j => (p j - crs 4 false (p j)).abs := by
  have := fold_ps (p := p) (fun e => (e.2 - crs 4 false e.2).abs) (fun j => by show ((0 : Rat) - crs 4 false 0).abs = 0; rw [crs_zero]; decide +kernel) (r + (c - crs 4 false c).abs)
  exact this
theorem S9_le {g h : Nat → Rat} (e : ∀ j, g j ≤ h j) : S9 g ≤ S9 h := by
  unfold S9
  have := e 0; have := e 1; have := e 2; have := e 3; have := e 4; have := e 5; have := e 6; have := e 7; have := e 8
  grind
theorem S9_add {g h : Nat → Rat} : (S9 fun j => g j + h j) = S9 g + S9 h := by unfold S9; grind
theorem S9_sub {g h : Nat → Rat} : (S9 fun j => g j - h j) = S9 g - S9 h := by unfold S9; grind
theorem S9_mul {g : Nat → Rat} {b : Rat} : (S9 fun j => g j * b) = S9 g * b := by unfold S9; grind
theorem S9_neg {g : Nat → Rat} : (S9 fun j => - g j) = - S9 g := by unfold S9; grind
theorem S9_0 : (S9 fun _ => 0) = 0 := by unfold S9; grind
theorem S9_nn {g : Nat → Rat} (e : ∀ j, 0 ≤ g j) : 0 ≤ S9 g := S9_0 ▸ S9_le e
theorem abs_nn {a : Rat} : 0 ≤ a.abs := by unfold Rat.abs; split <;> grind
theorem abs_mul_le {a f : Rat} (h : f.abs ≤ 1) : (a * f).abs ≤ a.abs := by
  obtain ⟨h1, h2⟩ := abs_le.mp h
  rw [abs_le]
  by_cases c : 0 ≤ a
  · have e : a.abs = a := by unfold Rat.abs; rw [if_pos c]
    have g1 := Rat.mul_le_mul_of_nonneg_left h1 c
    have g2 := Rat.mul_le_mul_of_nonneg_left h2 c
    rw [e]
    grind
  · have e : a.abs = -a := by unfold Rat.abs; rw [if_neg c]
    have c' : 0 ≤ -a := by grind
    have g1 := Rat.mul_le_mul_of_nonneg_left h1 c'
    have g2 := Rat.mul_le_mul_of_nonneg_left h2 c'
    rw [e]
    grind
theorem abs_muls {a b : Rat} : (a * b).abs = a.abs * b.abs := by
  unfold Rat.abs
  by_cases h1 : 0 ≤ a
  · by_cases h2 : 0 ≤ b
    · rw [if_pos h1, if_pos h2, if_pos (Rat.mul_nonneg h1 h2)]
    · have h2' : 0 ≤ -b := by grind
      have := Rat.mul_nonneg h1 h2'
      rw [if_pos h1, if_neg h2]
      split <;> grind
  · have h1' : 0 ≤ -a := by grind
    by_cases h2 : 0 ≤ b
    · have := Rat.mul_nonneg h1' h2
      rw [if_neg h1, if_pos h2]
      split <;> grind
    · have h2' : 0 ≤ -b := by grind
      have := Rat.mul_nonneg h1' h2'
      rw [if_neg h1, if_neg h2]
      split <;> grind
theorem S9_abs {g h : Nat → Rat} (e : ∀ j, (g j).abs ≤ h j) : (S9 g).abs ≤ S9 h := by
  rw [abs_le]
  have h2 : S9 (fun j => - h j) ≤ S9 g := S9_le fun j => (abs_le.mp (e j)).2
  rw [S9_neg] at h2
  exact ⟨S9_le fun j => (abs_le.mp (e j)).1, h2⟩
section
variable {p p' f : Nat → Rat} {c c' r r' a b x y : Rat}
/-- numbers for marks lie between -1 and 1 -/
def F1 (f : Nat → Rat) : Prop := ∀ j, (f j).abs ≤ 1
theorem dot_le (h : F1 f) : (S9 fun j => p j * f j).abs ≤ S9 fun j => (p j).abs := S9_abs fun j => abs_mul_le (h j)
/-- a is one of the values -/
def Va (c : Rat) (p : Nat → Rat) (r : Rat) (f : Nat → Rat) (a : Rat) : Prop := (a - lin f (ps p) c).abs ≤ r
theorem va_in (hf : F1 f) (h : Va c p r f a) : c - (sab p + r) ≤ a ∧ a ≤ c + (sab p + r) := by
  have h1 := dot_le (p := p) hf
  unfold Va at h
  rw [lin9] at h
  rw [sab9]
  rw [abs_le] at h h1
  grind
theorem va_both (h : Va c p r f a) (g : Va c' p' r' f b) : lin f (ps fun j => p j + p' j) (c + c') - (r + r') ≤ a + b ∧ a + b ≤ lin f (ps fun j => p j + p' j) (c + c') + (r + r') := by
  unfold Va at h g
  rw [lin9] at h g ⊢
  have e : (S9 fun j => (p j + p' j) * f j) = (S9 fun j => p j * f j) + S9 fun j => p' j * f j := by rw [← S9_add]; congr 1; funext j; grind
  rw [e]
  rw [abs_le] at h g
  grind
theorem mul_abs_le {u v : Rat} (h : x.abs ≤ u) (g : y.abs ≤ v) : (x * y).abs ≤ u * v := by
  rw [abs_muls]
  have h1 := Rat.mul_le_mul_of_nonneg_right h (abs_nn (a := y))
  have h2 := Rat.mul_le_mul_of_nonneg_left g (Rat.le_trans (abs_nn (a := x)) h)
  exact Rat.le_trans h1 h2
theorem va_prod (hf : F1 f) (h : Va c p r f a) (g : Va c' p' r' f b) :
    (a * b - lin f (ps fun j => p j * c' + p' j * c) (c * c' + c' * c - c * c')).abs ≤ r * c'.abs + r' * c.abs + (sab p + r) * (sab p' + r') := by
  have b1 : (a - c).abs ≤ sab p + r := by
    have := va_in hf h
    rw [abs_le]; grind
  have b2 : (b - c').abs ≤ sab p' + r' := by
    have := va_in hf g
    rw [abs_le]; grind
  have b3 := mul_abs_le b1 b2
  unfold Va at h g
  rw [lin9] at h g ⊢
  have e : (S9 fun j => (p j * c' + p' j * c) * f j) = (S9 fun j => p j * f j) * c' + (S9 fun j => p' j * f j) * c := by rw [← S9_mul, ← S9_mul, ← S9_add]; congr 1; funext j; grind
  rw [e]
  have b4 := mul_abs_le h (y := c') (Rat.le_refl)
  have b5 := mul_abs_le g (y := c) (Rat.le_refl)
  generalize (S9 fun j => p j * f j) = u at *
  generalize (S9 fun j => p' j * f j) = v at *
  generalize (sab p + r) * (sab p' + r') = w at *
  generalize r * c'.abs = t1 at *
  generalize r' * c.abs = t2 at *
  rw [abs_le] at b3 b4 b5 ⊢
  grind
theorem va_pin (hf : F1 f) (h : Va c p r f a) (g : Va c' p' r' f b) :
    (c * c' + c' * c - c * c') - (sab (fun j => p j * c' + p' j * c) + (r * c'.abs + r' * c.abs + (sab p + r) * (sab p' + r'))) ≤ a * b ∧ a * b ≤ (c * c' + c' * c - c * c') + (sab (fun j => p j * c' + p' j * c) + (r * c'.abs + r' * c.abs + (sab p + r) * (sab p' + r'))) :=
  va_in hf (va_prod hf h g)
theorem va_tk (h : Va c p r f a) : lin f (ps p) c - r ≤ a ∧ a ≤ lin f (ps p) c + r := by
  unfold Va at h
  rw [abs_le] at h
  grind
theorem va_scaled (h : Va c p r f a) : Va (c * b) (fun j => p j * b) (r * b.abs) f (a * b) := by
  unfold Va at *
  rw [lin9] at h ⊢
  have e : (S9 fun j => p j * b * f j) = (S9 fun j => p j * f j) * b := by rw [← S9_mul]; congr 1; funext j; grind
  rw [e]
  have := mul_abs_le h (y := b) Rat.le_refl
  have e2 : a * b - (c * b + (S9 fun j => p j * f j) * b) = (a - (c + S9 fun j => p j * f j)) * b := by grind
  rw [e2]
  exact this
theorem va_turned (h : Va c p r f a) : Va (-c) (fun j => - p j) r f (-a) := by
  unfold Va at *
  rw [lin9] at h ⊢
  have e : (S9 fun j => - p j * f j) = - (S9 fun j => p j * f j) := by rw [← S9_neg]; congr 1; funext j; grind
  rw [e]
  rw [abs_le] at h ⊢
  grind
theorem va_loose (h : Va c p r f a) (hb : x.abs ≤ b) : Va c p (r + b) f (a + x) := by
  unfold Va at *
  rw [abs_le] at h hb ⊢
  grind
theorem va_marked (h : Va c p r f a) : Va c (fun i => if i = 7 then p 7 + b else p i) r f (a + b * f 7) := by
  unfold Va at *
  rw [lin9] at h ⊢
  have e : (S9 fun j => (if j = 7 then p 7 + b else p j) * f j) = (S9 fun j => p j * f j) + b * f 7 := by
    unfold S9
    simp only [show ¬ (0 : Nat) = 7 by decide, show ¬ (1 : Nat) = 7 by decide, show ¬ (2 : Nat) = 7 by decide, show ¬ (3 : Nat) = 7 by decide, show ¬ (4 : Nat) = 7 by decide, show ¬ (5 : Nat) = 7 by decide, show ¬ (6 : Nat) = 7 by decide, show ¬ (8 : Nat) = 7 by decide, if_true, if_false]
    grind
  rw [e]
  rw [abs_le] at h ⊢
  grind
theorem va_coarse (hf : F1 f) (h : Va c p r f a) : Va (crs 4 false c) (fun j => crs 4 false (p j)) (crs 4 true (csr c p r)) f a := by
  have h1 := crs_up (n := 4) (q := csr c p r)
  rw [csr9] at h1
  have h2 : (S9 fun j => (p j - crs 4 false (p j)) * f j).abs ≤ S9 fun j => (p j - crs 4 false (p j)).abs := dot_le hf
  have e : (S9 fun j => (p j - crs 4 false (p j)) * f j) = (S9 fun j => p j * f j) - S9 fun j => crs 4 false (p j) * f j := by rw [← S9_sub]; congr 1; funext j; grind
  rw [e] at h2
  have h3 : c - crs 4 false c ≤ (c - crs 4 false c).abs ∧ -(c - crs 4 false c).abs ≤ c - crs 4 false c := abs_le.mp Rat.le_refl
  unfold Va at *
  rw [lin9] at h ⊢
  rw [csr9]
  generalize (S9 fun j => (p j - crs 4 false (p j)).abs) = s at *
  generalize (S9 fun j => crs 4 false (p j) * f j) = u at *
  generalize (S9 fun j => p j * f j) = v at *
  generalize (c - crs 4 false c).abs = t at *
  rw [abs_le] at h h2 ⊢
  grind
theorem loose_refl : offF c c p p + r ≤ r := by
  rw [off9]
  have e : (S9 fun j => (p j - p j).abs) = 0 := by
    rw [← S9_0]; congr 1; funext j
    rw [show p j - p j = 0 by grind, abs0]
  rw [e, show c - c = 0 by grind, abs0]
  grind
theorem loose_more (hb : 0 ≤ b) : offF c c p p + r ≤ r + b := Rat.le_trans loose_refl (by grind)
theorem loose_not : ¬ offF c c p p + (r + 1 / 5) ≤ r := by
  have h : 0 ≤ offF c c p p := by
    rw [off9]
    have := S9_nn (g := fun j => (p j - p j).abs) fun j => abs_nn
    have := abs_nn (a := c - c)
    grind
  intro z
  have : (0 : Rat) < 1 / 5 := by decide +kernel
  grind
theorem abs_sub {u v : Rat} : (u - v).abs = (v - u).abs := by unfold Rat.abs; split <;> split <;> grind
theorem loose_coarse : offF (crs 4 false c) c (fun j => crs 4 false (p j)) p + r ≤ crs 4 true (csr c p r) := by
  have h1 := crs_up (n := 4) (q := csr c p r)
  refine Rat.le_trans ?_ h1
  rw [csr9, off9]
  have e : (S9 fun j => (crs 4 false (p j) - p j).abs) = S9 fun j => (p j - crs 4 false (p j)).abs := by congr 1; funext j; exact abs_sub
  rw [e, abs_sub]
  grind
/-- what the law draws -/
structure Fo (c : Rat) (p : Nat → Rat) (r : Rat) : Prop where
  sc : Sm 3 c
  sp : ∀ j, Sm 3 (p j)
  sr : Sm 3 r
  bc : c.abs ≤ 4
  bp : ∀ j, (p j).abs ≤ 4
  r0 : 0 ≤ r
  r2 : r ≤ 2
  p4 : ∀ j, 4 ≤ j → p j = 0
theorem Fo.f9 (h : Fo c p r) : F9 p := fun j hj => h.p4 j (by omega)
theorem csr_le (h : Fo c p r) : 0 ≤ csr c p r ∧ csr c p r ≤ 122 := by
  have g : ∀ q : Rat, q.abs ≤ 4 → (q - crs 4 false q).abs ≤ 12 := fun q hq => by
    have h8 := crs_abs (n := 4) (up := false) (q := q) (by decide)
    have h9 : (crs 4 false q).abs ≤ 8 := by grind
    rw [abs_le] at hq h9 ⊢
    grind
  rw [csr9]
  have h1 := g c h.bc
  have h2 : (S9 fun j => (p j - crs 4 false (p j)).abs) ≤ S9 fun _ => 12 := S9_le fun j => g _ (h.bp j)
  have h3 := S9_nn (g := fun j => (p j - crs 4 false (p j)).abs) fun j => abs_nn
  have h4 : (S9 fun _ => 12) = 108 := by unfold S9; grind
  have h5 := h.r0
  have h6 := h.r2
  have h7 := abs_nn (a := c - crs 4 false c)
  rw [h4] at h2
  grind
theorem small_lt (h : Fo c p r) : (crs 4 false c).abs < 1024 ∧ (∀ j, (crs 4 false (p j)).abs < 1024) ∧ (crs 4 true (csr c p r)).abs < 1024 := by
  have g : ∀ (u : Bool) (q : Rat), q.abs ≤ 122 → (crs 4 u q).abs < 1024 := fun u q hq => by
    have := crs_abs (n := 4) (up := u) (q := q) (by decide)
    grind
  obtain ⟨h1, h2⟩ := csr_le h
  refine ⟨g _ _ (Rat.le_trans h.bc (by decide +kernel)), fun j => g _ _ (Rat.le_trans (h.bp j) (by decide +kernel)), g _ _ ?_⟩
  rw [abs_le]
  grind
end

end Rw.Pk12

set_option exponentiation.threshold 300
namespace Rw.Pk12
open PySem L2 Rw
section
variable {k : Nat} {S T : Sto} {L : List D} {a : Int} {p p' : Nat → Rat} {c c' r r' : Rat} {n m : Nat} {l : ML}
abbrev IntL (L : List D) : Prop := ∀ d ∈ L, ∃ x : Int, d = .int x
theorem frac_all : ((List.range 9).all fun v => (List.range 3).all fun w => decide ((Rat.divInt ((v : Int) - 4) (1 + (w : Int))).num.natAbs < 8) && (decide ((Rat.divInt ((v : Int) - 4) (1 + (w : Int))).den < 8) && decide ((Rat.divInt ((v : Int) - 4) (1 + (w : Int))).abs ≤ 4))) = true := by decide +kernel
theorem frac_small {v w : Int} (h1 : 0 ≤ v) (h2 : v < 9) (h3 : 0 ≤ w) (h4 : w < 3) : Sm 3 (Rat.divInt (v - 4) (1 + w)) ∧ (Rat.divInt (v - 4) (1 + w)).abs ≤ 4 := by
  have h := frac_all
  rw [List.all_eq_true] at h
  have h := h v.toNat (List.mem_range.mpr (by omega))
  rw [List.all_eq_true] at h
  have h := h w.toNat (List.mem_range.mpr (by omega))
  rw [show ((v.toNat : Nat) : Int) = v by omega, show ((w.toNat : Nat) : Int) = w by omega] at h
  obtain ⟨a1, a2⟩ := bk h
  obtain ⟨a3, a4⟩ := bk a2
  exact ⟨⟨of_decide_eq_true a1, of_decide_eq_true a3⟩, of_decide_eq_true a4⟩
theorem mem_put {j : Nat} {q : Rat} {e : Nat × Rat} (h : e ∈ put l j q) : e = (j, q) ∨ e ∈ l := by
  unfold put at h
  split at h
  · obtain ⟨x, hx, rfl⟩ := List.mem_map.mp h
    by_cases z : x.1 = j
    · rw [if_pos z, z]; exact .inl rfl
    · rw [if_neg z]; exact .inr hx
  · rcases List.mem_append.mp h with h | h
    · exact .inr h
    · exact .inl (List.mem_singleton.mp h)
theorem putI_w {C : Cell} {j : Nat} {q : Rat} (h : Dc l) : putI (C :: (T ++ [.dk (kvD l)])) (.ref (T.length + 1)) (.int (j : Int)) (fr q) = some (C :: (T ++ [.dk (kvD (put l j q))])) := by
  have := putI_new (S := C :: T) (j := j) (q := q) h
  simpa using this
theorem dk_w {C : Cell} : (C :: (T ++ [.dk (kvD l)]))[T.length + 1]? = some (.dk (kvD l)) := by simp
theorem prune_or {d : D} {S' : Sto} : prune S d S' = (d, S) ∨ prune S d S' = (d, S') := by
  unfold prune
  split
  · exact .inl rfl
  · exact .inr rfl
/-- entries that are drawn -/
def Lf (l : ML) : Prop := ∀ e ∈ l, e.1 < 4 ∧ e.2 ≠ 0 ∧ Sm 3 e.2 ∧ e.2.abs ≤ 4
theorem vl_of (h : Dc l) {j : Nat} : vl l j = 0 ∨ (j, vl l j) ∈ l := by
  by_cases z : j ∈ l.map (·.1)
  · obtain ⟨e, he, rfl⟩ := List.mem_map.mp z
    refine .inr ?_
    rw [vl_mem h.nd (q := e.2) he]
    exact he
  · exact .inl (vl_no z)
theorem lf_fo (h : Dc l) (g : Lf l) (sc : Sm 3 c) (bc : c.abs ≤ 4) (sr : Sm 3 r) (r0 : 0 ≤ r) (r2 : r ≤ 2) : Fo c (vl l) r := by
  refine ⟨sc, fun j => ?_, sr, bc, fun j => ?_, r0, r2, fun j hj => ?_⟩
  · rcases vl_of h (j := j) with z | z
    · rw [z]; exact sm_zero (n := 2)
    · exact (g _ z).2.2.1
  · rcases vl_of h (j := j) with z | z
    · rw [z]; decide +kernel
    · exact (g _ z).2.2.2
  · rcases vl_of h (j := j) with z | z
    · exact z
    · have := (g _ z).1
      simp only at this
      omega
theorem fm_congr {α β : Type} {f g : α → Option β} : ∀ {xs : List α}, (∀ x ∈ xs, f x = g x) → xs.filterMap f = xs.filterMap g
  | [], _ => rfl
  | x :: xs, h => by
    rw [List.filterMap_cons, List.filterMap_cons, h x List.mem_cons_self, fm_congr fun y hy => h y (List.mem_cons_of_mem _ hy)]
theorem rk_map (h : Dc l) (g : Lf l) : (rk l).map (fun j => mkD (j, vl l j)) = (ps (vl l)).map mkD := by
  rw [← st_fm, ← List.filterMap_eq_map]
  refine fm_congr fun j hj => ?_
  have hj' : j ∈ l.map (·.1) := by simpa using (List.mem_filter.mp hj).2
  unfold stF
  obtain ⟨e, he, rfl⟩ := List.mem_map.mp hj'
  have z : ¬ vl l e.1 = 0 := by
    rw [vl_mem h.nd (q := e.2) he]
    exact (g e he).2.1
  rw [if_neg z]
  rfl
theorem fr_third : fr (1 / 3) = .tup [.int 1, .int 3] := by
  have : (1 / 3 : Rat) = Rat.divInt 1 3 := by decide +kernel
  rw [this]
  rfl
theorem fr_2 : fr 2 = .tup [.int 2, .int 1] := nrfl rfl
theorem form_turn {x2 x3 x4 : Option D} {x : D} (hL : IntL L) (ha : 0 ≤ a) (h : Dc l) (g : Lf l) : ∃ (l' : ML) (y3 y4 : Option D) (b : Int), Dc l' ∧ Lf l' ∧ 0 ≤ b ∧
    fbd G (callK G (k + 3)) (.name 2) b__law_form_0 x [some (.ref 0), some (.ref (T.length + 1)), x2, x3, x4] (wC L a :: (T ++ [.dk (kvD l)])) = some (.nx [some (.ref 0), some (.ref (T.length + 1)), some x, y3, y4], wC L b :: (T ++ [.dk (kvD l')])) := by
  obtain ⟨v, v0, v1, e1⟩ := next_ok (k := k + 2) (T := T ++ [.dk (kvD l)]) (m := 9) hL (by decide) ha
  obtain ⟨w, w0, w1, e2⟩ := next_ok (k := k + 2) (T := T ++ [.dk (kvD l)]) (a := a + 1) (m := 3) hL (by decide) (by omega)
  obtain ⟨j, j0, j1, e3⟩ := next_ok (k := k + 2) (T := T ++ [.dk (kvD l)]) (a := a + 1 + 1) (m := 4) hL (by decide) (by omega)
  obtain ⟨s1, s2⟩ := frac_small v0 v1 w0 w1
  have bd : Bd 8999 (1 + w) := Bd.mono (n := 3) (show (1 + w).natAbs < 2 ^ 3 by omega) (by decide)
  have e4 := least_ok (k := k + 2) (S := wC L (a + 1 + 1) :: (T ++ [.dk (kvD l)])) (u := v - 4) (l := 1 + w) (by omega) bd
  by_cases z : (Rat.divInt (v - 4) (1 + w)).num = 0
  · refine ⟨l, some (fr (Rat.divInt (v - 4) (1 + w))), x4, a + 1 + 1, h, g, by omega, ?_⟩
    unfold fbd
    simp only [E1, E2, E3, E4, E5, E6, E7, E8, E9, List.map_cons, List.map_nil, List.cons_append, List.nil_append, List.append_nil, List.length_cons, List.length_nil, List.replicate_zero, List.replicate_succ, Nat.sub_self, Nat.zero_add, List.getElem?_cons_zero, List.getElem?_cons_succ, List.set_cons_zero, List.set_cons_succ, if_true, if_false, Bool.false_eq_true, decide_true, decide_false, Bool.not_true, Bool.not_false, decide_eq_true_eq, eq_self, Int.cast_ofNat_Int, Int.natCast_zero, Int.natCast_one, Nat.reduceLeDiff, Nat.reduceSub, Nat.reduceAdd, Nat.reduceLT, reduceIte, reduceCtorEq, Int.reduceEq, Int.reduceLT, Int.reduceLE, Int.reduceNeg, Int.reduceAdd, Int.reduceSub, Int.reduceMul, Int.reduceNe, Int.reduceBNe, Int.reduceBEq, b__law_form_0, e1, e2, e4, idx_fr0, z]
  · have zq : Rat.divInt (v - 4) (1 + w) ≠ 0 := fun q => z (by rw [q]; rfl)
    have h' := h.put (k := j.toNat) (q := Rat.divInt (v - 4) (1 + w)) (by omega)
    refine ⟨put l j.toNat (Rat.divInt (v - 4) (1 + w)), some (fr (Rat.divInt (v - 4) (1 + w))), x4, a + 1 + 1 + 1, h', fun e he => ?_, by omega, ?_⟩
    · rcases mem_put he with rfl | he
      · exact ⟨by show j.toNat < 4; omega, zq, s1, s2⟩
      · exact g e he
    · have e5 := putI_w (T := T) (C := wC L (a + 1 + 1 + 1)) (j := j.toNat) (q := Rat.divInt (v - 4) (1 + w)) h
      rw [show ((j.toNat : Nat) : Int) = j by omega] at e5
      unfold fbd
      simp only [E1, E2, E3, E4, E5, E6, E7, E8, E9, List.map_cons, List.map_nil, List.cons_append, List.nil_append, List.append_nil, List.length_cons, List.length_nil, List.replicate_zero, List.replicate_succ, Nat.sub_self, Nat.zero_add, List.getElem?_cons_zero, List.getElem?_cons_succ, List.set_cons_zero, List.set_cons_succ, if_true, if_false, Bool.false_eq_true, decide_true, decide_false, Bool.not_true, Bool.not_false, decide_eq_true_eq, eq_self, Int.cast_ofNat_Int, Int.natCast_zero, Int.natCast_one, Nat.reduceLeDiff, Nat.reduceSub, Nat.reduceAdd, Nat.reduceLT, reduceIte, reduceCtorEq, Int.reduceEq, Int.reduceLT, Int.reduceLE, Int.reduceNeg, Int.reduceAdd, Int.reduceSub, Int.reduceMul, Int.reduceNe, Int.reduceBNe, Int.reduceBEq, b__law_form_0, e1, e2, e4, e3, e5, idx_fr0, z]
theorem form_ok (hL : IntL L) (ha : 0 ≤ a) : ∃ (c : Rat) (p : Nat → Rat) (r : Rat) (b : Int) (T' : Sto), Fo c p r ∧ 0 ≤ b ∧ callK G (k + 4) i__law_form [.ref 0] (wC L a :: T) = some (fmD c p r, wC L b :: T') := by
  obtain ⟨v, v0, v1, e1⟩ := next_ok (k := k + 2) (T := T ++ [.dk (kvD [])]) (m := 3) hL (by decide) ha
  have rr : rngD [.int v] = some ((List.range v.toNat).map fun (i : Nat) => D.int (i : Int)) := by
    have := rng_nat (n := v.toNat) (by omega)
    rw [show ((v.toNat : Nat) : Int) = v by omega] at this
    exact this
  obtain ⟨ρ1, S1, f, l, x2, x3, x4, b, rfl, rfl, d, g, hb⟩ := forL_run (all := (List.range v.toNat).map fun (i : Nat) => D.int (i : Int)) (body := fbd G (callK G (k + 3)) (.name 2) b__law_form_0) (xs := (List.range v.toNat).map fun (i : Nat) => D.int (i : Int)) (ρ := [some (.ref 0), some (.ref (T.length + 1)), none, none, none]) (S := wC L (a + 1) :: (T ++ [.dk (kvD [])]))
    (I := fun _ ρ S => ∃ (l : ML) (x2 x3 x4 : Option D) (b : Int), ρ = [some (.ref 0), some (.ref (T.length + 1)), x2, x3, x4] ∧ S = wC L b :: (T ++ [.dk (kvD l)]) ∧ Dc l ∧ Lf l ∧ 0 ≤ b)
    (by
      rintro i x ρ S hx ⟨l, x2, x3, x4, b, rfl, rfl, d, g, hb⟩
      obtain ⟨l', y3, y4, b', d', g', hb', e⟩ := form_turn (k := k) (T := T) (x2 := x2) (x3 := x3) (x4 := x4) (x := x) hL hb d g
      exact ⟨_, _, e, l', some x, y3, y4, b', rfl, rfl, d', g', hb'⟩)
    ⟨[], none, none, none, a + 1, rfl, rfl, Dc.nil, fun e he => absurd he List.not_mem_nil, by omega⟩
  obtain ⟨v2, p0, p1, e2⟩ := next_ok (k := k + 2) (T := T ++ [.dk (kvD l)]) (a := b) (m := 9) hL (by decide) hb
  obtain ⟨w2, q0, q1, e3⟩ := next_ok (k := k + 2) (T := T ++ [.dk (kvD l)]) (a := b + 1) (m := 2) hL (by decide) (by omega)
  obtain ⟨s1, s2⟩ := frac_small p0 p1 q0 (by omega)
  have bd : Bd 8999 (1 + w2) := Bd.mono (n := 3) (show (1 + w2).natAbs < 2 ^ 3 by omega) (by decide)
  have e4 := least_ok (k := k + 2) (S := wC L (b + 1 + 1) :: (T ++ [.dk (kvD l)])) (u := v2 - 4) (l := 1 + w2) (by omega) bd
  obtain ⟨dr, hd, e5⟩ := pick_ok (k := k + 1) (T := T ++ [.dk (kvD l)]) (a := b + 1 + 1) (xs := [D.tup [.int 0, .int 1], .tup [.int 0, .int 1], .tup [.int 1, .int 3], .tup [.int 2, .int 1]]) hL (List.cons_ne_nil _ _) (by omega)
  have hr : ∃ r : Rat, dr = fr r ∧ Sm 3 r ∧ 0 ≤ r ∧ r ≤ 2 := by
    simp only [List.mem_cons, List.not_mem_nil, or_false] at hd
    rcases hd with rfl | rfl | rfl | rfl
    · exact ⟨0, fr_zero.symm, sm_zero (n := 2), by decide +kernel, by decide +kernel⟩
    · exact ⟨0, fr_zero.symm, sm_zero (n := 2), by decide +kernel, by decide +kernel⟩
    · exact ⟨1 / 3, fr_third.symm, ⟨by decide +kernel, by decide +kernel⟩, by decide +kernel, by decide +kernel⟩
    · exact ⟨2, fr_2.symm, ⟨by decide +kernel, by decide +kernel⟩, by decide +kernel, by decide +kernel⟩
  obtain ⟨r, rfl, sr, r0, r2⟩ := hr
  have fo := lf_fo d g s1 s2 sr r0 r2
  have c1 : ∀ all (S : Sto), S[T.length + 1]? = some (.dk (kvD l)) → compL none all (ctn G (callK G (k + 3)) e__law_form_1 (.name 4) .none [some (.ref 0), some (.ref (T.length + 1)), x2, x3, none]) ((rk l).map fun (j : Nat) => D.int (j : Int)) S [] = some ((ps (vl l)).map mkD, S) := fun all S hS => by
    have := compL_mapT (all := all) (turn := ctn G (callK G (k + 3)) e__law_form_1 (.name 4) .none [some (.ref 0), some (.ref (T.length + 1)), x2, x3, none]) (S := S) (g := fun (j : Nat) => D.int (j : Int)) (f := fun j => mkD (j, vl l j)) (xs := rk l) (acc := []) fun j hj => by
      have hj' : j ∈ l.map (·.1) := by simpa using (List.mem_filter.mp hj).2
      have e1 := idx_kv hS hj'
      unfold ctn
      simp only [E1, E2, E3, E4, E5, E6, E7, E8, E9, List.map_cons, List.map_nil, List.cons_append, List.nil_append, List.append_nil, List.length_cons, List.length_nil, List.replicate_zero, List.replicate_succ, Nat.sub_self, Nat.zero_add, List.getElem?_cons_zero, List.getElem?_cons_succ, List.set_cons_zero, List.set_cons_succ, if_true, if_false, Bool.false_eq_true, decide_true, decide_false, Bool.not_true, Bool.not_false, decide_eq_true_eq, eq_self, Int.cast_ofNat_Int, Int.natCast_zero, Int.natCast_one, Nat.reduceLeDiff, Nat.reduceSub, Nat.reduceAdd, Nat.reduceLT, reduceIte, reduceCtorEq, Int.reduceEq, Int.reduceLT, Int.reduceLE, Int.reduceNeg, Int.reduceAdd, Int.reduceSub, Int.reduceMul, Int.reduceNe, Int.reduceBNe, Int.reduceBEq, e__law_form_1, e1]
      rfl
    rw [List.nil_append, rk_map d g] at this
    exact this
  have hz : (rk l).length ≤ sizeLine := le_size (by have := rk_len (l := l); omega)
  have f' := f
  have k0 : keysD [] = some [] := rfl
  have m0 : mergeKD [] [] = kvD [] := rfl
  have so := sorted_kv (S := wC L (b + 1 + 1) :: (T ++ [.dk (kvD l)])) d dk_w
  have cc := fun all => c1 all (wC L (b + 1 + 1) :: (T ++ [.dk (kvD l)])) dk_w
  have fin' : ∃ (b' : Int) (T' : Sto), 0 ≤ b' ∧ prune (wC L a :: T) (fmD (Rat.divInt (v2 - 4) (1 + w2)) (vl l) r) (wC L (b + 1 + 1 + 1) :: (T ++ [.dk (kvD l)])) = (fmD (Rat.divInt (v2 - 4) (1 + w2)) (vl l) r, wC L b' :: T') := by
    rcases prune_or (S := wC L a :: T) (d := fmD (Rat.divInt (v2 - 4) (1 + w2)) (vl l) r) (S' := wC L (b + 1 + 1 + 1) :: (T ++ [.dk (kvD l)])) with e | e
    · exact ⟨a, T, ha, e⟩
    · exact ⟨_, _, by omega, e⟩
  obtain ⟨b', T', hb', pr⟩ := fin'
  refine ⟨_, _, _, b', T', fo, hb', ?_⟩
  rw [call_fn g__law_form rfl]
  unfold fmD at pr ⊢
  simp only [E1, E2, E3, E4, E5, E6, E7, E8, E9, List.map_cons, List.map_nil, List.cons_append, List.nil_append, List.append_nil, List.length_cons, List.length_nil, List.replicate_zero, List.replicate_succ, Nat.sub_self, Nat.zero_add, List.getElem?_cons_zero, List.getElem?_cons_succ, List.set_cons_zero, List.set_cons_succ, if_true, if_false, Bool.false_eq_true, decide_true, decide_false, Bool.not_true, Bool.not_false, decide_eq_true_eq, eq_self, Int.cast_ofNat_Int, Int.natCast_zero, Int.natCast_one, Nat.reduceLeDiff, Nat.reduceSub, Nat.reduceAdd, Nat.reduceLT, reduceIte, reduceCtorEq, Int.reduceEq, Int.reduceLT, Int.reduceLE, Int.reduceNeg, Int.reduceAdd, Int.reduceSub, Int.reduceMul, Int.reduceNe, Int.reduceBNe, Int.reduceBEq, f__law_form, k0, m0, List.length_cons, List.cons_append, e1, rr, f', e2, e3, e4, so, List.length_map, hz, wipe_nil, wipe_cons, cc, tup_l, e5, pr]
end

end Rw.Pk12

set_option exponentiation.threshold 300
namespace Rw.Pk12
open PySem L2 Rw
section
variable {k : Nat} {S T : Sto} {L : List D} {a : Int} {p p' : Nat → Rat} {c c' r r' y e u v : Rat} {n m : Nat} {l : ML} {ms : List Rat} {x0 x1 x2 x3 x4 x5 x6 x7 x8 x9 x10 x11 x12 x13 x14 x15 x16 x17 x18 x19 x20 x21 x22 x23 x24 x25 x26 x27 x28 : Option D}
theorem okDs_mk {n : Nat} : ∀ l : ML, okDs (n + 2) (l.map mkD) = true := fun l => okDs_all fun x hx => by
  obtain ⟨e, _, rfl⟩ := List.mem_map.mp hx
  exact okD_tup (by show (true && (okD (n + 1) (fr e.2) && true)) = true; rw [okD_fr]; rfl) (le_size (by simp))
theorem ok_fm {n : Nat} : okD (n + 4) (fmD c p r) = true := by
  unfold fmD
  refine okD_tup ?_ (le_size (by simp))
  have h1 : okD (n + 3) (.tup ((ps p).map mkD)) = true := okD_tup (okDs_mk _) ps_le
  show (okD (n + 3) (fr c) && (okD (n + 3) (.tup ((ps p).map mkD)) && (okD (n + 3) (fr r) && true))) = true
  rw [h1, okD_fr, okD_fr]
  rfl
theorem szDs_mk : ∀ l : ML, szDs (l.map mkD) = l.length * 5
  | [] => rfl
  | e :: l => by
    have h : szD (mkD e) = 5 := rfl
    rw [List.map_cons, szDs, h, szDs_mk l, List.length_cons]
    omega
theorem sz_fm : szD (fmD c p r) ≤ 1000 := by
  have h : szD (fmD c p r) = 1 + (3 + ((1 + szDs ((ps p).map mkD)) + (3 + 0))) := rfl
  rw [h, szDs_mk]
  have := ps_len (p := p)
  omega
theorem same_fm : callK G (k + 1) i__law_same [fmD c p r, fmD c p r] S = some (.bl true, S) := same_ok (n := 4) ok_fm (by decide) (Nat.le_trans sz_fm (by decide))
theorem same_fr : callK G (k + 1) i__law_same [fr c, fr c] S = some (.bl true, S) := same_ok (n := 1) okD_fr (by decide) (by show (3 : Nat) ≤ _; decide)
theorem same_sp : callK G (k + 1) i__law_same [sp c r, sp c r] S = some (.bl true, S) := same_ok (n := 2) (okD_tup (by show (okD 1 (fr c) && (okD 1 (fr r) && true)) = true; rw [okD_fr, okD_fr]; rfl) (le_size (by simp))) (by decide) (by show (7 : Nat) ≤ _; decide)
theorem same_bl {b : Bool} : callK G (k + 1) i__law_same [.bl b, .bl b] S = some (.bl true, S) := same_ok (n := 0) rfl (by decide) (by show (1 : Nat) ≤ _; decide)
theorem sub_sm {n m : Nat} {u v : Rat} (h : Sm n u) (g : Sm m v) : Sm (n + m + 1) (u - v) := Rat.sub_eq_add_neg _ _ ▸ h.add g.neg
theorem product2_sm {n : Nat} {u v : Rat} (h : Sm n u) (g : Sm n v) : Sm (n + n) (u * v) := h.mul g
/-! the marks' numbers -/
theorem fr_m1 : fr (-1) = .tup [.int (-1), .int 1] := nrfl rfl
theorem marks_turn (hL : IntL L) (ha : 0 ≤ a) {x : D} : ∃ q : Rat, Sm 2 q ∧ q.abs ≤ 1 ∧ ctn G (callK G (k + 15)) e_law_5 (.name 27) .none [x0, some (.ref 0), x2, x3, x4, x5, x6, x7, x8, x9, x10, x11, x12, x13, x14, x15, x16, x17, x18, x19, x20, x21, x22, x23, x24, x25, x26, x27, x28] x (wC L a :: T) = some (some (fr q), wC L (a + 1) :: T) := by
  obtain ⟨d, hd, e1⟩ := pick_ok (k := k + 13) (T := T) (xs := [D.tup [.int 1, .int 1], .tup [.int (-1), .int 1], .tup [.int 0, .int 1], .tup [.int 1, .int 2]]) hL (List.cons_ne_nil _ _) ha
  have hq : ∃ q : Rat, d = fr q ∧ Sm 2 q ∧ q.abs ≤ 1 := by
    simp only [List.mem_cons, List.not_mem_nil, or_false] at hd
    rcases hd with rfl | rfl | rfl | rfl
    · exact ⟨1, fr_one.symm, ⟨by decide +kernel, by decide +kernel⟩, by decide +kernel⟩
    · exact ⟨-1, fr_m1.symm, ⟨by decide +kernel, by decide +kernel⟩, by decide +kernel⟩
    · exact ⟨0, fr_zero.symm, ⟨by decide +kernel, by decide +kernel⟩, by decide +kernel⟩
    · exact ⟨1 / 2, fr_half.symm, ⟨by decide +kernel, by decide +kernel⟩, by decide +kernel⟩
  obtain ⟨q, rfl, s1, s2⟩ := hq
  refine ⟨q, s1, s2, ?_⟩
  unfold ctn
  simp only [E1, E2, E3, E4, E5, E6, E7, E8, E9, List.map_cons, List.map_nil, List.cons_append, List.nil_append, List.append_nil, List.length_cons, List.length_nil, List.replicate_zero, List.replicate_succ, Nat.sub_self, Nat.zero_add, List.getElem?_cons_zero, List.getElem?_cons_succ, List.set_cons_zero, List.set_cons_succ, if_true, if_false, Bool.false_eq_true, decide_true, decide_false, Bool.not_true, Bool.not_false, decide_eq_true_eq, eq_self, Int.cast_ofNat_Int, Int.natCast_zero, Int.natCast_one, Nat.reduceLeDiff, Nat.reduceSub, Nat.reduceAdd, Nat.reduceLT, reduceIte, reduceCtorEq, Int.reduceEq, Int.reduceLT, Int.reduceLE, Int.reduceNeg, Int.reduceAdd, Int.reduceSub, Int.reduceMul, Int.reduceNe, Int.reduceBNe, Int.reduceBEq, e_law_5, e1]
theorem marks_ok (hL : IntL L) {all : List D} : ∀ (xs : List D) (a : Int) (acc : List Rat), 0 ≤ a → ∃ (ms : List Rat) (b : Int), 0 ≤ b ∧ ms.length = xs.length ∧ (∀ q ∈ ms, Sm 2 q ∧ q.abs ≤ 1) ∧
    compL none all (ctn G (callK G (k + 15)) e_law_5 (.name 27) .none [x0, some (.ref 0), x2, x3, x4, x5, x6, x7, x8, x9, x10, x11, x12, x13, x14, x15, x16, x17, x18, x19, x20, x21, x22, x23, x24, x25, x26, x27, x28]) xs (wC L a :: T) (acc.map fr) = some ((acc ++ ms).map fr, wC L b :: T)
  | [], a, acc, ha => ⟨[], a, ha, rfl, fun q h => absurd h List.not_mem_nil, by rw [List.append_nil]; exact compL_nil⟩
  | x :: xs, a, acc, ha => by
    obtain ⟨q, s1, s2, e1⟩ := marks_turn (k := k) (T := T) hL ha (x := x) (x0 := x0) (x2 := x2) (x3 := x3) (x4 := x4) (x5 := x5) (x6 := x6) (x7 := x7) (x8 := x8) (x9 := x9) (x10 := x10) (x11 := x11) (x12 := x12) (x13 := x13) (x14 := x14) (x15 := x15) (x16 := x16) (x17 := x17) (x18 := x18) (x19 := x19) (x20 := x20) (x21 := x21) (x22 := x22) (x23 := x23) (x24 := x24) (x25 := x25) (x26 := x26) (x27 := x27) (x28 := x28)
    obtain ⟨ms, b, hb, hl, hq, e2⟩ := marks_ok hL (all := all) xs (a + 1) (acc ++ [q]) (by omega)
    refine ⟨q :: ms, b, hb, by rw [List.length_cons, List.length_cons, hl], fun z hz => ?_, ?_⟩
    · rcases List.mem_cons.mp hz with rfl | hz
      · exact ⟨s1, s2⟩
      · exact hq z hz
    · rw [compL_some e1]
      rw [List.map_append, List.append_assoc] at e2
      exact e2
theorem f1_ms (h : ∀ q ∈ ms, Sm 2 q ∧ q.abs ≤ 1) : F1 (mF ms) := fun j => by
  by_cases c : j < ms.length
  · have e : mF ms j = ms[j] := by simp [mF, c]
    rw [e]
    exact (h _ (List.getElem_mem c)).2
  · have e : mF ms j = 0 := by
      unfold mF
      rw [List.getD_eq_getElem?_getD, List.getElem?_eq_none (by omega)]
      rfl
    rw [e]
    decide +kernel
theorem sm2 (h : ∀ q ∈ ms, Sm 2 q ∧ q.abs ≤ 1) : ∀ q ∈ ms, Sm 2 q := fun q hq => (h q hq).1
theorem eqz {q : Rat} : cmpD S .Eq (fr q) (.tup [.int 0, .int 1]) = some (decide (q = 0)) := by
  rw [← fr_zero]
  exact eq_fr
theorem pr_fo (h1 : Fo c p r) (h2 : Fo c' p' r') : (Sm 20 (c * c' + c' * c - c * c')) ∧ (∀ j, Sm 20 (p j * c' + p' j * c)) ∧ Sm 140 (r * c'.abs + r' * c.abs + (sab p + r) * (sab p' + r')) := by
  refine ⟨(sub_sm ((h1.sc.mul h2.sc).add (h2.sc.mul h1.sc)) (h1.sc.mul h2.sc)).mono (by decide), fun j => (((h1.sp j).mul h2.sc).add ((h2.sp j).mul h1.sc)).mono (by decide), ?_⟩
  exact (((h1.sr.mul h2.sc.abs).add (h2.sr.mul h1.sc.abs)).add (((sab_sm h1.sp).add h1.sr).mul ((sab_sm h2.sp).add h2.sr))).mono (by decide)
theorem b8_ok (h1 : Fo c p r) (h2 : Fo c' p' r') (hm : ms.length = 9) (hq : ∀ q ∈ ms, Sm 2 q ∧ q.abs ≤ 1) (hu : Va c p r (mF ms) u) (hv : Va c' p' r' (mF ms) v) (su : Sm 100 u) (sv : Sm 100 v) {x : Option D} : fbd G (callK G (k + 15)) (.name 16) b_law_8 (fr v) [x0, some (.ref 0), x2, some (fmD c p r), some (fmD c' p' r'), x5, x6, x7, some (fr y), some (fr e), some (sp c (c + e)), x11, some (.lst (ms.map fr)), x13, x14, some (fr u), x, x17, x18, x19, x20, x21, x22, x23, x24, x25, x26, x27, x28] S = some (.nx [x0, some (.ref 0), x2, some (fmD c p r), some (fmD c' p' r'), x5, x6, x7, some (fr y), some (fr e), some (sp c (c + e)), x11, some (.lst (ms.map fr)), x13, x14, some (fr u), some (fr v), x17, x18, x19, x20, x21, x22, x23, x24, x25, x26, x27, x28], S) := by
  have s := sm2 hq
  have hf := f1_ms hq
  have nine : 9 ≤ ms.length := by omega
  have e1 := both_ok (k := k + 11) (S := S) h1.f9 h2.f9 h1.sc h1.sp h1.sr h2.sc h2.sp h2.sr (by decide) (by decide)
  have e2 := sum2 (k := k + 13) (S := S) su sv (by decide)
  have s1 : Sm 7 (c + c') := h1.sc.add h2.sc
  have s2 : ∀ j, Sm 7 (p j + p' j) := fun j => (h1.sp j).add (h2.sp j)
  have s3 : Sm 7 (r + r') := h1.sr.add h2.sr
  have e3 := takes_ok (k := k + 10) (S := S) (ms := ms) (n := 7) (m := 2) nine s s1 s2 (s3.mono (by decide)) ((su.add sv).mono (by decide)) (by decide) (by decide) (by decide) (va_both hu hv)
  have e4 := product_ok (k := k + 9) (S := S) h1.f9 h2.f9 h1.sc h1.sp h1.sr h2.sc h2.sp h2.sr (by decide)
  obtain ⟨q1, q2, q3⟩ := pr_fo h1 h2
  have e5 := span_of_ok (k := k + 9) (S := S) (n := 140) (q1.mono (by decide)) (fun j => (q2 j).mono (by decide)) q3 (by decide)
  have e6 := prod2 (k := k + 13) (S := S) su sv (by decide)
  have q4 := (sab_sm (n := 20) q2).add q3
  have e7 := in_ok (k := k + 13) (S := S) (n := 4000) ((sub_sm q1 q4).mono (by decide)) ((q1.add q4).mono (by decide)) ((su.mul sv).mono (by decide)) (by decide)
  obtain ⟨t1, t2⟩ := va_pin hf hu hv
  rw [decide_eq_true t1, decide_eq_true t2] at e7
  have e8 := takes_ok (k := k + 10) (S := S) (ms := ms) (n := 20) (m := 2) nine s q1 q2 (q3.mono (by decide)) ((su.mul sv).mono (by decide)) (by decide) (by decide) (by decide) (va_tk (va_prod hf hu hv))
  unfold fbd
  unfold sp at e7 ⊢
  have z1 := eqz (S := S) (q := r)
  have z2 := eqz (S := S) (q := r')
  cases c1 : decide (r = 0) with
  | true =>
    rw [c1] at z1
    cases c2 : decide (r' = 0) with
    | true =>
      rw [c2] at z2
      simp only [E1, E2, E3, E4, E5, E6, E7, E8, E9, List.map_cons, List.map_nil, List.cons_append, List.nil_append, List.append_nil, List.length_cons, List.length_nil, List.replicate_zero, List.replicate_succ, Nat.sub_self, Nat.zero_add, List.getElem?_cons_zero, List.getElem?_cons_succ, List.set_cons_zero, List.set_cons_succ, if_true, if_false, Bool.false_eq_true, decide_true, decide_false, Bool.not_true, Bool.not_false, decide_eq_true_eq, eq_self, Int.cast_ofNat_Int, Int.natCast_zero, Int.natCast_one, Nat.reduceLeDiff, Nat.reduceSub, Nat.reduceAdd, Nat.reduceLT, reduceIte, reduceCtorEq, Int.reduceEq, Int.reduceLT, Int.reduceLE, Int.reduceNeg, Int.reduceAdd, Int.reduceSub, Int.reduceMul, Int.reduceNe, Int.reduceBNe, Int.reduceBEq, b_law_8, e1, e2, e3, e4, e5, e6, e7, idx_fm2, z1, z2, e8, Bool.and_self]
    | false =>
      rw [c2] at z2
      simp only [E1, E2, E3, E4, E5, E6, E7, E8, E9, List.map_cons, List.map_nil, List.cons_append, List.nil_append, List.append_nil, List.length_cons, List.length_nil, List.replicate_zero, List.replicate_succ, Nat.sub_self, Nat.zero_add, List.getElem?_cons_zero, List.getElem?_cons_succ, List.set_cons_zero, List.set_cons_succ, if_true, if_false, Bool.false_eq_true, decide_true, decide_false, Bool.not_true, Bool.not_false, decide_eq_true_eq, eq_self, Int.cast_ofNat_Int, Int.natCast_zero, Int.natCast_one, Nat.reduceLeDiff, Nat.reduceSub, Nat.reduceAdd, Nat.reduceLT, reduceIte, reduceCtorEq, Int.reduceEq, Int.reduceLT, Int.reduceLE, Int.reduceNeg, Int.reduceAdd, Int.reduceSub, Int.reduceMul, Int.reduceNe, Int.reduceBNe, Int.reduceBEq, b_law_8, e1, e2, e3, e4, e5, e6, e7, idx_fm2, z1, z2, Bool.and_self]
  | false =>
    rw [c1] at z1
    simp only [E1, E2, E3, E4, E5, E6, E7, E8, E9, List.map_cons, List.map_nil, List.cons_append, List.nil_append, List.append_nil, List.length_cons, List.length_nil, List.replicate_zero, List.replicate_succ, Nat.sub_self, Nat.zero_add, List.getElem?_cons_zero, List.getElem?_cons_succ, List.set_cons_zero, List.set_cons_succ, if_true, if_false, Bool.false_eq_true, decide_true, decide_false, Bool.not_true, Bool.not_false, decide_eq_true_eq, eq_self, Int.cast_ofNat_Int, Int.natCast_zero, Int.natCast_one, Nat.reduceLeDiff, Nat.reduceSub, Nat.reduceAdd, Nat.reduceLT, reduceIte, reduceCtorEq, Int.reduceEq, Int.reduceLT, Int.reduceLE, Int.reduceNeg, Int.reduceAdd, Int.reduceSub, Int.reduceMul, Int.reduceNe, Int.reduceBNe, Int.reduceBEq, b_law_8, e1, e2, e3, e4, e5, e6, e7, idx_fm2, z1, Bool.and_self]
end

end Rw.Pk12

set_option exponentiation.threshold 300
namespace Rw.Pk12
open PySem L2 Rw
section
variable {k : Nat} {S T : Sto} {L : List D} {a : Int} {p p' : Nat → Rat} {c c' r r' y e u v : Rat} {n m : Nat} {l : ML} {ms : List Rat} {x0 x1 x2 x3 x4 x5 x6 x7 x8 x9 x10 x11 x12 x13 x14 x15 x16 x17 x18 x19 x20 x21 x22 x23 x24 x25 x26 x27 x28 : Option D}
theorem b9_ok (h1 : Fo c p r) (hm : ms.length = 9) (hq : ∀ q ∈ ms, Sm 2 q ∧ q.abs ≤ 1) (se : Sm 3 e) (hu : Va c p r (mF ms) u) (su : Sm 100 u) (hv : v.abs ≤ e) (sv : Sm 3 v) {x : Option D} : fbd G (callK G (k + 15)) (.name 17) b_law_9 (fr v) [x0, some (.ref 0), x2, some (fmD c p r), some (fmD c' p' r'), x5, x6, x7, some (fr y), some (fr e), some (sp c (c + e)), x11, some (.lst (ms.map fr)), x13, some (vsD (lin (mF ms) (ps p') c') r'), some (fr u), x16, x, x18, x19, x20, x21, x22, x23, x24, x25, x26, x27, x28] S = some (.nx [x0, some (.ref 0), x2, some (fmD c p r), some (fmD c' p' r'), x5, x6, x7, some (fr y), some (fr e), some (sp c (c + e)), x11, some (.lst (ms.map fr)), x13, some (vsD (lin (mF ms) (ps p') c') r'), some (fr u), x16, some (fr v), x18, x19, x20, x21, x22, x23, x24, x25, x26, x27, x28], S) := by
  have e1 := loosened_ok (k := k + 11) (S := S) (c := c) (p := p) h1.sr se (by decide) (by decide)
  have e2 := sum2 (k := k + 13) (S := S) (n := 100) su (sv.mono (by decide)) (by decide)
  have e3 := takes_ok (k := k + 10) (S := S) (ms := ms) (n := 7) (m := 2) (by omega) (sm2 hq) (h1.sc.mono (by decide)) (fun j => (h1.sp j).mono (by decide)) ((h1.sr.add se).mono (by decide)) ((su.add sv).mono (by decide)) (by decide) (by decide) (by decide) (va_tk (va_loose hu hv))
  unfold fbd
  simp only [E1, E2, E3, E4, E5, E6, E7, E8, E9, List.map_cons, List.map_nil, List.cons_append, List.nil_append, List.append_nil, List.length_cons, List.length_nil, List.replicate_zero, List.replicate_succ, Nat.sub_self, Nat.zero_add, List.getElem?_cons_zero, List.getElem?_cons_succ, List.set_cons_zero, List.set_cons_succ, if_true, if_false, Bool.false_eq_true, decide_true, decide_false, Bool.not_true, Bool.not_false, decide_eq_true_eq, eq_self, Int.cast_ofNat_Int, Int.natCast_zero, Int.natCast_one, Nat.reduceLeDiff, Nat.reduceSub, Nat.reduceAdd, Nat.reduceLT, reduceIte, reduceCtorEq, Int.reduceEq, Int.reduceLT, Int.reduceLE, Int.reduceNeg, Int.reduceAdd, Int.reduceSub, Int.reduceMul, Int.reduceNe, Int.reduceBNe, Int.reduceBEq, b_law_9, e1, e2, e3]
theorem va_mid (h : Fo c p r) {f : Nat → Rat} : Va c p r f (lin f (ps p) c) := by
  unfold Va
  rw [show lin f (ps p) c - lin f (ps p) c = 0 by grind, abs0]
  exact h.r0
theorem va_lo (h : Fo c p r) {f : Nat → Rat} : Va c p r f (lin f (ps p) c - r) := by
  unfold Va
  have := h.r0
  rw [abs_le]
  grind
theorem va_hi (h : Fo c p r) {f : Nat → Rat} : Va c p r f (lin f (ps p) c + r) := by
  unfold Va
  have := h.r0
  rw [abs_le]
  grind
theorem vs_s (h : Fo c p r) (hm : ms.length = 9) (hq : ∀ q ∈ ms, Sm 2 q ∧ q.abs ≤ 1) : Sm 57 (lin (mF ms) (ps p) c) ∧ Sm 61 (lin (mF ms) (ps p) c - r) ∧ Sm 61 (lin (mF ms) (ps p) c + r) := by
  have := vs_sm (ms := ms) (by omega) (sm2 hq) h.sc h.sp
  exact ⟨this, sub_sm this h.sr, this.add h.sr⟩
theorem f8_ok (h1 : Fo c p r) (h2 : Fo c' p' r') (hm : ms.length = 9) (hq : ∀ q ∈ ms, Sm 2 q ∧ q.abs ≤ 1) (hu : Va c p r (mF ms) u) (su : Sm 100 u) {all : List D} {x : Option D} : forL none all (fbd G (callK G (k + 15)) (.name 16) b_law_8) [fr (lin (mF ms) (ps p') c' - r'), fr (lin (mF ms) (ps p') c'), fr (lin (mF ms) (ps p') c' + r')] [x0, some (.ref 0), x2, some (fmD c p r), some (fmD c' p' r'), x5, x6, x7, some (fr y), some (fr e), some (sp c (c + e)), x11, some (.lst (ms.map fr)), x13, some (vsD (lin (mF ms) (ps p') c') r'), some (fr u), x, x17, x18, x19, x20, x21, x22, x23, x24, x25, x26, x27, x28] S = some (.nx [x0, some (.ref 0), x2, some (fmD c p r), some (fmD c' p' r'), x5, x6, x7, some (fr y), some (fr e), some (sp c (c + e)), x11, some (.lst (ms.map fr)), x13, some (vsD (lin (mF ms) (ps p') c') r'), some (fr u), some (fr (lin (mF ms) (ps p') c' + r')), x17, x18, x19, x20, x21, x22, x23, x24, x25, x26, x27, x28], S) := by
  obtain ⟨s1, s2, s3⟩ := vs_s h2 hm hq
  rw [forL_cons (b8_ok (y := y) (e := e) (v := lin (mF ms) (ps p') c' - r') h1 h2 hm hq hu (va_lo h2) su (s2.mono (by decide))), forL_cons (b8_ok (y := y) (e := e) (v := lin (mF ms) (ps p') c') h1 h2 hm hq hu (va_mid h2) su (s1.mono (by decide))), forL_cons (b8_ok (y := y) (e := e) (v := lin (mF ms) (ps p') c' + r') h1 h2 hm hq hu (va_hi h2) su (s3.mono (by decide))), forL_nil]
theorem sm_coarse (h : Fo c p r) : Sm 49 (crs 4 false c) ∧ (∀ j, Sm 49 (crs 4 false (p j))) ∧ Sm 1700 (crs 4 true (csr c p r)) := by
  refine ⟨(crs_sm h.sc (by decide)).mono (by decide), fun j => (crs_sm (h.sp j) (by decide)).mono (by decide), ?_⟩
  exact (crs_sm (csr_sm h.sc h.sp h.sr (by decide)) (by decide)).mono (by decide)
theorem neg_abs {q : Rat} : (-q).abs = q.abs := by unfold Rat.abs; split <;> split <;> grind
theorem b7_ok (h1 : Fo c p r) (h2 : Fo c' p' r') (hm : ms.length = 9) (hq : ∀ q ∈ ms, Sm 2 q ∧ q.abs ≤ 1) (sy : Sm 3 y) (by4 : y.abs ≤ 4) (se : Sm 3 e) (e0 : 0 ≤ e) (e2 : e ≤ 2) (hu : Va c p r (mF ms) u) (su : Sm 100 u) {x y16 y17 : Option D} : fbd G (callK G (k + 15)) (.name 15) b_law_7 (fr u) [x0, some (.ref 0), x2, some (fmD c p r), some (fmD c' p' r'), x5, x6, x7, some (fr y), some (fr e), some (sp c (c + e)), x11, some (.lst (ms.map fr)), x13, some (vsD (lin (mF ms) (ps p') c') r'), x, y16, y17, x18, x19, x20, x21, x22, x23, x24, x25, x26, x27, x28] S = some (.nx [x0, some (.ref 0), x2, some (fmD c p r), some (fmD c' p' r'), x5, x6, x7, some (fr y), some (fr e), some (sp c (c + e)), x11, some (.lst (ms.map fr)), x13, some (vsD (lin (mF ms) (ps p') c') r'), some (fr u), some (fr (lin (mF ms) (ps p') c' + r')), some (fr (-e)), x18, x19, x20, x21, x22, x23, x24, x25, x26, x27, x28], S) := by
  have s := sm2 hq
  have hf := f1_ms hq
  have nine : 9 ≤ ms.length := by omega
  have f8 := fun all => f8_ok (k := k) (S := S) (y := y) (e := e) (all := all) (x := y16) (x0 := x0) (x2 := x2) (x5 := x5) (x6 := x6) (x7 := x7) (x11 := x11) (x13 := x13) (x17 := y17) (x18 := x18) (x19 := x19) (x20 := x20) (x21 := x21) (x22 := x22) (x23 := x23) (x24 := x24) (x25 := x25) (x26 := x26) (x27 := x27) (x28 := x28) h1 h2 hm hq hu su
  have e1 := scaled_ok (k := k + 11) (S := S) h1.f9 h1.sc h1.sp h1.sr sy (by decide) (by decide)
  have e2 := prod2 (k := k + 13) (S := S) (n := 100) su (sy.mono (by decide)) (by decide)
  have e3 := takes_ok (k := k + 10) (S := S) (ms := ms) (n := 7) (m := 2) nine s ((h1.sc.mul sy).mono (by decide)) (fun j => ((h1.sp j).mul sy).mono (by decide)) ((h1.sr.mul sy.abs).mono (by decide)) ((su.mul sy).mono (by decide)) (by decide) (by decide) (by decide) (va_tk (va_scaled (b := y) hu))
  have e4 := turned_ok (k := k + 10) (S := S) h1.f9 h1.sc h1.sp h1.sr (by decide)
  have e5 := takes_ok (k := k + 10) (S := S) (ms := ms) (n := 7) (m := 2) nine s (h1.sc.neg.mono (by decide)) (fun j => (h1.sp j).neg.mono (by decide)) (h1.sr.mono (by decide)) (su.neg.mono (by decide)) (by decide) (by decide) (by decide) (va_tk (va_turned hu))
  have ea : e.abs ≤ e := by unfold Rat.abs; rw [if_pos e0]; exact Rat.le_refl
  have f9 : ∀ all, forL none all (fbd G (callK G (k + 15)) (.name 17) b_law_9) [fr e, fr (-e)] [x0, some (.ref 0), x2, some (fmD c p r), some (fmD c' p' r'), x5, x6, x7, some (fr y), some (fr e), some (sp c (c + e)), x11, some (.lst (ms.map fr)), x13, some (vsD (lin (mF ms) (ps p') c') r'), some (fr u), some (fr (lin (mF ms) (ps p') c' + r')), y17, x18, x19, x20, x21, x22, x23, x24, x25, x26, x27, x28] S = some (.nx [x0, some (.ref 0), x2, some (fmD c p r), some (fmD c' p' r'), x5, x6, x7, some (fr y), some (fr e), some (sp c (c + e)), x11, some (.lst (ms.map fr)), x13, some (vsD (lin (mF ms) (ps p') c') r'), some (fr u), some (fr (lin (mF ms) (ps p') c' + r')), some (fr (-e)), x18, x19, x20, x21, x22, x23, x24, x25, x26, x27, x28], S) := fun all => by
    rw [forL_cons (b9_ok (v := e) h1 hm hq se hu su ea se), forL_cons (b9_ok (v := -e) h1 hm hq se hu su (neg_abs (q := e) ▸ ea) se.neg), forL_nil]
  have e6 := marked_ok (k := k + 11) (S := S) (c := c) (r := r) (j := 7) h1.f9 (by decide) h1.sp sy (by decide) (by decide)
  rw [show (((7 : Nat) : Int)) = 7 from rfl] at e6
  have i7 := idx_ms (ms := ms) (j := 7) (by omega)
  rw [show (((7 : Nat) : Int)) = 7 from rfl] at i7
  have s7 := ms_sm s (j := 7) (by omega)
  have e7 := prod2 (k := k + 13) (S := S) (n := 3) sy (s7.mono (by decide)) (by decide)
  have e8 := sum2 (k := k + 13) (S := S) (n := 100) su ((sy.mul s7).mono (by decide)) (by decide)
  have e9 := takes_ok (k := k + 10) (S := S) (ms := ms) (n := 7) (m := 2) nine s (h1.sc.mono (by decide)) (fun j => by
    show Sm 7 (if j = 7 then p 7 + y else p j)
    split
    · exact (h1.sp 7).add sy
    · exact (h1.sp j).mono (by decide)) (h1.sr.mono (by decide)) ((su.add (sy.mul s7)).mono (by decide)) (by decide) (by decide) (by decide) (va_tk (va_marked (b := y) hu))
  have e10 := coarse_straight_ok (k := k + 8) (S := S) h1.f9 h1.sc h1.sp h1.sr (by decide)
  obtain ⟨g1, g2, g3⟩ := sm_coarse h1
  have e11 := takes_ok (k := k + 10) (S := S) (ms := ms) (n := 49) (m := 2) nine s g1 g2 (g3.mono (by decide)) (su.mono (by decide)) (by decide) (by decide) (by decide) (va_tk (va_coarse hf hu))
  have iv : ∀ {a b : Rat}, itemsOf S (vsD a b) = some ([fr (a - b), fr a, fr (a + b)], none) := nrfl rfl
  unfold fbd
  simp only [E1, E2, E3, E4, E5, E6, E7, E8, E9, List.map_cons, List.map_nil, List.cons_append, List.nil_append, List.append_nil, List.length_cons, List.length_nil, List.replicate_zero, List.replicate_succ, Nat.sub_self, Nat.zero_add, List.getElem?_cons_zero, List.getElem?_cons_succ, List.set_cons_zero, List.set_cons_succ, if_true, if_false, Bool.false_eq_true, decide_true, decide_false, Bool.not_true, Bool.not_false, decide_eq_true_eq, eq_self, Int.cast_ofNat_Int, Int.natCast_zero, Int.natCast_one, Nat.reduceLeDiff, Nat.reduceSub, Nat.reduceAdd, Nat.reduceLT, reduceIte, reduceCtorEq, Int.reduceEq, Int.reduceLT, Int.reduceLE, Int.reduceNeg, Int.reduceAdd, Int.reduceSub, Int.reduceMul, Int.reduceNe, Int.reduceBNe, Int.reduceBEq, b_law_7, iv, f8, e1, e2, e3, idx_fr0, idx_fr1, neg_fr, e4, e5, f9, e6, i7, e7, e8, e9, e10, e11]
end

end Rw.Pk12

set_option exponentiation.threshold 300
namespace Rw.Pk12
open PySem L2 Rw
section
variable {k : Nat} {S T : Sto} {L : List D} {a : Int} {p p' : Nat → Rat} {c c' r r' y e u v : Rat} {n m : Nat} {l : ML} {ms : List Rat} {x0 x1 x2 x3 x4 x5 x6 x7 x8 x9 x10 x11 x12 x13 x14 x15 x16 x17 x18 x19 x20 x21 x22 x23 x24 x25 x26 x27 x28 : Option D}
theorem one_sm {j : Nat} {q : Rat} (h : Sm (n + 1) q) : ∀ i, Sm (n + 1) (one1 j q i) := fun i => by
  unfold one1
  split
  · exact h
  · exact sm_zero
theorem zero_sm : ∀ i : Nat, Sm (n + 1) ((fun _ => 0 : Nat → Rat) i) := fun _ => sm_zero
theorem sab_one {q : Rat} : sab (one1 3 q) = q.abs := by
  rw [sab9]
  show ((0 : Rat).abs + (0 : Rat).abs + (0 : Rat).abs + q.abs + (0 : Rat).abs + (0 : Rat).abs + (0 : Rat).abs + (0 : Rat).abs + (0 : Rat).abs) = q.abs
  rw [abs0]
  grind
theorem sab_zero : sab (fun _ => 0) = 0 := by
  rw [sab9]
  show S9 (fun _ => (0 : Rat).abs) = 0
  rw [abs0]
  exact S9_0
theorem mid_half : c + e - mid c (c + e) = e * (1 / 2) := by unfold mid; grind
theorem mid_half' : c + e * (1 / 2) = mid c (c + e) := by unfold mid; grind
theorem half_nn (e0 : 0 ≤ e) : (e * (1 / 2)).abs = e * (1 / 2) := by
  unfold Rat.abs
  rw [if_pos (Rat.mul_nonneg e0 (by decide +kernel))]
theorem own_in {t : Rat} (e0 : 0 ≤ e) (t0 : 0 ≤ t) (t1 : t ≤ 1) : mid c (c + e) - e * (1 / 2) ≤ c + e * t ∧ c + e * t ≤ mid c (c + e) + e * (1 / 2) := by
  have h1 := Rat.mul_nonneg e0 t0
  have h2 := Rat.mul_le_mul_of_nonneg_left t1 e0
  rw [Rat.mul_one] at h2
  unfold mid
  constructor <;> grind
theorem b4_ok (hL : IntL L) (ha : 0 ≤ a) (h1 : Fo c p r) (h2 : Fo c' p' r') (sy : Sm 3 y) (by4 : y.abs ≤ 4) (se : Sm 3 e) (e0 : 0 ≤ e) (e2' : e ≤ 2) {x : D} : ∃ (ms : List Rat) (o : Rat) (b : Int), 0 ≤ b ∧ fbd G (callK G (k + 15)) (.name 11) b_law_4 x [x0, some (.ref 0), x2, some (fmD c p r), some (fmD c' p' r'), x5, x6, x7, some (fr y), some (fr e), some (sp c (c + e)), x11, x12, x13, x14, x15, x16, x17, x18, x19, x20, x21, x22, x23, x24, x25, x26, x27, x28] (wC L a :: T) = some (.nx [x0, some (.ref 0), x2, some (fmD c p r), some (fmD c' p' r'), x5, x6, x7, some (fr y), some (fr e), some (sp c (c + e)), some (x), some (.lst (ms.map fr)), some (vsD (lin (mF ms) (ps p) c) r), some (vsD (lin (mF ms) (ps p') c') r'), some (fr (lin (mF ms) (ps p) c + r)), some (fr (lin (mF ms) (ps p') c' + r')), some (fr (-e)), some (fr o), x19, x20, x21, x22, x23, x24, x25, x26, x27, x28], wC L b :: T) := by
  have r9 : rngD [.int 9] = some ((List.range 9).map fun (i : Nat) => D.int (i : Int)) := rng_nat (n := 9) (by decide)
  have z9 : (9 : Nat) ≤ sizeLine := le_size (by decide)
  obtain ⟨ms, b, hb, hm, hq, cm⟩ := marks_ok (k := k) (T := T) hL (all := (List.range 9).map fun (i : Nat) => D.int (i : Int)) ((List.range 9).map fun (i : Nat) => D.int (i : Int)) a [] ha (x0 := x0) (x2 := x2) (x3 := some (fmD c p r)) (x4 := some (fmD c' p' r')) (x5 := x5) (x6 := x6) (x7 := x7) (x8 := some (fr y)) (x9 := some (fr e)) (x10 := some (sp c (c + e))) (x11 := some (x)) (x12 := x12) (x13 := x13) (x14 := x14) (x15 := x15) (x16 := x16) (x17 := x17) (x18 := x18) (x19 := x19) (x20 := x20) (x21 := x21) (x22 := x22) (x23 := x23) (x24 := x24) (x25 := x25) (x26 := x26) (x27 := none) (x28 := x28)
  rw [List.length_map, List.length_range] at hm
  have cm' : compL none ((List.range 9).map fun (i : Nat) => D.int (i : Int)) (ctn G (callK G (k + 15)) e_law_5 (.name 27) .none [x0, some (.ref 0), x2, some (fmD c p r), some (fmD c' p' r'), x5, x6, x7, some (fr y), some (fr e), some (sp c (c + e)), some (x), x12, x13, x14, x15, x16, x17, x18, x19, x20, x21, x22, x23, x24, x25, x26, none, x28]) ((List.range 9).map fun (i : Nat) => D.int (i : Int)) (wC L a :: T) [] = some (ms.map fr, wC L b :: T) := by
    have := cm
    rw [List.nil_append] at this
    exact this
  have s := sm2 hq
  have nine : 9 ≤ ms.length := by omega
  have e1 := values_ok (k := k + 11) (S := wC L b :: T) (ms := ms) (n := 3) (m := 2) nine s h1.sc h1.sp (h1.sr.mono (by decide)) (by decide) (by decide) (by decide)
  have e2 := values_ok (k := k + 11) (S := wC L b :: T) (ms := ms) (n := 3) (m := 2) nine s h2.sc h2.sp (h2.sr.mono (by decide)) (by decide) (by decide) (by decide)
  have e3 := at_ok (k := k + 10) (S := wC L b :: T) (ms := ms) (n := 3) (m := 2) nine s h1.sc h1.sp h1.sr (by decide) (by decide)
  have e4 := same_sp (k := k + 14) (S := wC L b :: T) (c := lin (mF ms) (ps p) c - r) (r := lin (mF ms) (ps p) c + r)
  unfold sp at e4
  obtain ⟨v1, v2, v3⟩ := vs_s h1 hm hq
  have e5 := span_of_ok (k := k + 9) (S := wC L b :: T) h1.sc h1.sp h1.sr (by decide)
  have hf := f1_ms hq
  have q4 := (sab_sm h1.sp).add h1.sr
  have inn : ∀ {q : Rat}, Va c p r (mF ms) q → Sm 100 q → ctn G (callK G (k + 15)) e_law_6 (.name 18) k_law_6 [x0, some (.ref 0), x2, some (fmD c p r), some (fmD c' p' r'), x5, x6, x7, some (fr y), some (fr e), some (sp c (c + e)), some (x), some (.lst (ms.map fr)), some (vsD (lin (mF ms) (ps p) c) r), some (vsD (lin (mF ms) (ps p') c') r'), x15, x16, x17, none, x19, x20, x21, x22, x23, x24, x25, x26, x27, x28] (fr q) (wC L b :: T) = some (none, wC L b :: T) := fun {q} hv sq => by
    have e6 := in_ok (k := k + 13) (S := wC L b :: T) (n := 4000) ((sub_sm h1.sc q4).mono (by decide)) ((h1.sc.add q4).mono (by decide)) (sq.mono (by decide)) (by decide)
    obtain ⟨t1, t2⟩ := va_in hf hv
    rw [decide_eq_true t1, decide_eq_true t2] at e6
    unfold sp at e6
    unfold ctn
    simp only [E1, E2, E3, E4, E5, E6, E7, E8, E9, List.map_cons, List.map_nil, List.cons_append, List.nil_append, List.append_nil, List.length_cons, List.length_nil, List.replicate_zero, List.replicate_succ, Nat.sub_self, Nat.zero_add, List.getElem?_cons_zero, List.getElem?_cons_succ, List.set_cons_zero, List.set_cons_succ, if_true, if_false, Bool.false_eq_true, decide_true, decide_false, Bool.not_true, Bool.not_false, decide_eq_true_eq, eq_self, Int.cast_ofNat_Int, Int.natCast_zero, Int.natCast_one, Nat.reduceLeDiff, Nat.reduceSub, Nat.reduceAdd, Nat.reduceLT, reduceIte, reduceCtorEq, Int.reduceEq, Int.reduceLT, Int.reduceLE, Int.reduceNeg, Int.reduceAdd, Int.reduceSub, Int.reduceMul, Int.reduceNe, Int.reduceBNe, Int.reduceBEq, e_law_6, k_law_6, e5, e6, Bool.and_self]
  have cc : ∀ all, compL none all (ctn G (callK G (k + 15)) e_law_6 (.name 18) k_law_6 [x0, some (.ref 0), x2, some (fmD c p r), some (fmD c' p' r'), x5, x6, x7, some (fr y), some (fr e), some (sp c (c + e)), some (x), some (.lst (ms.map fr)), some (vsD (lin (mF ms) (ps p) c) r), some (vsD (lin (mF ms) (ps p') c') r'), x15, x16, x17, none, x19, x20, x21, x22, x23, x24, x25, x26, x27, x28]) [fr (lin (mF ms) (ps p) c - r), fr (lin (mF ms) (ps p) c), fr (lin (mF ms) (ps p) c + r)] (wC L b :: T) [] = some ([], wC L b :: T) := fun all => by
    rw [compL_none (inn (va_lo h1) (v2.mono (by decide))), compL_none (inn (va_mid h1) (v1.mono (by decide))), compL_none (inn (va_hi h1) (v3.mono (by decide))), compL_nil]
  have f7 : ∀ all, forL none all (fbd G (callK G (k + 15)) (.name 15) b_law_7) [fr (lin (mF ms) (ps p) c - r), fr (lin (mF ms) (ps p) c), fr (lin (mF ms) (ps p) c + r)] [x0, some (.ref 0), x2, some (fmD c p r), some (fmD c' p' r'), x5, x6, x7, some (fr y), some (fr e), some (sp c (c + e)), some (x), some (.lst (ms.map fr)), some (vsD (lin (mF ms) (ps p) c) r), some (vsD (lin (mF ms) (ps p') c') r'), x15, x16, x17, x18, x19, x20, x21, x22, x23, x24, x25, x26, x27, x28] (wC L b :: T) = some (.nx [x0, some (.ref 0), x2, some (fmD c p r), some (fmD c' p' r'), x5, x6, x7, some (fr y), some (fr e), some (sp c (c + e)), some (x), some (.lst (ms.map fr)), some (vsD (lin (mF ms) (ps p) c) r), some (vsD (lin (mF ms) (ps p') c') r'), some (fr (lin (mF ms) (ps p) c + r)), some (fr (lin (mF ms) (ps p') c' + r')), some (fr (-e)), x18, x19, x20, x21, x22, x23, x24, x25, x26, x27, x28], wC L b :: T) := fun all => by
    rw [forL_cons (b7_ok (u := lin (mF ms) (ps p) c - r) h1 h2 hm hq sy by4 se e0 e2' (va_lo h1) (v2.mono (by decide))), forL_cons (b7_ok (u := lin (mF ms) (ps p) c) h1 h2 hm hq sy by4 se e0 e2' (va_mid h1) (v1.mono (by decide))), forL_cons (b7_ok (u := lin (mF ms) (ps p) c + r) h1 h2 hm hq sy by4 se e0 e2' (va_hi h1) (v3.mono (by decide))), forL_nil]
  obtain ⟨d, hd, e7⟩ := pick_ok (k := k + 13) (T := T) (a := b) (xs := [D.tup [.int 0, .int 1], .tup [.int 1, .int 1], .tup [.int 1, .int 3]]) hL (List.cons_ne_nil _ _) hb
  have ht : ∃ t : Rat, d = fr t ∧ Sm 3 t ∧ 0 ≤ t ∧ t ≤ 1 := by
    simp only [List.mem_cons, List.not_mem_nil, or_false] at hd
    rcases hd with rfl | rfl | rfl
    · exact ⟨0, fr_zero.symm, sm_zero (n := 2), by decide +kernel, by decide +kernel⟩
    · exact ⟨1, fr_one.symm, ⟨by decide +kernel, by decide +kernel⟩, by decide +kernel, by decide +kernel⟩
    · exact ⟨1 / 3, fr_third.symm, ⟨by decide +kernel, by decide +kernel⟩, by decide +kernel, by decide +kernel⟩
  obtain ⟨t, rfl, st, t0, t1⟩ := ht
  have e8 := prod2 (k := k + 13) (S := wC L (b + 1) :: T) (n := 3) se st (by decide)
  have e9 := sum2 (k := k + 13) (S := wC L (b + 1) :: T) (n := 6) (h1.sc.mono (by decide)) (se.mul st) (by decide)
  have g0 : Sm 7 c := h1.sc.mono (by decide)
  have g1 : Sm 7 (c + e) := h1.sc.add se
  have gm := mid_sm g0 g1
  have gh : Sm 25 (e * (1 / 2)) := (se.mul (show Sm 2 (1 / 2 : Rat) from ⟨by decide +kernel, by decide +kernel⟩)).mono (by decide)
  have e10 := of_span_ok (k := k + 10) (S := wC L (b + 1) :: T) g0 g1 (by decide)
  have e11 := with_rest_ok (k := k + 10) (S := wC L (b + 1) :: T) g0 g1 (by decide)
  rw [mid_half] at e10 e11
  have e12 := span_of_ok (k := k + 9) (S := wC L (b + 1) :: T) (n := 25) (gm.mono (by decide)) (one_sm (j := 3) gh) sm_zero (by decide)
  have e13 := span_of_ok (k := k + 9) (S := wC L (b + 1) :: T) (n := 25) (gm.mono (by decide)) zero_sm gh (by decide)
  rw [sab_one, half_nn e0, Rat.add_zero] at e12
  rw [sab_zero, Rat.zero_add] at e13
  have e14 := in_ok (k := k + 13) (S := wC L (b + 1) :: T) (n := 4000) ((sub_sm gm gh).mono (by decide)) ((gm.add gh).mono (by decide)) ((h1.sc.add (se.mul st)).mono (by decide)) (by decide)
  obtain ⟨w1, w2⟩ := own_in (c := c) e0 t0 t1
  rw [decide_eq_true w1, decide_eq_true w2] at e14
  have iv : ∀ {a b : Rat} {S : Sto}, itemsOf S (vsD a b) = some ([fr (a - b), fr a, fr (a + b)], none) := nrfl rfl
  have i0 : ∀ {a b : Rat} {S : Sto}, idxD S (vsD a b) (.int 0) = some (fr (a - b)) := at_0
  have i2 : ∀ {a b : Rat} {S : Sto}, idxD S (vsD a b) (.int 2) = some (fr (a + b)) := nrfl rfl
  have three : (3 : Nat) ≤ sizeLine := le_size (by decide)
  refine ⟨ms, c + e * t, b + 1, by omega, ?_⟩
  unfold fbd
  unfold sp at e14 ⊢
  unfold sp at f7 cc cm'
  simp only [E1, E2, E3, E4, E5, E6, E7, E8, E9, List.map_cons, List.map_nil, List.cons_append, List.nil_append, List.append_nil, List.length_cons, List.length_nil, List.replicate_zero, List.replicate_succ, Nat.sub_self, Nat.zero_add, List.getElem?_cons_zero, List.getElem?_cons_succ, List.set_cons_zero, List.set_cons_succ, if_true, if_false, Bool.false_eq_true, decide_true, decide_false, Bool.not_true, Bool.not_false, decide_eq_true_eq, eq_self, Int.cast_ofNat_Int, Int.natCast_zero, Int.natCast_one, Nat.reduceLeDiff, Nat.reduceSub, Nat.reduceAdd, Nat.reduceLT, reduceIte, reduceCtorEq, Int.reduceEq, Int.reduceLT, Int.reduceLE, Int.reduceNeg, Int.reduceAdd, Int.reduceSub, Int.reduceMul, Int.reduceNe, Int.reduceBNe, Int.reduceBEq, b_law_4, r9, List.length_map, List.length_range, z9, wipe_nil, wipe_cons, cm', e1, e2, e3, i0, i2, e4, iv, three, cc, ne_l0, f7, e7, e8, e9, e10, e11, e12, e13, e14, Bool.and_self]
end

end Rw.Pk12

set_option exponentiation.threshold 300
namespace Rw.Pk12
open PySem L2 Rw
section
variable {k : Nat} {S T : Sto} {L : List D} {a : Int} {p p' : Nat → Rat} {c c' r r' y e u v : Rat} {n m : Nat} {l : ML} {qs : List Rat}
theorem forL_consO {o : Option Nat} {all : List D} {body : D → Env → Sto → Rs Fl} {ρ ρ1 : Env} {S S1 : Sto} {x : D} {xs : List D} (ho : okS o all S) (h : body x ρ S = some (.nx ρ1, S1)) : forL o all body (x :: xs) ρ S = forL o all body xs ρ1 S1 := by
  simp only [forL, ho, if_true, h, bnd_some]
theorem forL_nilO {o : Option Nat} {all : List D} {body : D → Env → Sto → Rs Fl} {ρ : Env} {S : Sto} (ho : okS o all S) : forL o all body [] ρ S = some (.nx ρ, S) := by
  simp only [forL, ho, if_true]
theorem lsumO_loop {o : Option Nat} {all : List D} {x : Option D} (ho : okS o all S) (hn : n ≤ 4000) : ∀ (qs : List Rat) (q0 : Rat) (m : Nat) (y z : Option D), Sm m q0 → (∀ q ∈ qs, Sm n q) → m + qs.length * (n + 1) ≤ 4000 → ∃ y' z', forL o all (fbd G (callK G (k + 1)) (.tup (.cons (.name 3) (.cons (.name 4) .nil))) b__law_sum_0) (qs.map fr) [x, some (.int q0.num), some (.int (q0.den : Int)), y, z] S = some (.nx [x, some (.int (qs.foldl (· + ·) q0).num), some (.int ((qs.foldl (· + ·) q0).den : Int)), y', z'], S)
  | [], q0, m, y, z, _, _, _ => ⟨y, z, forL_nilO ho⟩
  | q :: qs, q0, m, y, z, h0, hq, hl => by
    have hl' : (qs.length + 1) * (n + 1) = qs.length * (n + 1) + (n + 1) := Nat.succ_mul _ _
    have hl2 : m + ((qs.length + 1) * (n + 1)) ≤ 4000 := hl
    have h1 : Sm n q := hq q List.mem_cons_self
    obtain ⟨y', z', e⟩ := lsumO_loop (o := o) (all := all) (x := x) ho hn qs (q0 + q) (m + n + 1) (some (.int q.num)) (some (.int (q.den : Int))) (h0.add h1) (fun r hr => hq r (List.mem_cons_of_mem _ hr)) (by omega)
    refine ⟨y', z', (forL_consO (ρ1 := [x, some (.int (q0 + q).num), some (.int ((q0 + q).den : Int)), some (.int q.num), some (.int (q.den : Int))]) (S1 := S) ho ?_).trans e⟩
    have o1 := (h0.mono (show m ≤ 4000 by omega)).nm.mulOk h1.dn (by omega)
    have o2 := h1.nm.mulOk (h0.mono (show m ≤ 4000 by omega)).dn (by omega)
    have o3 := (h0.mono (show m ≤ 4000 by omega)).dn.mulOk h1.dn (by omega)
    have hla := least_add (k := k) (S := S) (h0.mono (show m ≤ 4000 by omega)) (h1.mono hn)
    unfold fbd
    simp only [E1, E2, E3, E4, E5, E6, E7, E8, E9, List.map_cons, List.map_nil, List.cons_append, List.nil_append, List.append_nil, List.length_cons, List.length_nil, List.replicate_zero, List.replicate_succ, Nat.sub_self, Nat.zero_add, List.getElem?_cons_zero, List.getElem?_cons_succ, List.set_cons_zero, List.set_cons_succ, if_true, if_false, Bool.false_eq_true, decide_true, decide_false, Bool.not_true, Bool.not_false, decide_eq_true_eq, eq_self, Int.cast_ofNat_Int, Int.natCast_zero, Int.natCast_one, Nat.reduceLeDiff, Nat.reduceSub, Nat.reduceAdd, Nat.reduceLT, reduceIte, reduceCtorEq, Int.reduceEq, Int.reduceLT, Int.reduceLE, Int.reduceNeg, Int.reduceAdd, Int.reduceSub, Int.reduceMul, Int.reduceNe, Int.reduceBNe, Int.reduceBEq, b__law_sum_0, fr, o1, o2, o3]
    rw [hla]
    simp only [E1, E2, E3, E4, E5, E6, E7, E8, E9, List.map_cons, List.map_nil, List.cons_append, List.nil_append, List.append_nil, List.length_cons, List.length_nil, List.replicate_zero, List.replicate_succ, Nat.sub_self, Nat.zero_add, List.getElem?_cons_zero, List.getElem?_cons_succ, List.set_cons_zero, List.set_cons_succ, if_true, if_false, Bool.false_eq_true, decide_true, decide_false, Bool.not_true, Bool.not_false, decide_eq_true_eq, eq_self, Int.cast_ofNat_Int, Int.natCast_zero, Int.natCast_one, Nat.reduceLeDiff, Nat.reduceSub, Nat.reduceAdd, Nat.reduceLT, reduceIte, reduceCtorEq, Int.reduceEq, Int.reduceLT, Int.reduceLE, Int.reduceNeg, Int.reduceAdd, Int.reduceSub, Int.reduceMul, Int.reduceNe, Int.reduceBNe, Int.reduceBEq, fr]
theorem lsum_ref {i : Nat} (hS : S[i]? = some (.lst (qs.map fr))) (hq : ∀ q ∈ qs, Sm n q) (hn : n ≤ 4000) (hl : 1 + qs.length * (n + 1) ≤ 4000) : callK G (k + 2) i__law_sum [.ref i] S = some (fr (frSum qs), S) := by
  rw [call_fn g__law_sum rfl]
  have h0 : Sm 1 0 := ⟨by decide, by decide⟩
  obtain ⟨y, z, e⟩ := lsumO_loop (k := k) (S := S) (o := some i) (all := qs.map fr) (x := some (.ref i)) hS hn qs 0 1 none none h0 hq hl
  rw [show (0 : Rat).num = 0 from rfl, show (((0 : Rat).den : Nat) : Int) = 1 from rfl] at e
  have it : itemsOf S (.ref i) = some (qs.map fr, some i) := by simp only [itemsOf, hS]
  simp only [E1, E2, E3, E4, E5, E6, E7, E8, E9, List.map_cons, List.map_nil, List.cons_append, List.nil_append, List.append_nil, List.length_cons, List.length_nil, List.replicate_zero, List.replicate_succ, Nat.sub_self, Nat.zero_add, List.getElem?_cons_zero, List.getElem?_cons_succ, List.set_cons_zero, List.set_cons_succ, if_true, if_false, Bool.false_eq_true, decide_true, decide_false, Bool.not_true, Bool.not_false, decide_eq_true_eq, eq_self, Int.cast_ofNat_Int, Int.natCast_zero, Int.natCast_one, Nat.reduceLeDiff, Nat.reduceSub, Nat.reduceAdd, Nat.reduceLT, reduceIte, reduceCtorEq, Int.reduceEq, Int.reduceLT, Int.reduceLE, Int.reduceNeg, Int.reduceAdd, Int.reduceSub, Int.reduceMul, Int.reduceNe, Int.reduceBNe, Int.reduceBEq, f__law_sum, it, e]
  rfl
theorem frSum_ap {xs : List Rat} {q : Rat} : frSum (xs ++ [q]) = frSum xs + q := by
  unfold frSum
  rw [List.foldl_append]
  rfl
theorem max_abs {q : Rat} : D.tup [.int (if 0 - q.num > q.num then 0 - q.num else q.num), .int (q.den : Int)] = fr q.abs := by
  rw [fr_abs, show (if 0 - q.num > q.num then 0 - q.num else q.num) = if q.num < 0 then -q.num else q.num by split <;> split <;> omega]
/-! straight forms that the law writes itself -/
theorem bls_map {α : Type} {f : α → Bool} : ∀ xs : List α, blsD (xs.map fun x => D.bl (f x)) = some (xs.map f)
  | [] => rfl
  | x :: xs => by
    show (blsD (xs.map fun x => D.bl (f x))).map _ = _
    rw [Pk12.bls_map xs]
    rfl
theorem is_str {z : Bool} (l : ML) (hl : l.length ≤ 1000) (ha : callK G (k + 3) i_is_ascending [.lst ((l.map fun e => (e.1 : Int)).map D.int)] S = some (.bl z, S)) :
    callK G (k + 4) i_is_straight [.tup [fr c, .tup (l.map mkD), fr r]] S = some (.bl (z && (!(l.map fun e => decide (e.2 = 0)).any id && decide (0 ≤ r.num))), S) := by
  rw [call_fn g_is_straight rfl]
  have c1 : ∀ all, compL none all (ctn G (callK G (k + 3)) e_is_straight_0 (.name 1) .none [some (.tup [fr c, .tup (l.map mkD), fr r]), none, none, none]) (l.map mkD) S [] = some (l.map fun _ => D.bl true, S) := fun all => by
    have := compL_mapT (all := all) (turn := ctn G (callK G (k + 3)) e_is_straight_0 (.name 1) .none [some (.tup [fr c, .tup (l.map mkD), fr r]), none, none, none]) (S := S) (g := mkD) (f := fun _ => D.bl true) (xs := l) (acc := []) fun e he => by
      have e1 := is_tuple_of_tup (k := k + 2) (S := S) (a := [.int (e.1 : Int), fr e.2]) (m := 2)
      have e2 := is_from_int (k := k + 1) (S := S) (a := (e.1 : Int)) (b := 0)
      have e3 := is_fraction_fr (k := k) (S := S) (q := e.2)
      rw [decide_eq_true (show (0 : Int) ≤ (e.1 : Int) by omega)] at e2
      unfold ctn
      simp only [E1, E2, E3, E4, E5, E6, E7, E8, E9, List.map_cons, List.map_nil, List.cons_append, List.nil_append, List.append_nil, List.length_cons, List.length_nil, List.replicate_zero, List.replicate_succ, Nat.sub_self, Nat.zero_add, List.getElem?_cons_zero, List.getElem?_cons_succ, List.set_cons_zero, List.set_cons_succ, if_true, if_false, Bool.false_eq_true, decide_true, decide_false, Bool.not_true, Bool.not_false, decide_eq_true_eq, eq_self, Int.cast_ofNat_Int, Int.natCast_zero, Int.natCast_one, Nat.reduceLeDiff, Nat.reduceSub, Nat.reduceAdd, Nat.reduceLT, reduceIte, reduceCtorEq, Int.reduceEq, Int.reduceLT, Int.reduceLE, Int.reduceNeg, Int.reduceAdd, Int.reduceSub, Int.reduceMul, Int.reduceNe, Int.reduceBNe, Int.reduceBEq, e_is_straight_0, mkD, e1, e2, e3]
    rw [List.nil_append] at this
    exact this
  have c2 : ∀ all, compL none all (ctn G (callK G (k + 3)) e_is_straight_2 (.tup (.cons (.name 2) (.cons (.name 3) .nil))) .none [some (.tup [fr c, .tup (l.map mkD), fr r]), none, none, none]) (l.map mkD) S [] = some ((l.map fun e => (e.1 : Int)).map D.int, S) := fun all => by
    have := compL_mapT (all := all) (turn := ctn G (callK G (k + 3)) e_is_straight_2 (.tup (.cons (.name 2) (.cons (.name 3) .nil))) .none [some (.tup [fr c, .tup (l.map mkD), fr r]), none, none, none]) (S := S) (g := mkD) (f := fun e => D.int (e.1 : Int)) (xs := l) (acc := []) fun e he => by
      unfold ctn
      simp only [E1, E2, E3, E4, E5, E6, E7, E8, E9, List.map_cons, List.map_nil, List.cons_append, List.nil_append, List.append_nil, List.length_cons, List.length_nil, List.replicate_zero, List.replicate_succ, Nat.sub_self, Nat.zero_add, List.getElem?_cons_zero, List.getElem?_cons_succ, List.set_cons_zero, List.set_cons_succ, if_true, if_false, Bool.false_eq_true, decide_true, decide_false, Bool.not_true, Bool.not_false, decide_eq_true_eq, eq_self, Int.cast_ofNat_Int, Int.natCast_zero, Int.natCast_one, Nat.reduceLeDiff, Nat.reduceSub, Nat.reduceAdd, Nat.reduceLT, reduceIte, reduceCtorEq, Int.reduceEq, Int.reduceLT, Int.reduceLE, Int.reduceNeg, Int.reduceAdd, Int.reduceSub, Int.reduceMul, Int.reduceNe, Int.reduceBNe, Int.reduceBEq, e_is_straight_2, mkD]
    rw [List.nil_append] at this
    rw [this, List.map_map]
    rfl
  have c3 : ∀ all, compL none all (ctn G (callK G (k + 3)) e_is_straight_1 (.tup (.cons (.name 3) (.cons (.name 1) .nil))) .none [some (.tup [fr c, .tup (l.map mkD), fr r]), none, none, none]) (l.map mkD) S [] = some (l.map fun e => D.bl (decide (e.2 = 0)), S) := fun all => by
    have := compL_mapT (all := all) (turn := ctn G (callK G (k + 3)) e_is_straight_1 (.tup (.cons (.name 3) (.cons (.name 1) .nil))) .none [some (.tup [fr c, .tup (l.map mkD), fr r]), none, none, none]) (S := S) (g := mkD) (f := fun e => D.bl (decide (e.2 = 0))) (xs := l) (acc := []) fun e he => by
      have e2 := eq_fr (S := S) (p := e.2) (q := 0)
      rw [fr_zero] at e2
      unfold ctn
      simp only [E1, E2, E3, E4, E5, E6, E7, E8, E9, List.map_cons, List.map_nil, List.cons_append, List.nil_append, List.append_nil, List.length_cons, List.length_nil, List.replicate_zero, List.replicate_succ, Nat.sub_self, Nat.zero_add, List.getElem?_cons_zero, List.getElem?_cons_succ, List.set_cons_zero, List.set_cons_succ, if_true, if_false, Bool.false_eq_true, decide_true, decide_false, Bool.not_true, Bool.not_false, decide_eq_true_eq, eq_self, Int.cast_ofNat_Int, Int.natCast_zero, Int.natCast_one, Nat.reduceLeDiff, Nat.reduceSub, Nat.reduceAdd, Nat.reduceLT, reduceIte, reduceCtorEq, Int.reduceEq, Int.reduceLT, Int.reduceLE, Int.reduceNeg, Int.reduceAdd, Int.reduceSub, Int.reduceMul, Int.reduceNe, Int.reduceBNe, Int.reduceBEq, e_is_straight_1, mkD, c_NOTHING, e2]
    rw [List.nil_append] at this
    exact this
  have e1 := is_tuple_of_tup (k := k + 2) (S := S) (a := [fr c, .tup (l.map mkD), fr r]) (m := 3)
  have e2 := is_fraction_fr (k := k) (S := S) (q := c)
  have e3 := is_fraction_fr (k := k) (S := S) (q := r)
  have hz : l.length ≤ sizeLine := le_size (by omega)
  have b1 := Pk12.bls_map (f := fun e : Nat × Rat => decide (e.2 = 0)) l
  cases z with
  | false => simp only [E1, E2, E3, E4, E5, E6, E7, E8, E9, List.map_cons, List.map_nil, List.cons_append, List.nil_append, List.append_nil, List.length_cons, List.length_nil, List.replicate_zero, List.replicate_succ, Nat.sub_self, Nat.zero_add, List.getElem?_cons_zero, List.getElem?_cons_succ, List.set_cons_zero, List.set_cons_succ, if_true, if_false, Bool.false_eq_true, decide_true, decide_false, Bool.not_true, Bool.not_false, decide_eq_true_eq, eq_self, Int.cast_ofNat_Int, Int.natCast_zero, Int.natCast_one, Nat.reduceLeDiff, Nat.reduceSub, Nat.reduceAdd, Nat.reduceLT, reduceIte, reduceCtorEq, Int.reduceEq, Int.reduceLT, Int.reduceLE, Int.reduceNeg, Int.reduceAdd, Int.reduceSub, Int.reduceMul, Int.reduceNe, Int.reduceBNe, Int.reduceBEq, f_is_straight, e1, e2, e3, List.length_map, hz, wipe_nil, wipe_cons, c1, c2, all_l, bls_true, Option.map_some, all_true, ha, Bool.false_and]
  | true =>
    cases q : (l.map fun e => decide (e.2 = 0)).any id with
    | true => simp only [E1, E2, E3, E4, E5, E6, E7, E8, E9, List.map_cons, List.map_nil, List.cons_append, List.nil_append, List.append_nil, List.length_cons, List.length_nil, List.replicate_zero, List.replicate_succ, Nat.sub_self, Nat.zero_add, List.getElem?_cons_zero, List.getElem?_cons_succ, List.set_cons_zero, List.set_cons_succ, if_true, if_false, Bool.false_eq_true, decide_true, decide_false, Bool.not_true, Bool.not_false, decide_eq_true_eq, eq_self, Int.cast_ofNat_Int, Int.natCast_zero, Int.natCast_one, Nat.reduceLeDiff, Nat.reduceSub, Nat.reduceAdd, Nat.reduceLT, reduceIte, reduceCtorEq, Int.reduceEq, Int.reduceLT, Int.reduceLE, Int.reduceNeg, Int.reduceAdd, Int.reduceSub, Int.reduceMul, Int.reduceNe, Int.reduceBNe, Int.reduceBEq, f_is_straight, e1, e2, e3, List.length_map, hz, wipe_nil, wipe_cons, c1, c2, c3, all_l, any_l, bls_true, b1, q, Option.map_some, all_true, ha, Bool.true_and, Bool.not_true, Bool.false_and]
    | false => simp only [E1, E2, E3, E4, E5, E6, E7, E8, E9, List.map_cons, List.map_nil, List.cons_append, List.nil_append, List.append_nil, List.length_cons, List.length_nil, List.replicate_zero, List.replicate_succ, Nat.sub_self, Nat.zero_add, List.getElem?_cons_zero, List.getElem?_cons_succ, List.set_cons_zero, List.set_cons_succ, if_true, if_false, Bool.false_eq_true, decide_true, decide_false, Bool.not_true, Bool.not_false, decide_eq_true_eq, eq_self, Int.cast_ofNat_Int, Int.natCast_zero, Int.natCast_one, Nat.reduceLeDiff, Nat.reduceSub, Nat.reduceAdd, Nat.reduceLT, reduceIte, reduceCtorEq, Int.reduceEq, Int.reduceLT, Int.reduceLE, Int.reduceNeg, Int.reduceAdd, Int.reduceSub, Int.reduceMul, Int.reduceNe, Int.reduceBNe, Int.reduceBEq, f_is_straight, e1, e2, e3, List.length_map, hz, wipe_nil, wipe_cons, c1, c2, c3, all_l, any_l, bls_true, b1, q, Option.map_some, all_true, ha, idx_fr0, Bool.true_and, Bool.not_false]
theorem asc_21 : callK G (k + 1) i_is_ascending [.lst [.int 2, .int 1]] S = some (.bl false, S) := by
  rw [call_fn g_is_ascending rfl]
  have rr : rngD [.int 1] = some [.int 0] := rfl
  have c1 : ∀ all, compL none all (ctn G (callK G k) e_is_ascending_0 (.name 1) .none [some (.lst [.int 2, .int 1]), none]) [.int 0] S [] = some ([.bl false], S) := fun all => by
    have t : ctn G (callK G k) e_is_ascending_0 (.name 1) .none [some (.lst [.int 2, .int 1]), none] (.int 0) S = some (some (.bl false), S) := by
      have a1 : atI [D.int 2, .int 1] 0 = some (.int 2) := rfl
      have a2 : atI [D.int 2, .int 1] 1 = some (.int 1) := rfl
      unfold ctn
      simp only [E1, E2, E3, E4, E5, E6, E7, E8, E9, List.map_cons, List.map_nil, List.cons_append, List.nil_append, List.append_nil, List.length_cons, List.length_nil, List.replicate_zero, List.replicate_succ, Nat.sub_self, Nat.zero_add, List.getElem?_cons_zero, List.getElem?_cons_succ, List.set_cons_zero, List.set_cons_succ, if_true, if_false, Bool.false_eq_true, decide_true, decide_false, Bool.not_true, Bool.not_false, decide_eq_true_eq, eq_self, Int.cast_ofNat_Int, Int.natCast_zero, Int.natCast_one, Nat.reduceLeDiff, Nat.reduceSub, Nat.reduceAdd, Nat.reduceLT, reduceIte, reduceCtorEq, Int.reduceEq, Int.reduceLT, Int.reduceLE, Int.reduceNeg, Int.reduceAdd, Int.reduceSub, Int.reduceMul, Int.reduceNe, Int.reduceBNe, Int.reduceBEq, e_is_ascending_0, a1, a2]
    rw [compL_some t, compL_nil]
    rfl
  have one : (1 : Nat) ≤ sizeLine := le_size (by decide)
  have b1 : blsD [.bl false] = some [false] := rfl
  simp only [E1, E2, E3, E4, E5, E6, E7, E8, E9, List.map_cons, List.map_nil, List.cons_append, List.nil_append, List.append_nil, List.length_cons, List.length_nil, List.replicate_zero, List.replicate_succ, Nat.sub_self, Nat.zero_add, List.getElem?_cons_zero, List.getElem?_cons_succ, List.set_cons_zero, List.set_cons_succ, if_true, if_false, Bool.false_eq_true, decide_true, decide_false, Bool.not_true, Bool.not_false, decide_eq_true_eq, eq_self, Int.cast_ofNat_Int, Int.natCast_zero, Int.natCast_one, Nat.reduceLeDiff, Nat.reduceSub, Nat.reduceAdd, Nat.reduceLT, reduceIte, reduceCtorEq, Int.reduceEq, Int.reduceLT, Int.reduceLE, Int.reduceNeg, Int.reduceAdd, Int.reduceSub, Int.reduceMul, Int.reduceNe, Int.reduceBNe, Int.reduceBEq, f_is_ascending, rr, one, wipe_nil, wipe_cons, c1, all_l, b1, Option.map_some]
  rfl
theorem str3 : callK G (k + 4) i_is_straight [.tup [.tup [.int 0, .int 1], .tup [.tup [.int 1, .tup [.int 0, .int 1]]], .tup [.int 0, .int 1]]] S = some (.bl false, S) := by
  have h := is_str (k := k) (S := S) (c := 0) (r := 0) (z := true) [(1, 0)] (by simp) (ascending_ok (k := k + 2) (S := S) (ks := [1]) (by simp) (by simp))
  have e : ((true && (!([((1 : Nat), (0 : Rat))].map fun e => decide (e.2 = 0)).any id && decide (0 ≤ (0 : Rat).num)))) = false := by decide +kernel
  rw [e] at h
  exact h
theorem str5 : callK G (k + 4) i_is_straight [.tup [.tup [.int 0, .int 1], .tup [.tup [.int 2, .tup [.int 1, .int 1]], .tup [.int 1, .tup [.int 1, .int 1]]], .tup [.int 0, .int 1]]] S = some (.bl false, S) := by
  have h := is_str (k := k) (S := S) (c := 0) (r := 0) (z := false) [(2, 1), (1, 1)] (by simp) (asc_21 (k := k + 2))
  rw [Bool.false_and] at h
  exact h
theorem str6 : callK G (k + 4) i_is_straight [.tup [.tup [.int 0, .int 1], .tup [], .tup [.int (-1), .int 2]]] S = some (.bl false, S) := by
  have h := is_str (k := k) (S := S) (c := 0) (r := -1 / 2) (z := true) [] (by simp) (ascending_ok (k := k + 2) (S := S) (ks := []) .nil (by simp))
  have e : ((true && (!(([] : ML).map fun e => decide (e.2 = 0)).any id && decide (0 ≤ (-1 / 2 : Rat).num)))) = false := by decide +kernel
  have e2 : fr (-1 / 2) = .tup [.int (-1), .int 2] := by
    have : (-1 / 2 : Rat) = Rat.divInt (-1) 2 := by decide +kernel
    rw [this]
    rfl
  rw [e, e2] at h
  exact h
theorem str1 {x : List D} : callK G (k + 4) i_is_straight [.lst x] S = some (.bl false, S) := by
  rw [call_fn g_is_straight rfl]
  have e1 := is_tuple_of_lst (k := k + 2) (S := S) (a := x) (m := 3)
  simp only [E1, E2, E3, E4, E5, E6, E7, E8, E9, List.map_cons, List.map_nil, List.cons_append, List.nil_append, List.append_nil, List.length_cons, List.length_nil, List.replicate_zero, List.replicate_succ, Nat.sub_self, Nat.zero_add, List.getElem?_cons_zero, List.getElem?_cons_succ, List.set_cons_zero, List.set_cons_succ, if_true, if_false, Bool.false_eq_true, decide_true, decide_false, Bool.not_true, Bool.not_false, decide_eq_true_eq, eq_self, Int.cast_ofNat_Int, Int.natCast_zero, Int.natCast_one, Nat.reduceLeDiff, Nat.reduceSub, Nat.reduceAdd, Nat.reduceLT, reduceIte, reduceCtorEq, Int.reduceEq, Int.reduceLT, Int.reduceLE, Int.reduceNeg, Int.reduceAdd, Int.reduceSub, Int.reduceMul, Int.reduceNe, Int.reduceBNe, Int.reduceBEq, f_is_straight, e1]
theorem str2 {x x' : D} : callK G (k + 4) i_is_straight [.tup [x, x']] S = some (.bl false, S) := by
  rw [call_fn g_is_straight rfl]
  have e1 := is_tuple_of_tup (k := k + 2) (S := S) (a := [x, x']) (m := 3)
  simp only [E1, E2, E3, E4, E5, E6, E7, E8, E9, List.map_cons, List.map_nil, List.cons_append, List.nil_append, List.append_nil, List.length_cons, List.length_nil, List.replicate_zero, List.replicate_succ, Nat.sub_self, Nat.zero_add, List.getElem?_cons_zero, List.getElem?_cons_succ, List.set_cons_zero, List.set_cons_succ, if_true, if_false, Bool.false_eq_true, decide_true, decide_false, Bool.not_true, Bool.not_false, decide_eq_true_eq, eq_self, Int.cast_ofNat_Int, Int.natCast_zero, Int.natCast_one, Nat.reduceLeDiff, Nat.reduceSub, Nat.reduceAdd, Nat.reduceLT, reduceIte, reduceCtorEq, Int.reduceEq, Int.reduceLT, Int.reduceLE, Int.reduceNeg, Int.reduceAdd, Int.reduceSub, Int.reduceMul, Int.reduceNe, Int.reduceBNe, Int.reduceBEq, f_is_straight, e1]
theorem str4 : callK G (k + 4) i_is_straight [.non] S = some (.bl false, S) := by
  rw [call_fn g_is_straight rfl]
  have e1 := is_tuple_of_non (k := k + 2) (S := S) (m := 3)
  simp only [E1, E2, E3, E4, E5, E6, E7, E8, E9, List.map_cons, List.map_nil, List.cons_append, List.nil_append, List.append_nil, List.length_cons, List.length_nil, List.replicate_zero, List.replicate_succ, Nat.sub_self, Nat.zero_add, List.getElem?_cons_zero, List.getElem?_cons_succ, List.set_cons_zero, List.set_cons_succ, if_true, if_false, Bool.false_eq_true, decide_true, decide_false, Bool.not_true, Bool.not_false, decide_eq_true_eq, eq_self, Int.cast_ofNat_Int, Int.natCast_zero, Int.natCast_one, Nat.reduceLeDiff, Nat.reduceSub, Nat.reduceAdd, Nat.reduceLT, reduceIte, reduceCtorEq, Int.reduceEq, Int.reduceLT, Int.reduceLE, Int.reduceNeg, Int.reduceAdd, Int.reduceSub, Int.reduceMul, Int.reduceNe, Int.reduceBNe, Int.reduceBEq, f_is_straight, e1]
theorem lst_fm : biD S .list [fmD c p r] = some (.lst [fr c, .tup ((ps p).map mkD), fr r]) := nrfl rfl
theorem cut_fm : slD S (fmD c p r) none (some 2) = some (.tup [fr c, .tup ((ps p).map mkD)]) := by
  show some (D.tup (cutD _ none (some 2))) = _
  rfl
theorem ps_one {q : Rat} : ps (one1 3 q) = if q = 0 then [] else [(3, q)] := by
  have h : ∀ j ∈ List.range 9, (fun j => if one1 3 q j = 0 then none else some (j, one1 3 q j)) j = (fun j => if j = 3 then (if q = 0 then none else some (3, q)) else none) j := fun j _ => by
    show (if one1 3 q j = 0 then none else some (j, one1 3 q j)) = _
    unfold one1
    by_cases c : j = 3
    · subst c
      simp
    · simp [c]
  unfold ps
  rw [fm_congr h]
  by_cases z : q = 0
  · simp [z, List.range, List.range.loop]
  · simp [z, List.range, List.range.loop]
theorem fm_one {q u : Rat} : fmD u (one1 3 q) 0 = .tup [fr u, (if q.num ≠ 0 then .tup [.tup [.int 3, fr q]] else .tup []), .tup [.int 0, .int 1]] := by
  unfold fmD
  rw [ps_one]
  by_cases z : q = 0
  · subst z
    rfl
  · have zn : q.num ≠ 0 := fun h => z (Rat.num_eq_zero.mp h)
    rw [if_neg z, if_pos zn]
    rfl
theorem least_half : Rat.divInt e.num ((e.den : Int) * 2) = e * (1 / 2) := by
  rw [mul_eq, show ((1 : Rat) / 2).num = 1 by decide +kernel, show ((1 : Rat) / 2).den = 2 by decide +kernel, Int.mul_one]
  rfl
end

end Rw.Pk12

set_option exponentiation.threshold 300
namespace Rw.Pk12
open PySem L2 Rw
section
variable {k : Nat} {S T : Sto} {L : List D} {a : Int} {p p' : Nat → Rat} {c c' r r' y e u v : Rat} {n m : Nat} {l : ML} {ms : List Rat} {x0 x1 x2 x3 x4 x5 x6 x7 x8 x9 x10 x11 x12 x13 x14 x15 x16 x17 x18 x19 x20 x21 x22 x23 x24 x25 x26 x27 x28 : Option D}
theorem st0 {c p r c' p' r' S1 S2} (e1 : (callK G (k + 15)) i__law_form [.ref 0] S = some (fmD c p r, S1)) (e2 : (callK G (k + 15)) i__law_form [.ref 0] S1 = some (fmD c' p' r', S2)) : evS G (callK G (k + 15)) s_law_1_0 [x0, some (.ref 0), x2, x3, x4, x5, x6, x7, x8, x9, x10, x11, x12, x13, x14, x15, x16, x17, x18, x19, x20, x21, x22, x23, x24, x25, x26, x27, x28] S = some (.nx [x0, some (.ref 0), x2, some (fmD c p r), some (fmD c' p' r'), x5, x6, x7, x8, x9, x10, x11, x12, x13, x14, x15, x16, x17, x18, x19, x20, x21, x22, x23, x24, x25, x26, x27, x28], S2) := by
  simp only [E1, E2, E3, E4, E5, E6, E7, E8, E9, List.map_cons, List.map_nil, List.cons_append, List.nil_append, List.append_nil, List.length_cons, List.length_nil, List.replicate_zero, List.replicate_succ, Nat.sub_self, Nat.zero_add, List.getElem?_cons_zero, List.getElem?_cons_succ, List.set_cons_zero, List.set_cons_succ, if_true, if_false, Bool.false_eq_true, decide_true, decide_false, Bool.not_true, Bool.not_false, decide_eq_true_eq, eq_self, Int.cast_ofNat_Int, Int.natCast_zero, Int.natCast_one, Nat.reduceLeDiff, Nat.reduceSub, Nat.reduceAdd, Nat.reduceLT, reduceIte, reduceCtorEq, Int.reduceEq, Int.reduceLT, Int.reduceLE, Int.reduceNeg, Int.reduceAdd, Int.reduceSub, Int.reduceMul, Int.reduceNe, Int.reduceBNe, Int.reduceBEq, s_law_1_0, e1, e2]
theorem st1 : evS G (callK G (k + 15)) s_law_1_1 [x0, some (.ref 0), x2, some (fmD c p r), some (fmD c' p' r'), x5, x6, x7, x8, x9, x10, x11, x12, x13, x14, x15, x16, x17, x18, x19, x20, x21, x22, x23, x24, x25, x26, x27, x28] S = some (.nx [x0, some (.ref 0), x2, some (fmD c p r), some (fmD c' p' r'), some (.lst [.lst [fr c, .tup ((ps p).map mkD), fr r], .tup [fr c, .tup ((ps p).map mkD)], .tup [.tup [.int 0, .int 1], .tup [.tup [.int 1, .tup [.int 0, .int 1]]], .tup [.int 0, .int 1]], .non]), x6, x7, x8, x9, x10, x11, x12, x13, x14, x15, x16, x17, x18, x19, x20, x21, x22, x23, x24, x25, x26, x27, x28], S) := by
  simp only [E1, E2, E3, E4, E5, E6, E7, E8, E9, List.map_cons, List.map_nil, List.cons_append, List.nil_append, List.append_nil, List.length_cons, List.length_nil, List.replicate_zero, List.replicate_succ, Nat.sub_self, Nat.zero_add, List.getElem?_cons_zero, List.getElem?_cons_succ, List.set_cons_zero, List.set_cons_succ, if_true, if_false, Bool.false_eq_true, decide_true, decide_false, Bool.not_true, Bool.not_false, decide_eq_true_eq, eq_self, Int.cast_ofNat_Int, Int.natCast_zero, Int.natCast_one, Nat.reduceLeDiff, Nat.reduceSub, Nat.reduceAdd, Nat.reduceLT, reduceIte, reduceCtorEq, Int.reduceEq, Int.reduceLT, Int.reduceLE, Int.reduceNeg, Int.reduceAdd, Int.reduceSub, Int.reduceMul, Int.reduceNe, Int.reduceBNe, Int.reduceBEq, s_law_1_1, lst_fm, cut_fm]
theorem b2_ok {d : D} {z : Bool} (h : callK G (k + 15) i_is_straight [d] S = some (.bl z, S)) {y6 y7 : Option D} : fbd G (callK G (k + 15)) (.tup (.cons (.name 6) (.cons (.name 7) .nil))) b_law_2 (.tup [d, .bl z]) [x0, some (.ref 0), x2, some (fmD c p r), some (fmD c' p' r'), some (.lst [.lst [fr c, .tup ((ps p).map mkD), fr r], .tup [fr c, .tup ((ps p).map mkD)], .tup [.tup [.int 0, .int 1], .tup [.tup [.int 1, .tup [.int 0, .int 1]]], .tup [.int 0, .int 1]], .non]), y6, y7, x8, x9, x10, x11, x12, x13, x14, x15, x16, x17, x18, x19, x20, x21, x22, x23, x24, x25, x26, x27, x28] S = some (.nx [x0, some (.ref 0), x2, some (fmD c p r), some (fmD c' p' r'), some (.lst [.lst [fr c, .tup ((ps p).map mkD), fr r], .tup [fr c, .tup ((ps p).map mkD)], .tup [.tup [.int 0, .int 1], .tup [.tup [.int 1, .tup [.int 0, .int 1]]], .tup [.int 0, .int 1]], .non]), some (d), some (.bl z), x8, x9, x10, x11, x12, x13, x14, x15, x16, x17, x18, x19, x20, x21, x22, x23, x24, x25, x26, x27, x28], S) := by
  have e1 := same_bl (k := k + 14) (S := S) (b := z)
  unfold fbd
  simp only [E1, E2, E3, E4, E5, E6, E7, E8, E9, List.map_cons, List.map_nil, List.cons_append, List.nil_append, List.append_nil, List.length_cons, List.length_nil, List.replicate_zero, List.replicate_succ, Nat.sub_self, Nat.zero_add, List.getElem?_cons_zero, List.getElem?_cons_succ, List.set_cons_zero, List.set_cons_succ, if_true, if_false, Bool.false_eq_true, decide_true, decide_false, Bool.not_true, Bool.not_false, decide_eq_true_eq, eq_self, Int.cast_ofNat_Int, Int.natCast_zero, Int.natCast_one, Nat.reduceLeDiff, Nat.reduceSub, Nat.reduceAdd, Nat.reduceLT, reduceIte, reduceCtorEq, Int.reduceEq, Int.reduceLT, Int.reduceLE, Int.reduceNeg, Int.reduceAdd, Int.reduceSub, Int.reduceMul, Int.reduceNe, Int.reduceBNe, Int.reduceBEq, b_law_2, h, e1]
theorem st2 (hr : 0 ≤ r) : evS G (callK G (k + 15)) s_law_1_2 [x0, some (.ref 0), x2, some (fmD c p r), some (fmD c' p' r'), some (.lst [.lst [fr c, .tup ((ps p).map mkD), fr r], .tup [fr c, .tup ((ps p).map mkD)], .tup [.tup [.int 0, .int 1], .tup [.tup [.int 1, .tup [.int 0, .int 1]]], .tup [.int 0, .int 1]], .non]), x6, x7, x8, x9, x10, x11, x12, x13, x14, x15, x16, x17, x18, x19, x20, x21, x22, x23, x24, x25, x26, x27, x28] S = some (.nx [x0, some (.ref 0), x2, some (fmD c p r), some (fmD c' p' r'), some (.lst [.lst [fr c, .tup ((ps p).map mkD), fr r], .tup [fr c, .tup ((ps p).map mkD)], .tup [.tup [.int 0, .int 1], .tup [.tup [.int 1, .tup [.int 0, .int 1]]], .tup [.int 0, .int 1]], .non]), some (.tup [.tup [.int 0, .int 1], .tup [], .tup [.int (-1), .int 2]]), some (.bl false), x8, x9, x10, x11, x12, x13, x14, x15, x16, x17, x18, x19, x20, x21, x22, x23, x24, x25, x26, x27, x28], S) := by
  have f2 : ∀ all, forL none all (fbd G (callK G (k + 15)) (.tup (.cons (.name 6) (.cons (.name 7) .nil))) b_law_2) [.tup [fmD c p r, .bl true], .tup [.lst [fr c, .tup ((ps p).map mkD), fr r], .bl false], .tup [.tup [fr c, .tup ((ps p).map mkD)], .bl false], .tup [.tup [.tup [.int 0, .int 1], .tup [.tup [.int 1, .tup [.int 0, .int 1]]], .tup [.int 0, .int 1]], .bl false], .tup [.non, .bl false], .tup [.tup [.tup [.int 0, .int 1], .tup [.tup [.int 2, .tup [.int 1, .int 1]], .tup [.int 1, .tup [.int 1, .int 1]]], .tup [.int 0, .int 1]], .bl false], .tup [.tup [.tup [.int 0, .int 1], .tup [], .tup [.int (-1), .int 2]], .bl false]] [x0, some (.ref 0), x2, some (fmD c p r), some (fmD c' p' r'), some (.lst [.lst [fr c, .tup ((ps p).map mkD), fr r], .tup [fr c, .tup ((ps p).map mkD)], .tup [.tup [.int 0, .int 1], .tup [.tup [.int 1, .tup [.int 0, .int 1]]], .tup [.int 0, .int 1]], .non]), x6, x7, x8, x9, x10, x11, x12, x13, x14, x15, x16, x17, x18, x19, x20, x21, x22, x23, x24, x25, x26, x27, x28] S = some (.nx [x0, some (.ref 0), x2, some (fmD c p r), some (fmD c' p' r'), some (.lst [.lst [fr c, .tup ((ps p).map mkD), fr r], .tup [fr c, .tup ((ps p).map mkD)], .tup [.tup [.int 0, .int 1], .tup [.tup [.int 1, .tup [.int 0, .int 1]]], .tup [.int 0, .int 1]], .non]), some (.tup [.tup [.int 0, .int 1], .tup [], .tup [.int (-1), .int 2]]), some (.bl false), x8, x9, x10, x11, x12, x13, x14, x15, x16, x17, x18, x19, x20, x21, x22, x23, x24, x25, x26, x27, x28], S) := fun all => by
    rw [forL_cons (b2_ok (straight_is (k := k + 11) hr)), forL_cons (b2_ok (str1 (k := k + 11))), forL_cons (b2_ok (str2 (k := k + 11))), forL_cons (b2_ok (str3 (k := k + 11))), forL_cons (b2_ok (str4 (k := k + 11))), forL_cons (b2_ok (str5 (k := k + 11))), forL_cons (b2_ok (str6 (k := k + 11))), forL_nil]
  have cc : ∀ all, compL none all (ctn G (callK G (k + 15)) e_law_3 (.name 18) .none [x0, some (.ref 0), x2, some (fmD c p r), some (fmD c' p' r'), some (.lst [.lst [fr c, .tup ((ps p).map mkD), fr r], .tup [fr c, .tup ((ps p).map mkD)], .tup [.tup [.int 0, .int 1], .tup [.tup [.int 1, .tup [.int 0, .int 1]]], .tup [.int 0, .int 1]], .non]), x6, x7, x8, x9, x10, x11, x12, x13, x14, x15, x16, x17, none, x19, x20, x21, x22, x23, x24, x25, x26, x27, x28]) [.lst [fr c, .tup ((ps p).map mkD), fr r], .tup [fr c, .tup ((ps p).map mkD)], .tup [.tup [.int 0, .int 1], .tup [.tup [.int 1, .tup [.int 0, .int 1]]], .tup [.int 0, .int 1]], .non] S [] = some ([.tup [.lst [fr c, .tup ((ps p).map mkD), fr r], .bl false], .tup [.tup [fr c, .tup ((ps p).map mkD)], .bl false], .tup [.tup [.tup [.int 0, .int 1], .tup [.tup [.int 1, .tup [.int 0, .int 1]]], .tup [.int 0, .int 1]], .bl false], .tup [.non, .bl false]], S) := fun all => by
    have t : ∀ d : D, ctn G (callK G (k + 15)) e_law_3 (.name 18) .none [x0, some (.ref 0), x2, some (fmD c p r), some (fmD c' p' r'), some (.lst [.lst [fr c, .tup ((ps p).map mkD), fr r], .tup [fr c, .tup ((ps p).map mkD)], .tup [.tup [.int 0, .int 1], .tup [.tup [.int 1, .tup [.int 0, .int 1]]], .tup [.int 0, .int 1]], .non]), x6, x7, x8, x9, x10, x11, x12, x13, x14, x15, x16, x17, none, x19, x20, x21, x22, x23, x24, x25, x26, x27, x28] d S = some (some (.tup [d, .bl false]), S) := fun d => by
      unfold ctn
      simp only [E1, E2, E3, E4, E5, E6, E7, E8, E9, List.map_cons, List.map_nil, List.cons_append, List.nil_append, List.append_nil, List.length_cons, List.length_nil, List.replicate_zero, List.replicate_succ, Nat.sub_self, Nat.zero_add, List.getElem?_cons_zero, List.getElem?_cons_succ, List.set_cons_zero, List.set_cons_succ, if_true, if_false, Bool.false_eq_true, decide_true, decide_false, Bool.not_true, Bool.not_false, decide_eq_true_eq, eq_self, Int.cast_ofNat_Int, Int.natCast_zero, Int.natCast_one, Nat.reduceLeDiff, Nat.reduceSub, Nat.reduceAdd, Nat.reduceLT, reduceIte, reduceCtorEq, Int.reduceEq, Int.reduceLT, Int.reduceLE, Int.reduceNeg, Int.reduceAdd, Int.reduceSub, Int.reduceMul, Int.reduceNe, Int.reduceBNe, Int.reduceBEq, e_law_3]
    rw [compL_some (t _), compL_some (t _), compL_some (t _), compL_some (t _), compL_nil]
    rfl
  simp only [E1, E2, E3, E4, E5, E6, E7, E8, E9, List.map_cons, List.map_nil, List.cons_append, List.nil_append, List.append_nil, List.length_cons, List.length_nil, List.replicate_zero, List.replicate_succ, Nat.sub_self, Nat.zero_add, List.getElem?_cons_zero, List.getElem?_cons_succ, List.set_cons_zero, List.set_cons_succ, if_true, if_false, Bool.false_eq_true, decide_true, decide_false, Bool.not_true, Bool.not_false, decide_eq_true_eq, eq_self, Int.cast_ofNat_Int, Int.natCast_zero, Int.natCast_one, Nat.reduceLeDiff, Nat.reduceSub, Nat.reduceAdd, Nat.reduceLT, reduceIte, reduceCtorEq, Int.reduceEq, Int.reduceLT, Int.reduceLE, Int.reduceNeg, Int.reduceAdd, Int.reduceSub, Int.reduceMul, Int.reduceNe, Int.reduceBNe, Int.reduceBEq, s_law_1_2, wipe_nil, wipe_cons, cc, List.cons_append, List.nil_append, f2]
theorem st3 (hL : IntL L) (ha : 0 ≤ a) : ∃ y e : Rat, Sm 3 y ∧ y.abs ≤ 4 ∧ Sm 3 e ∧ 0 ≤ e ∧ e ≤ 2 ∧ evS G (callK G (k + 15)) s_law_1_3 [x0, some (.ref 0), x2, some (fmD c p r), some (fmD c' p' r'), some (.lst [.lst [fr c, .tup ((ps p).map mkD), fr r], .tup [fr c, .tup ((ps p).map mkD)], .tup [.tup [.int 0, .int 1], .tup [.tup [.int 1, .tup [.int 0, .int 1]]], .tup [.int 0, .int 1]], .non]), some (.tup [.tup [.int 0, .int 1], .tup [], .tup [.int (-1), .int 2]]), some (.bl false), x8, x9, x10, x11, x12, x13, x14, x15, x16, x17, x18, x19, x20, x21, x22, x23, x24, x25, x26, x27, x28] (wC L a :: T) = some (.nx [x0, some (.ref 0), x2, some (fmD c p r), some (fmD c' p' r'), some (.lst [.lst [fr c, .tup ((ps p).map mkD), fr r], .tup [fr c, .tup ((ps p).map mkD)], .tup [.tup [.int 0, .int 1], .tup [.tup [.int 1, .tup [.int 0, .int 1]]], .tup [.int 0, .int 1]], .non]), some (.tup [.tup [.int 0, .int 1], .tup [], .tup [.int (-1), .int 2]]), some (.bl false), some (fr y), some (fr e), x10, x11, x12, x13, x14, x15, x16, x17, x18, x19, x20, x21, x22, x23, x24, x25, x26, x27, x28], wC L (a + 1 + 1 + 1) :: T) := by
  obtain ⟨v, v0, v1, e1⟩ := next_ok (k := k + 14) (T := T) (m := 9) hL (by decide) ha
  obtain ⟨w, w0, w1, e2⟩ := next_ok (k := k + 14) (T := T) (a := a + 1) (m := 3) hL (by decide) (by omega)
  obtain ⟨j, j0, j1, e3⟩ := next_ok (k := k + 14) (T := T) (a := a + 1 + 1) (m := 5) hL (by decide) (by omega)
  obtain ⟨s1, s2⟩ := frac_small v0 v1 w0 w1
  have e4 := least_ok (k := k + 14) (S := wC L (a + 1 + 1) :: T) (u := v - 4) (l := 1 + w) (by omega) (Bd.mono (n := 3) (show (1 + w).natAbs < 2 ^ 3 by omega) (by decide))
  have e5 := least_ok (k := k + 14) (S := wC L (a + 1 + 1 + 1) :: T) (u := j) (l := 2) (by decide) (Bd.mono (n := 3) (show (2 : Int).natAbs < 2 ^ 3 by decide) (by decide))
  have hx : ∀ i : Int, 0 ≤ i → i < 5 → Sm 3 (Rat.divInt i 2) ∧ 0 ≤ Rat.divInt i 2 ∧ Rat.divInt i 2 ≤ 2 := fun i i0 i1 => by
    have : i = 0 ∨ i = 1 ∨ i = 2 ∨ i = 3 ∨ i = 4 := by omega
    rcases this with rfl | rfl | rfl | rfl | rfl <;> exact ⟨⟨by decide +kernel, by decide +kernel⟩, by decide +kernel, by decide +kernel⟩
  obtain ⟨t1, t2, t3⟩ := hx j j0 j1
  refine ⟨_, _, s1, s2, t1, t2, t3, ?_⟩
  simp only [E1, E2, E3, E4, E5, E6, E7, E8, E9, List.map_cons, List.map_nil, List.cons_append, List.nil_append, List.append_nil, List.length_cons, List.length_nil, List.replicate_zero, List.replicate_succ, Nat.sub_self, Nat.zero_add, List.getElem?_cons_zero, List.getElem?_cons_succ, List.set_cons_zero, List.set_cons_succ, if_true, if_false, Bool.false_eq_true, decide_true, decide_false, Bool.not_true, Bool.not_false, decide_eq_true_eq, eq_self, Int.cast_ofNat_Int, Int.natCast_zero, Int.natCast_one, Nat.reduceLeDiff, Nat.reduceSub, Nat.reduceAdd, Nat.reduceLT, reduceIte, reduceCtorEq, Int.reduceEq, Int.reduceLT, Int.reduceLE, Int.reduceNeg, Int.reduceAdd, Int.reduceSub, Int.reduceMul, Int.reduceNe, Int.reduceBNe, Int.reduceBEq, s_law_1_3, e1, e2, e4, e3, e5]
theorem st4 (h1 : Fo c p r) (se : Sm 3 e) : evS G (callK G (k + 15)) s_law_1_4 [x0, some (.ref 0), x2, some (fmD c p r), some (fmD c' p' r'), x5, x6, x7, x8, some (fr e), x10, x11, x12, x13, x14, x15, x16, x17, x18, x19, x20, x21, x22, x23, x24, x25, x26, x27, x28] S = some (.nx [x0, some (.ref 0), x2, some (fmD c p r), some (fmD c' p' r'), x5, x6, x7, x8, some (fr e), some (sp c (c + e)), x11, x12, x13, x14, x15, x16, x17, x18, x19, x20, x21, x22, x23, x24, x25, x26, x27, x28], S) := by
  have e1 := sum2 (k := k + 13) (S := S) (n := 3) h1.sc se (by decide)
  unfold sp
  simp only [E1, E2, E3, E4, E5, E6, E7, E8, E9, List.map_cons, List.map_nil, List.cons_append, List.nil_append, List.append_nil, List.length_cons, List.length_nil, List.replicate_zero, List.replicate_succ, Nat.sub_self, Nat.zero_add, List.getElem?_cons_zero, List.getElem?_cons_succ, List.set_cons_zero, List.set_cons_succ, if_true, if_false, Bool.false_eq_true, decide_true, decide_false, Bool.not_true, Bool.not_false, decide_eq_true_eq, eq_self, Int.cast_ofNat_Int, Int.natCast_zero, Int.natCast_one, Nat.reduceLeDiff, Nat.reduceSub, Nat.reduceAdd, Nat.reduceLT, reduceIte, reduceCtorEq, Int.reduceEq, Int.reduceLT, Int.reduceLE, Int.reduceNeg, Int.reduceAdd, Int.reduceSub, Int.reduceMul, Int.reduceNe, Int.reduceBNe, Int.reduceBEq, s_law_1_4, idx_fm0, e1]
theorem st5 (hL : IntL L) (ha : 0 ≤ a) (h1 : Fo c p r) (h2 : Fo c' p' r') (sy : Sm 3 y) (by4 : y.abs ≤ 4) (se : Sm 3 e) (e0 : 0 ≤ e) (e2' : e ≤ 2) : ∃ (y11 y12 y13 y14 y15 y16 y17 y18 : Option D) (b : Int), 0 ≤ b ∧ evS G (callK G (k + 15)) s_law_1_5 [x0, some (.ref 0), x2, some (fmD c p r), some (fmD c' p' r'), x5, x6, x7, some (fr y), some (fr e), some (sp c (c + e)), x11, x12, x13, x14, x15, x16, x17, x18, x19, x20, x21, x22, x23, x24, x25, x26, x27, x28] (wC L a :: T) = some (.nx [x0, some (.ref 0), x2, some (fmD c p r), some (fmD c' p' r'), x5, x6, x7, some (fr y), some (fr e), some (sp c (c + e)), y11, y12, y13, y14, y15, y16, y17, y18, x19, x20, x21, x22, x23, x24, x25, x26, x27, x28], wC L b :: T) := by
  have r4 : rngD [.int 4] = some ((List.range 4).map fun (i : Nat) => D.int (i : Int)) := rng_nat (n := 4) (by decide)
  obtain ⟨ρ1, S1, f, y11, y12, y13, y14, y15, y16, y17, y18, b, rfl, rfl, hb⟩ := forL_run (all := (List.range 4).map fun (i : Nat) => D.int (i : Int)) (body := fbd G (callK G (k + 15)) (.name 11) b_law_4) (xs := (List.range 4).map fun (i : Nat) => D.int (i : Int)) (ρ := [x0, some (.ref 0), x2, some (fmD c p r), some (fmD c' p' r'), x5, x6, x7, some (fr y), some (fr e), some (sp c (c + e)), x11, x12, x13, x14, x15, x16, x17, x18, x19, x20, x21, x22, x23, x24, x25, x26, x27, x28]) (S := wC L a :: T)
    (I := fun _ ρ S => ∃ (z11 z12 z13 z14 z15 z16 z17 z18 : Option D) (b : Int), ρ = [x0, some (.ref 0), x2, some (fmD c p r), some (fmD c' p' r'), x5, x6, x7, some (fr y), some (fr e), some (sp c (c + e)), z11, z12, z13, z14, z15, z16, z17, z18, x19, x20, x21, x22, x23, x24, x25, x26, x27, x28] ∧ S = wC L b :: T ∧ 0 ≤ b)
    (by
      rintro i x ρ S hx ⟨z11, z12, z13, z14, z15, z16, z17, z18, b, rfl, rfl, hb⟩
      obtain ⟨ms, o, b', hb', e'⟩ := b4_ok (k := k) (T := T) (x0 := x0) (x2 := x2) (x5 := x5) (x6 := x6) (x7 := x7) (x12 := z12) (x13 := z13) (x14 := z14) (x15 := z15) (x16 := z16) (x17 := z17) (x18 := z18) (x19 := x19) (x20 := x20) (x21 := x21) (x22 := x22) (x23 := x23) (x24 := x24) (x25 := x25) (x26 := x26) (x27 := x27) (x28 := x28) hL hb h1 h2 sy by4 se e0 e2' (x := x)
      exact ⟨_, _, e', _, _, _, _, _, _, _, _, b', rfl, rfl, hb'⟩)
    ⟨x11, x12, x13, x14, x15, x16, x17, x18, a, rfl, rfl, ha⟩
  exact ⟨y11, y12, y13, y14, y15, y16, y17, y18, b, hb, by simp only [E1, E2, E3, E4, E5, E6, E7, E8, E9, List.map_cons, List.map_nil, List.cons_append, List.nil_append, List.append_nil, List.length_cons, List.length_nil, List.replicate_zero, List.replicate_succ, Nat.sub_self, Nat.zero_add, List.getElem?_cons_zero, List.getElem?_cons_succ, List.set_cons_zero, List.set_cons_succ, if_true, if_false, Bool.false_eq_true, decide_true, decide_false, Bool.not_true, Bool.not_false, decide_eq_true_eq, eq_self, Int.cast_ofNat_Int, Int.natCast_zero, Int.natCast_one, Nat.reduceLeDiff, Nat.reduceSub, Nat.reduceAdd, Nat.reduceLT, reduceIte, reduceCtorEq, Int.reduceEq, Int.reduceLT, Int.reduceLE, Int.reduceNeg, Int.reduceAdd, Int.reduceSub, Int.reduceMul, Int.reduceNe, Int.reduceBNe, Int.reduceBEq, s_law_1_5, r4, f]⟩
theorem st6 (h1 : Fo c p r) : evS G (callK G (k + 15)) s_law_1_6 [x0, some (.ref 0), x2, some (fmD c p r), some (fmD c' p' r'), x5, x6, x7, some (fr y), some (fr e), some (sp c (c + e)), x11, x12, x13, x14, x15, x16, x17, x18, x19, x20, x21, x22, x23, x24, x25, x26, x27, x28] S = some (.nx [x0, some (.ref 0), x2, some (fmD c p r), some (fmD c' p' r'), x5, x6, x7, some (fr y), some (fr e), some (sp c (c + e)), x11, x12, x13, x14, x15, x16, x17, x18, some (fr (sab p + r)), x20, x21, x22, x23, x24, x25, x26, x27, x28], S) := by
  have cc : ∀ all, compL none all (ctn G (callK G (k + 15)) e_law_10 (.tup (.cons (.name 24) (.cons (.name 18) .nil))) .none [x0, some (.ref 0), x2, some (fmD c p r), some (fmD c' p' r'), x5, x6, x7, some (fr y), some (fr e), some (sp c (c + e)), x11, x12, x13, x14, x15, x16, x17, none, x19, x20, x21, x22, x23, none, x25, x26, x27, x28]) ((ps p).map mkD) S [] = some ((ps p).map fun e => fr e.2.abs, S) := fun all => by
    have := compL_mapT (all := all) (turn := ctn G (callK G (k + 15)) e_law_10 (.tup (.cons (.name 24) (.cons (.name 18) .nil))) .none [x0, some (.ref 0), x2, some (fmD c p r), some (fmD c' p' r'), x5, x6, x7, some (fr y), some (fr e), some (sp c (c + e)), x11, x12, x13, x14, x15, x16, x17, none, x19, x20, x21, x22, x23, none, x25, x26, x27, x28]) (S := S) (g := mkD) (f := fun e => fr e.2.abs) (xs := ps p) (acc := []) fun e he => by
      unfold ctn
      simp only [E1, E2, E3, E4, E5, E6, E7, E8, E9, List.map_cons, List.map_nil, List.cons_append, List.nil_append, List.append_nil, List.length_cons, List.length_nil, List.replicate_zero, List.replicate_succ, Nat.sub_self, Nat.zero_add, List.getElem?_cons_zero, List.getElem?_cons_succ, List.set_cons_zero, List.set_cons_succ, if_true, if_false, Bool.false_eq_true, decide_true, decide_false, Bool.not_true, Bool.not_false, decide_eq_true_eq, eq_self, Int.cast_ofNat_Int, Int.natCast_zero, Int.natCast_one, Nat.reduceLeDiff, Nat.reduceSub, Nat.reduceAdd, Nat.reduceLT, reduceIte, reduceCtorEq, Int.reduceEq, Int.reduceLT, Int.reduceLE, Int.reduceNeg, Int.reduceAdd, Int.reduceSub, Int.reduceMul, Int.reduceNe, Int.reduceBNe, Int.reduceBEq, e_law_10, mkD, idx_fr0, idx_fr1, max_abs]
    rw [List.nil_append] at this
    exact this
  have e1 := lsum_ok (k := k + 13) (S := S) (n := 3) (qs := ((ps p).map fun e => e.2.abs) ++ [r]) (fun q hq => by
    rcases List.mem_append.mp hq with hq | hq
    · obtain ⟨e, he, rfl⟩ := List.mem_map.mp hq
      exact (ps_sm h1.sp e he).abs
    · rw [List.mem_singleton.mp hq]
      exact h1.sr) (by decide) (by
    rw [List.length_append, List.length_map]
    have := ps_len (p := p)
    simp
    omega)
  have e2 : (((ps p).map fun e => e.2.abs) ++ [r]).map fr = ((ps p).map fun e => fr e.2.abs) ++ [fr r] := by simp
  have e3 : frSum (((ps p).map fun e => e.2.abs) ++ [r]) = sab p + r := frSum_ap
  rw [e2, e3] at e1
  have hz := ps_le (p := p)
  have hz2 : ((ps p).map fun e => fr e.2.abs).length + 1 ≤ sizeLine := le_size (by rw [List.length_map]; have := ps_len (p := p); omega)
  have ad := hz2
  simp only [E1, E2, E3, E4, E5, E6, E7, E8, E9, List.map_cons, List.map_nil, List.cons_append, List.nil_append, List.append_nil, List.length_cons, List.length_nil, List.replicate_zero, List.replicate_succ, Nat.sub_self, Nat.zero_add, List.getElem?_cons_zero, List.getElem?_cons_succ, List.set_cons_zero, List.set_cons_succ, if_true, if_false, Bool.false_eq_true, decide_true, decide_false, Bool.not_true, Bool.not_false, decide_eq_true_eq, eq_self, Int.cast_ofNat_Int, Int.natCast_zero, Int.natCast_one, Nat.reduceLeDiff, Nat.reduceSub, Nat.reduceAdd, Nat.reduceLT, reduceIte, reduceCtorEq, Int.reduceEq, Int.reduceLT, Int.reduceLE, Int.reduceNeg, Int.reduceAdd, Int.reduceSub, Int.reduceMul, Int.reduceNe, Int.reduceBNe, Int.reduceBEq, s_law_1_6, idx_fm1, idx_fm2, hz, wipe_nil, wipe_cons, cc, add_l, ad, e1]
theorem tot_sm (h1 : Fo c p r) : Sm 41 (sab p + r) := ((sab_sm h1.sp).add h1.sr).mono (by decide)
theorem st7 (h1 : Fo c p r) : evS G (callK G (k + 15)) s_law_1_7 [x0, some (.ref 0), x2, some (fmD c p r), some (fmD c' p' r'), x5, x6, x7, some (fr y), some (fr e), some (sp c (c + e)), x11, x12, x13, x14, x15, x16, x17, x18, some (fr (sab p + r)), x20, x21, x22, x23, x24, x25, x26, x27, x28] S = some (.nx [x0, some (.ref 0), x2, some (fmD c p r), some (fmD c' p' r'), x5, x6, x7, some (fr y), some (fr e), some (sp c (c + e)), x11, x12, x13, x14, x15, x16, x17, x18, some (fr (sab p + r)), x20, x21, x22, x23, x24, x25, x26, x27, x28], S) := by
  have e1 := swing_ok (k := k + 10) (S := S) (c := c) h1.sp h1.sr (by decide)
  have e2 := same_fr (k := k + 14) (S := S) (c := sab p + r)
  have e3 := span_of_ok (k := k + 9) (S := S) h1.sc h1.sp h1.sr (by decide)
  have ts := tot_sm h1
  have e4 := sum2 (k := k + 13) (S := S) (n := 41) (h1.sc.mono (by decide)) ts.neg (by decide)
  have e5 := sum2 (k := k + 13) (S := S) (n := 41) (h1.sc.mono (by decide)) ts (by decide)
  rw [← Rat.sub_eq_add_neg] at e4
  have e6 := same_sp (k := k + 14) (S := S) (c := c - (sab p + r)) (r := c + (sab p + r))
  unfold sp at e6
  simp only [E1, E2, E3, E4, E5, E6, E7, E8, E9, List.map_cons, List.map_nil, List.cons_append, List.nil_append, List.append_nil, List.length_cons, List.length_nil, List.replicate_zero, List.replicate_succ, Nat.sub_self, Nat.zero_add, List.getElem?_cons_zero, List.getElem?_cons_succ, List.set_cons_zero, List.set_cons_succ, if_true, if_false, Bool.false_eq_true, decide_true, decide_false, Bool.not_true, Bool.not_false, decide_eq_true_eq, eq_self, Int.cast_ofNat_Int, Int.natCast_zero, Int.natCast_one, Nat.reduceLeDiff, Nat.reduceSub, Nat.reduceAdd, Nat.reduceLT, reduceIte, reduceCtorEq, Int.reduceEq, Int.reduceLT, Int.reduceLE, Int.reduceNeg, Int.reduceAdd, Int.reduceSub, Int.reduceMul, Int.reduceNe, Int.reduceBNe, Int.reduceBEq, s_law_1_7, e1, e2, e3, idx_fm0, idx_fr0, idx_fr1, neg_fr, e4, e5, e6]
theorem st8 (h1 : Fo c p r) : evS G (callK G (k + 15)) s_law_1_8 [x0, some (.ref 0), x2, some (fmD c p r), some (fmD c' p' r'), x5, x6, x7, some (fr y), some (fr e), some (sp c (c + e)), x11, x12, x13, x14, x15, x16, x17, x18, some (fr (sab p + r)), x20, x21, x22, x23, x24, x25, x26, x27, x28] S = some (.nx [x0, some (.ref 0), x2, some (fmD c p r), some (fmD c' p' r'), x5, x6, x7, some (fr y), some (fr e), some (sp c (c + e)), x11, x12, x13, x14, x15, x16, x17, x18, some (fr (sab p + r)), x20, x21, x22, x23, x24, x25, x26, x27, x28], S) := by
  have e1 := reach_of_ok (k := k + 9) (S := S) h1.sc h1.sp h1.sr (by decide)
  have e2 := same_fr (k := k + 14) (S := S) (c := c.abs + (sab p + r))
  have e3 := sum2 (k := k + 13) (S := S) (n := 41) (h1.sc.abs.mono (by decide)) (tot_sm h1) (by decide)
  have e4 := plain_ok (k := k + 14) (S := S) (c := y)
  have e5 : fmD y (fun _ => 0) 0 = .tup [fr y, .tup [], .tup [.int 0, .int 1]] := by unfold fmD; rw [ps_zero]; rfl
  have e6 := same_fm (k := k + 14) (S := S) (c := y) (p := fun _ => 0) (r := 0)
  rw [e5] at e4 e6
  simp only [E1, E2, E3, E4, E5, E6, E7, E8, E9, List.map_cons, List.map_nil, List.cons_append, List.nil_append, List.append_nil, List.length_cons, List.length_nil, List.replicate_zero, List.replicate_succ, Nat.sub_self, Nat.zero_add, List.getElem?_cons_zero, List.getElem?_cons_succ, List.set_cons_zero, List.set_cons_succ, if_true, if_false, Bool.false_eq_true, decide_true, decide_false, Bool.not_true, Bool.not_false, decide_eq_true_eq, eq_self, Int.cast_ofNat_Int, Int.natCast_zero, Int.natCast_one, Nat.reduceLeDiff, Nat.reduceSub, Nat.reduceAdd, Nat.reduceLT, reduceIte, reduceCtorEq, Int.reduceEq, Int.reduceLT, Int.reduceLE, Int.reduceNeg, Int.reduceAdd, Int.reduceSub, Int.reduceMul, Int.reduceNe, Int.reduceBNe, Int.reduceBEq, s_law_1_8, e1, idx_fm0, idx_fr0, idx_fr1, max_abs, e3, e2, e4, e6]
end

end Rw.Pk12

set_option exponentiation.threshold 300
namespace Rw.Pk12
open PySem L2 Rw
section
variable {k : Nat} {S T R : Sto} {L : List D} {a : Int} {p p' : Nat → Rat} {c c' r r' y e u v : Rat} {n m i : Nat} {l : ML} {qs : List Rat} {C : Cell} {x0 x1 x2 x3 x4 x5 x6 x7 x8 x9 x10 x11 x12 x13 x14 x15 x16 x17 x18 x19 x20 x21 x22 x23 x24 x25 x26 x27 x28 : Option D}
theorem half_ok (se : Sm 3 e) : (callK G (k + 15)) i__law_least [.int e.num, .int ((e.den : Int) * 2)] S = some (fr (e * (1 / 2)), S) := by
  have e1 := least_ok (k := k + 14) (S := S) (u := e.num) (l := (e.den : Int) * 2) (Int.mul_ne_zero den_ne (by decide)) ((se.dn.mul (show Bd 2 2 from by show (2 : Int).natAbs < 2 ^ 2; decide)).mono (by decide))
  rw [least_half] at e1
  exact e1
theorem two_bd : Bd 2 2 := by show (2 : Int).natAbs < 2 ^ 2; decide
theorem hsm (se : Sm 3 e) : Sm 5 (e * (1 / 2)) := se.mul (show Sm 2 (1 / 2 : Rat) from ⟨by decide +kernel, by decide +kernel⟩)
theorem idx_sp0 : idxD S (sp u v) (.int 0) = some (fr u) := at_0
theorem st9 (h1 : Fo c p r) (se : Sm 3 e) : evS G (callK G (k + 15)) s_law_1_9 [x0, some (.ref 0), x2, some (fmD c p r), some (fmD c' p' r'), x5, x6, x7, some (fr y), some (fr e), some (sp c (c + e)), x11, x12, x13, x14, x15, x16, x17, x18, some (fr (sab p + r)), x20, x21, x22, x23, x24, x25, x26, x27, x28] S = some (.nx [x0, some (.ref 0), x2, some (fmD c p r), some (fmD c' p' r'), x5, x6, x7, some (fr y), some (fr e), some (sp c (c + e)), x11, x12, x13, x14, x15, x16, x17, x18, some (fr (sab p + r)), some (fr (mid c (c + e))), x21, x22, x23, x24, x25, x26, x27, x28], S) := by
  have e1 := half_ok (k := k) (S := S) se
  have o1 := se.dn.mulOk two_bd (by decide)
  have e2 := sum2 (k := k + 13) (S := S) (n := 5) (h1.sc.mono (by decide)) (hsm se) (by decide)
  rw [mid_half'] at e2
  simp only [E1, E2, E3, E4, E5, E6, E7, E8, E9, List.map_cons, List.map_nil, List.cons_append, List.nil_append, List.append_nil, List.length_cons, List.length_nil, List.replicate_zero, List.replicate_succ, Nat.sub_self, Nat.zero_add, List.getElem?_cons_zero, List.getElem?_cons_succ, List.set_cons_zero, List.set_cons_succ, if_true, if_false, Bool.false_eq_true, decide_true, decide_false, Bool.not_true, Bool.not_false, decide_eq_true_eq, eq_self, Int.cast_ofNat_Int, Int.natCast_zero, Int.natCast_one, Nat.reduceLeDiff, Nat.reduceSub, Nat.reduceAdd, Nat.reduceLT, reduceIte, reduceCtorEq, Int.reduceEq, Int.reduceLT, Int.reduceLE, Int.reduceNeg, Int.reduceAdd, Int.reduceSub, Int.reduceMul, Int.reduceNe, Int.reduceBNe, Int.reduceBEq, s_law_1_9, idx_sp0, idx_fr0, idx_fr1, o1, e1, e2]
theorem st10 (se : Sm 3 e) : evS G (callK G (k + 15)) s_law_1_10 [x0, some (.ref 0), x2, some (fmD c p r), some (fmD c' p' r'), x5, x6, x7, some (fr y), some (fr e), some (sp c (c + e)), x11, x12, x13, x14, x15, x16, x17, x18, some (fr (sab p + r)), some (fr (mid c (c + e))), x21, x22, x23, x24, x25, x26, x27, x28] S = some (.nx [x0, some (.ref 0), x2, some (fmD c p r), some (fmD c' p' r'), x5, x6, x7, some (fr y), some (fr e), some (sp c (c + e)), x11, x12, x13, x14, x15, x16, x17, x18, some (fr (sab p + r)), some (fr (mid c (c + e))), some (fr (e * (1 / 2))), x22, x23, x24, x25, x26, x27, x28], S) := by
  have e1 := half_ok (k := k) (S := S) se
  have o1 := se.dn.mulOk two_bd (by decide)
  simp only [E1, E2, E3, E4, E5, E6, E7, E8, E9, List.map_cons, List.map_nil, List.cons_append, List.nil_append, List.append_nil, List.length_cons, List.length_nil, List.replicate_zero, List.replicate_succ, Nat.sub_self, Nat.zero_add, List.getElem?_cons_zero, List.getElem?_cons_succ, List.set_cons_zero, List.set_cons_succ, if_true, if_false, Bool.false_eq_true, decide_true, decide_false, Bool.not_true, Bool.not_false, decide_eq_true_eq, eq_self, Int.cast_ofNat_Int, Int.natCast_zero, Int.natCast_one, Nat.reduceLeDiff, Nat.reduceSub, Nat.reduceAdd, Nat.reduceLT, reduceIte, reduceCtorEq, Int.reduceEq, Int.reduceLT, Int.reduceLE, Int.reduceNeg, Int.reduceAdd, Int.reduceSub, Int.reduceMul, Int.reduceNe, Int.reduceBNe, Int.reduceBEq, s_law_1_10, idx_fr0, idx_fr1, o1, e1]
theorem st11 (h1 : Fo c p r) (se : Sm 3 e) : evS G (callK G (k + 15)) s_law_1_11 [x0, some (.ref 0), x2, some (fmD c p r), some (fmD c' p' r'), x5, x6, x7, some (fr y), some (fr e), some (sp c (c + e)), x11, x12, x13, x14, x15, x16, x17, x18, some (fr (sab p + r)), some (fr (mid c (c + e))), some (fr (e * (1 / 2))), x22, x23, x24, x25, x26, x27, x28] S = some (.nx [x0, some (.ref 0), x2, some (fmD c p r), some (fmD c' p' r'), x5, x6, x7, some (fr y), some (fr e), some (sp c (c + e)), x11, x12, x13, x14, x15, x16, x17, x18, some (fr (sab p + r)), some (fr (mid c (c + e))), some (fr (e * (1 / 2))), x22, x23, x24, x25, x26, x27, x28], S) := by
  have g0 : Sm 7 c := h1.sc.mono (by decide)
  have g1 : Sm 7 (c + e) := h1.sc.add se
  have e10 := of_span_ok (k := k + 10) (S := S) g0 g1 (by decide)
  have e11 := with_rest_ok (k := k + 10) (S := S) g0 g1 (by decide)
  rw [mid_half] at e10 e11
  have e12 := same_fm (k := k + 14) (S := S) (c := mid c (c + e)) (p := one1 3 (e * (1 / 2))) (r := 0)
  have e13 := same_fm (k := k + 14) (S := S) (c := mid c (c + e)) (p := fun _ => 0) (r := e * (1 / 2))
  have e14 : fmD (mid c (c + e)) (fun _ => 0) (e * (1 / 2)) = .tup [fr (mid c (c + e)), .tup [], fr (e * (1 / 2))] := by unfold fmD; rw [ps_zero]; rfl
  rw [e14] at e11 e13
  rw [fm_one] at e10 e12
  unfold sp
  by_cases z : (e * (1 / 2)).num = 0
  · rw [if_neg (fun h => h z)] at e10 e12
    simp only [E1, E2, E3, E4, E5, E6, E7, E8, E9, List.map_cons, List.map_nil, List.cons_append, List.nil_append, List.append_nil, List.length_cons, List.length_nil, List.replicate_zero, List.replicate_succ, Nat.sub_self, Nat.zero_add, List.getElem?_cons_zero, List.getElem?_cons_succ, List.set_cons_zero, List.set_cons_succ, if_true, if_false, Bool.false_eq_true, decide_true, decide_false, Bool.not_true, Bool.not_false, decide_eq_true_eq, eq_self, Int.cast_ofNat_Int, Int.natCast_zero, Int.natCast_one, Nat.reduceLeDiff, Nat.reduceSub, Nat.reduceAdd, Nat.reduceLT, reduceIte, reduceCtorEq, Int.reduceEq, Int.reduceLT, Int.reduceLE, Int.reduceNeg, Int.reduceAdd, Int.reduceSub, Int.reduceMul, Int.reduceNe, Int.reduceBNe, Int.reduceBEq, s_law_1_11, e10, e11, idx_fr0, z, e12, e13]
  · rw [if_pos z] at e10 e12
    simp only [E1, E2, E3, E4, E5, E6, E7, E8, E9, List.map_cons, List.map_nil, List.cons_append, List.nil_append, List.append_nil, List.length_cons, List.length_nil, List.replicate_zero, List.replicate_succ, Nat.sub_self, Nat.zero_add, List.getElem?_cons_zero, List.getElem?_cons_succ, List.set_cons_zero, List.set_cons_succ, if_true, if_false, Bool.false_eq_true, decide_true, decide_false, Bool.not_true, Bool.not_false, decide_eq_true_eq, eq_self, Int.cast_ofNat_Int, Int.natCast_zero, Int.natCast_one, Nat.reduceLeDiff, Nat.reduceSub, Nat.reduceAdd, Nat.reduceLT, reduceIte, reduceCtorEq, Int.reduceEq, Int.reduceLT, Int.reduceLE, Int.reduceNeg, Int.reduceAdd, Int.reduceSub, Int.reduceMul, Int.reduceNe, Int.reduceBNe, Int.reduceBEq, s_law_1_11, e10, e11, idx_fr0, z, e12, e13]
theorem p8 (h1 : Fo c p r) : Dc (ps p ++ [(8, 0)]) ∧ vl (ps p ++ [(8, 0)]) = p := by
  have z : ¬ 8 ∈ (ps p).map (·.1) := fun h => by
    obtain ⟨e, he, h8⟩ := List.mem_map.mp h
    have h8 : e.1 = 8 := h8
    have := (mem_ps.mp he).2.1
    rw [h8] at this
    exact this (h1.p4 8 (by decide))
  refine ⟨⟨?_, fun e he => ?_⟩, ?_⟩
  · rw [List.map_append, List.nodup_append]
    refine ⟨ps_asc, by simp, fun a ha b hb q => z ?_⟩
    have : b = 8 := by simpa using hb
    rw [← this, ← q]
    exact ha
  · rcases List.mem_append.mp he with he | he
    · exact ps_dc.lt e he
    · rw [List.mem_singleton.mp he]
      decide
  · funext j
    rw [vl_ap z, vl_ps h1.f9]
    by_cases q : j = 8
    · rw [if_pos q, q, h1.p4 8 (by decide)]
    · rw [if_neg q]
theorem st12 (h1 : Fo c p r) : evS G (callK G (k + 15)) s_law_1_12 [x0, some (.ref 0), x2, some (fmD c p r), some (fmD c' p' r'), x5, x6, x7, some (fr y), some (fr e), some (sp c (c + e)), x11, x12, x13, x14, x15, x16, x17, x18, x19, x20, x21, x22, x23, x24, x25, x26, x27, x28] S = some (.nx [x0, some (.ref 0), x2, some (fmD c p r), some (fmD c' p' r'), x5, x6, x7, some (fr y), some (fr e), some (sp c (c + e)), x11, x12, x13, x14, x15, x16, x17, x18, x19, x20, x21, x22, x23, x24, x25, x26, x27, x28], S ++ [.dk (kvD (ps p ++ [(8, 0)]))]) := by
  obtain ⟨d, hv⟩ := p8 h1
  have e0 : ((ps p).map mkD) ++ [.tup [.int 8, .tup [.int 0, .int 1]]] = (ps p ++ [(8, 0)]).map mkD := by rw [List.map_append]; rfl
  have hz : ((ps p).map mkD).length + 1 ≤ sizeLine := le_size (by rw [List.length_map]; have := ps_len (p := p); omega)
  have e1 := straight_ok (k := k + 14) (S := S ++ [.dk (kvD (ps p ++ [(8, 0)]))]) (c := c) (r := r) d at_new
  rw [hv] at e1
  have e2 := same_fm (k := k + 14) (S := S ++ [.dk (kvD (ps p ++ [(8, 0)]))]) (c := c) (p := p) (r := r)
  have e3 := turned_ok (k := k + 10) (S := S ++ [.dk (kvD (ps p ++ [(8, 0)]))]) h1.f9 h1.sc h1.sp h1.sr (by decide)
  have f9 : F9 fun j => - p j := fun j hj => by show - p j = 0; rw [h1.f9 j hj]; rfl
  have e4 := both_ok (k := k + 11) (S := S ++ [.dk (kvD (ps p ++ [(8, 0)]))]) h1.f9 f9 h1.sc h1.sp h1.sr h1.sc.neg (fun j => (h1.sp j).neg) h1.sr (by decide) (by decide)
  rw [show c + -c = 0 by grind, show (fun j => p j + - p j) = fun _ => 0 from funext fun j => by grind, show r + r = 2 * r by grind] at e4
  have e5 : fmD 0 (fun _ => 0) (2 * r) = .tup [.tup [.int 0, .int 1], .tup [], fr (2 * r)] := by unfold fmD; rw [ps_zero]; rfl
  have e6 := prod2 (k := k + 13) (S := S ++ [.dk (kvD (ps p ++ [(8, 0)]))]) (n := 3) (show Sm 3 2 from ⟨by decide, by decide⟩) h1.sr (by decide)
  rw [fr_2] at e6
  have e7 := same_fm (k := k + 14) (S := S ++ [.dk (kvD (ps p ++ [(8, 0)]))]) (c := 0) (p := fun _ => 0) (r := 2 * r)
  rw [e5] at e4 e7
  have e8 := dct_l (l := ps p ++ [(8, 0)])
  rw [← e0] at e8
  simp only [E1, E2, E3, E4, E5, E6, E7, E8, E9, List.map_cons, List.map_nil, List.cons_append, List.nil_append, List.append_nil, List.length_cons, List.length_nil, List.replicate_zero, List.replicate_succ, Nat.sub_self, Nat.zero_add, List.getElem?_cons_zero, List.getElem?_cons_succ, List.set_cons_zero, List.set_cons_succ, if_true, if_false, Bool.false_eq_true, decide_true, decide_false, Bool.not_true, Bool.not_false, decide_eq_true_eq, eq_self, Int.cast_ofNat_Int, Int.natCast_zero, Int.natCast_one, Nat.reduceLeDiff, Nat.reduceSub, Nat.reduceAdd, Nat.reduceLT, reduceIte, reduceCtorEq, Int.reduceEq, Int.reduceLT, Int.reduceLE, Int.reduceNeg, Int.reduceAdd, Int.reduceSub, Int.reduceMul, Int.reduceNe, Int.reduceBNe, Int.reduceBEq, s_law_1_12, idx_fm0, idx_fm1, idx_fm2, lst_t, add_l, hz, e8, merge_kv d, e1, e2, e3, e4, e6, e7]
theorem st13 (h1 : Fo c p r) (h2 : Fo c' p' r') : evS G (callK G (k + 15)) s_law_1_13 [x0, some (.ref 0), x2, some (fmD c p r), some (fmD c' p' r'), x5, x6, x7, some (fr y), some (fr e), some (sp c (c + e)), x11, x12, x13, x14, x15, x16, x17, x18, x19, x20, x21, x22, x23, x24, x25, x26, x27, x28] S = some (.nx [x0, some (.ref 0), x2, some (fmD c p r), some (fmD c' p' r'), x5, x6, x7, some (fr y), some (fr e), some (sp c (c + e)), x11, x12, x13, x14, x15, x16, x17, x18, x19, x20, x21, some (fr (c - c')), x23, x24, x25, x26, x27, x28], S) := by
  have e1 := sum2 (k := k + 13) (S := S) (n := 3) h1.sc h2.sc.neg (by decide)
  rw [← Rat.sub_eq_add_neg] at e1
  simp only [E1, E2, E3, E4, E5, E6, E7, E8, E9, List.map_cons, List.map_nil, List.cons_append, List.nil_append, List.append_nil, List.length_cons, List.length_nil, List.replicate_zero, List.replicate_succ, Nat.sub_self, Nat.zero_add, List.getElem?_cons_zero, List.getElem?_cons_succ, List.set_cons_zero, List.set_cons_succ, if_true, if_false, Bool.false_eq_true, decide_true, decide_false, Bool.not_true, Bool.not_false, decide_eq_true_eq, eq_self, Int.cast_ofNat_Int, Int.natCast_zero, Int.natCast_one, Nat.reduceLeDiff, Nat.reduceSub, Nat.reduceAdd, Nat.reduceLT, reduceIte, reduceCtorEq, Int.reduceEq, Int.reduceLT, Int.reduceLE, Int.reduceNeg, Int.reduceAdd, Int.reduceSub, Int.reduceMul, Int.reduceNe, Int.reduceBNe, Int.reduceBEq, s_law_1_13, idx_fm0, idx_fr0, idx_fr1, neg_fr, e1]
theorem st14 : evS G (callK G (k + 15)) s_law_1_14 [x0, some (.ref 0), x2, some (fmD c p r), some (fmD c' p' r'), x5, x6, x7, some (fr y), some (fr e), some (sp c (c + e)), x11, x12, x13, x14, x15, x16, x17, x18, x19, x20, x21, some (fr (c - c')), x23, x24, x25, x26, x27, x28] S = some (.nx [x0, some (.ref 0), x2, some (fmD c p r), some (fmD c' p' r'), x5, x6, x7, some (fr y), some (fr e), some (sp c (c + e)), x11, x12, x13, x14, x15, x16, x17, x18, x19, x20, x21, some (fr (c - c')), some (.ref S.length), x24, x25, x26, x27, x28], S ++ [.lst ([(c - c').abs, r'].map fr)]) := by
  simp only [E1, E2, E3, E4, E5, E6, E7, E8, E9, List.map_cons, List.map_nil, List.cons_append, List.nil_append, List.append_nil, List.length_cons, List.length_nil, List.replicate_zero, List.replicate_succ, Nat.sub_self, Nat.zero_add, List.getElem?_cons_zero, List.getElem?_cons_succ, List.set_cons_zero, List.set_cons_succ, if_true, if_false, Bool.false_eq_true, decide_true, decide_false, Bool.not_true, Bool.not_false, decide_eq_true_eq, eq_self, Int.cast_ofNat_Int, Int.natCast_zero, Int.natCast_one, Nat.reduceLeDiff, Nat.reduceSub, Nat.reduceAdd, Nat.reduceLT, reduceIte, reduceCtorEq, Int.reduceEq, Int.reduceLT, Int.reduceLE, Int.reduceNeg, Int.reduceAdd, Int.reduceSub, Int.reduceMul, Int.reduceNe, Int.reduceBNe, Int.reduceBEq, s_law_1_14, idx_fm2, idx_fr0, idx_fr1, max_abs, List.map_cons, List.map_nil]
theorem lst_at {xs : List D} (h : R[i]? = some (.lst xs)) : lstOf R (.ref i) = some xs := by simp only [lstOf, h]
theorem ap_at {xs : List D} {x : D} (h : R[i]? = some (.lst xs)) (hl : xs.length < sizeLine) : methD .append R (.ref i) [x] = some (.non, R.set i (.lst (xs ++ [x]))) := by
  simp only [methD, h, hl, if_true]
theorem b11_ok (h1 : Fo c p r) (h2 : Fo c' p' r') (hR : R[i]? = some (.lst (qs.map fr))) (hl : qs.length ≤ 100) {j : Nat} {y24 y25 : Option D} : fbd G (callK G (k + 15)) (.name 24) b_law_11 (.int (j : Int)) [x0, some (.ref 0), x2, some (fmD c p r), some (fmD c' p' r'), x5, x6, x7, x8, x9, x10, x11, x12, x13, x14, x15, x16, x17, x18, x19, x20, x21, x22, some (.ref i), y24, y25, x26, x27, x28] R = some (.nx [x0, some (.ref 0), x2, some (fmD c p r), some (fmD c' p' r'), x5, x6, x7, x8, x9, x10, x11, x12, x13, x14, x15, x16, x17, x18, x19, x20, x21, x22, some (.ref i), some (.int (j : Int)), some (fr (p j - p' j)), x26, x27, x28], ((R ++ [Cell.dk (kvD (ps p))]) ++ [Cell.dk (kvD (ps p'))]).set i (.lst ((qs ++ [(p j - p' j).abs]).map fr))) := by
  have hi : i < R.length := (List.getElem?_eq_some_iff.mp hR).1
  have hR2 : ((R ++ [Cell.dk (kvD (ps p))]) ++ [Cell.dk (kvD (ps p'))])[i]? = some (.lst (qs.map fr)) := by
    rw [List.getElem?_append_left (by rw [List.length_append]; omega), List.getElem?_append_left hi]
    exact hR
  have g1 := dget_new (S := R) (l := ps p) (j := j)
  have g2 := dget_new (S := R ++ [Cell.dk (kvD (ps p))]) (l := ps p') (j := j)
  rw [fr_zero, vl_ps h1.f9] at g1
  rw [fr_zero, vl_ps h2.f9] at g2
  have e1 := prod2 (k := k + 13) (S := (R ++ [Cell.dk (kvD (ps p))]) ++ [Cell.dk (kvD (ps p'))]) (n := 3) (neg1_sm.mono (by decide)) (h2.sp j) (by decide)
  rw [fr_neg1] at e1
  have e2 := sum2 (k := k + 13) (S := (R ++ [Cell.dk (kvD (ps p))]) ++ [Cell.dk (kvD (ps p'))]) (n := 6) ((h1.sp j).mono (by decide)) ((neg1_sm.mul (h2.sp j)).mono (by decide)) (by decide)
  rw [show p j + -1 * p' j = p j - p' j by grind] at e2
  have hz : (qs.map fr).length < sizeLine := by
    rw [List.length_map, sizeLine_eq]
    omega
  have e3 := ap_at (x := fr (p j - p' j).abs) hR2 hz
  have e4 := lst_at hR2
  unfold fbd
  simp only [E1, E2, E3, E4, E5, E6, E7, E8, E9, List.map_cons, List.map_nil, List.cons_append, List.nil_append, List.append_nil, List.length_cons, List.length_nil, List.replicate_zero, List.replicate_succ, Nat.sub_self, Nat.zero_add, List.getElem?_cons_zero, List.getElem?_cons_succ, List.set_cons_zero, List.set_cons_succ, if_true, if_false, Bool.false_eq_true, decide_true, decide_false, Bool.not_true, Bool.not_false, decide_eq_true_eq, eq_self, Int.cast_ofNat_Int, Int.natCast_zero, Int.natCast_one, Nat.reduceLeDiff, Nat.reduceSub, Nat.reduceAdd, Nat.reduceLT, reduceIte, reduceCtorEq, Int.reduceEq, Int.reduceLT, Int.reduceLE, Int.reduceNeg, Int.reduceAdd, Int.reduceSub, Int.reduceMul, Int.reduceNe, Int.reduceBNe, Int.reduceBEq, b_law_11, idx_fm1, dct_t, merge_kv ps_dc, dk_new, g1, g2, e1, e2, e4, idx_fr0, idx_fr1, max_abs, e3]
  rw [List.map_append]
  rfl
theorem f11_ok (h1 : Fo c p r) (h2 : Fo c' p' r') (hi : i ≠ 0) {all : List D} : ∀ (js : List Nat) (qs : List Rat) (R : Sto) (y24 y25 : Option D), R[0]? = some C → R[i]? = some (.lst (qs.map fr)) → qs.length + js.length ≤ 100 →
    ∃ (R' : Sto) (z24 z25 : Option D), R'[0]? = some C ∧ R'[i]? = some (.lst ((qs ++ js.map fun j => (p j - p' j).abs).map fr)) ∧ forL none all (fbd G (callK G (k + 15)) (.name 24) b_law_11) (js.map fun (j : Nat) => D.int (j : Int)) [x0, some (.ref 0), x2, some (fmD c p r), some (fmD c' p' r'), x5, x6, x7, x8, x9, x10, x11, x12, x13, x14, x15, x16, x17, x18, x19, x20, x21, x22, some (.ref i), y24, y25, x26, x27, x28] R = some (.nx [x0, some (.ref 0), x2, some (fmD c p r), some (fmD c' p' r'), x5, x6, x7, x8, x9, x10, x11, x12, x13, x14, x15, x16, x17, x18, x19, x20, x21, x22, some (.ref i), z24, z25, x26, x27, x28], R')
  | [], qs, R, y24, y25, h0, hR, _ => ⟨R, y24, y25, h0, by simpa using hR, forL_nil⟩
  | j :: js, qs, R, y24, y25, h0, hR, hl => by
    have hl' : qs.length + (js.length + 1) ≤ 100 := hl
    have e := b11_ok (k := k) (j := j) (y24 := y24) (y25 := y25) (x0 := x0) (x2 := x2) (x5 := x5) (x6 := x6) (x7 := x7) (x8 := x8) (x9 := x9) (x10 := x10) (x11 := x11) (x12 := x12) (x13 := x13) (x14 := x14) (x15 := x15) (x16 := x16) (x17 := x17) (x18 := x18) (x19 := x19) (x20 := x20) (x21 := x21) (x22 := x22) (x26 := x26) (x27 := x27) (x28 := x28) h1 h2 hR (by omega)
    have hir : i < R.length := (List.getElem?_eq_some_iff.mp hR).1
    have h0r : 0 < R.length := by omega
    obtain ⟨R', z24, z25, a1, a2, a3⟩ := f11_ok h1 h2 hi (all := all) js (qs ++ [(p j - p' j).abs]) (((R ++ [Cell.dk (kvD (ps p))]) ++ [Cell.dk (kvD (ps p'))]).set i (.lst ((qs ++ [(p j - p' j).abs]).map fr))) (some (.int (j : Int))) (some (fr (p j - p' j))) (by
      rw [List.getElem?_set_ne hi, List.getElem?_append_left (by rw [List.length_append]; omega), List.getElem?_append_left h0r]
      exact h0) (by
      rw [List.getElem?_set_self (by rw [List.length_append, List.length_append]; omega)]) (by rw [List.length_append]; simp only [List.length_cons, List.length_nil]; omega)
    refine ⟨R', z24, z25, a1, ?_, ?_⟩
    · rw [List.append_assoc] at a2
      exact a2
    · rw [List.map_cons, forL_cons e]
      exact a3
theorem st15 (h1 : Fo c p r) (h2 : Fo c' p' r') (hi : i ≠ 0) (h0 : R[0]? = some C) (hR : R[i]? = some (.lst ([(c - c').abs, r'].map fr))) :
    ∃ (R' : Sto) (z24 z25 : Option D), R'[0]? = some C ∧ R'[i]? = some (.lst (([(c - c').abs, r'] ++ (List.range 4).map fun j => (p j - p' j).abs).map fr)) ∧ evS G (callK G (k + 15)) s_law_1_15 [x0, some (.ref 0), x2, some (fmD c p r), some (fmD c' p' r'), x5, x6, x7, x8, x9, x10, x11, x12, x13, x14, x15, x16, x17, x18, x19, x20, x21, x22, some (.ref i), x24, x25, x26, x27, x28] R = some (.nx [x0, some (.ref 0), x2, some (fmD c p r), some (fmD c' p' r'), x5, x6, x7, x8, x9, x10, x11, x12, x13, x14, x15, x16, x17, x18, x19, x20, x21, x22, some (.ref i), z24, z25, x26, x27, x28], R') := by
  have r4 : rngD [.int 4] = some ((List.range 4).map fun (i : Nat) => D.int (i : Int)) := rng_nat (n := 4) (by decide)
  obtain ⟨R', z24, z25, a1, a2, a3⟩ := f11_ok (k := k) h1 h2 hi (all := (List.range 4).map fun (i : Nat) => D.int (i : Int)) (x0 := x0) (x2 := x2) (x5 := x5) (x6 := x6) (x7 := x7) (x8 := x8) (x9 := x9) (x10 := x10) (x11 := x11) (x12 := x12) (x13 := x13) (x14 := x14) (x15 := x15) (x16 := x16) (x17 := x17) (x18 := x18) (x19 := x19) (x20 := x20) (x21 := x21) (x22 := x22) (x26 := x26) (x27 := x27) (x28 := x28) (List.range 4) [(c - c').abs, r'] R x24 x25 h0 hR (by simp)
  exact ⟨R', z24, z25, a1, a2, by simp only [E1, E2, E3, E4, E5, E6, E7, E8, E9, List.map_cons, List.map_nil, List.cons_append, List.nil_append, List.append_nil, List.length_cons, List.length_nil, List.replicate_zero, List.replicate_succ, Nat.sub_self, Nat.zero_add, List.getElem?_cons_zero, List.getElem?_cons_succ, List.set_cons_zero, List.set_cons_succ, if_true, if_false, Bool.false_eq_true, decide_true, decide_false, Bool.not_true, Bool.not_false, decide_eq_true_eq, eq_self, Int.cast_ofNat_Int, Int.natCast_zero, Int.natCast_one, Nat.reduceLeDiff, Nat.reduceSub, Nat.reduceAdd, Nat.reduceLT, reduceIte, reduceCtorEq, Int.reduceEq, Int.reduceLT, Int.reduceLE, Int.reduceNeg, Int.reduceAdd, Int.reduceSub, Int.reduceMul, Int.reduceNe, Int.reduceBNe, Int.reduceBEq, s_law_1_15, r4, a3]⟩
end

end Rw.Pk12

set_option exponentiation.threshold 300
namespace Rw.Pk12
open PySem L2 Rw
section
variable {k : Nat} {S T R : Sto} {L : List D} {a : Int} {p p' : Nat → Rat} {c c' r r' y e u v : Rat} {n m i : Nat} {l : ML} {qs : List Rat} {C : Cell} {x0 x1 x2 x3 x4 x5 x6 x7 x8 x9 x10 x11 x12 x13 x14 x15 x16 x17 x18 x19 x20 x21 x22 x23 x24 x25 x26 x27 x28 : Option D}
theorem gap4 (h1 : Fo c p r) (h2 : Fo c' p' r') : frSum ([(c - c').abs, r'] ++ (List.range 4).map fun j => (p j - p' j).abs) = offF c c' p p' + r' := by
  have z : ∀ j, 4 ≤ j → (p j - p' j).abs = 0 := fun j hj => by rw [h1.p4 j hj, h2.p4 j hj]; decide +kernel
  rw [off9]
  have e9 : (S9 fun j => (p j - p' j).abs) = (p 0 - p' 0).abs + (p 1 - p' 1).abs + (p 2 - p' 2).abs + (p 3 - p' 3).abs + (p 4 - p' 4).abs + (p 5 - p' 5).abs + (p 6 - p' 6).abs + (p 7 - p' 7).abs + (p 8 - p' 8).abs := rfl
  rw [e9, z 4 (by decide), z 5 (by decide), z 6 (by decide), z 7 (by decide), z 8 (by decide)]
  show ((((((0 + (c - c').abs) + r') + (p 0 - p' 0).abs) + (p 1 - p' 1).abs) + (p 2 - p' 2).abs) + (p 3 - p' 3).abs) = _
  grind
theorem off_sm (h1 : Fo c p r) (h2 : Fo c' p' r') : Sm 79 (offF c c' p p') := by
  have := gap_sm h1.sp h2.sp (List.range 9) (c - c').abs 7 (sub_sm h1.sc h2.sc).abs
  simpa [offF] using this
theorem st16 (h1 : Fo c p r) (h2 : Fo c' p' r') (se : Sm 3 e) (e0 : 0 ≤ e) (hR : R[i]? = some (.lst (([(c - c').abs, r'] ++ (List.range 4).map fun j => (p j - p' j).abs).map fr))) : evS G (callK G (k + 15)) s_law_1_16 [x0, some (.ref 0), x2, some (fmD c p r), some (fmD c' p' r'), x5, x6, x7, some (fr y), some (fr e), some (sp c (c + e)), x11, x12, x13, x14, x15, x16, x17, x18, x19, x20, x21, x22, some (.ref i), x24, x25, x26, x27, x28] R = some (.nx [x0, some (.ref 0), x2, some (fmD c p r), some (fmD c' p' r'), x5, x6, x7, some (fr y), some (fr e), some (sp c (c + e)), x11, x12, x13, x14, x15, x16, x17, x18, x19, x20, x21, x22, some (.ref i), x24, x25, x26, x27, x28], R) := by
  have e1 := is_looser_ok (k := k + 10) (S := R) h1.f9 h2.f9 h1.sc h1.sp (h1.sr.mono (by decide)) h2.sc h2.sp h2.sr (by decide)
  have e2 := lsum_ref (k := k + 13) (n := 7) hR (fun q hq => by
    rcases List.mem_append.mp hq with hq | hq
    · rcases List.mem_cons.mp hq with rfl | hq
      · exact (sub_sm h1.sc h2.sc).abs
      · rw [List.mem_singleton.mp hq]
        exact h2.sr.mono (by decide)
    · obtain ⟨j, _, rfl⟩ := List.mem_map.mp hq
      exact (sub_sm (h1.sp j) (h2.sp j)).abs) (by decide) (by simp)
  rw [gap4 h1 h2] at e2
  have e3 := less2 (k := k + 14) (S := R) (n := 83) (h1.sr.mono (by decide)) ((off_sm h1 h2).add h2.sr) (by decide)
  have e4 : (!decide (r < offF c c' p p' + r')) = decide (offF c c' p p' + r' ≤ r) := by
    rw [← decide_not, decide_eq_decide]
    grind
  have e5 := same_bl (k := k + 14) (S := R) (b := decide (offF c c' p p' + r' ≤ r))
  have e6 := is_looser_ok (k := k + 10) (S := R) h1.f9 h1.f9 h1.sc h1.sp (h1.sr.mono (by decide)) h1.sc h1.sp h1.sr (by decide)
  rw [decide_eq_true loose_refl] at e6
  have e7 := loosened_ok (k := k + 11) (S := R) (c := c) (p := p) h1.sr se (by decide) (by decide)
  have e8 := is_looser_ok (k := k + 10) (S := R) h1.f9 h1.f9 h1.sc h1.sp ((h1.sr.add se).mono (by decide)) h1.sc h1.sp h1.sr (by decide)
  rw [decide_eq_true (loose_more e0)] at e8
  simp only [E1, E2, E3, E4, E5, E6, E7, E8, E9, List.map_cons, List.map_nil, List.cons_append, List.nil_append, List.append_nil, List.length_cons, List.length_nil, List.replicate_zero, List.replicate_succ, Nat.sub_self, Nat.zero_add, List.getElem?_cons_zero, List.getElem?_cons_succ, List.set_cons_zero, List.set_cons_succ, if_true, if_false, Bool.false_eq_true, decide_true, decide_false, Bool.not_true, Bool.not_false, decide_eq_true_eq, eq_self, Int.cast_ofNat_Int, Int.natCast_zero, Int.natCast_one, Nat.reduceLeDiff, Nat.reduceSub, Nat.reduceAdd, Nat.reduceLT, reduceIte, reduceCtorEq, Int.reduceEq, Int.reduceLT, Int.reduceLE, Int.reduceNeg, Int.reduceAdd, Int.reduceSub, Int.reduceMul, Int.reduceNe, Int.reduceBNe, Int.reduceBEq, s_law_1_16, e1, idx_fm2, e2, e3, e4, e5, e6, e7, e8, isnt_bl]
theorem fr_fifth : fr (1 / 5) = .tup [.int 1, .int 5] := by
  have : (1 / 5 : Rat) = Rat.divInt 1 5 := by decide +kernel
  rw [this]
  rfl
theorem st17 (h1 : Fo c p r) : evS G (callK G (k + 15)) s_law_1_17 [x0, some (.ref 0), x2, some (fmD c p r), some (fmD c' p' r'), x5, x6, x7, some (fr y), some (fr e), some (sp c (c + e)), x11, x12, x13, x14, x15, x16, x17, x18, x19, x20, x21, x22, x23, x24, x25, x26, x27, x28] R = some (.nx [x0, some (.ref 0), x2, some (fmD c p r), some (fmD c' p' r'), x5, x6, x7, some (fr y), some (fr e), some (sp c (c + e)), x11, x12, x13, x14, x15, x16, x17, x18, x19, x20, x21, x22, x23, x24, x25, x26, x27, x28], R) := by
  have s5 : Sm 3 (1 / 5 : Rat) := ⟨by decide +kernel, by decide +kernel⟩
  have e7 := loosened_ok (k := k + 11) (S := R) (c := c) (p := p) h1.sr s5 (by decide) (by decide)
  rw [fr_fifth] at e7
  have e8 := is_looser_ok (k := k + 10) (S := R) (n := 7) h1.f9 h1.f9 (h1.sc.mono (by decide)) (fun j => (h1.sp j).mono (by decide)) (h1.sr.mono (by decide)) (h1.sc.mono (by decide)) (fun j => (h1.sp j).mono (by decide)) (h1.sr.add s5) (by decide)
  rw [decide_eq_false loose_not] at e8
  have e5 := same_bl (k := k + 14) (S := R) (b := false)
  simp only [E1, E2, E3, E4, E5, E6, E7, E8, E9, List.map_cons, List.map_nil, List.cons_append, List.nil_append, List.append_nil, List.length_cons, List.length_nil, List.replicate_zero, List.replicate_succ, Nat.sub_self, Nat.zero_add, List.getElem?_cons_zero, List.getElem?_cons_succ, List.set_cons_zero, List.set_cons_succ, if_true, if_false, Bool.false_eq_true, decide_true, decide_false, Bool.not_true, Bool.not_false, decide_eq_true_eq, eq_self, Int.cast_ofNat_Int, Int.natCast_zero, Int.natCast_one, Nat.reduceLeDiff, Nat.reduceSub, Nat.reduceAdd, Nat.reduceLT, reduceIte, reduceCtorEq, Int.reduceEq, Int.reduceLT, Int.reduceLE, Int.reduceNeg, Int.reduceAdd, Int.reduceSub, Int.reduceMul, Int.reduceNe, Int.reduceBNe, Int.reduceBEq, s_law_1_17, e7, e8, e5]
theorem st18 (h1 : Fo c p r) : evS G (callK G (k + 15)) s_law_1_18 [x0, some (.ref 0), x2, some (fmD c p r), some (fmD c' p' r'), x5, x6, x7, some (fr y), some (fr e), some (sp c (c + e)), x11, x12, x13, x14, x15, x16, x17, x18, x19, x20, x21, x22, x23, x24, x25, x26, x27, x28] R = some (.nx [x0, some (.ref 0), x2, some (fmD c p r), some (fmD c' p' r'), x5, x6, x7, some (fr y), some (fr e), some (sp c (c + e)), x11, x12, x13, x14, x15, x16, x17, x18, x19, x20, x21, x22, x23, x24, x25, some (fmD (crs 4 false c) (fun j => crs 4 false (p j)) (crs 4 true (csr c p r))), x27, x28], R) := by
  have e10 := coarse_straight_ok (k := k + 8) (S := R) h1.f9 h1.sc h1.sp h1.sr (by decide)
  simp only [E1, E2, E3, E4, E5, E6, E7, E8, E9, List.map_cons, List.map_nil, List.cons_append, List.nil_append, List.append_nil, List.length_cons, List.length_nil, List.replicate_zero, List.replicate_succ, Nat.sub_self, Nat.zero_add, List.getElem?_cons_zero, List.getElem?_cons_succ, List.set_cons_zero, List.set_cons_succ, if_true, if_false, Bool.false_eq_true, decide_true, decide_false, Bool.not_true, Bool.not_false, decide_eq_true_eq, eq_self, Int.cast_ofNat_Int, Int.natCast_zero, Int.natCast_one, Nat.reduceLeDiff, Nat.reduceSub, Nat.reduceAdd, Nat.reduceLT, reduceIte, reduceCtorEq, Int.reduceEq, Int.reduceLT, Int.reduceLE, Int.reduceNeg, Int.reduceAdd, Int.reduceSub, Int.reduceMul, Int.reduceNe, Int.reduceBNe, Int.reduceBEq, s_law_1_18, e10]
theorem num_lt {q : Rat} (h : q.abs < 1024) : (q.num.natAbs : Int) < 1024 * (q.den : Int) := by
  have e := lt_eq (p := q.abs) (q := 1024)
  rw [decide_eq_true h] at e
  have := of_decide_eq_true e
  rw [abs_num, abs_den, show (1024 : Rat).num = 1024 from rfl, show (1024 : Rat).den = 1 from rfl] at this
  omega
theorem s13_ok {q : Rat} (sq : Sm 1700 q) (h : q.abs < 1024) : ctn G (callK G (k + 15)) e_law_13 (.name 18) k_law_13 [x0, some (.ref 0), x2, some (fmD c p r), some (fmD c' p' r'), x5, x6, x7, some (fr y), some (fr e), some (sp c (c + e)), x11, x12, x13, x14, x15, x16, x17, none, x19, x20, x21, x22, x23, x24, x25, some (fmD (crs 4 false c) (fun j => crs 4 false (p j)) (crs 4 true (csr c p r))), x27, x28] (fr q) R = some (none, R) := by
  have o1 : mulOk 16 (q.den : Int) := (show Bd 5 16 from by show (16 : Int).natAbs < 2 ^ 5; decide).mulOk sq.dn (by decide)
  have o2 : mulOk (16 * (q.den : Int)) 64 := ((show Bd 5 16 from by show (16 : Int).natAbs < 2 ^ 5; decide).mul sq.dn).mulOk (show Bd 7 64 from by show (64 : Int).natAbs < 2 ^ 7; decide) (by decide)
  have := num_lt h
  have z : ¬ (if 0 - q.num > q.num then 0 - q.num else q.num) ≥ 16 * (q.den : Int) * 64 := by
    split <;> omega
  unfold ctn
  simp only [E1, E2, E3, E4, E5, E6, E7, E8, E9, List.map_cons, List.map_nil, List.cons_append, List.nil_append, List.append_nil, List.length_cons, List.length_nil, List.replicate_zero, List.replicate_succ, Nat.sub_self, Nat.zero_add, List.getElem?_cons_zero, List.getElem?_cons_succ, List.set_cons_zero, List.set_cons_succ, if_true, if_false, Bool.false_eq_true, decide_true, decide_false, Bool.not_true, Bool.not_false, decide_eq_true_eq, eq_self, Int.cast_ofNat_Int, Int.natCast_zero, Int.natCast_one, Nat.reduceLeDiff, Nat.reduceSub, Nat.reduceAdd, Nat.reduceLT, reduceIte, reduceCtorEq, Int.reduceEq, Int.reduceLT, Int.reduceLE, Int.reduceNeg, Int.reduceAdd, Int.reduceSub, Int.reduceMul, Int.reduceNe, Int.reduceBNe, Int.reduceBEq, e_law_13, k_law_13, idx_fr0, idx_fr1, o1, o2, z]
theorem st19 (h1 : Fo c p r) : evS G (callK G (k + 15)) s_law_1_19 [x0, some (.ref 0), x2, some (fmD c p r), some (fmD c' p' r'), x5, x6, x7, some (fr y), some (fr e), some (sp c (c + e)), x11, x12, x13, x14, x15, x16, x17, x18, x19, x20, x21, x22, x23, x24, x25, some (fmD (crs 4 false c) (fun j => crs 4 false (p j)) (crs 4 true (csr c p r))), x27, x28] R = some (.nx [x0, some (.ref 0), x2, some (fmD c p r), some (fmD c' p' r'), x5, x6, x7, some (fr y), some (fr e), some (sp c (c + e)), x11, x12, x13, x14, x15, x16, x17, x18, x19, x20, x21, x22, x23, x24, x25, some (fmD (crs 4 false c) (fun j => crs 4 false (p j)) (crs 4 true (csr c p r))), x27, x28], R) := by
  obtain ⟨g1, g2, g3⟩ := sm_coarse h1
  obtain ⟨t1, t2, t3⟩ := small_lt h1
  have f9 : F9 fun j => crs 4 false (p j) := fun j hj => by show crs 4 false (p j) = 0; rw [h1.f9 j hj]; exact crs_zero
  have e1 := is_looser_ok (k := k + 10) (S := R) (n := 49) f9 h1.f9 g1 g2 (g3.mono (by decide)) (h1.sc.mono (by decide)) (fun j => (h1.sp j).mono (by decide)) (h1.sr.mono (by decide)) (by decide)
  rw [decide_eq_true loose_coarse] at e1
  have c1 : ∀ all, compL none all (ctn G (callK G (k + 15)) e_law_12 (.tup (.cons (.name 24) (.cons (.name 28) .nil))) .none [x0, some (.ref 0), x2, some (fmD c p r), some (fmD c' p' r'), x5, x6, x7, some (fr y), some (fr e), some (sp c (c + e)), x11, x12, x13, x14, x15, x16, x17, x18, x19, x20, x21, x22, x23, none, x25, some (fmD (crs 4 false c) (fun j => crs 4 false (p j)) (crs 4 true (csr c p r))), x27, none]) ((ps fun j => crs 4 false (p j)).map mkD) R [] = some (((ps fun j => crs 4 false (p j)).map (·.2)).map fr, R) := fun all => by
    have := compL_mapT (all := all) (turn := ctn G (callK G (k + 15)) e_law_12 (.tup (.cons (.name 24) (.cons (.name 28) .nil))) .none [x0, some (.ref 0), x2, some (fmD c p r), some (fmD c' p' r'), x5, x6, x7, some (fr y), some (fr e), some (sp c (c + e)), x11, x12, x13, x14, x15, x16, x17, x18, x19, x20, x21, x22, x23, none, x25, some (fmD (crs 4 false c) (fun j => crs 4 false (p j)) (crs 4 true (csr c p r))), x27, none]) (S := R) (g := mkD) (f := fun e => fr e.2) (xs := ps fun j => crs 4 false (p j)) (acc := []) fun e he => by
      unfold ctn
      simp only [E1, E2, E3, E4, E5, E6, E7, E8, E9, List.map_cons, List.map_nil, List.cons_append, List.nil_append, List.append_nil, List.length_cons, List.length_nil, List.replicate_zero, List.replicate_succ, Nat.sub_self, Nat.zero_add, List.getElem?_cons_zero, List.getElem?_cons_succ, List.set_cons_zero, List.set_cons_succ, if_true, if_false, Bool.false_eq_true, decide_true, decide_false, Bool.not_true, Bool.not_false, decide_eq_true_eq, eq_self, Int.cast_ofNat_Int, Int.natCast_zero, Int.natCast_one, Nat.reduceLeDiff, Nat.reduceSub, Nat.reduceAdd, Nat.reduceLT, reduceIte, reduceCtorEq, Int.reduceEq, Int.reduceLT, Int.reduceLE, Int.reduceNeg, Int.reduceAdd, Int.reduceSub, Int.reduceMul, Int.reduceNe, Int.reduceBNe, Int.reduceBEq, e_law_12, mkD]
    rw [List.nil_append] at this
    rw [this, List.map_map]
    rfl
  have c2 : ∀ all, compL none all (ctn G (callK G (k + 15)) e_law_13 (.name 18) k_law_13 [x0, some (.ref 0), x2, some (fmD c p r), some (fmD c' p' r'), x5, x6, x7, some (fr y), some (fr e), some (sp c (c + e)), x11, x12, x13, x14, x15, x16, x17, none, x19, x20, x21, x22, x23, x24, x25, some (fmD (crs 4 false c) (fun j => crs 4 false (p j)) (crs 4 true (csr c p r))), x27, x28]) (fr (crs 4 false c) :: fr (crs 4 true (csr c p r)) :: ((ps fun j => crs 4 false (p j)).map (·.2)).map fr) R [] = some ([], R) := fun all => by
    have := compL_noneT (all := all) (turn := ctn G (callK G (k + 15)) e_law_13 (.name 18) k_law_13 [x0, some (.ref 0), x2, some (fmD c p r), some (fmD c' p' r'), x5, x6, x7, some (fr y), some (fr e), some (sp c (c + e)), x11, x12, x13, x14, x15, x16, x17, none, x19, x20, x21, x22, x23, x24, x25, some (fmD (crs 4 false c) (fun j => crs 4 false (p j)) (crs 4 true (csr c p r))), x27, x28]) (S := R) (g := fr) (xs := crs 4 false c :: crs 4 true (csr c p r) :: (ps fun j => crs 4 false (p j)).map (·.2)) (acc := []) fun q hq => by
      rcases List.mem_cons.mp hq with rfl | hq
      · exact s13_ok (g1.mono (by decide)) t1
      · rcases List.mem_cons.mp hq with rfl | hq
        · exact s13_ok g3 t3
        · obtain ⟨e, he, rfl⟩ := List.mem_map.mp hq
          rw [(mem_ps.mp he).2.2]
          exact s13_ok ((g2 _).mono (by decide)) (t2 _)
    exact this
  have hz := ps_le (p := fun j => crs 4 false (p j))
  have hl : (ps fun j => crs 4 false (p j)).length ≤ 9 := ps_len
  have hz2 : 2 + (((ps fun j => crs 4 false (p j)).map (·.2)).map fr).length ≤ sizeLine := le_size (by rw [List.length_map, List.length_map]; omega)
  have hz3 : (((ps fun j => crs 4 false (p j)).map (·.2)).map fr).length + 2 ≤ sizeLine := le_size (by rw [List.length_map, List.length_map]; omega)
  have hz4 : (((ps fun j => crs 4 false (p j)).map (·.2)).map fr).length + 1 + 1 ≤ sizeLine := hz3
  simp only [E1, E2, E3, E4, E5, E6, E7, E8, E9, List.map_cons, List.map_nil, List.cons_append, List.nil_append, List.append_nil, List.length_cons, List.length_nil, List.replicate_zero, List.replicate_succ, Nat.sub_self, Nat.zero_add, List.getElem?_cons_zero, List.getElem?_cons_succ, List.set_cons_zero, List.set_cons_succ, if_true, if_false, Bool.false_eq_true, decide_true, decide_false, Bool.not_true, Bool.not_false, decide_eq_true_eq, eq_self, Int.cast_ofNat_Int, Int.natCast_zero, Int.natCast_one, Nat.reduceLeDiff, Nat.reduceSub, Nat.reduceAdd, Nat.reduceLT, reduceIte, reduceCtorEq, Int.reduceEq, Int.reduceLT, Int.reduceLE, Int.reduceNeg, Int.reduceAdd, Int.reduceSub, Int.reduceMul, Int.reduceNe, Int.reduceBNe, Int.reduceBEq, s_law_1_19, e1, isnt_bl, idx_fm0, idx_fm1, idx_fm2, hz, wipe_nil, wipe_cons, c1, add_l, hz2, List.cons_append, List.nil_append, List.length_cons, hz3, hz4, c2, ne_l0]
end

end Rw.Pk12

set_option exponentiation.threshold 300
namespace Rw.Pk12
open PySem L2 Rw
section
variable {k : Nat} {T : Sto} {L : List D} {a : Int} {x0 x1 x2 x3 x4 x5 x6 x7 x8 x9 x10 x11 x12 x13 x14 x15 x16 x17 x18 x19 x20 x21 x22 x23 x24 x25 x26 x27 x28 : Option D}
theorem turn_ok (hL : IntL L) (ha : 0 ≤ a) : ∃ (y3 y4 y5 y6 y7 y8 y9 y10 y11 y12 y13 y14 y15 y16 y17 y18 y19 y20 y21 y22 y23 y24 y25 y26 y27 y28 : Option D) (b : Int) (T' : Sto), 0 ≤ b ∧ evSs G (callK G (k + 15)) b_law_0 [x0, some (.ref 0), x2, x3, x4, x5, x6, x7, x8, x9, x10, x11, x12, x13, x14, x15, x16, x17, x18, x19, x20, x21, x22, x23, x24, x25, x26, x27, x28] (wC L a :: T) = some (.nx [x0, some (.ref 0), x2, y3, y4, y5, y6, y7, y8, y9, y10, y11, y12, y13, y14, y15, y16, y17, y18, y19, y20, y21, y22, y23, y24, y25, y26, y27, y28], wC L b :: T') := by
  obtain ⟨c, p, r, b1, T1, h1, hb1, e1⟩ := form_ok (k := k + 11) (T := T) hL ha
  obtain ⟨c', p', r', b2, T2, h2, hb2, e2⟩ := form_ok (k := k + 11) (T := T1) hL hb1
  obtain ⟨y, e, sy, by4, se, e0, e2', e3⟩ := st3 (k := k) (T := T2) (x0 := x0) (x2 := x2) (x10 := x10) (x11 := x11) (x12 := x12) (x13 := x13) (x14 := x14) (x15 := x15) (x16 := x16) (x17 := x17) (x18 := x18) (x19 := x19) (x20 := x20) (x21 := x21) (x22 := x22) (x23 := x23) (x24 := x24) (x25 := x25) (x26 := x26) (x27 := x27) (x28 := x28) (c := c) (p := p) (r := r) (c' := c') (p' := p') (r' := r') hL hb2
  obtain ⟨y11, y12, y13, y14, y15, y16, y17, y18, b3, hb3, e5⟩ := st5 (k := k) (T := T2) (x0 := x0) (x2 := x2) (x5 := some (.lst [.lst [fr c, .tup ((ps p).map mkD), fr r], .tup [fr c, .tup ((ps p).map mkD)], .tup [.tup [.int 0, .int 1], .tup [.tup [.int 1, .tup [.int 0, .int 1]]], .tup [.int 0, .int 1]], .non])) (x6 := some (.tup [.tup [.int 0, .int 1], .tup [], .tup [.int (-1), .int 2]])) (x7 := some (.bl false)) (x11 := x11) (x12 := x12) (x13 := x13) (x14 := x14) (x15 := x15) (x16 := x16) (x17 := x17) (x18 := x18) (x19 := x19) (x20 := x20) (x21 := x21) (x22 := x22) (x23 := x23) (x24 := x24) (x25 := x25) (x26 := x26) (x27 := x27) (x28 := x28) hL (show 0 ≤ b2 + 1 + 1 + 1 by omega) h1 h2 sy by4 se e0 e2'
  obtain ⟨S2, hS2⟩ : ∃ S2 : Sto, S2 = (wC L b3 :: T2) ++ [Cell.dk (kvD (ps p ++ [(8, 0)]))] := ⟨_, rfl⟩
  have e12 := fun {x0 x2 x5 x6 x7 x11 x12 x13 x14 x15 x16 x17 x18 x22 x23 x24 x25 x26 x27 x28 : Option D} => st12 (k := k) (S := wC L b3 :: T2) (c' := c') (p' := p') (r' := r') (y := y) (e := e) (x0 := x0) (x2 := x2) (x5 := x5) (x6 := x6) (x7 := x7) (x11 := x11) (x12 := x12) (x13 := x13) (x14 := x14) (x15 := x15) (x16 := x16) (x17 := x17) (x18 := x18) (x19 := some (fr (sab p + r))) (x20 := some (fr (mid c (c + e)))) (x21 := some (fr (e * (1 / 2)))) (x22 := x22) (x23 := x23) (x24 := x24) (x25 := x25) (x26 := x26) (x27 := x27) (x28 := x28) h1
  rw [← hS2] at e12
  have g0 : (S2 ++ [Cell.lst ([(c - c').abs, r'].map fr)])[0]? = some (wC L b3) := by rw [hS2]; rfl
  have gn : S2.length ≠ 0 := by rw [hS2]; simp
  obtain ⟨R', z24, z25, q1, q2, e15⟩ := st15 (k := k) (R := S2 ++ [Cell.lst ([(c - c').abs, r'].map fr)]) (i := S2.length) (C := wC L b3) (x0 := x0) (x2 := x2) (x5 := some (.lst [.lst [fr c, .tup ((ps p).map mkD), fr r], .tup [fr c, .tup ((ps p).map mkD)], .tup [.tup [.int 0, .int 1], .tup [.tup [.int 1, .tup [.int 0, .int 1]]], .tup [.int 0, .int 1]], .non])) (x6 := some (.tup [.tup [.int 0, .int 1], .tup [], .tup [.int (-1), .int 2]])) (x7 := some (.bl false)) (x8 := some (fr y)) (x9 := some (fr e)) (x10 := some (sp c (c + e))) (x11 := y11) (x12 := y12) (x13 := y13) (x14 := y14) (x15 := y15) (x16 := y16) (x17 := y17) (x18 := y18) (x19 := some (fr (sab p + r))) (x20 := some (fr (mid c (c + e)))) (x21 := some (fr (e * (1 / 2)))) (x22 := some (fr (c - c'))) (x24 := x24) (x25 := x25) (x26 := x26) (x27 := x27) (x28 := x28) h1 h2 gn g0 at_new
  cases R' with
  | nil => cases q1
  | cons C T' =>
    have hC : C = wC L b3 := Option.some.inj q1
    subst hC
    refine ⟨some (fmD c p r), some (fmD c' p' r'), some (.lst [.lst [fr c, .tup ((ps p).map mkD), fr r], .tup [fr c, .tup ((ps p).map mkD)], .tup [.tup [.int 0, .int 1], .tup [.tup [.int 1, .tup [.int 0, .int 1]]], .tup [.int 0, .int 1]], .non]), some (.tup [.tup [.int 0, .int 1], .tup [], .tup [.int (-1), .int 2]]), some (.bl false), some (fr y), some (fr e), some (sp c (c + e)), y11, y12, y13, y14, y15, y16, y17, y18, some (fr (sab p + r)), some (fr (mid c (c + e))), some (fr (e * (1 / 2))), some (fr (c - c')), some (.ref S2.length), z24, z25, some (fmD (crs 4 false c) (fun j => crs 4 false (p j)) (crs 4 true (csr c p r))), x27, x28, b3, T', hb3, ?_⟩
    unfold b_law_0
    rw [ev_sC, st0 e1 e2, sq_nx, ev_sC, st1, sq_nx, ev_sC, st2 h1.r0, sq_nx, ev_sC, e3, sq_nx, ev_sC, st4 h1 se, sq_nx, ev_sC, e5, sq_nx, ev_sC, st6 h1, sq_nx, ev_sC, st7 h1, sq_nx, ev_sC, st8 h1, sq_nx, ev_sC, st9 h1 se, sq_nx, ev_sC, st10 se, sq_nx, ev_sC, st11 h1 se, sq_nx, ev_sC, e12, sq_nx, ev_sC, st13 h1 h2, sq_nx, ev_sC, st14, sq_nx, ev_sC, e15, sq_nx, ev_sC, st16 h1 h2 se e0 q2, sq_nx, ev_sC, st17 h1, sq_nx, ev_sC, st18 h1, sq_nx, ev_sC, st19 h1, sq_nx, ev_sN]
end

end Rw.Pk12

set_option exponentiation.threshold 300
namespace Rw.Pk12
open PySem L2 Rw
def depth : Nat := 20
theorem law_true (ns : List Int) (hn : ns.length ≤ 63) : ∃ S', callK G depth i_law [.flst (ns.map D.int)] [] = some (.bl true, S') := by
  obtain ⟨L, hd⟩ := draws_ok (k := 18) (S := []) (ns := ns) (m := 160) hn (by decide)
  have hL : IntL (L.map D.int) := fun d h => by
    obtain ⟨x, _, rfl⟩ := List.mem_map.mp h
    exact ⟨x, rfl⟩
  have r4 : rngD [.int 4] = some ((List.range 4).map fun (i : Nat) => D.int (i : Int)) := rng_nat (n := 4) (by decide)
  obtain ⟨ρ, S1, h, hI⟩ := forL_run (all := (List.range 4).map fun (i : Nat) => D.int (i : Int)) (body := fbd G (callK G 19) (.name 2) b_law_0) (xs := (List.range 4).map fun (i : Nat) => D.int (i : Int)) (ρ := [some (.flst (ns.map D.int)), some (.ref 0), none, none, none, none, none, none, none, none, none, none, none, none, none, none, none, none, none, none, none, none, none, none, none, none, none, none, none]) (S := [wC (L.map D.int) 0])
    (I := fun _ ρ S => ∃ (x0 x2 x3 x4 x5 x6 x7 x8 x9 x10 x11 x12 x13 x14 x15 x16 x17 x18 x19 x20 x21 x22 x23 x24 x25 x26 x27 x28 : Option D) (a : Int) (T : Sto), ρ = [x0, some (.ref 0), x2, x3, x4, x5, x6, x7, x8, x9, x10, x11, x12, x13, x14, x15, x16, x17, x18, x19, x20, x21, x22, x23, x24, x25, x26, x27, x28] ∧ S = wC (L.map D.int) a :: T ∧ 0 ≤ a)
    (by
      rintro i x ρ S hx ⟨x0, x2, x3, x4, x5, x6, x7, x8, x9, x10, x11, x12, x13, x14, x15, x16, x17, x18, x19, x20, x21, x22, x23, x24, x25, x26, x27, x28, a, T, rfl, rfl, ha⟩
      obtain ⟨y3, y4, y5, y6, y7, y8, y9, y10, y11, y12, y13, y14, y15, y16, y17, y18, y19, y20, y21, y22, y23, y24, y25, y26, y27, y28, b, T', hb, e⟩ := turn_ok (k := 4) (T := T) hL ha (x0 := x0) (x2 := some x) (x3 := x3) (x4 := x4) (x5 := x5) (x6 := x6) (x7 := x7) (x8 := x8) (x9 := x9) (x10 := x10) (x11 := x11) (x12 := x12) (x13 := x13) (x14 := x14) (x15 := x15) (x16 := x16) (x17 := x17) (x18 := x18) (x19 := x19) (x20 := x20) (x21 := x21) (x22 := x22) (x23 := x23) (x24 := x24) (x25 := x25) (x26 := x26) (x27 := x27) (x28 := x28)
      refine ⟨_, _, ?_, x0, some x, y3, y4, y5, y6, y7, y8, y9, y10, y11, y12, y13, y14, y15, y16, y17, y18, y19, y20, y21, y22, y23, y24, y25, y26, y27, y28, b, T', rfl, rfl, hb⟩
      unfold fbd
      simp only [E1, E2, E3, E4, E5, E6, E7, E8, E9, List.map_cons, List.map_nil, List.cons_append, List.nil_append, List.append_nil, List.length_cons, List.length_nil, List.replicate_zero, List.replicate_succ, Nat.sub_self, Nat.zero_add, List.getElem?_cons_zero, List.getElem?_cons_succ, List.set_cons_zero, List.set_cons_succ, if_true, if_false, Bool.false_eq_true, decide_true, decide_false, Bool.not_true, Bool.not_false, decide_eq_true_eq, eq_self, Int.cast_ofNat_Int, Int.natCast_zero, Int.natCast_one, Nat.reduceLeDiff, Nat.reduceSub, Nat.reduceAdd, Nat.reduceLT, reduceIte, reduceCtorEq, Int.reduceEq, Int.reduceLT, Int.reduceLE, Int.reduceNeg, Int.reduceAdd, Int.reduceSub, Int.reduceMul, Int.reduceNe, Int.reduceBNe, Int.reduceBEq, e])
    ⟨some (.flst (ns.map D.int)), none, none, none, none, none, none, none, none, none, none, none, none, none, none, none, none, none, none, none, none, none, none, none, none, none, none, none, 0, [], rfl, rfl, Int.le_refl _⟩
  have hk : keysD [(.str "draws", .lst (L.map D.int)), (.str "at", .int 0)] = some [(.inr "draws", .lst (L.map D.int)), (.inr "at", .int 0)] := rfl
  have hs : ¬ (("draws" : Str) = ("at" : Str)) := by decide +kernel
  have hm : mergeKD [] [((.inr "draws" : Key), D.lst (L.map D.int)), (.inr "at", .int 0)] = [((.inr "draws" : Key), D.lst (L.map D.int)), (.inr "at", .int 0)] := by
    simp [mergeKD, storeK, hs]
  have hw : [Cell.dk [((.inr "draws" : Key), D.lst (L.map D.int)), (.inr "at", .int 0)]] = [wC (L.map D.int) 0] := rfl
  obtain ⟨x0, x2, x3, x4, x5, x6, x7, x8, x9, x10, x11, x12, x13, x14, x15, x16, x17, x18, x19, x20, x21, x22, x23, x24, x25, x26, x27, x28, a, T, rfl, rfl, ha⟩ := hI
  have hp : prune [] (.bl true) (wC (L.map D.int) a :: T) = (.bl true, []) := prune_new (S := []) rfl
  refine ⟨[], ?_⟩
  unfold depth
  rw [call_fn g_law rfl]
  have hd' : callK G 19 i__law_draws [.flst (ns.map D.int), .int 160] [] = some (.lst (L.map D.int), []) := hd
  have hr : (2 : Nat) ≤ 15 := by decide
  simp only [E1, E2, E3, E4, E5, E6, E7, E8, E9, List.map_cons, List.map_nil, List.cons_append, List.nil_append, List.append_nil, List.length_cons, List.length_nil, List.replicate_zero, List.replicate_succ, Nat.sub_self, Nat.zero_add, List.getElem?_cons_zero, List.getElem?_cons_succ, List.set_cons_zero, List.set_cons_succ, if_true, if_false, Bool.false_eq_true, decide_true, decide_false, Bool.not_true, Bool.not_false, decide_eq_true_eq, eq_self, Int.cast_ofNat_Int, Int.natCast_zero, Int.natCast_one, Nat.reduceLeDiff, Nat.reduceSub, Nat.reduceAdd, Nat.reduceLT, reduceIte, reduceCtorEq, Int.reduceEq, Int.reduceLT, Int.reduceLE, Int.reduceNeg, Int.reduceAdd, Int.reduceSub, Int.reduceMul, Int.reduceNe, Int.reduceBNe, Int.reduceBEq, f_law, hd', hk, hm, hr, List.nil_append, hw, r4, h, hp]

end Rw.Pk12

namespace Rw.Pk12
open PySem PySem.Spec PyProof.Rows L2 Rw
def top (i : Nat) : Stmt := PySem.Challenge.pw_roundedwithin_k12_straight_forms.main.body.getD i (.Pass ⟨0, 0, 0, 0⟩)
abbrev R : PySem.W.OpenRow := PySem.W.OpenLaw.row PySem.Challenge.rw_roundedwithin_k12_straight_forms
abbrev hk : PySem.W.Hook := hookR 2 (faOf T) (fnOf' top T) (exOf T)
def loose0 : List Str := ["is_number", "is_from", "is_tuple_of", "is_ascending", "bits_of", "NOTHING", "common", "fraction", "is_fraction", "added", "negated", "taken", "times", "size", "is_most", "two_to", "shifted", "exponent_of", "sum_of", "is_straight", "straight", "plain", "of_span", "with_rest", "swing", "span_of", "reach_of", "both", "scaled", "turned"]
def loose1 : List Str := ["loosened", "marked", "product", "at_marks", "is_looser", "coarse", "coarse_straight", "_law_draws", "_law_next", "_law_pick", "_law_same", "_law_least", "_law_sum", "_law_less", "_law_product2", "_law_form", "_law_values", "_law_in", "_law_takes"]
def loose : List Str := loose0 ++ loose1
theorem chk : chkT top T = true := by decide +kernel
def ob (s : PySem.W.SharedT) : hk.α := (He.obsDG 2 (faOf T) (fnOf' top T) (HandSHeadRun.getT s), exOf T (He.frG (HandSHeadRun.getT s) (He.asD (HandSHeadRun.getT s) 2)))
theorem ob_eq (s : PySem.W.SharedT) : ob s = hk.obs s.abs := by
  have e : HandSHeadRun.getT s = s.abs.heap.get? := funext (HandSHeadRun.getT_eq s)
  unfold ob
  rw [e]
  rfl
theorem run (w : World) : HandSHeadRun.RunEq R (PySem.W.view R.prog [55]) hk ob 3000 loose w := by
  intro os
  kernel_rfl
end Rw.Pk12

open PySem PySem.W PySem.Calls PyProof.Rows
theorem PySem.Challenge.cw_roundedwithin_k12_straight_forms_holds : PySem.Challenge.rw_roundedwithin_k12_straight_forms.Holds := by
  w_on; o_law
  refine HandSHeadRun.head_any (r := OpenLaw.row PySem.Challenge.rw_roundedwithin_k12_straight_forms) (q := view (OpenLaw.row PySem.Challenge.rw_roundedwithin_k12_straight_forms).prog [55]) (H := Rw.Pk12.hk) (ob := Rw.Pk12.ob) (M := 3000) (loose := Rw.Pk12.loose) (d := HandSHeadRun.topDef (OpenLaw.row PySem.Challenge.rw_roundedwithin_k12_straight_forms).prog 55) (kwd := []) Rw.Pk12.ob_eq
    (by kernel_rfl) (fun s => by kernel_rfl) Rw.Pk12.run (by kernel_rfl) (by kernel_rfl) (by kernel_rfl) (by rfl) (by first | assumption | decide +kernel) (by decide +kernel) ⟨rfl, rfl, rfl, rfl, rfl, by decide +kernel⟩ ?hw ?hc
  case hw => w_witness2
  case hc => exact Rw.law_walk (l := PySem.Challenge.rw_roundedwithin_k12_straight_forms) (top := Rw.Pk12.top) (T := Rw.Pk12.T) (n := 2) (g := 64) (k := Rw.Pk12.depth) (i := 55) (f := Rw.Pk12.f_law) rfl (by kernel_rfl) ⟨rfl, by decide, by decide⟩ (by kernel_rfl) Rw.Pk12.chk rfl (by kernel_rfl) Rw.Pk12.law_true

