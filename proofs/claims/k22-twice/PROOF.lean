import PyProof.Rows.All
import Wide.All
import OpenK.AllK
import Wide.FinOn
import HandS.ForMost
import HandS.Flow
import HandS.Wide
import HandS.WideBits
import HandS.IsInst
import HandS.TupAny
import HandS.Defaults
import HandS.Deep
import HandS.Style
import HandS.NoneIn
import HandS.Ends
import HandS.More
import HandS.Words
import HandS.WordsExc
import HandS.Head0
import HandS.Head1
import HandS.Head2
import HandS.HeadEnd
import HandS.HeadHook1
import HandS.HeadHook2
import PySem.Challenge.RW_roundedwithin_k22_whole_rounding_twice
set_option Elab.async false
set_option linter.all false
set_option maxRecDepth 100000
set_option maxHeartbeats 0
set_option exponentiation.threshold 300
/-! M1: the small language: values, store, what an expression and a statement do -/
namespace Rw
open PySem L2

/-! ### values -/
inductive D where
  | non | bl (b : Bool) | int (i : Int) | str (s : Str)
  | tup (xs : List D) | lst (xs : List D) | flst (xs : List D) | ref (r : Nat) | ty (n : String)
inductive Cell where
  | lst (xs : List D)
  | dk (kvs : List (Key × D))
abbrev Sto := List Cell
abbrev Env := List (Option D)
abbrev Rs (α : Type) := Option (α × Sto)

mutual
/-- all its references are below n -/
def below (n : Nat) : D → Bool
  | .tup xs => belows n xs
  | .lst xs => belows n xs
  | .flst xs => belows n xs
  | .ref r => decide (r < n)
  | _ => true
def belows (n : Nat) : List D → Bool
  | [] => true
  | x :: xs => below n x && belows n xs
end

/-! ### operations on values -/
def b2i (b : Bool) : Int := if b then 1 else 0
def mulOk (a b : Int) : Prop := a.natAbs.log2 + b.natAbs.log2 < 1000000
instance (a b : Int) : Decidable (mulOk a b) := inferInstanceAs (Decidable (_ < _))
def divOk (b : Int) : Prop := b ≠ 0 ∧ b.natAbs.log2 < 9000
instance (b : Int) : Decidable (divOk b) := inferInstanceAs (Decidable (_ ∧ _))
def shlOk (a b : Int) : Prop := 0 ≤ b ∧ (Builtin.Int.intBits a : Int) + b ≤ 2 ^ 27
instance (a b : Int) : Decidable (shlOk a b) := inferInstanceAs (Decidable (_ ∧ _))
def powOk (a b : Int) : Prop := 0 ≤ b ∧ b ≤ 1000000 ∧ a.natAbs < 2 ^ 64
instance (a b : Int) : Decidable (powOk a b) := inferInstanceAs (Decidable (_ ∧ _))
/-- a list so many times -/
def repOk (n : Nat) (k : Int) : Prop := -(2 ^ 63) ≤ k ∧ k < 2 ^ 63 ∧ n * k.toNat ≤ sizeLine
instance (n : Nat) (k : Int) : Decidable (repOk n k) := inferInstanceAs (Decidable (_ ∧ _ ∧ _))

def binD (op : Operator) (d e : D) : Option D :=
  match op, d, e with
  | .Add, .int a, .int b => some (.int (a + b))
  | .Add, .str a, .str b => if a.length + b.length ≤ sizeLine then some (.str (a ++ b)) else none
  | .Add, .tup xs, .tup ys => if xs.length + ys.length ≤ sizeLine then some (.tup (xs ++ ys)) else none
  | .Add, .lst xs, .lst ys => if xs.length + ys.length ≤ sizeLine then some (.lst (xs ++ ys)) else none
  | .Sub, .int a, .int b => some (.int (a - b))
  | .Sub, .bl a, .bl b => some (.int (b2i a - b2i b))
  | .Mult, .int a, .int b => if mulOk a b then some (.int (a * b)) else none
  | .FloorDiv, .int a, .int b => if divOk b then some (.int (a.fdiv b)) else none
  | .Mod, .int a, .int b => if b ≠ 0 then some (.int (a.fmod b)) else none
  | .Pow, .int a, .int b => if powOk a b then some (.int (a ^ b.toNat)) else none
  | .LShift, .int a, .int b => if shlOk a b then some (.int (a * 2 ^ b.toNat)) else none
  | .RShift, .int a, .int b => if 0 ≤ b then some (.int (a / 2 ^ b.toNat)) else none
  | .Mult, .lst xs, .int k => if repOk xs.length k then some (.lst (List.replicate k.toNat xs).flatten) else none
  | _, _, _ => none

mutual
/-- as data, references read in the store -/
def pd (S : Sto) : D → Option PyData
  | .non => some .none
  | .bl b => some (.bool b)
  | .int i => some (.int i)
  | .str s => some (.str s)
  | .tup xs => (pds S xs).map .tuple
  | .lst xs => (pds S xs).map .list
  | .flst xs => (pds S xs).map .list
  | .ref r => none
  | .ty _ => none
def pds (S : Sto) : List D → Option (List PyData)
  | [] => some []
  | x :: xs => match pd S x, pds S xs with
    | some y, some ys => some (y :: ys)
    | _, _ => none
end
/-- the list behind a value -/
def lstOf (S : Sto) : D → Option (List D)
  | .lst xs => some xs
  | .flst xs => some xs
  | .ref r => match S[r]? with
    | some (.lst xs) => some xs
    | _ => none
  | _ => none
/-- as data, a list at the outermost may be of the store -/
def pdT (S : Sto) (d : D) : Option PyData := match d with
  | .ref r => match S[r]? with
    | some (.lst xs) => (pds S xs).map .list
    | _ => none
  | _ => pd S d
def eqD (S : Sto) (d e : D) : Option Bool := match d, e with
  | .int a, .int b => some (decide (a = b))
  | .bl a, .bl b => some (decide (a = b))
  | .str a, .str b => some (decide (a = b))
  | .non, .non => some true
  | .non, .int _ => some false
  | .int _, .non => some false
  | .non, .bl _ => some false
  | .bl _, .non => some false
  | .non, .str _ => some false
  | .str _, .non => some false
  | _, _ => match pdT S d, pdT S e with
    | some p, some q => if SeqAt.shaped p = true ∧ SeqAt.shaped q = true then some (PyData.eqv p q) else none
    | _, _ => none
def isNone : D → Bool
  | .non => true
  | _ => false
/-- among the items -/
def inD (S : Sto) (d e : D) : Option Bool := match pdT S d, pdT S e with
  | some p, some (.tuple qs) => if SeqAt.shaped p = true ∧ SeqAt.shaped (.tuple qs) = true then some (qs.any fun z => PyData.eqv z p) else none
  | some p, some (.list qs) => if SeqAt.shaped p = true ∧ SeqAt.shaped (.list qs) = true then some (qs.any fun z => PyData.eqv z p) else none
  | _, _ => none
def cmpD (S : Sto) (op : CmpOp) (d e : D) : Option Bool := match op with
  | .Eq => eqD S d e
  | .NotEq => (eqD S d e).map (!·)
  | .Lt => match d, e with
    | .int a, .int b => some (decide (a < b))
    | _, _ => none
  | .LtE => match d, e with
    | .int a, .int b => some (decide (a ≤ b))
    | _, _ => none
  | .Gt => match d, e with
    | .int a, .int b => some (decide (b < a))
    | _, _ => none
  | .GtE => match d, e with
    | .int a, .int b => some (decide (b ≤ a))
    | _, _ => none
  | .Is => match e with
    | .non => some (isNone d)
    | .bl b => match d with
      | .bl a => some (decide (a = b))
      | _ => none
    | _ => none
  | .IsNot => match e with
    | .non => some (!isNone d)
    | .bl b => match d with
      | .bl a => some (!decide (a = b))
      | _ => none
    | _ => none
  | .In => inD S d e
  | .NotIn => (inD S d e).map (!·)
def truD (S : Sto) : D → Option Bool
  | .non => some false
  | .bl b => some b
  | .int i => some (i != 0)
  | .str s => if s.length ≤ sizeLine then some ((s.length : Int) != 0) else none
  | .tup xs => some (!xs.isEmpty)
  | .lst xs => some (!xs.isEmpty)
  | .flst xs => some (!xs.isEmpty)
  | .ref r => match S[r]? with
    | some (.lst xs) => some (!xs.isEmpty)
    | some (.dk kvs) => some (!kvs.isEmpty)
    | _ => none
  | .ty _ => none
def keyD : D → Option Key
  | .int i => some (.inl i)
  | .str s => some (.inr s)
  | _ => none
def lookK (kvs : List (Key × D)) (k : Key) : Option D := (kvs.find? fun kv => decide (kv.1 = k)).map (·.2)
def storeK (kvs : List (Key × D)) (k : Key) (v : D) : List (Key × D) :=
  if kvs.any (fun kv => decide (kv.1 = k)) then kvs.map (fun kv => if kv.1 = k then (kv.1, v) else kv) else kvs ++ [(k, v)]
def idxD (S : Sto) (d i : D) : Option D := match d, i with
  | .tup xs, .int k => atI xs k
  | .lst xs, .int k => atI xs k
  | .flst xs, .int k => atI xs k
  | .str s, .int k => if s.length ≤ sizeLine then (atI s.cps.toList k).map fun c => .str ⟨#[c]⟩ else none
  | .ref r, k => match S[r]? with
    | some (.lst xs) => match k with
      | .int j => atI xs j
      | _ => none
    | some (.dk kvs) => (keyD k).bind fun q => lookK kvs q
    | _ => none
  | _, _ => none
/-- xs[lo:hi] -/
def cutD {α : Type} (xs : List α) (lo hi : Option Int) : List α := (xs.drop (HT.sIx xs.length 0 lo)).take (HT.sIx xs.length xs.length hi - HT.sIx xs.length 0 lo)
def slD (S : Sto) (d : D) (lo hi : Option Int) : Option D := match d with
  | .tup xs => some (.tup (cutD xs lo hi))
  | .str s => if s.length ≤ sizeLine then some (.str (cutS s lo hi)) else none
  | d => (lstOf S d).map fun xs => .lst (cutD xs lo hi)

/-- xs[:hi:-1] -/
def slRL (S : Sto) (d : D) (hi : Option Int) : Option D := (lstOf S d).bind fun xs => match hi with
  | none => some (.lst xs.reverse)
  | some i => if 0 ≤ i then some (.lst (xs.drop (i.toNat + 1)).reverse) else none
def slRD (S : Sto) (d : D) (hi : Option Int) : Option D := match d with
  | .tup xs => match hi with
    | none => some (.tup xs.reverse)
    | some _ => none
  | d => slRL S d hi

/-! ### built-in calls -/
inductive BI where
  | len | abs | max | min | int | str | tuple | list
def tyName (S : Sto) : D → Option String
  | .non => some "NoneType"
  | .bl _ => some "bool"
  | .int _ => some "int"
  | .str _ => some "str"
  | .tup _ => some "tuple"
  | .lst _ => some "list"
  | .flst _ => some "list"
  | .ref r => match S[r]? with
    | some (.lst _) => some "list"
    | some (.dk _) => some "dict"
    | _ => none
  | .ty _ => none
def biLen (S : Sto) : List D → Option D
  | [.tup xs] => some (.int xs.length)
  | [.str s] => if s.length ≤ sizeLine then some (.int s.length) else none
  | [.lst xs] => some (.int xs.length)
  | [.flst xs] => some (.int xs.length)
  | [.ref r] => match S[r]? with
    | some (.lst xs) => some (.int xs.length)
    | _ => none
  | _ => none
def biAbs : List D → Option D
  | [.int i] => some (.int (if i < 0 then -i else i))
  | _ => none
/-- a list of whole numbers -/
def intsD : List D → Option (List Int)
  | [] => some []
  | .int i :: xs => (intsD xs).map fun ns => i :: ns
  | _ => none
def biMax : List D → Option D
  | [.int i, .int j] => some (.int (if j > i then j else i))
  | [.lst xs] => match intsD xs with
    | some (n :: ns) => some (.int (ns.foldl max n))
    | _ => none
  | _ => none
def biMin : List D → Option D
  | [.int i, .int j] => some (.int (if j < i then j else i))
  | _ => none
def biInt : List D → Option D
  | [.int i] => some (.int i)
  | [.bl b] => some (.int (b2i b))
  | _ => none
def biStr : List D → Option D
  | [.int i] => if i.natAbs.log2 < 1920 then some (.str (toString i)) else none
  | _ => none
def biTup (S : Sto) : List D → Option D
  | [.tup xs] => some (.tup xs)
  | [.lst xs] => some (.tup xs)
  | [.flst xs] => some (.tup xs)
  | [.ref r] => match S[r]? with
    | some (.lst xs) => some (.tup xs)
    | _ => none
  | _ => none
def biLst (S : Sto) : List D → Option D
  | [.tup xs] => some (.lst xs)
  | [.lst xs] => some (.lst xs)
  | [.flst xs] => some (.lst xs)
  | [.ref r] => match S[r]? with
    | some (.lst xs) => some (.lst xs)
    | _ => none
  | _ => none
def biD (S : Sto) (b : BI) (ds : List D) : Option D := match b with
  | .len => biLen S ds
  | .abs => biAbs ds
  | .max => biMax ds
  | .min => biMin ds
  | .int => biInt ds
  | .str => biStr ds
  | .tuple => biTup S ds
  | .list => biLst S ds
end Rw

/-! M2: how values, cells and stores stand in the heap -/
namespace Rw
open PySem L2

mutual
/-- the value d stands as v: W what never changes, μ where the cells are -/
def Rep (K : PySem.W.Frag) (W : Hp) (μ : List Addr) : D → V → Prop
  | .non, v => v = .non
  | .bl b, v => v = .bl b
  | .int i, v => v = .int i
  | .str s, v => v = .str s
  | .ty n, v => v = .ty n
  | .ref r, v => ∃ a, μ[r]? = some a ∧ v = .ref a
  | .tup ds, v => ∃ a vs, v = .ref a ∧ SqT K W a vs ∧ Reps K W μ ds vs
  | .lst ds, v => ∃ a vs, v = .ref a ∧ W a = some (.lst vs) ∧ Reps K W μ ds vs
  | .flst ds, v => ∃ a vs, v = .ref a ∧ SqL K W a vs ∧ Reps K W μ ds vs
def Reps (K : PySem.W.Frag) (W : Hp) (μ : List Addr) : List D → List V → Prop
  | [], vs => vs = []
  | d :: ds, vs => ∃ v r, vs = v :: r ∧ Rep K W μ d v ∧ Reps K W μ ds r
end
structure Ext (W : Hp) (μ : List Addr) (W' : Hp) (μ' : List Addr) : Prop where
  w : ∀ a o, W a = some o → W' a = some o
  m : ∀ (r : Nat) a, μ[r]? = some a → μ'[r]? = some a
theorem Ext.refl {W : Hp} {μ : List Addr} : Ext W μ W μ := ⟨fun _ _ h => h, fun _ _ h => h⟩
theorem Ext.trans {W W1 W2 : Hp} {μ μ1 μ2 : List Addr} (x : Ext W μ W1 μ1) (y : Ext W1 μ1 W2 μ2) : Ext W μ W2 μ2 :=
  ⟨fun a o h => y.w a o (x.w a o h), fun r a h => y.m r a (x.m r a h)⟩
section
variable {K : PySem.W.Frag} {W W' H : Hp} {μ μ' : List Addr}
theorem rd_le (h : ∀ a o, W a = some o → W' a = some o) {a : Addr} {u : HO} (r : Rd W a u) : Rd W' a u := by
  rcases r with r | ⟨o, r⟩
  · exact .inl (h _ _ r)
  · exact .inr ⟨o, h _ _ r⟩
theorem sqT_le (h : ∀ a o, W a = some o → W' a = some o) {a : Addr} {xs : List V} (r : SqT K W a xs) : SqT K W' a xs := by
  rcases r with r | r
  · exact .inl (rd_le h r)
  · exact .inr r
theorem sqL_le (h : ∀ a o, W a = some o → W' a = some o) {a : Addr} {xs : List V} (r : SqL K W a xs) : SqL K W' a xs := by
  rcases r with r | r
  · exact .inl (rd_le h r)
  · exact .inr r
mutual
theorem Rep.mono (x : Ext W μ W' μ') : ∀ (d : D) (v : V), Rep K W μ d v → Rep K W' μ' d v
  | .non, _, h => h
  | .bl _, _, h => h
  | .int _, _, h => h
  | .str _, _, h => h
  | .ty _, _, h => h
  | .ref r, _, ⟨a, h, e⟩ => ⟨a, x.m r a h, e⟩
  | .tup ds, _, ⟨a, vs, e, h, r⟩ => ⟨a, vs, e, sqT_le x.w h, Reps.mono x ds vs r⟩
  | .lst ds, _, ⟨a, vs, e, h, r⟩ => ⟨a, vs, e, x.w _ _ h, Reps.mono x ds vs r⟩
  | .flst ds, _, ⟨a, vs, e, h, r⟩ => ⟨a, vs, e, sqL_le x.w h, Reps.mono x ds vs r⟩
theorem Reps.mono (x : Ext W μ W' μ') : ∀ (ds : List D) (vs : List V), Reps K W μ ds vs → Reps K W' μ' ds vs
  | [], _, h => h
  | d :: ds, _, ⟨v, r, e, h1, h2⟩ => ⟨v, r, e, Rep.mono x d v h1, Reps.mono x ds r h2⟩
end
theorem Rep.m (x : Ext W μ W' μ') {d : D} {v : V} (h : Rep K W μ d v) : Rep K W' μ' d v := Rep.mono x d v h
theorem Reps.m (x : Ext W μ W' μ') {ds : List D} {vs : List V} (h : Reps K W μ ds vs) : Reps K W' μ' ds vs := Reps.mono x ds vs h
theorem Reps.length : ∀ {ds : List D} {vs : List V}, Reps K W μ ds vs → vs.length = ds.length
  | [], _, h => by cases (show _ = [] from h); rfl
  | d :: ds, _, ⟨v, r, e, _, h⟩ => by subst e; simp [Reps.length h]
theorem Reps.ints : ∀ {ds : List D} {vs : List V} {ns : List Int}, Reps K W μ ds vs → intsD ds = some ns → vs = ns.map V.int
  | [], _, _, h, e => by cases (show _ = [] from h); cases e; rfl
  | .int i :: ds, _, ns, ⟨v, r, e1, h1, h2⟩, e => by
    subst e1
    cases (show v = V.int i from h1)
    cases q : intsD ds with
    | none => simp [intsD, q] at e
    | some ms =>
      have : ns = i :: ms := by simpa [intsD, q] using e.symm
      subst this
      rw [Reps.ints h2 q]
      rfl
  | .non :: _, _, _, _, e => by cases e
  | .bl _ :: _, _, _, _, e => by cases e
  | .str _ :: _, _, _, _, e => by cases e
  | .tup _ :: _, _, _, _, e => by cases e
  | .lst _ :: _, _, _, _, e => by cases e
  | .flst _ :: _, _, _, _, e => by cases e
  | .ref _ :: _, _, _, _, e => by cases e
  | .ty _ :: _, _, _, _, e => by cases e
theorem Reps.get : ∀ {ds : List D} {vs : List V} {i : Nat} {d : D}, Reps K W μ ds vs → ds[i]? = some d → ∃ v, vs[i]? = some v ∧ Rep K W μ d v
  | [], _, _, _, _, e => by simp at e
  | d :: ds, _, 0, _, ⟨v, r, e, h, _⟩, e2 => by subst e; simp at e2; subst e2; exact ⟨v, rfl, h⟩
  | d :: ds, _, i + 1, x, ⟨v, r, e, _, h⟩, e2 => by
    subst e
    obtain ⟨u, h1, h2⟩ := Reps.get (i := i) h (by simpa using e2)
    exact ⟨u, by simpa using h1, h2⟩
theorem Reps.get2 : ∀ {ds : List D} {vs : List V} {i : Nat} {v : V}, Reps K W μ ds vs → vs[i]? = some v → ∃ d, ds[i]? = some d ∧ Rep K W μ d v
  | [], _, _, _, h, e => by cases (show _ = [] from h); simp at e
  | d :: ds, _, 0, _, ⟨v, r, e, h, _⟩, e2 => by subst e; simp at e2; subst e2; exact ⟨d, rfl, h⟩
  | d :: ds, _, i + 1, x, ⟨v, r, e, _, h⟩, e2 => by
    subst e
    obtain ⟨u, h1, h2⟩ := Reps.get2 (i := i) h (by simpa using e2)
    exact ⟨u, by simpa using h1, h2⟩
theorem Reps.app : ∀ {ds es : List D} {vs us : List V}, Reps K W μ ds vs → Reps K W μ es us → Reps K W μ (ds ++ es) (vs ++ us)
  | [], _, _, _, h, h2 => by cases (show _ = [] from h); exact h2
  | d :: ds, _, _, _, ⟨v, r, e, h1, h⟩, h2 => by subst e; exact ⟨v, _, rfl, h1, Reps.app h h2⟩
theorem Reps.drop : ∀ (n : Nat) {ds : List D} {vs : List V}, Reps K W μ ds vs → Reps K W μ (ds.drop n) (vs.drop n)
  | 0, _, _, h => h
  | _ + 1, [], _, h => by cases (show _ = [] from h); exact rfl
  | n + 1, d :: ds, _, ⟨v, r, e, h1, h⟩ => by subst e; exact Reps.drop n h
theorem Reps.reverse : ∀ {ds : List D} {vs : List V}, Reps K W μ ds vs → Reps K W μ ds.reverse vs.reverse
  | [], _, h => by cases (show _ = [] from h); exact (rfl : ([] : List V) = [])
  | d :: ds, _, ⟨v, r, e, h1, h⟩ => by
    subst e
    rw [List.reverse_cons, List.reverse_cons]
    exact Reps.app (Reps.reverse h) ⟨v, [], rfl, h1, rfl⟩
theorem Reps.take : ∀ (n : Nat) {ds : List D} {vs : List V}, Reps K W μ ds vs → Reps K W μ (ds.take n) (vs.take n)
  | 0, _, _, h => rfl
  | _ + 1, [], _, h => by cases (show _ = [] from h); exact rfl
  | n + 1, d :: ds, _, ⟨v, r, e, h1, h⟩ => by subst e; exact ⟨v, _, rfl, h1, Reps.take n h⟩
theorem Reps.cut {ds : List D} {vs : List V} (h : Reps K W μ ds vs) (lo hi : Option Int) : Reps K W μ (cutD ds lo hi) (cutV vs lo hi) := by
  unfold cutD cutV
  rw [h.length]
  exact (h.drop _).take _
theorem Reps.set : ∀ (i : Nat) {d : D} {v : V} {ds : List D} {vs : List V}, Rep K W μ d v → Reps K W μ ds vs → Reps K W μ (ds.set i d) (vs.set i v)
  | _, _, _, [], _, _, h => by cases (show _ = [] from h); exact rfl
  | 0, _, _, d :: ds, _, hd, ⟨v, r, e, h1, h⟩ => by subst e; exact ⟨_, _, rfl, hd, h⟩
  | i + 1, _, _, d :: ds, _, hd, ⟨v, r, e, h1, h⟩ => by subst e; exact ⟨v, _, rfl, h1, Reps.set i hd h⟩
theorem Reps.isEmpty {ds : List D} {vs : List V} (h : Reps K W μ ds vs) : vs.isEmpty = ds.isEmpty := by
  have := h.length
  cases ds <;> cases vs <;> simp_all
theorem Reps.dropLast {ds : List D} {vs : List V} (h : Reps K W μ ds vs) : Reps K W μ ds.dropLast vs.dropLast := by
  rw [List.dropLast_eq_take, List.dropLast_eq_take, h.length]
  exact h.take _
theorem Reps.one {d : D} {v : V} (h : Rep K W μ d v) : Reps K W μ [d] [v] := ⟨v, [], rfl, h, rfl⟩
theorem Reps.inv1 {d : D} {vs : List V} (h : Reps K W μ [d] vs) : ∃ v, vs = [v] ∧ Rep K W μ d v := by
  obtain ⟨v, r, e, h1, h2⟩ := h
  cases (show r = [] from h2)
  exact ⟨v, e, h1⟩
theorem Reps.inv2 {d e : D} {vs : List V} (h : Reps K W μ [d, e] vs) : ∃ v u, vs = [v, u] ∧ Rep K W μ d v ∧ Rep K W μ e u := by
  obtain ⟨v, r, e1, h1, u, r2, e2, h2, h3⟩ := h
  cases (show r2 = [] from h3)
  exact ⟨v, u, by rw [e1, e2], h1, h2⟩
theorem atI_rep {ds : List D} {vs : List V} (h : Reps K W μ ds vs) {i : Int} {d : D} (e : atI ds i = some d) : ∃ v, atI vs i = some v ∧ Rep K W μ d v := by
  unfold atI at e ⊢
  rw [h.length]
  cases q : ixN ds.length i with
  | none => rw [q] at e; cases e
  | some j =>
    rw [q] at e
    obtain ⟨v, h1, h2⟩ := h.get (show ds[j]? = some d from e)
    exact ⟨v, h1, h2⟩

/-! ### cells, stores -/
/-- a dict's pairs -/
def RepKV (K : PySem.W.Frag) (W : Hp) (μ : List Addr) (kvs : List (Key × D)) (ws : List (Key × V)) : Prop := kvs.map (·.1) = ws.map (·.1) ∧ Reps K W μ (kvs.map (·.2)) (ws.map (·.2))
def CellAt (K : PySem.W.Frag) (W : Hp) (μ : List Addr) (H : Hp) (a : Addr) : Cell → Prop
  | .lst ds => ∃ vs, H a = some (.lst vs) ∧ Reps K W μ ds vs
  | .dk kvs => ∃ ws, H a = some (.dK ws) ∧ RepKV K W μ kvs ws
/-- what never changes: tuples, lists that nobody changes, locked things -/
structure Stt (K : PySem.W.Frag) (W F : Hp) (μ : List Addr) (S : Sto) (H : Hp) : Prop where
  sub : ∀ a o, W a = some o → H a = some o
  frm : ∀ a o, F a = some o → H a = some o
  dis : ∀ a o, F a = some o → W a = none
  len : μ.length = S.length
  nd : ∀ (i j : Nat) a, μ[i]? = some a → μ[j]? = some a → i = j
  apart : ∀ (i : Nat) a, μ[i]? = some a → W a = none ∧ F a = none
  cel : ∀ (i : Nat) a c, μ[i]? = some a → S[i]? = some c → CellAt K W μ H a c
theorem RepKV.mono (x : Ext W μ W' μ') {kvs : List (Key × D)} {ws : List (Key × V)} (h : RepKV K W μ kvs ws) : RepKV K W' μ' kvs ws := ⟨h.1, h.2.m x⟩
theorem CellAt.mono (x : Ext W μ W' μ') {H' : Hp} {a : Addr} (hh : H' a = H a) : ∀ {c : Cell}, CellAt K W μ H a c → CellAt K W' μ' H' a c
  | .lst ds, ⟨vs, h, r⟩ => ⟨vs, hh.trans h, r.m x⟩
  | .dk kvs, ⟨ws, h, r⟩ => ⟨ws, hh.trans h, r.mono x⟩
theorem CellAt.some {a : Addr} : ∀ {c : Cell}, CellAt K W μ H a c → ∃ o, H a = some o ∧ Mut (some o)
  | .lst ds, ⟨vs, h, r⟩ => ⟨_, h, trivial⟩
  | .dk kvs, ⟨ws, h, r⟩ => ⟨_, h, trivial⟩
variable {F : Hp} {S : Sto}
theorem Stt.at (st : Stt K W F μ S H) {r : Nat} {a : Addr} (h : μ[r]? = some a) : ∃ c, S[r]? = some c ∧ CellAt K W μ H a c := by
  have hl : r < S.length := by rw [← st.len]; exact (List.getElem?_eq_some_iff.mp h).1
  exact ⟨S[r], by simp [hl], st.cel r a _ h (by simp [hl])⟩
theorem Stt.there (st : Stt K W F μ S H) {r : Nat} {a : Addr} (h : μ[r]? = some a) : ∃ o, H a = some o := by
  obtain ⟨c, _, q⟩ := st.at h
  obtain ⟨o, e, _⟩ := q.some
  exact ⟨o, e⟩
/-- a new thing that never changes -/
theorem Stt.imm (st : Stt K W F μ S H) {p : Addr} (o : HO) (hp : H p = none) : Stt K (upd W p o) F μ S (upd H p o) ∧ Ext W μ (upd W p o) μ := by
  have hW : W p = none := by
    cases q : W p with
    | none => rfl
    | some u => rw [st.sub _ _ q] at hp; cases hp
  have hF : F p = none := by
    cases q : F p with
    | none => rfl
    | some u => rw [st.frm _ _ q] at hp; cases hp
  have x : Ext W μ (upd W p o) μ := ⟨fun a u h => by
    rw [upd_ne (ne_of_none h hW)]
    exact h, fun _ _ h => h⟩
  have hμ : ∀ (i : Nat) a, μ[i]? = some a → a ≠ p := fun i a h e => by
    obtain ⟨u, q⟩ := st.there h
    rw [e, hp] at q
    cases q
  refine ⟨⟨fun a u h => ?_, fun a u h => ?_, fun a u h => ?_, st.len, st.nd, fun i a h => ?_, fun i a c h hc => ?_⟩, x⟩
  · by_cases e : a = p
    · subst e; rw [upd_same] at h; rw [upd_same]; exact h
    · rw [upd_ne e] at h; rw [upd_ne e]; exact st.sub _ _ h
  · rw [upd_ne (ne_of_none h hF)]; exact st.frm _ _ h
  · rw [upd_ne (ne_of_none h hF)]; exact st.dis _ _ h
  · rw [upd_ne (hμ i a h)]; exact st.apart i a h
  · exact (st.cel i a c h hc).mono x (upd_ne (hμ i a h))
theorem get_snoc {α : Type} {l : List α} {x : α} {i : Nat} {y : α} (h : (l ++ [x])[i]? = some y) : l[i]? = some y ∨ (i = l.length ∧ x = y) := by
  by_cases hi : i < l.length
  · rw [List.getElem?_append_left hi] at h; exact .inl h
  · rw [List.getElem?_append_right (by omega)] at h
    by_cases e : i = l.length
    · subst e; simp at h; exact .inr ⟨rfl, h⟩
    · have : i - l.length ≠ 0 := by omega
      obtain ⟨k, hk⟩ := Nat.exists_eq_succ_of_ne_zero this
      rw [hk] at h; simp at h
/-- a new cell -/
theorem Stt.cell (st : Stt K W F μ S H) {p : Addr} (o : HO) (c : Cell) (hp : H p = none) (hc : ∀ W' μ', Ext W μ W' μ' → CellAt K W' μ' (upd H p o) p c) :
    Stt K W F (μ ++ [p]) (S ++ [c]) (upd H p o) ∧ Ext W μ W (μ ++ [p]) := by
  have hW : W p = none := by
    cases q : W p with
    | none => rfl
    | some u => rw [st.sub _ _ q] at hp; cases hp
  have hF : F p = none := by
    cases q : F p with
    | none => rfl
    | some u => rw [st.frm _ _ q] at hp; cases hp
  have x : Ext W μ W (μ ++ [p]) := ⟨fun _ _ h => h, fun r a h => by rw [List.getElem?_append_left (List.getElem?_eq_some_iff.mp h).1]; exact h⟩
  have hμ : ∀ (i : Nat) a, μ[i]? = some a → a ≠ p := fun i a h e => by
    obtain ⟨u, q⟩ := st.there h
    rw [e, hp] at q
    cases q
  refine ⟨⟨fun a u h => ?_, fun a u h => ?_, st.dis, by simp [st.len], fun i j a h1 h2 => ?_, fun i a h => ?_, fun i a c' h hc' => ?_⟩, x⟩
  · rw [upd_ne (ne_of_none h hW)]; exact st.sub _ _ h
  · rw [upd_ne (ne_of_none h hF)]; exact st.frm _ _ h
  · rcases get_snoc h1 with h1 | ⟨e1, h1⟩ <;> rcases get_snoc h2 with h2 | ⟨e2, h2⟩
    · exact st.nd i j a h1 h2
    · exact absurd h2.symm (hμ i a h1)
    · exact absurd h1.symm (hμ j a h2)
    · omega
  · rcases get_snoc h with h | ⟨_, h⟩
    · exact st.apart i a h
    · rw [← h]; exact ⟨hW, hF⟩
  · rcases get_snoc h with h | ⟨e, h⟩
    · have hl : i < S.length := by rw [← st.len]; exact (List.getElem?_eq_some_iff.mp h).1
      rw [List.getElem?_append_left hl] at hc'
      exact (st.cel i a c' h hc').mono x (upd_ne (hμ i a h))
    · subst h
      rw [e, st.len, List.getElem?_append_right (Nat.le_refl _)] at hc'
      simp at hc'
      subst hc'
      exact hc _ _ x
/-- a cell changes -/
theorem Stt.put (st : Stt K W F μ S H) {r : Nat} {a : Addr} (o : HO) (c : Cell) (hr : μ[r]? = some a) (hc : CellAt K W μ (upd H a o) a c) : Stt K W F μ (S.set r c) (upd H a o) := by
  obtain ⟨hW, hF⟩ := st.apart r a hr
  have hl : r < S.length := by rw [← st.len]; exact (List.getElem?_eq_some_iff.mp hr).1
  refine ⟨fun b u h => ?_, fun b u h => ?_, st.dis, by simp [st.len], st.nd, st.apart, fun i b c' h hc' => ?_⟩
  · rw [upd_ne (ne_of_none h hW)]; exact st.sub _ _ h
  · rw [upd_ne (ne_of_none h hF)]; exact st.frm _ _ h
  · by_cases e : i = r
    · subst e
      rw [hr] at h; cases h
      rw [List.getElem?_set_self hl] at hc'
      cases hc'
      exact hc
    · rw [List.getElem?_set_ne (Ne.symm e)] at hc'
      refine (st.cel i b c' h hc').mono Ext.refl (upd_ne fun q => e (st.nd i r a (by rw [← q]; exact h) hr))

/-! ### the wish behind a value -/
def Post (K : PySem.W.Frag) (W F : Hp) (μ : List Addr) (S : Sto) (d : D) (Q : VK) : Prop := ∀ v H' W' μ', Ext W μ W' μ' → Stt K W' F μ' S H' → Rep K W' μ' d v → Q v H'
def PostB (K : PySem.W.Frag) (W F : Hp) (μ : List Addr) (S : Sto) (b : Bool) (Q : Bool → Hp → Prop) : Prop := ∀ H' W' μ', Ext W μ W' μ' → Stt K W' F μ' S H' → Q b H'
def PostA (K : PySem.W.Frag) (W F : Hp) (μ : List Addr) (S : Sto) (ds : List D) (Q : List V → Hp → Prop) : Prop := ∀ vs H' W' μ', Ext W μ W' μ' → Stt K W' F μ' S H' → Reps K W' μ' ds vs → Q vs H'
theorem Post.ext {W1 : Hp} {μ1 : List Addr} {d : D} {Q : VK} (p : Post K W F μ S d Q) (x : Ext W μ W1 μ1) : Post K W1 F μ1 S d Q := fun v H' W' μ' y st r => p v H' W' μ' (x.trans y) st r
theorem PostB.ext {W1 : Hp} {μ1 : List Addr} {b : Bool} {Q : Bool → Hp → Prop} (p : PostB K W F μ S b Q) (x : Ext W μ W1 μ1) : PostB K W1 F μ1 S b Q := fun H' W' μ' y st => p H' W' μ' (x.trans y) st
theorem PostA.ext {W1 : Hp} {μ1 : List Addr} {ds : List D} {Q : List V → Hp → Prop} (p : PostA K W F μ S ds Q) (x : Ext W μ W1 μ1) : PostA K W1 F μ1 S ds Q := fun v H' W' μ' y st r => p v H' W' μ' (x.trans y) st r
/-- the names' values -/
def EnvR (K : PySem.W.Frag) (W : Hp) (μ : List Addr) (ρ : Env) (σ : L2.St) : Prop := ρ.length = σ.length ∧ ∀ (i : Nat) d, ρ[i]? = some (some d) → ∃ v, σ[i]? = some (some v) ∧ Rep K W μ d v
theorem EnvR.mono {ρ : Env} {σ : L2.St} (x : Ext W μ W' μ') (h : EnvR K W μ ρ σ) : EnvR K W' μ' ρ σ := ⟨h.1, fun i d e => let ⟨v, a, b⟩ := h.2 i d e; ⟨v, a, b.m x⟩⟩
theorem EnvR.set {ρ : Env} {σ : L2.St} {i : Nat} {d : D} {v : V} (h : EnvR K W μ ρ σ) (r : Rep K W μ d v) : EnvR K W μ (ρ.set i (some d)) (σ.set i (some v)) := by
  refine ⟨by simp [h.1], fun j e q => ?_⟩
  by_cases hj : i = j
  · subst hj
    have hl : i < ρ.length := by
      have := (List.getElem?_eq_some_iff.mp q).1
      simpa using this
    rw [List.getElem?_set_self hl] at q
    cases q
    exact ⟨v, by rw [List.getElem?_set_self (by rw [← h.1]; exact hl)], r⟩
  · rw [List.getElem?_set_ne hj] at q
    obtain ⟨u, h1, h2⟩ := h.2 j e q
    exact ⟨u, by rw [List.getElem?_set_ne hj]; exact h1, h2⟩
end

/-! ### readings -/
def TR (K : PySem.W.Frag) (ev : Env → Sto → Rs D) : TE := fun σ H Q => ∃ W F μ ρ S d S', Stt K W F μ S H ∧ EnvR K W μ ρ σ ∧ ev ρ S = some (d, S') ∧ Post K W F μ S' d Q
def TTR (K : PySem.W.Frag) (ev : Env → Sto → Rs Bool) : TT := fun σ H Q => ∃ W F μ ρ S b S', Stt K W F μ S H ∧ EnvR K W μ ρ σ ∧ ev ρ S = some (b, S') ∧ PostB K W F μ S' b Q
def TAR (K : PySem.W.Frag) (ev : Env → Sto → Rs (List D)) : TA := fun σ H Q => ∃ W F μ ρ S ds S', Stt K W F μ S H ∧ EnvR K W μ ρ σ ∧ ev ρ S = some (ds, S') ∧ PostA K W F μ S' ds Q
inductive Fl where
  | nx (ρ : Env) | rt (d : D) | bk (ρ : Env)
def PostS (K : PySem.W.Frag) (W F : Hp) (μ : List Addr) (S : Sto) (fl : Fl) (D : Ends) : Prop := match fl with
  | .nx ρ => ∀ σ H' W' μ', Ext W μ W' μ' → Stt K W' F μ' S H' → EnvR K W' μ' ρ σ → D.nx σ H'
  | .bk ρ => ∀ σ H' W' μ', Ext W μ W' μ' → Stt K W' F μ' S H' → EnvR K W' μ' ρ σ → D.bk σ H'
  | .rt d => Post K W F μ S d D.rt
theorem PostS.ext {K : PySem.W.Frag} {W F W1 : Hp} {μ μ1 : List Addr} {S : Sto} {fl : Fl} {D : Ends} (p : PostS K W F μ S fl D) (x : Ext W μ W1 μ1) : PostS K W1 F μ1 S fl D := by
  cases fl with
  | nx ρ => exact fun σ H' W' μ' y st r => p σ H' W' μ' (x.trans y) st r
  | bk ρ => exact fun σ H' W' μ' y st r => p σ H' W' μ' (x.trans y) st r
  | rt d => exact Post.ext p x
def TSR (K : PySem.W.Frag) (es : Env → Sto → Rs Fl) : TS := fun D σ H => ∃ W F μ ρ S fl S', Stt K W F μ S H ∧ EnvR K W μ ρ σ ∧ es ρ S = some (fl, S') ∧ PostS K W F μ S' fl D
theorem _root_.L2.PE.weak {X : Cx} {e : Expr} {t t' : TE} (h : PE X e t) (w : ∀ σ H Q, t' σ H Q → t σ H Q) : PE X e t' := ⟨fun pins s σ H Q I q => h.run pins s σ H Q I (w σ H Q q)⟩
theorem _root_.L2.PT.weak {X : Cx} {e : Expr} {t t' : TT} (h : PT X e t) (w : ∀ σ H Q, t' σ H Q → t σ H Q) : PT X e t' := ⟨fun pins s σ H Q I q => h.run pins s σ H Q I (w σ H Q q)⟩
theorem _root_.L2.PW.weak {X : Cx} {e : Expr} {t t' : TT} (h : PW X e t) (w : ∀ σ H Q, t' σ H Q → t σ H Q) : PW X e t' := ⟨fun wh pins s σ H Q I q => h.run wh pins s σ H Q I (w σ H Q q)⟩
theorem _root_.L2.PA.weak {X : Cx} {es : List Expr} {t t' : TA} (h : PA X es t) (w : ∀ σ H Q, t' σ H Q → t σ H Q) : PA X es t' := ⟨fun pos pins s σ H Q I q => h.run pos pins s σ H Q I (w σ H Q q)⟩
theorem _root_.L2.PS.weak {X : Cx} {st : Stmt} {t t' : TS} (h : PS X st t) (w : ∀ D σ H, t' D σ H → t D σ H) : PS X st t' := ⟨fun pins s σ H D I q => h.run pins s σ H D I (w D σ H q)⟩
theorem _root_.L2.PSs.weak {X : Cx} {st : List Stmt} {t t' : TS} (h : PSs X st t) (w : ∀ D σ H, t' D σ H → t D σ H) : PSs X st t' := ⟨fun pins s σ H D I q => h.run pins s σ H D I (w D σ H q)⟩
end Rw

/-! M3: operations on values are those of the machine -/
namespace Rw
open PySem PySem.Spec PyProof.Rows L2

def rBin (K : PySem.W.Frag) (op : Operator) : R2 := fun x y H Q => ∃ W F μ S d e r, Stt K W F μ S H ∧ Rep K W μ d x ∧ Rep K W μ e y ∧ binD op d e = some r ∧ Post K W F μ S r Q
def rCmp (K : PySem.W.Frag) (op : CmpOp) : R2 := fun x y H Q => ∃ W F μ S d e b, Stt K W F μ S H ∧ Rep K W μ d x ∧ Rep K W μ e y ∧ cmpD S op d e = some b ∧ PostB K W F μ S b fun b H' => Q (.bl b) H'
def rNeg (K : PySem.W.Frag) : V → Hp → VK → Prop := fun x H Q => ∃ i, x = .int i ∧ Q (.int (-i)) H
section
variable {K : PySem.W.Frag} {W F : Hp} {μ : List Addr} {S : Sto} {H : Hp}
theorem Post.int {i : Int} {Q : VK} (p : Post K W F μ S (.int i) Q) (st : Stt K W F μ S H) : Q (.int i) H := p _ H W μ Ext.refl st rfl
theorem Post.strv {i : Str} {Q : VK} (p : Post K W F μ S (.str i) Q) (st : Stt K W F μ S H) : Q (.str i) H := p _ H W μ Ext.refl st rfl
theorem Post.blv {i : Bool} {Q : VK} (p : Post K W F μ S (.bl i) Q) (st : Stt K W F μ S H) : Q (.bl i) H := p _ H W μ Ext.refl st rfl
theorem Post.same {d : D} {v : V} {Q : VK} (p : Post K W F μ S d Q) (st : Stt K W F μ S H) (r : Rep K W μ d v) : Q v H := p _ H W μ Ext.refl st r
theorem PostB.now {b : Bool} {Q : Bool → Hp → Prop} (p : PostB K W F μ S b Q) (st : Stt K W F μ S H) : Q b H := p H W μ Ext.refl st
/-- a new tuple, a new list that nobody changes -/
theorem Post.tup {ds : List D} {vs : List V} {Q : VK} (p : Post K W F μ S (.tup ds) Q) (st : Stt K W F μ S H) (r : Reps K W μ ds vs) : ∀ a, H a = none → Q (.ref a) (upd H a (.tup vs)) := fun a ha =>
  let ⟨st', x⟩ := st.imm (.tup vs) ha
  p _ _ _ _ x st' ⟨a, vs, rfl, SqT.of upd_same, r.m x⟩
theorem Post.lst {ds : List D} {vs : List V} {Q : VK} (p : Post K W F μ S (.lst ds) Q) (st : Stt K W F μ S H) (r : Reps K W μ ds vs) : ∀ a, H a = none → Q (.ref a) (upd H a (.lst vs)) := fun a ha =>
  let ⟨st', x⟩ := st.imm (.lst vs) ha
  p _ _ _ _ x st' ⟨a, vs, rfl, upd_same, r.m x⟩
theorem Stt.sqT (st : Stt K W F μ S H) {a : Addr} {vs : List V} (h : SqT K W a vs) : SqT K H a vs := sqT_le st.sub h
theorem Stt.sqL (st : Stt K W F μ S H) {a : Addr} {vs : List V} (h : SqL K W a vs) : SqL K H a vs := sqL_le st.sub h
theorem Stt.lst (st : Stt K W F μ S H) {r : Nat} {a : Addr} {xs : List D} (h : μ[r]? = some a) (e : S[r]? = some (.lst xs)) : ∃ vs, H a = some (.lst vs) ∧ Reps K W μ xs vs := st.cel r a _ h e
theorem Stt.dk (st : Stt K W F μ S H) {r : Nat} {a : Addr} {kvs : List (Key × D)} (h : μ[r]? = some a) (e : S[r]? = some (.dk kvs)) : ∃ ws, H a = some (.dK ws) ∧ RepKV K W μ kvs ws := st.cel r a _ h e
/-- a list of any kind, read -/
theorem lst_of (st : Stt K W F μ S H) {d : D} {v : V} {xs : List D} (r : Rep K W μ d v) (e : lstOf S d = some xs) : ∃ a vs, v = .ref a ∧ SqL K H a vs ∧ Reps K W μ xs vs := by
  cases d with
  | lst ds =>
    cases e
    obtain ⟨a, vs, rfl, h, q⟩ := r
    exact ⟨a, vs, rfl, SqL.of (st.sub _ _ h), q⟩
  | flst ds =>
    cases e
    obtain ⟨a, vs, rfl, h, q⟩ := r
    exact ⟨a, vs, rfl, st.sqL h, q⟩
  | ref i =>
    obtain ⟨a, h, rfl⟩ := r
    cases c : S[i]? with
    | none => simp only [lstOf, c] at e; cases e
    | some cc =>
      simp only [lstOf, c] at e
      cases cc with
      | lst ys =>
        cases e
        obtain ⟨vs, h1, h2⟩ := st.lst h c
        exact ⟨a, vs, rfl, SqL.of h1, h2⟩
      | dk _ => cases e
  | _ => cases e
theorem RepKV.look {kvs : List (Key × D)} {ws : List (Key × V)} (h : RepKV K W μ kvs ws) {k : Key} {d : D} (e : lookK kvs k = some d) : ∃ v, valV ws k = some v ∧ Rep K W μ d v := by
  obtain ⟨h1, h2⟩ := h
  induction kvs generalizing ws with
  | nil => cases e
  | cons p kvs ih =>
    cases ws with
    | nil => simp at h1
    | cons q ws =>
      obtain ⟨h3, h4⟩ := List.cons.inj (show p.1 :: kvs.map (·.1) = q.1 :: ws.map (·.1) from h1)
      obtain ⟨v, r, e1, h5, h6⟩ := h2
      obtain ⟨e2, e3⟩ := List.cons.inj (show q.2 :: ws.map (·.2) = v :: r from e1)
      subst e2 e3
      by_cases c : p.1 = k
      · have : lookK (p :: kvs) k = some p.2 := by simp [lookK, List.find?_cons, c]
        rw [this] at e; cases e
        exact ⟨q.2, valV_pos (by rw [← h3, c]), h5⟩
      · have : lookK (p :: kvs) k = lookK kvs k := by simp [lookK, List.find?_cons, c]
        rw [this] at e
        obtain ⟨v, a, b⟩ := ih e h4 h6
        exact ⟨v, by rw [valV_neg (by rw [← h3]; exact c)]; exact a, b⟩
end

/-! ### data, for == -/
section
variable {K : PySem.W.Frag} {W F : Hp} {μ : List Addr} {S : Sto} {H : Hp}
mutual
theorem pd_dp (st : Stt K W F μ S H) : ∀ (d : D) (v : V) (p : PyData), Rep K W μ d v → pd S d = some p → Dp K H v p
  | .non, _, _, h, e => by cases (show _ = V.non from h); cases e; exact .non
  | .bl b, _, _, h, e => by cases (show _ = V.bl b from h); cases e; exact .bl b
  | .int i, _, _, h, e => by cases (show _ = V.int i from h); cases e; exact .int i
  | .str s, _, _, h, e => by cases (show _ = V.str s from h); cases e; exact .str s
  | .tup ds, _, p, ⟨a, vs, e1, h, r⟩, e => by
    subst e1
    cases q : pds S ds with
    | none => simp [pd, q] at e
    | some ps =>
      have : p = .tuple ps := by simpa [pd, q] using e.symm
      subst this
      exact .tup (st.sqT h) (pds_dp st ds vs ps r q)
  | .lst ds, _, p, ⟨a, vs, e1, h, r⟩, e => by
    subst e1
    cases q : pds S ds with
    | none => simp [pd, q] at e
    | some ps =>
      have : p = .list ps := by simpa [pd, q] using e.symm
      subst this
      exact .lst (SqL.of (st.sub _ _ h)) (pds_dp st ds vs ps r q)
  | .flst ds, _, p, ⟨a, vs, e1, h, r⟩, e => by
    subst e1
    cases q : pds S ds with
    | none => simp [pd, q] at e
    | some ps =>
      have : p = .list ps := by simpa [pd, q] using e.symm
      subst this
      exact .lst (st.sqL h) (pds_dp st ds vs ps r q)
  | .ref r, _, _, _, e => by cases e
  | .ty n, _, _, _, e => by cases e
theorem pds_dp (st : Stt K W F μ S H) : ∀ (ds : List D) (vs : List V) (ps : List PyData), Reps K W μ ds vs → pds S ds = some ps → DpAll K H vs ps
  | [], _, _, h, e => by cases (show _ = [] from h); cases e; exact .nil
  | d :: ds, _, ps, ⟨v, r, e1, h1, h2⟩, e => by
    subst e1
    cases q : pd S d with
    | none => simp [pds, q] at e
    | some p =>
      cases q2 : pds S ds with
      | none => simp [pds, q, q2] at e
      | some ps' =>
        have : ps = p :: ps' := by simpa [pds, q, q2] using e.symm
        subst this
        exact .cons (pd_dp st d v p h1 q) (pds_dp st ds r ps' h2 q2)
end
theorem pdT_dp (st : Stt K W F μ S H) {d : D} {v : V} {p : PyData} (r : Rep K W μ d v) (e : pdT S d = some p) : Dp K H v p := by
  cases d with
  | ref i =>
    obtain ⟨a, h, rfl⟩ := r
    cases c : S[i]? with
    | none => simp only [pdT, c] at e; cases e
    | some cc =>
      simp only [pdT, c] at e
      cases cc with
      | lst ys =>
        obtain ⟨vs, h1, h2⟩ := st.lst h c
        cases q : pds S ys with
        | none => simp [q] at e
        | some ps =>
          have : p = .list ps := by simpa [q] using e.symm
          subst this
          exact .lst (SqL.of h1) (pds_dp st ys vs ps h2 q)
      | dk _ => cases e
  | _ => exact pd_dp st _ v p r e
end

section
variable {X : Cx}
theorem op_fdivA : OpR X (binaryOp .FloorDiv) (rI (fun _ j => divOk j) fun i j => .int (i.fdiv j)) := opI fun _ _ _ _ _ _ _ hc q => floordiv_int hc.1 q (.inl (PyProof.noPylong_of_log2 hc.2))
theorem op_subb : OpR X (binaryOp .Sub) (fun x y H Q => ∃ a b, x = .bl a ∧ y = .bl b ∧ Q (.int (b2i a - b2i b)) H) := by
  intro pins s σ H x y v u Q I rx ry h
  obtain ⟨a, b, rfl, rfl, q⟩ := h
  cases rx
  cases ry
  exact PyProof.Rows.sub_bool ⟨.int _, H, I.tok _, ⟨_, rfl⟩, q⟩
theorem Reps.rep {K : PySem.W.Frag} {W : Hp} {μ : List Addr} {ds : List D} {vs : List V} (h : Reps K W μ ds vs) : ∀ n : Nat, Reps K W μ (List.replicate n ds).flatten (List.replicate n vs).flatten
  | 0 => rfl
  | n + 1 => by
    rw [List.replicate_succ, List.replicate_succ, List.flatten_cons, List.flatten_cons]
    exact h.app (Reps.rep h n)
theorem op_bin (op : Operator) : OpR X (binaryOp op) (rBin X.K op) := by
  intro pins s σ H x y v u Q I rx ry h
  obtain ⟨W, F, μ, S, d, e, r, st, hd, he, hb, p⟩ := h
  unfold binD at hb
  split at hb
  · cases hb; cases (show x = _ from hd); cases (show y = _ from he)
    exact op_add pins s σ H _ _ v u Q I rx ry ⟨_, _, rfl, rfl, p.int st⟩
  · split at hb
    · rename_i c
      cases hb; cases (show x = _ from hd); cases (show y = _ from he)
      exact op_add_str pins s σ H _ _ v u Q I rx ry ⟨_, _, rfl, rfl, c, p.strv st⟩
    · cases hb
  · split at hb
    · rename_i c
      cases hb
      obtain ⟨a, vs, rfl, h1, r1⟩ := hd
      obtain ⟨b, us, rfl, h2, r2⟩ := he
      refine op_catA pins s σ H _ _ v u Q I rx ry ⟨a, b, vs, us, rfl, rfl, st.sqT h1, st.sqT h2, by rw [r1.length, r2.length]; exact c, fun e => ?_, fun _ e => ?_, fun _ _ => p.tup st (r1.app r2)⟩
      · subst e
        exact p.same st ⟨b, us, rfl, h2, by have := r1.app r2; simpa using this⟩
      · subst e
        exact p.same st ⟨a, vs, rfl, h1, by have := r1.app r2; simpa using this⟩
    · cases hb
  · split at hb
    · rename_i c
      cases hb
      obtain ⟨a, vs, rfl, h1, r1⟩ := hd
      obtain ⟨b, us, rfl, h2, r2⟩ := he
      exact op_cat pins s σ H _ _ v u Q I rx ry ⟨a, b, vs, us, rfl, rfl, st.sub _ _ h1, st.sub _ _ h2, by rw [r1.length, r2.length]; exact c, p.lst st (r1.app r2)⟩
    · cases hb
  · cases hb; cases (show x = _ from hd); cases (show y = _ from he)
    exact op_sub pins s σ H _ _ v u Q I rx ry ⟨_, _, rfl, rfl, p.int st⟩
  · cases hb; cases (show x = _ from hd); cases (show y = _ from he)
    exact op_subb pins s σ H _ _ v u Q I rx ry ⟨_, _, rfl, rfl, p.int st⟩
  · split at hb
    · rename_i c
      cases hb; cases (show x = _ from hd); cases (show y = _ from he)
      exact op_mulW pins s σ H _ _ v u Q I rx ry ⟨_, _, rfl, rfl, c, p.int st⟩
    · cases hb
  · split at hb
    · rename_i c
      cases hb; cases (show x = _ from hd); cases (show y = _ from he)
      exact op_fdivA pins s σ H _ _ v u Q I rx ry ⟨_, _, rfl, rfl, c, p.int st⟩
    · cases hb
  · split at hb
    · rename_i c
      cases hb; cases (show x = _ from hd); cases (show y = _ from he)
      exact op_modN pins s σ H _ _ v u Q I rx ry ⟨_, _, rfl, rfl, c, p.int st⟩
    · cases hb
  · split at hb
    · rename_i c
      cases hb; cases (show x = _ from hd); cases (show y = _ from he)
      exact op_pow pins s σ H _ _ v u Q I rx ry ⟨_, _, rfl, rfl, c, p.int st⟩
    · cases hb
  · split at hb
    · rename_i c
      cases hb; cases (show x = _ from hd); cases (show y = _ from he)
      exact op_shlW pins s σ H _ _ v u Q I rx ry ⟨_, _, rfl, rfl, c, p.int st⟩
    · cases hb
  · split at hb
    · rename_i c
      cases hb; cases (show x = _ from hd); cases (show y = _ from he)
      exact op_shr pins s σ H _ _ v u Q I rx ry ⟨_, _, rfl, rfl, c, p.int st⟩
    · cases hb
  · split at hb
    · rename_i c
      cases hb; cases (show y = _ from he)
      obtain ⟨a, vs, rfl, h1, r1⟩ := hd
      exact op_rep pins s σ H _ _ v u Q I rx ry ⟨a, _, vs, rfl, rfl, st.sub _ _ h1, c.1, c.2.1, by rw [r1.length]; exact c.2.2, p.lst st (r1.rep _)⟩
    · cases hb
  · cases hb
theorem scal_eq {K : PySem.W.Frag} {W F : Hp} {μ : List Addr} {S : Sto} {H : Hp} (st : Stt K W F μ S H) {d e : D} {x y : V} {b : Bool} (hd : Rep K W μ d x) (he : Rep K W μ e y) (h : eqD S d e = some b) :
    (scal x y = true ∧ b = decide (x = y)) ∨ ∃ p q, Dp K H x p ∧ Dp K H y q ∧ SeqAt.shaped p = true ∧ SeqAt.shaped q = true ∧ b = PyData.eqv p q := by
  unfold eqD at h
  split at h
  · cases h; cases (show x = _ from hd); cases (show y = _ from he); exact .inl ⟨rfl, by simp⟩
  · cases h; cases (show x = _ from hd); cases (show y = _ from he); exact .inl ⟨rfl, by simp⟩
  · cases h; cases (show x = _ from hd); cases (show y = _ from he); exact .inl ⟨rfl, by simp⟩
  · cases h; cases (show x = _ from hd); cases (show y = _ from he); exact .inl ⟨rfl, by simp⟩
  · cases h; cases (show x = _ from hd); cases (show y = _ from he); exact .inl ⟨rfl, by simp⟩
  · cases h; cases (show x = _ from hd); cases (show y = _ from he); exact .inl ⟨rfl, by simp⟩
  · cases h; cases (show x = _ from hd); cases (show y = _ from he); exact .inl ⟨rfl, by simp⟩
  · cases h; cases (show x = _ from hd); cases (show y = _ from he); exact .inl ⟨rfl, by simp⟩
  · cases h; cases (show x = _ from hd); cases (show y = _ from he); exact .inl ⟨rfl, by simp⟩
  · cases h; cases (show x = _ from hd); cases (show y = _ from he); exact .inl ⟨rfl, by simp⟩
  · split at h
    · rename_i p q hp hq
      split at h
      · rename_i c
        cases h
        exact .inr ⟨p, q, pdT_dp st hd hp, pdT_dp st he hq, c.1, c.2, rfl⟩
      · cases h
    · cases h
theorem isNone_rep {K : PySem.W.Frag} {W : Hp} {μ : List Addr} {d : D} {x : V} (h : Rep K W μ d x) : isNone d = decide (x = .non) := by
  cases d with
  | non => cases (show x = _ from h); rfl
  | bl b => cases (show x = _ from h); rfl
  | int b => cases (show x = _ from h); rfl
  | str b => cases (show x = _ from h); rfl
  | ty b => cases (show x = _ from h); rfl
  | tup b => obtain ⟨_, _, rfl, _⟩ := h; rfl
  | lst b => obtain ⟨_, _, rfl, _⟩ := h; rfl
  | flst b => obtain ⟨_, _, rfl, _⟩ := h; rfl
  | ref b => obtain ⟨_, _, rfl⟩ := h; rfl
theorem op_inT (hu : X.A.units + 65 < cLine) : OpR X (compareOp .In) (fun x y H Q => ∃ d ds, Dp X.K H x d ∧ Dp X.K H y (.tuple ds) ∧ SeqAt.shaped d = true ∧ SeqAt.shaped (.tuple ds) = true ∧ Q (.bl (ds.any fun z => PyData.eqv z d)) H) := by
  intro pins s σ H x y v u Q I rx ry h
  obtain ⟨d, ds, hd, he, sd, se, q⟩ := h
  obtain ⟨as, r1⟩ := Dp.reads I d x v hd rx
  obtain ⟨bs, r2⟩ := Dp.reads I (.tuple ds) y u he ry
  exact SeqAt.in_tuple_reads r2 r1 (SeqAt.canLay_of_shaped se) (SeqAt.canLay_of_shaped sd) (room_in_shaped sd hu) ⟨.bl _, H, I, rfl, q⟩
theorem op_notInT (hu : X.A.units + 65 < cLine) : OpR X (compareOp .NotIn) (fun x y H Q => ∃ d ds, Dp X.K H x d ∧ Dp X.K H y (.tuple ds) ∧ SeqAt.shaped d = true ∧ SeqAt.shaped (.tuple ds) = true ∧ Q (.bl (!ds.any fun z => PyData.eqv z d)) H) := by
  intro pins s σ H x y v u Q I rx ry h
  obtain ⟨d, ds, hd, he, sd, se, q⟩ := h
  obtain ⟨as, r1⟩ := Dp.reads I d x v hd rx
  obtain ⟨bs, r2⟩ := Dp.reads I (.tuple ds) y u he ry
  exact SeqAt.notIn_tuple_reads r2 r1 (SeqAt.canLay_of_shaped se) (SeqAt.canLay_of_shaped sd) (room_in_shaped sd hu) ⟨.bl _, H, I, rfl, q⟩
theorem inD_dp {K : PySem.W.Frag} {W F : Hp} {μ : List Addr} {S : Sto} {H : Hp} (st : Stt K W F μ S H) {d e : D} {x y : V} {b : Bool} (hd : Rep K W μ d x) (he : Rep K W μ e y) (h : inD S d e = some b) :
    ∃ p qs, Dp K H x p ∧ (Dp K H y (.tuple qs) ∧ SeqAt.shaped (.tuple qs) = true ∨ Dp K H y (.list qs) ∧ SeqAt.shaped (.list qs) = true) ∧ SeqAt.shaped p = true ∧ b = qs.any fun z => PyData.eqv z p := by
  unfold inD at h
  split at h
  · rename_i p qs hp hq
    split at h
    · rename_i c
      cases h
      exact ⟨p, qs, pdT_dp st hd hp, .inl ⟨pdT_dp st he hq, c.2⟩, c.1, rfl⟩
    · cases h
  · rename_i p qs hp hq
    split at h
    · rename_i c
      cases h
      exact ⟨p, qs, pdT_dp st hd hp, .inr ⟨pdT_dp st he hq, c.2⟩, c.1, rfl⟩
    · cases h
  · cases h
theorem op_cmp (hu : X.A.units + 65 < cLine) (op : CmpOp) : OpR X (compareOp op) (rCmp X.K op) := by
  intro pins s σ H x y v u Q I rx ry h
  obtain ⟨W, F, μ, S, d, e, b, st, hd, he, hb, p⟩ := h
  have p := p.now st
  cases op with
  | Eq =>
    rcases scal_eq st hd he hb with ⟨h1, rfl⟩ | ⟨pp, q, h1, h2, h3, h4, rfl⟩
    · exact op_eq pins s σ H _ _ v u Q I rx ry ⟨h1, p⟩
    · exact op_eqD (by omega) pins s σ H _ _ v u Q I rx ry ⟨pp, q, h1, h2, h3, h4, p⟩
  | NotEq =>
    have hb : (eqD S d e).map (!·) = some b := hb
    cases q : eqD S d e with
    | none => rw [q] at hb; cases hb
    | some c =>
      rw [q] at hb
      cases hb
      rcases scal_eq st hd he q with ⟨h1, rfl⟩ | ⟨pp, q', h1, h2, h3, h4, rfl⟩
      · exact op_ne pins s σ H _ _ v u Q I rx ry ⟨h1, p⟩
      · exact op_neD (by omega) pins s σ H _ _ v u Q I rx ry ⟨pp, q', h1, h2, h3, h4, p⟩
  | Lt =>
    simp only [cmpD] at hb
    split at hb
    · cases hb; cases (show x = _ from hd); cases (show y = _ from he)
      exact op_lt pins s σ H _ _ v u Q I rx ry ⟨_, _, rfl, rfl, p⟩
    · cases hb
  | LtE =>
    simp only [cmpD] at hb
    split at hb
    · cases hb; cases (show x = _ from hd); cases (show y = _ from he)
      exact op_le pins s σ H _ _ v u Q I rx ry ⟨_, _, rfl, rfl, p⟩
    · cases hb
  | Gt =>
    simp only [cmpD] at hb
    split at hb
    · cases hb; cases (show x = _ from hd); cases (show y = _ from he)
      exact op_gt pins s σ H _ _ v u Q I rx ry ⟨_, _, rfl, rfl, p⟩
    · cases hb
  | GtE =>
    simp only [cmpD] at hb
    split at hb
    · cases hb; cases (show x = _ from hd); cases (show y = _ from he)
      exact op_ge pins s σ H _ _ v u Q I rx ry ⟨_, _, rfl, rfl, p⟩
    · cases hb
  | Is =>
    simp only [cmpD] at hb
    split at hb
    · cases hb; cases (show y = _ from he)
      rw [isNone_rep hd] at p
      exact op_isN pins s σ H _ _ v u Q I rx ry ⟨rfl, p⟩
    · split at hb
      · cases hb; cases (show x = _ from hd); cases (show y = _ from he)
        exact op_isBl pins s σ H _ _ v u Q I rx ry ⟨_, _, rfl, rfl, p⟩
      · cases hb
    · cases hb
  | IsNot =>
    simp only [cmpD] at hb
    split at hb
    · cases hb; cases (show y = _ from he)
      rw [isNone_rep hd] at p
      exact op_notN pins s σ H _ _ v u Q I rx ry ⟨rfl, p⟩
    · split at hb
      · cases hb; cases (show x = _ from hd); cases (show y = _ from he)
        exact op_notBl pins s σ H _ _ v u Q I rx ry ⟨_, _, rfl, rfl, p⟩
      · cases hb
    · cases hb
  | In =>
    obtain ⟨pp, qs, h1, h2, h3, rfl⟩ := inD_dp st hd he hb
    rcases h2 with ⟨h2, h4⟩ | ⟨h2, h4⟩
    · exact op_inT hu pins s σ H _ _ v u Q I rx ry ⟨pp, qs, h1, h2, h3, h4, p⟩
    · exact op_inD hu pins s σ H _ _ v u Q I rx ry ⟨pp, qs, h1, h2, h3, h4, p⟩
  | NotIn =>
    have hb : (inD S d e).map (!·) = some b := hb
    cases q : inD S d e with
    | none => rw [q] at hb; cases hb
    | some c =>
      rw [q] at hb
      cases hb
      obtain ⟨pp, qs, h1, h2, h3, rfl⟩ := inD_dp st hd he q
      rcases h2 with ⟨h2, h4⟩ | ⟨h2, h4⟩
      · exact op_notInT hu pins s σ H _ _ v u Q I rx ry ⟨pp, qs, h1, h2, h3, h4, p⟩
      · exact op_notInD hu pins s σ H _ _ v u Q I rx ry ⟨pp, qs, h1, h2, h3, h4, p⟩
/-- truth -/
theorem tru_rep {K : PySem.W.Frag} {W F : Hp} {μ : List Addr} {S : Sto} {H : Hp} (st : Stt K W F μ S H) {d : D} {x : V} {b : Bool} (hd : Rep K W μ d x) (h : truD S d = some b) : TruV K x H b := by
  cases d with
  | non => cases h; cases (show x = _ from hd); rfl
  | bl c => cases h; cases (show x = _ from hd); rfl
  | int c => cases h; cases (show x = _ from hd); rfl
  | str c =>
    cases (show x = _ from hd)
    simp only [truD] at h
    split at h
    · rename_i q; cases h; exact ⟨q, rfl⟩
    · cases h
  | ty c => cases h
  | tup ds =>
    cases h
    obtain ⟨a, vs, rfl, h1, r⟩ := hd
    exact .inr (.inl ⟨vs, st.sqT h1, by rw [r.isEmpty]⟩)
  | lst ds =>
    cases h
    obtain ⟨a, vs, rfl, h1, r⟩ := hd
    exact .inl ⟨vs, SqL.of (st.sub _ _ h1), by rw [r.isEmpty]⟩
  | flst ds =>
    cases h
    obtain ⟨a, vs, rfl, h1, r⟩ := hd
    exact .inl ⟨vs, st.sqL h1, by rw [r.isEmpty]⟩
  | ref i =>
    obtain ⟨a, hr, rfl⟩ := hd
    cases c : S[i]? with
    | none => simp only [truD, c] at h; cases h
    | some cc =>
      simp only [truD, c] at h
      cases cc with
      | lst ys =>
        cases h
        obtain ⟨vs, h1, h2⟩ := st.lst hr c
        exact .inl ⟨vs, SqL.of h1, by rw [h2.isEmpty]⟩
      | dk kvs =>
        cases h
        obtain ⟨ws, h1, h2⟩ := st.dk hr c
        refine .inr (.inr ⟨ws, h1, ?_⟩)
        have := congrArg List.length h2.1
        cases kvs <;> cases ws <;> simp_all
/-- an item -/
def rIdx (K : PySem.W.Frag) : R2 := fun x y H Q => ∃ W F μ S d e r, Stt K W F μ S H ∧ Rep K W μ d x ∧ Rep K W μ e y ∧ idxD S d e = some r ∧ Post K W F μ S r Q
theorem key_rep {K : PySem.W.Frag} {W : Hp} {μ : List Addr} {d : D} {x : V} {k : Key} (h : Rep K W μ d x) (e : keyD d = some k) : x = kV k := by
  cases d with
  | int i => cases e; exact h
  | str s => cases e; exact h
  | _ => cases e
theorem ix_dict (hu : X.A.units + 1 < cLine) : IxR X (fun x y H Q => ∃ a v, x = .ref a ∧ DGet H a y (some v) ∧ Q v H) := by
  intro value slice pins s σ H x y v u Q I rx ry h hs
  obtain ⟨a, z, rfl, g, q⟩ := h
  obtain rfl : v = Value.ref a := rx
  exact tail_any (dict_typeIs I g) PySem.F.slot_dict_getitem.lookup (d_getItem hu I g ry fun w' s3 I3 rw' => ⟨z, H, I3, rw', q⟩) hs
theorem ix_any (hu : X.A.units + 1 < cLine) : IxR X (rIdx X.K) := by
  intro value slice pins s σ H x y v u Q I rx ry h hs
  obtain ⟨W, F, μ, S, d, e, r, st, hd, he, hb, p⟩ := h
  unfold idxD at hb
  split at hb
  · cases (show y = _ from he)
    obtain ⟨a, vs, rfl, h1, r1⟩ := hd
    obtain ⟨z, h2, h3⟩ := atI_rep r1 hb
    exact ix_tup value slice pins s σ H _ _ v u Q I rx ry ⟨a, vs, _, z, rfl, rfl, st.sqT h1, h2, p.same st h3⟩ hs
  · cases (show y = _ from he)
    obtain ⟨a, vs, rfl, h1, r1⟩ := hd
    obtain ⟨z, h2, h3⟩ := atI_rep r1 hb
    exact ix_list value slice pins s σ H _ _ v u Q I rx ry ⟨a, vs, _, z, rfl, rfl, SqL.of (st.sub _ _ h1), h2, p.same st h3⟩ hs
  · cases (show y = _ from he)
    obtain ⟨a, vs, rfl, h1, r1⟩ := hd
    obtain ⟨z, h2, h3⟩ := atI_rep r1 hb
    exact ix_list value slice pins s σ H _ _ v u Q I rx ry ⟨a, vs, _, z, rfl, rfl, st.sqL h1, h2, p.same st h3⟩ hs
  · cases (show y = _ from he); cases (show x = _ from hd)
    split at hb
    · rename_i z k hz
      cases q : atI z.cps.toList k with
      | none => rw [q] at hb; cases hb
      | some c =>
        rw [q] at hb
        cases hb
        exact ix_str value slice pins s σ H _ _ v u Q I rx ry ⟨z, k, c, rfl, rfl, hz, q, p.strv st⟩ hs
    · cases hb
  · rename_i i
    obtain ⟨a, hr, rfl⟩ := hd
    cases c : S[i]? with
    | none => rw [c] at hb; cases hb
    | some cc =>
      rw [c] at hb
      cases cc with
      | lst ys =>
        obtain ⟨vs, h1, h2⟩ := st.lst hr c
        simp only at hb
        split at hb
        · cases (show y = _ from he)
          obtain ⟨z, h3, h4⟩ := atI_rep h2 hb
          exact ix_list value slice pins s σ H _ _ v u Q I rx ry ⟨a, vs, _, z, rfl, rfl, SqL.of h1, h3, p.same st h4⟩ hs
        · cases hb
      | dk kvs =>
        obtain ⟨ws, h1, h2⟩ := st.dk hr c
        simp only at hb
        cases q : keyD e with
        | none => rw [q] at hb; cases hb
        | some k =>
          rw [q] at hb
          have hb : lookK kvs k = some r := hb
          obtain ⟨z, h3, h4⟩ := h2.look hb
          have hy := key_rep he q
          subst hy
          exact ix_dict hu value slice pins s σ H _ _ v u Q I rx ry ⟨a, z, rfl, by rw [← h3]; exact DGet.k h1, p.same st h4⟩ hs
  · cases hb
/-- a slice -/
theorem sl_any : SlR X (fun x lo hi H Q => ∃ W F μ S d r, Stt X.K W F μ S H ∧ Rep X.K W μ d x ∧ slD S d lo hi = some r ∧ Post X.K W F μ S r Q) := by
  intro pins s σ H x v vl vu lo hi sl Q I rx hs pl pu h
  obtain ⟨W, F, μ, S, d, r, st, hd, hb, p⟩ := h
  have viaL : ∀ xs, lstOf S d = some xs → r = .lst (cutD xs lo hi) → ∃ T id, typeLookup (.type T) "__getitem__" = pure (some (.builtin id)) ∧ s.TypeIs v T ∧ wpAny (model X.prog X.w) X.A (getItem v (.ref sl)) (EP X pins σ Q) X.xe s := fun xs e e2 => by
    obtain ⟨a, vs, rfl, h1, h2⟩ := lst_of st hd e
    subst e2
    exact sl_list pins s σ H _ v vl vu lo hi sl Q I rx hs pl pu ⟨a, vs, rfl, h1, p.lst st (h2.cut lo hi)⟩
  unfold slD at hb
  split at hb
  · cases hb
    obtain ⟨a, vs, rfl, h1, r1⟩ := hd
    refine sl_tupA pins s σ H _ v vl vu lo hi sl Q I rx hs pl pu ⟨a, vs, rfl, st.sqT h1, fun ⟨e1, e2⟩ => ?_, fun _ => p.tup st (r1.cut lo hi)⟩
    refine p.same st ⟨a, vs, rfl, h1, ?_⟩
    have := r1.cut lo hi
    have e3 : cutV vs lo hi = vs := by
      unfold cutV
      rw [e1, e2]
      simp
    rw [e3] at this
    exact this
  · cases (show x = _ from hd)
    split at hb
    · rename_i z hz
      cases hb
      exact sl_str pins s σ H _ v vl vu lo hi sl Q I rx hs pl pu ⟨z, rfl, hz, p.strv st⟩
    · cases hb
  · cases q : lstOf S d with
    | none => rw [q] at hb; cases hb
    | some xs =>
      rw [q] at hb
      cases hb
      exact viaL xs q rfl
end
end Rw

/-! M4: the text by slots, and what it does -/
namespace Rw
open PySem L2

mutual
inductive MG where
  | name (i : Nat) | tup (ts : MGs)
inductive MGs where
  | nil | cons (t : MG) (ts : MGs)
end
/-- methods of built-in types -/
inductive MT where
  | append | pop | extend
mutual
inductive ME where
  | var (i : Nat) | int (i : Int) | str (s : Str) | bl (b : Bool) | non
  | con (g : Nat)
  | bin (op : Operator) (a b : ME) | madd (a b : ME) | neg (a : ME) | cmp (op : CmpOp) (a b : ME) | ch (op op' : CmpOp) (a b c : ME)
  | and (a b : ME) | or (a b : ME) | one (a : ME) | not (a : ME)
  | ifE (c a b : ME)
  | tup (es : MEs) | lst (es : MEs) | mlst (es : MEs)
  | dict (ps : MPs)
  | idx (a i : ME) | sl (a : ME) (lo hi : MO) | slR (a : ME) (hi : MO)
  | call (g : Nat) (es : MEs)
  | bi (b : BI) (g : Nat) (es : MEs)
  | isI (g h : Nat) (n : String) (a : ME)
  | meth (m : MT) (o : ME) (es : MEs)
  | lc (mu : Bool) (vs : List Nat) (elt : ME) (tg : MG) (it : MI) (cs : MO)
  | lc2 (mu : Bool) (vs : List Nat) (elt : ME) (tg : MG) (it : MI) (cs : MO) (vs1 : List Nat) (tg1 : MG) (it1 : MI) (cs1 : MO)
inductive MEs where
  | nil | cons (e : ME) (es : MEs)
inductive MO where
  | none | some (e : ME)
inductive MPs where
  | nil | cons (k v : ME) (ps : MPs)
inductive MI where
  | seq (e : ME) | rng (g : Nat) (es : MEs)
end
mutual
inductive MS where
  | asg (tg : MG) (e : ME)
  | par2 (i j : Nat) (a b : ME)
  | par3 (i j l : Nat) (a b c : ME)
  | aug (i : Nat) (op : Operator) (e : ME)
  | setI (o i e : ME)
  | augI (o i : ME) (op : Operator) (e : ME)
  | ifS (c : ME) (a b : MSs)
  | whl (c : ME) (b : MSs)
  | forS (tg : MG) (it : MI) (b : MSs)
  | ret (e : ME) | retN | ex (e : ME) | pass | brk | nev
inductive MSs where
  | nil | cons (s : MS) (ss : MSs)
end
structure Fn where
  np : Nat
  nl : Nat
  body : MSs
inductive GK where
  | fn (f : Fn) | blt | con (d : D)
abbrev GT := List (Str × GK)

/-! ### what it does -/
def bnd {α β : Type} (x : Rs α) (f : α → Sto → Rs β) : Rs β := match x with
  | some (a, S) => f a S
  | none => none
def lft {α β : Type} (x : Option α) (f : α → Rs β) : Rs β := match x with
  | some a => f a
  | none => none
theorem bnd_some {α β : Type} (a : α) (S : Sto) (f : α → Sto → Rs β) : bnd (some (a, S)) f = f a S := rfl
theorem bnd_none {α β : Type} (f : α → Sto → Rs β) : bnd none f = none := rfl
theorem lft_some {α β : Type} (a : α) (f : α → Rs β) : lft (some a) f = f a := rfl
theorem lft_none {α β : Type} (f : α → Rs β) : lft none f = none := rfl
theorem bnd_inv {α β : Type} {x : Rs α} {f : α → Sto → Rs β} {r : β × Sto} (h : bnd x f = some r) : ∃ a S, x = some (a, S) ∧ f a S = some r := by
  cases x with
  | none => cases h
  | some p => exact ⟨p.1, p.2, rfl, h⟩
theorem lft_inv {α β : Type} {x : Option α} {f : α → Rs β} {r : β × Sto} (h : lft x f = some r) : ∃ a, x = some a ∧ f a = some r := by
  cases x with
  | none => cases h
  | some p => exact ⟨p, rfl, h⟩

def conOf (G : GT) (g : Nat) : Option D := match G[g]? with
  | some (_, .con d) => some d
  | _ => none
mutual
/-- to a name, to names -/
def asgG : MG → D → Env → Option Env
  | .name i, d, ρ => if i < ρ.length then some (ρ.set i (some d)) else none
  | .tup ts, d, ρ => match d with
    | .tup xs => asgGs ts xs ρ
    | .lst xs => asgGs ts xs ρ
    | _ => none
def asgGs : MGs → List D → Env → Option Env
  | .nil, [], ρ => some ρ
  | .cons t ts, x :: xs, ρ => (asgG t x ρ).bind fun ρ1 => asgGs ts xs ρ1
  | _, _, _ => none
end
/-- the items walked, and the cell that they stand in -/
def itemsOf (S : Sto) : D → Option (List D × Option Nat)
  | .tup xs => some (xs, none)
  | .lst xs => some (xs, none)
  | .flst xs => some (xs, none)
  | .ref r => match S[r]? with
    | some (.lst xs) => some (xs, some r)
    | _ => none
  | _ => none
def rngD : List D → Option (List D)
  | [.int b] => if -(2 ^ 62) ≤ b ∧ b < 2 ^ 62 then some ((List.range b.toNat).map fun (i : Nat) => D.int (0 + (i : Int))) else none
  | [.int a, .int b] => if -(2 ^ 62) ≤ a ∧ a < 2 ^ 62 ∧ -(2 ^ 62) ≤ b ∧ b < 2 ^ 62 then some ((List.range (b - a).toNat).map fun (i : Nat) => D.int (a + (i : Int))) else none
  | _ => none
/-- the cell walked still holds these items -/
def okS (o : Option Nat) (xs : List D) (S : Sto) : Prop := match o with
  | none => True
  | some r => S[r]? = some (.lst xs)
open Classical in
noncomputable def compL (o : Option Nat) (all : List D) (turn : D → Sto → Rs (Option D)) : List D → Sto → List D → Rs (List D)
  | [], S, acc => if okS o all S then some (acc, S) else none
  | x :: xs, S, acc => if okS o all S then bnd (turn x S) fun r S1 => compL o all turn xs S1 (match r with
    | some y => acc ++ [y]
    | none => acc) else none
open Classical in
/-- the outer loop of a comprehension of two clauses -/
noncomputable def compA (o : Option Nat) (all : List D) (turn : D → Sto → List D → Rs (List D)) : List D → Sto → List D → Rs (List D)
  | [], S, acc => if okS o all S then some (acc, S) else none
  | x :: xs, S, acc => if okS o all S then bnd (turn x S acc) fun acc1 S1 => compA o all turn xs S1 acc1 else none
open Classical in
noncomputable def forL (o : Option Nat) (all : List D) (body : D → Env → Sto → Rs Fl) : List D → Env → Sto → Rs Fl
  | [], ρ, S => if okS o all S then some (.nx ρ, S) else none
  | x :: xs, ρ, S => if okS o all S then bnd (body x ρ S) fun fl S1 => match fl with
    | .nx ρ1 => forL o all body xs ρ1 S1
    | .bk ρ1 => some (.nx ρ1, S1)
    | .rt d => some (.rt d, S1) else none
def whF (c : Env → Sto → Rs Bool) (b : Env → Sto → Rs Fl) : Nat → Env → Sto → Rs Fl
  | 0, _, _ => none
  | n + 1, ρ, S => bnd (c ρ S) fun t S1 => if t = true then bnd (b ρ S1) fun fl S2 => match fl with
    | .nx ρ2 => whF c b n ρ2 S2
    | .bk ρ2 => some (.nx ρ2, S2)
    | .rt d => some (.rt d, S2) else some (.nx ρ, S1)
open Classical in
noncomputable def whE (c : Env → Sto → Rs Bool) (b : Env → Sto → Rs Fl) (ρ : Env) (S : Sto) : Rs Fl :=
  if h : ∃ n r, whF c b n ρ S = some r then whF c b h.choose ρ S else none
/-- the comprehension's own names forgotten -/
def wipeE (ρ : Env) : List Nat → Env
  | [] => ρ
  | v :: vs => (wipeE ρ vs).set v none
def methD (m : MT) (S : Sto) (d : D) (ds : List D) : Rs D := match m, d, ds with
  | .append, .ref r, [x] => match S[r]? with
    | some (.lst xs) => if xs.length < sizeLine then some (.non, S.set r (.lst (xs ++ [x]))) else none
    | _ => none
  | .pop, .ref r, [] => match S[r]? with
    | some (.lst xs) => match xs[xs.length - 1]? with
      | some x => some (x, S.set r (.lst xs.dropLast))
      | none => none
    | _ => none
  | .extend, .ref r, [.lst ys] => match S[r]? with
    | some (.lst xs) => if xs.length + ys.length ≤ sizeLine then some (.non, S.set r (.lst (xs ++ ys))) else none
    | _ => none
  | _, _, _ => none
def putI (S : Sto) (o i v : D) : Option Sto := match o with
  | .ref r => match S[r]? with
    | some (.lst xs) => match i with
      | .int k => (ixN xs.length k).map fun j => S.set r (.lst (xs.set j v))
      | _ => none
    | some (.dk kvs) => (keyD i).bind fun k => if kvs.length < sizeLine then some (S.set r (.dk (storeK kvs k v))) else none
    | none => none
  | _ => none
instance (a b : Int) : Decidable (CMul a b) := inferInstanceAs (Decidable (_ ∨ _))
def augGet (S : Sto) (d k : D) : Option D := match d with
  | .ref r => match S[r]? with
    | some (.dk kvs) => (keyD k).bind fun q => lookK kvs q
    | _ => none
  | _ => none
def augD (op : Operator) (d e : D) : Option D := match op, d, e with
  | .Add, .int a, .int b => some (.int (a + b))
  | .Sub, .int a, .int b => some (.int (a - b))
  | .Mult, .int a, .int b => if CMul a b then some (.int (a * b)) else none
  | .Add, .str a, .str b => if a.length + b.length ≤ sizeLine then some (.str (a ++ b)) else none
  | _, _, _ => none
def mergeKD (kvs more : List (Key × D)) : List (Key × D) := more.foldl (fun acc kv => storeK acc kv.1 kv.2) kvs
/-- the pairs of a display -/
def keysD : List (D × D) → Option (List (Key × D))
  | [] => some []
  | (k, v) :: r => match keyD k, keysD r with
    | some q, some s => some ((q, v) :: s)
    | _, _ => none

section
variable (G : GT) (cl : Nat → List D → Sto → Rs D)
mutual
noncomputable def evE : ME → Env → Sto → Rs D
  | .var i, ρ, S => match ρ[i]? with
    | some (some d) => some (d, S)
    | _ => none
  | .int i, _, S => some (.int i, S)
  | .str s, _, S => some (.str s, S)
  | .bl b, _, S => some (.bl b, S)
  | .non, _, S => some (.non, S)
  | .con g, _, S => lft (conOf G g) fun d => some (d, S)
  | .bin op a b, ρ, S => bnd (evE a ρ S) fun d S1 => bnd (evE b ρ S1) fun e S2 => lft (binD op d e) fun r => some (r, S2)
  | .madd a b, ρ, S => bnd (evE a ρ S) fun d S1 => bnd (evE b ρ S1) fun e S2 => match d, e with
    | .lst xs, .lst ys => if xs.length + ys.length ≤ sizeLine then some (.ref S2.length, S2 ++ [.lst (xs ++ ys)]) else none
    | _, _ => none
  | .neg a, ρ, S => bnd (evE a ρ S) fun d S1 => match d with
    | .int i => some (.int (-i), S1)
    | _ => none
  | .cmp op a b, ρ, S => bnd (evE a ρ S) fun d S1 => bnd (evE b ρ S1) fun e S2 => lft (cmpD S2 op d e) fun r => some (.bl r, S2)
  | .ch op op' a b c, ρ, S => bnd (evE a ρ S) fun d S1 => bnd (evE b ρ S1) fun e S2 => lft (cmpD S2 op d e) fun r => if r = true then bnd (evE c ρ S2) fun f S3 => lft (cmpD S3 op' e f) fun q => some (.bl q, S3) else some (.bl false, S2)
  | .and a b, ρ, S => bnd (evE a ρ S) fun d S1 => lft (truD S1 d) fun t => if t = true then evE b ρ S1 else some (d, S1)
  | .or a b, ρ, S => bnd (evE a ρ S) fun d S1 => lft (truD S1 d) fun t => if t = true then some (d, S1) else evE b ρ S1
  | .one a, ρ, S => evE a ρ S
  | .not a, ρ, S => bnd (evE a ρ S) fun d S1 => lft (truD S1 d) fun t => some (.bl (!t), S1)
  | .ifE c a b, ρ, S => bnd (evE c ρ S) fun d S1 => lft (truD S1 d) fun t => if t = true then evE a ρ S1 else evE b ρ S1
  | .tup es, ρ, S => bnd (evEs es ρ S) fun ds S1 => if ds.length ≤ sizeLine then some (.tup ds, S1) else none
  | .lst es, ρ, S => bnd (evEs es ρ S) fun ds S1 => if ds.length ≤ sizeLine then some (.lst ds, S1) else none
  | .mlst es, ρ, S => bnd (evEs es ρ S) fun ds S1 => if ds.length ≤ sizeLine then some (.ref S1.length, S1 ++ [.lst ds]) else none
  | .dict ps, ρ, S => bnd (evPs ps ρ S) fun ps S1 => lft (keysD ps) fun kvs => if kvs.length ≤ 15 then some (.ref S1.length, S1 ++ [.dk (mergeKD [] kvs)]) else none
  | .idx a i, ρ, S => bnd (evE a ρ S) fun d S1 => bnd (evE i ρ S1) fun e S2 => lft (idxD S2 d e) fun r => some (r, S2)
  | .sl a lo hi, ρ, S => bnd (evE a ρ S) fun d S1 => bnd (evO lo ρ S1) fun l S2 => bnd (evO hi ρ S2) fun h S3 => lft (slD S3 d l h) fun r => some (r, S3)
  | .slR a hi, ρ, S => bnd (evE a ρ S) fun d S1 => bnd (evO hi ρ S1) fun h S2 => lft (slRD S2 d h) fun r => some (r, S2)
  | .call g es, ρ, S => bnd (evEs es ρ S) fun ds S1 => cl g ds S1
  | .bi b _ es, ρ, S => bnd (evEs es ρ S) fun ds S1 => lft (biD S1 b ds) fun r => some (r, S1)
  | .isI _ _ n a, ρ, S => bnd (evE a ρ S) fun d S1 => lft (tyName S1 d) fun t => lft (kitB t n) fun b => some (.bl b, S1)
  | .meth m o es, ρ, S => bnd (evE o ρ S) fun d S1 => lft (lstOf S1 d) fun _ => bnd (evEs es ρ S1) fun ds S2 => methD m S2 d ds
  | .lc mu vs elt tg it cs, ρ, S => bnd (evI it ρ S) fun w S1 => if w.1.length ≤ sizeLine then
      bnd (compL w.2 w.1 (fun x S2 => lft (asgG tg x (wipeE ρ vs)) fun ρ1 => bnd (evC cs ρ1 S2) fun t S3 => if t = true then bnd (evE elt ρ1 S3) fun y S4 => some (some y, S4) else some (none, S3)) w.1 S1 [])
        fun acc S5 => if mu = true then some (.ref S5.length, S5 ++ [.lst acc]) else some (.lst acc, S5) else none
  | .lc2 mu vs elt tg it cs vs1 tg1 it1 cs1, ρ, S => bnd (evI it ρ S) fun w S1 => bnd (compA w.2 w.1 (fun x S2 acc => lft (asgG tg x (wipeE ρ vs)) fun ρ1 => bnd (evC cs ρ1 S2) fun t S3 => if t = true then
      bnd (evI it1 ρ1 S3) fun w1 S4 => if acc.length + w1.1.length ≤ sizeLine then compL w1.2 w1.1 (fun y S5 => lft (asgG tg1 y (wipeE ρ1 vs1)) fun ρ2 => bnd (evC cs1 ρ2 S5) fun t1 S6 => if t1 = true then bnd (evE elt ρ2 S6) fun z S7 => some (some z, S7) else some (none, S6)) w1.1 S4 acc else none
      else some (acc, S3)) w.1 S1 []) fun acc S8 => if mu = true then some (.ref S8.length, S8 ++ [.lst acc]) else some (.lst acc, S8)
noncomputable def evEs : MEs → Env → Sto → Rs (List D)
  | .nil, _, S => some ([], S)
  | .cons e es, ρ, S => bnd (evE e ρ S) fun d S1 => bnd (evEs es ρ S1) fun ds S2 => some (d :: ds, S2)
noncomputable def evO : MO → Env → Sto → Rs (Option Int)
  | .none, _, S => some (none, S)
  | .some e, ρ, S => bnd (evE e ρ S) fun d S1 => match d with
    | .int i => some (some i, S1)
    | _ => none
/-- a comprehension's test -/
noncomputable def evC : MO → Env → Sto → Rs Bool
  | .none, _, S => some (true, S)
  | .some e, ρ, S => bnd (evE e ρ S) fun d S1 => lft (truD S1 d) fun t => some (t, S1)
noncomputable def evPs : MPs → Env → Sto → Rs (List (D × D))
  | .nil, _, S => some ([], S)
  | .cons k v ps, ρ, S => bnd (evE k ρ S) fun a S1 => bnd (evE v ρ S1) fun b S2 => bnd (evPs ps ρ S2) fun r S3 => some ((a, b) :: r, S3)
noncomputable def evI : MI → Env → Sto → Rs (List D × Option Nat)
  | .seq e, ρ, S => bnd (evE e ρ S) fun d S1 => lft (itemsOf S1 d) fun w => some (w, S1)
  | .rng _ es, ρ, S => bnd (evEs es ρ S) fun ds S1 => lft (rngD ds) fun xs => some ((xs, none), S1)
end
noncomputable def evT (e : ME) (ρ : Env) (S : Sto) : Rs Bool := bnd (evE G cl e ρ S) fun d S1 => lft (truD S1 d) fun t => some (t, S1)
mutual
noncomputable def evS : MS → Env → Sto → Rs Fl
  | .asg tg e, ρ, S => bnd (evE G cl e ρ S) fun d S1 => lft (asgG tg d ρ) fun ρ1 => some (.nx ρ1, S1)
  | .par2 i j a b, ρ, S => bnd (evE G cl a ρ S) fun d S1 => bnd (evE G cl b ρ S1) fun e S2 => some (.nx ((ρ.set i (some d)).set j (some e)), S2)
  | .par3 i j l a b c, ρ, S => bnd (evE G cl a ρ S) fun d S1 => bnd (evE G cl b ρ S1) fun e S2 => bnd (evE G cl c ρ S2) fun f S3 => some (.nx (((ρ.set i (some d)).set j (some e)).set l (some f)), S3)
  | .aug i op e, ρ, S => match ρ[i]? with
    | some (some d) => bnd (evE G cl e ρ S) fun y S1 => lft (augD op d y) fun r => some (.nx (ρ.set i (some r)), S1)
    | _ => none
  | .setI o i e, ρ, S => bnd (evE G cl e ρ S) fun v S1 => bnd (evE G cl o ρ S1) fun d S2 => bnd (evE G cl i ρ S2) fun k S3 => lft (putI S3 d k v) fun S4 => some (.nx ρ, S4)
  | .augI o i op e, ρ, S => bnd (evE G cl o ρ S) fun d S1 => bnd (evE G cl i ρ S1) fun k S2 => lft (augGet S2 d k) fun x => bnd (evE G cl e ρ S2) fun y S3 => lft (augD op x y) fun r => lft (putI S3 d k r) fun S4 => some (.nx ρ, S4)
  | .ifS c a b, ρ, S => bnd (evT G cl c ρ S) fun t S1 => if t = true then evSs a ρ S1 else evSs b ρ S1
  | .whl c b, ρ, S => whE (evT G cl c) (evSs b) ρ S
  | .forS tg it b, ρ, S => bnd (evI G cl it ρ S) fun w S1 => forL w.2 w.1 (fun x ρ1 S2 => lft (asgG tg x ρ1) fun ρ2 => evSs b ρ2 S2) w.1 ρ S1
  | .ret e, ρ, S => bnd (evE G cl e ρ S) fun d S1 => some (.rt d, S1)
  | .retN, ρ, S => some (.rt .non, S)
  | .ex e, ρ, S => bnd (evE G cl e ρ S) fun _ S1 => some (.nx ρ, S1)
  | .pass, ρ, S => some (.nx ρ, S)
  | .brk, ρ, S => some (.bk ρ, S)
  | .nev, _, _ => none
noncomputable def evSs : MSs → Env → Sto → Rs Fl
  | .nil, ρ, S => some (.nx ρ, S)
  | .cons s ss, ρ, S => bnd (evS s ρ S) fun fl S1 => match fl with
    | .nx ρ1 => evSs ss ρ1 S1
    | .bk ρ1 => some (.bk ρ1, S1)
    | .rt d => some (.rt d, S1)
end
end
open Classical in
/-- what a call leaves: new cells are forgotten where nothing points at them -/
noncomputable def prune (S : Sto) (d : D) (S' : Sto) : D × Sto := if S'.take S.length = S ∧ below S.length d = true then (d, S) else (d, S')
noncomputable def callK (G : GT) : Nat → Nat → List D → Sto → Rs D
  | 0, _, _, _ => none
  | k + 1, g, ds, S => match G[g]? with
    | some (_, .fn f) => if ds.length = f.np then bnd (evSs G (callK G k) f.body (ds.map some ++ List.replicate (f.nl - ds.length) none) S) fun fl S1 => match fl with
      | .nx _ => some (prune S .non S1)
      | .rt d => some (prune S d S1)
      | .bk _ => none else none
    | _ => none
end Rw

/-! M5: whether a text by slots is the text as it stands -/
namespace Rw
open PySem L2

structure Syn where
  N : List Str
  sc : Scope
  fn : Str → Bool
def Syn.blk (Γ : Syn) (scope : Scope) : Syn := ⟨Γ.N, relS scope Γ.sc, fun x => scope.names.lookup x == some .cell⟩
def visB (Γ : Syn) (i : Nat) (x : Str) : Bool := decide (Γ.N[i]? = some x) && ((match Γ.sc.names.lookup x with
  | some .local => true
  | some .cell => true
  | some .free => true
  | _ => false) && (!(x == "__debug__") && !(x == "__classdict__")))
def locB (Γ : Syn) (i : Nat) (x : Str) : Bool := decide (Γ.N[i]? = some x) && (match Γ.sc.names.lookup x with
  | some .local => true
  | some .cell => Γ.fn x
  | _ => false)
def lclB (Γ : Syn) (i : Nat) (x : Str) : Bool := decide (Γ.N[i]? = some x) && decide (Γ.sc.names.lookup x = some .local)
/-- a global name, the g-th of the table -/
def glB (G : GT) (Γ : Syn) (g : Nat) (x : Str) : Bool := (match G[g]? with
  | some (y, _) => decide (y = x)
  | none => false) && (decide (Γ.sc.names.lookup x = some .globalImplicit) && (!(x == "__debug__") && decide (x ≠ "__name__")))
def isFnB (G : GT) (g : Nat) : Bool := match G[g]? with
  | some (_, .fn _) => true
  | _ => false
def isBlt (G : GT) (g : Nat) : Bool := match G[g]? with
  | some (_, .blt) => true
  | _ => false
/-- no star, no slice, no set -/
def okX : Expr → Bool
  | .Starred .. => false
  | .Slice .. => false
  | .Set .. => false
  | _ => true
def notLc : Expr → Bool
  | .ListComp .. => false
  | .SetComp .. => false
  | .DictComp .. => false
  | _ => true
def noCall : Expr → Bool
  | .Call .. => false
  | _ => true
def biName : BI → Str
  | .len => "len" | .abs => "abs" | .max => "max" | .min => "min" | .int => "int" | .str => "str" | .tuple => "tuple" | .list => "list"
def mtName : MT → Str
  | .append => "append" | .pop => "pop" | .extend => "extend"
def ownOf (N : List Str) (vs : List Nat) : List (Str × Nat) := vs.map fun i => ((N[i]?).getD "", i)
mutual
def slG : MG → List Nat
  | .name i => [i]
  | .tup ts => slGs ts
def slGs : MGs → List Nat
  | .nil => []
  | .cons t ts => slG t ++ slGs ts
end
mutual
def chkG : MG → Syn → Expr → Bool
  | .name i, Γ, .Name x _ => locB Γ i x
  | .tup ts, Γ, .Tuple es _ _ => chkGs ts Γ es
  | _, _, _ => false
def chkGs : MGs → Syn → List Expr → Bool
  | .nil, _, [] => true
  | .cons t ts, Γ, e :: es => okX e && (chkG t Γ e && chkGs ts Γ es)
  | _, _, _ => false
end
section
variable (G : GT)
mutual
def chkE : ME → Syn → Expr → Bool
  | .var i, Γ, .Name x _ => visB Γ i x
  | .int i, _, .Constant (.int j) _ _ => decide (i = j)
  | .str s, _, .Constant (.str t) _ _ => decide (s = t)
  | .bl b, _, .Constant (.bool c) _ _ => b == c
  | .non, _, .Constant .none _ _ => true
  | .con g, Γ, .Name x _ => glB G Γ g x && (match conOf G g with
    | some _ => true
    | none => false)
  | .bin op a b, Γ, .BinOp x op' y _ => decide (op = op') && (chkE a Γ x && chkE b Γ y)
  | .madd a b, Γ, .BinOp x op y _ => decide (op = .Add) && (chkE a Γ x && chkE b Γ y)
  | .neg a, Γ, .UnaryOp .USub x _ => chkE a Γ x
  | .cmp op a b, Γ, .Compare x [op'] [y] _ => decide (op = op') && (okX y && (chkE a Γ x && chkE b Γ y))
  | .ch op op' a b c, Γ, .Compare x [p, q] [y, z] _ => decide (op = p) && (decide (op' = q) && (okX z && (chkE a Γ x && (chkE b Γ y && chkE c Γ z))))
  | .and a b, Γ, .BoolOp .And (x :: y :: r) p => chkE a Γ x && chkE b Γ (.BoolOp .And (y :: r) p)
  | .or a b, Γ, .BoolOp .Or (x :: y :: r) p => chkE a Γ x && chkE b Γ (.BoolOp .Or (y :: r) p)
  | .one a, Γ, .BoolOp _ [x] _ => chkE a Γ x
  | .not a, Γ, .UnaryOp .Not x _ => chkE a Γ x
  | .ifE c a b, Γ, .IfExp t x y _ => chkE c Γ t && (chkE a Γ x && chkE b Γ y)
  | .tup es, Γ, .Tuple xs _ _ => chkEs es Γ xs
  | .lst es, Γ, .List xs _ => chkEs es Γ xs
  | .mlst es, Γ, .List xs _ => chkEs es Γ xs
  | .dict ps, Γ, .Dict ks vs _ => decide (ks.length ≤ 15) && (decide (ks.length = vs.length) && (!ks.isEmpty && chkPs ps Γ ks vs))
  | .idx a i, Γ, .Subscript x y _ => okX y && (chkE a Γ x && chkE i Γ y)
  | .sl a lo hi, Γ, .Subscript x (.Slice l h none _) _ => chkE a Γ x && (chkO lo Γ l && chkO hi Γ h)
  | .slR a hi, Γ, .Subscript x (.Slice none h (some (.UnaryOp .USub (.Constant (.int i) _ _) _)) _) _ => decide (i = 1) && (chkE a Γ x && chkO hi Γ h)
  | .call g es, Γ, .Call (.Name x _) xs [] _ => glB G Γ g x && (isFnB G g && chkEs es Γ xs)
  | .bi b g es, Γ, .Call (.Name x _) xs [] _ => glB G Γ g x && (isBlt G g && (decide (x = biName b) && (!xs.isEmpty && chkEs es Γ xs)))
  | .isI g h n a, Γ, .Call (.Name x _) [y, .Name t _] [] _ => glB G Γ g x && (isBlt G g && (decide (x = "isinstance") && (glB G Γ h t && (isBlt G h && (decide (bootBuiltins t = some (.type n)) && (okX y && chkE a Γ y))))))
  | .meth m o es, Γ, .Call (.Attribute y nm ap) xs [] cp => decide (nm = mtName m) && (noCall y && ((ap.endLine == cp.line) && (decide (xs.length < 30) && (chkE o Γ y && chkEs es Γ xs))))
  | .lc _ vs elt tg it cs, Γ, .ListComp y [⟨t, i, ifs, a⟩] scope _ => decide (a = 0) && (okX i && (blkC Γ.N Γ.sc scope (ownOf Γ.N vs) && ((slG tg).all (fun j => decide (j ∈ vs)) &&
      (chkG tg (Γ.blk scope) t && (chkI it Γ i && (chkCs cs (Γ.blk scope) ifs && chkE elt (Γ.blk scope) y))))))
  | .lc2 _ vs elt tg it cs vs1 tg1 it1 cs1, Γ, .ListComp y [⟨t, i, ifs, a⟩, ⟨t1, i1, ifs1, a1⟩] scope _ => decide (a = 0) && (decide (a1 = 0) && (okX i && (okX i1 && (blkC Γ.N Γ.sc scope (ownOf Γ.N vs) && (vs1.all (fun j => decide (j ∈ vs)) && ((slG tg).all (fun j => decide (j ∈ vs)) && ((slG tg1).all (fun j => decide (j ∈ vs1)) &&
      (chkG tg (Γ.blk scope) t && (chkI it Γ i && (chkCs cs (Γ.blk scope) ifs && (chkG tg1 (Γ.blk scope) t1 && (chkI it1 (Γ.blk scope) i1 && (chkCs cs1 (Γ.blk scope) ifs1 && chkE elt (Γ.blk scope) y)))))))))))))
  | _, _, _ => false
def chkEs : MEs → Syn → List Expr → Bool
  | .nil, _, [] => true
  | .cons e es, Γ, x :: xs => okX x && (chkE e Γ x && chkEs es Γ xs)
  | _, _, _ => false
def chkO : MO → Syn → Option Expr → Bool
  | .none, _, none => true
  | .some e, Γ, some x => chkE e Γ x
  | _, _, _ => false
def chkCs : MO → Syn → List Expr → Bool
  | .none, _, [] => true
  | .some e, Γ, [x] => chkE e Γ x
  | _, _, _ => false
def chkPs : MPs → Syn → List (Option Expr) → List Expr → Bool
  | .nil, _, [], [] => true
  | .cons k v ps, Γ, some x :: ks, y :: vs => chkE k Γ x && (chkE v Γ y && chkPs ps Γ ks vs)
  | _, _, _, _ => false
def chkI : MI → Syn → Expr → Bool
  | .seq e, Γ, x => chkE e Γ x
  | .rng g es, Γ, .Call (.Name x _) xs [] _ => glB G Γ g x && (isBlt G g && (decide (x = "range") && ((decide (xs.length = 1) || decide (xs.length = 2)) && chkEs es Γ xs)))
  | _, _, _ => false
end
/-- both names on one line, and not all that stands there is folded: the pair is stored from the right -/
def swB (ls : List Pos) (vs : List Expr) : Bool := (match ls with
  | [] => true
  | p :: r => r.all fun q => q.line == p.line) && (!vs.all (foldedForSure 8) && !vs.all (constantsAlone 8))
/-- stored from the left -/
def noSw (Γ : Syn) (ts vs : List Expr) : Bool :=
  (!(ts.length == 2 || ts.length == 3) || vs.length != ts.length) ||
    (((ts.filterMap fun
      | .Name id pos => if Γ.sc.names.lookup id == some .local && pos.line == (ts.head?.map (·.pos.line)).getD 0 then some id else none
      | _ => none).length != ts.length) || vs.all (foldedForSure 8))
def asgB (Γ : Syn) (t v : Expr) : Bool := match t, v with
  | .Name y py, .ListComp e _ s p => (decide (Γ.sc.names.lookup y = some .local) && ((py.line == p.line) && !(s.names.any fun (n, k) => n == y && (k == .local || k == .cell)))) || decide (Γ.sc.names.lookup y = some .cell)
  | .Tuple ts _ _, .Tuple vs _ _ => noSw Γ ts vs
  | _, v => notLc v
mutual
def chkS : MS → Syn → Stmt → Bool
  | .asg tg e, Γ, st => (match st with
    | .Assign [t] v _ => asgB Γ t v && (chkG tg Γ t && chkE G e Γ v)
    | _ => false)
  | .par2 i j a b, Γ, st => (match st with
    | .Assign [.Tuple [.Name x px, .Name y py] _ _] (.Tuple [u, v] _ _) _ => swB [px, py] [u, v] && (lclB Γ i x && (lclB Γ j y && (decide (i ≠ j) && (decide (x ≠ y) && (okX u && (okX v && (chkE G a Γ u && chkE G b Γ v)))))))
    | _ => false)
  | .par3 i j l a b c, Γ, st => (match st with
    | .Assign [.Tuple [.Name x px, .Name y py, .Name z pz] _ _] (.Tuple [u, v, w] _ _) _ => swB [px, py, pz] [u, v, w] && (lclB Γ i x && (lclB Γ j y && (lclB Γ l z && (decide (i ≠ j ∧ i ≠ l ∧ j ≠ l) && (decide (x ≠ y ∧ x ≠ z ∧ y ≠ z) && (okX u && (okX v && (okX w && (chkE G a Γ u && (chkE G b Γ v && chkE G c Γ w))))))))))
    | _ => false)
  | .aug i op e, Γ, st => (match st with
    | .AugAssign (.Name x _) op' v _ => locB Γ i x && (decide (op = op') && chkE G e Γ v)
    | _ => false)
  | .setI o i e, Γ, st => (match st with
    | .Assign [.Subscript p q _] v _ => okX q && (notLc v && (chkE G e Γ v && (chkE G o Γ p && chkE G i Γ q)))
    | _ => false)
  | .augI o i op e, Γ, st => (match st with
    | .AugAssign (.Subscript p q _) op' v _ => okX q && (decide (op = op') && (chkE G e Γ v && (chkE G o Γ p && chkE G i Γ q)))
    | _ => false)
  | .ifS c a b, Γ, st => (match st with
    | .If t x y _ => chkE G c Γ t && (chkSs a Γ x && chkSs b Γ y)
    | _ => false)
  | .whl c b, Γ, st => (match st with
    | .While t x [] _ => chkE G c Γ t && chkSs b Γ x
    | _ => false)
  | .forS tg it b, Γ, st => (match st with
    | .For t i x [] _ => okX i && (chkG tg Γ t && (chkI G it Γ i && chkSs b Γ x))
    | _ => false)
  | .ret e, Γ, st => (match st with
    | .Return (some v) _ => chkE G e Γ v
    | _ => false)
  | .retN, _, st => (match st with
    | .Return none _ => true
    | _ => false)
  | .ex e, Γ, st => (match st with
    | .Expr v _ => notLc v && chkE G e Γ v
    | _ => false)
  | .pass, _, st => (match st with
    | .Pass _ => true
    | _ => false)
  | .brk, _, st => (match st with
    | .Break _ => true
    | _ => false)
  | .nev, _, _ => true
def chkSs : MSs → Syn → List Stmt → Bool
  | .nil, _, [] => true
  | .cons s ss, Γ, x :: xs => chkS s Γ x && chkSs ss Γ xs
  | _, _, _ => false
end
end
end Rw

/-! M6: the text does what is said: the parts -/
namespace Rw
open PySem PySem.Spec PyProof.Rows L2

/-! ### the syntax's own facts -/
theorem max_fold : ∀ (ns : List Int) (n : Int), (∀ m ∈ n :: ns, m ≤ ns.foldl max n) ∧ ns.foldl max n ∈ n :: ns
  | [], n => by simp
  | k :: ns, n => by
    obtain ⟨h1, h2⟩ := max_fold ns (max n k)
    have h3 := h1 (max n k) List.mem_cons_self
    refine ⟨?_, ?_⟩
    · intro m hm
      rw [List.foldl_cons]
      rcases List.mem_cons.mp hm with rfl | hm
      · omega
      · rcases List.mem_cons.mp hm with rfl | hm
        · omega
        · exact h1 m (List.mem_cons_of_mem _ hm)
    · rw [List.foldl_cons]
      rcases List.mem_cons.mp h2 with e | e
      · rw [e]
        rcases Int.le_total n k with q | q
        · rw [Int.max_eq_right q]; simp
        · rw [Int.max_eq_left q]; simp
      · exact List.mem_cons_of_mem _ (List.mem_cons_of_mem _ e)
theorem star_ok {e : Expr} (h : okX e = true) (es : List Expr) (env : PySem.Env) : starEach (e :: es) env = (false, eval e env) :: starEach es env := by
  cases e <;> first | rfl | cases h
theorem asgEach_ok {e : Expr} (h : okX e = true) (es : List Expr) (env : PySem.Env) : assignEach (e :: es) env = (false, assign e env) :: assignEach es env := by
  cases e <;> first | rfl | cases h
theorem fold_ok {e : Expr} (h : okX e = true) (env : PySem.Env) (x : Value) : foldedSetIterable e env x = pure x := by
  cases e <;> first | rfl | cases h
theorem mark_ok {e : Expr} (h : okX e = true) (op : CmpOp) : behindInMarks op e = false := by
  cases e <;> first | rfl | cases h
theorem sub_ok {e : Expr} (h : okX e = true) (o i : Value) : subscripted e false o i = operate [o, i] (getItem o i) := by
  cases e <;> first | rfl | cases h
theorem aug_ok {e : Expr} (h : okX e = true) (ov iv new : Value) : augStore e ov iv new = (do holding [new, ov, iv] (setItem ov iv new); release [new, ov, iv] []; pure .next) := by
  cases e <;> first | rfl | cases h
theorem asgsub_ok {i : Expr} (h : okX i = true) (o : Expr) (pos : Pos) (env : PySem.Env) (v : Value) : assign (.Subscript o i pos) env v = (do
      let ov ← holding [v] (eval o env)
      let iv ← holding [v, ov] (eval i env)
      standAt pos
      holding [v, ov, iv] (setItem ov iv v)
      release [v, ov, iv] []) := by
  cases i <;> first | rfl | cases h
theorem swaps_ok {e : Expr} (h : notLc e = true) (t : Option Expr) (n : Nat) (env : PySem.Env) : swapsWith e t n env = pure false := by
  cases e <;> first | rfl | cases h
theorem base_ok {o : Expr} (h : noCall o = true) (nm : Str) (env : PySem.Env) (w : Sem Value) : attributeBase o nm env w = w := by
  cases o <;> first | rfl | cases h
theorem bk {a b : Bool} (h : (a && b) = true) : a = true ∧ b = true := Bool.and_eq_true_iff.mp h
theorem dec {p : Prop} [Decidable p] (h : decide p = true) : p := of_decide_eq_true h

/-! ### built-in functions -/
def rBi (K : PySem.W.Frag) (b : BI) : List V → Hp → VK → Prop := fun vs H Q => ∃ W F μ S ds r, Stt K W F μ S H ∧ Reps K W μ ds vs ∧ biD S b ds = some r ∧ Post K W F μ S r Q
def biVal : BI → Value
  | .len => .builtin "len" | .abs => .builtin "abs" | .max => .builtin "max" | .min => .builtin "min" | .int => .type "int" | .str => .type "str" | .tuple => .type "tuple" | .list => .type "list"
theorem bi_boot (b : BI) : bootBuiltins (biName b) = some (biVal b) := by
  cases b <;> decide +kernel
section
variable {X : Cx} {K : PySem.W.Frag} {W F : Hp} {μ : List Addr} {S : Sto} {H : Hp}
theorem cell_lst (st : Stt K W F μ S H) {i : Nat} {v : V} {r : D} {f : List D → D} (hv : Rep K W μ (.ref i) v) (h : (match S[i]? with
    | some (.lst xs) => some (f xs)
    | _ => none) = some r) : ∃ a vs xs, v = .ref a ∧ H a = some (.lst vs) ∧ Reps K W μ xs vs ∧ r = f xs := by
  obtain ⟨a, hr, rfl⟩ := hv
  cases c : S[i]? with
  | none => rw [c] at h; cases h
  | some cc =>
    rw [c] at h
    cases cc with
    | lst ys =>
      cases h
      obtain ⟨vs, h1, h2⟩ := st.lst hr c
      exact ⟨a, vs, ys, rfl, h1, h2, rfl⟩
    | dk _ => cases h
theorem bi_call (hc : X.calm = true) (b : BI) : CallR X (biVal b) (rBi X.K b) := by
  intro pins s σ H vs us Q I rs h
  obtain ⟨W, F, μ, S, ds, r, st, rd, hb, p⟩ := h
  cases b with
  | len =>
    have hb : biLen S ds = some r := hb
    unfold biLen at hb
    split at hb
    · cases hb
      obtain ⟨v, rfl, a, ws, rfl, h1, r1⟩ := rd.inv1
      exact call_len pins s σ H _ us Q I rs ⟨_, _, rfl, .inr ⟨ws, st.sqT h1, r1.length.symm⟩, p.int st⟩
    · split at hb
      · rename_i q
        cases hb
        obtain ⟨v, rfl, r1⟩ := rd.inv1
        cases (show v = _ from r1)
        exact call_len pins s σ H _ us Q I rs ⟨_, _, rfl, ⟨q, rfl⟩, p.int st⟩
      · cases hb
    · cases hb
      obtain ⟨v, rfl, a, ws, rfl, h1, r1⟩ := rd.inv1
      exact call_len pins s σ H _ us Q I rs ⟨_, _, rfl, .inl ⟨ws, SqL.of (st.sub _ _ h1), r1.length.symm⟩, p.int st⟩
    · cases hb
      obtain ⟨v, rfl, a, ws, rfl, h1, r1⟩ := rd.inv1
      exact call_len pins s σ H _ us Q I rs ⟨_, _, rfl, .inl ⟨ws, st.sqL h1, r1.length.symm⟩, p.int st⟩
    · obtain ⟨v, rfl, r1⟩ := rd.inv1
      obtain ⟨a, ws, xs, rfl, h1, h2, rfl⟩ := cell_lst st (f := fun xs => .int xs.length) r1 hb
      exact call_len pins s σ H _ us Q I rs ⟨_, _, rfl, .inl ⟨ws, SqL.of h1, h2.length.symm⟩, p.int st⟩
    · cases hb
  | abs =>
    have hb : biAbs ds = some r := hb
    unfold biAbs at hb
    split at hb
    · cases hb
      obtain ⟨v, rfl, r1⟩ := rd.inv1
      cases (show v = _ from r1)
      exact call_abs pins s σ H _ us Q I rs ⟨_, rfl, p.int st⟩
    · cases hb
  | max =>
    have hb : biMax ds = some r := hb
    unfold biMax at hb
    split at hb
    · cases hb
      obtain ⟨v, u, rfl, r1, r2⟩ := rd.inv2
      cases (show v = _ from r1)
      cases (show u = _ from r2)
      exact call_max2 hc pins s σ H _ us Q I rs ⟨_, _, rfl, p.int st⟩
    · rename_i xs
      split at hb
      · rename_i n ns hn
        cases hb
        obtain ⟨v, rfl, r1⟩ := rd.inv1
        obtain ⟨a, vs, rfl, h1, h2⟩ := r1
        have hv := h2.ints hn
        subst hv
        refine cr_max hc pins s σ H _ us Q I rs ⟨a, n :: ns, rfl, SqL.of (st.sub _ _ h1), Nat.succ_pos _, fun m hm hy => ?_⟩
        have : m = ns.foldl max n := by
          have f1 := max_fold ns n
          exact Int.le_antisymm (f1.1 m hm) (hy _ f1.2)
        rw [this]
        exact p.int st
      · cases hb
    · cases hb
  | min =>
    have hb : biMin ds = some r := hb
    unfold biMin at hb
    split at hb
    · cases hb
      obtain ⟨v, u, rfl, r1, r2⟩ := rd.inv2
      cases (show v = _ from r1)
      cases (show u = _ from r2)
      exact call_min2 hc pins s σ H _ us Q I rs ⟨_, _, rfl, p.int st⟩
    · cases hb
  | int =>
    have hb : biInt ds = some r := hb
    unfold biInt at hb
    split at hb
    · cases hb
      obtain ⟨v, rfl, r1⟩ := rd.inv1
      cases (show v = _ from r1)
      exact call_int1 pins s σ H _ us Q I rs (.inl ⟨_, rfl, p.int st⟩)
    · cases hb
      obtain ⟨v, rfl, r1⟩ := rd.inv1
      cases (show v = _ from r1)
      exact call_int1 pins s σ H _ us Q I rs (.inr ⟨_, rfl, p.int st⟩)
    · cases hb
  | str =>
    have hb : biStr ds = some r := hb
    unfold biStr at hb
    split at hb
    · split at hb
      · rename_i c
        cases hb
        obtain ⟨v, rfl, r1⟩ := rd.inv1
        cases (show v = _ from r1)
        exact call_str_int pins s σ H _ us Q I rs ⟨_, rfl, c, p.strv st⟩
      · cases hb
    · cases hb
  | tuple =>
    have hb : biTup S ds = some r := hb
    unfold biTup at hb
    split at hb
    · cases hb
      obtain ⟨v, rfl, r1⟩ := rd.inv1
      obtain ⟨a, vs, rfl, h1, r2⟩ := r1
      exact call_tuple_of pins s σ H _ us Q I rs ⟨a, vs, rfl, .inr ⟨st.sqT h1, p.same st ⟨a, vs, rfl, h1, r2⟩⟩⟩
    · cases hb
      obtain ⟨v, rfl, r1⟩ := rd.inv1
      obtain ⟨a, vs, rfl, h1, r2⟩ := r1
      exact call_tuple_of pins s σ H _ us Q I rs ⟨a, vs, rfl, .inl ⟨SqL.of (st.sub _ _ h1), p.tup st r2⟩⟩
    · cases hb
      obtain ⟨v, rfl, r1⟩ := rd.inv1
      obtain ⟨a, vs, rfl, h1, r2⟩ := r1
      exact call_tuple_of pins s σ H _ us Q I rs ⟨a, vs, rfl, .inl ⟨st.sqL h1, p.tup st r2⟩⟩
    · obtain ⟨v, rfl, r1⟩ := rd.inv1
      obtain ⟨a, ws, xs, rfl, h1, h2, rfl⟩ := cell_lst st (f := fun xs => .tup xs) r1 hb
      exact call_tuple_of pins s σ H _ us Q I rs ⟨a, ws, rfl, .inl ⟨SqL.of h1, p.tup st h2⟩⟩
    · cases hb
  | list =>
    have hb : biLst S ds = some r := hb
    unfold biLst at hb
    split at hb
    · cases hb
      obtain ⟨v, rfl, r1⟩ := rd.inv1
      obtain ⟨a, vs, rfl, h1, r2⟩ := r1
      exact call_list_of pins s σ H _ us Q I rs ⟨a, vs, rfl, .inr (st.sqT h1), p.lst st r2⟩
    · cases hb
      obtain ⟨v, rfl, r1⟩ := rd.inv1
      obtain ⟨a, vs, rfl, h1, r2⟩ := r1
      exact call_list_of pins s σ H _ us Q I rs ⟨a, vs, rfl, .inl (SqL.of (st.sub _ _ h1)), p.lst st r2⟩
    · cases hb
      obtain ⟨v, rfl, r1⟩ := rd.inv1
      obtain ⟨a, vs, rfl, h1, r2⟩ := r1
      exact call_list_of pins s σ H _ us Q I rs ⟨a, vs, rfl, .inl (st.sqL h1), p.lst st r2⟩
    · obtain ⟨v, rfl, r1⟩ := rd.inv1
      obtain ⟨a, ws, xs, rfl, h1, h2, rfl⟩ := cell_lst st (f := fun xs => .lst xs) r1 hb
      exact call_list_of pins s σ H _ us Q I rs ⟨a, ws, rfl, .inl (SqL.of h1), p.lst st h2⟩
    · cases hb
end

/-! ### isinstance -/
theorem ty_rep {K : PySem.W.Frag} {W F : Hp} {μ : List Addr} {S : Sto} {H : Hp} (st : Stt K W F μ S H) {d : D} {v : V} {n : String} (r : Rep K W μ d v) (h : tyName S d = some n) : TyX K H v (.type n) := by
  have tupX : ∀ {a : Addr} {xs : List V}, SqT K H a xs → TyX K H (.ref a) (.type "tuple") := fun {a xs} q => by
    rcases q with (q | ⟨o, q⟩) | ⟨o, its, n, hk, hc, _⟩
    · exact .base (.tup q)
    · exact .fTuple q
    · exact .kTuple hk hc
  have lstX : ∀ {a : Addr} {xs : List V}, SqL K H a xs → TyX K H (.ref a) (.type "list") := fun {a xs} q => by
    rcases q with (q | ⟨o, q⟩) | ⟨o, its, n, hk, hc, _⟩
    · exact .base (.lst q)
    · exact .base (.frz q)
    · exact .kList hk hc
  cases d with
  | non => cases h; cases (show v = _ from r); exact .base .non
  | bl b => cases h; cases (show v = _ from r); exact .base (.bl b)
  | int b => cases h; cases (show v = _ from r); exact .base (.int b)
  | str b => cases h; cases (show v = _ from r); exact .base (.str b)
  | tup xs => cases h; obtain ⟨a, vs, rfl, h1, _⟩ := r; exact tupX (st.sqT h1)
  | lst xs => cases h; obtain ⟨a, vs, rfl, h1, _⟩ := r; exact lstX (SqL.of (st.sub _ _ h1))
  | flst xs => cases h; obtain ⟨a, vs, rfl, h1, _⟩ := r; exact lstX (st.sqL h1)
  | ref i =>
    obtain ⟨a, hr, rfl⟩ := r
    cases c : S[i]? with
    | none => simp only [tyName, c] at h; cases h
    | some cc =>
      cases cc with
      | lst ys =>
        simp only [tyName, c] at h
        cases h
        obtain ⟨vs, h1, _⟩ := st.lst hr c
        exact .base (.lst h1)
      | dk kvs =>
        simp only [tyName, c] at h
        cases h
        obtain ⟨vs, h1, _⟩ := st.dk hr c
        exact .base (.dK h1)
  | ty n => cases h

/-! ### methods -/
def rMt (K : PySem.W.Frag) (m : MT) : V → List V → Hp → VK → Prop := fun x vs H Q => ∃ W F μ S d ds r S', Stt K W F μ S H ∧ Rep K W μ d x ∧ Reps K W μ ds vs ∧ methD m S d ds = some (r, S') ∧ Post K W F μ S' r Q
def mtId : MT → String
  | .append => "list.append" | .pop => "list.pop" | .extend => "list.extend"
section
variable {X : Cx}
theorem mt_call (m : MT) : MtR X (mtId m) (rMt X.K m) := by
  intro pins s σ H x vs u us Q I rx rs h
  obtain ⟨W, F, μ, S, d, ds, r, S', st, hd, hds, hm, p⟩ := h
  unfold methD at hm
  split at hm
  · rename_i i y
    obtain ⟨a, hr, rfl⟩ := hd
    obtain ⟨v, rfl, r1⟩ := hds.inv1
    cases c : S[i]? with
    | none => rw [c] at hm; cases hm
    | some cc =>
      rw [c] at hm
      cases cc with
      | dk _ => cases hm
      | lst xs =>
        obtain ⟨ws, h1, h2⟩ := st.lst hr c
        simp only at hm
        split at hm
        · rename_i hl
          cases hm
          refine mt_append pins s σ H _ _ u us Q I rx rs ⟨a, ws, v, rfl, rfl, h1, by rw [h2.length]; exact hl, ?_⟩
          have hc : CellAt X.K W μ (upd H a (.lst (ws ++ [v]))) a (.lst (xs ++ [y])) := ⟨_, upd_same, h2.app (Reps.one r1)⟩
          exact p _ _ W μ Ext.refl (st.put _ _ hr hc) rfl
        · cases hm
  · rename_i i
    obtain ⟨a, hr, rfl⟩ := hd
    cases (show vs = [] from hds)
    cases c : S[i]? with
    | none => rw [c] at hm; cases hm
    | some cc =>
      rw [c] at hm
      cases cc with
      | dk _ => cases hm
      | lst xs =>
        obtain ⟨ws, h1, h2⟩ := st.lst hr c
        simp only at hm
        split at hm
        · rename_i y hy
          cases hm
          obtain ⟨v, e1, e2⟩ := h2.get hy
          refine mt_pop pins s σ H _ _ u us Q I rx rs ⟨a, ws, v, rfl, rfl, h1, by rw [h2.length]; exact e1, ?_⟩
          have hc : CellAt X.K W μ (upd H a (.lst ws.dropLast)) a (.lst xs.dropLast) := ⟨_, upd_same, h2.dropLast⟩
          exact p _ _ W μ Ext.refl (st.put _ _ hr hc) e2
        · cases hm
  · rename_i i ys
    obtain ⟨a, hr, rfl⟩ := hd
    obtain ⟨v, rfl, b, zs, rfl, h3, h4⟩ := hds.inv1
    cases c : S[i]? with
    | none => rw [c] at hm; cases hm
    | some cc =>
      rw [c] at hm
      cases cc with
      | dk _ => cases hm
      | lst xs =>
        obtain ⟨ws, h1, h2⟩ := st.lst hr c
        simp only at hm
        split at hm
        · rename_i hl
          cases hm
          refine mt_extend pins s σ H _ _ u us Q I rx rs ⟨a, b, ws, zs, rfl, rfl, h1, st.sub _ _ h3, by rw [h2.length, h4.length]; exact hl, ?_⟩
          have hc : CellAt X.K W μ (upd H a (.lst (ws ++ zs))) a (.lst (xs ++ ys)) := ⟨_, upd_same, h2.app h4⟩
          exact p _ _ W μ Ext.refl (st.put _ _ hr hc) rfl
        · cases hm
  · cases hm
end
end Rw

/-! M7: loops -/
namespace Rw
open PySem PySem.Spec PyProof.Rows L2

/-! ### what is walked -/
/-- the iterator J yields the items xs, as long as the cell o holds them -/
def WkOk (K : PySem.W.Frag) (W : Hp) (μ : List Addr) (xs : List D) (o : Option Nat) (J : It) : Prop :=
  ∀ (i : Nat) W' F' μ' S' H', Ext W μ W' μ' → Stt K W' F' μ' S' H' → okS o xs S' →
    (i < xs.length → J.go i H' ∧ ∀ x H'', J.yld i H' x H'' → H'' = H' ∧ ∃ d, xs[i]? = some d ∧ Rep K W' μ' d x) ∧ (xs.length ≤ i → J.stop i H')
def TIR (K : PySem.W.Frag) (ev : Env → Sto → Rs (List D × Option Nat)) : TI := fun σ H R => ∃ W F μ ρ S w S', Stt K W F μ S H ∧ EnvR K W μ ρ σ ∧ ev ρ S = some (w, S') ∧
  ∀ J H' W' μ', Ext W μ W' μ' → Stt K W' F μ' S' H' → WkOk K W' μ' w.1 w.2 J → R J H'
theorem _root_.L2.PI.weak {X : Cx} {tg e : Expr} {t t' : TI} (h : PI X tg e t) (w : ∀ σ H R, t' σ H R → t σ H R) : PI X tg e t' := ⟨fun pins s σ H R I q => h.run pins s σ H R I (w σ H R q)⟩
theorem wk_list {K : PySem.W.Frag} {W : Hp} {μ : List Addr} {xs : List D} {o : Option Nat} {a : Addr}
    (h : ∀ W' F' μ' S' H', Ext W μ W' μ' → Stt K W' F' μ' S' H' → okS o xs S' → ∃ vs, SqL K H' a vs ∧ Reps K W' μ' xs vs) : WkOk K W μ xs o (Itl K a) := by
  intro i W' F' μ' S' H' x st ok
  obtain ⟨vs, h1, h2⟩ := h W' F' μ' S' H' x st ok
  refine ⟨fun hi => ⟨⟨vs, vs[i]'(by rw [h2.length]; exact hi), h1, by simp⟩, fun y H'' hy => ?_⟩, fun hi => ⟨vs, h1, by rw [h2.length]; exact hi⟩⟩
  obtain ⟨e, q⟩ := hy
  exact ⟨e, h2.get2 (q vs h1)⟩
theorem wk_tup {K : PySem.W.Frag} {W : Hp} {μ : List Addr} {xs : List D} {a : Addr} {vs : List V} (h : SqT K W a vs) (r : Reps K W μ xs vs) : WkOk K W μ xs none (Itt K a) := by
  intro i W' F' μ' S' H' x st _
  have h1 : SqT K H' a vs := st.sqT (sqT_le x.w h)
  have h2 := r.m x
  refine ⟨fun hi => ⟨⟨vs, vs[i]'(by rw [h2.length]; exact hi), h1, by simp⟩, fun y H'' hy => ?_⟩, fun hi => ⟨vs, h1, by rw [h2.length]; exact hi⟩⟩
  obtain ⟨e, q⟩ := hy
  exact ⟨e, h2.get2 (q vs h1)⟩
theorem wk_rng {K : PySem.W.Frag} {W : Hp} {μ : List Addr} {lo : Int} {n : Nat} : WkOk K W μ ((List.range n).map fun (i : Nat) => D.int (lo + (i : Int))) none (Itr lo n) := by
  intro i W' F' μ' S' H' x st _
  have hl : ((List.range n).map fun (i : Nat) => D.int (lo + (i : Int))).length = n := by simp
  rw [hl]
  refine ⟨fun hi => ⟨hi, fun y H'' hy => ?_⟩, fun hi => hi⟩
  obtain ⟨e, q⟩ := hy
  exact ⟨e, .int (lo + i), by simp [hi], q⟩
/-- over a list or a tuple -/
def iSeq (K : PySem.W.Frag) (tl : TE) : TI := fun σ H R => tl σ H fun x H1 => ∃ a, x = .ref a ∧ (((∃ xs, SqL K H1 a xs) ∧ R (Itl K a) H1) ∨ ((∃ xs, SqT K H1 a xs) ∧ R (Itt K a) H1))
theorem pi_seq {X : Cx} {tg l : Expr} {tl : TE} (hl : PE X l tl) : PI X tg l (iSeq X.K tl) := by
  refine ⟨fun pins s σ H R I h => ?_⟩
  refine thn (hl.run pins s σ H _ I h) fun v s1 ⟨x, H1, I1, r1, q1⟩ => ?_
  obtain ⟨a, e, ⟨⟨xs, hq⟩, q⟩ | ⟨⟨xs, hq⟩, q⟩⟩ := q1
  · subst e
    cases r1
    obtain ⟨its, rv, p, hz⟩ := I1.list hq
    refine wpAny_pyIter_list p.isList ?_
    refine ⟨s1.heap.objs.size, [s1.heap.objs.size], _, _, H1, rfl, I1.kept (t' := s1.toks) fun b o e => Heap.get?_push_of_some _ e, turn_list a _, ⟨_, Heap.get?_push_size _ rfl, rfl, rfl⟩, fun b hb => ?_, q⟩
    have e : b = s1.heap.objs.size := by simpa using hb
    subst e
    exact I1.fpOk (Nat.le_refl _) (I1.hok.fresh (Nat.le_refl _))
  · subst e
    cases r1
    obtain ⟨its, rv, p, hz⟩ := I1.tuple hq
    refine wpAny_pyIter_tuple (show s1.heap.IsTuple a its.toArray from p) ?_
    refine ⟨s1.heap.objs.size, [s1.heap.objs.size], _, _, H1, rfl, I1.kept (t' := s1.toks) fun b o e => Heap.get?_push_of_some _ e, turn_tuple a _, ⟨_, Heap.get?_push_size _ rfl, rfl, rfl⟩, fun b hb => ?_, q⟩
    have e : b = s1.heap.objs.size := by simpa using hb
    subst e
    exact I1.fpOk (Nat.le_refl _) (I1.hok.fresh (Nat.le_refl _))
section
variable {K : PySem.W.Frag} {W F : Hp} {μ : List Addr} {S : Sto} {H : Hp}
/-- what is walked, by the value -/
theorem items_rep (st : Stt K W F μ S H) {d : D} {v : V} {w : List D × Option Nat} (r : Rep K W μ d v) (h : itemsOf S d = some w) :
    ∃ a, v = .ref a ∧ (((∃ xs, SqL K H a xs) ∧ WkOk K W μ w.1 w.2 (Itl K a)) ∨ ((∃ xs, SqT K H a xs) ∧ WkOk K W μ w.1 w.2 (Itt K a))) := by
  cases d with
  | tup xs =>
    cases h
    obtain ⟨a, vs, rfl, h1, r1⟩ := r
    exact ⟨a, rfl, .inr ⟨⟨vs, st.sqT h1⟩, wk_tup h1 r1⟩⟩
  | lst xs =>
    cases h
    obtain ⟨a, vs, rfl, h1, r1⟩ := r
    exact ⟨a, rfl, .inl ⟨⟨vs, SqL.of (st.sub _ _ h1)⟩, wk_list fun W' F' μ' S' H' x st' _ => ⟨vs, SqL.of (st'.sub _ _ (x.w _ _ h1)), r1.m x⟩⟩⟩
  | flst xs =>
    cases h
    obtain ⟨a, vs, rfl, h1, r1⟩ := r
    exact ⟨a, rfl, .inl ⟨⟨vs, st.sqL h1⟩, wk_list fun W' F' μ' S' H' x st' _ => ⟨vs, st'.sqL (sqL_le x.w h1), r1.m x⟩⟩⟩
  | ref i =>
    obtain ⟨a, hr, rfl⟩ := r
    cases c : S[i]? with
    | none => simp only [itemsOf, c] at h; cases h
    | some cc =>
      cases cc with
      | lst ys =>
        simp only [itemsOf, c] at h
        cases h
        obtain ⟨vs, h1, _⟩ := st.lst hr c
        refine ⟨a, rfl, .inl ⟨⟨vs, SqL.of h1⟩, wk_list fun W' F' μ' S' H' x st' ok => ?_⟩⟩
        obtain ⟨vs', h2, h3⟩ := st'.lst (x.m _ _ hr) (show S'[i]? = _ from ok)
        exact ⟨vs', SqL.of h2, h3⟩
      | dk kvs => simp only [itemsOf, c] at h; cases h
  | _ => cases h

/-! ### targets -/
end
def TGR (K : PySem.W.Frag) (sl : List Nat) (f : D → Env → Option Env) : TG := fun v σ H Q => ∃ W F μ ρ S d ρ', Stt K W F μ S H ∧ EnvR K W μ ρ σ ∧ Rep K W μ d v ∧ f d ρ = some ρ' ∧
  ∀ σ', EnvR K W μ ρ' σ' → σ'.length = σ.length → (∀ i, i ∉ sl → σ'[i]? = σ[i]?) → Q σ' H
def TGRs (K : PySem.W.Frag) (sl : List Nat) (f : List D → Env → Option Env) : TGs := fun vs σ H Q => ∃ W F μ ρ S ds ρ', Stt K W F μ S H ∧ EnvR K W μ ρ σ ∧ Reps K W μ ds vs ∧ f ds ρ = some ρ' ∧
  ∀ σ', EnvR K W μ ρ' σ' → σ'.length = σ.length → (∀ i, i ∉ sl → σ'[i]? = σ[i]?) → Q σ' H
theorem _root_.L2.PG.weak {X : Cx} {e : Expr} {t t' : TG} (h : PG X e t) (w : ∀ v σ H Q, t' v σ H Q → t v σ H Q) : PG X e t' := ⟨fun pins s σ H v u Q I r q => h.run pins s σ H v u Q I r (w v σ H Q q)⟩
theorem _root_.L2.PGs.weak {X : Cx} {es : List Expr} {t t' : TGs} (h : PGs X es t) (w : ∀ v σ H Q, t' v σ H Q → t v σ H Q) : PGs X es t' := ⟨fun pins s σ H v u Q I r q => h.run pins s σ H v u Q I r (w v σ H Q q)⟩
theorem _root_.L2.PG.or {X : Cx} {e : Expr} {t t' : TG} (h : PG X e t) (h' : PG X e t') : PG X e (fun v σ H Q => t v σ H Q ∨ t' v σ H Q) := ⟨fun pins s σ H v u Q I r q => by
  rcases q with q | q
  · exact h.run pins s σ H v u Q I r q
  · exact h'.run pins s σ H v u Q I r q⟩
/-- what the text's checker knows of a context -/
structure Sy (Γ : Syn) (X : Cx) : Prop where
  N : X.N = Γ.N
  nd : X.N.Nodup
  sc : X.env.scope = Γ.sc
  fn : X.fn = Γ.fn
  calm : X.calm = true
theorem loc_ok {Γ : Syn} {X : Cx} (y : Sy Γ X) {i : Nat} {x : Str} (h : locB Γ i x = true) : X.N[i]? = some x ∧ L2.Loc X.env.scope x ∧ (X.fn x = true ∨ X.env.scope.names.lookup x = some .local) := by
  obtain ⟨h1, h2⟩ := bk h
  refine ⟨by rw [y.N]; exact dec h1, ?_⟩
  unfold L2.Loc
  rw [y.sc, y.fn]
  split at h2
  · rename_i e; exact ⟨.inl e, .inr e⟩
  · rename_i e; exact ⟨.inr e, .inl h2⟩
  · cases h2
theorem asgE_len : ∀ {ts : MGs} {es : List Expr} {Γ : Syn} {env : PySem.Env}, chkGs ts Γ es = true → (assignEach es env).length = es.length ∧ (assignEach es env).findIdx? (·.1) = none ∧ ∀ (ds : List D) (ρ ρ' : Env), asgGs ts ds ρ = some ρ' → ds.length = es.length
  | .nil, [], _, _, _ => ⟨rfl, rfl, fun ds ρ ρ' h => by
    cases ds with
    | nil => rfl
    | cons _ _ => cases h⟩
  | .nil, _ :: _, _, _, h => by cases h
  | .cons t ts, [], _, _, h => by cases h
  | .cons t ts, e :: es, Γ, env, h => by
    obtain ⟨h1, h2⟩ := bk (show (okX e && (chkG t Γ e && chkGs ts Γ es)) = true from h)
    obtain ⟨_, h3⟩ := bk h2
    obtain ⟨a, b, c⟩ := asgE_len (env := env) h3
    rw [asgEach_ok h1]
    refine ⟨by simp [a], by rw [List.findIdx?_cons, b]; rfl, fun ds ρ ρ' q => ?_⟩
    cases ds with
    | nil => cases q
    | cons d ds =>
      have q : (asgG t d ρ).bind (fun ρ1 => asgGs ts ds ρ1) = some ρ' := q
      cases e1 : asgG t d ρ with
      | none => rw [e1] at q; cases q
      | some ρ1 =>
        rw [e1] at q
        have := c ds ρ1 ρ' q
        simp [this]
theorem asgGs_tup {ts : MGs} {d : D} {ρ ρ' : Env} (h : asgG (.tup ts) d ρ = some ρ') : (∃ xs, d = .tup xs ∧ asgGs ts xs ρ = some ρ') ∨ ∃ xs, d = .lst xs ∧ asgGs ts xs ρ = some ρ' := by
  cases d with
  | tup xs => exact .inl ⟨xs, rfl, h⟩
  | lst xs => exact .inr ⟨xs, rfl, h⟩
  | _ => cases h
mutual
theorem chkG_ok {X : Cx} {Γ : Syn} (y : Sy Γ X) : ∀ (t : MG) (e : Expr), chkG t Γ e = true → PG X e (TGR X.K (slG t) (asgG t))
  | .name i, e, h => by
    cases e with
    | Name x pos =>
      obtain ⟨h1, h2, h3⟩ := loc_ok y (show locB Γ i x = true from h)
      refine (pg_name (i := i) y.nd h1 h2 h3).weak ?_
      rintro v σ H Q ⟨W, F, μ, ρ, S, d, ρ', st, en, r, e, k⟩
      have e : (if i < ρ.length then some (ρ.set i (some d)) else none) = some ρ' := e
      split at e
      · cases e
        exact k _ (en.set r) (by simp) fun j hj => by
          rw [List.getElem?_set_ne]
          intro q
          exact hj (by simp [slG, q])
      · cases e
    | _ => cases h
  | .tup ts, e, h => by
    cases e with
    | Tuple es k pos =>
      have h : chkGs ts Γ es = true := h
      obtain ⟨a, b, c⟩ := asgE_len (env := X.env) h
      have hp := chkGs_ok y ts es h
      refine ((pg_tup (n := es.length) y.calm hp a b).or (pg_unl (n := es.length) y.calm hp a b)).weak ?_
      rintro v σ H Q ⟨W, F, μ, ρ, S, d, ρ', st, en, r, e, k⟩
      rcases asgGs_tup e with ⟨xs, rfl, e⟩ | ⟨xs, rfl, e⟩
      · obtain ⟨p, vs, rfl, h1, r1⟩ := r
        exact .inl ⟨p, vs, rfl, st.sqT h1, by rw [r1.length]; exact c xs ρ ρ' e, W, F, μ, ρ, S, xs, ρ', st, en, r1, e, k⟩
      · obtain ⟨p, vs, rfl, h1, r1⟩ := r
        exact .inr ⟨p, vs, rfl, SqL.of (st.sub _ _ h1), by rw [r1.length]; exact c xs ρ ρ' e, W, F, μ, ρ, S, xs, ρ', st, en, r1, e, k⟩
    | _ => cases h
theorem chkGs_ok {X : Cx} {Γ : Syn} (y : Sy Γ X) : ∀ (ts : MGs) (es : List Expr), chkGs ts Γ es = true → PGs X es (TGRs X.K (slGs ts) (asgGs ts))
  | .nil, [], _ => pgs_nil.weak (by
    rintro vs σ H Q ⟨W, F, μ, ρ, S, ds, ρ', st, en, r, e, k⟩
    cases ds with
    | nil =>
      cases (show vs = [] from r)
      cases e
      exact ⟨rfl, k σ en rfl fun _ _ => rfl⟩
    | cons _ _ => cases e)
  | .nil, _ :: _, h => by cases h
  | .cons t ts, [], h => by cases h
  | .cons t ts, e :: es, h => by
    obtain ⟨h1, h2⟩ := bk (show (okX e && (chkG t Γ e && chkGs ts Γ es)) = true from h)
    obtain ⟨h3, h4⟩ := bk h2
    refine (pgs_cons (chkG_ok y t e h3) (chkGs_ok y ts es h4) (by rw [asgEach_ok h1]; rfl)).weak ?_
    rintro vs σ H Q ⟨W, F, μ, ρ, S, ds, ρ', st, en, r, q, k⟩
    cases ds with
    | nil => cases q
    | cons d ds =>
      have q : (asgG t d ρ).bind (fun ρ1 => asgGs ts ds ρ1) = some ρ' := q
      obtain ⟨v, rr, rfl, r1, r2⟩ := r
      cases e1 : asgG t d ρ with
      | none => rw [e1] at q; cases q
      | some ρ1 =>
        rw [e1] at q
        refine ⟨v, rr, rfl, W, F, μ, ρ, S, d, ρ1, st, en, r1, e1, fun σ1 en1 l1 k1 => ⟨W, F, μ, ρ1, S, ds, ρ', st, en1, r2, q, fun σ2 en2 l2 k2 => ?_⟩⟩
        refine k σ2 en2 (l2.trans l1) fun i hi => ?_
        have hi : i ∉ slG t ++ slGs ts := hi
        simp only [List.mem_append, not_or] at hi
        rw [k2 i hi.2, k1 i hi.1]
end

/-! ### frames -/
section
variable {K : PySem.W.Frag} {W F : Hp} {μ : List Addr} {S : Sto} {H : Hp}
theorem Stt.noF (st : Stt K W F μ S H) {p : Addr} (h : H p = none) : F p = none ∧ W p = none ∧ ∀ (i : Nat) a, μ[i]? = some a → a ≠ p := by
  refine ⟨?_, ?_, fun i a e q => ?_⟩
  · cases c : F p with
    | none => rfl
    | some u => rw [st.frm _ _ c] at h; cases h
  · cases c : W p with
    | none => rfl
    | some u => rw [st.sub _ _ c] at h; cases h
  · obtain ⟨u, c⟩ := st.there e
    rw [q, h] at c; cases c
/-- a new object of ours -/
theorem Stt.frame (st : Stt K W F μ S H) {p : Addr} (o : HO) (h : H p = none) : Stt K W (upd F p o) μ S (upd H p o) := by
  obtain ⟨hF, hW, hμ⟩ := st.noF h
  refine ⟨fun a u e => ?_, fun a u e => ?_, fun a u e => ?_, st.len, st.nd, fun i a e => ?_, fun i a c e hc => ?_⟩
  · rw [upd_ne (ne_of_none e hW)]; exact st.sub _ _ e
  · by_cases q : a = p
    · subst q; rw [upd_same] at e; rw [upd_same]; exact e
    · rw [upd_ne q] at e; rw [upd_ne q]; exact st.frm _ _ e
  · by_cases q : a = p
    · subst q; exact hW
    · rw [upd_ne q] at e; exact st.dis _ _ e
  · rw [upd_ne (hμ i a e)]; exact st.apart i a e
  · exact (st.cel i a c e hc).mono Ext.refl (upd_ne (hμ i a e))
/-- it changes -/
theorem Stt.reframe {o o' : HO} {p : Addr} (st : Stt K W (upd F p o) μ S H) : Stt K W (upd F p o') μ S (upd H p o') := by
  have hW : W p = none := st.dis p o upd_same
  have hμ : ∀ (i : Nat) a, μ[i]? = some a → a ≠ p := fun i a e q => by
    have := (st.apart i a e).2
    rw [q, upd_same] at this; cases this
  refine ⟨fun a u e => ?_, fun a u e => ?_, fun a u e => ?_, st.len, st.nd, fun i a e => ?_, fun i a c e hc => ?_⟩
  · rw [upd_ne (ne_of_none e hW)]; exact st.sub _ _ e
  · by_cases q : a = p
    · subst q; rw [upd_same] at e; rw [upd_same]; exact e
    · rw [upd_ne q] at e; rw [upd_ne q]; exact st.frm _ _ (by rw [upd_ne q]; exact e)
  · by_cases q : a = p
    · subst q; exact hW
    · rw [upd_ne q] at e; exact st.dis _ _ (by rw [upd_ne q]; exact e)
  · have := st.apart i a e
    rw [upd_ne (hμ i a e)] at this
    rw [upd_ne (hμ i a e)]; exact this
  · exact (st.cel i a c e hc).mono Ext.refl (upd_ne (hμ i a e))
theorem Stt.inF {o : HO} {p : Addr} (st : Stt K W (upd F p o) μ S H) : H p = some o := st.frm _ _ upd_same
/-- it becomes a thing that never changes -/
theorem Stt.toImm {o : HO} {p : Addr} (st : Stt K W (upd F p o) μ S H) (hF : F p = none) : Stt K (upd W p o) F μ S H ∧ Ext W μ (upd W p o) μ := by
  have hW : W p = none := st.dis p o upd_same
  have hμ : ∀ (i : Nat) a, μ[i]? = some a → a ≠ p := fun i a e q => by
    have := (st.apart i a e).2
    rw [q, upd_same] at this; cases this
  have x : Ext W μ (upd W p o) μ := ⟨fun a u h => by rw [upd_ne (ne_of_none h hW)]; exact h, fun _ _ h => h⟩
  refine ⟨⟨fun a u e => ?_, fun a u e => ?_, fun a u e => ?_, st.len, st.nd, fun i a e => ?_, fun i a c e hc => ?_⟩, x⟩
  · by_cases q : a = p
    · subst q; rw [upd_same] at e; cases e; exact st.inF
    · rw [upd_ne q] at e; exact st.sub _ _ e
  · exact st.frm _ _ (by rw [upd_ne (ne_of_none e hF)]; exact e)
  · have q := ne_of_none e hF
    rw [upd_ne q]
    exact st.dis _ _ (by rw [upd_ne q]; exact e)
  · have h := st.apart i a e
    rw [upd_ne (hμ i a e)] at h ⊢
    exact h
  · exact (st.cel i a c e hc).mono x rfl
/-- it becomes a cell -/
theorem Stt.toCell {o : HO} {p : Addr} {c : Cell} (st : Stt K W (upd F p o) μ S H) (hF : F p = none) (hc : CellAt K W (μ ++ [p]) H p c) : Stt K W F (μ ++ [p]) (S ++ [c]) H ∧ Ext W μ W (μ ++ [p]) := by
  have hW : W p = none := st.dis p o upd_same
  have hμ : ∀ (i : Nat) a, μ[i]? = some a → a ≠ p := fun i a e q => by
    have := (st.apart i a e).2
    rw [q, upd_same] at this; cases this
  have x : Ext W μ W (μ ++ [p]) := ⟨fun _ _ h => h, fun r a h => by rw [List.getElem?_append_left (List.getElem?_eq_some_iff.mp h).1]; exact h⟩
  refine ⟨⟨st.sub, fun a u e => st.frm _ _ (by rw [upd_ne (ne_of_none e hF)]; exact e), fun a u e => st.dis _ _ (by rw [upd_ne (ne_of_none e hF)]; exact e), by simp [st.len], fun i j a h1 h2 => ?_, fun i a h => ?_, fun i a c' h hc' => ?_⟩, x⟩
  · rcases get_snoc h1 with h1 | ⟨e1, h1⟩ <;> rcases get_snoc h2 with h2 | ⟨e2, h2⟩
    · exact st.nd i j a h1 h2
    · exact absurd h2.symm (hμ i a h1)
    · exact absurd h1.symm (hμ j a h2)
    · omega
  · rcases get_snoc h with h | ⟨_, h⟩
    · have q := st.apart i a h
      rw [upd_ne (hμ i a h)] at q
      exact q
    · rw [← h]; exact ⟨hW, hF⟩
  · rcases get_snoc h with h | ⟨e, h⟩
    · have hl : i < S.length := by rw [← st.len]; exact (List.getElem?_eq_some_iff.mp h).1
      rw [List.getElem?_append_left hl] at hc'
      exact (st.cel i a c' h hc').mono x rfl
    · subst h
      rw [e, st.len, List.getElem?_append_right (Nat.le_refl _)] at hc'
      simp at hc'
      subst hc'
      exact hc
end
end Rw

/-! M8: comprehensions, for, while -/
namespace Rw
open PySem PySem.Spec PyProof.Rows L2

section
variable {K : PySem.W.Frag} {W F : Hp} {μ : List Addr}
theorem EnvR.setN {ρ : Env} {σ : L2.St} (h : EnvR K W μ ρ σ) (i : Nat) : EnvR K W μ (ρ.set i none) (σ.set i none) := by
  refine ⟨by simp [h.1], fun j e q => ?_⟩
  by_cases hj : i = j
  · subst hj
    have hl : i < ρ.length := by
      have := (List.getElem?_eq_some_iff.mp q).1
      simpa using this
    rw [List.getElem?_set_self hl] at q
    cases q
  · rw [List.getElem?_set_ne hj] at q
    obtain ⟨u, h1, h2⟩ := h.2 j e q
    exact ⟨u, by rw [List.getElem?_set_ne hj]; exact h1, h2⟩
theorem EnvR.wipe {ρ : Env} {σ : L2.St} (h : EnvR K W μ ρ σ) : ∀ vs : List Nat, EnvR K W μ (wipeE ρ vs) (L2.wipe σ vs)
  | [] => h
  | v :: vs => (h.wipe vs).setN v
theorem wipe_get (τ : L2.St) (i : Nat) : ∀ vs : List Nat, (L2.wipe τ vs)[i]? = if i ∈ vs ∧ i < τ.length then some none else τ[i]?
  | [] => by simp [L2.wipe]
  | v :: vs => by
    show ((L2.wipe τ vs).set v none)[i]? = _
    by_cases e : v = i
    · subst e
      by_cases hl : v < τ.length
      · rw [List.getElem?_set_self (by rw [L2.wipe_length]; exact hl), if_pos ⟨List.mem_cons_self, hl⟩]
      · rw [if_neg fun q => hl q.2, List.getElem?_eq_none (by simp [L2.wipe_length]; omega), List.getElem?_eq_none (by omega)]
    · rw [List.getElem?_set_ne e, wipe_get τ i vs]
      have : (i ∈ v :: vs) ↔ i ∈ vs := by simp [List.mem_cons, Ne.symm e]
      simp only [this]
theorem wipe_eq {σ τ : L2.St} {sl vs : List Nat} (hl : τ.length = (L2.wipe σ vs).length) (h : ∀ i, i ∉ sl → τ[i]? = (L2.wipe σ vs)[i]?) (hs : ∀ i ∈ sl, i ∈ vs) : L2.wipe τ vs = L2.wipe σ vs := by
  have hl2 : τ.length = σ.length := by rw [hl, L2.wipe_length]
  refine List.ext_getElem? fun i => ?_
  rw [wipe_get, wipe_get, hl2]
  by_cases c : i ∈ vs ∧ i < σ.length
  · rw [if_pos c, if_pos c]
  · rw [if_neg c, if_neg c]
    by_cases q : i ∈ vs
    · have : ¬ i < σ.length := fun z => c ⟨q, z⟩
      rw [List.getElem?_eq_none (by omega), List.getElem?_eq_none (by omega)]
    · rw [h i fun z => q (hs i z), wipe_get, if_neg c]
theorem drop_at {α : Type} {xs : List α} {i : Nat} {x : α} (h : xs[i]? = some x) : xs.drop i = x :: xs.drop (i + 1) := by
  obtain ⟨hl, e⟩ := List.getElem?_eq_some_iff.mp h
  rw [List.drop_eq_getElem_cons hl, e]

/-! ### comprehensions -/
def turnE (f : D → Env → Option Env) (c : Env → Sto → Rs Bool) (e : Env → Sto → Rs D) (ρ : Env) : D → Sto → Rs (Option D) :=
  fun x S2 => lft (f x ρ) fun ρ1 => bnd (c ρ1 S2) fun t S3 => if t = true then bnd (e ρ1 S3) fun y S4 => some (some y, S4) else some (none, S3)
theorem comp_reads {S S' : Sto} {H1 : Hp} {σ : L2.St} {ρ : Env} {J : It} {xs acc : List D} {o : Option Nat} {f : D → Env → Option Env} {c : Env → Sto → Rs Bool} {e : Env → Sto → Rs D} {vs sl : List Nat} {Q : VK} {mu : Bool}
    (st : Stt K W F μ S H1) (en : EnvR K W μ ρ σ) (wk : WkOk K W μ xs o J) (hl : xs.length ≤ sizeLine) (hs : ∀ i ∈ sl, i ∈ vs)
    (h : compL o xs (turnE f c e (wipeE ρ vs)) xs S [] = some (acc, S'))
    (p : Post K W F μ (if mu = true then S' ++ [.lst acc] else S') (if mu = true then .ref S'.length else .lst acc) Q) :
    ∀ D, H1 D = none → ∃ Wv : Nat → Nat → Hp → Prop, (∃ m, Wv 0 m (upd H1 D (.lst []))) ∧ ∀ i m H, Wv i m H →
      (J.stop i H ∧ Q (.ref D) H) ∨ (J.go i H ∧ ∃ Nx : Hp → Prop, (∀ H', Nx H' → ∃ m', m' < m ∧ Wv (i + 1) m' H') ∧ ∀ x H', J.yld i H x H' → TGR K sl f x (L2.wipe σ vs) H' fun σ2 H2 => L2.wipe σ2 vs = L2.wipe σ vs ∧ TTR K c σ2 H2 fun b H3 =>
        if b = true then TR K e σ2 H3 fun y H4 => ∃ acc, H4 D = some (.lst acc) ∧ acc.length < sizeLine ∧ Nx (upd H4 D (.lst (acc ++ [y]))) else Nx H3) := by
  intro p0 hp0
  have hF := (st.noF hp0).1
  refine ⟨fun i m H => ∃ W' μ' Si ac av, m = xs.length - i ∧ i ≤ xs.length ∧ Ext W μ W' μ' ∧ Stt K W' (upd F p0 (.lst av)) μ' Si H ∧ Reps K W' μ' ac av ∧ ac.length ≤ i ∧ compL o xs (turnE f c e (wipeE ρ vs)) (xs.drop i) Si ac = some (acc, S'),
    ⟨xs.length, W, μ, S, [], [], by simp, Nat.zero_le _, Ext.refl, st.frame _ hp0, rfl, Nat.le_refl _, by simpa using h⟩, ?_⟩
  rintro i m H ⟨W', μ', Si, ac, av, rfl, hi, x, sti, ra, la, hc⟩
  by_cases hlt : i < xs.length
  · obtain ⟨d0, hd0⟩ : ∃ d, xs[i]? = some d := ⟨xs[i], by simp [hlt]⟩
    rw [drop_at hd0] at hc
    unfold compL at hc
    split at hc
    · rename_i ok
      obtain ⟨go, yl⟩ := (wk i W' _ μ' Si H x sti ok).1 hlt
      obtain ⟨r, S1, e1, e2⟩ := bnd_inv hc
      obtain ⟨ρ1, e3, e4⟩ := lft_inv e1
      obtain ⟨t, S3, e5, e6⟩ := bnd_inv e4
      refine .inr ⟨go, fun H' => ∃ W' μ' Si ac av, i + 1 ≤ xs.length ∧ Ext W μ W' μ' ∧ Stt K W' (upd F p0 (.lst av)) μ' Si H' ∧ Reps K W' μ' ac av ∧ ac.length ≤ i + 1 ∧ compL o xs (turnE f c e (wipeE ρ vs)) (xs.drop (i + 1)) Si ac = some (acc, S'),
        fun H' ⟨W2, μ2, S2, a2, v2, q1, q2, q3, q4, q5, q6⟩ => ⟨xs.length - (i + 1), by omega, W2, μ2, S2, a2, v2, rfl, q1, q2, q3, q4, q5, q6⟩, fun y H'' hy => ?_⟩
      obtain ⟨rfl, d, hd, rd⟩ := yl y H'' hy
      rw [hd0] at hd; cases hd
      refine ⟨W', upd F p0 (.lst av), μ', wipeE ρ vs, Si, d0, ρ1, sti, (en.mono x).wipe vs, rd, e3, fun σ2 en2 l2 k2 => ⟨wipe_eq l2 k2 hs, ?_⟩⟩
      refine ⟨W', upd F p0 (.lst av), μ', ρ1, Si, t, S3, sti, en2, e5, fun H3 W3 μ3 x3 st3 => ?_⟩
      cases t with
      | false =>
        rw [if_neg Bool.false_ne_true]
        rw [if_neg Bool.false_ne_true] at e6
        cases e6
        exact ⟨W3, μ3, _, ac, av, hlt, x.trans x3, st3, ra.m x3, by omega, e2⟩
      | true =>
        rw [if_pos rfl]
        rw [if_pos rfl] at e6
        obtain ⟨y', S4, e7, e8⟩ := bnd_inv e6
        cases e8
        refine ⟨W3, upd F p0 (.lst av), μ3, ρ1, S3, y', _, st3, en2.mono x3, e7, fun v H4 W4 μ4 x4 st4 r4 => ⟨av, st4.inF, by have := ra.length; omega, W4, μ4, _, ac ++ [y'], av ++ [v], hlt, (x.trans x3).trans x4, st4.reframe, (ra.m (x3.trans x4)).app (Reps.one r4), by simp; omega, e2⟩⟩
    · cases hc
  · have : i = xs.length := by omega
    subst this
    rw [List.drop_length] at hc
    unfold compL at hc
    split at hc
    · rename_i ok
      cases hc
      refine .inl ⟨(wk _ W' _ μ' _ H x sti ok).2 (Nat.le_refl _), ?_⟩
      cases mu with
      | false =>
        obtain ⟨st2, x2⟩ := sti.toImm hF
        exact p _ _ _ _ (x.trans x2) st2 ⟨p0, av, rfl, upd_same, ra.m x2⟩
      | true =>
        have x2 : Ext W' μ' W' (μ' ++ [p0]) := ⟨fun _ _ h => h, fun r a h => by rw [List.getElem?_append_left (List.getElem?_eq_some_iff.mp h).1]; exact h⟩
        obtain ⟨st2, _⟩ := sti.toCell (c := .lst acc) hF ⟨av, sti.inF, ra.m x2⟩
        exact p _ _ _ _ (x.trans x2) st2 ⟨p0, by rw [← sti.len]; simp, rfl⟩
    · cases hc

/-- the inner loop -/
theorem comp_in {S S' : Sto} {H1 : Hp} {σ : L2.St} {ρ : Env} {J : It} {xs ac acc : List D} {o : Option Nat} {f : D → Env → Option Env} {c : Env → Sto → Rs Bool} {e : Env → Sto → Rs D} {vs sl : List Nat} {p0 : Addr} {av : List V} {Nx : Hp → Prop}
    (st : Stt K W (upd F p0 (.lst av)) μ S H1) (en : EnvR K W μ ρ σ) (ra : Reps K W μ ac av) (wk : WkOk K W μ xs o J) (hl : ac.length + xs.length ≤ sizeLine) (hs : ∀ i ∈ sl, i ∈ vs)
    (h : compL o xs (turnE f c e (wipeE ρ vs)) xs S ac = some (acc, S'))
    (p : ∀ H' W' μ' av', Ext W μ W' μ' → Stt K W' (upd F p0 (.lst av')) μ' S' H' → Reps K W' μ' acc av' → Nx H') :
    ∃ Wv : Nat → Nat → Hp → Prop, (∃ m, Wv 0 m H1) ∧ ∀ i m H, Wv i m H →
      (J.stop i H ∧ Nx H) ∨ (J.go i H ∧ ∃ Nx1 : Hp → Prop, (∀ H', Nx1 H' → ∃ m', m' < m ∧ Wv (i + 1) m' H') ∧ ∀ x H', J.yld i H x H' → TGR K sl f x (L2.wipe σ vs) H' fun σ2 H2 => L2.wipe σ2 vs = L2.wipe σ vs ∧ TTR K c σ2 H2 fun b H3 =>
        if b = true then TR K e σ2 H3 fun y H4 => ∃ acc, H4 p0 = some (.lst acc) ∧ acc.length < sizeLine ∧ Nx1 (upd H4 p0 (.lst (acc ++ [y]))) else Nx1 H3) := by
  refine ⟨fun i m H => ∃ W' μ' Si a2 av, m = xs.length - i ∧ i ≤ xs.length ∧ Ext W μ W' μ' ∧ Stt K W' (upd F p0 (.lst av)) μ' Si H ∧ Reps K W' μ' a2 av ∧ a2.length ≤ ac.length + i ∧ compL o xs (turnE f c e (wipeE ρ vs)) (xs.drop i) Si a2 = some (acc, S'),
    ⟨xs.length, W, μ, S, ac, av, by simp, Nat.zero_le _, Ext.refl, st, ra, Nat.le_refl _, by simpa using h⟩, ?_⟩
  rintro i m H ⟨W', μ', Si, a2, av, rfl, hi, x, sti, ra, la, hc⟩
  by_cases hlt : i < xs.length
  · obtain ⟨d0, hd0⟩ : ∃ d, xs[i]? = some d := ⟨xs[i], by simp [hlt]⟩
    rw [drop_at hd0] at hc
    unfold compL at hc
    split at hc
    · rename_i ok
      obtain ⟨go, yl⟩ := (wk i W' _ μ' Si H x sti ok).1 hlt
      obtain ⟨r, S1, e1, e2⟩ := bnd_inv hc
      obtain ⟨ρ1, e3, e4⟩ := lft_inv e1
      obtain ⟨t, S3, e5, e6⟩ := bnd_inv e4
      refine .inr ⟨go, fun H' => ∃ W' μ' Si a2 av, i + 1 ≤ xs.length ∧ Ext W μ W' μ' ∧ Stt K W' (upd F p0 (.lst av)) μ' Si H' ∧ Reps K W' μ' a2 av ∧ a2.length ≤ ac.length + (i + 1) ∧ compL o xs (turnE f c e (wipeE ρ vs)) (xs.drop (i + 1)) Si a2 = some (acc, S'),
        fun H' ⟨W2, μ2, S2, a2, v2, q1, q2, q3, q4, q5, q6⟩ => ⟨xs.length - (i + 1), by omega, W2, μ2, S2, a2, v2, rfl, q1, q2, q3, q4, q5, q6⟩, fun y H'' hy => ?_⟩
      obtain ⟨rfl, d, hd, rd⟩ := yl y H'' hy
      rw [hd0] at hd; cases hd
      refine ⟨W', upd F p0 (.lst av), μ', wipeE ρ vs, Si, d0, ρ1, sti, (en.mono x).wipe vs, rd, e3, fun σ2 en2 l2 k2 => ⟨wipe_eq l2 k2 hs, ?_⟩⟩
      refine ⟨W', upd F p0 (.lst av), μ', ρ1, Si, t, S3, sti, en2, e5, fun H3 W3 μ3 x3 st3 => ?_⟩
      cases t with
      | false =>
        rw [if_neg Bool.false_ne_true]
        rw [if_neg Bool.false_ne_true] at e6
        cases e6
        exact ⟨W3, μ3, _, a2, av, hlt, x.trans x3, st3, ra.m x3, by omega, e2⟩
      | true =>
        rw [if_pos rfl]
        rw [if_pos rfl] at e6
        obtain ⟨y', S4, e7, e8⟩ := bnd_inv e6
        cases e8
        refine ⟨W3, upd F p0 (.lst av), μ3, ρ1, S3, y', _, st3, en2.mono x3, e7, fun v H4 W4 μ4 x4 st4 r4 => ⟨av, st4.inF, by have := ra.length; omega, W4, μ4, _, a2 ++ [y'], av ++ [v], hlt, (x.trans x3).trans x4, st4.reframe, (ra.m (x3.trans x4)).app (Reps.one r4), by simp; omega, e2⟩⟩
    · cases hc
  · have : i = xs.length := by omega
    subst this
    rw [List.drop_length] at hc
    unfold compL at hc
    split at hc
    · rename_i ok
      cases hc
      exact .inl ⟨(wk _ W' _ μ' _ H x sti ok).2 (Nat.le_refl _), p _ _ _ _ x sti ra⟩
    · cases hc
noncomputable def turn2 (f : D → Env → Option Env) (c : Env → Sto → Rs Bool) (it : Env → Sto → Rs (List D × Option Nat)) (f1 : D → Env → Option Env) (c1 : Env → Sto → Rs Bool) (e : Env → Sto → Rs D) (vs1 : List Nat) (ρ : Env) : D → Sto → List D → Rs (List D) :=
  fun x S2 acc => lft (f x ρ) fun ρ1 => bnd (c ρ1 S2) fun t S3 => if t = true then
      bnd (it ρ1 S3) fun w1 S4 => if acc.length + w1.1.length ≤ sizeLine then compL w1.2 w1.1 (turnE f1 c1 e (wipeE ρ1 vs1)) w1.1 S4 acc else none
      else some (acc, S3)
theorem comp2_reads {S S' : Sto} {H1 : Hp} {σ : L2.St} {ρ : Env} {J : It} {xs acc : List D} {o : Option Nat} {f f1 : D → Env → Option Env} {c c1 : Env → Sto → Rs Bool} {it : Env → Sto → Rs (List D × Option Nat)} {e : Env → Sto → Rs D} {vs sl vs1 sl1 : List Nat} {Q : VK} {mu : Bool}
    (st : Stt K W F μ S H1) (en : EnvR K W μ ρ σ) (wk : WkOk K W μ xs o J) (hs : ∀ i ∈ sl, i ∈ vs) (hs1 : ∀ i ∈ sl1, i ∈ vs1)
    (h : compA o xs (turn2 f c it f1 c1 e vs1 (wipeE ρ vs)) xs S [] = some (acc, S'))
    (p : Post K W F μ (if mu = true then S' ++ [.lst acc] else S') (if mu = true then .ref S'.length else .lst acc) Q) :
    ∀ D, H1 D = none → ∃ Wv : Nat → Nat → Hp → Prop, (∃ m, Wv 0 m (upd H1 D (.lst []))) ∧ ∀ i m H, Wv i m H →
      (J.stop i H ∧ Q (.ref D) H) ∨ (J.go i H ∧ ∃ Nx : Hp → Prop, (∀ H', Nx H' → ∃ m', m' < m ∧ Wv (i + 1) m' H') ∧ ∀ x H', J.yld i H x H' → TGR K sl f x (L2.wipe σ vs) H' fun σ2 H2 => L2.wipe σ2 vs = L2.wipe σ vs ∧ TTR K c σ2 H2 fun b H3 =>
        if b = true then TIR K it σ2 H3 fun J1 H4 => ∃ W1 : Nat → Nat → Hp → Prop, (∃ m, W1 0 m H4) ∧ ∀ j k H, W1 j k H →
          (J1.stop j H ∧ Nx H) ∨ (J1.go j H ∧ ∃ Nx1 : Hp → Prop, (∀ H', Nx1 H' → ∃ k', k' < k ∧ W1 (j + 1) k' H') ∧ ∀ x H', J1.yld j H x H' → TGR K sl1 f1 x (L2.wipe σ2 vs1) H' fun σ3 H5 => L2.wipe σ3 vs1 = L2.wipe σ2 vs1 ∧ TTR K c1 σ3 H5 fun b H6 =>
            if b = true then TR K e σ3 H6 fun y H7 => ∃ acc, H7 D = some (.lst acc) ∧ acc.length < sizeLine ∧ Nx1 (upd H7 D (.lst (acc ++ [y]))) else Nx1 H6)
        else Nx H3) := by
  intro p0 hp0
  have hF := (st.noF hp0).1
  refine ⟨fun i m H => ∃ W' μ' Si ac av, m = xs.length - i ∧ i ≤ xs.length ∧ Ext W μ W' μ' ∧ Stt K W' (upd F p0 (.lst av)) μ' Si H ∧ Reps K W' μ' ac av ∧ compA o xs (turn2 f c it f1 c1 e vs1 (wipeE ρ vs)) (xs.drop i) Si ac = some (acc, S'),
    ⟨xs.length, W, μ, S, [], [], by simp, Nat.zero_le _, Ext.refl, st.frame _ hp0, rfl, by simpa using h⟩, ?_⟩
  rintro i m H ⟨W', μ', Si, ac, av, rfl, hi, x, sti, ra, hc⟩
  by_cases hlt : i < xs.length
  · obtain ⟨d0, hd0⟩ : ∃ d, xs[i]? = some d := ⟨xs[i], by simp [hlt]⟩
    rw [drop_at hd0] at hc
    unfold compA at hc
    split at hc
    · rename_i ok
      obtain ⟨go, yl⟩ := (wk i W' _ μ' Si H x sti ok).1 hlt
      obtain ⟨r, S1, e1, e2⟩ := bnd_inv hc
      obtain ⟨ρ1, e3, e4⟩ := lft_inv e1
      obtain ⟨t, S3, e5, e6⟩ := bnd_inv e4
      refine .inr ⟨go, fun H' => ∃ W' μ' Si ac av, i + 1 ≤ xs.length ∧ Ext W μ W' μ' ∧ Stt K W' (upd F p0 (.lst av)) μ' Si H' ∧ Reps K W' μ' ac av ∧ compA o xs (turn2 f c it f1 c1 e vs1 (wipeE ρ vs)) (xs.drop (i + 1)) Si ac = some (acc, S'),
        fun H' ⟨W2, μ2, S2, a2, v2, q1, q2, q3, q4, q6⟩ => ⟨xs.length - (i + 1), by omega, W2, μ2, S2, a2, v2, rfl, q1, q2, q3, q4, q6⟩, fun y H'' hy => ?_⟩
      obtain ⟨rfl, d, hd, rd⟩ := yl y H'' hy
      rw [hd0] at hd; cases hd
      refine ⟨W', upd F p0 (.lst av), μ', wipeE ρ vs, Si, d0, ρ1, sti, (en.mono x).wipe vs, rd, e3, fun σ2 en2 l2 k2 => ⟨wipe_eq l2 k2 hs, ?_⟩⟩
      refine ⟨W', upd F p0 (.lst av), μ', ρ1, Si, t, S3, sti, en2, e5, fun H3 W3 μ3 x3 st3 => ?_⟩
      cases t with
      | false =>
        rw [if_neg Bool.false_ne_true]
        rw [if_neg Bool.false_ne_true] at e6
        cases e6
        exact ⟨W3, μ3, _, ac, av, hlt, x.trans x3, st3, ra.m x3, e2⟩
      | true =>
        rw [if_pos rfl]
        rw [if_pos rfl] at e6
        obtain ⟨w1, S4, e7, e8⟩ := bnd_inv e6
        split at e8
        · rename_i hl
          refine ⟨W3, upd F p0 (.lst av), μ3, ρ1, S3, w1, S4, st3, en2.mono x3, e7, fun J1 H4 W4 μ4 x4 st4 wk4 => ?_⟩
          exact comp_in st4 (en2.mono (x3.trans x4)) (ra.m (x3.trans x4)) wk4 hl hs1 e8 fun H5 W5 μ5 av5 x5 st5 ra5 => ⟨W5, μ5, _, r, av5, hlt, ((x.trans x3).trans x4).trans x5, st5, ra5, e2⟩
        · cases e8
    · cases hc
  · have : i = xs.length := by omega
    subst this
    rw [List.drop_length] at hc
    unfold compA at hc
    split at hc
    · rename_i ok
      cases hc
      refine .inl ⟨(wk _ W' _ μ' _ H x sti ok).2 (Nat.le_refl _), ?_⟩
      cases mu with
      | false =>
        obtain ⟨st2, x2⟩ := sti.toImm hF
        exact p _ _ _ _ (x.trans x2) st2 ⟨p0, av, rfl, upd_same, ra.m x2⟩
      | true =>
        have x2 : Ext W' μ' W' (μ' ++ [p0]) := ⟨fun _ _ h => h, fun r a h => by rw [List.getElem?_append_left (List.getElem?_eq_some_iff.mp h).1]; exact h⟩
        obtain ⟨st2, _⟩ := sti.toCell (c := .lst acc) hF ⟨av, sti.inF, ra.m x2⟩
        exact p _ _ _ _ (x.trans x2) st2 ⟨p0, by rw [← sti.len]; simp, rfl⟩
    · cases hc

/-! ### for -/
theorem for_reads {S S' : Sto} {H1 : Hp} {σ : L2.St} {ρ : Env} {J : It} {xs : List D} {o : Option Nat} {f : D → Env → Option Env} {b : Env → Sto → Rs Fl} {sl : List Nat} {fl : Fl} {D : Ends}
    (st : Stt K W F μ S H1) (en : EnvR K W μ ρ σ) (wk : WkOk K W μ xs o J)
    (h : forL o xs (fun x ρ1 S2 => lft (f x ρ1) fun ρ2 => b ρ2 S2) xs ρ S = some (fl, S')) (p : PostS K W F μ S' fl D) :
    ∃ Wv : Nat → Nat → L2.St → Hp → Prop, (∃ m, Wv 0 m σ H1) ∧ ∀ i m σ H, Wv i m σ H →
      (J.stop i H ∧ D.nx σ H) ∨ (J.go i H ∧ ∃ N : L2.St → Hp → Prop, (∀ σ' H', N σ' H' → ∃ m', m' < m ∧ Wv (i + 1) m' σ' H') ∧ ∀ x H', J.yld i H x H' → TGR K sl f x σ H' fun σ2 H2 => TSR K b { D with nx := N, ct := N, bk := D.nx } σ2 H2) := by
  refine ⟨fun i m σ H => ∃ W' μ' ρi Si, m = xs.length - i ∧ i ≤ xs.length ∧ Ext W μ W' μ' ∧ Stt K W' F μ' Si H ∧ EnvR K W' μ' ρi σ ∧ forL o xs (fun x ρ1 S2 => lft (f x ρ1) fun ρ2 => b ρ2 S2) (xs.drop i) ρi Si = some (fl, S'),
    ⟨xs.length, W, μ, ρ, S, by simp, Nat.zero_le _, Ext.refl, st, en, by simpa using h⟩, ?_⟩
  rintro i m σ H ⟨W', μ', ρi, Si, rfl, hi, x, sti, eni, hc⟩
  by_cases hlt : i < xs.length
  · obtain ⟨d0, hd0⟩ : ∃ d, xs[i]? = some d := ⟨xs[i], by simp [hlt]⟩
    rw [drop_at hd0] at hc
    unfold forL at hc
    split at hc
    · rename_i ok
      obtain ⟨go, yl⟩ := (wk i W' _ μ' Si H x sti ok).1 hlt
      obtain ⟨fl1, S1, e1, e2⟩ := bnd_inv hc
      obtain ⟨ρ2, e3, e4⟩ := lft_inv e1
      refine .inr ⟨go, fun σ' H' => ∃ W' μ' ρi Si, i + 1 ≤ xs.length ∧ Ext W μ W' μ' ∧ Stt K W' F μ' Si H' ∧ EnvR K W' μ' ρi σ' ∧ forL o xs (fun x ρ1 S2 => lft (f x ρ1) fun ρ2 => b ρ2 S2) (xs.drop (i + 1)) ρi Si = some (fl, S'),
        fun σ' H' ⟨W2, μ2, r2, S2, q1, q2, q3, q4, q5⟩ => ⟨xs.length - (i + 1), by omega, W2, μ2, r2, S2, rfl, q1, q2, q3, q4, q5⟩, fun y H'' hy => ?_⟩
      obtain ⟨rfl, d, hd, rd⟩ := yl y H'' hy
      rw [hd0] at hd; cases hd
      refine ⟨W', F, μ', ρi, Si, d0, ρ2, sti, eni, rd, e3, fun σ2 en2 _ _ => ⟨W', F, μ', ρ2, Si, fl1, S1, sti, en2, e4, ?_⟩⟩
      cases fl1 with
      | nx ρ3 => exact fun σ3 H3 W3 μ3 x3 st3 en3 => ⟨W3, μ3, ρ3, S1, hlt, x.trans x3, st3, en3, e2⟩
      | bk ρ3 =>
        cases e2
        exact fun σ3 H3 W3 μ3 x3 st3 en3 => p σ3 H3 W3 μ3 (x.trans x3) st3 en3
      | rt d =>
        cases e2
        exact fun v H3 W3 μ3 x3 st3 r3 => p v H3 W3 μ3 (x.trans x3) st3 r3
    · cases hc
  · have : i = xs.length := by omega
    subst this
    rw [List.drop_length] at hc
    unfold forL at hc
    split at hc
    · rename_i ok
      cases hc
      exact .inl ⟨(wk _ W' _ μ' _ H x sti ok).2 (Nat.le_refl _), p σ H W' μ' x sti eni⟩
    · cases hc

/-! ### while -/
theorem whE_inv {c : Env → Sto → Rs Bool} {b : Env → Sto → Rs Fl} {ρ : Env} {S : Sto} {r : Fl × Sto} (h : whE c b ρ S = some r) : ∃ n, whF c b n ρ S = some r := by
  unfold whE at h
  split at h
  · exact ⟨_, h⟩
  · cases h
theorem while_reads {S S' : Sto} {H : Hp} {σ : L2.St} {ρ : Env} {c : Env → Sto → Rs Bool} {b : Env → Sto → Rs Fl} {fl : Fl} {D : Ends}
    (st : Stt K W F μ S H) (en : EnvR K W μ ρ σ) (h : whE c b ρ S = some (fl, S')) (p : PostS K W F μ S' fl D) : tWhile (TTR K c) (TSR K b) D σ H := by
  obtain ⟨n, h⟩ := whE_inv h
  refine ⟨fun m σ H => ∃ W' μ' ρi Si, Ext W μ W' μ' ∧ Stt K W' F μ' Si H ∧ EnvR K W' μ' ρi σ ∧ whF c b m ρi Si = some (fl, S'), ⟨n, W, μ, ρ, S, Ext.refl, st, en, h⟩, ?_⟩
  rintro m σ H ⟨W', μ', ρi, Si, x, sti, eni, hc⟩
  cases m with
  | zero => cases hc
  | succ m =>
    obtain ⟨t, S1, e1, e2⟩ := bnd_inv (show bnd (c ρi Si) _ = _ from hc)
    refine ⟨W', F, μ', ρi, Si, t, S1, sti, eni, e1, fun H1 W1 μ1 x1 st1 => ?_⟩
    cases t with
    | false =>
      rw [if_neg Bool.false_ne_true] at e2 ⊢
      cases e2
      exact p σ H1 W1 μ1 (x.trans x1) st1 (eni.mono x1)
    | true =>
      rw [if_pos rfl] at e2 ⊢
      obtain ⟨fl1, S2, e3, e4⟩ := bnd_inv e2
      refine ⟨fun σ' H' => ∃ W' μ' ρi Si, Ext W μ W' μ' ∧ Stt K W' F μ' Si H' ∧ EnvR K W' μ' ρi σ' ∧ whF c b m ρi Si = some (fl, S'), fun σ' H' q => ⟨m, Nat.lt_succ_self _, q⟩, ?_⟩
      refine ⟨W1, F, μ1, ρi, S1, fl1, S2, st1, eni.mono x1, e3, ?_⟩
      cases fl1 with
      | nx ρ3 => exact fun σ3 H3 W3 μ3 x3 st3 en3 => ⟨W3, μ3, ρ3, S2, (x.trans x1).trans x3, st3, en3, e4⟩
      | bk ρ3 =>
        cases e4
        exact fun σ3 H3 W3 μ3 x3 st3 en3 => p σ3 H3 W3 μ3 ((x.trans x1).trans x3) st3 en3
      | rt d =>
        cases e4
        exact fun v H3 W3 μ3 x3 st3 r3 => p v H3 W3 μ3 ((x.trans x1).trans x3) st3 r3
end
end Rw

/-! M9: the text does what is said -/
namespace Rw
open PySem PySem.Spec PyProof.Rows L2

/-- a def's promise: what the call cl gives -/
def spOf (K : PySem.W.Frag) (n : Nat) (cl : List D → Sto → Rs D) : Sp := fun vs H Q _ => vs.length = n ∧ ∃ W F μ S ds d S', Stt K W F μ S H ∧ Reps K W μ ds vs ∧ cl ds S = some (d, S') ∧ Post K W F μ S' d Q
structure GF (P : Program) (w : World) (K : PySem.W.Frag) (mg : Str → Option Value) (base : Heap) (G : GT) (k : Nat) (cl : Nat → List D → Sto → Rs D) : Prop where
  fn : ∀ g x f, G[g]? = some (x, .fn f) → ∃ a fd ps, mg x = some (.ref a) ∧ PySem.W.keepIn K (.ref a) = true ∧ Binds K fd ps [] ∧ FnOk P w K mg base CX0 k a fd ps (spOf K f.np (cl g))
  len : ∀ g x f ds S r, G[g]? = some (x, .fn f) → cl g ds S = some r → ds.length = f.np
  blt : ∀ (g : Nat) x, G[g]? = some (x, .blt) → mg x = none
  con : ∀ (g : Nat) x d, G[g]? = some (x, .con d) → ∃ u v, mg x = some u ∧ RelV v u ∧ ∀ W μ, Rep K W μ d v
structure Good (G : GT) (cl : Nat → List D → Sto → Rs D) (k : Nat) (Γ : Syn) (X : Cx) : Prop extends Sy Γ X where
  xe : X.xe = fun _ _ => False
  room : Room k X.A
  gf : GF X.prog X.w X.K X.mg X.base G k cl
section
variable {G : GT} {cl : Nat → List D → Sto → Rs D} {k : Nat} {Γ : Syn} {X : Cx}
theorem Good.hu (g : Good G cl k Γ X) : X.A.units + 65 < cLine := by have := g.room.un; omega
theorem Good.hu1 (g : Good G cl k Γ X) : X.A.units + 1 < cLine := by have := g.room.units; omega
/-- within a comprehension -/
theorem Good.blk (g : Good G cl k Γ X) {scope : Scope} (s : Shared) (H : Hp) (C : Addr) (cells : List (Str × Addr)) (fp : List Addr) : Good G cl k (Γ.blk scope) (X.blk s H scope (compEnvC scope cells C X.env) fp) :=
  ⟨⟨g.N, g.nd, by show relS scope X.env.scope = relS scope Γ.sc; rw [g.sc], rfl, g.calm⟩, rfl, g.room, g.gf⟩
theorem Good.passes (g : Good G cl k Γ X) : PassesOwn (model X.prog X.w) X.A X.env X.xe := by rw [g.xe]; exact PassesOwn.never
theorem vis_ok (y : Sy Γ X) {i : Nat} {x : Str} {pos : Pos} (h : visB Γ i x = true) : PE X (.Name x pos) (tVar i) := by
  obtain ⟨h1, h2⟩ := bk h
  obtain ⟨h3, h4⟩ := bk h2
  obtain ⟨h5, h6⟩ := bk h4
  refine pe_var (by rw [y.N]; exact dec h1) ?_ (by simpa using h5) (by simpa using h6)
  unfold Vis
  rw [y.sc]
  split at h3
  · rename_i e; exact .inl e
  · rename_i e; exact .inr (.inl e)
  · rename_i e; exact .inr (.inr e)
  · cases h3
theorem gl_ok (y : Sy Γ X) {g : Nat} {x : Str} (h : glB G Γ g x = true) : (∃ q, G[g]? = some (x, q)) ∧ Gl X x ∧ (x == ("__debug__" : Str)) = false ∧ x ≠ "__name__" := by
  obtain ⟨h1, h2⟩ := bk h
  obtain ⟨h3, h4⟩ := bk h2
  obtain ⟨h5, h6⟩ := bk h4
  refine ⟨?_, by show X.env.scope.names.lookup x = _; rw [y.sc]; exact dec h3, by simpa using h5, dec h6⟩
  cases c : G[g]? with
  | none => rw [c] at h1; cases h1
  | some p =>
    rw [c] at h1
    have e : p.1 = x := dec h1
    exact ⟨p.2, by rw [← e]⟩
theorem fn_at {g : Nat} {x : Str} {q : GK} (h : G[g]? = some (x, q)) (h2 : isFnB G g = true) : ∃ f, G[g]? = some (x, .fn f) := by
  unfold isFnB at h2
  rw [h] at h2
  cases q with
  | fn f => exact ⟨f, h⟩
  | _ => cases h2
theorem blt_at {g : Nat} {x : Str} {q : GK} (h : G[g]? = some (x, q)) (h2 : isBlt G g = true) : G[g]? = some (x, .blt) := by
  unfold isBlt at h2
  rw [h] at h2
  cases q with
  | blt => exact h
  | _ => cases h2
/-- an argument list's trees -/
theorem stars_any : ∀ {m : MEs} {xs : List Expr} {pos : Pos} {env : PySem.Env}, chkEs G m Γ xs = true → (backTo pos (starEach xs env)).any (·.1) = false ∧ (backTo pos (starEach xs env)).all (fun x => !x.1) = true
  | .nil, [], _, _, _ => ⟨rfl, rfl⟩
  | .nil, _ :: _, _, _, h => by cases h
  | .cons e es, [], _, _, h => by cases h
  | .cons e es, x :: xs, pos, env, h => by
    obtain ⟨h1, h2⟩ := bk (show (okX x && (chkE G e Γ x && chkEs G es Γ xs)) = true from h)
    obtain ⟨_, h3⟩ := bk h2
    obtain ⟨a, b⟩ := stars_any (pos := pos) (env := env) h3
    rw [star_ok h1]
    exact ⟨by show (false || (backTo pos (starEach xs env)).any (·.1)) = false; rw [a]; rfl, by show (!false && (backTo pos (starEach xs env)).all (fun x => !x.1)) = true; rw [b]; rfl⟩
theorem PE.bool {e : Expr} {ev : Env → Sto → Rs D} (h : PE X e (TR X.K ev)) (hp : ∀ whole, isTrue e X.env whole = (do let v ← whole; standAt e.pos; holding [v] (truthy v))) :
    PT X e (TTR X.K fun ρ S => bnd (ev ρ S) fun d S1 => lft (truD S1 d) fun t => some (t, S1)) := by
  refine (pt_truth h hp).weak ?_
  rintro σ H Q ⟨W, F, μ, ρ, S, b, S', st, en, e, p⟩
  obtain ⟨d, S1, e1, e2⟩ := bnd_inv e
  obtain ⟨t, e3, e4⟩ := lft_inv e2
  cases e4
  exact ⟨W, F, μ, ρ, S, d, _, st, en, e1, fun v H' W' μ' x st' r => ⟨b, tru_rep st' r e3, p H' W' μ' x st'⟩⟩
end
section
variable (G : GT) (cl : Nat → List D → Sto → Rs D) (k : Nat)
/-- an expression, as a value, as a test, as a chain of and | or -/
structure Eok (m : ME) (X : Cx) (e : Expr) : Prop where
  pe : PE X e (TR X.K (evE G cl m))
  pt : PT X e (TTR X.K (evT G cl m))
  pw : ∀ op es pos, e = .BoolOp op es pos → PW X e (TTR X.K (evT G cl m))
variable {G cl k}
theorem Eok.plain {m : ME} {X : Cx} {e : Expr} (h : PE X e (TR X.K (evE G cl m))) (hp : ∀ whole, isTrue e X.env whole = (do let v ← whole; standAt e.pos; holding [v] (truthy v))) (hb : ∀ op es pos, e ≠ .BoolOp op es pos) : Eok G cl m X e :=
  ⟨h, PE.bool h hp, fun op es pos q => absurd q (hb op es pos)⟩
variable {Γ : Syn} {X : Cx}
theorem tr_and {a b : ME} {x y : Expr} {r : List Expr} {pos : Pos} (ha : PE X x (TR X.K (evE G cl a))) (hb : PE X (.BoolOp .And (y :: r) pos) (TR X.K (evE G cl b))) : PE X (.BoolOp .And (x :: y :: r) pos) (TR X.K (evE G cl (.and a b))) := by
  refine (pe_andT ha hb).weak ?_
  rintro σ H Q ⟨W, F, μ, ρ, S, d, S', st, en, e, p⟩
  obtain ⟨d1, S1, e1, e2⟩ := bnd_inv e
  obtain ⟨t, e3, e4⟩ := lft_inv e2
  refine ⟨W, F, μ, ρ, S, d1, S1, st, en, e1, fun v H' W' μ' x st' rr => ⟨t, tru_rep st' rr e3, ?_⟩⟩
  cases t with
  | true => rw [if_pos rfl] at e4 ⊢; exact ⟨W', F, μ', ρ, S1, d, S', st', en.mono x, e4, p.ext x⟩
  | false =>
    rw [if_neg Bool.false_ne_true] at e4 ⊢
    cases e4
    exact p v H' W' μ' x st' rr
theorem tr_or {a b : ME} {x y : Expr} {r : List Expr} {pos : Pos} (ha : PE X x (TR X.K (evE G cl a))) (hb : PE X (.BoolOp .Or (y :: r) pos) (TR X.K (evE G cl b))) : PE X (.BoolOp .Or (x :: y :: r) pos) (TR X.K (evE G cl (.or a b))) := by
  refine (pe_orT ha hb).weak ?_
  rintro σ H Q ⟨W, F, μ, ρ, S, d, S', st, en, e, p⟩
  obtain ⟨d1, S1, e1, e2⟩ := bnd_inv e
  obtain ⟨t, e3, e4⟩ := lft_inv e2
  refine ⟨W, F, μ, ρ, S, d1, S1, st, en, e1, fun v H' W' μ' x st' rr => ⟨t, tru_rep st' rr e3, ?_⟩⟩
  cases t with
  | false => rw [if_neg Bool.false_ne_true] at e4 ⊢; exact ⟨W', F, μ', ρ, S1, d, S', st', en.mono x, e4, p.ext x⟩
  | true =>
    rw [if_pos rfl] at e4 ⊢
    cases e4
    exact p v H' W' μ' x st' rr
theorem tt_and {a b : ME} {x y : Expr} {r : List Expr} {pos : Pos} (ha : PT X x (TTR X.K (evT G cl a))) (hb : PW X (.BoolOp .And (y :: r) pos) (TTR X.K (evT G cl b))) : PW X (.BoolOp .And (x :: y :: r) pos) (TTR X.K (evT G cl (.and a b))) := by
  refine (pw_and ha hb).weak ?_
  rintro σ H Q ⟨W, F, μ, ρ, S, t, S', st, en, e, p⟩
  obtain ⟨d, S2, e1, e2⟩ := bnd_inv e
  obtain ⟨t', e3, e4⟩ := lft_inv e2
  cases e4
  obtain ⟨d1, S1, e5, e6⟩ := bnd_inv e1
  obtain ⟨t1, e7, e8⟩ := lft_inv e6
  refine ⟨W, F, μ, ρ, S, t1, S1, st, en, by simp only [evT, e5, bnd_some, e7, lft_some], fun H' W' μ' x st' => ?_⟩
  cases t1 with
  | true => rw [if_pos rfl] at e8 ⊢; exact ⟨W', F, μ', ρ, S1, t, _, st', en.mono x, by simp only [evT, e8, bnd_some, e3, lft_some], p.ext x⟩
  | false =>
    rw [if_neg Bool.false_ne_true] at e8 ⊢
    cases e8
    rw [e7] at e3; cases e3
    exact p H' W' μ' x st'
theorem tt_or {a b : ME} {x y : Expr} {r : List Expr} {pos : Pos} (ha : PT X x (TTR X.K (evT G cl a))) (hb : PW X (.BoolOp .Or (y :: r) pos) (TTR X.K (evT G cl b))) : PW X (.BoolOp .Or (x :: y :: r) pos) (TTR X.K (evT G cl (.or a b))) := by
  refine (pw_or ha hb).weak ?_
  rintro σ H Q ⟨W, F, μ, ρ, S, t, S', st, en, e, p⟩
  obtain ⟨d, S2, e1, e2⟩ := bnd_inv e
  obtain ⟨t', e3, e4⟩ := lft_inv e2
  cases e4
  obtain ⟨d1, S1, e5, e6⟩ := bnd_inv e1
  obtain ⟨t1, e7, e8⟩ := lft_inv e6
  refine ⟨W, F, μ, ρ, S, t1, S1, st, en, by simp only [evT, e5, bnd_some, e7, lft_some], fun H' W' μ' x st' => ?_⟩
  cases t1 with
  | false => rw [if_neg Bool.false_ne_true] at e8 ⊢; exact ⟨W', F, μ', ρ, S1, t, _, st', en.mono x, by simp only [evT, e8, bnd_some, e3, lft_some], p.ext x⟩
  | true =>
    rw [if_pos rfl] at e8 ⊢
    cases e8
    rw [e7] at e3; cases e3
    exact p H' W' μ' x st'
theorem tr_not {a : ME} {x : Expr} {pos : Pos} (ha : Eok G cl a X x) : Eok G cl (.not a) X (.UnaryOp .Not x pos) := by
  refine ⟨(pe_notT ha.pe).weak ?_, (pt_not ha.pt).weak ?_, fun op es pos q => by cases q⟩
  · rintro σ H Q ⟨W, F, μ, ρ, S, d, S', st, en, e, p⟩
    obtain ⟨d1, S1, e1, e2⟩ := bnd_inv e
    obtain ⟨t, e3, e4⟩ := lft_inv e2
    cases e4
    exact ⟨W, F, μ, ρ, S, d1, _, st, en, e1, fun v H' W' μ' x st' rr => ⟨t, tru_rep st' rr e3, (p.ext x).blv st'⟩⟩
  · rintro σ H Q ⟨W, F, μ, ρ, S, t, S', st, en, e, p⟩
    obtain ⟨d, S2, e1, e2⟩ := bnd_inv e
    obtain ⟨t', e3, e4⟩ := lft_inv e2
    cases e4
    obtain ⟨d1, S1, e5, e6⟩ := bnd_inv e1
    obtain ⟨t1, e7, e8⟩ := lft_inv e6
    cases e8
    cases e3
    exact ⟨W, F, μ, ρ, S, t1, _, st, en, by simp only [evT, e5, bnd_some, e7, lft_some], fun H' W' μ' x st' => p H' W' μ' x st'⟩
theorem tr_if {c a b : ME} {x y z : Expr} {pos : Pos} (hc : Eok G cl c X x) (ha : Eok G cl a X y) (hb : Eok G cl b X z) : Eok G cl (.ifE c a b) X (.IfExp x y z pos) := by
  refine ⟨(pe_ifExp hc.pt ha.pe hb.pe).weak ?_, ⟨fun pins s σ H Q I h => ?_⟩, fun op es pos q => by cases q⟩
  · rintro σ H Q ⟨W, F, μ, ρ, S, d, S', st, en, e, p⟩
    obtain ⟨d1, S1, e1, e2⟩ := bnd_inv e
    obtain ⟨t, e3, e4⟩ := lft_inv e2
    refine ⟨W, F, μ, ρ, S, t, S1, st, en, by simp only [evT, e1, bnd_some, e3, lft_some], fun H' W' μ' x st' => ?_⟩
    cases t with
    | true => rw [if_pos rfl] at e4 ⊢; exact ⟨W', F, μ', ρ, S1, d, S', st', en.mono x, e4, p.ext x⟩
    | false => rw [if_neg Bool.false_ne_true] at e4 ⊢; exact ⟨W', F, μ', ρ, S1, d, S', st', en.mono x, e4, p.ext x⟩
  · obtain ⟨W, F, μ, ρ, S, t, S', st, en, e, p⟩ := h
    obtain ⟨d, S2, e1, e2⟩ := bnd_inv e
    obtain ⟨t', e3, e4⟩ := lft_inv e2
    cases e4
    obtain ⟨d1, S1, e5, e6⟩ := bnd_inv e1
    obtain ⟨t1, e7, e8⟩ := lft_inv e6
    refine isTrue_IfExp (thn (hc.pt.run pins s σ H (fun b' H1 => if b' = true then TTR X.K (evT G cl a) σ H1 Q else TTR X.K (evT G cl b) σ H1 Q) I
      ⟨W, F, μ, ρ, S, t1, S1, st, en, by simp only [evT, e5, bnd_some, e7, lft_some], fun H' W' μ' x st' => ?_⟩) fun bb s1 ⟨H1, I1, q1⟩ => ?_)
    · cases t1 with
      | true => rw [if_pos rfl] at e8 ⊢; exact ⟨W', F, μ', ρ, S1, t, _, st', en.mono x, by simp only [evT, e8, bnd_some, e3, lft_some], p.ext x⟩
      | false => rw [if_neg Bool.false_ne_true] at e8 ⊢; exact ⟨W', F, μ', ρ, S1, t, _, st', en.mono x, by simp only [evT, e8, bnd_some, e3, lft_some], p.ext x⟩
    · cases bb with
      | true => exact ha.pt.run pins s1 σ H1 Q I1 q1
      | false => exact hb.pt.run pins s1 σ H1 Q I1 q1
theorem tr_bin {op : Operator} {a b : ME} {x y : Expr} {pos : Pos} (ha : PE X x (TR X.K (evE G cl a))) (hb : PE X y (TR X.K (evE G cl b))) : PE X (.BinOp x op y pos) (TR X.K (evE G cl (.bin op a b))) := by
  refine (pe_op (op_bin op) ha hb).weak ?_
  rintro σ H Q ⟨W, F, μ, ρ, S, d, S', st, en, e, p⟩
  obtain ⟨d1, S1, e1, e2⟩ := bnd_inv e
  obtain ⟨d2, S2, e3, e4⟩ := bnd_inv e2
  obtain ⟨r, e5, e6⟩ := lft_inv e4
  cases e6
  exact ⟨W, F, μ, ρ, S, d1, S1, st, en, e1, fun v1 H1 W1 μ1 x1 st1 r1 => ⟨W1, F, μ1, ρ, S1, d2, _, st1, en.mono x1, e3, fun v2 H2 W2 μ2 x2 st2 r2 => ⟨W2, F, μ2, _, d1, d2, d, st2, r1.m x2, r2, e5, p.ext (x1.trans x2)⟩⟩⟩
theorem tr_idx (hu : X.A.units + 1 < cLine) {a b : ME} {x y : Expr} {pos : Pos} (ok : okX y = true) (ha : PE X x (TR X.K (evE G cl a))) (hb : PE X y (TR X.K (evE G cl b))) : PE X (.Subscript x y pos) (TR X.K (evE G cl (.idx a b))) := by
  refine (pe_ix (ix_any hu) ha hb fun o i => sub_ok ok o i).weak ?_
  rintro σ H Q ⟨W, F, μ, ρ, S, d, S', st, en, e, p⟩
  obtain ⟨d1, S1, e1, e2⟩ := bnd_inv e
  obtain ⟨d2, S2, e3, e4⟩ := bnd_inv e2
  obtain ⟨r, e5, e6⟩ := lft_inv e4
  cases e6
  exact ⟨W, F, μ, ρ, S, d1, S1, st, en, e1, fun v1 H1 W1 μ1 x1 st1 r1 => ⟨W1, F, μ1, ρ, S1, d2, _, st1, en.mono x1, e3, fun v2 H2 W2 μ2 x2 st2 r2 => ⟨W2, F, μ2, _, d1, d2, d, st2, r1.m x2, r2, e5, p.ext (x1.trans x2)⟩⟩⟩
theorem tr_cmp (hu : X.A.units + 65 < cLine) {op : CmpOp} {a b : ME} {x y : Expr} {pos : Pos} (ok : okX y = true) (ha : PE X x (TR X.K (evE G cl a))) (hb : PE X y (TR X.K (evE G cl b))) : Eok G cl (.cmp op a b) X (.Compare x [op] [y] pos) := by
  refine ⟨(pe_cmpR (op_cmp hu op) ha hb (mark_ok ok op)).weak ?_, (pt_cmpR (op_cmp hu op) ha hb (mark_ok ok op)).weak ?_, fun op es pos q => by cases q⟩
  · rintro σ H Q ⟨W, F, μ, ρ, S, d, S', st, en, e, p⟩
    obtain ⟨d1, S1, e1, e2⟩ := bnd_inv e
    obtain ⟨d2, S2, e3, e4⟩ := bnd_inv e2
    obtain ⟨r, e5, e6⟩ := lft_inv e4
    cases e6
    exact ⟨W, F, μ, ρ, S, d1, S1, st, en, e1, fun v1 H1 W1 μ1 x1 st1 r1 => ⟨W1, F, μ1, ρ, S1, d2, _, st1, en.mono x1, e3, fun v2 H2 W2 μ2 x2 st2 r2 => ⟨W2, F, μ2, _, d1, d2, r, st2, r1.m x2, r2, e5, fun H3 W3 μ3 x3 st3 => p _ H3 W3 μ3 ((x1.trans x2).trans x3) st3 rfl⟩⟩⟩
  · rintro σ H Q ⟨W, F, μ, ρ, S, t, S', st, en, e, p⟩
    obtain ⟨d, S3, e7, e8⟩ := bnd_inv e
    obtain ⟨t', e9, e10⟩ := lft_inv e8
    cases e10
    obtain ⟨d1, S1, e1, e2⟩ := bnd_inv e7
    obtain ⟨d2, S2, e3, e4⟩ := bnd_inv e2
    obtain ⟨r, e5, e6⟩ := lft_inv e4
    cases e6
    cases e9
    exact ⟨W, F, μ, ρ, S, d1, S1, st, en, e1, fun v1 H1 W1 μ1 x1 st1 r1 => ⟨W1, F, μ1, ρ, S1, d2, _, st1, en.mono x1, e3, fun v2 H2 W2 μ2 x2 st2 r2 => ⟨W2, F, μ2, _, d1, d2, t, st2, r1.m x2, r2, e5, fun H3 W3 μ3 x3 st3 => ⟨t, rfl, p H3 W3 μ3 ((x1.trans x2).trans x3) st3⟩⟩⟩⟩
theorem tr_ch (hu : X.A.units + 65 < cLine) {op op' : CmpOp} {a b c : ME} {x y z : Expr} {pos : Pos} (ok : okX z = true) (ha : PE X x (TR X.K (evE G cl a))) (hb : PE X y (TR X.K (evE G cl b))) (hc : PE X z (TR X.K (evE G cl c))) : Eok G cl (.ch op op' a b c) X (.Compare x [op, op'] [y, z] pos) := by
  refine ⟨(pe_chain (op_cmp hu op) (op_cmp hu op') ha hb hc (mark_ok ok op')).weak ?_, (pt_chain (op_cmp hu op) (op_cmp hu op') ha hb hc (mark_ok ok op')).weak ?_, fun op es pos q => by cases q⟩
  · rintro σ H Q ⟨W, F, μ, ρ, S, d, S', st, en, e, p⟩
    obtain ⟨d1, S1, e1, e2⟩ := bnd_inv e
    obtain ⟨d2, S2, e3, e4⟩ := bnd_inv e2
    obtain ⟨r, e5, e6⟩ := lft_inv e4
    refine ⟨W, F, μ, ρ, S, d1, S1, st, en, e1, fun v1 H1 W1 μ1 x1 st1 r1 => ⟨W1, F, μ1, ρ, S1, d2, _, st1, en.mono x1, e3, fun v2 H2 W2 μ2 x2 st2 r2 => ⟨W2, F, μ2, _, d1, d2, r, st2, r1.m x2, r2, e5, fun H3 W3 μ3 x3 st3 => ⟨r, rfl, ?_⟩⟩⟩⟩
    cases r with
    | false =>
      cases e6
      exact p _ H3 W3 μ3 ((x1.trans x2).trans x3) st3 rfl
    | true =>
      obtain ⟨d3, S3, e7, e8⟩ := bnd_inv (show bnd (evE G cl c ρ S2) (fun f S3 => lft (cmpD S3 op' d2 f) fun q => some (.bl q, S3)) = some (d, S') from e6)
      obtain ⟨t, e9, e10⟩ := lft_inv e8
      cases e10
      exact ⟨W3, F, μ3, ρ, S2, d3, _, st3, en.mono ((x1.trans x2).trans x3), e7, fun v4 H4 W4 μ4 x4 st4 r4 => ⟨W4, F, μ4, _, d2, d3, t, st4, (r2.m x3).m x4, r4, e9, fun H5 W5 μ5 x5 st5 => p _ H5 W5 μ5 ((((x1.trans x2).trans x3).trans x4).trans x5) st5 rfl⟩⟩
  · rintro σ H Q ⟨W, F, μ, ρ, S, t, S', st, en, e, p⟩
    obtain ⟨d, S3, e7, e8⟩ := bnd_inv e
    obtain ⟨t', e9, e10⟩ := lft_inv e8
    cases e10
    obtain ⟨d1, S1, e1, e2⟩ := bnd_inv e7
    obtain ⟨d2, S2, e3, e4⟩ := bnd_inv e2
    obtain ⟨r, e5, e6⟩ := lft_inv e4
    refine ⟨W, F, μ, ρ, S, d1, S1, st, en, e1, fun v1 H1 W1 μ1 x1 st1 r1 => ⟨W1, F, μ1, ρ, S1, d2, _, st1, en.mono x1, e3, fun v2 H2 W2 μ2 x2 st2 r2 => ⟨W2, F, μ2, _, d1, d2, r, st2, r1.m x2, r2, e5, fun H3 W3 μ3 x3 st3 => ⟨r, rfl, ?_⟩⟩⟩⟩
    cases r with
    | false =>
      cases e6
      cases e9
      exact ⟨false, rfl, p H3 W3 μ3 ((x1.trans x2).trans x3) st3⟩
    | true =>
      obtain ⟨d3, S3', e7', e8'⟩ := bnd_inv (show bnd (evE G cl c ρ S2) (fun f S3 => lft (cmpD S3 op' d2 f) fun q => some (.bl q, S3)) = some (d, _) from e6)
      obtain ⟨t2, e9', e10'⟩ := lft_inv e8'
      cases e10'
      cases e9
      exact ⟨W3, F, μ3, ρ, S2, d3, _, st3, en.mono ((x1.trans x2).trans x3), e7', fun v4 H4 W4 μ4 x4 st4 r4 => ⟨W4, F, μ4, _, d2, d3, _, st4, (r2.m x3).m x4, r4, e9', fun H5 W5 μ5 x5 st5 => ⟨_, rfl, p H5 W5 μ5 ((((x1.trans x2).trans x3).trans x4).trans x5) st5⟩⟩⟩
end
end Rw

/-! M10: .. further -/
namespace Rw
open PySem PySem.Spec PyProof.Rows L2
section
variable {G : GT} {cl : Nat → List D → Sto → Rs D} {k : Nat} {Γ : Syn} {X : Cx}
/-- not a chain of and | or, and a plain test -/
theorem Eok.of {m : ME} {e : Expr} (h : PE X e (TR X.K (evE G cl m))) (hp : ∀ whole, isTrue e X.env whole = (do let v ← whole; standAt e.pos; holding [v] (truthy v)) := by intro _; rfl) (hb : ∀ op es pos, e ≠ .BoolOp op es pos := by intro _ _ _ q; cases q) : Eok G cl m X e := Eok.plain h hp hb
theorem PA.tr {es : MEs} {xs : List Expr} (h : PA X xs (TAR X.K (evEs G cl es))) : PA X xs (TAR X.K (evEs G cl es)) := h
theorem ta_nil : PA X [] (TAR X.K (evEs G cl .nil)) := pa_nil.weak (by
  rintro σ H Q ⟨W, F, μ, ρ, S, ds, S', st, en, e, p⟩
  cases e
  exact p [] H W μ Ext.refl st rfl)
theorem ta_cons {e : ME} {es : MEs} {x : Expr} {xs : List Expr} (ok : okX x = true) (h : PE X x (TR X.K (evE G cl e))) (hs : PA X xs (TAR X.K (evEs G cl es))) : PA X (x :: xs) (TAR X.K (evEs G cl (.cons e es))) := (pa_cons h hs (star_ok ok xs X.env)).weak (by
  rintro σ H Q ⟨W, F, μ, ρ, S, ds, S', st, en, e, p⟩
  obtain ⟨d1, S1, e1, e2⟩ := bnd_inv e
  obtain ⟨d2, S2, e3, e4⟩ := bnd_inv e2
  cases e4
  exact ⟨W, F, μ, ρ, S, d1, S1, st, en, e1, fun v1 H1 W1 μ1 x1 st1 r1 => ⟨W1, F, μ1, ρ, S1, d2, _, st1, en.mono x1, e3, fun v2 H2 W2 μ2 x2 st2 r2 => p _ H2 W2 μ2 (x1.trans x2) st2 ⟨v1, v2, rfl, r1.m x2, r2⟩⟩⟩)
theorem tr_tup {es : MEs} {xs : List Expr} {n : Nat} {pos : Pos} (h : PA X xs (TAR X.K (evEs G cl es))) : PE X (.Tuple xs n pos) (TR X.K (evE G cl (.tup es))) := (pe_tup h).weak (by
  rintro σ H Q ⟨W, F, μ, ρ, S, d, S', st, en, e, p⟩
  obtain ⟨ds, S1, e1, e2⟩ := bnd_inv e
  split at e2
  · rename_i c
    cases e2
    exact ⟨W, F, μ, ρ, S, ds, _, st, en, e1, fun vs H1 W1 μ1 x1 st1 r1 => ⟨by rw [r1.length]; exact c, (p.ext x1).tup st1 r1⟩⟩
  · cases e2)
theorem tr_lst {es : MEs} {xs : List Expr} {pos : Pos} (h : PA X xs (TAR X.K (evEs G cl es))) : PE X (.List xs pos) (TR X.K (evE G cl (.lst es))) := (pe_lst h).weak (by
  rintro σ H Q ⟨W, F, μ, ρ, S, d, S', st, en, e, p⟩
  obtain ⟨ds, S1, e1, e2⟩ := bnd_inv e
  split at e2
  · rename_i c
    cases e2
    exact ⟨W, F, μ, ρ, S, ds, _, st, en, e1, fun vs H1 W1 μ1 x1 st1 r1 => ⟨by rw [r1.length]; exact c, (p.ext x1).lst st1 r1⟩⟩
  · cases e2)
theorem tr_mlst {es : MEs} {xs : List Expr} {pos : Pos} (h : PA X xs (TAR X.K (evEs G cl es))) : PE X (.List xs pos) (TR X.K (evE G cl (.mlst es))) := (pe_lst h).weak (by
  rintro σ H Q ⟨W, F, μ, ρ, S, d, S', st, en, e, p⟩
  obtain ⟨ds, S1, e1, e2⟩ := bnd_inv e
  split at e2
  · rename_i c
    cases e2
    refine ⟨W, F, μ, ρ, S, ds, _, st, en, e1, fun vs H1 W1 μ1 x1 st1 r1 => ⟨by rw [r1.length]; exact c, fun a ha => ?_⟩⟩
    obtain ⟨st2, x2⟩ := st1.cell (.lst vs) (.lst ds) ha fun W' μ' x => ⟨vs, upd_same, r1.m x⟩
    exact p _ _ _ _ (x1.trans x2) st2 ⟨a, by rw [← st1.len]; simp, rfl⟩
  · cases e2)
theorem tr_madd {a b : ME} {x y : Expr} {pos : Pos} (ha : PE X x (TR X.K (evE G cl a))) (hb : PE X y (TR X.K (evE G cl b))) : PE X (.BinOp x .Add y pos) (TR X.K (evE G cl (.madd a b))) := by
  refine (pe_op op_cat ha hb).weak ?_
  rintro σ H Q ⟨W, F, μ, ρ, S, d, S', st, en, e, p⟩
  obtain ⟨d1, S1, e1, e2⟩ := bnd_inv e
  obtain ⟨d2, S2, e3, e4⟩ := bnd_inv e2
  split at e4
  · split at e4
    · rename_i xs ys c
      cases e4
      refine ⟨W, F, μ, ρ, S, .lst xs, S1, st, en, e1, fun v1 H1 W1 μ1 x1 st1 r1 => ⟨W1, F, μ1, ρ, S1, .lst ys, _, st1, en.mono x1, e3, fun v2 H2 W2 μ2 x2 st2 r2 => ?_⟩⟩
      obtain ⟨a, vs, rfl, h1, q1⟩ := r1.m x2
      obtain ⟨b, us, rfl, h2, q2⟩ := r2
      refine ⟨a, b, vs, us, rfl, rfl, st2.sub _ _ h1, st2.sub _ _ h2, by rw [q1.length, q2.length]; exact c, fun z hz => ?_⟩
      obtain ⟨st3, x3⟩ := st2.cell (.lst (vs ++ us)) (.lst (xs ++ ys)) hz fun W' μ' x => ⟨vs ++ us, upd_same, (q1.app q2).m x⟩
      exact p _ _ _ _ ((x1.trans x2).trans x3) st3 ⟨z, by rw [← st2.len]; simp, rfl⟩
    · cases e4
  · cases e4
theorem tr_neg {a : ME} {x : Expr} {pos : Pos} (h : PE X x (TR X.K (evE G cl a))) : PE X (.UnaryOp .USub x pos) (TR X.K (evE G cl (.neg a))) := (pe_un un_neg h).weak (by
  rintro σ H Q ⟨W, F, μ, ρ, S, d, S', st, en, e, p⟩
  obtain ⟨d1, S1, e1, e2⟩ := bnd_inv e
  cases d1 with
  | int i =>
    cases e2
    refine ⟨W, F, μ, ρ, S, .int i, _, st, en, e1, fun v H1 W1 μ1 x1 st1 r1 => ?_⟩
    cases (show v = _ from r1)
    exact ⟨i, rfl, (p.ext x1).int st1⟩
  | _ => cases e2)
theorem tr_var (y : Sy Γ X) {i : Nat} {x : Str} {pos : Pos} (h : visB Γ i x = true) : PE X (.Name x pos) (TR X.K (evE G cl (.var i))) := (vis_ok y h).weak (by
  rintro σ H Q ⟨W, F, μ, ρ, S, d, S', st, en, e, p⟩
  cases c : ρ[i]? with
  | none => simp only [evE, c] at e; cases e
  | some q =>
    cases q with
    | none => simp only [evE, c] at e; cases e
    | some d' =>
      simp only [evE, c] at e
      cases e
      obtain ⟨v, h1, h2⟩ := en.2 i _ c
      exact ⟨v, h1, p.same st h2⟩)
theorem tr_const {m : ME} {d : D} {v : V} {e : Expr} (h : PE X e (tC v)) (hd : ∀ ρ S, evE G cl m ρ S = some (d, S)) (hr : ∀ W μ, Rep X.K W μ d v) : PE X e (TR X.K (evE G cl m)) := h.weak (by
  rintro σ H Q ⟨W, F, μ, ρ, S, d', S', st, en, e, p⟩
  rw [hd] at e
  cases e
  exact p.same st (hr W μ))
/-- a part of a slice -/
def TOR (K : PySem.W.Frag) (ev : Env → Sto → Rs (Option Int)) : TO := fun σ H Q => ∃ W F μ ρ S o S', Stt K W F μ S H ∧ EnvR K W μ ρ σ ∧ ev ρ S = some (o, S') ∧ ∀ H' W' μ', Ext W μ W' μ' → Stt K W' F μ' S' H' → Q o H'
theorem _root_.L2.PO.weak {e : Option Expr} {t t' : TO} (h : PO X e t) (w : ∀ σ H Q, t' σ H Q → t σ H Q) : PO X e t' := ⟨fun pins s σ H Q I q => h.run pins s σ H Q I (w σ H Q q)⟩
theorem to_none : PO X none (TOR X.K (evO G cl .none)) := po_none.weak (by
  rintro σ H Q ⟨W, F, μ, ρ, S, d, S', st, en, e, p⟩
  cases e
  exact p H W μ Ext.refl st)
theorem to_some {a : ME} {x : Expr} (h : PE X x (TR X.K (evE G cl a))) : PO X (some x) (TOR X.K (evO G cl (.some a))) := (po_some h).weak (by
  rintro σ H Q ⟨W, F, μ, ρ, S, d, S', st, en, e, p⟩
  obtain ⟨d1, S1, e1, e2⟩ := bnd_inv e
  cases d1 with
  | int i =>
    cases e2
    refine ⟨W, F, μ, ρ, S, .int i, _, st, en, e1, fun v H1 W1 μ1 x1 st1 r1 => ?_⟩
    cases (show v = _ from r1)
    exact ⟨i, rfl, p H1 W1 μ1 x1 st1⟩
  | _ => cases e2)
theorem tr_sl {a : ME} {lo hi : MO} {x : Expr} {l h : Option Expr} {p2 pos : Pos} (ha : PE X x (TR X.K (evE G cl a))) (hl : PO X l (TOR X.K (evO G cl lo))) (hh : PO X h (TOR X.K (evO G cl hi))) :
    PE X (.Subscript x (.Slice l h none p2) pos) (TR X.K (evE G cl (.sl a lo hi))) := (pe_slice sl_any ha hl hh).weak (by
  rintro σ H Q ⟨W, F, μ, ρ, S, d, S', st, en, e, p⟩
  obtain ⟨d1, S1, e1, e2⟩ := bnd_inv e
  obtain ⟨o1, S2, e3, e4⟩ := bnd_inv e2
  obtain ⟨o2, S3, e5, e6⟩ := bnd_inv e4
  obtain ⟨r, e7, e8⟩ := lft_inv e6
  cases e8
  exact ⟨W, F, μ, ρ, S, d1, S1, st, en, e1, fun v H1 W1 μ1 x1 st1 r1 => ⟨W1, F, μ1, ρ, S1, o1, S2, st1, en.mono x1, e3, fun H2 W2 μ2 x2 st2 => ⟨W2, F, μ2, ρ, S2, o2, _, st2, en.mono (x1.trans x2), e5, fun H3 W3 μ3 x3 st3 =>
    ⟨W3, F, μ3, _, d1, d, st3, r1.m (x2.trans x3), e7, p.ext ((x1.trans x2).trans x3)⟩⟩⟩⟩)
/-! xs[:hi:-1] -/
theorem pick_back (xs : List Value) : ∀ c, c ≤ xs.length → ((List.range c).map fun k => xs.length - 1 - k).filterMap (fun j => xs[j]?) = xs.reverse.take c
  | 0, _ => by simp
  | c + 1, h => by
    have h1 : xs.length - 1 - c < xs.length := by omega
    rw [List.range_succ, List.map_append, List.filterMap_append, pick_back xs c (by omega), List.take_add_one]
    congr 1
    simp only [List.map_cons, List.map_nil, List.filterMap_cons, List.filterMap_nil]
    rw [List.getElem?_reverse (by omega), List.getElem?_eq_getElem h1]
    rfl
theorem pick_backI (items : Array Value) (i : Int) (h : 0 ≤ i) : slicePick items none (some i) (some (-1)) = (items.toList.drop (i.toNat + 1)).reverse.toArray := by
  have hs : items.size = items.toList.length := by simp
  have hb : sliceBounds none (some i) (some (-1)) items.size = ((items.size : Int) - 1, max (-1) (min i ((items.size : Int) - 1)), -1) := by
    have h0 : ¬ i < 0 := by omega
    simp [sliceBounds, h0]
  unfold slicePick
  rw [hb]
  show ((sliceRange ((items.size : Int) - 1) (max (-1) (min i ((items.size : Int) - 1))) (-1)).filterMap (items[·]?)).toArray = _
  have hr : sliceRange ((items.size : Int) - 1) (max (-1) (min i ((items.size : Int) - 1))) (-1) = (List.range (items.size - (i.toNat + 1))).map fun k => items.size - 1 - k := by
    unfold sliceRange
    have h1 : ¬ ((-1 : Int) > 0) := by decide
    by_cases c : (items.size : Int) - 1 > max (-1) (min i ((items.size : Int) - 1))
    · have e : (((items.size : Int) - 1 - max (-1) (min i ((items.size : Int) - 1)) - -1 - 1) / (- -1)) = ((items.size - (i.toNat + 1) : Nat) : Int) := by
        rw [show (- -1 : Int) = 1 by decide, Int.ediv_one]
        omega
      simp only [h1, if_false, c, if_true, e, Int.toNat_natCast]
      apply List.map_congr_left
      intro k hk
      have := List.mem_range.mp hk
      omega
    · have e : items.size - (i.toNat + 1) = 0 := by omega
      rw [e]
      simp only [h1, if_false, c]
      rfl
  rw [hr]
  have e2 : (fun j : Nat => items[j]?) = fun j : Nat => items.toList[j]? := by
    funext j
    simp
  rw [e2, hs, pick_back items.toList _ (by omega), List.take_reverse]
  by_cases c : i.toNat + 1 ≤ items.toList.length
  · rw [show items.toList.length - (items.toList.length - (i.toNat + 1)) = i.toNat + 1 by omega]
  · rw [List.drop_eq_nil_of_le (show items.toList.length ≤ i.toNat + 1 by omega), List.drop_eq_nil_of_le (show items.toList.length ≤ items.toList.length - (items.toList.length - (i.toNat + 1)) by omega)]
section
variable {prog : Program} {w : World} {A : Around} {E : Value → Shared → Prop} {s : Shared}
theorem sliceApplied_rev {sl : Addr} {vl vu vs : Value} {n : Nat} {Q : Int × Int × Nat → Shared → Prop} (hs : s.heap.IsSliceOf sl vl vu vs) (pl : IsPart vl none) (pu : IsPart vu none) (ps : IsPart vs (some (-1)))
    (h : Q ((n : Int) - 1, -1, n) s) : wpAny (model prog w) A (Builtin.Slice.sliceApplied (.ref sl) (pure (n : Int))) Q E s := by
  obtain ⟨os, hos, hcs, hds⟩ := id hs
  unfold Builtin.Slice.sliceApplied Builtin.Slice.sliceFields
  refine wpAny_bind (wpAny_bind (wpAny_field hos hds (x := vl) rfl (wpAny_bind (wpAny_field hos hds (x := vu) rfl (wpAny_bind (wpAny_field hos hds (x := vs) rfl (wpAny_pure ?_)))))))
  refine wpAny_bind (HT.slicePart_ ps ?_)
  show wpAny _ _ (if ((-1 : Int) == 0) = true then _ else _) _ _ s
  rw [if_neg (by decide)]
  refine wpAny_bind (HT.slicePart_ pl (wpAny_bind (HT.slicePart_ pu (wpAny_bind (wpAny_pure ?_)))))
  show wpAny _ _ (match Builtin.Slice.sliceAdjust none none (-1) (n : Int) with | (lo, hi) => pure (lo, (-1 : Int), Builtin.Slice.slicePlaces lo hi (-1))) _ _ s
  have e1 : Builtin.Slice.sliceAdjust none none (-1) (n : Int) = ((n : Int) - 1, -1) := rfl
  rw [e1]
  show wpAny _ _ (pure ((n : Int) - 1, (-1 : Int), Builtin.Slice.slicePlaces ((n : Int) - 1) (-1) (-1))) _ _ s
  have e2 : Builtin.Slice.slicePlaces ((n : Int) - 1) (-1) (-1) = n := by
    unfold Builtin.Slice.slicePlaces
    have h1 : ¬ ((-1 : Int) > 0) := by decide
    simp only [h1, if_false]
    rw [show (- (-1 : Int)) = 1 by decide, Int.ediv_one]
    split <;> omega
  rw [e2]
  exact wpAny_pure h
theorem pick_revT (xs : Array Value) : ((List.range xs.size).filterMap fun (k : Nat) => xs[(((xs.size : Int) - 1) + (k : Int) * (-1)).toNat]?).toArray = xs.toList.reverse.toArray := by
  have hs : xs.size = xs.toList.length := by simp
  have e : (List.range xs.size).filterMap (fun (k : Nat) => xs[(((xs.size : Int) - 1) + (k : Int) * (-1)).toNat]?) = ((List.range xs.size).map fun k => xs.toList.length - 1 - k).filterMap (fun j => xs.toList[j]?) := by
    rw [List.filterMap_map]
    congr 1
    funext k
    show _ = xs.toList[xs.toList.length - 1 - k]?
    rw [Array.getElem?_toList]
    congr 1
    rw [← hs]
    omega
  rw [e, hs, pick_back _ _ (Nat.le_refl _), List.take_of_length_le (by simp)]
theorem getItem_tuple_rev {t sl : Addr} {items : Array Value} {vl vu vs : Value} {Q : Value → Shared → Prop} (ht : IsTup s.heap t items) (hs : s.heap.IsSliceOf sl vl vu vs) (pl : IsPart vl none) (pu : IsPart vu none) (ps : IsPart vs (some (-1)))
    (h : Q (.ref s.heap.objs.size) { s with heap := s.heap.push { cls := .type "tuple", data := .seq items.toList.reverse.toArray } })
    (hsz : items.size ≤ sizeLine) : wpAny (model prog w) A (getItem (.ref t) (.ref sl)) Q E s := by
  have htake : sizeOk (.seq items.toList.reverse.toArray) := by
    show items.toList.reverse.toArray.size ≤ sizeLine
    rw [List.size_toArray, List.length_reverse, Array.length_toList]
    exact hsz
  obtain ⟨os, hos, hcs, hds⟩ := id hs
  have hTs : s.TypeIs (.ref sl) "slice" := ⟨os, hos, hcs⟩
  unfold getItem
  try with_reducible refine wpAny_holding ?_
  first | refine wpAny_bind (wpAny_pure ?_) | skip
  refine wpAny_bind (wpAny_sequenceKey ht.typeIs (by decide) ?_)
  refine wpAny_bind (wpAny_callSpecial?_slot (name := Str.ofString "__getitem__") ht.typeIs PyProof.Rows.slot_tuple_getitem
    (wpAny_call_entry PyProof.Rows.slot_tuple_getitem ht.typeIs PyProof.Rows.entry_tuple_getitem ?_ (PyProof.Rows.args_tuple_getitem _ _)))
  show wpAny _ _ (Builtin.Tuple.tupleItemsOf (.ref t) >>= _) _ _ s
  refine wpAny_bind (tupleItemsOf_ ht ?_)
  refine wpAny_bind (wpAny_typeOf hTs ?_)
  rw [if_pos (by decide)]
  refine wpAny_bind (sliceApplied_rev hs pl pu ps ?_)
  have hno : ¬ ((((items.size : Int) - 1) == 0 && (-1 : Int) == 1 && items.size == items.size) = true) := by
    intro q
    rw [Bool.and_eq_true, Bool.and_eq_true] at q
    exact absurd q.1.2 (by decide)
  show wpAny _ _ (if (((items.size : Int) - 1) == 0 && (-1 : Int) == 1 && items.size == items.size) = true then _ else _) _ _ s
  rw [if_neg hno, pick_revT]
  first
    | exact wpAny_bind (m := Builtin.Tuple.tupleExact _) (wpAny_newObj_type (wpAny_pure ⟨_, rfl, wpAny_pure h⟩) htake)
    | exact wpAny_bind (m := Builtin.Tuple.tupleExact _) (wpAny_newObj_type (wpAny_bind (wpAny_pure (wpAny_pure ⟨_, rfl, wpAny_pure h⟩))) htake)
    | exact wpAny_bind (wpAny_bind (m := Builtin.Tuple.tupleExact _) (wpAny_newObj_type (wpAny_pure (wpAny_pure ⟨_, rfl, wpAny_pure h⟩)) htake))
    | exact wpAny_bind (wpAny_bind (m := Builtin.Tuple.tupleExact _) (wpAny_newObj_type (wpAny_pure ⟨_, rfl, wpAny_pure h⟩) htake))
end
def tSlR (K : PySem.W.Frag) (te : TE) (th : TO) : TE := fun σ H Q => te σ H fun x H1 => th σ H1 fun u H2 => (∃ a xs, x = .ref a ∧ SqT K H2 a xs ∧ u = none ∧ ∀ p, H2 p = none → Q (.ref p) (upd H2 p (.tup xs.reverse))) ∨ ∃ a xs ys, x = .ref a ∧ SqL K H2 a xs ∧ ((u = none ∧ ys = xs.reverse) ∨ ∃ i, u = some i ∧ 0 ≤ i ∧ ys = (xs.drop (i.toNat + 1)).reverse) ∧ ∀ p, H2 p = none → Q (.ref p) (upd H2 p (.lst ys))
theorem pe_slR {X : Cx} {e : Expr} {hi : Option Expr} {te : TE} {th : TO} {k : Nat} {p1 p2 p3 pos : Pos} (he : PE X e te) (hu : PO X hi th) : PE X (.Subscript e (.Slice none hi (some (.UnaryOp .USub (.Constant (.int 1) k p1) p2)) p3) pos) (tSlR X.K te th) := by
  refine ⟨fun pins s σ H Q I h => ?_⟩
  refine Subscript_ (thn (he.run pins s σ H _ I h) fun v s1 ⟨x, H1, I1, r1, q1⟩ => ?_)
  have hst : PO X (some (.UnaryOp .USub (.Constant (.int 1) k p1) p2)) (tPart (tUn (rU fun i => .int (-i)) (tC (.int 1)))) := po_some (pe_un un_neg pe_int)
  refine wpAny_Slice (thn (po_none.run pins s1 σ H1 (fun o H2 => o = none ∧ H2 = H1) I1 ⟨rfl, rfl⟩) fun vl s2 ⟨l, H2, I2, pl, el, e2⟩ => ?_)
  subst el e2
  refine thn (hu.run pins s2 σ H2 _ I2 q1) fun vu s3 ⟨u, H3, I3, pu, q2⟩ => ?_
  rcases q2 with ⟨a, xs, ex, hx, eu, q⟩ | ⟨a, xs, ys, ex, hx, hy, q⟩
  · subst ex eu
    cases r1
    refine thn (hst.run pins s3 σ H3 (fun o H4 => o = some (-1) ∧ H4 = H3) I3 ⟨1, rfl, -1, rfl, rfl, rfl⟩) fun vs s4 ⟨o, H4, I4, ps, eo, e4⟩ => ?_
    subst eo e4
    have I5 : Inv X pins σ H4 { s4 with heap := s4.heap.push { cls := .type "slice", data := .fields #[vl, vu, vs] } } := I4.kept (t' := s4.toks) fun b ob q => Heap.get?_push_of_some _ q
    obtain ⟨its, r, ht, hz⟩ := I5.tuple hx
    have hlen := r.length
    show wpAny (model X.prog X.w) X.A (subscriptTail e (.Slice none hi (some (.UnaryOp .USub (.Constant (.int 1) k p1) p2)) p3) (.ref a) (.ref s4.heap.objs.size)) (EP X pins σ Q) X.xe { s4 with heap := s4.heap.push { cls := .type "slice", data := .fields #[vl, vu, vs] } }
    refine tail_any (ops := [.ref a, .ref s4.heap.objs.size]) ht.typeIs (PyProof.Rows.slot_tuple_getitem.lookup) ?_ (by with_unfolding_all rfl)
    refine getItem_tuple_rev ht (Heap.IsSliceOf.new _ vl vu vs) pl pu ps ?_ (by rw [List.size_toArray]; omega)
    refine ⟨.ref _, _, I5.laid (t' := s4.toks) (o := .tup xs.reverse) (fun b ob q => Heap.get?_push_of_some _ q) (Nat.le_refl _) ?_, rfl, q _ (I5.hok.fresh (Nat.le_refl _))⟩
    exact ⟨by rw [List.length_reverse]; exact hz, _, r.reverse, _, Heap.get?_push_size _ rfl, rfl, 0, rfl⟩
  subst ex
  cases r1
  refine thn (hst.run pins s3 σ H3 (fun o H4 => o = some (-1) ∧ H4 = H3) I3 ⟨1, rfl, -1, rfl, rfl, rfl⟩) fun vs s4 ⟨o, H4, I4, ps, eo, e4⟩ => ?_
  subst eo e4
  have I5 : Inv X pins σ H4 { s4 with heap := s4.heap.push { cls := .type "slice", data := .fields #[vl, vu, vs] } } := I4.kept (t' := s4.toks) fun b ob q => Heap.get?_push_of_some _ q
  obtain ⟨its, r, ht, hz⟩ := I5.list hx
  have hlen := r.length
  show wpAny (model X.prog X.w) X.A (subscriptTail e (.Slice none hi (some (.UnaryOp .USub (.Constant (.int 1) k p1) p2)) p3) (.ref a) (.ref s4.heap.objs.size)) (EP X pins σ Q) X.xe { s4 with heap := s4.heap.push { cls := .type "slice", data := .fields #[vl, vu, vs] } }
  refine tail_any (ops := [.ref a, .ref s4.heap.objs.size]) ht.isList.typeIs (PySem.slot_list_getitem.lookup) ?_ (by with_unfolding_all rfl)
  refine wpAny_getItem_list_slice ht.isList (Heap.IsSliceOf.new _ vl vu vs) pl pu ps (by decide) ?_ (by rw [List.size_toArray]; omega)
  rcases hy with ⟨rfl, rfl⟩ | ⟨i, rfl, h0, rfl⟩
  · rw [PySem.W.krv_pick]
    refine ⟨.ref _, _, I5.laid (t' := s4.toks) (o := .lst xs.reverse) (fun b ob q => Heap.get?_push_of_some _ q) (Nat.le_refl _) ?_, rfl, q _ (I5.hok.fresh (Nat.le_refl _))⟩
    exact ⟨by rw [List.length_reverse]; exact hz, _, 0, r.reverse, Heap.get?_push_size _ rfl⟩
  · rw [pick_backI _ _ h0]
    refine ⟨.ref _, _, I5.laid (t' := s4.toks) (o := .lst (xs.drop (i.toNat + 1)).reverse) (fun b ob q => Heap.get?_push_of_some _ q) (Nat.le_refl _) ?_, rfl, q _ (I5.hok.fresh (Nat.le_refl _))⟩
    exact ⟨by rw [List.length_reverse, List.length_drop]; omega, _, 0, (r.drop (i.toNat + 1)).reverse, Heap.get?_push_size _ rfl⟩
theorem tr_slR {a : ME} {hi : MO} {x : Expr} {h : Option Expr} {k' : Nat} {p1 p2 p3 pos : Pos} (ha : PE X x (TR X.K (evE G cl a))) (hh : PO X h (TOR X.K (evO G cl hi))) :
    PE X (.Subscript x (.Slice none h (some (.UnaryOp .USub (.Constant (.int 1) k' p1) p2)) p3) pos) (TR X.K (evE G cl (.slR a hi))) := (pe_slR ha hh).weak (by
  rintro σ H Q ⟨W, F, μ, ρ, S, d, S', st, en, e, p⟩
  obtain ⟨d1, S1, e1, e2⟩ := bnd_inv e
  obtain ⟨o2, S3, e5, e6⟩ := bnd_inv e2
  obtain ⟨r, e7, e8⟩ := lft_inv e6
  cases e8
  refine ⟨W, F, μ, ρ, S, d1, S1, st, en, e1, fun v H1 W1 μ1 x1 st1 r1 => ⟨W1, F, μ1, ρ, S1, o2, _, st1, en.mono x1, e5, fun H3 W3 μ3 x3 st3 => ?_⟩⟩
  by_cases ct : ∃ xs, d1 = .tup xs
  · obtain ⟨xs, rfl⟩ := ct
    cases o2 with
    | some _ => cases e7
    | none =>
      cases e7
      obtain ⟨a, vs, rfl, h1, h2⟩ := r1.m x3
      exact .inl ⟨a, vs, rfl, st3.sqT h1, rfl, (p.ext (x1.trans x3)).tup st3 h2.reverse⟩
  have e7 : slRL S' d1 o2 = some d := by
    cases d1 <;> first | exact e7 | exact absurd ⟨_, rfl⟩ ct
  refine .inr ?_
  cases q : lstOf S' d1 with
  | none => simp only [slRL, q] at e7; cases e7
  | some xs =>
    obtain ⟨a, vs, rfl, h1, h2⟩ := lst_of st3 (r1.m x3) q
    cases o2 with
    | none =>
      simp only [slRL, q] at e7
      cases e7
      exact ⟨a, vs, vs.reverse, rfl, h1, .inl ⟨rfl, rfl⟩, (p.ext (x1.trans x3)).lst st3 h2.reverse⟩
    | some i =>
      simp only [slRL, q, Option.bind_some] at e7
      split at e7
      · rename_i c
        cases e7
        exact ⟨a, vs, _, rfl, h1, .inr ⟨i, rfl, c, rfl⟩, (p.ext (x1.trans x3)).lst st3 (h2.drop _).reverse⟩
      · cases e7)
theorem tr_call (gd : Good G cl k Γ X) {g : Nat} {f : Fn} {es : MEs} {x : Str} {xs : List Expr} {p pos : Pos} (hg : G[g]? = some (x, .fn f)) (hgl : Gl X x) (hdb : (x == ("__debug__" : Str)) = false) (hx : chkEs G es Γ xs = true) (h : PA X xs (TAR X.K (evEs G cl es))) :
    PE X (.Call (.Name x p) xs [] pos) (TR X.K (evE G cl (.call g es))) := by
  obtain ⟨a, fd, ps, hm, hk, hb, F⟩ := gd.gf.fn g x f hg
  have w : ∀ σ H Q, TR X.K (evE G cl (.call g es)) σ H Q → tCall (spOf X.K f.np (cl g)) [] E0 (TAR X.K (evEs G cl es)) σ H Q := by
    rintro σ H Q ⟨W, F, μ, ρ, S, d, S', st, en, e, p⟩
    obtain ⟨ds, S1, e1, e2⟩ := bnd_inv e
    refine ⟨W, F, μ, ρ, S, ds, S1, st, en, e1, fun vs H1 W1 μ1 x1 st1 r1 => ?_⟩
    show spOf X.K f.np (cl g) (vs ++ []) H1 Q E0
    rw [List.append_nil]
    exact ⟨r1.length.trans (gd.gf.len g x f ds S1 _ hg e2), W1, F, μ1, S1, ds, d, S', st1, r1, e2, p.ext x1⟩
  cases xs with
  | nil =>
    cases es with
    | cons _ _ => cases hx
    | nil =>
      refine (pe_call0 F gd.room hgl hm hk hb .nil pass0 hdb).weak fun σ H Q q => ?_
      obtain ⟨W, F, μ, ρ, S, d, S', st, en, e, p⟩ := q
      have e : cl g [] S = some (d, S') := e
      show spOf X.K f.np (cl g) ([] ++ []) H Q E0
      exact ⟨(gd.gf.len g x f [] S _ hg e), W, F, μ, S, [], d, S', st, rfl, e, p⟩
  | cons y ys =>
    cases es with
    | nil => cases hx
    | cons e1 es' =>
      obtain ⟨ok, h2⟩ := bk (show (okX y && (chkE G e1 Γ y && chkEs G es' Γ ys)) = true from hx)
      exact (pe_call F gd.room hgl hm hk hb .nil pass0 h hdb (star_ok ok ys X.env) (stars_any (bk h2).2).1).weak w
theorem tr_bi (gd : Good G cl k Γ X) {g : Nat} {b : BI} {es : MEs} {xs : List Expr} {p pos : Pos} (hg : G[g]? = some (biName b, .blt)) (hgl : Gl X (biName b)) (hx : chkEs G es Γ xs = true) (hne : xs.isEmpty = false) (h : PA X xs (TAR X.K (evEs G cl es))) :
    PE X (.Call (.Name (biName b) p) xs [] pos) (TR X.K (evE G cl (.bi b g es))) := by
  have hm := gd.gf.blt g _ hg
  have w : ∀ σ H Q, TR X.K (evE G cl (.bi b g es)) σ H Q → tCB (rBi X.K b) (TAR X.K (evEs G cl es)) σ H Q := by
    rintro σ H Q ⟨W, F, μ, ρ, S, d, S', st, en, e, p⟩
    obtain ⟨ds, S1, e1, e2⟩ := bnd_inv e
    obtain ⟨r, e3, e4⟩ := lft_inv e2
    cases e4
    exact ⟨W, F, μ, ρ, S, ds, _, st, en, e1, fun vs H1 W1 μ1 x1 st1 r1 => ⟨W1, F, μ1, _, ds, d, st1, r1, e3, p.ext x1⟩⟩
  cases xs with
  | nil => cases hne
  | cons y ys =>
    cases es with
    | nil => cases hx
    | cons e1 es' =>
      obtain ⟨ok, h2⟩ := bk (show (okX y && (chkE G e1 Γ y && chkEs G es' Γ ys)) = true from hx)
      have s1 := star_ok ok ys X.env
      have s2 := (stars_any (pos := pos) (env := X.env) (bk h2).2).1
      have hv := bi_boot b
      have hc := bi_call (X := X) gd.calm b
      have go1 : ∀ id, biVal b = .builtin id → PE X (.Call (.Name (biName b) p) (y :: ys) [] pos) (tCB (rBi X.K b) (TAR X.K (evEs G cl (.cons e1 es')))) := fun id e => by
        rw [e] at hv hc
        exact pe_callB hc hgl hm hv h (by cases b <;> decide) (by cases b <;> decide) s1 s2
      have go2 : ∀ T, biVal b = .type T → PE X (.Call (.Name (biName b) p) (y :: ys) [] pos) (tCB (rBi X.K b) (TAR X.K (evEs G cl (.cons e1 es')))) := fun T e => by
        rw [e] at hv hc
        exact pe_callTy hc hgl hm hv h (by cases b <;> decide) (by cases b <;> decide) s1 s2
      refine L2.PE.weak ?_ w
      cases b <;> first | exact go1 _ rfl | exact go2 _ rfl
theorem tr_isI (gd : Good G cl k Γ X) {g h' : Nat} {n : String} {a : ME} {y : Expr} {t : Str} {p p2 pos : Pos} (hg : G[g]? = some (("isinstance" : Str), GK.blt)) (hgl : Gl X "isinstance") (hh : G[h']? = some (t, .blt)) (hhl : Gl X t) (hdb : (t == ("__debug__" : Str)) = false) (hnm : t ≠ "__name__")
    (hb : bootBuiltins t = some (.type n)) (ok : okX y = true) (h : PE X y (TR X.K (evE G cl a))) : PE X (.Call (.Name "isinstance" p) [y, .Name t p2] [] pos) (TR X.K (evE G cl (.isI g h' n a))) := by
  have hm := gd.gf.blt g _ hg
  have hm2 := gd.gf.blt h' _ hh
  refine (pe_callB (call_isi (X := X)) hgl hm (by decide +kernel) (pa_cons h (pa_cons (pe_bltn (v := .ty n) hhl hm2 hb rfl hnm hdb) pa_nil (by rfl)) (star_ok ok _ X.env)) (by decide) (by decide) (star_ok ok _ X.env) (by rfl)).weak ?_
  rintro σ H Q ⟨W, F, μ, ρ, S, d, S', st, en, e, p⟩
  obtain ⟨d1, S1, e1, e2⟩ := bnd_inv e
  obtain ⟨tn, e3, e4⟩ := lft_inv e2
  obtain ⟨b, e5, e6⟩ := lft_inv e4
  cases e6
  exact ⟨W, F, μ, ρ, S, d1, _, st, en, e1, fun v H1 W1 μ1 x1 st1 r1 => ⟨v, .ty n, .type tn, .type n, b, rfl, .ty n, ty_rep st1 r1 e3, kit_ty e5, (p.ext x1).blv st1⟩⟩
theorem tr_meth (gd : Good G cl k Γ X) {m : MT} {o : ME} {es : MEs} {y : Expr} {xs : List Expr} {ap pos : Pos} (hc : noCall y = true) (hl : (ap.endLine == pos.line) = true) (h30 : xs.length < 30) (ho : PE X y (TR X.K (evE G cl o))) (hx : chkEs G es Γ xs = true) (h : PA X xs (TAR X.K (evEs G cl es))) :
    PE X (.Call (.Attribute y (mtName m) ap) xs [] pos) (TR X.K (evE G cl (.meth m o es))) := by
  have w : ∀ σ H Q, TR X.K (evE G cl (.meth m o es)) σ H Q → tBM X.K "list" (rMt X.K m) (TR X.K (evE G cl o)) (TAR X.K (evEs G cl es)) σ H Q := by
    rintro σ H Q ⟨W, F, μ, ρ, S, d, S', st, en, e, p⟩
    obtain ⟨d1, S1, e1, e2⟩ := bnd_inv e
    obtain ⟨ys, e3, e4⟩ := lft_inv e2
    obtain ⟨ds, S2, e5, e6⟩ := bnd_inv e4
    refine ⟨W, F, μ, ρ, S, d1, S1, st, en, e1, fun v H1 W1 μ1 x1 st1 r1 => ⟨?_, W1, F, μ1, ρ, S1, ds, S2, st1, en.mono x1, e5, fun vs H2 W2 μ2 x2 st2 r2 => ⟨W2, F, μ2, S2, d1, ds, d, S', st2, r1.m x2, r2, e6, p.ext (x1.trans x2)⟩⟩⟩
    obtain ⟨a, vs, rfl, h1, _⟩ := lst_of st1 r1 e3
    exact Or.inl ⟨rfl, vs, h1⟩
  have pa := PySem.F.plainAttrs_list
  cases xs with
  | nil =>
    cases es with
    | cons _ _ => cases hx
    | nil =>
      have go : ∀ {name : Str} {id : String}, name = mtName m → id = mtId m → Slot "list" name id → typeOf (.builtin id) = pure (.type "method_descriptor") → PE X (.Call (.Attribute y (mtName m) ap) [] [] pos) (TR X.K (evE G cl (.meth m o .nil))) := fun {name id} e1 e2 sl ty => by
        subst e1 e2
        refine (pe_bm0 pa sl ty (mt_call m) ho (base_ok hc _ _ _) hl).weak fun σ H Q q => ?_
        obtain ⟨W, F, μ, ρ, S, d, S', st, en, e, p⟩ := q
        obtain ⟨d1, S1, e1, e2⟩ := bnd_inv e
        obtain ⟨ys, e3, e4⟩ := lft_inv e2
        have e6 : methD m S1 d1 [] = some (d, S') := e4
        refine ⟨W, F, μ, ρ, S, d1, S1, st, en, e1, fun v H1 W1 μ1 x1 st1 r1 => ⟨?_, W1, F, μ1, S1, d1, [], d, S', st1, r1, rfl, e6, p.ext x1⟩⟩
        obtain ⟨a, vs, rfl, h1, _⟩ := lst_of st1 r1 e3
        exact Or.inl ⟨rfl, vs, h1⟩
      cases m
      · exact go rfl rfl PySem.F.slot_list_append PySem.F.type_list_append
      · exact go rfl rfl PySem.F.slot_list_pop PySem.F.type_list_pop
      · exact go rfl rfl PySem.F.slot_list_extend PySem.F.type_list_extend
  | cons z zs =>
    cases es with
    | nil => cases hx
    | cons e1 es' =>
      obtain ⟨ok, h2⟩ := bk (show (okX z && (chkE G e1 Γ z && chkEs G es' Γ zs)) = true from hx)
      have s1 := star_ok ok zs X.env
      have s2 := (stars_any (pos := pos) (env := X.env) (bk h2).2).1
      have s3 : ((backTo pos (starEach (z :: zs) X.env)).all (fun x => !x.1) && (backToKw pos (keywordEach [] X.env)).all (fun x => x.1.isSome) && decide ((z :: zs).length + ([] : List Keyword).length + (if ([] : List Keyword).isEmpty then 0 else 1) < 30)) = true := by
        rw [(stars_any (pos := pos) (env := X.env) hx).2]
        have : decide ((z :: zs).length + ([] : List Keyword).length + (if ([] : List Keyword).isEmpty then 0 else 1) < 30) = true := decide_eq_true (by simpa using h30)
        rw [this]
        rfl
      have go : ∀ {name : Str} {id : String}, name = mtName m → id = mtId m → Slot "list" name id → typeOf (.builtin id) = pure (.type "method_descriptor") → PE X (.Call (.Attribute y (mtName m) ap) (z :: zs) [] pos) (TR X.K (evE G cl (.meth m o (.cons e1 es')))) := fun {name id} q1 q2 sl ty => by
        subst q1 q2
        exact (pe_bm pa sl ty (mt_call m) ho h (base_ok hc _ _ _) s3 hl s1 s2).weak w
      cases m
      · exact go rfl rfl PySem.F.slot_list_append PySem.F.type_list_append
      · exact go rfl rfl PySem.F.slot_list_pop PySem.F.type_list_pop
      · exact go rfl rfl PySem.F.slot_list_extend PySem.F.type_list_extend
end
end Rw

/-! M11: displays of dicts, comprehensions, all expressions -/
namespace Rw
open PySem PySem.Spec PyProof.Rows L2
section
variable {G : GT} {cl : Nat → List D → Sto → Rs D} {k : Nat} {Γ : Syn} {X : Cx}
/-! ### dicts -/
theorem RepKV.nil {K : PySem.W.Frag} {W : Hp} {μ : List Addr} : RepKV K W μ [] [] := ⟨rfl, rfl⟩
theorem RepKV.cons {K : PySem.W.Frag} {W : Hp} {μ : List Addr} {q : Key} {d : D} {v : V} {kvs : List (Key × D)} {ws : List (Key × V)} (hd : Rep K W μ d v) (h : RepKV K W μ kvs ws) : RepKV K W μ ((q, d) :: kvs) ((q, v) :: ws) :=
  ⟨by simp [h.1], ⟨v, _, rfl, hd, h.2⟩⟩
theorem RepKV.inv {K : PySem.W.Frag} {W : Hp} {μ : List Addr} {q : Key} {d : D} {kvs : List (Key × D)} {ws : List (Key × V)} (h : RepKV K W μ ((q, d) :: kvs) ws) : ∃ v r, ws = (q, v) :: r ∧ Rep K W μ d v ∧ RepKV K W μ kvs r := by
  obtain ⟨h1, v, r, e, h2, h3⟩ := h
  cases ws with
  | nil => simp at h1
  | cons p ps =>
    obtain ⟨pk, pv⟩ := p
    have e1 : q = pk ∧ kvs.map (·.1) = ps.map (·.1) := by simpa using h1
    have e2 : pv = v ∧ ps.map (·.2) = r := by simpa using e
    obtain ⟨rfl, e3⟩ := e1
    obtain ⟨rfl, rfl⟩ := e2
    exact ⟨pv, ps, rfl, h2, e3, h3⟩
theorem RepKV.store {K : PySem.W.Frag} {W : Hp} {μ : List Addr} : ∀ {kvs : List (Key × D)} {ws : List (Key × V)} {q : Key} {d : D} {v : V}, RepKV K W μ kvs ws → Rep K W μ d v → RepKV K W μ (storeK kvs q d) (putK ws q v) := by
  intro kvs ws q d v h hd
  have hany : ∀ {kvs : List (Key × D)} {ws : List (Key × V)}, RepKV K W μ kvs ws → (kvs.any fun kv => decide (kv.1 = q)) = (ws.any fun kv => decide (kv.1 = q)) := by
    intro kvs
    induction kvs with
    | nil =>
      intro ws h
      cases ws with
      | nil => rfl
      | cons p ps => have := h.1; simp at this
    | cons p ps ih =>
      intro ws h
      obtain ⟨pk, pd⟩ := p
      obtain ⟨v, r, rfl, _, h2⟩ := h.inv
      simp only [List.any_cons, ih h2]
  have hmap : ∀ {kvs : List (Key × D)} {ws : List (Key × V)}, RepKV K W μ kvs ws → RepKV K W μ (kvs.map fun kv => if kv.1 = q then (kv.1, d) else kv) (ws.map fun kv => if kv.1 = q then (kv.1, v) else kv) := by
    intro kvs
    induction kvs with
    | nil =>
      intro ws h
      cases ws with
      | nil => exact RepKV.nil
      | cons p ps => have := h.1; simp at this
    | cons p ps ih =>
      intro ws h
      obtain ⟨pk, pd⟩ := p
      obtain ⟨u, r, rfl, h1, h2⟩ := h.inv
      simp only [List.map_cons]
      by_cases c : pk = q
      · rw [if_pos c, if_pos c]; exact (ih h2).cons hd
      · rw [if_neg c, if_neg c]; exact (ih h2).cons h1
  unfold storeK putK
  rw [hany h]
  split
  · exact hmap h
  · exact ⟨by simp [h.1], by simpa using h.2.app (Reps.one hd)⟩
theorem RepKV.merge {K : PySem.W.Frag} {W : Hp} {μ : List Addr} : ∀ {more : List (Key × D)} {mw : List (Key × V)} {kvs : List (Key × D)} {ws : List (Key × V)}, RepKV K W μ kvs ws → RepKV K W μ more mw → RepKV K W μ (mergeKD kvs more) (mergeK ws mw) := by
  intro more
  induction more with
  | nil =>
    intro mw kvs ws h h2
    cases mw with
    | nil => exact h
    | cons p ps => have := h2.1; simp at this
  | cons p ps ih =>
    intro mw kvs ws h h2
    obtain ⟨pk, pd⟩ := p
    obtain ⟨u, r, rfl, h3, h4⟩ := h2.inv
    exact ih (mw := r) (kvs := storeK kvs pk pd) (ws := putK ws pk u) (h.store h3) h4
/-- the pairs of a display -/
def PPost (K : PySem.W.Frag) (W F : Hp) (μ : List Addr) (S : Sto) (ps : List (D × D)) (Q : List (V × V) → Hp → Prop) : Prop :=
  ∀ qs H' W' μ', Ext W μ W' μ' → Stt K W' F μ' S H' → Reps K W' μ' (ps.map (·.1)) (qs.map (·.1)) → Reps K W' μ' (ps.map (·.2)) (qs.map (·.2)) → Q qs H'
structure PPok (X : Cx) (pos : Pos) (keys : List (Option Expr)) (values : List Expr) (ev : Env → Sto → Rs (List (D × D))) : Prop where
  ex : ∃ trs, PPs X pos keys values trs ∧ ∀ σ H Q W F μ ρ S ps S', Stt X.K W F μ S H → EnvR X.K W μ ρ σ → ev ρ S = some (ps, S') → PPost X.K W F μ S' ps Q → tPairs trs σ H Q
theorem pp_nil {pos : Pos} : PPok X pos [] [] (evPs G cl .nil) := ⟨[], pps_nil, fun σ H Q W F μ ρ S ps S' st en e p => by
  cases e
  exact p [] H W μ Ext.refl st rfl rfl⟩
theorem pp_cons {pos : Pos} {a b : ME} {r : MPs} {x y : Expr} {ks : List (Option Expr)} {vs : List Expr} (ha : PE X x (TR X.K (evE G cl a))) (hb : PE X y (TR X.K (evE G cl b))) (hr : PPok X pos ks vs (evPs G cl r)) : PPok X pos (some x :: ks) (y :: vs) (evPs G cl (.cons a b r)) := by
  obtain ⟨trs, h1, h2⟩ := hr
  refine ⟨_, pps_cons ha hb h1, fun σ H Q W F μ ρ S ps S' st en e p => ?_⟩
  obtain ⟨d1, S1, e1, e2⟩ := bnd_inv e
  obtain ⟨d2, S2, e3, e4⟩ := bnd_inv e2
  obtain ⟨d3, S3, e5, e6⟩ := bnd_inv e4
  cases e6
  refine ⟨W, F, μ, ρ, S, d1, S1, st, en, e1, fun v1 H1 W1 μ1 x1 st1 r1 => ⟨W1, F, μ1, ρ, S1, d2, S2, st1, en.mono x1, e3, fun v2 H2 W2 μ2 x2 st2 r2 => ?_⟩⟩
  refine h2 σ H2 _ W2 F μ2 ρ S2 d3 _ st2 (en.mono (x1.trans x2)) e5 fun qs H3 W3 μ3 x3 st3 q1 q2 => ?_
  exact p ((v1, v2) :: qs) H3 W3 μ3 ((x1.trans x2).trans x3) st3 ⟨v1, _, rfl, r1.m (x2.trans x3), q1⟩ ⟨v2, _, rfl, r2.m x3, q2⟩
theorem keysD_rep {K : PySem.W.Frag} {W : Hp} {μ : List Addr} : ∀ {ps : List (D × D)} {qs : List (V × V)} {kvs : List (Key × D)}, keysD ps = some kvs → Reps K W μ (ps.map (·.1)) (qs.map (·.1)) → Reps K W μ (ps.map (·.2)) (qs.map (·.2)) →
    ∃ ws : List (Key × V), qs = ws.map (fun kv => (kV kv.1, kv.2)) ∧ RepKV K W μ kvs ws ∧ ws.length = kvs.length
  | [], qs, kvs, e, h1, h2 => by
    cases e
    cases qs with
    | nil => exact ⟨[], rfl, RepKV.nil, rfl⟩
    | cons p ps => have := h1.length; simp at this
  | (a, b) :: ps, qs, kvs, e, h1, h2 => by
    simp only [keysD] at e
    cases q1 : keyD a with
    | none => rw [q1] at e; cases e
    | some key =>
      cases q2 : keysD ps with
      | none => rw [q1, q2] at e; cases e
      | some kvs' =>
        rw [q1, q2] at e
        cases e
        cases qs with
        | nil => have := h1.length; simp at this
        | cons p qs =>
          obtain ⟨p1, p2⟩ := p
          obtain ⟨v, r, e1, r1, t1⟩ := (show ∃ v r, (p1 :: qs.map (·.1)) = v :: r ∧ Rep K W μ a v ∧ Reps K W μ (ps.map (·.1)) r from h1)
          obtain ⟨u, r', e2, r2, t2⟩ := (show ∃ v r, (p2 :: qs.map (·.2)) = v :: r ∧ Rep K W μ b v ∧ Reps K W μ (ps.map (·.2)) r from h2)
          cases e1
          cases e2
          obtain ⟨ws, e3, e4, e5⟩ := keysD_rep q2 t1 t2
          have := key_rep r1 q1
          subst this
          exact ⟨(key, p2) :: ws, by simp [e3], e4.cons r2, by simp [e5]⟩
theorem tr_dict {ps : MPs} {ks : List (Option Expr)} {vs : List Expr} {pos : Pos} (h : PPok X pos ks vs (evPs G cl ps)) (hall : ks.all (·.isSome) = true) (hl : ks.length = vs.length) (h0 : ks ≠ []) (h15 : ks.length ≤ 15) : PE X (.Dict ks vs pos) (TR X.K (evE G cl (.dict ps))) := by
  obtain ⟨trs, h1, h2⟩ := h
  refine (pe_disp h1 hall hl h0 h15).weak ?_
  rintro σ H Q ⟨W, F, μ, ρ, S, d, S', st, en, e, p⟩
  obtain ⟨qs, S1, e1, e2⟩ := bnd_inv e
  obtain ⟨kvs, e3, e4⟩ := lft_inv e2
  split at e4
  · rename_i c
    cases e4
    intro a ha
    have hF := (st.noF ha).1
    refine h2 σ _ _ W (upd F a (.dK [])) μ ρ S qs _ (st.frame (.dK []) ha) en e1 fun us H2 W2 μ2 x2 st2 q1 q2 => ?_
    obtain ⟨ws, e5, e6, e7⟩ := keysD_rep e3 q1 q2
    refine ⟨st2.inF, ws, e5, by rw [e7]; exact c, ?_⟩
    have x3 : Ext W2 μ2 W2 (μ2 ++ [a]) := ⟨fun _ _ h => h, fun r b h => by rw [List.getElem?_append_left (List.getElem?_eq_some_iff.mp h).1]; exact h⟩
    obtain ⟨st3, _⟩ := (st2.reframe (o' := .dK (mergeK [] ws))).toCell (c := .dk (mergeKD [] kvs)) hF ⟨_, upd_same, (RepKV.merge RepKV.nil e6).mono x3⟩
    exact p _ _ _ _ (x2.trans x3) st3 ⟨a, by rw [← st2.len]; simp, rfl⟩
  · cases e4

/-! ### comprehensions -/
theorem ti_seq {e : ME} {x tg : Expr} (h : PE X x (TR X.K (evE G cl e))) : PI X tg x (TIR X.K (evI G cl (.seq e))) := (pi_seq h).weak (by
  rintro σ H R ⟨W, F, μ, ρ, S, w, S', st, en, e, p⟩
  obtain ⟨d1, S1, e1, e2⟩ := bnd_inv e
  obtain ⟨w', e3, e4⟩ := lft_inv e2
  cases e4
  refine ⟨W, F, μ, ρ, S, d1, _, st, en, e1, fun v H1 W1 μ1 x1 st1 r1 => ?_⟩
  obtain ⟨a, rfl, ⟨h1, wk⟩ | ⟨h1, wk⟩⟩ := items_rep st1 r1 e3
  · exact ⟨a, rfl, .inl ⟨h1, p _ H1 W1 μ1 x1 st1 wk⟩⟩
  · exact ⟨a, rfl, .inr ⟨h1, p _ H1 W1 μ1 x1 st1 wk⟩⟩)
theorem ti_rng (gd : Good G cl k Γ X) {g : Nat} {es : MEs} {xs : List Expr} {tg : Expr} {p pos : Pos} (hg : G[g]? = some (("range" : Str), GK.blt)) (hgl : Gl X "range") (hx : chkEs G es Γ xs = true) (hn : xs.length = 1 ∨ xs.length = 2) (h : PA X xs (TAR X.K (evEs G cl es))) :
    PI X tg (.Call (.Name "range" p) xs [] pos) (TIR X.K (evI G cl (.rng g es))) := by
  have hm := gd.gf.blt g _ hg
  rcases hn with hn | hn
  · match xs, hn, es, hx, h with
    | [x], _, .nil, hx, _ => cases hx
    | [x], _, .cons e1 es', hx, h =>
      obtain ⟨ok, h2⟩ := bk (show (okX x && (chkE G e1 Γ x && chkEs G es' Γ [])) = true from hx)
      refine (pi_range1 hgl hm h (star_ok ok [] X.env)).weak ?_
      rintro σ H R ⟨W, F, μ, ρ, S, w, S', st, en, e, p⟩
      obtain ⟨ds, S1, e3, e4⟩ := bnd_inv e
      obtain ⟨ys, e5, e6⟩ := lft_inv e4
      cases e6
      refine ⟨W, F, μ, ρ, S, ds, _, st, en, e3, fun vs H1 W1 μ1 x1 st1 r1 => ?_⟩
      cases es' with
      | cons _ _ => cases (bk h2).2
      | nil =>
        obtain ⟨d, Sa, e7, e8⟩ := bnd_inv e3
        cases e8
        unfold rngD at e5
        split at e5
        · rename_i b q
          have : d = .int b := by
            have := congrArg List.head? q
            simpa using this
          subst this
          obtain ⟨v, rfl, r2⟩ := r1.inv1
          cases (show v = _ from r2)
          split at e5
          · rename_i c
            cases e5
            exact ⟨b, rfl, c.1, c.2, p _ H1 W1 μ1 x1 st1 wk_rng⟩
          · cases e5
        · rename_i q; simp at q
        · cases e5
  · match xs, hn, es, hx, h with
    | [x, y], _, .nil, hx, _ => cases hx
    | [x, y], _, .cons e1 es', hx, h =>
      obtain ⟨ok, h2⟩ := bk (show (okX x && (chkE G e1 Γ x && chkEs G es' Γ [y])) = true from hx)
      cases es' with
      | nil => cases (bk h2).2
      | cons e2 es2 =>
        obtain ⟨ok2, h3⟩ := bk (show (okX y && (chkE G e2 Γ y && chkEs G es2 Γ [])) = true from (bk h2).2)
        have s2 : starEach [y] X.env = [(false, eval y X.env)] := star_ok ok2 [] X.env
        refine (pi_range2 hgl hm h (by rw [star_ok ok [y] X.env, s2]) s2).weak ?_
        rintro σ H R ⟨W, F, μ, ρ, S, w, S', st, en, e, p⟩
        obtain ⟨ds, S1, e3, e4⟩ := bnd_inv e
        obtain ⟨ys, e5, e6⟩ := lft_inv e4
        cases e6
        refine ⟨W, F, μ, ρ, S, ds, _, st, en, e3, fun vs H1 W1 μ1 x1 st1 r1 => ?_⟩
        cases es2 with
        | cons _ _ => cases (bk h3).2
        | nil =>
          obtain ⟨d, Sa, e7, e8⟩ := bnd_inv e3
          obtain ⟨dd, Sb, e9, e10⟩ := bnd_inv e8
          cases e10
          obtain ⟨d', Sc, e11, e12⟩ := bnd_inv e9
          cases e12
          unfold rngD at e5
          split at e5
          · rename_i q; simp at q
          · rename_i a b q
            have q1 : d = .int a ∧ d' = .int b := by simpa using q
            obtain ⟨rfl, rfl⟩ := q1
            obtain ⟨v, u, rfl, r2, r3⟩ := r1.inv2
            cases (show v = _ from r2)
            cases (show u = _ from r3)
            split at e5
            · rename_i c
              cases e5
              exact ⟨a, b, rfl, c, p _ H1 W1 μ1 x1 st1 wk_rng⟩
            · cases e5
          · cases e5
theorem _root_.L2.PTs.weak {ifs : List Expr} {t t' : TT} (h : PTs X ifs t) (w : ∀ σ H Q, t' σ H Q → t σ H Q) : PTs X ifs t' := ⟨fun pins s σ H Q I q => h.run pins s σ H Q I (w σ H Q q)⟩
theorem tc_nil : PTs X [] (TTR X.K (evC G cl .none)) := pts_nil.weak (by
  rintro σ H Q ⟨W, F, μ, ρ, S, b, S', st, en, e, p⟩
  cases e
  exact p H W μ Ext.refl st)
theorem tc_one {e : ME} {x : Expr} (h : PT X x (TTR X.K (evT G cl e))) : PTs X [x] (TTR X.K (evC G cl (.some e))) := pts_one h
theorem own_snd (N : List Str) (vs : List Nat) : (ownOf N vs).map (·.2) = vs := by
  unfold ownOf
  rw [List.map_map]
  exact List.map_id vs
/-- what a comprehension's parts do, in its block -/
structure LcOk (G : GT) (cl : Nat → List D → Sto → Rs D) (X : Cx) (scope : Scope) (elt tg : Expr) (ifs : List Expr) (me : ME) (mg : MG) (mc : MO) : Prop where
  g : ∀ (s : Shared) (H : Hp) (C : Addr) (cells : List (Str × Addr)) (fp : List Addr), PG (X.blk s H scope (compEnvC scope cells C X.env) fp) tg (TGR X.K (slG mg) (asgG mg))
  t : ∀ (s : Shared) (H : Hp) (C : Addr) (cells : List (Str × Addr)) (fp : List Addr), PTs (X.blk s H scope (compEnvC scope cells C X.env) fp) ifs (TTR X.K (evC G cl mc))
  e : ∀ (s : Shared) (H : Hp) (C : Addr) (cells : List (Str × Addr)) (fp : List Addr), PE (X.blk s H scope (compEnvC scope cells C X.env) fp) elt (TR X.K (evE G cl me))
theorem lc_w {mu : Bool} {vs : List Nat} {me : ME} {mg : MG} {mi : MI} {mc : MO} (hs : ∀ i ∈ slG mg, i ∈ vs) : ∀ σ H Q, TR X.K (evE G cl (.lc mu vs me mg mi mc)) σ H Q → tLc (TIR X.K (evI G cl mi)) (TGR X.K (slG mg) (asgG mg)) (TTR X.K (evC G cl mc)) (TR X.K (evE G cl me)) vs σ H Q := by
  rintro σ H Q ⟨W, F, μ, ρ, S, d, S', st, en, e, p⟩
  obtain ⟨w, S1, e1, e2⟩ := bnd_inv e
  split at e2
  · rename_i hl
    obtain ⟨acc, S5, e3, e4⟩ := bnd_inv e2
    refine ⟨W, F, μ, ρ, S, w, S1, st, en, e1, fun J H1 W1 μ1 x1 st1 wk => ?_⟩
    refine comp_reads (mu := mu) st1 (en.mono x1) wk hl hs e3 ?_
    cases mu with
    | true => rw [if_pos rfl] at e4 ⊢; cases e4; exact p.ext x1
    | false => rw [if_neg Bool.false_ne_true] at e4 ⊢; cases e4; exact p.ext x1
  · cases e2
theorem tr_lc (gd : Good G cl k Γ X) {mu : Bool} {vs : List Nat} {me : ME} {mg : MG} {mi : MI} {mc : MO} {elt tg iter : Expr} {ifs : List Expr} {scope : Scope} {pos : Pos} (hs : ∀ i ∈ slG mg, i ∈ vs) (ok : okX iter = true) (hb : blkC Γ.N Γ.sc scope (ownOf Γ.N vs) = true)
    (hi : PI X tg iter (TIR X.K (evI G cl mi))) (L : LcOk G cl X scope elt tg ifs me mg mc) : PE X (.ListComp elt [⟨tg, iter, ifs, 0⟩] scope pos) (TR X.K (evE G cl (.lc mu vs me mg mi mc))) := by
  have B : BlkOk X.N X.env.scope scope (ownOf Γ.N vs) := by rw [gd.N, gd.sc]; exact blkOk_by hb
  have h := pe_lc (pos := pos) gd.calm gd.nd hi B L.g L.t L.e (fold_ok ok X.env)
  rw [own_snd] at h
  exact h.weak (lc_w hs)

theorem lc2_w {mu : Bool} {vs vs1 : List Nat} {me : ME} {mg mg1 : MG} {mi mi1 : MI} {mc mc1 : MO} (hs : ∀ i ∈ slG mg, i ∈ vs) (hs1 : ∀ i ∈ slG mg1, i ∈ vs1) : ∀ σ H Q, TR X.K (evE G cl (.lc2 mu vs me mg mi mc vs1 mg1 mi1 mc1)) σ H Q → tLc2 (TIR X.K (evI G cl mi)) (TGR X.K (slG mg) (asgG mg)) (TTR X.K (evC G cl mc)) (TIR X.K (evI G cl mi1)) (TGR X.K (slG mg1) (asgG mg1)) (TTR X.K (evC G cl mc1)) (TR X.K (evE G cl me)) vs vs1 σ H Q := by
  rintro σ H Q ⟨W, F, μ, ρ, S, d, S', st, en, e, p⟩
  obtain ⟨w, S1, e1, e2⟩ := bnd_inv e
  obtain ⟨acc, S5, e3, e4⟩ := bnd_inv e2
  refine ⟨W, F, μ, ρ, S, w, S1, st, en, e1, fun J H1 W1 μ1 x1 st1 wk => ?_⟩
  refine comp2_reads (mu := mu) st1 (en.mono x1) wk hs hs1 e3 ?_
  cases mu with
  | true => rw [if_pos rfl] at e4 ⊢; cases e4; exact p.ext x1
  | false => rw [if_neg Bool.false_ne_true] at e4 ⊢; cases e4; exact p.ext x1
structure Lc2Ok (G : GT) (cl : Nat → List D → Sto → Rs D) (X : Cx) (scope : Scope) (elt tg : Expr) (ifs : List Expr) (tg1 iter1 : Expr) (ifs1 : List Expr) (me : ME) (mg : MG) (mc : MO) (mg1 : MG) (mi1 : MI) (mc1 : MO) : Prop where
  g : ∀ (s : Shared) (H : Hp) (C : Addr) (cells : List (Str × Addr)) (fp : List Addr), PG (X.blk s H scope (compEnvC scope cells C X.env) fp) tg (TGR X.K (slG mg) (asgG mg))
  t : ∀ (s : Shared) (H : Hp) (C : Addr) (cells : List (Str × Addr)) (fp : List Addr), PTs (X.blk s H scope (compEnvC scope cells C X.env) fp) ifs (TTR X.K (evC G cl mc))
  g1 : ∀ (s : Shared) (H : Hp) (C : Addr) (cells : List (Str × Addr)) (fp : List Addr), PG (X.blk s H scope (compEnvC scope cells C X.env) fp) tg1 (TGR X.K (slG mg1) (asgG mg1))
  i1 : ∀ (s : Shared) (H : Hp) (C : Addr) (cells : List (Str × Addr)) (fp : List Addr), PI (X.blk s H scope (compEnvC scope cells C X.env) fp) tg1 iter1 (TIR X.K (evI G cl mi1))
  t1 : ∀ (s : Shared) (H : Hp) (C : Addr) (cells : List (Str × Addr)) (fp : List Addr), PTs (X.blk s H scope (compEnvC scope cells C X.env) fp) ifs1 (TTR X.K (evC G cl mc1))
  e : ∀ (s : Shared) (H : Hp) (C : Addr) (cells : List (Str × Addr)) (fp : List Addr), PE (X.blk s H scope (compEnvC scope cells C X.env) fp) elt (TR X.K (evE G cl me))
theorem tr_lc2 (gd : Good G cl k Γ X) {mu : Bool} {vs vs1 : List Nat} {me : ME} {mg mg1 : MG} {mi mi1 : MI} {mc mc1 : MO} {elt tg iter tg1 iter1 : Expr} {ifs ifs1 : List Expr} {scope : Scope} {pos : Pos} (hv : ∀ i ∈ vs1, i ∈ vs) (hs : ∀ i ∈ slG mg, i ∈ vs) (hs1 : ∀ i ∈ slG mg1, i ∈ vs1) (ok : okX iter = true) (ok1 : okX iter1 = true) (hb : blkC Γ.N Γ.sc scope (ownOf Γ.N vs) = true)
    (hi : PI X tg iter (TIR X.K (evI G cl mi))) (L : Lc2Ok G cl X scope elt tg ifs tg1 iter1 ifs1 me mg mc mg1 mi1 mc1) : PE X (.ListComp elt [⟨tg, iter, ifs, 0⟩, ⟨tg1, iter1, ifs1, 0⟩] scope pos) (TR X.K (evE G cl (.lc2 mu vs me mg mi mc vs1 mg1 mi1 mc1))) := by
  have B : BlkOk X.N X.env.scope scope (ownOf Γ.N vs) := by rw [gd.N, gd.sc]; exact blkOk_by hb
  have h := pe_lc2 (vs1 := vs1) (pos := pos) gd.calm gd.nd hi B (by rw [own_snd]; exact hv) L.g L.t L.i1 L.g1 L.t1 L.e (fold_ok ok X.env) (fun env x => fold_ok ok1 env x)
  rw [own_snd] at h
  exact h.weak (lc2_w hs hs1)

/-! ### all expressions -/
mutual
theorem chkE_ok {G : GT} {cl : Nat → List D → Sto → Rs D} {k : Nat} : ∀ (m : ME) {Γ : Syn} {X : Cx} (e : Expr), Good G cl k Γ X → chkE G m Γ e = true → Eok G cl m X e
  | .var i, Γ, X, e, gd, h => by
    cases e <;> try (exact absurd (show false = true from h) Bool.false_ne_true)
    exact .of (tr_var gd.toSy h)
  | .int i, Γ, X, e, gd, h => by
    cases e <;> try (exact absurd (show false = true from h) Bool.false_ne_true)
    rename_i c n pos
    cases c <;> try (exact absurd (show false = true from h) Bool.false_ne_true)
    cases (dec (show decide (i = _) = true from h))
    exact .of (tr_const pe_int (fun _ _ => rfl) fun _ _ => rfl)
  | .str i, Γ, X, e, gd, h => by
    cases e <;> try (exact absurd (show false = true from h) Bool.false_ne_true)
    rename_i c n pos
    cases c <;> try (exact absurd (show false = true from h) Bool.false_ne_true)
    cases (dec (show decide (i = _) = true from h))
    exact .of (tr_const pe_str (fun _ _ => rfl) fun _ _ => rfl)
  | .bl i, Γ, X, e, gd, h => by
    cases e <;> try (exact absurd (show false = true from h) Bool.false_ne_true)
    rename_i c n pos
    cases c <;> try (exact absurd (show false = true from h) Bool.false_ne_true)
    cases (show i = _ from by simpa using (show (i == _) = true from h))
    exact .of (tr_const pe_bl (fun _ _ => rfl) fun _ _ => rfl)
  | .non, Γ, X, e, gd, h => by
    cases e <;> try (exact absurd (show false = true from h) Bool.false_ne_true)
    rename_i c n pos
    cases c <;> try (exact absurd (show false = true from h) Bool.false_ne_true)
    exact .of (tr_const pe_non (fun _ _ => rfl) fun _ _ => rfl)
  | .con g, Γ, X, e, gd, h => by
    cases e <;> try (exact absurd (show false = true from h) Bool.false_ne_true)
    rename_i x pos
    obtain ⟨h1, h2⟩ := bk (show (glB G Γ g x && (match conOf G g with
      | some _ => true
      | none => false)) = true from h)
    obtain ⟨⟨q, hg⟩, hgl, hdb, hnm⟩ := gl_ok gd.toSy h1
    cases c : conOf G g with
    | none => rw [c] at h2; cases h2
    | some d =>
      have hq : q = .con d := by
        unfold conOf at c
        rw [hg] at c
        cases q with
        | con d' => cases c; rfl
        | _ => cases c
      subst hq
      obtain ⟨u, v, hm, hr, hrep⟩ := gd.gf.con g x d hg
      exact .of (tr_const (pe_glob hgl hm hr hdb) (fun ρ S => by simp only [evE, c, lft_some]) hrep)
  | .madd a b, Γ, X, e, gd, h => by
    cases e <;> try (exact absurd (show false = true from h) Bool.false_ne_true)
    rename_i x op' y pos
    obtain ⟨h1, h2⟩ := bk (show (decide (op' = .Add) && (chkE G a Γ x && chkE G b Γ y)) = true from h)
    obtain ⟨h3, h4⟩ := bk h2
    cases (dec h1)
    exact .of (tr_madd (chkE_ok a x gd h3).pe (chkE_ok b y gd h4).pe)
  | .bin op a b, Γ, X, e, gd, h => by
    cases e <;> try (exact absurd (show false = true from h) Bool.false_ne_true)
    rename_i x op' y pos
    obtain ⟨h1, h2⟩ := bk (show (decide (op = op') && (chkE G a Γ x && chkE G b Γ y)) = true from h)
    obtain ⟨h3, h4⟩ := bk h2
    cases (dec h1)
    exact .of (tr_bin (chkE_ok a x gd h3).pe (chkE_ok b y gd h4).pe)
  | .neg a, Γ, X, e, gd, h => by
    cases e <;> try (exact absurd (show false = true from h) Bool.false_ne_true)
    rename_i op x pos
    cases op <;> try (exact absurd (show false = true from h) Bool.false_ne_true)
    exact .of (tr_neg (chkE_ok a x gd h).pe)
  | .cmp op a b, Γ, X, e, gd, h => by
    cases e <;> try (exact absurd (show false = true from h) Bool.false_ne_true)
    rename_i x ops ys pos
    match ops, ys, h with
    | [op'], [y], h =>
      obtain ⟨h1, h2⟩ := bk (show (decide (op = op') && (okX y && (chkE G a Γ x && chkE G b Γ y))) = true from h)
      obtain ⟨h3, h4⟩ := bk h2
      obtain ⟨h5, h6⟩ := bk h4
      cases (dec h1)
      exact tr_cmp gd.hu h3 (chkE_ok a x gd h5).pe (chkE_ok b y gd h6).pe
    | [], _, h => exact nomatch h
    | _ :: _ :: _, _, h => exact nomatch h
    | [_], [], h => exact nomatch h
    | [_], _ :: _ :: _, h => exact nomatch h
  | .ch op op' a b c, Γ, X, e, gd, h => by
    cases e <;> try (exact absurd (show false = true from h) Bool.false_ne_true)
    rename_i x ops ys pos
    match ops, ys, h with
    | [p, q], [y, z], h =>
      obtain ⟨h1, h2⟩ := bk (show (decide (op = p) && (decide (op' = q) && (okX z && (chkE G a Γ x && (chkE G b Γ y && chkE G c Γ z))))) = true from h)
      obtain ⟨h3, h4⟩ := bk h2
      obtain ⟨h5, h6⟩ := bk h4
      obtain ⟨h7, h8⟩ := bk h6
      obtain ⟨h9, h10⟩ := bk h8
      cases (dec h1)
      cases (dec h3)
      exact tr_ch gd.hu h5 (chkE_ok a x gd h7).pe (chkE_ok b y gd h9).pe (chkE_ok c z gd h10).pe
    | [], _, h => exact nomatch h
    | [_], _, h => exact nomatch h
    | _ :: _ :: _ :: _, _, h => exact nomatch h
    | [_, _], [], h => exact nomatch h
    | [_, _], [_], h => exact nomatch h
    | [_, _], _ :: _ :: _ :: _, h => exact nomatch h
  | .and a b, Γ, X, e, gd, h => by
    cases e <;> try (exact absurd (show false = true from h) Bool.false_ne_true)
    rename_i op es pos
    cases op <;> try (exact absurd (show false = true from h) Bool.false_ne_true)
    match es, h with
    | x :: y :: r, h =>
      obtain ⟨h1, h2⟩ := bk (show (chkE G a Γ x && chkE G b Γ (.BoolOp .And (y :: r) pos)) = true from h)
      have A := chkE_ok a x gd h1
      have B := chkE_ok b (.BoolOp .And (y :: r) pos) gd h2
      have T := tt_and A.pt (B.pw _ _ _ rfl)
      exact ⟨tr_and A.pe B.pe, T.pt, fun op es' pos' q => by cases q; exact T⟩
    | [], h => exact nomatch h
    | [_], h => exact nomatch h
  | .or a b, Γ, X, e, gd, h => by
    cases e <;> try (exact absurd (show false = true from h) Bool.false_ne_true)
    rename_i op es pos
    cases op <;> try (exact absurd (show false = true from h) Bool.false_ne_true)
    match es, h with
    | x :: y :: r, h =>
      obtain ⟨h1, h2⟩ := bk (show (chkE G a Γ x && chkE G b Γ (.BoolOp .Or (y :: r) pos)) = true from h)
      have A := chkE_ok a x gd h1
      have B := chkE_ok b (.BoolOp .Or (y :: r) pos) gd h2
      have T := tt_or A.pt (B.pw _ _ _ rfl)
      exact ⟨tr_or A.pe B.pe, T.pt, fun op es' pos' q => by cases q; exact T⟩
    | [], h => exact nomatch h
    | [_], h => exact nomatch h
  | .one a, Γ, X, e, gd, h => by
    cases e <;> try (exact absurd (show false = true from h) Bool.false_ne_true)
    rename_i op es pos
    match es, h with
    | [x], h =>
      have A := chkE_ok a x gd (show chkE G a Γ x = true by cases op <;> exact h)
      have T : PW X (.BoolOp op [x] pos) (TTR X.K (evT G cl (.one a))) := by
        cases op
        · exact pw_and1 A.pt
        · exact pw_or1 A.pt
      exact ⟨pe_one A.pe, T.pt, fun op es' pos' q => by cases q; exact T⟩
    | [], h => cases op <;> exact nomatch h
    | _ :: _ :: _, h => cases op <;> exact nomatch h
  | .not a, Γ, X, e, gd, h => by
    cases e <;> try (exact absurd (show false = true from h) Bool.false_ne_true)
    rename_i op x pos
    cases op <;> try (exact absurd (show false = true from h) Bool.false_ne_true)
    exact tr_not (chkE_ok a x gd h)
  | .ifE c a b, Γ, X, e, gd, h => by
    cases e <;> try (exact absurd (show false = true from h) Bool.false_ne_true)
    rename_i x y z pos
    obtain ⟨h1, h2⟩ := bk (show (chkE G c Γ x && (chkE G a Γ y && chkE G b Γ z)) = true from h)
    obtain ⟨h3, h4⟩ := bk h2
    exact tr_if (chkE_ok c x gd h1) (chkE_ok a y gd h3) (chkE_ok b z gd h4)
  | .tup es, Γ, X, e, gd, h => by
    cases e <;> try (exact absurd (show false = true from h) Bool.false_ne_true)
    exact .of (tr_tup (chkEs_ok es _ gd h))
  | .lst es, Γ, X, e, gd, h => by
    cases e <;> try (exact absurd (show false = true from h) Bool.false_ne_true)
    exact .of (tr_lst (chkEs_ok es _ gd h))
  | .mlst es, Γ, X, e, gd, h => by
    cases e <;> try (exact absurd (show false = true from h) Bool.false_ne_true)
    exact .of (tr_mlst (chkEs_ok es _ gd h))
  | .dict ps, Γ, X, e, gd, h => by
    cases e <;> try (exact absurd (show false = true from h) Bool.false_ne_true)
    rename_i ks vs pos
    obtain ⟨h1, h2⟩ := bk (show (decide (ks.length ≤ 15) && (decide (ks.length = vs.length) && (!ks.isEmpty && chkPs G ps Γ ks vs))) = true from h)
    obtain ⟨h3, h4⟩ := bk h2
    obtain ⟨h5, h6⟩ := bk h4
    obtain ⟨a1, a2⟩ := chkPs_ok (pos := pos) ps ks vs gd h6
    exact .of (tr_dict a1 a2 (dec h3) (by intro q; subst q; cases h5) (dec h1))
  | .idx a i, Γ, X, e, gd, h => by
    cases e <;> try (exact absurd (show false = true from h) Bool.false_ne_true)
    rename_i x y pos
    have h' : (okX y && (chkE G a Γ x && chkE G i Γ y)) = true := h
    obtain ⟨h1, h2⟩ := bk h'
    obtain ⟨h3, h4⟩ := bk h2
    exact .of (tr_idx gd.hu1 h1 (chkE_ok a x gd h3).pe (chkE_ok i y gd h4).pe)
  | .slR a hi, Γ, X, e, gd, h => by
    cases e <;> try (exact absurd (show false = true from h) Bool.false_ne_true)
    rename_i x y pos
    cases y <;> try (exact absurd (show false = true from h) Bool.false_ne_true)
    rename_i l u st p2
    cases l <;> try (exact absurd (show false = true from h) Bool.false_ne_true)
    cases st <;> try (exact absurd (show false = true from h) Bool.false_ne_true)
    rename_i st
    cases st <;> try (exact absurd (show false = true from h) Bool.false_ne_true)
    rename_i op ee p3
    cases op <;> try (exact absurd (show false = true from h) Bool.false_ne_true)
    cases ee <;> try (exact absurd (show false = true from h) Bool.false_ne_true)
    rename_i c kk p4
    cases c <;> try (exact absurd (show false = true from h) Bool.false_ne_true)
    rename_i i
    obtain ⟨h0, h1⟩ := bk (show (decide (i = 1) && (chkE G a Γ x && chkO G hi Γ u)) = true from h)
    obtain ⟨h2, h3⟩ := bk h1
    cases (dec h0)
    exact .of (tr_slR (chkE_ok a x gd h2).pe (chkO_ok hi u gd h3))
  | .sl a lo hi, Γ, X, e, gd, h => by
    cases e <;> try (exact absurd (show false = true from h) Bool.false_ne_true)
    rename_i x y pos
    cases y <;> try (exact absurd (show false = true from h) Bool.false_ne_true)
    rename_i l u st p2
    cases st <;> try (exact absurd (show false = true from h) Bool.false_ne_true)
    obtain ⟨h1, h2⟩ := bk (show (chkE G a Γ x && (chkO G lo Γ l && chkO G hi Γ u)) = true from h)
    obtain ⟨h3, h4⟩ := bk h2
    exact .of (tr_sl (chkE_ok a x gd h1).pe (chkO_ok lo l gd h3) (chkO_ok hi u gd h4))
  | .call g es, Γ, X, e, gd, h => by
    cases e <;> try (exact absurd (show false = true from h) Bool.false_ne_true)
    rename_i f xs kw pos
    cases f <;> try (exact absurd (show false = true from h) Bool.false_ne_true)
    cases kw <;> try (exact absurd (show false = true from h) Bool.false_ne_true)
    rename_i x p
    obtain ⟨h1, h2⟩ := bk (show (glB G Γ g x && (isFnB G g && chkEs G es Γ xs)) = true from h)
    obtain ⟨h3, h4⟩ := bk h2
    obtain ⟨⟨q, hg⟩, hgl, hdb, hnm⟩ := gl_ok gd.toSy h1
    obtain ⟨f, hf⟩ := fn_at hg h3
    exact .of (tr_call gd hf hgl hdb h4 (chkEs_ok es xs gd h4))
  | .bi b g es, Γ, X, e, gd, h => by
    cases e <;> try (exact absurd (show false = true from h) Bool.false_ne_true)
    rename_i f xs kw pos
    cases f <;> try (exact absurd (show false = true from h) Bool.false_ne_true)
    cases kw <;> try (exact absurd (show false = true from h) Bool.false_ne_true)
    rename_i x p
    obtain ⟨h1, h2⟩ := bk (show (glB G Γ g x && (isBlt G g && (decide (x = biName b) && (!xs.isEmpty && chkEs G es Γ xs)))) = true from h)
    obtain ⟨h3, h4⟩ := bk h2
    obtain ⟨h5, h6⟩ := bk h4
    obtain ⟨h7, h8⟩ := bk h6
    cases (dec h5)
    obtain ⟨⟨q, hg⟩, hgl, hdb, hnm⟩ := gl_ok gd.toSy h1
    exact .of (tr_bi gd (blt_at hg h3) hgl h8 (by simpa using h7) (chkEs_ok es xs gd h8))
  | .isI g hh n a, Γ, X, e, gd, h => by
    cases e <;> try (exact absurd (show false = true from h) Bool.false_ne_true)
    rename_i f xs kw pos
    cases f <;> try (exact absurd (show false = true from h) Bool.false_ne_true)
    rcases kw with _ | ⟨kw1, kws⟩
    rotate_left
    · simp [chkE] at h
    rename_i x p
    match xs, h with
    | [y, .Name t p2], h =>
      obtain ⟨h1, h2⟩ := bk (show (glB G Γ g x && (isBlt G g && (decide (x = "isinstance") && (glB G Γ hh t && (isBlt G hh && (decide (bootBuiltins t = some (.type n)) && (okX y && chkE G a Γ y))))))) = true from h)
      obtain ⟨h3, h4⟩ := bk h2
      obtain ⟨h5, h6⟩ := bk h4
      obtain ⟨h7, h8⟩ := bk h6
      obtain ⟨h9, h10⟩ := bk h8
      obtain ⟨h11, h12⟩ := bk h10
      obtain ⟨h13, h14⟩ := bk h12
      cases (dec h5)
      obtain ⟨⟨q, hg⟩, hgl, hdb, hnm⟩ := gl_ok gd.toSy h1
      obtain ⟨⟨q2, hg2⟩, hgl2, hdb2, hnm2⟩ := gl_ok gd.toSy h7
      exact .of (tr_isI gd (blt_at hg h3) hgl (blt_at hg2 h9) hgl2 hdb2 hnm2 (dec h11) h13 (chkE_ok a y gd h14).pe)
    | [], h => exact nomatch h
    | [_], h => exact nomatch h
    | _ :: _ :: _ :: _, h => simp [chkE] at h
    | [y, .BoolOp .. ], h => exact nomatch h
    | [y, .NamedExpr .. ], h => exact nomatch h
    | [y, .BinOp .. ], h => exact nomatch h
    | [y, .UnaryOp .. ], h => exact nomatch h
    | [y, .Lambda .. ], h => exact nomatch h
    | [y, .IfExp .. ], h => exact nomatch h
    | [y, .Dict .. ], h => exact nomatch h
    | [y, .Set .. ], h => exact nomatch h
    | [y, .ListComp .. ], h => exact nomatch h
    | [y, .SetComp .. ], h => exact nomatch h
    | [y, .DictComp .. ], h => exact nomatch h
    | [y, .GeneratorExp .. ], h => exact nomatch h
    | [y, .Await .. ], h => exact nomatch h
    | [y, .Yield .. ], h => exact nomatch h
    | [y, .YieldFrom .. ], h => exact nomatch h
    | [y, .Compare .. ], h => exact nomatch h
    | [y, .Call .. ], h => exact nomatch h
    | [y, .FormattedValue .. ], h => exact nomatch h
    | [y, .JoinedStr .. ], h => exact nomatch h
    | [y, .Constant .. ], h => exact nomatch h
    | [y, .Attribute .. ], h => exact nomatch h
    | [y, .Subscript .. ], h => exact nomatch h
    | [y, .Starred .. ], h => exact nomatch h
    | [y, .List .. ], h => exact nomatch h
    | [y, .Tuple .. ], h => exact nomatch h
    | [y, .Slice .. ], h => exact nomatch h
  | .meth m o es, Γ, X, e, gd, h => by
    cases e <;> try (exact absurd (show false = true from h) Bool.false_ne_true)
    rename_i f xs kw pos
    cases f <;> try (exact absurd (show false = true from h) Bool.false_ne_true)
    cases kw <;> try (exact absurd (show false = true from h) Bool.false_ne_true)
    rename_i y nm ap
    obtain ⟨h1, h2⟩ := bk (show (decide (nm = mtName m) && (noCall y && ((ap.endLine == pos.line) && (decide (xs.length < 30) && (chkE G o Γ y && chkEs G es Γ xs))))) = true from h)
    obtain ⟨h3, h4⟩ := bk h2
    obtain ⟨h5, h6⟩ := bk h4
    obtain ⟨h7, h8⟩ := bk h6
    obtain ⟨h9, h10⟩ := bk h8
    cases (dec h1)
    exact .of (tr_meth gd h3 h5 (dec h7) (chkE_ok o y gd h9).pe h10 (chkEs_ok es xs gd h10))
  | .lc mu vs elt tg it cs, Γ, X, e, gd, h => by
    cases e <;> try (exact absurd (show false = true from h) Bool.false_ne_true)
    rename_i y gs scope pos
    match gs, h with
    | [⟨t, i, ifs, a⟩], h =>
      obtain ⟨h1, h2⟩ := bk (show (decide (a = 0) && (okX i && (blkC Γ.N Γ.sc scope (ownOf Γ.N vs) && ((slG tg).all (fun j => decide (j ∈ vs)) &&
        (chkG tg (Γ.blk scope) t && (chkI G it Γ i && (chkCs G cs (Γ.blk scope) ifs && chkE G elt (Γ.blk scope) y))))))) = true from h)
      obtain ⟨h3, h4⟩ := bk h2
      obtain ⟨h5, h6⟩ := bk h4
      obtain ⟨h7, h8⟩ := bk h6
      obtain ⟨h9, h10⟩ := bk h8
      obtain ⟨h11, h12⟩ := bk h10
      obtain ⟨h13, h14⟩ := bk h12
      cases (dec h1)
      exact .of (tr_lc gd (fun j hj => dec (List.all_eq_true.mp h7 j hj)) h3 h5 (chkI_ok it i gd h11)
        ⟨fun s H C cells fp => chkG_ok (gd.blk s H C cells fp).toSy tg t h9, fun s H C cells fp => chkCs_ok cs ifs (gd.blk s H C cells fp) h13, fun s H C cells fp => (chkE_ok elt y (gd.blk s H C cells fp) h14).pe⟩)
    | [], h => exact nomatch h
    | ⟨_, _, _, _⟩ :: _ :: _, h => exact nomatch h
  | .lc2 mu vs elt tg it cs vs1 tg1 it1 cs1, Γ, X, e, gd, h => by
    cases e <;> try (exact absurd (show false = true from h) Bool.false_ne_true)
    rename_i y gs scope pos
    match gs, h with
    | [⟨t, i, ifs, a⟩, ⟨t1, i1, ifs1, a1⟩], h =>
      obtain ⟨h1, h2⟩ := bk (show (decide (a = 0) && (decide (a1 = 0) && (okX i && (okX i1 && (blkC Γ.N Γ.sc scope (ownOf Γ.N vs) && (vs1.all (fun j => decide (j ∈ vs)) && ((slG tg).all (fun j => decide (j ∈ vs)) && ((slG tg1).all (fun j => decide (j ∈ vs1)) &&
      (chkG tg (Γ.blk scope) t && (chkI G it Γ i && (chkCs G cs (Γ.blk scope) ifs && (chkG tg1 (Γ.blk scope) t1 && (chkI G it1 (Γ.blk scope) i1 && (chkCs G cs1 (Γ.blk scope) ifs1 && chkE G elt (Γ.blk scope) y)))))))))))))) = true from h)
      obtain ⟨h3, h4⟩ := bk h2
      obtain ⟨h5, h6⟩ := bk h4
      obtain ⟨h7, h8⟩ := bk h6
      obtain ⟨h9, h10⟩ := bk h8
      obtain ⟨h11, h12⟩ := bk h10
      obtain ⟨h13, h14⟩ := bk h12
      obtain ⟨h15, h16⟩ := bk h14
      obtain ⟨h17, h18⟩ := bk h16
      obtain ⟨h19, h20⟩ := bk h18
      obtain ⟨h21, h22⟩ := bk h20
      obtain ⟨h23, h24⟩ := bk h22
      obtain ⟨h25, h26⟩ := bk h24
      obtain ⟨h27, h28⟩ := bk h26
      cases (dec h1)
      cases (dec h3)
      exact .of (tr_lc2 gd (fun j hj => dec (List.all_eq_true.mp h11 j hj)) (fun j hj => dec (List.all_eq_true.mp h13 j hj)) (fun j hj => dec (List.all_eq_true.mp h15 j hj)) h5 h7 h9 (chkI_ok it i gd h19)
        ⟨fun s H C cells fp => chkG_ok (gd.blk s H C cells fp).toSy tg t h17, fun s H C cells fp => chkCs_ok cs ifs (gd.blk s H C cells fp) h21, fun s H C cells fp => chkG_ok (gd.blk s H C cells fp).toSy tg1 t1 h23, fun s H C cells fp => chkI_ok it1 i1 (gd.blk s H C cells fp) h25, fun s H C cells fp => chkCs_ok cs1 ifs1 (gd.blk s H C cells fp) h27, fun s H C cells fp => (chkE_ok elt y (gd.blk s H C cells fp) h28).pe⟩)
    | [], h => exact nomatch h
    | [⟨_, _, _, _⟩], h => exact nomatch h
    | ⟨_, _, _, _⟩ :: ⟨_, _, _, _⟩ :: _ :: _, h => exact nomatch h
theorem chkEs_ok {G : GT} {cl : Nat → List D → Sto → Rs D} {k : Nat} : ∀ (ms : MEs) {Γ : Syn} {X : Cx} (es : List Expr), Good G cl k Γ X → chkEs G ms Γ es = true → PA X es (TAR X.K (evEs G cl ms))
  | .nil, Γ, X, es, gd, h => by
    cases es with
    | nil => exact ta_nil
    | cons _ _ => exact nomatch h
  | .cons m ms, Γ, X, es, gd, h => by
    cases es with
    | nil => exact nomatch h
    | cons e es =>
      obtain ⟨h1, h2⟩ := bk (show (okX e && (chkE G m Γ e && chkEs G ms Γ es)) = true from h)
      obtain ⟨h3, h4⟩ := bk h2
      exact ta_cons h1 (chkE_ok m e gd h3).pe (chkEs_ok ms es gd h4)
theorem chkO_ok {G : GT} {cl : Nat → List D → Sto → Rs D} {k : Nat} : ∀ (m : MO) {Γ : Syn} {X : Cx} (o : Option Expr), Good G cl k Γ X → chkO G m Γ o = true → PO X o (TOR X.K (evO G cl m))
  | .none, Γ, X, o, gd, h => by
    cases o with
    | none => exact to_none
    | some _ => exact nomatch h
  | .some m, Γ, X, o, gd, h => by
    cases o with
    | none => exact nomatch h
    | some e => exact to_some (chkE_ok m e gd h).pe
theorem chkCs_ok {G : GT} {cl : Nat → List D → Sto → Rs D} {k : Nat} : ∀ (m : MO) {Γ : Syn} {X : Cx} (es : List Expr), Good G cl k Γ X → chkCs G m Γ es = true → PTs X es (TTR X.K (evC G cl m))
  | .none, Γ, X, es, gd, h => by
    cases es with
    | nil => exact tc_nil
    | cons _ _ => exact nomatch h
  | .some m, Γ, X, es, gd, h => by
    match es, h with
    | [e], h => exact tc_one (chkE_ok m e gd h).pt
    | [], h => exact nomatch h
    | _ :: _ :: _, h => exact nomatch h
theorem chkPs_ok {G : GT} {cl : Nat → List D → Sto → Rs D} {k : Nat} {pos : Pos} : ∀ (ps : MPs) {Γ : Syn} {X : Cx} (ks : List (Option Expr)) (vs : List Expr), Good G cl k Γ X → chkPs G ps Γ ks vs = true → PPok X pos ks vs (evPs G cl ps) ∧ ks.all (·.isSome) = true
  | .nil, Γ, X, ks, vs, gd, h => by
    match ks, vs, h with
    | [], [], _ => exact ⟨pp_nil, rfl⟩
    | [], _ :: _, h => exact nomatch h
    | _ :: _, _, h => exact nomatch h
  | .cons a b ps, Γ, X, ks, vs, gd, h => by
    match ks, vs, h with
    | some x :: ks, y :: vs, h =>
      obtain ⟨h1, h2⟩ := bk (show (chkE G a Γ x && (chkE G b Γ y && chkPs G ps Γ ks vs)) = true from h)
      obtain ⟨h3, h4⟩ := bk h2
      obtain ⟨a1, a2⟩ := chkPs_ok (pos := pos) ps ks vs gd h4
      exact ⟨pp_cons (chkE_ok a x gd h1).pe (chkE_ok b y gd h3).pe a1, by simpa using a2⟩
    | [], _, h => exact nomatch h
    | none :: _, _, h => exact nomatch h
    | some _ :: _, [], h => exact nomatch h
theorem chkI_ok {G : GT} {cl : Nat → List D → Sto → Rs D} {k : Nat} : ∀ (m : MI) {Γ : Syn} {X : Cx} (e : Expr) {tg : Expr}, Good G cl k Γ X → chkI G m Γ e = true → PI X tg e (TIR X.K (evI G cl m))
  | .seq m, Γ, X, e, tg, gd, h => ti_seq (chkE_ok m e gd h).pe
  | .rng g es, Γ, X, e, tg, gd, h => by
    cases e <;> try (exact absurd (show false = true from h) Bool.false_ne_true)
    rename_i f xs kw pos
    cases f <;> try (exact absurd (show false = true from h) Bool.false_ne_true)
    cases kw <;> try (exact absurd (show false = true from h) Bool.false_ne_true)
    rename_i x p
    obtain ⟨h1, h2⟩ := bk (show (glB G Γ g x && (isBlt G g && (decide (x = "range") && ((decide (xs.length = 1) || decide (xs.length = 2)) && chkEs G es Γ xs)))) = true from h)
    obtain ⟨h3, h4⟩ := bk h2
    obtain ⟨h5, h6⟩ := bk h4
    obtain ⟨h7, h8⟩ := bk h6
    cases (dec h5)
    obtain ⟨⟨q, hg⟩, hgl, hdb, hnm⟩ := gl_ok gd.toSy h1
    exact ti_rng gd (blt_at hg h3) hgl h8 (by simpa using h7) (chkEs_ok es xs gd h8)
end
end
end Rw

/-! M12: statements, defs -/
namespace Rw
open PySem PySem.Spec PyProof.Rows L2
section
variable {G : GT} {cl : Nat → List D → Sto → Rs D} {k : Nat} {Γ : Syn} {X : Cx}
def rAug (K : PySem.W.Frag) (op : Operator) : TIp := fun x y H Q => ∃ W F μ S d e r, Stt K W F μ S H ∧ Rep K W μ d x ∧ Rep K W μ e y ∧ augD op d e = some r ∧ Post K W F μ S r Q
theorem ip_any (op : Operator) : PIp X op (rAug X.K op) := by
  intro pins s σ H x y v u Q I rx ry h
  obtain ⟨W, F, μ, S, d, e, r, st, hd, he, hb, p⟩ := h
  unfold augD at hb
  split at hb
  · cases hb; cases (show x = _ from hd); cases (show y = _ from he)
    exact iop_add pins s σ H _ _ v u Q I rx ry ⟨_, _, rfl, rfl, p.int st⟩
  · cases hb; cases (show x = _ from hd); cases (show y = _ from he)
    exact iop_sub pins s σ H _ _ v u Q I rx ry ⟨_, _, rfl, rfl, p.int st⟩
  · split at hb
    · rename_i c
      cases hb; cases (show x = _ from hd); cases (show y = _ from he)
      exact iop_mul pins s σ H _ _ v u Q I rx ry ⟨_, _, rfl, rfl, c, p.int st⟩
    · cases hb
  · split at hb
    · rename_i c
      cases hb; cases (show x = _ from hd); cases (show y = _ from he)
      exact iop_add_str pins s σ H _ _ v u Q I rx ry ⟨_, _, rfl, rfl, c, p.strv st⟩
    · cases hb
  · cases hb
def rPut (K : PySem.W.Frag) : TSet := fun o i v H Q => ∃ W F μ S d e r S', Stt K W F μ S H ∧ Rep K W μ d o ∧ Rep K W μ e i ∧ Rep K W μ r v ∧ putI S d e r = some S' ∧ ∀ H' W' μ', Ext W μ W' μ' → Stt K W' F μ' S' H' → Q H'
theorem set_any (hu : X.A.units + 1 < cLine) : PSet X (rPut X.K) := by
  intro pins s σ H o i v ov iv u Q I ro ri rv h
  obtain ⟨W, F, μ, S, d, e, r, S', st, hd, he, hr, hb, p⟩ := h
  unfold putI at hb
  split at hb
  · rename_i j
    obtain ⟨a, hj, rfl⟩ := hd
    cases c : S[j]? with
    | none => rw [c] at hb; cases hb
    | some cc =>
      rw [c] at hb
      cases cc with
      | lst xs =>
        obtain ⟨ws, h1, h2⟩ := st.lst hj c
        simp only at hb
        split at hb
        · rename_i q
          cases (show i = _ from he)
          cases z : ixN xs.length q with
          | none => rw [z] at hb; cases hb
          | some n =>
            rw [z] at hb
            cases hb
            refine set_list pins s σ H _ _ _ ov iv u Q I ro ri rv ⟨a, ws, q, n, rfl, rfl, h1, by rw [h2.length]; exact z, ?_⟩
            exact p _ W μ Ext.refl (st.put _ _ hj ⟨_, upd_same, Reps.set n hr h2⟩)
        · cases hb
      | dk kvs =>
        obtain ⟨ws, h1, h2⟩ := st.dk hj c
        simp only at hb
        cases z : keyD e with
        | none => rw [z] at hb; cases hb
        | some q =>
          rw [z] at hb
          have hb : (if kvs.length < sizeLine then some (S.set j (.dk (storeK kvs q r))) else none) = some S' := hb
          split at hb
          · rename_i hl
            cases hb
            have hk := key_rep he z
            subst hk
            have hl2 : ws.length = kvs.length := by have := congrArg List.length h2.1; simpa using this.symm
            have e2 : ov = Value.ref a := ro
            subst e2
            refine d_setItem hu I (DPut.k (k := q) (v := v) h1 (by rw [hl2]; exact hl)) ri rv fun s' I' => ⟨_, I', ?_⟩
            exact p _ W μ Ext.refl (st.put _ _ hj ⟨_, upd_same, h2.store hr⟩)
          · cases hb
  · cases hb
def rGetK (K : PySem.W.Frag) : V → V → Hp → VK → Prop := fun o i H Q => ∃ W F μ S d e r, Stt K W F μ S H ∧ Rep K W μ d o ∧ Rep K W μ e i ∧ augGet S d e = some r ∧ Post K W F μ S r Q
theorem get_any (hu : X.A.units + 1 < cLine) : PGet X (rGetK X.K) := by
  intro pins s σ H o i ov iv Q I ro ri h
  obtain ⟨W, F, μ, S, d, e, r, st, hd, he, hb, p⟩ := h
  unfold augGet at hb
  split at hb
  · rename_i j
    obtain ⟨a, hj, rfl⟩ := hd
    cases c : S[j]? with
    | none => rw [c] at hb; cases hb
    | some cc =>
      rw [c] at hb
      cases cc with
      | lst xs => cases hb
      | dk kvs =>
        obtain ⟨ws, h1, h2⟩ := st.dk hj c
        simp only at hb
        cases z : keyD e with
        | none => rw [z] at hb; cases hb
        | some q =>
          rw [z] at hb
          obtain ⟨v, h3, h4⟩ := h2.look (show lookK kvs q = some r from hb)
          have hk := key_rep he z
          subst hk
          have e2 : ov = Value.ref a := ro
          subst e2
          exact d_getItem hu I (by rw [← h3]; exact DGet.k h1) ri fun w' s3 I3 rw' => ⟨v, H, I3, rw', p.same st h4⟩
  · cases hb

/-! ### stores -/
structure GoodS (G : GT) (cl : Nat → List D → Sto → Rs D) (k : Nat) (Γ : Syn) (X : Cx) : Prop extends Good G cl k Γ X where
  kd : Γ.sc.kind = .function
theorem GoodS.bk (g : GoodS G cl k Γ X) : X.env.blockKind = .function := by
  unfold PySem.Env.blockKind
  rw [g.sc, g.kd]
  rfl
theorem asg_none_name {x : Str} {p : Pos} {v : Expr} {env : PySem.Env} : swappedStores [.Name x p] v env = pure none := by
  cases v <;> rfl
theorem asg_none_val {ts : List Expr} {n : Nat} {p : Pos} {v : Expr} {env : PySem.Env} (h : ∀ vs m q, v ≠ .Tuple vs m q) : swappedStores [.Tuple ts n p] v env = pure none := by
  cases v <;> first | rfl | exact absurd rfl (h _ _ _)
theorem asg_none_sub {o i : Expr} {p : Pos} {v : Expr} {env : PySem.Env} : swappedStores [.Subscript o i p] v env = pure none := by
  cases v <;> rfl
theorem noSw_ok (g : GoodS G cl k Γ X) {ts vs : List Expr} {n m : Nat} {p q : Pos} (h : noSw Γ ts vs = true) : swappedStores [.Tuple ts n p] (.Tuple vs m q) X.env = pure none := by
  unfold swappedStores
  simp only [pure_bind]
  unfold noSw at h
  by_cases c1 : (!(ts.length == 2 || ts.length == 3) || vs.length != ts.length) = true
  · have : (!(ts.length == 2 || ts.length == 3) || vs.length != ts.length || X.env.blockKind != ScopeKind.function) = true := by rw [c1]; rfl
    rw [if_pos this]
  · rw [Bool.not_eq_true] at c1
    rw [c1, Bool.false_or] at h
    have hbk : (X.env.blockKind != ScopeKind.function) = false := by rw [g.bk]; rfl
    have : (!(ts.length == 2 || ts.length == 3) || vs.length != ts.length || X.env.blockKind != ScopeKind.function) = false := by rw [c1, hbk]; rfl
    rw [if_neg (by rw [this]; exact Bool.false_ne_true)]
    split
    · rfl
    · have hk : ∀ id, X.env.kindOf id = Γ.sc.names.lookup id := fun id => by show X.env.scope.names.lookup id = _; rw [g.sc]
      simp only [hk]
      rcases Bool.or_eq_true_iff.mp h with h | h
      · split
        · rfl
        · rename_i hh
          exact absurd (Bool.or_eq_true_iff.mpr (Or.inl h)) hh
      · split
        · rfl
        · first | rfl | rw [if_pos h]
theorem sw2_ok (g : GoodS G cl k Γ X) {x y : Str} {px py p q : Pos} {a b : Expr} {n m : Nat} (hs : swB [px, py] [a, b] = true) (hx : X.env.scope.names.lookup x = some .local) (hy : X.env.scope.names.lookup y = some .local) (hxy : x ≠ y) (oa : okX a = true) (ob : okX b = true) :
    swappedStores [.Tuple [.Name x px, .Name y py] n p] (.Tuple [a, b] m q) X.env = pure (some [x, y]) := by
  obtain ⟨h1, h2⟩ := Rw.bk hs
  obtain ⟨h3, h4⟩ := Rw.bk h2
  have hl : (py.line == px.line) = true := by simpa using h1
  have kx : (X.env.kindOf x == some NameKind.local) = true := by show (X.env.scope.names.lookup x == some NameKind.local) = true; rw [hx]; rfl
  have ky : (X.env.kindOf y == some NameKind.local) = true := by show (X.env.scope.names.lookup y == some NameKind.local) = true; rw [hy]; rfl
  have hbk : (X.env.blockKind != ScopeKind.function) = false := by rw [g.bk]; rfl
  have hst : ([a, b].any fun
    | .Starred .. => true
    | _ => false) = false := by
    cases a <;> first | (cases oa; done) | skip
    all_goals (cases b <;> first | rfl | cases ob)
  have hlx : (px.line == px.line) = true := by simp
  have hf1 : [a, b].all (foldedForSure 8) = false := by
    cases q : [a, b].all (foldedForSure 8) with
    | true => rw [q] at h3; cases h3
    | false => rfl
  have hf2 : [a, b].all (constantsAlone 8) = false := by
    cases q : [a, b].all (constantsAlone 8) with
    | true => rw [q] at h4; cases h4
    | false => rfl
  have hd : ([x, y] : List Str).eraseDups.length = 2 := by
    have e1 : (y == x) = false := by rw [beq_eq_false_iff_ne]; exact Ne.symm hxy
    simp [List.eraseDups_cons, e1]
  unfold swappedStores
  simp only [pure_bind]
  split
  · rename_i hh
    rw [hbk] at hh
    simp at hh
  · split
    · rename_i hh
      exact absurd (hst.symm.trans hh) Bool.false_ne_true
    · simp only [List.head?_cons, Option.map_some, Option.getD_some, List.filterMap_cons, kx, ky, Bool.true_and, Expr.pos, hl, hlx, if_true, List.filterMap_nil, List.length_cons, List.length_nil, Nat.zero_add, hd, hf1, hf2]
      rfl
theorem sw3_ok (g : GoodS G cl k Γ X) {x y z : Str} {px py pz p q : Pos} {a b c : Expr} {n m : Nat} (hs : swB [px, py, pz] [a, b, c] = true) (hx : X.env.scope.names.lookup x = some .local) (hy : X.env.scope.names.lookup y = some .local) (hz : X.env.scope.names.lookup z = some .local) (hne : x ≠ y ∧ x ≠ z ∧ y ≠ z) (oa : okX a = true) (ob : okX b = true) (oc : okX c = true) :
    swappedStores [.Tuple [.Name x px, .Name y py, .Name z pz] n p] (.Tuple [a, b, c] m q) X.env = pure (some [x, y, z]) := by
  obtain ⟨h1, h2⟩ := Rw.bk hs
  obtain ⟨h3, h4⟩ := Rw.bk h2
  have hl2 : (py.line == px.line) = true ∧ (pz.line == px.line) = true := by simpa using h1
  have hl := hl2.1
  have hlz := hl2.2
  have kx : (X.env.kindOf x == some NameKind.local) = true := by show (X.env.scope.names.lookup x == some NameKind.local) = true; rw [hx]; rfl
  have ky : (X.env.kindOf y == some NameKind.local) = true := by show (X.env.scope.names.lookup y == some NameKind.local) = true; rw [hy]; rfl
  have kz : (X.env.kindOf z == some NameKind.local) = true := by show (X.env.scope.names.lookup z == some NameKind.local) = true; rw [hz]; rfl
  have hbk : (X.env.blockKind != ScopeKind.function) = false := by rw [g.bk]; rfl
  have hP : ∀ e : Expr, okX e = true → ((fun
    | .Starred .. => true
    | _ => false : Expr → Bool) e) = false := by
    intro e he
    cases e <;> first | rfl | cases he
  have hst : ([a, b, c].any fun
    | .Starred .. => true
    | _ => false) = false := by
    rw [List.any_eq_false]
    intro e he w
    refine Bool.false_ne_true ((hP e ?_).symm.trans w)
    simp only [List.mem_cons, List.not_mem_nil, or_false] at he
    rcases he with rfl | rfl | rfl <;> assumption
  have hlx : (px.line == px.line) = true := by simp
  have hf1 : [a, b, c].all (foldedForSure 8) = false := by
    cases q : [a, b, c].all (foldedForSure 8) with
    | true => rw [q] at h3; cases h3
    | false => rfl
  have hf2 : [a, b, c].all (constantsAlone 8) = false := by
    cases q : [a, b, c].all (constantsAlone 8) with
    | true => rw [q] at h4; cases h4
    | false => rfl
  have hd : ([x, y, z] : List Str).eraseDups.length = 3 := by
    have e1 : (y == x) = false := by rw [beq_eq_false_iff_ne]; exact Ne.symm hne.1
    have e2 : (z == x) = false := by rw [beq_eq_false_iff_ne]; exact Ne.symm hne.2.1
    have e3 : (z == y) = false := by rw [beq_eq_false_iff_ne]; exact Ne.symm hne.2.2
    simp [List.eraseDups_cons, e1, e2, e3]
  unfold swappedStores
  simp only [pure_bind]
  split
  · rename_i hh
    rw [hbk] at hh
    simp at hh
  · split
    · rename_i hh
      exact absurd (hst.symm.trans hh) Bool.false_ne_true
    · simp only [List.head?_cons, Option.map_some, Option.getD_some, List.filterMap_cons, kx, ky, kz, Bool.true_and, Expr.pos, hl, hlz, hlx, if_true, List.filterMap_nil, List.length_cons, List.length_nil, Nat.zero_add, hd, hf1, hf2]
      rfl
theorem ts_asg (g : GoodS G cl k Γ X) {tg : MG} {e : ME} {t v : Expr} {pos : Pos} (hn : notLc v = true) (hw : swappedStores [t] v X.env = pure none) (ht : chkG tg Γ t = true) (hv : PE X v (TR X.K (evE G cl e))) : PS X (.Assign [t] v pos) (TSR X.K (evS G cl (.asg tg e))) := by
  have ot : okX t = true := by
    cases tg <;> cases t <;> first | rfl | exact absurd (show false = true from ht) Bool.false_ne_true
  refine (ps_asg hv (chkG_ok g.toSy tg t ht) (swaps_ok hn _ _ _) hw (by rw [asgEach_ok ot]; rfl)).weak ?_
  rintro D σ H ⟨W, F, μ, ρ, S, fl, S', st, en, e1, p⟩
  obtain ⟨d, S1, e2, e3⟩ := bnd_inv e1
  obtain ⟨ρ1, e4, e5⟩ := lft_inv e3
  cases e5
  exact ⟨W, F, μ, ρ, S, d, _, st, en, e2, fun x H1 W1 μ1 x1 st1 r1 => ⟨W1, F, μ1, ρ, _, d, ρ1, st1, en.mono x1, r1, e4, fun σ1 en1 _ _ => p σ1 H1 W1 μ1 x1 st1 en1⟩⟩
theorem sw_cell {y : Str} {py : Pos} {elt : Expr} {gs : List Comprehension} {scope : Scope} {pos : Pos} {l : Nat} (h : X.env.scope.names.lookup y = some .cell) : swapsWithSole [.Name y py] (.ListComp elt gs scope pos) l X.env = pure false := by
  show (pure (X.env.blockKind == .function && X.env.kindOf y == some .local && py.line == pos.line && !(scope.names.any fun (n, k) => n == y && (k == .local || k == .cell))) : Sem Bool) = pure false
  have e : (X.env.kindOf y == some NameKind.local) = false := by show (X.env.scope.names.lookup y == some NameKind.local) = false; rw [h]; rfl
  rw [e]
  simp
theorem ts_asgC (g : GoodS G cl k Γ X) {tg : MG} {e : ME} {t v : Expr} {pos : Pos} (hn : swapsWithSole [t] v pos.line X.env = pure false) (hw : swappedStores [t] v X.env = pure none) (ht : chkG tg Γ t = true) (hv : PE X v (TR X.K (evE G cl e))) : PS X (.Assign [t] v pos) (TSR X.K (evS G cl (.asg tg e))) := by
  have ot : okX t = true := by
    cases tg <;> cases t <;> first | rfl | exact absurd (show false = true from ht) Bool.false_ne_true
  refine (ps_asg hv (chkG_ok g.toSy tg t ht) hn hw (by rw [asgEach_ok ot]; rfl)).weak ?_
  rintro D σ H ⟨W, F, μ, ρ, S, fl, S', st, en, e1, p⟩
  obtain ⟨d, S1, e2, e3⟩ := bnd_inv e1
  obtain ⟨ρ1, e4, e5⟩ := lft_inv e3
  cases e5
  exact ⟨W, F, μ, ρ, S, d, _, st, en, e2, fun x H1 W1 μ1 x1 st1 r1 => ⟨W1, F, μ1, ρ, _, d, ρ1, st1, en.mono x1, r1, e4, fun σ1 en1 _ _ => p σ1 H1 W1 μ1 x1 st1 en1⟩⟩
theorem ts_lc (g : GoodS G cl k Γ X) {i : Nat} {y : Str} {py : Pos} {mu : Bool} {vs : List Nat} {me : ME} {mg : MG} {mi : MI} {mc : MO} {elt tg iter : Expr} {ifs : List Expr} {scope : Scope} {pos spos : Pos} (hy : locB Γ i y = true) (hyl : Γ.sc.names.lookup y = some .local) (hln : (py.line == pos.line) = true)
    (hany : (scope.names.any fun (n, k) => n == y && (k == .local || k == .cell)) = false) (hs : ∀ i ∈ slG mg, i ∈ vs) (ok : okX iter = true) (hb : blkC Γ.N Γ.sc scope (ownOf Γ.N vs) = true)
    (hi : PI X tg iter (TIR X.K (evI G cl mi))) (L : LcOk G cl X scope elt tg ifs me mg mc) : PS X (.Assign [.Name y py] (.ListComp elt [⟨tg, iter, ifs, 0⟩] scope pos) spos) (TSR X.K (evS G cl (.asg (.name i) (.lc mu vs me mg mi mc)))) := by
  have B : BlkOk X.N X.env.scope scope (ownOf Γ.N vs) := by rw [g.N, g.sc]; exact blkOk_by hb
  obtain ⟨h1, h2, h3⟩ := loc_ok g.toSy hy
  have hl' : X.env.scope.names.lookup y = some .local := by rw [g.sc]; exact hyl
  have h := ps_setLc (py := py) (pos := pos) (spos := spos) g.calm g.nd h1 hl' (sw_true (by rw [g.sc]; exact g.kd) hl' hln hany) hi B L.g L.t L.e (fold_ok ok X.env)
  rw [own_snd] at h
  refine h.weak ?_
  rintro D σ H ⟨W, F, μ, ρ, S, fl, S', st, en, e1, p⟩
  obtain ⟨d, S1, e2, e3⟩ := bnd_inv e1
  obtain ⟨ρ1, e4, e5⟩ := lft_inv e3
  cases e5
  refine lc_w hs σ H _ ⟨W, F, μ, ρ, S, d, _, st, en, e2, fun x H1 W1 μ1 x1 st1 r1 => ?_⟩
  have e4 : (if i < ρ.length then some (ρ.set i (some d)) else none) = some ρ1 := e4
  split at e4
  · cases e4
    exact p _ H1 W1 μ1 x1 st1 ((en.mono x1).set r1)
  · cases e4
theorem ts_lc2 (g : GoodS G cl k Γ X) {i : Nat} {y : Str} {py : Pos} {mu : Bool} {vs vs1 : List Nat} {me : ME} {mg mg1 : MG} {mi mi1 : MI} {mc mc1 : MO} {elt tg iter tg1 iter1 : Expr} {ifs ifs1 : List Expr} {scope : Scope} {pos spos : Pos} (hy : locB Γ i y = true) (hyl : Γ.sc.names.lookup y = some .local) (hln : (py.line == pos.line) = true)
    (hany : (scope.names.any fun (n, k) => n == y && (k == .local || k == .cell)) = false) (hv : ∀ i ∈ vs1, i ∈ vs) (hs : ∀ i ∈ slG mg, i ∈ vs) (hs1 : ∀ i ∈ slG mg1, i ∈ vs1) (ok : okX iter = true) (ok1 : okX iter1 = true) (hb : blkC Γ.N Γ.sc scope (ownOf Γ.N vs) = true)
    (hi : PI X tg iter (TIR X.K (evI G cl mi))) (L : Lc2Ok G cl X scope elt tg ifs tg1 iter1 ifs1 me mg mc mg1 mi1 mc1) : PS X (.Assign [.Name y py] (.ListComp elt [⟨tg, iter, ifs, 0⟩, ⟨tg1, iter1, ifs1, 0⟩] scope pos) spos) (TSR X.K (evS G cl (.asg (.name i) (.lc2 mu vs me mg mi mc vs1 mg1 mi1 mc1)))) := by
  have B : BlkOk X.N X.env.scope scope (ownOf Γ.N vs) := by rw [g.N, g.sc]; exact blkOk_by hb
  obtain ⟨h1, h2, h3⟩ := loc_ok g.toSy hy
  have hl' : X.env.scope.names.lookup y = some .local := by rw [g.sc]; exact hyl
  have h := ps_setLc2 (vs1 := vs1) (py := py) (pos := pos) (spos := spos) g.calm g.nd h1 hl' (sw_true (by rw [g.sc]; exact g.kd) hl' hln hany) hi B (by rw [own_snd]; exact hv) L.g L.t L.i1 L.g1 L.t1 L.e (fold_ok ok X.env) (fun env x => fold_ok ok1 env x)
  rw [own_snd] at h
  refine h.weak ?_
  rintro D σ H ⟨W, F, μ, ρ, S, fl, S', st, en, e1, p⟩
  obtain ⟨d, S1, e2, e3⟩ := bnd_inv e1
  obtain ⟨ρ1, e4, e5⟩ := lft_inv e3
  cases e5
  refine lc2_w hs hs1 σ H _ ⟨W, F, μ, ρ, S, d, _, st, en, e2, fun x H1 W1 μ1 x1 st1 r1 => ?_⟩
  have e4 : (if i < ρ.length then some (ρ.set i (some d)) else none) = some ρ1 := e4
  split at e4
  · cases e4
    exact p _ H1 W1 μ1 x1 st1 ((en.mono x1).set r1)
  · cases e4
theorem lcl_ok (y : Sy Γ X) {i : Nat} {x : Str} (h : lclB Γ i x = true) : X.N[i]? = some x ∧ X.env.scope.names.lookup x = some .local := by
  obtain ⟨h1, h2⟩ := bk h
  exact ⟨by rw [y.N]; exact dec h1, by rw [y.sc]; exact dec h2⟩
theorem ts_par2 (g : GoodS G cl k Γ X) {i j : Nat} {a b : ME} {x y : Str} {u v : Expr} {px py p q pos : Pos} {n m : Nat} (hs : swB [px, py] [u, v] = true) (hx : lclB Γ i x = true) (hy : lclB Γ j y = true) (hij : i ≠ j) (hxy : x ≠ y) (ou : okX u = true) (ov : okX v = true)
    (ha : PE X u (TR X.K (evE G cl a))) (hb : PE X v (TR X.K (evE G cl b))) : PS X (.Assign [.Tuple [.Name x px, .Name y py] n p] (.Tuple [u, v] m q) pos) (TSR X.K (evS G cl (.par2 i j a b))) := by
  obtain ⟨h1, h2⟩ := lcl_ok g.toSy hx
  obtain ⟨h3, h4⟩ := lcl_ok g.toSy hy
  refine (ps_par g.calm g.nd h1 h3 hij h2 h4 (pa_cons ha (pa_cons hb pa_nil (star_ok ov _ _)) (star_ok ou _ _)) (sw2_ok g hs h2 h4 hxy ou ov)).weak ?_
  rintro D σ H ⟨W, F, μ, ρ, S, fl, S', st, en, e1, p⟩
  obtain ⟨d, S1, e2, e3⟩ := bnd_inv e1
  obtain ⟨e, S2, e4, e5⟩ := bnd_inv e3
  cases e5
  exact ⟨W, F, μ, ρ, S, d, S1, st, en, e2, fun v1 H1 W1 μ1 x1 st1 r1 => ⟨W1, F, μ1, ρ, S1, e, _, st1, en.mono x1, e4, fun v2 H2 W2 μ2 x2 st2 r2 => ⟨v1, v2, rfl, p _ H2 W2 μ2 (x1.trans x2) st2 (((en.mono (x1.trans x2)).set (r1.m x2)).set r2)⟩⟩⟩
theorem ts_par3 (g : GoodS G cl k Γ X) {i j l : Nat} {a b c : ME} {x y z : Str} {u v w : Expr} {px py pz p q pos : Pos} {n m : Nat} (hs : swB [px, py, pz] [u, v, w] = true) (hx : lclB Γ i x = true) (hy : lclB Γ j y = true) (hz : lclB Γ l z = true) (hij : i ≠ j ∧ i ≠ l ∧ j ≠ l) (hxy : x ≠ y ∧ x ≠ z ∧ y ≠ z) (ou : okX u = true) (ov : okX v = true) (ow : okX w = true)
    (ha : PE X u (TR X.K (evE G cl a))) (hb : PE X v (TR X.K (evE G cl b))) (hc : PE X w (TR X.K (evE G cl c))) : PS X (.Assign [.Tuple [.Name x px, .Name y py, .Name z pz] n p] (.Tuple [u, v, w] m q) pos) (TSR X.K (evS G cl (.par3 i j l a b c))) := by
  obtain ⟨h1, h2⟩ := lcl_ok g.toSy hx
  obtain ⟨h3, h4⟩ := lcl_ok g.toSy hy
  obtain ⟨h5, h6⟩ := lcl_ok g.toSy hz
  refine (ps_par3 g.calm g.nd h1 h3 h5 hij.1 hij.2.1 hij.2.2 h2 h4 h6 (pa_cons ha (pa_cons hb (pa_cons hc pa_nil (star_ok ow _ _)) (star_ok ov _ _)) (star_ok ou _ _)) (sw3_ok g hs h2 h4 h6 hxy ou ov ow)).weak ?_
  rintro D σ H ⟨W, F, μ, ρ, S, fl, S', st, en, e1, p⟩
  obtain ⟨d, S1, e2, e3⟩ := bnd_inv e1
  obtain ⟨e, S2, e4, e5⟩ := bnd_inv e3
  obtain ⟨f, S3, e6, e7⟩ := bnd_inv e5
  cases e7
  exact ⟨W, F, μ, ρ, S, d, S1, st, en, e2, fun v1 H1 W1 μ1 x1 st1 r1 => ⟨W1, F, μ1, ρ, S1, e, S2, st1, en.mono x1, e4, fun v2 H2 W2 μ2 x2 st2 r2 => ⟨W2, F, μ2, ρ, S2, f, _, st2, en.mono (x1.trans x2), e6, fun v3 H3 W3 μ3 x3 st3 r3 => ⟨v1, v2, v3, rfl, p _ H3 W3 μ3 ((x1.trans x2).trans x3) st3 ((((en.mono ((x1.trans x2).trans x3)).set (r1.m (x2.trans x3))).set (r2.m x3)).set r3)⟩⟩⟩⟩
theorem ts_aug (g : GoodS G cl k Γ X) {i : Nat} {op : Operator} {e : ME} {x : Str} {v : Expr} {p pos : Pos} (hx : locB Γ i x = true) (hv : PE X v (TR X.K (evE G cl e))) : PS X (.AugAssign (.Name x p) op v pos) (TSR X.K (evS G cl (.aug i op e))) := by
  obtain ⟨h1, h2, h3⟩ := loc_ok g.toSy hx
  refine (ps_aug g.nd h1 h2 hv (ip_any op) h3).weak ?_
  rintro D σ H ⟨W, F, μ, ρ, S, fl, S', st, en, e1, p⟩
  cases c : ρ[i]? with
  | none => simp only [evS, c] at e1; cases e1
  | some q =>
    cases q with
    | none => simp only [evS, c] at e1; cases e1
    | some d =>
      simp only [evS, c] at e1
      obtain ⟨y, S1, e2, e3⟩ := bnd_inv e1
      obtain ⟨r, e4, e5⟩ := lft_inv e3
      cases e5
      obtain ⟨u, hu, ru⟩ := en.2 i d c
      exact ⟨u, hu, W, F, μ, ρ, S, y, _, st, en, e2, fun v1 H1 W1 μ1 x1 st1 r1 => ⟨W1, F, μ1, _, d, y, r, st1, ru.m x1, r1, e4, fun v2 H2 W2 μ2 x2 st2 r2 => p _ H2 W2 μ2 (x1.trans x2) st2 ((en.mono (x1.trans x2)).set r2)⟩⟩
theorem ts_setI (g : GoodS G cl k Γ X) {o i e : ME} {p q v : Expr} {tp pos : Pos} (ok : okX q = true) (hn : notLc v = true) (hv : PE X v (TR X.K (evE G cl e))) (ho : PE X p (TR X.K (evE G cl o))) (hi : PE X q (TR X.K (evE G cl i))) : PS X (.Assign [.Subscript p q tp] v pos) (TSR X.K (evS G cl (.setI o i e))) := by
  refine (ps_asg hv (pg_sub ho hi (set_any g.hu1) fun w => asgsub_ok ok p tp X.env w) (show swapsWithSole [.Subscript p q tp] v pos.line X.env = pure false from swaps_ok hn (some (.Subscript p q tp)) pos.line X.env) asg_none_sub (by rfl)).weak ?_
  rintro D σ H ⟨W, F, μ, ρ, S, fl, S', st, en, e1, p⟩
  obtain ⟨d1, S1, e2, e3⟩ := bnd_inv e1
  obtain ⟨d2, S2, e4, e5⟩ := bnd_inv e3
  obtain ⟨d3, S3, e6, e7⟩ := bnd_inv e5
  obtain ⟨S4, e8, e9⟩ := lft_inv e7
  cases e9
  exact ⟨W, F, μ, ρ, S, d1, S1, st, en, e2, fun v1 H1 W1 μ1 x1 st1 r1 => ⟨W1, F, μ1, ρ, S1, d2, S2, st1, en.mono x1, e4, fun v2 H2 W2 μ2 x2 st2 r2 => ⟨W2, F, μ2, ρ, S2, d3, S3, st2, en.mono (x1.trans x2), e6, fun v3 H3 W3 μ3 x3 st3 r3 =>
    ⟨W3, F, μ3, S3, d2, d3, d1, _, st3, r2.m x3, r3, r1.m (x2.trans x3), e8, fun H4 W4 μ4 x4 st4 => p σ H4 W4 μ4 (((x1.trans x2).trans x3).trans x4) st4 (en.mono (((x1.trans x2).trans x3).trans x4))⟩⟩⟩⟩
theorem ts_augI (g : GoodS G cl k Γ X) {o i e : ME} {op : Operator} {p q v : Expr} {tp pos : Pos} (ok : okX q = true) (hv : PE X v (TR X.K (evE G cl e))) (ho : PE X p (TR X.K (evE G cl o))) (hi : PE X q (TR X.K (evE G cl i))) : PS X (.AugAssign (.Subscript p q tp) op v pos) (TSR X.K (evS G cl (.augI o i op e))) := by
  refine (ps_augS ho hi (get_any g.hu1) hv (ip_any op) (set_any g.hu1) fun ov iv new => aug_ok ok ov iv new).weak ?_
  rintro D σ H ⟨W, F, μ, ρ, S, fl, S', st, en, e1, p⟩
  obtain ⟨d1, S1, e2, e3⟩ := bnd_inv e1
  obtain ⟨d2, S2, e4, e5⟩ := bnd_inv e3
  obtain ⟨dx, e6, e7⟩ := lft_inv e5
  obtain ⟨d3, S3, e8, e9⟩ := bnd_inv e7
  obtain ⟨r, e10, e11⟩ := lft_inv e9
  obtain ⟨S4, e12, e13⟩ := lft_inv e11
  cases e13
  refine ⟨W, F, μ, ρ, S, d1, S1, st, en, e2, fun v1 H1 W1 μ1 x1 st1 r1 => ⟨W1, F, μ1, ρ, S1, d2, S2, st1, en.mono x1, e4, fun v2 H2 W2 μ2 x2 st2 r2 => ⟨W2, F, μ2, S2, d1, d2, dx, st2, r1.m x2, r2, e6, fun v3 H3 W3 μ3 x3 st3 r3 => ?_⟩⟩⟩
  refine ⟨W3, F, μ3, ρ, S2, d3, S3, st3, en.mono ((x1.trans x2).trans x3), e8, fun v4 H4 W4 μ4 x4 st4 r4 => ⟨W4, F, μ4, S3, dx, d3, r, st4, r3.m x4, r4, e10, fun v5 H5 W5 μ5 x5 st5 r5 => ?_⟩⟩
  exact ⟨W5, F, μ5, S3, d1, d2, r, _, st5, r1.m (((x2.trans x3).trans x4).trans x5), r2.m ((x3.trans x4).trans x5), r5, e12, fun H6 W6 μ6 x6 st6 => p σ H6 W6 μ6 (((((x1.trans x2).trans x3).trans x4).trans x5).trans x6) st6 (en.mono (((((x1.trans x2).trans x3).trans x4).trans x5).trans x6))⟩
theorem ts_if {c : ME} {a b : MSs} {t : Expr} {x y : List Stmt} {pos : Pos} (hc : PT X t (TTR X.K (evT G cl c))) (ha : PSs X x (TSR X.K (evSs G cl a))) (hb : PSs X y (TSR X.K (evSs G cl b))) : PS X (.If t x y pos) (TSR X.K (evS G cl (.ifS c a b))) := by
  refine (ps_if hc ha hb).weak ?_
  rintro D σ H ⟨W, F, μ, ρ, S, fl, S', st, en, e1, p⟩
  obtain ⟨t, S1, e2, e3⟩ := bnd_inv e1
  refine ⟨W, F, μ, ρ, S, t, S1, st, en, e2, fun H1 W1 μ1 x1 st1 => ?_⟩
  cases t with
  | true => rw [if_pos rfl] at e3 ⊢; exact ⟨W1, F, μ1, ρ, S1, fl, S', st1, en.mono x1, e3, p.ext x1⟩
  | false => rw [if_neg Bool.false_ne_true] at e3 ⊢; exact ⟨W1, F, μ1, ρ, S1, fl, S', st1, en.mono x1, e3, p.ext x1⟩
theorem ts_whl (g : GoodS G cl k Γ X) {c : ME} {b : MSs} {t : Expr} {x : List Stmt} {pos : Pos} (hc : PT X t (TTR X.K (evT G cl c))) (hb : PSs X x (TSR X.K (evSs G cl b))) : PS X (.While t x [] pos) (TSR X.K (evS G cl (.whl c b))) := by
  refine (ps_while g.passes hc hb).weak ?_
  rintro D σ H ⟨W, F, μ, ρ, S, fl, S', st, en, e1, p⟩
  exact while_reads st en e1 p
theorem ts_for (g : GoodS G cl k Γ X) {tg : MG} {it : MI} {b : MSs} {t i : Expr} {x : List Stmt} {pos : Pos} (ok : okX i = true) (ht : chkG tg Γ t = true) (hi : PI X t i (TIR X.K (evI G cl it))) (hb : PSs X x (TSR X.K (evSs G cl b))) : PS X (.For t i x [] pos) (TSR X.K (evS G cl (.forS tg it b))) := by
  refine (ps_for g.passes g.calm hi (chkG_ok g.toSy tg t ht) hb (fold_ok ok X.env)).weak ?_
  rintro D σ H ⟨W, F, μ, ρ, S, fl, S', st, en, e1, p⟩
  obtain ⟨w, S1, e2, e3⟩ := bnd_inv e1
  exact ⟨W, F, μ, ρ, S, w, S1, st, en, e2, fun J H1 W1 μ1 x1 st1 wk => for_reads st1 (en.mono x1) wk e3 (p.ext x1)⟩
theorem ts_ret {e : ME} {v : Expr} {pos : Pos} (hv : PE X v (TR X.K (evE G cl e))) : PS X (.Return (some v) pos) (TSR X.K (evS G cl (.ret e))) := by
  refine (ps_ret hv).weak ?_
  rintro D σ H ⟨W, F, μ, ρ, S, fl, S', st, en, e1, p⟩
  obtain ⟨d, S1, e2, e3⟩ := bnd_inv e1
  cases e3
  exact ⟨W, F, μ, ρ, S, d, _, st, en, e2, p⟩
theorem ts_ex {e : ME} {v : Expr} {pos : Pos} (hn : notLc v = true) (hv : PE X v (TR X.K (evE G cl e))) : PS X (.Expr v pos) (TSR X.K (evS G cl (.ex e))) := by
  refine (ps_expr hv (swaps_ok hn _ _ _)).weak ?_
  rintro D σ H ⟨W, F, μ, ρ, S, fl, S', st, en, e1, p⟩
  obtain ⟨d, S1, e2, e3⟩ := bnd_inv e1
  cases e3
  exact ⟨W, F, μ, ρ, S, d, _, st, en, e2, fun v H1 W1 μ1 x1 st1 _ => p σ H1 W1 μ1 x1 st1 (en.mono x1)⟩
theorem tss_cons {s : MS} {ss : MSs} {x : Stmt} {xs : List Stmt} (h : PS X x (TSR X.K (evS G cl s))) (hs : PSs X xs (TSR X.K (evSs G cl ss))) : PSs X (x :: xs) (TSR X.K (evSs G cl (.cons s ss))) := by
  refine (pss_cons h hs).weak ?_
  rintro D σ H ⟨W, F, μ, ρ, S, fl, S', st, en, e1, p⟩
  obtain ⟨fl1, S1, e2, e3⟩ := bnd_inv e1
  refine ⟨W, F, μ, ρ, S, fl1, S1, st, en, e2, ?_⟩
  cases fl1 with
  | nx ρ1 => exact fun σ1 H1 W1 μ1 x1 st1 en1 => ⟨W1, F, μ1, ρ1, S1, fl, S', st1, en1, e3, p.ext x1⟩
  | bk ρ1 => cases e3; exact p
  | rt d => cases e3; exact p
theorem tss_nil : PSs X [] (TSR X.K (evSs G cl .nil)) := pss_nil.weak (by
  rintro D σ H ⟨W, F, μ, ρ, S, fl, S', st, en, e1, p⟩
  cases e1
  exact p σ H W μ Ext.refl st en)
/-- a comprehension's text is a comprehension -/
theorem lc_only {m : ME} {Γ : Syn} {elt : Expr} {gs : List Comprehension} {scope : Scope} {pos : Pos} (h : chkE G m Γ (.ListComp elt gs scope pos) = true) : (∃ mu vs me mg mi mc, m = .lc mu vs me mg mi mc) ∨ ∃ mu vs me mg mi mc vs1 mg1 mi1 mc1, m = .lc2 mu vs me mg mi mc vs1 mg1 mi1 mc1 := by
  cases m <;> first | exact .inl ⟨_, _, _, _, _, _, rfl⟩ | exact .inr ⟨_, _, _, _, _, _, _, _, _, _, rfl⟩ | exact absurd (show false = true from h) Bool.false_ne_true
end
theorem asgB_other {Γ : Syn} {t v : Expr} (h1 : ∀ y py e gs s p, ¬ (t = .Name y py ∧ v = .ListComp e gs s p)) (h2 : ∀ ts n p vs m q, ¬ (t = .Tuple ts n p ∧ v = .Tuple vs m q)) (h : asgB Γ t v = true) : notLc v = true := by
  unfold asgB at h
  split at h
  · exact absurd ⟨rfl, rfl⟩ (h1 _ _ _ _ _ _)
  · exact absurd ⟨rfl, rfl⟩ (h2 _ _ _ _ _ _)
  · exact h
mutual
theorem chkS_ok {G : GT} {cl : Nat → List D → Sto → Rs D} {k : Nat} {Γ : Syn} {X : Cx} (g : GoodS G cl k Γ X) : ∀ (m : MS) (st : Stmt), chkS G m Γ st = true → PS X st (TSR X.K (evS G cl m))
  | .asg tg e, st, h => by
    cases st <;> try (exact absurd (show false = true from h) Bool.false_ne_true)
    rename_i ts v pos
    match ts, h with
    | [t], h =>
      obtain ⟨h1, h2⟩ := bk (show (asgB Γ t v && (chkG tg Γ t && chkE G e Γ v)) = true from h)
      obtain ⟨h3, h4⟩ := bk h2
      by_cases c1 : ∃ y py e gs s p, t = .Name y py ∧ v = .ListComp e gs s p
      · obtain ⟨y, py, e', gs, s, p, rfl, rfl⟩ := c1
        by_cases qc : Γ.sc.names.lookup y = some .cell
        · exact ts_asgC g (sw_cell (by rw [g.sc]; exact qc)) asg_none_name h3 (chkE_ok e _ g.toGood h4).pe
        obtain ⟨q1, q2⟩ := bk (show (decide (Γ.sc.names.lookup y = some .local) && ((py.line == p.line) && !(s.names.any fun (n, k) => n == y && (k == .local || k == .cell)))) = true by
          have h1 : ((decide (Γ.sc.names.lookup y = some .local) && ((py.line == p.line) && !(s.names.any fun (n, k) => n == y && (k == .local || k == .cell)))) || decide (Γ.sc.names.lookup y = some .cell)) = true := h1
          rw [decide_eq_false qc, Bool.or_false] at h1
          exact h1)
        obtain ⟨q3, q4⟩ := bk q2
        cases tg with
        | tup _ => exact absurd (show false = true from h3) Bool.false_ne_true
        | name i =>
         rcases lc_only h4 with ⟨mu, vs, me, mg, mi, mc, rfl⟩ | ⟨mu, vs, me, mg, mi, mc, vs1, mg1, mi1, mc1, rfl⟩
         · match gs, h4 with
          | [⟨t', it', ifs, a⟩], h4 =>
            obtain ⟨a1, a2⟩ := bk (show (decide (a = 0) && (okX it' && (blkC Γ.N Γ.sc s (ownOf Γ.N vs) && ((slG mg).all (fun j => decide (j ∈ vs)) &&
              (chkG mg (Γ.blk s) t' && (chkI G mi Γ it' && (chkCs G mc (Γ.blk s) ifs && chkE G me (Γ.blk s) e'))))))) = true from h4)
            obtain ⟨a3, a4⟩ := bk a2
            obtain ⟨a5, a6⟩ := bk a4
            obtain ⟨a7, a8⟩ := bk a6
            obtain ⟨a9, a10⟩ := bk a8
            obtain ⟨a11, a12⟩ := bk a10
            obtain ⟨a13, a14⟩ := bk a12
            cases (dec a1)
            exact ts_lc g h3 (dec q1) q3 (by simpa using q4) (fun j hj => dec (List.all_eq_true.mp a7 j hj)) a3 a5 (chkI_ok mi it' g.toGood a11)
              ⟨fun s H C cells fp => chkG_ok (g.toGood.blk s H C cells fp).toSy mg t' a9, fun s H C cells fp => chkCs_ok mc ifs (g.toGood.blk s H C cells fp) a13, fun s H C cells fp => (chkE_ok me e' (g.toGood.blk s H C cells fp) a14).pe⟩
          | [], h4 => exact absurd (show false = true from h4) Bool.false_ne_true
          | ⟨_, _, _, _⟩ :: _ :: _, h4 => exact absurd (show false = true from h4) Bool.false_ne_true
         · match gs, h4 with
          | [⟨t', it', ifs, a⟩, ⟨t1, i1, ifs1, a1⟩], h4 =>
            obtain ⟨h1, h2⟩ := bk (show (decide (a = 0) && (decide (a1 = 0) && (okX it' && (okX i1 && (blkC Γ.N Γ.sc s (ownOf Γ.N vs) && (vs1.all (fun j => decide (j ∈ vs)) && ((slG mg).all (fun j => decide (j ∈ vs)) && ((slG mg1).all (fun j => decide (j ∈ vs1)) &&
              (chkG mg (Γ.blk s) t' && (chkI G mi Γ it' && (chkCs G mc (Γ.blk s) ifs && (chkG mg1 (Γ.blk s) t1 && (chkI G mi1 (Γ.blk s) i1 && (chkCs G mc1 (Γ.blk s) ifs1 && chkE G me (Γ.blk s) e')))))))))))))) = true from h4)
            obtain ⟨h3', h4⟩ := bk h2
            obtain ⟨h5, h6⟩ := bk h4
            obtain ⟨h7, h8⟩ := bk h6
            obtain ⟨h9, h10⟩ := bk h8
            obtain ⟨h11, h12⟩ := bk h10
            obtain ⟨h13, h14⟩ := bk h12
            obtain ⟨h15, h16⟩ := bk h14
            obtain ⟨h17, h18⟩ := bk h16
            obtain ⟨h19, h20⟩ := bk h18
            obtain ⟨h21, h22⟩ := bk h20
            obtain ⟨h23, h24⟩ := bk h22
            obtain ⟨h25, h26⟩ := bk h24
            obtain ⟨h27, h28⟩ := bk h26
            cases (dec h1)
            cases (dec h3')
            exact ts_lc2 g h3 (dec q1) q3 (by simpa using q4) (fun j hj => dec (List.all_eq_true.mp h11 j hj)) (fun j hj => dec (List.all_eq_true.mp h13 j hj)) (fun j hj => dec (List.all_eq_true.mp h15 j hj)) h5 h7 h9 (chkI_ok mi it' g.toGood h19)
              ⟨fun s H C cells fp => chkG_ok (g.toGood.blk s H C cells fp).toSy mg t' h17, fun s H C cells fp => chkCs_ok mc ifs (g.toGood.blk s H C cells fp) h21, fun s H C cells fp => chkG_ok (g.toGood.blk s H C cells fp).toSy mg1 t1 h23, fun s H C cells fp => chkI_ok mi1 i1 (g.toGood.blk s H C cells fp) h25, fun s H C cells fp => chkCs_ok mc1 ifs1 (g.toGood.blk s H C cells fp) h27, fun s H C cells fp => (chkE_ok me e' (g.toGood.blk s H C cells fp) h28).pe⟩
          | [], h4 => exact absurd (show false = true from h4) Bool.false_ne_true
          | [⟨_, _, _, _⟩], h4 => exact absurd (show false = true from h4) Bool.false_ne_true
          | ⟨_, _, _, _⟩ :: ⟨_, _, _, _⟩ :: _ :: _, h4 => exact absurd (show false = true from h4) Bool.false_ne_true
      · by_cases c2 : ∃ ts n p vs m q, t = .Tuple ts n p ∧ v = .Tuple vs m q
        · obtain ⟨ts, n, p, vs, m, q, rfl, rfl⟩ := c2
          exact ts_asg g rfl (noSw_ok g h1) h3 (chkE_ok e _ g.toGood h4).pe
        · have hn := asgB_other (fun y py e gs s p z => c1 ⟨y, py, e, gs, s, p, z⟩) (fun ts n p vs m q z => c2 ⟨ts, n, p, vs, m, q, z⟩) h1
          have hw : swappedStores [t] v X.env = pure none := by
            cases t <;> try (cases tg <;> exact absurd (show false = true from h3) Bool.false_ne_true)
            · exact asg_none_name
            · exact asg_none_val fun vs m q e => c2 ⟨_, _, _, vs, m, q, rfl, e⟩
          exact ts_asg g hn hw h3 (chkE_ok e _ g.toGood h4).pe
    | [], h => exact absurd (show false = true from h) Bool.false_ne_true
    | _ :: _ :: _, h => exact absurd (show false = true from h) Bool.false_ne_true
  | .par2 i j a b, st, h => by
    unfold chkS at h
    split at h
    · rename_i x px y py _ _ u v _ _ _
      obtain ⟨h1, h2⟩ := bk h
      obtain ⟨h3, h4⟩ := bk h2
      obtain ⟨h5, h6⟩ := bk h4
      obtain ⟨h7, h8⟩ := bk h6
      obtain ⟨h9, h10⟩ := bk h8
      obtain ⟨h11, h12⟩ := bk h10
      obtain ⟨h13, h14⟩ := bk h12
      obtain ⟨h15, h16⟩ := bk h14
      exact ts_par2 g h1 h3 h5 (dec h7) (dec h9) h11 h13 (chkE_ok a _ g.toGood h15).pe (chkE_ok b _ g.toGood h16).pe
    · cases h
  | .par3 i j l a b c, st, h => by
    unfold chkS at h
    split at h
    · obtain ⟨h1, h2⟩ := bk h
      obtain ⟨h3, h4⟩ := bk h2
      obtain ⟨h5, h6⟩ := bk h4
      obtain ⟨h7, h8⟩ := bk h6
      obtain ⟨h9, h10⟩ := bk h8
      obtain ⟨h11, h12⟩ := bk h10
      obtain ⟨h13, h14⟩ := bk h12
      obtain ⟨h15, h16⟩ := bk h14
      obtain ⟨h17, h18⟩ := bk h16
      obtain ⟨h19, h20⟩ := bk h18
      obtain ⟨h21, h22⟩ := bk h20
      exact ts_par3 g h1 h3 h5 h7 (dec h9) (dec h11) h13 h15 h17 (chkE_ok a _ g.toGood h19).pe (chkE_ok b _ g.toGood h21).pe (chkE_ok c _ g.toGood h22).pe
    · cases h
  | .aug i op e, st, h => by
    unfold chkS at h
    split at h
    · obtain ⟨h1, h2⟩ := bk h
      obtain ⟨h3, h4⟩ := bk h2
      cases (dec h3)
      exact ts_aug g h1 (chkE_ok e _ g.toGood h4).pe
    · cases h
  | .setI o i e, st, h => by
    unfold chkS at h
    split at h
    · obtain ⟨h1, h2⟩ := bk h
      obtain ⟨h3, h4⟩ := bk h2
      obtain ⟨h5, h6⟩ := bk h4
      obtain ⟨h7, h8⟩ := bk h6
      exact ts_setI g h1 h3 (chkE_ok e _ g.toGood h5).pe (chkE_ok o _ g.toGood h7).pe (chkE_ok i _ g.toGood h8).pe
    · cases h
  | .augI o i op e, st, h => by
    unfold chkS at h
    split at h
    · obtain ⟨h1, h2⟩ := bk h
      obtain ⟨h3, h4⟩ := bk h2
      obtain ⟨h5, h6⟩ := bk h4
      obtain ⟨h7, h8⟩ := bk h6
      cases (dec h3)
      exact ts_augI g h1 (chkE_ok e _ g.toGood h5).pe (chkE_ok o _ g.toGood h7).pe (chkE_ok i _ g.toGood h8).pe
    · cases h
  | .ifS c a b, st, h => by
    unfold chkS at h
    split at h
    · obtain ⟨h1, h2⟩ := bk h
      obtain ⟨h3, h4⟩ := bk h2
      exact ts_if (chkE_ok c _ g.toGood h1).pt (chkSs_ok g a _ h3) (chkSs_ok g b _ h4)
    · cases h
  | .whl c b, st, h => by
    unfold chkS at h
    split at h
    · obtain ⟨h1, h2⟩ := bk h
      exact ts_whl g (chkE_ok c _ g.toGood h1).pt (chkSs_ok g b _ h2)
    · cases h
  | .forS tg it b, st, h => by
    unfold chkS at h
    split at h
    · obtain ⟨h1, h2⟩ := bk h
      obtain ⟨h3, h4⟩ := bk h2
      obtain ⟨h5, h6⟩ := bk h4
      exact ts_for g h1 h3 (chkI_ok it _ g.toGood h5) (chkSs_ok g b _ h6)
    · cases h
  | .ret e, st, h => by
    unfold chkS at h
    split at h
    · exact ts_ret (chkE_ok e _ g.toGood h).pe
    · cases h
  | .retN, st, h => by
    unfold chkS at h
    split at h
    · refine ps_retN.weak ?_
      rintro D σ H ⟨W, F, μ, ρ, S, fl, S', st, en, e1, p⟩
      cases e1
      exact p _ H W μ Ext.refl st rfl
    · cases h
  | .ex e, st, h => by
    unfold chkS at h
    split at h
    · obtain ⟨h1, h2⟩ := bk h
      exact ts_ex h1 (chkE_ok e _ g.toGood h2).pe
    · cases h
  | .pass, st, h => by
    unfold chkS at h
    split at h
    · refine ps_pass.weak ?_
      rintro D σ H ⟨W, F, μ, ρ, S, fl, S', st, en, e1, p⟩
      cases e1
      exact p σ H W μ Ext.refl st en
    · cases h
  | .brk, st, h => by
    unfold chkS at h
    split at h
    · refine ps_break.weak ?_
      rintro D σ H ⟨W, F, μ, ρ, S, fl, S', st, en, e1, p⟩
      cases e1
      exact p σ H W μ Ext.refl st en
    · cases h
  | .nev, st, h => ps_never.weak (by
    rintro D σ H ⟨W, F, μ, ρ, S, fl, S', st, en, e1, p⟩
    cases e1)
theorem chkSs_ok {G : GT} {cl : Nat → List D → Sto → Rs D} {k : Nat} {Γ : Syn} {X : Cx} (g : GoodS G cl k Γ X) : ∀ (ms : MSs) (sts : List Stmt), chkSs G ms Γ sts = true → PSs X sts (TSR X.K (evSs G cl ms))
  | .nil, sts, h => by
    cases sts with
    | nil => exact tss_nil
    | cons _ _ => exact absurd (show false = true from h) Bool.false_ne_true
  | .cons m ms, sts, h => by
    cases sts with
    | nil => exact absurd (show false = true from h) Bool.false_ne_true
    | cons x xs =>
      obtain ⟨h1, h2⟩ := bk (show (chkS G m Γ x && chkSs G ms Γ xs) = true from h)
      exact tss_cons (chkS_ok g m x h1) (chkSs_ok g ms xs h2)
end
end Rw

/-! M13: defs, the program, the law's end -/
namespace Rw
open PySem PySem.Spec PyProof.Rows L2

/-! ### parameters -/
theorem zip_look : ∀ {ps : List Str} {us : List Value} {n : Str}, n ∈ ps → us.length = ps.length → ((ps.zip us).lookup n).isSome = true
  | p :: ps, u :: us, n, h, hl => by
    show (List.lookup n ((p, u) :: ps.zip us)).isSome = true
    rw [List.lookup_cons]
    cases c : n == p with
    | true => rfl
    | false =>
      rcases List.mem_cons.mp h with rfl | h
      · simp at c
      · exact zip_look h (by simpa using hl)
  | p :: ps, [], n, h, hl => by simp at hl
theorem fm_congr {α β : Type} {f g : α → Option β} : ∀ {l : List α}, (∀ x ∈ l, f x = g x) → l.filterMap f = l.filterMap g
  | [], _ => rfl
  | a :: l, h => by
    rw [List.filterMap_cons, List.filterMap_cons, h a List.mem_cons_self, fm_congr fun x hx => h x (List.mem_cons_of_mem _ hx)]
theorem zip_fm : ∀ {ps : List Str} {us : List Value}, ps.Nodup → us.length = ps.length → (ps.filterMap fun n => ((ps.zip us).lookup n).map fun v => (n, v)) = ps.zip us
  | [], _, _, _ => rfl
  | p :: ps, [], _, hl => by simp at hl
  | p :: ps, u :: us, nd, hl => by
    obtain ⟨h1, h2⟩ := List.nodup_cons.mp nd
    have ih := zip_fm h2 (show us.length = ps.length by simpa using hl)
    have e1 : List.lookup p ((p, u) :: ps.zip us) = some u := by simp [List.lookup_cons]
    have e2 : (ps.filterMap fun n => (((p, u) :: ps.zip us).lookup n).map fun v => (n, v)) = ps.filterMap fun n => ((ps.zip us).lookup n).map fun v => (n, v) := by
      refine fm_congr fun n hn => ?_
      have : (n == p) = false := by
        rw [beq_eq_false_iff_ne]
        rintro rfl
        exact h1 hn
      simp only [List.lookup_cons, this]
    show ((p :: ps).filterMap fun n => (List.lookup n ((p, u) :: ps.zip us)).map fun v => (n, v)) = (p, u) :: ps.zip us
    rw [List.filterMap_cons, e1]
    simp only [Option.map_some]
    rw [e2, ih]
theorem bind_ok {x qual : Str} {as : List Arg} {body : List Stmt} {scope : Scope} {kV doc pm : Value} {an : Option Addr} {cdv ct : Value} {us : List Value} (nd : (as.map (·.arg)).Nodup) (hl : us.length = (as.map (·.arg)).length) :
    bindArgs (PySem.W.fnOf x qual ⟨[], as, none, [], [], none, []⟩ body scope .none kV doc pm an cdv ct) ⟨us, []⟩ = pure ((as.map (·.arg)).zip us) := by
  have hm : ((as.map (·.arg)).filter fun n => ((as.map (·.arg)).zip us |>.lookup n).isNone) = [] := by
    rw [List.filter_eq_nil_iff]
    intro n hn
    have := zip_look hn hl
    cases c : ((as.map (·.arg)).zip us).lookup n with
    | none => rw [c] at this; cases this
    | some _ => simp
  have hsi : seqItems? Value.none = pure none := rfl
  have hf := zip_fm nd hl
  have hn0 : (as.map (·.arg)).take (as.map (·.arg)).length = as.map (·.arg) := List.take_of_length_le (Nat.le_refl _)
  have hg : ¬ us.length > (as.map (·.arg)).length := by omega
  unfold bindArgs
  simp only [PySem.W.fnOf, List.map_nil, List.nil_append, List.append_nil, List.forIn_nil, pure_bind, hsi, Option.getD_none]
  generalize hps : as.map (·.arg) = ps at hm hf hn0 hg hl nd ⊢
  have hg' : decide (us.length > ps.length) = false := decide_eq_false hg
  have e0 : (#[] : Array Value).toList = [] := rfl
  simp only [hg', Bool.false_and, Bool.false_eq_true, if_false, e0, List.drop_nil, List.length_nil, Nat.sub_zero, hn0, hm, List.isEmpty_nil, Bool.not_true, List.zip_nil_right, List.forIn_nil, pure_bind, hf]
theorem binds_of {K : PySem.W.Frag} {x qual : Str} {as : List Arg} {body : List Stmt} {scope : Scope} {kws : List (Str × V)} {f : Addr} {fd : FuncData} (F : FunD K x qual ⟨[], as, none, [], [], none, []⟩ body scope [] kws f fd) (nd : (as.map (·.arg)).Nodup) : Binds K fd (as.map (·.arg)) [] :=
  F.bindsN fun _ _ _ _ _ _ us hl => bind_ok nd hl

/-! ### what a call leaves -/
section
variable {K : PySem.W.Frag} {W W' F : Hp} {μ μ' : List Addr} {S S1 : Sto} {H H0 : Hp}
mutual
theorem Rep.down (x : Ext W μ W' μ') : ∀ (d : D) (v0 v : V), Rep K W μ d v0 → Rep K W' μ' d v → Rep K W' μ d v
  | .non, _, _, _, h => h
  | .bl _, _, _, _, h => h
  | .int _, _, _, _, h => h
  | .str _, _, _, _, h => h
  | .ty _, _, _, _, h => h
  | .ref r, _, _, ⟨a0, h0, _⟩, ⟨a, h, e⟩ => by
    have q := x.m r a0 h0
    have q2 : a = a0 := Option.some.inj (h.symm.trans q)
    exact ⟨a, by rw [q2]; exact h0, e⟩
  | .tup ds, _, _, ⟨_, vs0, _, _, r0⟩, ⟨a, vs, e, h, r⟩ => ⟨a, vs, e, h, Reps.down x ds vs0 vs r0 r⟩
  | .lst ds, _, _, ⟨_, vs0, _, _, r0⟩, ⟨a, vs, e, h, r⟩ => ⟨a, vs, e, h, Reps.down x ds vs0 vs r0 r⟩
  | .flst ds, _, _, ⟨_, vs0, _, _, r0⟩, ⟨a, vs, e, h, r⟩ => ⟨a, vs, e, h, Reps.down x ds vs0 vs r0 r⟩
theorem Reps.down (x : Ext W μ W' μ') : ∀ (ds : List D) (vs0 vs : List V), Reps K W μ ds vs0 → Reps K W' μ' ds vs → Reps K W' μ ds vs
  | [], _, _, _, h => h
  | d :: ds, _, _, ⟨v0, r0, _, h0, q0⟩, ⟨v, r, e, h, q⟩ => ⟨v, r, e, Rep.down x d v0 v h0 h, Reps.down x ds r0 r q0 q⟩
end
mutual
theorem Rep.below (x : Ext W μ W' μ') : ∀ (d : D) (v : V), below μ.length d = true → Rep K W' μ' d v → Rep K W' μ d v
  | .non, _, _, h => h
  | .bl _, _, _, h => h
  | .int _, _, _, h => h
  | .str _, _, _, h => h
  | .ty _, _, _, h => h
  | .ref r, _, b, ⟨a, h, e⟩ => by
    have hl : r < μ.length := of_decide_eq_true b
    have h0 : μ[r]? = some μ[r] := by simp [hl]
    have q := x.m r _ h0
    have q2 : a = μ[r] := Option.some.inj (h.symm.trans q)
    exact ⟨a, by rw [q2]; exact h0, e⟩
  | .tup ds, _, b, ⟨a, vs, e, h, r⟩ => ⟨a, vs, e, h, Reps.below x ds vs b r⟩
  | .lst ds, _, b, ⟨a, vs, e, h, r⟩ => ⟨a, vs, e, h, Reps.below x ds vs b r⟩
  | .flst ds, _, b, ⟨a, vs, e, h, r⟩ => ⟨a, vs, e, h, Reps.below x ds vs b r⟩
theorem Reps.below (x : Ext W μ W' μ') : ∀ (ds : List D) (vs : List V), belows μ.length ds = true → Reps K W' μ' ds vs → Reps K W' μ ds vs
  | [], _, _, h => h
  | d :: ds, _, b, ⟨v, r, e, h, q⟩ => by
    obtain ⟨b1, b2⟩ := bk (show (Rw.below μ.length d && belows μ.length ds) = true from b)
    exact ⟨v, r, e, Rep.below x d v b1 h, Reps.below x ds r b2 q⟩
end
theorem CellAt.down (x : Ext W μ W' μ') {a : Addr} : ∀ {c : Cell}, CellAt K W μ H0 a c → CellAt K W' μ' H a c → CellAt K W' μ H a c
  | .lst ds, ⟨vs0, _, r0⟩, ⟨vs, h, r⟩ => ⟨vs, h, Reps.down x ds vs0 vs r0 r⟩
  | .dk kvs, ⟨ws0, _, r0⟩, ⟨ws, h, r⟩ => ⟨ws, h, r.1, Reps.down x _ _ _ r0.2 r.2⟩
theorem prune_ok (st0 : Stt K W F μ S H0) (x : Ext W μ W' μ') (st : Stt K W' F μ' S1 H) {d : D} {v : V} (r : Rep K W' μ' d v) : (prune S d S1).1 = d ∧ ∃ μ2, Ext W μ W' μ2 ∧ Stt K W' F μ2 (prune S d S1).2 H ∧ Rep K W' μ2 d v := by
  unfold prune
  split
  · rename_i c
    refine ⟨rfl, μ, ⟨x.w, fun _ _ h => h⟩, ⟨st.sub, st.frm, st.dis, st0.len, st0.nd, fun i a h => st.apart i a (x.m i a h), fun i a cc h hc => ?_⟩, Rep.below x d v (by rw [st0.len]; exact c.2) r⟩
    have h1 : S1[i]? = some cc := by
      have hl : i < S.length := by rw [← st0.len]; exact (List.getElem?_eq_some_iff.mp h).1
      have := congrArg (·[i]?) c.1
      simp only [List.getElem?_take_of_lt hl] at this
      rw [this]; exact hc
    exact (st0.cel i a cc h hc).down x (st.cel i a cc (x.m i a h) h1)
  · exact ⟨rfl, μ', x, st, r⟩
end

/-! ### defs -/
def chkD (G : GT) (f : Fn) (N : List Str) (pa : Arguments) (scope : Scope) (body : List Stmt) : Bool :=
  (match pa with
    | ⟨[], as, none, [], [], none, []⟩ => decide (N.take (as.map (·.arg)).length = as.map (·.arg)) && ((as.map (·.arg)).all (fun x => decide (scope.names.lookup x = some .local) || decide (scope.names.lookup x = some .cell)) && (decide (as.map (·.arg)).Nodup && decide (f.np = as.length)))
    | _ => false) && (decide (scope.kind = .function) && (!scope.isCoroutine && (!scope.isGenerator && (decide N.Nodup && (scope.names.all (fun y => decide (y.2 ≠ .free)) && (decide (f.nl = N.length) && chkSs G f.body ⟨N, scope, fun _ => true⟩ body))))))
theorem env_start {K : PySem.W.Frag} {W : Hp} {μ : List Addr} {ds : List D} {vs : List V} (r : Reps K W μ ds vs) (N : List Str) (n : Nat) (hn : n = N.length) : EnvR K W μ (ds.map some ++ List.replicate (n - ds.length) none) (L2.start N vs) := by
  subst hn
  have hl := r.length
  unfold L2.start
  refine ⟨by simp [hl], fun i d e => ?_⟩
  by_cases hi : i < ds.length
  · rw [List.getElem?_append_left (by simpa using hi), List.getElem?_map] at e
    cases c : ds[i]? with
    | none => rw [c] at e; cases e
    | some d' =>
      rw [c] at e
      cases e
      obtain ⟨v, h1, h2⟩ := r.get c
      exact ⟨v, by rw [List.getElem?_append_left (by simp; omega), List.getElem?_map, h1]; rfl, h2⟩
  · rw [List.getElem?_append_right (by simp; omega), List.getElem?_replicate] at e
    split at e <;> cases e
theorem fn_ok {P : Program} {w : World} {K : PySem.W.Frag} {mg : Str → Option Value} {base : Heap} {G : GT} {k g : Nat} {x qual : Str} {f : Fn} {a : Addr} {fd : FuncData} {as : List Arg} {N : List Str} {scope : Scope} {body : List Stmt}
    (gf : GF P w K mg base G k (callK G k)) (hg : G[g]? = some (x, .fn f)) (FD : FunD K x qual ⟨[], as, none, [], [], none, []⟩ body scope [] [] a fd) (h : chkD G f N ⟨[], as, none, [], [], none, []⟩ scope body = true) :
    FnOk P w K mg base CX0 (k + 1) a fd (as.map (·.arg)) (spOf K f.np (callK G (k + 1) g)) := by
  obtain ⟨h1, h2⟩ := bk h
  obtain ⟨a1, a2⟩ := bk (show (decide (N.take (as.map (·.arg)).length = as.map (·.arg)) && ((as.map (·.arg)).all (fun x => decide (scope.names.lookup x = some .local) || decide (scope.names.lookup x = some .cell)) && (decide (as.map (·.arg)).Nodup && decide (f.np = as.length)))) = true from h1)
  obtain ⟨a3, a4⟩ := bk a2
  obtain ⟨a5, a6⟩ := bk a4
  obtain ⟨b1, b2⟩ := bk h2
  obtain ⟨b3, b4⟩ := bk b2
  obtain ⟨b5, b6⟩ := bk b4
  obtain ⟨b7, b8⟩ := bk b6
  obtain ⟨b9, b10⟩ := bk b8
  obtain ⟨b11, b12⟩ := bk b10
  have S : FnScope N (as.map (·.arg)) scope := ⟨dec b1, by simpa using b3, by simpa using b5, dec b7, dec a1, fun x hx => by
    have := List.all_eq_true.mp a3 x hx
    rcases Bool.or_eq_true_iff.mp this with q | q
    · exact .inl (dec q)
    · exact .inr (dec q), fun y hy => dec (List.all_eq_true.mp b9 y hy)⟩
  refine FD.ok S (fun vs H Q E q => by rw [q.1, dec a6, List.length_map]) fun cdv A outer s H vs Q E hr q => ?_
  have gd : GoodS G (callK G k) k ⟨N, scope, fun _ => true⟩ (cxOf CX0 P w K mg base N qual scope a cdv A outer s H E).nox :=
    ⟨⟨⟨rfl, S.nd, rfl, rfl, rfl⟩, rfl, hr, gf⟩, dec b1⟩
  refine ⟨_, PSs.nox (chkSs_ok gd f.body body b12), ?_⟩
  obtain ⟨hl, W, F, μ, S0, ds, d, S', st, rd, e, p⟩ := q
  simp only [callK, hg] at e
  split at e
  · obtain ⟨fl, S1, e1, e2⟩ := bnd_inv e
    refine ⟨W, F, μ, _, S0, fl, S1, st, env_start rd N f.nl (dec b11), e1, ?_⟩
    cases fl with
    | nx ρ =>
      have e3 := Option.some.inj e2
      intro σ H1 W1 μ1 x1 st1 _
      obtain ⟨q1, μ2, q2, q3, q4⟩ := prune_ok (d := .non) (v := .non) st x1 st1 rfl
      rw [e3] at q1 q3
      cases q1
      exact p _ H1 W1 μ2 q2 q3 q4
    | bk ρ => cases e2
    | rt d' =>
      have e3 := Option.some.inj e2
      intro v H1 W1 μ1 x1 st1 r1
      obtain ⟨q1, μ2, q2, q3, q4⟩ := prune_ok st x1 st1 r1
      rw [e3] at q1 q3
      cases q1
      exact p _ H1 W1 μ2 q2 q3 q4
  · cases e

/-! ### the program -/
inductive TK where
  | fn (i : Nat) (N : List Str) (f : Fn) | blt | con (d : D)
abbrev Tab := List (Str × TK)
def TK.gk : TK → GK
  | .fn _ _ f => .fn f
  | .blt => .blt
  | .con d => .con d
def gtOf (T : Tab) : GT := T.map fun e => (e.1, e.2.gk)
mutual
def repB (K : PySem.W.Frag) : D → Value → Bool
  | .int i, .int j _ => decide (i = j)
  | .bl b, .bool c => decide (b = c)
  | .str s, .str t _ => decide (s = t)
  | .non, .none => true
  | .tup ds, .ref a => (match K.lookup a with
    | some ⟨.type c, _, .seq its _, _⟩ => decide (c = "tuple") && (decide (its.size ≤ sizeLine) && repsB K ds its.toList)
    | _ => false)
  | _, _ => false
def repsB (K : PySem.W.Frag) : List D → List Value → Bool
  | [], [] => true
  | d :: ds, u :: us => repB K d u && repsB K ds us
  | _, _ => false
end
mutual
theorem repB_ok {K : PySem.W.Frag} : ∀ (d : D) (u : Value), repB K d u = true → ∃ v, RelV v u ∧ ∀ W μ, Rep K W μ d v
  | .int i, u, h => by
    cases u <;> first | exact absurd (show false = true from h) Bool.false_ne_true | skip
    cases (dec (show decide (i = _) = true from h))
    exact ⟨.int i, ⟨_, rfl⟩, fun _ _ => rfl⟩
  | .bl i, u, h => by
    cases u <;> first | exact absurd (show false = true from h) Bool.false_ne_true | skip
    cases (dec (show decide (i = _) = true from h))
    exact ⟨.bl i, rfl, fun _ _ => rfl⟩
  | .str i, u, h => by
    cases u <;> first | exact absurd (show false = true from h) Bool.false_ne_true | skip
    cases (dec (show decide (i = _) = true from h))
    exact ⟨.str i, ⟨_, rfl⟩, fun _ _ => rfl⟩
  | .non, u, h => by
    cases u <;> first | exact absurd (show false = true from h) Bool.false_ne_true | skip
    exact ⟨.non, rfl, fun _ _ => rfl⟩
  | .tup ds, u, h => by
    cases u <;> first | exact absurd (show false = true from h) Bool.false_ne_true | skip
    rename_i a
    have h : (match K.lookup a with
      | some ⟨.type c, _, .seq its _, _⟩ => decide (c = "tuple") && (decide (its.size ≤ sizeLine) && repsB K ds its.toList)
      | _ => false) = true := h
    cases q : K.lookup a with
    | none => rw [q] at h; cases h
    | some o =>
      obtain ⟨oc, od, dt, osl⟩ := o
      rw [q] at h
      cases oc <;> try (exact absurd (show false = true from h) Bool.false_ne_true)
      rename_i c
      cases dt <;> try (exact absurd (show false = true from h) Bool.false_ne_true)
      rename_i its n
      obtain ⟨h1, h2⟩ := bk (show (decide (c = "tuple") && (decide (its.size ≤ sizeLine) && repsB K ds its.toList)) = true from h)
      obtain ⟨h3, h4⟩ := bk h2
      obtain ⟨vs, r1, r2⟩ := repsB_ok ds its.toList h4
      exact ⟨.ref a, rfl, fun W μ => ⟨a, vs, rfl, .inr ⟨_, its, n, q, congrArg Value.type (dec h1), rfl, dec h3, r1⟩, r2 W μ⟩⟩
  | .lst _, u, h => absurd (show false = true by cases u <;> exact h) Bool.false_ne_true
  | .flst _, u, h => absurd (show false = true by cases u <;> exact h) Bool.false_ne_true
  | .ref _, u, h => absurd (show false = true by cases u <;> exact h) Bool.false_ne_true
  | .ty _, u, h => absurd (show false = true by cases u <;> exact h) Bool.false_ne_true
theorem repsB_ok {K : PySem.W.Frag} : ∀ (ds : List D) (us : List Value), repsB K ds us = true → ∃ vs, Vals vs us ∧ ∀ W μ, Reps K W μ ds vs
  | [], [], _ => ⟨[], .nil, fun _ _ => rfl⟩
  | [], _ :: _, h => absurd (show false = true from h) Bool.false_ne_true
  | _ :: _, [], h => absurd (show false = true from h) Bool.false_ne_true
  | d :: ds, u :: us, h => by
    obtain ⟨h1, h2⟩ := bk (show (repB K d u && repsB K ds us) = true from h)
    obtain ⟨v, r1, r2⟩ := repB_ok d u h1
    obtain ⟨vs, r3, r4⟩ := repsB_ok ds us h2
    exact ⟨v :: vs, .cons r1 r3, fun W μ => ⟨v, vs, rfl, r2 W μ, r4 W μ⟩⟩
end
def conB (K : PySem.W.Frag) (x : Str) (d : D) : Bool := match PySem.W.nsIn K mainGlobals x with
  | some (some u) => repB K d u
  | _ => false
def ddOf (top : Nat → Stmt) (x : Str) (i : Nat) : He.DefD := ⟨(x, none), x, x, defArgs (top i), defBody (top i), defScope (top i), [], []⟩
def faOf (T : Tab) : List He.Fa := T.filterMap fun e => match e.2 with
  | .fn _ _ _ => some (.glo e.1)
  | .blt => some (.free e.1)
  | .con _ => none
def fnOf' (top : Nat → Stmt) (T : Tab) : List He.DefD := T.filterMap fun e => match e.2 with
  | .fn i _ _ => some (ddOf top e.1 i)
  | _ => none
def exOf (T : Tab) (K : PySem.W.Frag) : Bool := T.all fun e => match e.2 with
  | .con d => conB K e.1 d
  | _ => true
def chkT (top : Nat → Stmt) (T : Tab) : Bool := T.all fun e => match e.2 with
  | .fn i N f => chkD (gtOf T) f N (defArgs (top i)) (defScope (top i)) (defBody (top i))
  | _ => true
/-- the head's look -/
def hookR (n : Nat) (fa : List He.Fa) (fn : List He.DefD) (ex : PySem.W.Frag → Bool) : PySem.W.Hook where
  α := He.AlD × Bool
  obs := fun s => (He.obsDG n fa fn s.heap.get?, ex (He.frG s.heap.get? (He.asD s.heap.get? n)))
  val := fun _ => (He.valD fn, true)
  says := fun _ h => ∃ K : PySem.W.Frag, K.In h ∧ He.SaysD fa fn K ∧ ex K = true
  of := fun _ _ e => ⟨_, He.frG_in, congrArg (fun z : He.AlD × Bool => z.1) e, congrArg (fun z : He.AlD × Bool => z.2) e⟩
  keeps := fun _ _ _ ⟨K, hK, c⟩ k => ⟨K, PySem.W.Frag.In.keeps hK k, c⟩
theorem facts_mem {fa : List He.Fa} {fn : List He.DefD} {K : PySem.W.Frag} (c : He.SaysD fa fn K) {f : He.Fa} (h : f ∈ fa) : f.ok K = true := by
  obtain ⟨i, hi, e⟩ := List.mem_iff_getElem.mp h
  exact c.fact i (f := f) (by rw [List.getElem?_eq_getElem hi, e])
theorem defs_mem {fa : List He.Fa} {fn : List He.DefD} {K : PySem.W.Frag} (c : He.SaysD fa fn K) {d : He.DefD} (h : d ∈ fn) : ∃ fd, FunD K d.name d.qual d.params d.body d.scope (d.dvs K) (d.kws K) (He.fAd K d.at_) fd := by
  obtain ⟨i, hi, e⟩ := List.mem_iff_getElem.mp h
  exact c.def_ i (d := d) (by rw [List.getElem?_eq_getElem hi, e])
theorem tab_at {T : Tab} {g : Nat} {x : Str} {q : GK} (h : (gtOf T)[g]? = some (x, q)) : ∃ t, (x, t) ∈ T ∧ t.gk = q := by
  unfold gtOf at h
  rw [List.getElem?_map] at h
  cases c : T[g]? with
  | none => rw [c] at h; cases h
  | some e =>
    rw [c] at h
    cases h
    exact ⟨e.2, List.mem_of_getElem? c, rfl⟩
theorem gf_ok {P : Program} {w : World} {K : PySem.W.Frag} {mg : Str → Option Value} {base h : Heap} {top : Nat → Stmt} {T : Tab} (X : K.In h) (NS : h.Ns mainGlobals mg) (c : He.SaysD (faOf T) (fnOf' top T) K) (ex : exOf T K = true) (ck : chkT top T = true) : ∀ k, GF P w K mg base (gtOf T) k (callK (gtOf T) k) := by
  have fnAt : ∀ {g : Nat} {x : Str} {f : Fn}, (gtOf T)[g]? = some (x, GK.fn f) → ∃ (N : List Str) (as : List Arg) (body : List Stmt) (scope : Scope) (fd : FuncData), mg x = some (.ref (He.ga K x)) ∧ FunD K x x ⟨[], as, none, [], [], none, []⟩ body scope [] [] (He.ga K x) fd ∧ chkD (gtOf T) f N ⟨[], as, none, [], [], none, []⟩ scope body = true := fun {g x f} hg => by
    obtain ⟨t, ht, e⟩ := tab_at hg
    cases t with
    | blt => cases e
    | con d => cases e
    | fn i N f' =>
      cases e
      have hf : He.Fa.glo x ∈ faOf T := List.mem_filterMap.mpr ⟨(x, TK.fn i N f), ht, rfl⟩
      have hd : ddOf top x i ∈ fnOf' top T := List.mem_filterMap.mpr ⟨(x, TK.fn i N f), ht, rfl⟩
      have hm := He.glo_ok X NS (facts_mem c hf)
      obtain ⟨fd, FD⟩ := defs_mem c hd
      have hc : chkD (gtOf T) f N (defArgs (top i)) (defScope (top i)) (defBody (top i)) = true := List.all_eq_true.mp ck (x, TK.fn i N f) ht
      have FD : FunD K x x (defArgs (top i)) (defBody (top i)) (defScope (top i)) [] [] (He.ga K x) fd := FD
      generalize defArgs (top i) = pa at hc FD
      match pa, hc, FD with
      | ⟨[], as, none, [], [], none, []⟩, hc, FD => exact ⟨N, as, _, _, fd, hm, FD, hc⟩
      | ⟨_ :: _, _, _, _, _, _, _⟩, hc, _ => exact absurd (bk hc).1 Bool.false_ne_true
      | ⟨[], _, some _, _, _, _, _⟩, hc, _ => exact absurd (bk hc).1 Bool.false_ne_true
      | ⟨[], _, none, _ :: _, _, _, _⟩, hc, _ => exact absurd (bk hc).1 Bool.false_ne_true
      | ⟨[], _, none, [], _ :: _, _, _⟩, hc, _ => exact absurd (bk hc).1 Bool.false_ne_true
      | ⟨[], _, none, [], [], some _, _⟩, hc, _ => exact absurd (bk hc).1 Bool.false_ne_true
      | ⟨[], _, none, [], [], none, _ :: _⟩, hc, _ => exact absurd (bk hc).1 Bool.false_ne_true
  have bltAt : ∀ (g : Nat) x, (gtOf T)[g]? = some (x, GK.blt) → mg x = none := fun g x hg => by
    obtain ⟨t, ht, e⟩ := tab_at hg
    cases t with
    | fn _ _ _ => cases e
    | con d => cases e
    | blt => exact He.free_ok X NS (facts_mem c (List.mem_filterMap.mpr ⟨(x, TK.blt), ht, rfl⟩))
  have conAt : ∀ (g : Nat) x d, (gtOf T)[g]? = some (x, GK.con d) → ∃ u v, mg x = some u ∧ RelV v u ∧ ∀ W μ, Rep K W μ d v := fun g x d hg => by
    obtain ⟨t, ht, e⟩ := tab_at hg
    cases t with
    | fn _ _ _ => cases e
    | blt => cases e
    | con d' =>
      cases e
      have h1 : conB K x d = true := List.all_eq_true.mp ex (x, TK.con d) ht
      unfold conB at h1
      cases q : PySem.W.nsIn K mainGlobals x with
      | none => rw [q] at h1; cases h1
      | some o =>
        rw [q] at h1
        cases o with
        | none => cases h1
        | some u =>
          obtain ⟨v, r1, r2⟩ := repB_ok d u h1
          exact ⟨u, v, PySem.W.mg_of X NS q, r1, r2⟩
  have mk : ∀ k, (∀ g x f, (gtOf T)[g]? = some (x, GK.fn f) → ∃ a fd ps, mg x = some (.ref a) ∧ PySem.W.keepIn K (.ref a) = true ∧ Binds K fd ps [] ∧ FnOk P w K mg base CX0 k a fd ps (spOf K f.np (callK (gtOf T) k g))) → GF P w K mg base (gtOf T) k (callK (gtOf T) k) := fun k h =>
    ⟨h, (fun g x f ds S r hg e => by
      cases k with
      | zero => cases e
      | succ k =>
        simp only [callK, hg] at e
        split at e
        · assumption
        · cases e), bltAt, conAt⟩
  intro k
  induction k with
  | zero =>
    refine mk 0 fun g x f hg => ?_
    obtain ⟨N, as, body, scope, fd, hm, FD, hc⟩ := fnAt hg
    have hnd : (as.map (·.arg)).Nodup := by
      have := (bk hc).1
      exact dec (bk (bk (bk this).2).2).1
    refine ⟨_, fd, _, hm, FD.kp, binds_of FD hnd, ⟨fun vs H Q E q => ?_, fun A outer s H args us vs Q E _ _ _ _ q => ?_⟩⟩
    · obtain ⟨_, W, F, μ, S, ds, d, S', _, _, e, _⟩ := q
      cases e
    · obtain ⟨_, W, F, μ, S, ds, d, S', _, _, e, _⟩ := q
      cases e
  | succ k ih =>
    refine mk (k + 1) fun g x f hg => ?_
    obtain ⟨N, as, body, scope, fd, hm, FD, hc⟩ := fnAt hg
    have hnd : (as.map (·.arg)).Nodup := by
      have := (bk hc).1
      exact dec (bk (bk (bk this).2).2).1
    exact ⟨_, fd, _, hm, FD.kp, binds_of FD hnd, fn_ok ih hg FD hc⟩

/-! ### the law -/
theorem reps_ints {K : PySem.W.Frag} {W : Hp} {μ : List Addr} : ∀ ns : List Int, Reps K W μ (ns.map D.int) (ns.map V.int)
  | [] => rfl
  | n :: ns => ⟨.int n, _, rfl, rfl, reps_ints ns⟩
theorem law_sp {K : PySem.W.Frag} {G : GT} {k g : Nat} {H : Hp} {a : Addr} {ns : List Int} (hS : SqL K H a (ns.map V.int)) (h : ∃ S', callK G k g [.flst (ns.map D.int)] [] = some (.bl true, S')) {E : XK} :
    spOf K 1 (callK G k g) [.ref a] H (fun v _ => v = .bl true) E := by
  obtain ⟨S', h⟩ := h
  refine ⟨rfl, H, fun _ => none, [], [], [.flst (ns.map D.int)], .bl true, S', ⟨fun _ _ e => e, fun _ _ e => (by cases e), fun _ _ e => (by cases e), rfl, fun i j a e => by simp at e, fun i a e => by simp at e, fun i a c e => by simp at e⟩, ⟨.ref a, [], rfl, ⟨a, _, rfl, hS, reps_ints ns⟩, rfl⟩, h, fun v H' W' μ' _ _ r => r⟩
theorem law_walk {l : PySem.W.OpenLaw} {q : Program} {loose : List Str} {XP : (Str → Option Value) → Heap → Prop} {d : DefRec} {top : Nat → Stmt} {T : Tab} {n : Nat} {g k i : Nat} {N : List Str} {f : Fn} (hn : l.most = some 63) (hdf : d.params.defaults = []) (hr : Room k callerA) (hname : d.name = ("law" : Str))
    (ck : chkT top T = true) (hg : T[g]? = some (("law" : Str), .fn i N f)) (hp : defArgs (top i) = ⟨[], [⟨"script", none, (match (defArgs (top i)).args with
      | a :: _ => a.pos
      | [] => ⟨0, 0, 0, 0⟩)⟩], none, [], [], none, []⟩)
    (h : ∀ ns : List Int, ns.length ≤ 63 → ∃ S', callK (gtOf T) k g [.flst (ns.map D.int)] [] = some (.bl true, S')) :
    PySem.W.WalkO q loose XP (hookR n (faOf T) (fnOf' top T) (exOf T)).says l.row.toRowW d [] (fun f vs => PySem.call f vs) := by
  refine L2.walk_ofE (l := l) (n := 63) (k := k) (x := "script") (CX := L2.CX0) hn (by decide) hdf hr ?F (fun _ _ _ _ z => z)
  intro w mg fa h0 Y NS hmg
  obtain ⟨K, KX, c, ex⟩ := Y
  rw [hname] at hmg
  have GFk : ∀ base, GF l.prog w K mg base (gtOf T) k (callK (gtOf T) k) := fun base => gf_ok KX NS c ex ck k
  have hgt : (gtOf T)[g]? = some (("law" : Str), .fn f) := by
    unfold gtOf
    rw [List.getElem?_map, hg]
    rfl
  have ht : (("law" : Str), TK.fn i N f) ∈ T := List.mem_of_getElem? hg
  have hd : ddOf top "law" i ∈ fnOf' top T := List.mem_filterMap.mpr ⟨_, ht, rfl⟩
  obtain ⟨fd0, FD⟩ := defs_mem c hd
  have hm := He.glo_ok KX NS (facts_mem c (show He.Fa.glo "law" ∈ faOf T from List.mem_filterMap.mpr ⟨_, ht, rfl⟩))
  have e := hmg.symm.trans hm
  cases e
  have FD : FunD K "law" "law" (defArgs (top i)) (defBody (top i)) (defScope (top i)) [] [] (He.ga K "law") fd0 := FD
  have hc : chkD (gtOf T) f N (defArgs (top i)) (defScope (top i)) (defBody (top i)) = true := List.all_eq_true.mp ck _ ht
  rw [hp] at FD hc
  have hnd : ([⟨"script", none, (match (defArgs (top i)).args with
      | a :: _ => a.pos
      | [] => ⟨0, 0, 0, 0⟩)⟩] : List Arg).map (·.arg) = (["script"] : List Str) := rfl
  have hnp : f.np = 1 := dec (bk (bk (bk (bk hc).1).2).2).2
  refine ⟨K, fd0, spOf K 1 (callK (gtOf T) k g), KX, fun s u => FD.bindsA (ps := (["script"] : List Str)) (fun _ _ _ _ _ _ us hl => bind_ok (as := [⟨"script", none, _⟩]) (by simp) hl) s [u] rfl, fun H a ns hl _ hS => law_sp hS (h ns hl), fun base KB NB => ?_⟩
  cases k with
  | zero =>
    obtain ⟨S', e⟩ := h [] (by decide)
    cases e
  | succ k =>
    have := fn_ok (P := l.prog) (w := w) (mg := mg) (base := base) (gf_ok KX NS c ex ck k) hgt FD hc
    rw [hnp] at this
    exact this
end Rw

/-! M14: how the evaluator is used -/
namespace Rw
open PySem L2

theorem whF_mono {c : Env → Sto → Rs Bool} {b : Env → Sto → Rs Fl} : ∀ {n : Nat} {ρ : Env} {S : Sto} {r : Fl × Sto}, whF c b n ρ S = some r → whF c b (n + 1) ρ S = some r
  | 0, _, _, _, h => by cases h
  | n + 1, ρ, S, r, h => by
    simp only [whF] at h ⊢
    obtain ⟨t, S1, h1, h2⟩ := bnd_inv h
    rw [h1]
    cases t with
    | false => exact h2
    | true =>
      simp only [if_true, bnd_some] at h2 ⊢
      obtain ⟨fl, S2, h3, h4⟩ := bnd_inv h2
      rw [h3]
      cases fl with
      | nx ρ2 => exact whF_mono (n := n) h4
      | bk ρ2 => exact h4
      | rt d => exact h4
theorem whF_le {c : Env → Sto → Rs Bool} {b : Env → Sto → Rs Fl} {n m : Nat} (hl : n ≤ m) {ρ : Env} {S : Sto} {r : Fl × Sto} (h : whF c b n ρ S = some r) : whF c b m ρ S = some r := by
  induction hl with
  | refl => exact h
  | step _ ih => exact whF_mono ih
theorem whE_of {c : Env → Sto → Rs Bool} {b : Env → Sto → Rs Fl} {n : Nat} {ρ : Env} {S : Sto} {r : Fl × Sto} (h : whF c b n ρ S = some r) : whE c b ρ S = some r := by
  unfold whE
  have hx : ∃ n r, whF c b n ρ S = some r := ⟨n, r, h⟩
  rw [dif_pos hx]
  obtain ⟨r', hr⟩ := hx.choose_spec
  rw [hr]
  have h1 := whF_le (Nat.le_max_left n hx.choose) h
  have h2 := whF_le (Nat.le_max_right n hx.choose) hr
  rw [h1] at h2
  exact h2.symm
/-- one turn more -/
theorem whE_turn {c : Env → Sto → Rs Bool} {b : Env → Sto → Rs Fl} {ρ ρ2 : Env} {S S1 S2 : Sto} {r : Fl × Sto} (h1 : c ρ S = some (true, S1)) (h2 : b ρ S1 = some (.nx ρ2, S2)) (h3 : whE c b ρ2 S2 = some r) : whE c b ρ S = some r := by
  obtain ⟨n, h⟩ := whE_inv h3
  refine whE_of (n := n + 1) ?_
  simp only [whF, h1, bnd_some, if_true, h2]
  exact h
theorem whE_end {c : Env → Sto → Rs Bool} {b : Env → Sto → Rs Fl} {ρ : Env} {S S1 : Sto} (h1 : c ρ S = some (false, S1)) : whE c b ρ S = some (.nx ρ, S1) :=
  whE_of (n := 1) (by simp only [whF, h1, bnd_some, Bool.false_eq_true, if_false])
theorem whE_ret {c : Env → Sto → Rs Bool} {b : Env → Sto → Rs Fl} {ρ : Env} {S S1 S2 : Sto} {d : D} (h1 : c ρ S = some (true, S1)) (h2 : b ρ S1 = some (.rt d, S2)) : whE c b ρ S = some (.rt d, S2) :=
  whE_of (n := 1) (by simp only [whF, h1, bnd_some, if_true, h2])
theorem prune_same {S : Sto} {d : D} : prune S d S = (d, S) := by
  unfold prune
  split <;> rfl
theorem prune_new {S T : Sto} {d : D} (h : below S.length d = true) : prune S d (S ++ T) = (d, S) := by
  unfold prune
  rw [if_pos ⟨by simp, h⟩]
/-- a call -/
theorem callK_fn {G : GT} {k g : Nat} {x : Str} {f : Fn} {ds : List D} {S : Sto} (hg : G[g]? = some (x, .fn f)) (hn : ds.length = f.np) : callK G (k + 1) g ds S = bnd (evSs G (callK G k) f.body (ds.map some ++ List.replicate (f.nl - ds.length) none) S) fun fl S1 => match fl with
      | .nx _ => some (prune S .non S1)
      | .rt d => some (prune S d S1)
      | .bk _ => none := by
  simp only [callK, hg, hn, if_true]
  try rfl
theorem bnd_bnd {α β γ : Type} (x : Rs α) (f : α → Sto → Rs β) (g : β → Sto → Rs γ) : bnd (bnd x f) g = bnd x fun a S => bnd (f a S) g := by
  cases x <;> rfl
theorem bnd_ite {α β : Type} {p : Prop} [Decidable p] (x y : Rs α) (f : α → Sto → Rs β) : bnd (if p then x else y) f = if p then bnd x f else bnd y f := by
  split <;> rfl
end Rw

/-! M15: the evaluator, step by step -/
namespace Rw
open PySem L2

theorem bnd_congr {α β : Type} {x y : Rs α} (h : x = y) (f : α → Sto → Rs β) : bnd x f = bnd y f := by rw [h]
theorem lft_congr {α β : Type} {x y : Option α} (h : x = y) (f : α → Rs β) : lft x f = lft y f := by rw [h]

theorem nrfl {α : Sort _} {a b : α} (h : a = b) : a = b := h
theorem bnd_s {α β : Type} (a : α) (S : Sto) (f : α → Sto → Rs β) : bnd (some (a, S)) f = f a S := nrfl rfl
theorem bnd_n {α β : Type} (f : α → Sto → Rs β) : bnd none f = none := nrfl rfl
theorem lft_s {α β : Type} (a : α) (f : α → Rs β) : lft (some a) f = f a := nrfl rfl
theorem lft_n {α β : Type} (f : α → Rs β) : lft none f = none := nrfl rfl
/-- and then -/
noncomputable def sq (G : GT) (cl : Nat → List D → Sto → Rs D) (ss : MSs) (x : Rs Fl) : Rs Fl := bnd x fun fl S1 => match fl with
    | .nx ρ1 => evSs G cl ss ρ1 S1
    | .bk ρ1 => some (.bk ρ1, S1)
    | .rt d => some (.rt d, S1)
/-- the end of a call -/
noncomputable def fin (S : Sto) (x : Rs Fl) : Rs D := bnd x fun fl S1 => match fl with
      | .nx _ => some (prune S .non S1)
      | .rt d => some (prune S d S1)
      | .bk _ => none
noncomputable def fbd (G : GT) (cl : Nat → List D → Sto → Rs D) (tg : MG) (b : MSs) (x : D) (ρ1 : Env) (S2 : Sto) : Rs Fl := lft (asgG tg x ρ1) fun ρ2 => evSs G cl b ρ2 S2
noncomputable def ctn (G : GT) (cl : Nat → List D → Sto → Rs D) (elt : ME) (tg : MG) (cs : MO) (ρ : Env) (x : D) (S2 : Sto) : Rs (Option D) := lft (asgG tg x ρ) fun ρ1 => bnd (evC G cl cs ρ1 S2) fun t S3 => if t = true then bnd (evE G cl elt ρ1 S3) fun y S4 => some (some y, S4) else some (none, S3)
/-- a turn of a comprehension of two clauses -/
noncomputable def ctn2 (G : GT) (cl : Nat → List D → Sto → Rs D) (elt : ME) (tg : MG) (cs : MO) (vs1 : List Nat) (tg1 : MG) (it1 : MI) (cs1 : MO) (ρ : Env) (x : D) (S2 : Sto) (acc : List D) : Rs (List D) := lft (asgG tg x ρ) fun ρ1 => bnd (evC G cl cs ρ1 S2) fun t S3 => if t = true then
      bnd (evI G cl it1 ρ1 S3) fun w1 S4 => if acc.length + w1.1.length ≤ sizeLine then compL w1.2 w1.1 (ctn G cl elt tg1 cs1 (wipeE ρ1 vs1)) w1.1 S4 acc else none
      else some (acc, S3)
/-- a comprehension's list -/
noncomputable def cls (mu : Bool) (x : Rs (List D)) : Rs D := bnd x fun acc S5 => if mu = true then some (.ref S5.length, S5 ++ [.lst acc]) else some (.lst acc, S5)
section
variable {G : GT} {cl : Nat → List D → Sto → Rs D} {ρ ρ1 : Env} {S S1 : Sto} {d : D}
theorem sq_nx {ss : MSs} : sq G cl ss (some (.nx ρ, S)) = evSs G cl ss ρ S := nrfl rfl
theorem sq_bk {ss : MSs} : sq G cl ss (some (.bk ρ, S)) = some (.bk ρ, S) := nrfl rfl
theorem sq_rt {ss : MSs} : sq G cl ss (some (.rt d, S)) = some (.rt d, S) := nrfl rfl
theorem fin_nx : fin S (some (.nx ρ, S1)) = some (prune S .non S1) := nrfl rfl
theorem fin_rt : fin S (some (.rt d, S1)) = some (prune S d S1) := nrfl rfl
theorem cls_f {acc : List D} : cls false (some (acc, S)) = some (.lst acc, S) := nrfl rfl
theorem cls_t {acc : List D} : cls true (some (acc, S)) = some (.ref S.length, S ++ [.lst acc]) := nrfl rfl
theorem sq_ite {ss : MSs} {p : Prop} [Decidable p] {x y : Rs Fl} : sq G cl ss (if p then x else y) = if p then sq G cl ss x else sq G cl ss y := by
  split <;> rfl
theorem fin_ite {p : Prop} [Decidable p] {x y : Rs Fl} : fin S (if p then x else y) = if p then fin S x else fin S y := by
  split <;> rfl
theorem call_fn {k g : Nat} {x : Str} {f : Fn} {ds : List D} (hg : G[g]? = some (x, .fn f)) (hn : ds.length = f.np) : callK G (k + 1) g ds S = fin S (evSs G (callK G k) f.body (ds.map some ++ List.replicate (f.nl - ds.length) none) S) := callK_fn hg hn
theorem ev_var {i : Nat} : evE G cl (.var i) ρ S = (match ρ[i]? with
    | some (some d) => some (d, S)
    | _ => none) := nrfl rfl
theorem ev_int {i : Int} : evE G cl (.int i) ρ S = some (.int i, S) := nrfl rfl
theorem ev_str {i : Str} : evE G cl (.str i) ρ S = some (.str i, S) := nrfl rfl
theorem ev_bl {i : Bool} : evE G cl (.bl i) ρ S = some (.bl i, S) := nrfl rfl
theorem ev_non : evE G cl .non ρ S = some (.non, S) := nrfl rfl
theorem ev_con {g : Nat} : evE G cl (.con g) ρ S = lft (conOf G g) fun d => some (d, S) := nrfl rfl
theorem ev_bin {op : Operator} {a b : ME} : evE G cl (.bin op a b) ρ S = bnd (evE G cl a ρ S) fun d S1 => bnd (evE G cl b ρ S1) fun e S2 => lft (binD op d e) fun r => some (r, S2) := nrfl rfl
theorem ev_madd {a b : ME} : evE G cl (.madd a b) ρ S = bnd (evE G cl a ρ S) fun d S1 => bnd (evE G cl b ρ S1) fun e S2 => match d, e with
    | .lst xs, .lst ys => if xs.length + ys.length ≤ sizeLine then some (.ref S2.length, S2 ++ [.lst (xs ++ ys)]) else none
    | _, _ => none := nrfl rfl
theorem ev_neg {a : ME} : evE G cl (.neg a) ρ S = bnd (evE G cl a ρ S) fun d S1 => match d with
    | .int i => some (.int (-i), S1)
    | _ => none := nrfl rfl
theorem ev_cmp {op : CmpOp} {a b : ME} : evE G cl (.cmp op a b) ρ S = bnd (evE G cl a ρ S) fun d S1 => bnd (evE G cl b ρ S1) fun e S2 => lft (cmpD S2 op d e) fun r => some (.bl r, S2) := nrfl rfl
theorem ev_ch {op op' : CmpOp} {a b c : ME} : evE G cl (.ch op op' a b c) ρ S = bnd (evE G cl a ρ S) fun d S1 => bnd (evE G cl b ρ S1) fun e S2 => lft (cmpD S2 op d e) fun r => if r = true then bnd (evE G cl c ρ S2) fun f S3 => lft (cmpD S3 op' e f) fun q => some (.bl q, S3) else some (.bl false, S2) := nrfl rfl
theorem ev_and {a b : ME} : evE G cl (.and a b) ρ S = bnd (evE G cl a ρ S) fun d S1 => lft (truD S1 d) fun t => if t = true then evE G cl b ρ S1 else some (d, S1) := nrfl rfl
theorem ev_or {a b : ME} : evE G cl (.or a b) ρ S = bnd (evE G cl a ρ S) fun d S1 => lft (truD S1 d) fun t => if t = true then some (d, S1) else evE G cl b ρ S1 := nrfl rfl
theorem ev_one {a : ME} : evE G cl (.one a) ρ S = evE G cl a ρ S := nrfl rfl
theorem ev_not {a : ME} : evE G cl (.not a) ρ S = bnd (evE G cl a ρ S) fun d S1 => lft (truD S1 d) fun t => some (.bl (!t), S1) := nrfl rfl
theorem ev_ifE {c a b : ME} : evE G cl (.ifE c a b) ρ S = bnd (evE G cl c ρ S) fun d S1 => lft (truD S1 d) fun t => if t = true then evE G cl a ρ S1 else evE G cl b ρ S1 := nrfl rfl
theorem ev_tup {es : MEs} : evE G cl (.tup es) ρ S = bnd (evEs G cl es ρ S) fun ds S1 => if ds.length ≤ sizeLine then some (.tup ds, S1) else none := nrfl rfl
theorem ev_lst {es : MEs} : evE G cl (.lst es) ρ S = bnd (evEs G cl es ρ S) fun ds S1 => if ds.length ≤ sizeLine then some (.lst ds, S1) else none := nrfl rfl
theorem ev_mlst {es : MEs} : evE G cl (.mlst es) ρ S = bnd (evEs G cl es ρ S) fun ds S1 => if ds.length ≤ sizeLine then some (.ref S1.length, S1 ++ [.lst ds]) else none := nrfl rfl
theorem ev_dict {ps : MPs} : evE G cl (.dict ps) ρ S = bnd (evPs G cl ps ρ S) fun ps S1 => lft (keysD ps) fun kvs => if kvs.length ≤ 15 then some (.ref S1.length, S1 ++ [.dk (mergeKD [] kvs)]) else none := nrfl rfl
theorem ev_idx {a i : ME} : evE G cl (.idx a i) ρ S = bnd (evE G cl a ρ S) fun d S1 => bnd (evE G cl i ρ S1) fun e S2 => lft (idxD S2 d e) fun r => some (r, S2) := nrfl rfl
theorem ev_sl {a : ME} {lo hi : MO} : evE G cl (.sl a lo hi) ρ S = bnd (evE G cl a ρ S) fun d S1 => bnd (evO G cl lo ρ S1) fun l S2 => bnd (evO G cl hi ρ S2) fun h S3 => lft (slD S3 d l h) fun r => some (r, S3) := nrfl rfl
theorem ev_slR {a : ME} {hi : MO} : evE G cl (.slR a hi) ρ S = bnd (evE G cl a ρ S) fun d S1 => bnd (evO G cl hi ρ S1) fun h S2 => lft (slRD S2 d h) fun r => some (r, S2) := nrfl rfl
theorem ev_call {g : Nat} {es : MEs} : evE G cl (.call g es) ρ S = bnd (evEs G cl es ρ S) fun ds S1 => cl g ds S1 := nrfl rfl
theorem ev_bi {b : BI} {g : Nat} {es : MEs} : evE G cl (.bi b g es) ρ S = bnd (evEs G cl es ρ S) fun ds S1 => lft (biD S1 b ds) fun r => some (r, S1) := nrfl rfl
theorem ev_isI {g h : Nat} {n : String} {a : ME} : evE G cl (.isI g h n a) ρ S = bnd (evE G cl a ρ S) fun d S1 => lft (tyName S1 d) fun t => lft (kitB t n) fun b => some (.bl b, S1) := nrfl rfl
theorem ev_meth {m : MT} {o : ME} {es : MEs} : evE G cl (.meth m o es) ρ S = bnd (evE G cl o ρ S) fun d S1 => lft (lstOf S1 d) fun _ => bnd (evEs G cl es ρ S1) fun ds S2 => methD m S2 d ds := nrfl rfl
theorem ev_lc {mu : Bool} {vs : List Nat} {elt : ME} {tg : MG} {it : MI} {cs : MO} : evE G cl (.lc mu vs elt tg it cs) ρ S = bnd (evI G cl it ρ S) fun w S1 => if w.1.length ≤ sizeLine then cls mu (compL w.2 w.1 (ctn G cl elt tg cs (wipeE ρ vs)) w.1 S1 []) else none := nrfl rfl
theorem ev_lc2 {mu : Bool} {vs vs1 : List Nat} {elt : ME} {tg tg1 : MG} {it it1 : MI} {cs cs1 : MO} : evE G cl (.lc2 mu vs elt tg it cs vs1 tg1 it1 cs1) ρ S = bnd (evI G cl it ρ S) fun w S1 => cls mu (compA w.2 w.1 (ctn2 G cl elt tg cs vs1 tg1 it1 cs1 (wipeE ρ vs)) w.1 S1 []) := nrfl rfl
theorem ev_nil : evEs G cl .nil ρ S = some ([], S) := nrfl rfl
theorem ev_cons {e : ME} {es : MEs} : evEs G cl (.cons e es) ρ S = bnd (evE G cl e ρ S) fun d S1 => bnd (evEs G cl es ρ S1) fun ds S2 => some (d :: ds, S2) := nrfl rfl
theorem ev_oN : evO G cl .none ρ S = some (none, S) := nrfl rfl
theorem ev_oS {e : ME} : evO G cl (.some e) ρ S = bnd (evE G cl e ρ S) fun d S1 => match d with
    | .int i => some (some i, S1)
    | _ => none := nrfl rfl
theorem ev_cN : evC G cl .none ρ S = some (true, S) := nrfl rfl
theorem ev_cS {e : ME} : evC G cl (.some e) ρ S = bnd (evE G cl e ρ S) fun d S1 => lft (truD S1 d) fun t => some (t, S1) := nrfl rfl
theorem ev_pN : evPs G cl .nil ρ S = some ([], S) := nrfl rfl
theorem ev_pC {k v : ME} {ps : MPs} : evPs G cl (.cons k v ps) ρ S = bnd (evE G cl k ρ S) fun a S1 => bnd (evE G cl v ρ S1) fun b S2 => bnd (evPs G cl ps ρ S2) fun r S3 => some ((a, b) :: r, S3) := nrfl rfl
theorem ev_seq {e : ME} : evI G cl (.seq e) ρ S = bnd (evE G cl e ρ S) fun d S1 => lft (itemsOf S1 d) fun w => some (w, S1) := nrfl rfl
theorem ev_rng {g : Nat} {es : MEs} : evI G cl (.rng g es) ρ S = bnd (evEs G cl es ρ S) fun ds S1 => lft (rngD ds) fun xs => some ((xs, none), S1) := nrfl rfl
theorem ev_T {e : ME} : evT G cl e ρ S = bnd (evE G cl e ρ S) fun d S1 => lft (truD S1 d) fun t => some (t, S1) := nrfl rfl
theorem ev_asg {tg : MG} {e : ME} : evS G cl (.asg tg e) ρ S = bnd (evE G cl e ρ S) fun d S1 => lft (asgG tg d ρ) fun ρ1 => some (.nx ρ1, S1) := nrfl rfl
theorem ev_par2 {i j : Nat} {a b : ME} : evS G cl (.par2 i j a b) ρ S = bnd (evE G cl a ρ S) fun d S1 => bnd (evE G cl b ρ S1) fun e S2 => some (.nx ((ρ.set i (some d)).set j (some e)), S2) := nrfl rfl
theorem ev_par3 {i j l : Nat} {a b c : ME} : evS G cl (.par3 i j l a b c) ρ S = bnd (evE G cl a ρ S) fun d S1 => bnd (evE G cl b ρ S1) fun e S2 => bnd (evE G cl c ρ S2) fun f S3 => some (.nx (((ρ.set i (some d)).set j (some e)).set l (some f)), S3) := nrfl rfl
theorem ev_aug {i : Nat} {op : Operator} {e : ME} : evS G cl (.aug i op e) ρ S = (match ρ[i]? with
    | some (some d) => bnd (evE G cl e ρ S) fun y S1 => lft (augD op d y) fun r => some (.nx (ρ.set i (some r)), S1)
    | _ => none) := nrfl rfl
theorem ev_setI {o i e : ME} : evS G cl (.setI o i e) ρ S = bnd (evE G cl e ρ S) fun v S1 => bnd (evE G cl o ρ S1) fun d S2 => bnd (evE G cl i ρ S2) fun k S3 => lft (putI S3 d k v) fun S4 => some (.nx ρ, S4) := nrfl rfl
theorem ev_augI {o i e : ME} {op : Operator} : evS G cl (.augI o i op e) ρ S = bnd (evE G cl o ρ S) fun d S1 => bnd (evE G cl i ρ S1) fun k S2 => lft (augGet S2 d k) fun x => bnd (evE G cl e ρ S2) fun y S3 => lft (augD op x y) fun r => lft (putI S3 d k r) fun S4 => some (.nx ρ, S4) := nrfl rfl
theorem ev_ifS {c : ME} {a b : MSs} : evS G cl (.ifS c a b) ρ S = bnd (evT G cl c ρ S) fun t S1 => if t = true then evSs G cl a ρ S1 else evSs G cl b ρ S1 := nrfl rfl
theorem ev_whl {c : ME} {b : MSs} : evS G cl (.whl c b) ρ S = whE (evT G cl c) (evSs G cl b) ρ S := nrfl rfl
theorem ev_for {tg : MG} {it : MI} {b : MSs} : evS G cl (.forS tg it b) ρ S = bnd (evI G cl it ρ S) fun w S1 => forL w.2 w.1 (fbd G cl tg b) w.1 ρ S1 := nrfl rfl
theorem ev_ret {e : ME} : evS G cl (.ret e) ρ S = bnd (evE G cl e ρ S) fun d S1 => some (.rt d, S1) := nrfl rfl
theorem ev_retN : evS G cl .retN ρ S = some (.rt .non, S) := nrfl rfl
theorem ev_ex {e : ME} : evS G cl (.ex e) ρ S = bnd (evE G cl e ρ S) fun _ S1 => some (.nx ρ, S1) := nrfl rfl
theorem ev_pass : evS G cl .pass ρ S = some (.nx ρ, S) := nrfl rfl
theorem ev_brk : evS G cl .brk ρ S = some (.bk ρ, S) := nrfl rfl
theorem ev_sN : evSs G cl .nil ρ S = some (.nx ρ, S) := nrfl rfl
theorem ev_sC {s : MS} {ss : MSs} : evSs G cl (.cons s ss) ρ S = sq G cl ss (evS G cl s ρ S) := nrfl rfl
theorem asg_name {i : Nat} {d : D} (h : i < ρ.length) : asgG (.name i) d ρ = some (ρ.set i (some d)) := by
  simp only [asgG, h, if_true]
theorem asg_tup {ts : MGs} {xs : List D} : asgG (.tup ts) (.tup xs) ρ = asgGs ts xs ρ := nrfl rfl
theorem asg_lst {ts : MGs} {xs : List D} : asgG (.tup ts) (.lst xs) ρ = asgGs ts xs ρ := nrfl rfl
theorem asg_nil : asgGs .nil [] ρ = some ρ := nrfl rfl
theorem asg_cons {t : MG} {ts : MGs} {x : D} {xs : List D} : asgGs (.cons t ts) (x :: xs) ρ = (asgG t x ρ).bind fun ρ1 => asgGs ts xs ρ1 := nrfl rfl
end
/-! operations -/
section
variable {S : Sto} {a b : Int}
theorem add_i : binD .Add (.int a) (.int b) = some (.int (a + b)) := nrfl rfl
theorem add_t {xs ys : List D} : binD .Add (.tup xs) (.tup ys) = if xs.length + ys.length ≤ sizeLine then some (.tup (xs ++ ys)) else none := nrfl rfl
theorem add_s {xs ys : Str} : binD .Add (.str xs) (.str ys) = if xs.length + ys.length ≤ sizeLine then some (.str (xs ++ ys)) else none := nrfl rfl
theorem add_l {xs ys : List D} : binD .Add (.lst xs) (.lst ys) = if xs.length + ys.length ≤ sizeLine then some (.lst (xs ++ ys)) else none := nrfl rfl
theorem sub_i : binD .Sub (.int a) (.int b) = some (.int (a - b)) := nrfl rfl
theorem sub_b {a b : Bool} : binD .Sub (.bl a) (.bl b) = some (.int (b2i a - b2i b)) := nrfl rfl
theorem mul_i : binD .Mult (.int a) (.int b) = if mulOk a b then some (.int (a * b)) else none := nrfl rfl
theorem div_i : binD .FloorDiv (.int a) (.int b) = if divOk b then some (.int (a.fdiv b)) else none := nrfl rfl
theorem mod_i : binD .Mod (.int a) (.int b) = if b ≠ 0 then some (.int (a.fmod b)) else none := nrfl rfl
theorem pow_i : binD .Pow (.int a) (.int b) = if powOk a b then some (.int (a ^ b.toNat)) else none := nrfl rfl
theorem shl_i : binD .LShift (.int a) (.int b) = if shlOk a b then some (.int (a * 2 ^ b.toNat)) else none := nrfl rfl
theorem shr_i : binD .RShift (.int a) (.int b) = if 0 ≤ b then some (.int (a / 2 ^ b.toNat)) else none := nrfl rfl
theorem lt_i : cmpD S .Lt (.int a) (.int b) = some (decide (a < b)) := nrfl rfl
theorem le_i : cmpD S .LtE (.int a) (.int b) = some (decide (a ≤ b)) := nrfl rfl
theorem gt_i : cmpD S .Gt (.int a) (.int b) = some (decide (b < a)) := nrfl rfl
theorem ge_i : cmpD S .GtE (.int a) (.int b) = some (decide (b ≤ a)) := nrfl rfl
theorem eq_i : cmpD S .Eq (.int a) (.int b) = some (decide (a = b)) := nrfl rfl
theorem ne_i : cmpD S .NotEq (.int a) (.int b) = some (!decide (a = b)) := nrfl rfl
theorem eq_b {a b : Bool} : cmpD S .Eq (.bl a) (.bl b) = some (decide (a = b)) := nrfl rfl
theorem ne_b {a b : Bool} : cmpD S .NotEq (.bl a) (.bl b) = some (!decide (a = b)) := nrfl rfl
theorem eq_s {a b : Str} : cmpD S .Eq (.str a) (.str b) = some (decide (a = b)) := nrfl rfl
theorem ne_s {a b : Str} : cmpD S .NotEq (.str a) (.str b) = some (!decide (a = b)) := nrfl rfl
theorem eq_n : cmpD S .Eq .non .non = some true := nrfl rfl
theorem ne_n : cmpD S .NotEq .non .non = some false := nrfl rfl
theorem is_n {d : D} : cmpD S .Is d .non = some (isNone d) := nrfl rfl
theorem is_bl {a b : Bool} : cmpD S .Is (.bl a) (.bl b) = some (decide (a = b)) := nrfl rfl
theorem isnt_bl {a b : Bool} : cmpD S .IsNot (.bl a) (.bl b) = some (!decide (a = b)) := nrfl rfl
theorem isnt_n {d : D} : cmpD S .IsNot d .non = some (!isNone d) := nrfl rfl
theorem tru_b {b : Bool} : truD S (.bl b) = some b := nrfl rfl
theorem tru_i : truD S (.int a) = some (a != 0) := nrfl rfl
theorem tru_n : truD S .non = some false := nrfl rfl
theorem idx_t {xs : List D} : idxD S (.tup xs) (.int a) = atI xs a := nrfl rfl
theorem idx_l {xs : List D} : idxD S (.lst xs) (.int a) = atI xs a := nrfl rfl
theorem idx_f {xs : List D} : idxD S (.flst xs) (.int a) = atI xs a := nrfl rfl
theorem at_0 {α : Type} {x : α} {xs : List α} : atI (x :: xs) 0 = some x := by
  simp [atI, ixN]
theorem at_1 {α : Type} {x y : α} {xs : List α} : atI (x :: y :: xs) 1 = some y := by
  have : (1 : Int) < ((x :: y :: xs).length : Int) := by simp; omega
  simp only [atI, ixN, this, if_true]; rfl
theorem at_2 {α : Type} {x y z : α} {xs : List α} : atI (x :: y :: z :: xs) 2 = some z := by
  have : (2 : Int) < ((x :: y :: z :: xs).length : Int) := by simp; omega
  simp only [atI, ixN, this, if_true]; rfl
theorem at_nat {α : Type} {xs : List α} {n : Nat} (h : n < xs.length) : atI xs (n : Int) = some xs[n] := by
  simp [atI, ixN, h]
theorem abs_i : biD S .abs [.int a] = some (.int (if a < 0 then -a else a)) := nrfl rfl
theorem max_i : biD S .max [.int a, .int b] = some (.int (if b > a then b else a)) := nrfl rfl
theorem min_i : biD S .min [.int a, .int b] = some (.int (if b < a then b else a)) := nrfl rfl
theorem int_i : biD S .int [.int a] = some (.int a) := nrfl rfl
theorem int_b {a : Bool} : biD S .int [.bl a] = some (.int (b2i a)) := nrfl rfl
theorem str_i : biD S .str [.int a] = if a.natAbs.log2 < 1920 then some (.str (toString a)) else none := nrfl rfl
theorem len_t {xs : List D} : biD S .len [.tup xs] = some (.int xs.length) := nrfl rfl
theorem len_l {xs : List D} : biD S .len [.lst xs] = some (.int xs.length) := nrfl rfl
theorem len_f {xs : List D} : biD S .len [.flst xs] = some (.int xs.length) := nrfl rfl
theorem aug_addI : augD .Add (.int a) (.int b) = some (.int (a + b)) := nrfl rfl
theorem aug_subI : augD .Sub (.int a) (.int b) = some (.int (a - b)) := nrfl rfl
theorem ty_i : tyName S (.int a) = some "int" := nrfl rfl
theorem ty_b {b : Bool} : tyName S (.bl b) = some "bool" := nrfl rfl
theorem ty_n : tyName S .non = some "NoneType" := nrfl rfl
theorem ty_s {b : Str} : tyName S (.str b) = some "str" := nrfl rfl
theorem ty_t {xs : List D} : tyName S (.tup xs) = some "tuple" := nrfl rfl
theorem ty_l {xs : List D} : tyName S (.lst xs) = some "list" := nrfl rfl
theorem it_t {xs : List D} : itemsOf S (.tup xs) = some (xs, none) := nrfl rfl
theorem it_l {xs : List D} : itemsOf S (.lst xs) = some (xs, none) := nrfl rfl
theorem it_f {xs : List D} : itemsOf S (.flst xs) = some (xs, none) := nrfl rfl
end
theorem size_eq : sizeLine = 16777216 := nrfl rfl
theorem sz_0 : (0 ≤ sizeLine) = True := eq_true (by rw [size_eq]; decide)
theorem sz_1 : (1 ≤ sizeLine) = True := eq_true (by rw [size_eq]; decide)
theorem sz_2 : (2 ≤ sizeLine) = True := eq_true (by rw [size_eq]; decide)
theorem sz_3 : (3 ≤ sizeLine) = True := eq_true (by rw [size_eq]; decide)
theorem sz_4 : (4 ≤ sizeLine) = True := eq_true (by rw [size_eq]; decide)
theorem sz_5 : (5 ≤ sizeLine) = True := eq_true (by rw [size_eq]; decide)
theorem sz_6 : (6 ≤ sizeLine) = True := eq_true (by rw [size_eq]; decide)
theorem sz_7 : (7 ≤ sizeLine) = True := eq_true (by rw [size_eq]; decide)
theorem sz_8 : (8 ≤ sizeLine) = True := eq_true (by rw [size_eq]; decide)
theorem sz_9 : (9 ≤ sizeLine) = True := eq_true (by rw [size_eq]; decide)
theorem sz_10 : (10 ≤ sizeLine) = True := eq_true (by rw [size_eq]; decide)
theorem sz_11 : (11 ≤ sizeLine) = True := eq_true (by rw [size_eq]; decide)
theorem sz_12 : (12 ≤ sizeLine) = True := eq_true (by rw [size_eq]; decide)
theorem sz_13 : (13 ≤ sizeLine) = True := eq_true (by rw [size_eq]; decide)
theorem sz_14 : (14 ≤ sizeLine) = True := eq_true (by rw [size_eq]; decide)
theorem sz_15 : (15 ≤ sizeLine) = True := eq_true (by rw [size_eq]; decide)
theorem sz_16 : (16 ≤ sizeLine) = True := eq_true (by rw [size_eq]; decide)
theorem sz_17 : (17 ≤ sizeLine) = True := eq_true (by rw [size_eq]; decide)
theorem sz_18 : (18 ≤ sizeLine) = True := eq_true (by rw [size_eq]; decide)
theorem sz_19 : (19 ≤ sizeLine) = True := eq_true (by rw [size_eq]; decide)
theorem sz_20 : (20 ≤ sizeLine) = True := eq_true (by rw [size_eq]; decide)
theorem sz_21 : (21 ≤ sizeLine) = True := eq_true (by rw [size_eq]; decide)
theorem sz_22 : (22 ≤ sizeLine) = True := eq_true (by rw [size_eq]; decide)
theorem sz_23 : (23 ≤ sizeLine) = True := eq_true (by rw [size_eq]; decide)
theorem sz_24 : (24 ≤ sizeLine) = True := eq_true (by rw [size_eq]; decide)
theorem sz_25 : (25 ≤ sizeLine) = True := eq_true (by rw [size_eq]; decide)
theorem sz_26 : (26 ≤ sizeLine) = True := eq_true (by rw [size_eq]; decide)
theorem sz_27 : (27 ≤ sizeLine) = True := eq_true (by rw [size_eq]; decide)
theorem sz_28 : (28 ≤ sizeLine) = True := eq_true (by rw [size_eq]; decide)
theorem sz_29 : (29 ≤ sizeLine) = True := eq_true (by rw [size_eq]; decide)
theorem sz_30 : (30 ≤ sizeLine) = True := eq_true (by rw [size_eq]; decide)
theorem sz_31 : (31 ≤ sizeLine) = True := eq_true (by rw [size_eq]; decide)
theorem sz_32 : (32 ≤ sizeLine) = True := eq_true (by rw [size_eq]; decide)
theorem sz_33 : (33 ≤ sizeLine) = True := eq_true (by rw [size_eq]; decide)
theorem sz_34 : (34 ≤ sizeLine) = True := eq_true (by rw [size_eq]; decide)
theorem sz_35 : (35 ≤ sizeLine) = True := eq_true (by rw [size_eq]; decide)
theorem sz_36 : (36 ≤ sizeLine) = True := eq_true (by rw [size_eq]; decide)
theorem sz_37 : (37 ≤ sizeLine) = True := eq_true (by rw [size_eq]; decide)
theorem sz_38 : (38 ≤ sizeLine) = True := eq_true (by rw [size_eq]; decide)
theorem sz_39 : (39 ≤ sizeLine) = True := eq_true (by rw [size_eq]; decide)
theorem sz_40 : (40 ≤ sizeLine) = True := eq_true (by rw [size_eq]; decide)
theorem le_size {n : Nat} (h : n ≤ 1000000) : n ≤ sizeLine := by rw [size_eq]; omega
theorem kb_int_int : kitB "int" "int" = some true := by decide +kernel
theorem kb_int_bool : kitB "int" "bool" = some false := by decide +kernel
theorem kb_int_str : kitB "int" "str" = some false := by decide +kernel
theorem kb_int_tuple : kitB "int" "tuple" = some false := by decide +kernel
theorem kb_int_list : kitB "int" "list" = some false := by decide +kernel
theorem kb_int_dict : kitB "int" "dict" = some false := by decide +kernel
theorem kb_bool_int : kitB "bool" "int" = some true := by decide +kernel
theorem kb_bool_bool : kitB "bool" "bool" = some true := by decide +kernel
theorem kb_bool_str : kitB "bool" "str" = some false := by decide +kernel
theorem kb_bool_tuple : kitB "bool" "tuple" = some false := by decide +kernel
theorem kb_bool_list : kitB "bool" "list" = some false := by decide +kernel
theorem kb_bool_dict : kitB "bool" "dict" = some false := by decide +kernel
theorem kb_str_int : kitB "str" "int" = some false := by decide +kernel
theorem kb_str_bool : kitB "str" "bool" = some false := by decide +kernel
theorem kb_str_str : kitB "str" "str" = some true := by decide +kernel
theorem kb_str_tuple : kitB "str" "tuple" = some false := by decide +kernel
theorem kb_str_list : kitB "str" "list" = some false := by decide +kernel
theorem kb_str_dict : kitB "str" "dict" = some false := by decide +kernel
theorem kb_tuple_int : kitB "tuple" "int" = some false := by decide +kernel
theorem kb_tuple_bool : kitB "tuple" "bool" = some false := by decide +kernel
theorem kb_tuple_str : kitB "tuple" "str" = some false := by decide +kernel
theorem kb_tuple_tuple : kitB "tuple" "tuple" = some true := by decide +kernel
theorem kb_tuple_list : kitB "tuple" "list" = some false := by decide +kernel
theorem kb_tuple_dict : kitB "tuple" "dict" = some false := by decide +kernel
theorem kb_list_int : kitB "list" "int" = some false := by decide +kernel
theorem kb_list_bool : kitB "list" "bool" = some false := by decide +kernel
theorem kb_list_str : kitB "list" "str" = some false := by decide +kernel
theorem kb_list_tuple : kitB "list" "tuple" = some false := by decide +kernel
theorem kb_list_list : kitB "list" "list" = some true := by decide +kernel
theorem kb_list_dict : kitB "list" "dict" = some false := by decide +kernel
theorem kb_dict_int : kitB "dict" "int" = some false := by decide +kernel
theorem kb_dict_bool : kitB "dict" "bool" = some false := by decide +kernel
theorem kb_dict_str : kitB "dict" "str" = some false := by decide +kernel
theorem kb_dict_tuple : kitB "dict" "tuple" = some false := by decide +kernel
theorem kb_dict_list : kitB "dict" "list" = some false := by decide +kernel
theorem kb_dict_dict : kitB "dict" "dict" = some true := by decide +kernel
theorem kb_NoneType_int : kitB "NoneType" "int" = some false := by decide +kernel
theorem kb_NoneType_bool : kitB "NoneType" "bool" = some false := by decide +kernel
theorem kb_NoneType_str : kitB "NoneType" "str" = some false := by decide +kernel
theorem kb_NoneType_tuple : kitB "NoneType" "tuple" = some false := by decide +kernel
theorem kb_NoneType_list : kitB "NoneType" "list" = some false := by decide +kernel
theorem kb_NoneType_dict : kitB "NoneType" "dict" = some false := by decide +kernel
theorem obind_some {α β : Type} (a : α) (f : α → Option β) : (some a).bind f = f a := nrfl rfl
theorem pow_succ_eq (n : Nat) : (2 : Int) ^ n > 0 := Int.pow_pos (by decide)
def E1 := And.intro @bnd_s (And.intro @lft_s (And.intro @lft_n (And.intro @bnd_n (And.intro @obind_some (And.intro @ev_var (And.intro @ev_int (And.intro @ev_str (And.intro @ev_bl (And.intro @ev_non (And.intro @ev_con (And.intro @ev_bin (And.intro @ev_neg (And.intro @ev_cmp (And.intro @ev_ch (And.intro @ev_and (And.intro @ev_or (And.intro @ev_one (And.intro @ev_not (And.intro @ev_ifE (And.intro @ev_tup (And.intro @ev_lst (And.intro @ev_mlst (And.intro @ev_dict (And.intro @ev_idx (@ev_sl)))))))))))))))))))))))))
def E2 := And.intro @ev_madd (And.intro @ev_slR (And.intro @ev_call (And.intro @ev_bi (And.intro @ev_isI (And.intro @ev_meth (And.intro @ev_lc (And.intro @ev_lc2 (And.intro @ev_nil (And.intro @ev_cons (And.intro @ev_oN (And.intro @ev_oS (And.intro @ev_cN (And.intro @ev_cS (And.intro @ev_pN (And.intro @ev_pC (And.intro @ev_seq (And.intro @ev_rng (And.intro @ev_T (And.intro @ev_asg (And.intro @ev_par2 (And.intro @ev_par3 (And.intro @ev_aug (And.intro @ev_setI (And.intro @ev_augI (And.intro @ev_ifS (And.intro @ev_whl (And.intro @ev_for (@ev_ret))))))))))))))))))))))))))))
def E3 := And.intro @ev_retN (And.intro @ev_ex (And.intro @ev_pass (And.intro @ev_brk (And.intro @ev_sN (And.intro @ev_sC (And.intro @sq_nx (And.intro @sq_rt (And.intro @sq_bk (And.intro @fin_nx (And.intro @fin_rt (And.intro @cls_f (And.intro @cls_t (And.intro @sz_0 (And.intro @sz_1 (And.intro @sz_2 (And.intro @sz_3 (And.intro @sz_4 (And.intro @sz_5 (And.intro @sz_6 (And.intro @sz_7 (And.intro @sz_8 (And.intro @sz_9 (And.intro @sz_10 (@sz_11))))))))))))))))))))))))
def E4 := And.intro @sz_12 (And.intro @sz_13 (And.intro @sz_14 (And.intro @sz_15 (And.intro @sz_16 (And.intro @sz_17 (And.intro @sz_18 (And.intro @sz_19 (And.intro @sz_20 (And.intro @sz_21 (And.intro @sz_22 (And.intro @sz_23 (And.intro @sz_24 (And.intro @sz_25 (And.intro @sz_26 (And.intro @sz_27 (And.intro @sz_28 (And.intro @sz_29 (And.intro @sz_30 (And.intro @sz_31 (And.intro @sz_32 (And.intro @sz_33 (And.intro @sz_34 (And.intro @sz_35 (@sz_36))))))))))))))))))))))))
def E5 := And.intro @sz_37 (And.intro @sz_38 (And.intro @sz_39 (And.intro @sz_40 (And.intro @kb_int_int (And.intro @kb_int_bool (And.intro @kb_int_str (And.intro @kb_int_tuple (And.intro @kb_int_list (And.intro @kb_int_dict (And.intro @kb_bool_int (And.intro @kb_bool_bool (And.intro @kb_bool_str (And.intro @kb_bool_tuple (And.intro @kb_bool_list (And.intro @kb_bool_dict (And.intro @kb_str_int (And.intro @kb_str_bool (And.intro @kb_str_str (And.intro @kb_str_tuple (And.intro @kb_str_list (And.intro @kb_str_dict (And.intro @kb_tuple_int (And.intro @kb_tuple_bool (@kb_tuple_str))))))))))))))))))))))))
def E6 := And.intro @kb_tuple_tuple (And.intro @kb_tuple_list (And.intro @kb_tuple_dict (And.intro @kb_list_int (And.intro @kb_list_bool (And.intro @kb_list_str (And.intro @kb_list_tuple (And.intro @kb_list_list (And.intro @kb_list_dict (And.intro @kb_dict_int (And.intro @kb_dict_bool (And.intro @kb_dict_str (And.intro @kb_dict_tuple (And.intro @kb_dict_list (And.intro @kb_dict_dict (And.intro @kb_NoneType_int (And.intro @kb_NoneType_bool (And.intro @kb_NoneType_str (And.intro @kb_NoneType_tuple (And.intro @kb_NoneType_list (And.intro @kb_NoneType_dict (And.intro @asg_name (And.intro @asg_tup (And.intro @asg_lst (@asg_nil))))))))))))))))))))))))
def E7 := And.intro @asg_cons (And.intro @add_i (And.intro @add_t (And.intro @add_s (And.intro @add_l (And.intro @sub_i (And.intro @sub_b (And.intro @mul_i (And.intro @div_i (And.intro @mod_i (And.intro @pow_i (And.intro @shl_i (And.intro @shr_i (And.intro @lt_i (And.intro @le_i (And.intro @gt_i (And.intro @ge_i (And.intro @eq_i (And.intro @ne_i (And.intro @eq_b (And.intro @ne_b (And.intro @eq_s (And.intro @ne_s (And.intro @eq_n (@ne_n))))))))))))))))))))))))
def E8 := And.intro @is_bl (And.intro @isnt_bl (And.intro @is_n (And.intro @isnt_n (And.intro @tru_b (And.intro @tru_i (And.intro @tru_n (And.intro @idx_t (And.intro @idx_l (And.intro @idx_f (And.intro @at_0 (And.intro @at_1 (And.intro @at_2 (And.intro @abs_i (And.intro @max_i (And.intro @min_i (And.intro @int_i (And.intro @int_b (And.intro @str_i (And.intro @len_t (And.intro @len_l (And.intro @len_f (And.intro @aug_addI (And.intro @aug_subI (And.intro @ty_i (And.intro @ty_b (@ty_n))))))))))))))))))))))))))
def E9 := And.intro @ty_s (And.intro @ty_t (And.intro @ty_l (And.intro @it_t (And.intro @it_l (And.intro @it_f (@prune_same))))))
end Rw

/-! M16: fractions -/
namespace Rw
open PySem L2

def fr (q : Rat) : D := .tup [.int q.num, .int (q.den : Int)]
/-- of at most n bits -/
def Bd (n : Nat) (a : Int) : Prop := a.natAbs < 2 ^ n
def Sm (n : Nat) (q : Rat) : Prop := q.num.natAbs < 2 ^ n ∧ q.den < 2 ^ n
theorem log_lt {a n : Nat} (h : a < 2 ^ n) (hn : 0 < n) : a.log2 < n := by
  by_cases e : a = 0
  · subst e
    simpa using hn
  · exact (Nat.log2_lt e).mpr h
theorem Bd.mono {n m : Nat} {a : Int} (h : Bd n a) (l : n ≤ m) : Bd m a := Nat.lt_of_lt_of_le h (Nat.pow_le_pow_right (by decide) l)
theorem Sm.mono {n m : Nat} {q : Rat} (h : Sm n q) (l : n ≤ m) : Sm m q := ⟨Nat.lt_of_lt_of_le h.1 (Nat.pow_le_pow_right (by decide) l), Nat.lt_of_lt_of_le h.2 (Nat.pow_le_pow_right (by decide) l)⟩
theorem Bd.mulOk {n m : Nat} {a b : Int} (h : Bd n a) (g : Bd m b) (l : n + m < 500000) : mulOk a b := by
  have h1 := log_lt (h.mono (Nat.le_succ n)) (Nat.succ_pos n)
  have h2 := log_lt (g.mono (Nat.le_succ m)) (Nat.succ_pos m)
  unfold Rw.mulOk
  omega
theorem Bd.divOk {n : Nat} {a : Int} (h : Bd n a) (z : a ≠ 0) (l : n < 9000) : divOk a := ⟨z, Nat.lt_of_lt_of_le (log_lt (h.mono (Nat.le_succ n)) (Nat.succ_pos n)) l⟩
theorem Bd.mul {n m : Nat} {a b : Int} (h : Bd n a) (g : Bd m b) : Bd (n + m) (a * b) := by
  unfold Bd at *
  rw [Int.natAbs_mul, Nat.pow_add]
  exact Nat.mul_lt_mul'' h g
theorem Bd.add {n m : Nat} {a b : Int} (h : Bd n a) (g : Bd m b) : Bd (max n m + 1) (a + b) := by
  have h' := h.mono (Nat.le_max_left n m)
  have g' := g.mono (Nat.le_max_right n m)
  unfold Bd at *
  have := Int.natAbs_add_le a b
  rw [Nat.pow_succ]
  omega
theorem Bd.neg {n : Nat} {a : Int} (h : Bd n a) : Bd n (-a) := by
  unfold Bd at *
  rwa [Int.natAbs_neg]
theorem Bd.sub {n m : Nat} {a b : Int} (h : Bd n a) (g : Bd m b) : Bd (max n m + 1) (a - b) := by
  rw [Int.sub_eq_add_neg]
  exact h.add g.neg
theorem Bd.of_le {n : Nat} {a b : Int} (h : Bd n a) (l : b.natAbs ≤ a.natAbs) : Bd n b := Nat.lt_of_le_of_lt l h
theorem Sm.nm {n : Nat} {q : Rat} (h : Sm n q) : Bd n q.num := h.1
theorem Sm.dn {n : Nat} {q : Rat} (h : Sm n q) : Bd n (q.den : Int) := by simpa [Bd] using h.2
theorem den_ne {q : Rat} : (q.den : Int) ≠ 0 := by
  have := q.den_nz
  omega
theorem den_pos {q : Rat} : (0 : Int) < (q.den : Int) := by
  have := q.den_pos
  omega
theorem num_le {a b : Int} : (Rat.divInt a b).num.natAbs ≤ a.natAbs := by
  rw [Rat.num_divInt]
  refine Nat.le_trans (Int.natAbs_ediv_le_natAbs _ _) ?_
  rw [Int.natAbs_mul]
  have : b.sign.natAbs ≤ 1 := by
    rcases Int.lt_trichotomy b 0 with h | h | h
    · rw [Int.sign_eq_neg_one_of_neg h]; decide
    · rw [h]; decide
    · rw [Int.sign_eq_one_of_pos h]; decide
  calc _ ≤ 1 * a.natAbs := Nat.mul_le_mul_right _ this
    _ = _ := Nat.one_mul _
theorem den_le {a b : Int} (h : b ≠ 0) : (Rat.divInt a b).den ≤ b.natAbs := by
  rw [Rat.den_divInt, if_neg h]
  exact Nat.div_le_self _ _
theorem Sm.div {n m : Nat} {a b : Int} (h : Bd n a) (g : Bd m b) (z : b ≠ 0) : Sm (max n m) (Rat.divInt a b) :=
  ⟨Nat.lt_of_le_of_lt num_le (h.mono (Nat.le_max_left n m)), Nat.lt_of_le_of_lt (den_le z) (g.mono (Nat.le_max_right n m))⟩
theorem add_eq (p q : Rat) : p + q = Rat.divInt (p.num * q.den + q.num * p.den) (p.den * q.den) := by
  conv => lhs; rw [← Rat.num_divInt_den p, ← Rat.num_divInt_den q]
  exact Rat.divInt_add_divInt _ _ den_ne den_ne
theorem mul_eq (p q : Rat) : p * q = Rat.divInt (p.num * q.num) (p.den * q.den) := by
  conv => lhs; rw [← Rat.num_divInt_den p, ← Rat.num_divInt_den q]
  exact Rat.divInt_mul_divInt _ _
theorem div_eq (p q : Rat) : p / q = Rat.divInt (p.num * q.den) (p.den * q.num) := by
  conv => lhs; rw [← Rat.num_divInt_den p, ← Rat.num_divInt_den q]
  rw [Rat.div_def, Rat.inv_divInt, Rat.divInt_mul_divInt]
theorem Sm.add {n m : Nat} {p q : Rat} (h : Sm n p) (g : Sm m q) : Sm (n + m + 1) (p + q) := by
  rw [add_eq]
  have h1 := (h.nm.mul g.dn).add (g.nm.mul h.dn)
  have h2 := h.dn.mul g.dn
  have := Sm.div h1 h2 (Int.mul_ne_zero den_ne den_ne)
  exact this.mono (by omega)
theorem Sm.mul {n m : Nat} {p q : Rat} (h : Sm n p) (g : Sm m q) : Sm (n + m) (p * q) := by
  rw [mul_eq]
  have := Sm.div (h.nm.mul g.nm) (h.dn.mul g.dn) (Int.mul_ne_zero den_ne den_ne)
  exact this.mono (by omega)
theorem Sm.neg {n : Nat} {p : Rat} (h : Sm n p) : Sm n (-p) := by
  refine ⟨?_, h.2⟩
  show (-p.num).natAbs < _
  rw [Int.natAbs_neg]
  exact h.1
theorem num_ne {q : Rat} (h : q ≠ 0) : q.num ≠ 0 := fun e => h (Rat.num_eq_zero.mp e)
theorem Sm.quo {n m : Nat} {p q : Rat} (h : Sm n p) (g : Sm m q) (z : q ≠ 0) : Sm (n + m) (p / q) := by
  rw [div_eq]
  have := Sm.div (h.nm.mul g.dn) (h.dn.mul g.nm) (Int.mul_ne_zero den_ne (num_ne z))
  exact this.mono (by omega)
theorem fr_neg {p : Rat} : fr (-p) = .tup [.int (-p.num), .int (p.den : Int)] := rfl
theorem fr_abs {p : Rat} : fr p.abs = .tup [.int (if p.num < 0 then -p.num else p.num), .int (p.den : Int)] := by
  unfold Rat.abs
  by_cases h : 0 ≤ p
  · have : ¬ p.num < 0 := by
      have := Rat.num_nonneg.mpr h
      omega
    simp only [h, this, if_true, if_false]
    rfl
  · have : p.num < 0 := by
      have : ¬ 0 ≤ p.num := fun q => h (Rat.num_nonneg.mp q)
      omega
    simp only [h, this, if_true, if_false]
    rfl
/-- least terms -/
theorem fr_div {u l : Int} (h : l ≠ 0) : fr (Rat.divInt u l) = .tup [.int (u.fdiv (if 0 < l then (Int.gcd u l : Int) else -(Int.gcd u l : Int))), .int (l.fdiv (if 0 < l then (Int.gcd u l : Int) else -(Int.gcd u l : Int)))] := by
  have hg : (Int.gcd u l : Int) ≠ 0 := by
    have : Int.gcd u l ≠ 0 := fun e => h (Int.gcd_eq_zero_iff.mp e).2
    omega
  have d1 : (Int.gcd u l : Int) ∣ u := Int.gcd_dvd_left ..
  have d2 : (Int.gcd u l : Int) ∣ l := Int.gcd_dvd_right ..
  unfold fr
  rw [Rat.num_divInt, Rat.den_divInt, if_neg h, Int.gcd_comm l u]
  by_cases c : 0 < l
  · rw [if_pos c, Int.fdiv_eq_ediv_of_dvd d1, Int.fdiv_eq_ediv_of_dvd d2, Int.sign_eq_one_of_pos c, Int.one_mul]
    congr
    rw [Int.natCast_ediv]
    congr
    omega
  · have cl : l < 0 := by omega
    rw [if_neg c, Int.fdiv_eq_ediv_of_dvd (Int.neg_dvd.mpr d1), Int.fdiv_eq_ediv_of_dvd (Int.neg_dvd.mpr d2), Int.sign_eq_neg_one_of_neg cl, Int.ediv_neg, Int.ediv_neg]
    have e1 : -1 * u / (Int.gcd u l : Int) = -(u / (Int.gcd u l : Int)) := by
      rw [Int.neg_one_mul, Int.neg_ediv_of_dvd d1]
    have e2 : ((l.natAbs / Int.gcd u l : Nat) : Int) = -(l / (Int.gcd u l : Int)) := by
      rw [Int.natCast_ediv, ← Int.neg_ediv_of_dvd d2]
      congr
      omega
    rw [e1, e2]
theorem gcd_bd {n : Nat} {u l : Int} (h : l ≠ 0) (g : Bd n l) : Bd n (Int.gcd u l : Int) := by
  refine Nat.lt_of_le_of_lt ?_ g
  show Int.gcd u l ≤ l.natAbs
  exact Nat.le_of_dvd (by omega) (Nat.gcd_dvd_right _ _)
theorem gcd_ne {u l : Int} (h : l ≠ 0) : (Int.gcd u l : Int) ≠ 0 := by
  have : Int.gcd u l ≠ 0 := fun e => h (Int.gcd_eq_zero_iff.mp e).2
  omega
theorem lt_eq {p q : Rat} : decide (p.num * (q.den : Int) < q.num * (p.den : Int)) = decide (p < q) := by
  rw [decide_eq_decide, Rat.lt_iff]
theorem le_eq {p q : Rat} : decide (p.num * (q.den : Int) ≤ q.num * (p.den : Int)) = decide (p ≤ q) := by
  rw [decide_eq_decide, Rat.le_iff]
theorem fmod_nat (m n : Nat) : Int.fmod (m : Int) (n : Int) = ((m % n : Nat) : Int) := by
  rw [Int.fmod_eq_emod_of_nonneg _ (by omega)]
  rfl
theorem abs_nat (a : Int) : (if a < 0 then -a else a) = (a.natAbs : Int) := by
  split <;> omega
/-! powers of two -/
theorem shl_one {b : Int} (h : 0 ≤ b) (g : b ≤ 10000) : shlOk 1 b := by
  refine ⟨h, ?_⟩
  have : Builtin.Int.intBits 1 = 1 := by decide +kernel
  rw [this]
  omega
/-- how many bits -/
def bln (m : Nat) : Nat := if m = 0 then 0 else m.log2 + 1
theorem bln_lt (m i : Nat) : i < bln m ↔ 2 ^ i ≤ m := by
  unfold bln
  split
  · rename_i h
    subst h
    have := Nat.two_pow_pos i
    omega
  · rename_i h
    rw [← Nat.le_log2 h]
    omega
theorem bln_shr {m i : Nat} : (0 : Int) < (m : Int) / 2 ^ (i : Int).toNat ↔ i < bln m := by
  rw [bln_lt]
  have e : ((m : Int) / 2 ^ (i : Int).toNat) = ((m / 2 ^ i : Nat) : Int) := by
    rw [Int.toNat_natCast, Int.natCast_ediv, Int.natCast_pow]
    rfl
  rw [e]
  have := Nat.div_pos_iff (a := m) (b := 2 ^ i)
  have := Nat.two_pow_pos i
  constructor
  · intro h
    have : 0 < m / 2 ^ i := by omega
    omega
  · intro h
    have : 0 < m / 2 ^ i := by omega
    omega
theorem two_nat (n : Nat) : (2 : Rat) ^ n = Rat.divInt ((2 ^ n : Nat) : Int) 1 := by
  induction n with
  | zero => rfl
  | succ n ih =>
    rw [Rat.pow_succ, ih, show (2 : Rat) = Rat.divInt 2 1 from rfl, Rat.divInt_mul_divInt]
    congr 1
theorem two_num (n : Nat) : ((2 : Rat) ^ n).num = (2 : Int) ^ n ∧ ((2 : Rat) ^ n).den = 1 := by
  rw [two_nat]
  refine ⟨?_, ?_⟩
  · rw [Rat.num_divInt]
    simp
  · rw [Rat.den_divInt]
    simp
theorem two_neg (n : Nat) : ((2 : Rat) ^ (-(n : Int))).num = 1 ∧ ((2 : Rat) ^ (-(n : Int))).den = 2 ^ n := by
  have e : (2 : Rat) ^ (-(n : Int)) = Rat.divInt 1 ((2 ^ n : Nat) : Int) := by
    rw [Rat.zpow_neg, Rat.zpow_natCast, two_nat, Rat.inv_divInt]
  have h : ((2 ^ n : Nat) : Int) ≠ 0 := by
    have := Nat.two_pow_pos n
    omega
  rw [e]
  refine ⟨?_, ?_⟩
  · rw [Rat.num_divInt, Int.sign_eq_one_of_pos (by have := Nat.two_pow_pos n; omega)]
    simp
  · rw [Rat.den_divInt, if_neg h]
    simp
theorem fr_two {b : Int} : fr ((2 : Rat) ^ b) = if 0 ≤ b then .tup [.int (2 ^ b.toNat), .int 1] else .tup [.int 1, .int (2 ^ (-b).toNat)] := by
  unfold fr
  split
  · rename_i h
    obtain ⟨n, rfl⟩ := Int.eq_ofNat_of_zero_le h
    rw [Rat.zpow_natCast, (two_num n).1, (two_num n).2]
    rfl
  · rename_i h
    obtain ⟨n, e⟩ := Int.eq_ofNat_of_zero_le (show 0 ≤ -b by omega)
    have : b = -(n : Int) := by omega
    subst this
    rw [(two_neg n).1, (two_neg n).2, Int.neg_neg, Int.toNat_natCast, Int.natCast_pow]
    rfl
theorem sm_two {b : Int} {m : Nat} (h : b.natAbs ≤ m) : Sm (m + 1) ((2 : Rat) ^ b) := by
  by_cases c : 0 ≤ b
  · obtain ⟨n, rfl⟩ := Int.eq_ofNat_of_zero_le c
    rw [Rat.zpow_natCast]
    unfold Sm
    rw [(two_num n).1, (two_num n).2]
    refine ⟨?_, Nat.one_lt_two_pow (by omega)⟩
    rw [Int.natAbs_pow]
    exact Nat.pow_lt_pow_right (by decide) (by omega)
  · obtain ⟨n, e⟩ := Int.eq_ofNat_of_zero_le (show 0 ≤ -b by omega)
    have : b = -(n : Int) := by omega
    subst this
    unfold Sm
    rw [(two_neg n).1, (two_neg n).2]
    exact ⟨Nat.one_lt_two_pow (by omega), Nat.pow_lt_pow_right (by decide) (by omega)⟩
end Rw

/-! M17: loops, data alike -/
namespace Rw
open PySem L2

/-! ### loops -/
section
variable {all : List D} {body : D → Env → Sto → Rs Fl} {ρ ρ1 : Env} {S S1 : Sto} {x d : D} {xs : List D}
theorem forL_nil : forL none all body [] ρ S = some (.nx ρ, S) := by
  simp only [forL, okS, if_true, reduceIte]
theorem forL_cons (h : body x ρ S = some (.nx ρ1, S1)) : forL none all body (x :: xs) ρ S = forL none all body xs ρ1 S1 := by
  simp only [forL, okS, if_true, h, bnd_some]
theorem forL_ret (h : body x ρ S = some (.rt d, S1)) : forL none all body (x :: xs) ρ S = some (.rt d, S1) := by
  simp only [forL, okS, if_true, h, bnd_some]
theorem forL_brk (h : body x ρ S = some (.bk ρ1, S1)) : forL none all body (x :: xs) ρ S = some (.nx ρ1, S1) := by
  simp only [forL, okS, if_true, h, bnd_some]
theorem forL_run {I : Nat → Env → Sto → Prop} (step : ∀ (i : Nat) (x : D) (ρ : Env) (S : Sto), xs[i]? = some x → I i ρ S → ∃ ρ1 S1, body x ρ S = some (.nx ρ1, S1) ∧ I (i + 1) ρ1 S1) (h0 : I 0 ρ S) :
    ∃ ρ1 S1, forL none all body xs ρ S = some (.nx ρ1, S1) ∧ I xs.length ρ1 S1 := by
  induction xs generalizing ρ S I with
  | nil => exact ⟨ρ, S, forL_nil, h0⟩
  | cons x xs ih =>
    obtain ⟨ρ1, S1, h1, h2⟩ := step 0 x ρ S rfl h0
    obtain ⟨ρ2, S2, h3, h4⟩ := ih (I := fun i => I (i + 1)) (fun i y ρ S e h => step (i + 1) y ρ S e h) h2
    exact ⟨ρ2, S2, (forL_cons h1).trans h3, h4⟩
variable {turn : D → Sto → Rs (Option D)} {acc : List D} {y : D}
theorem compL_nil : compL none all turn [] S acc = some (acc, S) := by
  simp only [compL, okS, if_true, reduceIte]
theorem compL_some (h : turn x S = some (some y, S1)) : compL none all turn (x :: xs) S acc = compL none all turn xs S1 (acc ++ [y]) := by
  simp only [compL, okS, if_true, h, bnd_some]
theorem compL_none (h : turn x S = some (none, S1)) : compL none all turn (x :: xs) S acc = compL none all turn xs S1 acc := by
  simp only [compL, okS, if_true, h, bnd_some]
theorem compL_fm {f : D → Option D} (h : ∀ x ∈ xs, turn x S = some (f x, S)) : compL none all turn xs S acc = some (acc ++ xs.filterMap f, S) := by
  induction xs generalizing acc with
  | nil => rw [compL_nil]; simp
  | cons x xs ih =>
    have h1 := h x List.mem_cons_self
    have h2 := fun acc => ih (acc := acc) fun z hz => h z (List.mem_cons_of_mem _ hz)
    cases c : f x with
    | none => rw [compL_none (by rw [h1, c]), h2, List.filterMap_cons, c]
    | some y => rw [compL_some (by rw [h1, c]), h2, List.filterMap_cons, c]; simp
theorem compL_map {f : D → D} (h : ∀ x ∈ xs, turn x S = some (some (f x), S)) : compL none all turn xs S acc = some (acc ++ xs.map f, S) := by
  rw [compL_fm (f := fun x => some (f x)) h]
  congr
  induction xs with
  | nil => rfl
  | cons x xs ih => simp only [List.filterMap_cons, List.map_cons, ih fun z hz => h z (List.mem_cons_of_mem _ hz)]
end
section
variable {all : List D} {turn : D → Sto → List D → Rs (List D)} {x : D} {xs acc acc1 : List D} {S S1 : Sto}
theorem compA_nil : compA none all turn [] S acc = some (acc, S) := by
  simp only [compA, okS, if_true, reduceIte]
theorem compA_cons (h : turn x S acc = some (acc1, S1)) : compA none all turn (x :: xs) S acc = compA none all turn xs S1 acc1 := by
  simp only [compA, okS, if_true, reduceIte, h, bnd_some]
/-- all turns add their lists -/
theorem compA_app {f : D → List D} (h : ∀ x ∈ xs, ∀ acc, turn x S acc = some (acc ++ f x, S)) : compA none all turn xs S acc = some (acc ++ xs.flatMap f, S) := by
  induction xs generalizing acc with
  | nil => rw [compA_nil]; simp
  | cons x xs ih =>
    rw [compA_cons (h x List.mem_cons_self acc), ih fun y hy => h y (List.mem_cons_of_mem _ hy), List.flatMap_cons, List.append_assoc]
end
/-! ### the store -/
section
variable {S T : Sto} {c c' : Cell} {d : D}
theorem at_new : (S ++ [c])[S.length]? = some c := by simp
theorem set_new : (S ++ [c]).set S.length c' = S ++ [c'] := by simp
theorem prune_len {S' : Sto} (h : S'.length = S.length) : prune S d S' = (d, S') := by
  unfold prune
  split
  · rename_i c
    have : S'.take S.length = S' := List.take_of_length_le (by omega)
    rw [this] at c
    rw [← c.1]
  · rfl
theorem prune_one (h : below S.length d = true) : prune S d (S ++ [c]) = (d, S) := prune_new h
theorem prune_ap (h : below S.length d = true) : prune S d (S ++ T) = (d, S) := prune_new h
theorem getRef : lstOf (S ++ [.lst xs]) (.ref S.length) = some xs := by
  simp only [lstOf, at_new]
theorem bl_int {n : Nat} {i : Int} : below n (.int i) = true := rfl
theorem bl_bl {n : Nat} {i : Bool} : below n (.bl i) = true := rfl
theorem bl_str {n : Nat} {i : Str} : below n (.str i) = true := rfl
theorem bl_non {n : Nat} : below n .non = true := rfl
theorem bls_map {n : Nat} {α : Type} {f : α → D} (h : ∀ x, below n (f x) = true) : ∀ xs : List α, belows n (xs.map f) = true
  | [] => rfl
  | x :: xs => by
    show (below n (f x) && belows n (xs.map f)) = true
    rw [h x, bls_map h xs]
    rfl
theorem bl_fr {n : Nat} {q : Rat} : below n (fr q) = true := rfl
end
/-! ### data alike -/
mutual
/-- plain data: no references, of limited depth -/
def okD : Nat → D → Bool
  | _, .non => true
  | _, .bl _ => true
  | _, .int _ => true
  | _, .str s => PyData.strOk s
  | 0, .tup _ => false
  | 0, .lst _ => false
  | n + 1, .tup xs => okDs n xs && decide (xs.length ≤ sizeLine)
  | n + 1, .lst xs => okDs n xs && decide (xs.length ≤ sizeLine)
  | _, _ => false
def okDs : Nat → List D → Bool
  | _, [] => true
  | n, x :: xs => okD n x && okDs n xs
end
mutual
def pdD : D → PyData
  | .bl b => .bool b
  | .int i => .int i
  | .str s => .str s
  | .tup xs => .tuple (pdDs xs)
  | .lst xs => .list (pdDs xs)
  | _ => .none
def pdDs : List D → List PyData
  | [] => []
  | x :: xs => pdD x :: pdDs xs
end
mutual
theorem pd_ok {S : Sto} : ∀ (n : Nat) (d : D), okD n d = true → pd S d = some (pdD d) ∧ (pdD d).canLay0 = true ∧ (pdD d).depth ≤ n
  | _, .non, _ => ⟨rfl, rfl, Nat.zero_le _⟩
  | _, .bl _, _ => ⟨rfl, rfl, Nat.zero_le _⟩
  | _, .int _, _ => ⟨rfl, rfl, Nat.zero_le _⟩
  | n, .str s, h => ⟨rfl, by
    have : PyData.strOk s = true := by cases n <;> exact h
    simpa [pdD, PyData.canLay0] using this, by simp [pdD, PyData.depth]⟩
  | 0, .tup xs, h => absurd (show false = true from h) Bool.false_ne_true
  | 0, .lst xs, h => absurd (show false = true from h) Bool.false_ne_true
  | n + 1, .tup xs, h => by
    obtain ⟨h1, _⟩ := bk (show (okDs n xs && decide (xs.length ≤ sizeLine)) = true from h)
    obtain ⟨a, b, c⟩ := pds_ok n xs h1
    refine ⟨?_, ?_, ?_⟩
    · show (pds S xs).map PyData.tuple = _
      rw [a]
      rfl
    · simpa [pdD, PyData.canLay0] using b
    · simp only [pdD, PyData.depth]
      omega
  | n + 1, .lst xs, h => by
    obtain ⟨h1, _⟩ := bk (show (okDs n xs && decide (xs.length ≤ sizeLine)) = true from h)
    obtain ⟨a, b, c⟩ := pds_ok n xs h1
    refine ⟨?_, ?_, ?_⟩
    · show (pds S xs).map PyData.list = _
      rw [a]
      rfl
    · simpa [pdD, PyData.canLay0] using b
    · simp only [pdD, PyData.depth]
      omega
  | n, .flst _, h => by cases n <;> exact absurd (show false = true from h) Bool.false_ne_true
  | n, .ref _, h => by cases n <;> exact absurd (show false = true from h) Bool.false_ne_true
  | n, .ty _, h => by cases n <;> exact absurd (show false = true from h) Bool.false_ne_true
theorem pds_ok {S : Sto} : ∀ (n : Nat) (ds : List D), okDs n ds = true → pds S ds = some (pdDs ds) ∧ PyData.canLayAll0 (pdDs ds) = true ∧ PyData.depthAll (pdDs ds) ≤ n
  | n, [], _ => ⟨rfl, rfl, Nat.zero_le _⟩
  | n, x :: xs, h => by
    obtain ⟨h1, h2⟩ := bk (show (okD n x && okDs n xs) = true from h)
    obtain ⟨a, b, c⟩ := pd_ok (S := S) n x h1
    obtain ⟨a', b', c'⟩ := pds_ok (S := S) n xs h2
    refine ⟨by simp only [pds, a, a', pdDs], ?_, ?_⟩
    · simp [pdDs, PyData.canLayAll0, b, b']
    · simp only [pdDs, PyData.depthAll]
      omega
end
def dup (d : D) : D := .tup [d, d]
theorem dup_ok {n : Nat} : ∀ {ds : List D}, okDs n ds = true → okDs (n + 1) (ds.map dup) = true
  | [], _ => rfl
  | d :: ds, h => by
    obtain ⟨h1, h2⟩ := bk (show (okD n d && okDs n ds) = true from h)
    show (okD (n + 1) (dup d) && okDs (n + 1) (ds.map dup)) = true
    rw [dup_ok h2]
    show ((okDs n [d, d] && decide ([d, d].length ≤ sizeLine)) && true) = true
    have : okDs n [d, d] = true := by
      show (okD n d && (okD n d && true)) = true
      rw [h1]
      rfl
    rw [this]
    rfl
/-- a list of the store told from the empty one -/
theorem ne_nil {S : Sto} {ds : List D} {n : Nat} (h : okDs n ds = true) (hn : n ≤ 63) : cmpD (S ++ [.lst ds]) .NotEq (.ref S.length) (.lst []) = some (!ds.isEmpty) := by
  obtain ⟨a, b, c⟩ := pds_ok (S := S ++ [.lst ds]) n ds h
  have e1 : pdT (S ++ [.lst ds]) (.ref S.length) = some (.list (pdDs ds)) := by
    simp only [pdT, at_new, a]
    rfl
  have s1 : SeqAt.shaped (.list (pdDs ds)) = true := by
    have h1 : (PyData.list (pdDs ds)).canLay0 = true := by simpa [PyData.canLay0] using b
    have h2 : (PyData.list (pdDs ds)).depth ≤ 64 := by
      simp only [PyData.depth]
      omega
    unfold SeqAt.shaped
    rw [h1, decide_eq_true h2]
    rfl
  show (eqD _ _ _).map _ = _
  have e2 : eqD (S ++ [.lst ds]) (.ref S.length) (.lst []) = some ds.isEmpty := by
    show (match pdT (S ++ [.lst ds]) (.ref S.length), pdT (S ++ [.lst ds]) (.lst []) with
    | some p, some q => if SeqAt.shaped p = true ∧ SeqAt.shaped q = true then some (PyData.eqv p q) else none
    | _, _ => none) = _
    rw [e1]
    show (if SeqAt.shaped (.list (pdDs ds)) = true ∧ SeqAt.shaped (.list []) = true then some (PyData.eqv (.list (pdDs ds)) (.list [])) else none) = _
    rw [if_pos ⟨s1, rfl⟩]
    cases ds <;> rfl
  rw [e2]
  rfl
theorem okDs_ap {n : Nat} : ∀ {a b : List D}, okDs n (a ++ b) = (okDs n a && okDs n b)
  | [], _ => rfl
  | x :: a, b => by
    show (okD n x && okDs n (a ++ b)) = ((okD n x && okDs n a) && okDs n b)
    rw [okDs_ap, Bool.and_assoc]
mutual
theorem okD_mono {m : Nat} : ∀ {n : Nat} {d : D}, n ≤ m → okD n d = true → okD m d = true
  | _, .non, _, _ => by cases m <;> rfl
  | _, .bl _, _, _ => by cases m <;> rfl
  | _, .int _, _, _ => by cases m <;> rfl
  | n, .str s, _, h => by
    have : PyData.strOk s = true := by cases n <;> exact h
    cases m <;> exact this
  | 0, .tup xs, _, h => absurd (show false = true from h) Bool.false_ne_true
  | 0, .lst xs, _, h => absurd (show false = true from h) Bool.false_ne_true
  | n + 1, .tup xs, l, h => by
    obtain ⟨h1, h2⟩ := bk (show (okDs n xs && decide (xs.length ≤ sizeLine)) = true from h)
    cases m with
    | zero => omega
    | succ m =>
      show (okDs m xs && decide (xs.length ≤ sizeLine)) = true
      rw [okDs_mono (by omega) h1, h2]
      rfl
  | n + 1, .lst xs, l, h => by
    obtain ⟨h1, h2⟩ := bk (show (okDs n xs && decide (xs.length ≤ sizeLine)) = true from h)
    cases m with
    | zero => omega
    | succ m =>
      show (okDs m xs && decide (xs.length ≤ sizeLine)) = true
      rw [okDs_mono (by omega) h1, h2]
      rfl
  | n, .flst _, _, h => by cases n <;> exact absurd (show false = true from h) Bool.false_ne_true
  | n, .ref _, _, h => by cases n <;> exact absurd (show false = true from h) Bool.false_ne_true
  | n, .ty _, _, h => by cases n <;> exact absurd (show false = true from h) Bool.false_ne_true
theorem okDs_mono {m : Nat} : ∀ {n : Nat} {ds : List D}, n ≤ m → okDs n ds = true → okDs m ds = true
  | _, [], _, _ => rfl
  | n, d :: ds, l, h => by
    obtain ⟨h1, h2⟩ := bk (show (okD n d && okDs n ds) = true from h)
    show (okD m d && okDs m ds) = true
    rw [okD_mono l h1, okDs_mono l h2]
    rfl
end
mutual
def szD : D → Nat
  | .tup xs => 1 + szDs xs
  | .lst xs => 1 + szDs xs
  | _ => 1
def szDs : List D → Nat
  | [] => 0
  | x :: xs => szD x + szDs xs
end
theorem szDs_ap : ∀ {a b : List D}, szDs (a ++ b) = szDs a + szDs b
  | [], _ => by simp [szDs]
  | x :: a, b => by
    show szD x + szDs (a ++ b) = szD x + szDs a + szDs b
    rw [szDs_ap]
    omega
theorem okDs_mem {n : Nat} : ∀ {ds : List D} {d : D}, okDs n ds = true → d ∈ ds → okD n d = true
  | x :: xs, d, h, hm => by
    obtain ⟨h1, h2⟩ := bk (show (okD n x && okDs n xs) = true from h)
    rcases List.mem_cons.mp hm with rfl | hm
    · exact h1
    · exact okDs_mem h2 hm
/-! methods on the newest cell -/
section
variable {S : Sto} {xs ys : List D} {x : D}
theorem ap_new : methD .append (S ++ [.lst xs]) (.ref S.length) [x] = if xs.length < sizeLine then some (.non, S ++ [.lst (xs ++ [x])]) else none := by
  simp only [methD, at_new, set_new]
theorem pop_new : methD .pop (S ++ [.lst (xs ++ [x])]) (.ref S.length) [] = some (x, S ++ [.lst xs]) := by
  simp only [methD, at_new, set_new]
  simp
theorem ext_new : methD .extend (S ++ [.lst xs]) (.ref S.length) [.lst ys] = if xs.length + ys.length ≤ sizeLine then some (.non, S ++ [.lst (xs ++ ys)]) else none := by
  simp only [methD, at_new, set_new]
theorem len_new : biD (S ++ [.lst xs]) .len [.ref S.length] = some (.int xs.length) := by
  simp only [biD, biLen, at_new]
theorem wipe_nil {ρ : Env} : wipeE ρ [] = ρ := nrfl rfl
theorem wipe_cons {ρ : Env} {v : Nat} {vs : List Nat} : wipeE ρ (v :: vs) = (wipeE ρ vs).set v none := nrfl rfl
theorem rng_nat {n : Nat} (h : n < 2 ^ 62) : rngD [.int (n : Int)] = some ((List.range n).map fun (i : Nat) => D.int (i : Int)) := by
  have h1 : -(2 ^ 62) ≤ (n : Int) ∧ (n : Int) < 2 ^ 62 := by omega
  simp only [rngD, h1, and_self, if_true, Int.toNat_natCast, Int.zero_add]
theorem rng_two {a b : Int} (h : -(2 ^ 62) ≤ a ∧ a < 2 ^ 62 ∧ -(2 ^ 62) ≤ b ∧ b < 2 ^ 62) : rngD [.int a, .int b] = some ((List.range (b - a).toNat).map fun (i : Nat) => D.int (a + (i : Int))) := by
  simp only [rngD, h, and_self, if_true]
/-- the items by their places -/
theorem by_place {α : Type} (f : D → D) (g : α → D) (xs : List α) (h : ∀ (i : Nat) (hi : i < xs.length), f (.int i) = g xs[i]) : ((List.range xs.length).map fun (i : Nat) => D.int (i : Int)).map f = xs.map g := by
  refine List.ext_getElem (by simp) fun i h1 h2 => ?_
  simp only [List.getElem_map, List.getElem_range]
  exact h i (by simpa using h2)
end
end Rw

/-! M18: exponents, texts of fractions, sums -/
namespace Rw
open PySem L2

theorem idx_fr0 {S : Sto} {p : Rat} : idxD S (fr p) (.int 0) = some (.int p.num) := at_0
theorem idx_fr1 {S : Sto} {p : Rat} : idxD S (fr p) (.int 1) = some (.int (p.den : Int)) := at_1
theorem ty_fr {S : Sto} {p : Rat} : tyName S (fr p) = some "tuple" := nrfl rfl
theorem fr_one : fr 1 = .tup [.int 1, .int 1] := nrfl rfl
theorem fr_zero : fr 0 = .tup [.int 0, .int 1] := nrfl rfl
theorem fr_abs' {p : Rat} : fr p.abs = .tup [.int (p.num.natAbs : Int), .int (p.den : Int)] := by
  rw [fr_abs, abs_nat]
theorem abs_num {p : Rat} : p.abs.num = (p.num.natAbs : Int) := by
  have := fr_abs' (p := p)
  unfold fr at this
  injection this with h
  injection h with h1 _
  injection h1
theorem abs_den {p : Rat} : p.abs.den = p.den := by
  unfold Rat.abs
  split <;> rfl
theorem Sm.abs {n : Nat} {p : Rat} (h : Sm n p) : Sm n p.abs := by
  unfold Sm
  rw [abs_num, abs_den]
  exact h
/-- the exponent as the program finds it -/
def expF (p : Rat) : Int := (bln p.num.natAbs : Int) - (bln p.den : Int)
def expo (p : Rat) : Int := if (2 : Rat) ^ expF p ≤ p.abs then expF p else expF p - 1
theorem bln_le {n m : Nat} (h : m < 2 ^ n) : bln m ≤ n := by
  have := mt (bln_lt m n).mp (by omega)
  omega
theorem expF_le {n : Nat} {p : Rat} (h : Sm n p) : (expF p).natAbs ≤ n := by
  have h1 := bln_le h.1
  have h2 := bln_le h.2
  unfold expF
  omega
theorem expo_le {n : Nat} {p : Rat} (h : Sm n p) : (expo p).natAbs ≤ n + 1 := by
  have := expF_le h
  unfold expo
  split <;> omega
theorem mul_den (q : Rat) : q * (q.den : Rat) = (q.num : Rat) := by
  have h := Rat.num_divInt_den q
  rw [Rat.divInt_eq_div, Rat.intCast_natCast] at h
  have hz : (q.den : Rat) ≠ 0 := by
    have := Rat.natCast_pos.mpr q.den_pos
    intro e
    rw [e] at this
    exact absurd this (by decide)
  conv => lhs; arg 1; rw [← h]
  exact Rat.div_mul_cancel hz
theorem two_pos (b : Int) : (0 : Rat) < (2 : Rat) ^ b := Rat.zpow_pos (by decide)
theorem two_add (a b : Int) : (2 : Rat) ^ (a + b) = (2 : Rat) ^ a * (2 : Rat) ^ b := Rat.zpow_add (by decide) a b
theorem two_cast (n : Nat) : (((2 ^ n : Nat) : Nat) : Rat) = (2 : Rat) ^ (n : Int) := by
  rw [Rat.zpow_natCast, Rat.natCast_pow]
  rfl
theorem abs_mul (p : Rat) : p.abs * (p.den : Rat) = (p.num.natAbs : Rat) := by
  have := mul_den p.abs
  rw [abs_den, abs_num] at this
  exact this
theorem expF_lo {p : Rat} (h : p ≠ 0) : (2 : Rat) ^ (expF p - 1) ≤ p.abs := by
  have hn : p.num.natAbs ≠ 0 := by
    have := num_ne h
    omega
  have h1 : 2 ^ (bln p.num.natAbs - 1) ≤ p.num.natAbs := (bln_lt _ _).mp (by unfold bln; rw [if_neg hn]; omega)
  have h2 : p.den < 2 ^ bln p.den := by
    have := mt (bln_lt p.den (bln p.den)).mpr (by omega)
    omega
  have hb : bln p.num.natAbs ≠ 0 := by unfold bln; rw [if_neg hn]; omega
  refine Rat.le_of_mul_le_mul_right (c := (p.den : Rat)) ?_ (Rat.natCast_pos.mpr p.den_pos)
  rw [abs_mul]
  have a1 : (p.den : Rat) ≤ (2 : Rat) ^ (bln p.den : Int) := by
    rw [← two_cast]
    exact Rat.natCast_le_natCast.mpr (by omega)
  have a2 : (2 : Rat) ^ (((bln p.num.natAbs - 1 : Nat)) : Int) ≤ (p.num.natAbs : Rat) := by
    rw [← two_cast]
    exact Rat.natCast_le_natCast.mpr h1
  have a3 := Rat.mul_le_mul_of_nonneg_left a1 (Rat.le_of_lt (two_pos (expF p - 1)))
  rw [← two_add] at a3
  have e : expF p - 1 + (bln p.den : Int) = ((bln p.num.natAbs - 1 : Nat) : Int) := by
    unfold expF
    omega
  rw [e] at a3
  exact Rat.le_trans a3 a2
theorem expF_hi {p : Rat} : ¬ (2 : Rat) ^ (expF p + 1) ≤ p.abs := by
  have hd : p.den ≠ 0 := p.den_nz
  have h1 : p.num.natAbs < 2 ^ bln p.num.natAbs := by
    have := mt (bln_lt p.num.natAbs (bln p.num.natAbs)).mpr (by omega)
    omega
  have hb : bln p.den ≠ 0 := by unfold bln; rw [if_neg hd]; omega
  have h2 : 2 ^ (bln p.den - 1) ≤ p.den := (bln_lt _ _).mp (by omega)
  intro c
  have a1 : (2 : Rat) ^ (((bln p.den - 1 : Nat)) : Int) ≤ (p.den : Rat) := by
    rw [← two_cast]
    exact Rat.natCast_le_natCast.mpr h2
  have a2 : (p.num.natAbs : Rat) < (2 : Rat) ^ ((bln p.num.natAbs : Nat) : Int) := by
    rw [← two_cast]
    exact Rat.natCast_lt_natCast.mpr h1
  have a3 := Rat.mul_le_mul_of_nonneg_left a1 (Rat.le_of_lt (two_pos (expF p + 1)))
  rw [← two_add] at a3
  have e : expF p + 1 + ((bln p.den - 1 : Nat) : Int) = ((bln p.num.natAbs : Nat) : Int) := by
    unfold expF
    omega
  rw [e] at a3
  have a4 : (2 : Rat) ^ (expF p + 1) * (p.den : Rat) ≤ p.abs * (p.den : Rat) := by
    have := Rat.mul_le_mul_of_nonneg_left c (Rat.le_of_lt (Rat.natCast_pos.mpr p.den_pos))
    rw [Rat.mul_comm _ ((2 : Rat) ^ (expF p + 1)), Rat.mul_comm _ p.abs] at this
    exact this
  rw [abs_mul] at a4
  exact absurd (Rat.le_trans a3 a4) (Rat.not_le.mpr a2)
theorem expo_spec {p : Rat} (h : p ≠ 0) : (2 : Rat) ^ expo p ≤ p.abs ∧ ¬ (2 : Rat) ^ (expo p + 1) ≤ p.abs := by
  unfold expo
  split
  · rename_i c
    exact ⟨c, expF_hi⟩
  · rename_i c
    refine ⟨expF_lo h, ?_⟩
    rw [show expF p - 1 + 1 = expF p by omega]
    exact c
/-- its text -/
def prF (p : Rat) : Str := (toString p.num : Str) ++ (if (p.den : Int) = 1 then ("" : Str) else ("/" : Str) ++ (toString (p.den : Int) : Str))
def prOk (a b : Int) : Bool := decide (a.natAbs.log2 < 1920) && (decide (b.natAbs.log2 < 1920) && (decide ((("/" : Str)).length + ((toString b : Str)).length ≤ sizeLine) && (decide (((toString a : Str)).length + ((if b = 1 then ("" : Str) else ("/" : Str) ++ (toString b : Str))).length ≤ sizeLine) && PyData.strOk ((toString a : Str) ++ (if b = 1 then ("" : Str) else ("/" : Str) ++ (toString b : Str))))))
def frSum (qs : List Rat) : Rat := qs.foldl (· + ·) 0
end Rw

/-! M19: plain data told alike, among others -/
namespace Rw
open PySem L2

theorem pdDs_map : ∀ xs : List D, pdDs xs = xs.map pdD
  | [] => rfl
  | x :: xs => by rw [List.map_cons, ← pdDs_map xs]; rfl
theorem pdT_ok {S : Sto} {n : Nat} {d : D} (h : okD n d = true) : pdT S d = some (pdD d) := by
  have := (pd_ok (S := S) n d h).1
  cases d with
  | ref r => cases n <;> exact absurd (show false = true from h) Bool.false_ne_true
  | _ => exact this
theorem shaped_ok {n : Nat} {d : D} (h : okD n d = true) (hn : n ≤ 64) : SeqAt.shaped (pdD d) = true := by
  obtain ⟨_, b, c⟩ := pd_ok (S := []) n d h
  unfold SeqAt.shaped
  rw [b, decide_eq_true (show (pdD d).depth ≤ 64 by omega)]
  rfl
theorem okD_tup {n : Nat} {xs : List D} (h : okDs n xs = true) (hl : xs.length ≤ sizeLine) : okD (n + 1) (.tup xs) = true := by
  show (okDs n xs && decide (xs.length ≤ sizeLine)) = true
  rw [h, decide_eq_true hl]
  rfl
theorem okD_lst {n : Nat} {xs : List D} (h : okDs n xs = true) (hl : xs.length ≤ sizeLine) : okD (n + 1) (.lst xs) = true := by
  show (okDs n xs && decide (xs.length ≤ sizeLine)) = true
  rw [h, decide_eq_true hl]
  rfl
theorem in_t {S : Sto} {n m : Nat} {d : D} {xs : List D} (h : okD n d = true) (hn : n ≤ 64) (g : okD m (.tup xs) = true) (hm : m ≤ 64) : inD S d (.tup xs) = some (xs.any fun z => PyData.eqv (pdD z) (pdD d)) := by
  have e1 := pdT_ok (S := S) h
  have e2 := pdT_ok (S := S) g
  have s1 := shaped_ok h hn
  have s2 := shaped_ok g hm
  unfold inD
  rw [e1, e2]
  show (if SeqAt.shaped (pdD d) = true ∧ SeqAt.shaped (.tuple (pdDs xs)) = true then some ((pdDs xs).any fun z => PyData.eqv z (pdD d)) else none) = _
  rw [if_pos ⟨s1, s2⟩, pdDs_map, List.any_map]
  rfl
theorem in_l {S : Sto} {n m : Nat} {d : D} {xs : List D} (h : okD n d = true) (hn : n ≤ 64) (g : okD m (.lst xs) = true) (hm : m ≤ 64) : inD S d (.lst xs) = some (xs.any fun z => PyData.eqv (pdD z) (pdD d)) := by
  have e1 := pdT_ok (S := S) h
  have e2 := pdT_ok (S := S) g
  have s1 := shaped_ok h hn
  have s2 := shaped_ok g hm
  unfold inD
  rw [e1, e2]
  show (if SeqAt.shaped (pdD d) = true ∧ SeqAt.shaped (.list (pdDs xs)) = true then some ((pdDs xs).any fun z => PyData.eqv z (pdD d)) else none) = _
  rw [if_pos ⟨s1, s2⟩, pdDs_map, List.any_map]
  rfl
theorem eq_tt {S : Sto} {n m : Nat} {xs ys : List D} (h : okD n (.tup xs) = true) (hn : n ≤ 64) (g : okD m (.tup ys) = true) (hm : m ≤ 64) : eqD S (.tup xs) (.tup ys) = some (PyData.eqvAll (pdDs xs) (pdDs ys)) := by
  have e1 := pdT_ok (S := S) h
  have e2 := pdT_ok (S := S) g
  have s1 := shaped_ok h hn
  have s2 := shaped_ok g hm
  show (match pdT S (.tup xs), pdT S (.tup ys) with
    | some p, some q => if SeqAt.shaped p = true ∧ SeqAt.shaped q = true then some (PyData.eqv p q) else none
    | _, _ => none) = _
  rw [e1, e2]
  show (if SeqAt.shaped (pdD (.tup xs)) = true ∧ SeqAt.shaped (pdD (.tup ys)) = true then some (PyData.eqv (pdD (.tup xs)) (pdD (.tup ys))) else none) = _
  rw [if_pos ⟨s1, s2⟩]
  simp only [pdD, PyData.eqv]
theorem eq_ll {S : Sto} {n m : Nat} {xs ys : List D} (h : okD n (.lst xs) = true) (hn : n ≤ 64) (g : okD m (.lst ys) = true) (hm : m ≤ 64) : eqD S (.lst xs) (.lst ys) = some (PyData.eqvAll (pdDs xs) (pdDs ys)) := by
  have e1 := pdT_ok (S := S) h
  have e2 := pdT_ok (S := S) g
  have s1 := shaped_ok h hn
  have s2 := shaped_ok g hm
  show (match pdT S (.lst xs), pdT S (.lst ys) with
    | some p, some q => if SeqAt.shaped p = true ∧ SeqAt.shaped q = true then some (PyData.eqv p q) else none
    | _, _ => none) = _
  rw [e1, e2]
  show (if SeqAt.shaped (pdD (.lst xs)) = true ∧ SeqAt.shaped (pdD (.lst ys)) = true then some (PyData.eqv (pdD (.lst xs)) (pdD (.lst ys))) else none) = _
  rw [if_pos ⟨s1, s2⟩]
  simp only [pdD, PyData.eqv]
/-- a list told from the empty one -/
theorem ne_l {S : Sto} {n : Nat} {xs : List D} (h : okD n (.lst xs) = true) (hn : n ≤ 64) : cmpD S .NotEq (.lst xs) (.lst []) = some (!xs.isEmpty) := by
  show (eqD S (.lst xs) (.lst [])).map (!·) = _
  rw [eq_ll (m := 1) h hn rfl (by decide)]
  cases xs <;> rfl
theorem ne_l0 {S : Sto} : cmpD S .NotEq (.lst []) (.lst []) = some false := ne_l (n := 1) rfl (by decide)
theorem okD_fr {n : Nat} {p : Rat} : okD (n + 1) (fr p) = true := by
  show (okDs n [.int p.num, .int (p.den : Int)] && decide ([D.int p.num, .int (p.den : Int)].length ≤ sizeLine)) = true
  cases n <;> rfl
theorem eqv_fr {p q : Rat} : PyData.eqv (pdD (fr p)) (pdD (fr q)) = decide (p = q) := by
  simp only [pdD, fr, pdDs, PyData.eqv, PyData.eqvAll, Bool.and_true]
  by_cases h : p = q
  · subst h; simp
  · rw [decide_eq_false h]
    by_cases h1 : p.num = q.num
    · by_cases h2 : p.den = q.den
      · exact absurd (Rat.ext h1 h2) h
      · simp [h1]; omega
    · simp [h1]
theorem eq_fr {S : Sto} {p q : Rat} : cmpD S .Eq (fr p) (fr q) = some (decide (p = q)) := by
  rw [← eqv_fr]
  have := eq_tt (S := S) (n := 1) (m := 1) (xs := [.int p.num, .int (p.den : Int)]) (ys := [.int q.num, .int (q.den : Int)]) (okD_fr (n := 0) (p := p)) (by decide) (okD_fr (n := 0) (p := q)) (by decide)
  show eqD S (fr p) (fr q) = _
  rw [show fr p = .tup [.int p.num, .int (p.den : Int)] from rfl, show fr q = .tup [.int q.num, .int (q.den : Int)] from rfl, this]
  simp only [pdD, PyData.eqv]
theorem ne_fr {S : Sto} {p q : Rat} : cmpD S .NotEq (fr p) (fr q) = some (!decide (p = q)) := by
  have := eq_fr (S := S) (p := p) (q := q)
  show (eqD S (fr p) (fr q)).map (!·) = _
  rw [show eqD S (fr p) (fr q) = _ from this]
  rfl
theorem okDs_all {n : Nat} : ∀ {xs : List D}, (∀ x ∈ xs, okD n x = true) → okDs n xs = true
  | [], _ => rfl
  | x :: xs, h => by
    show (okD n x && okDs n xs) = true
    rw [h x List.mem_cons_self, okDs_all fun y hy => h y (List.mem_cons_of_mem _ hy)]
    rfl
/-- a text among texts -/
theorem eqv_str {a b : Str} : PyData.eqv (.str a) (.str b) = (a == b) := by simp only [PyData.eqv]
theorem rep_l {xs : List D} {k : Int} : binD .Mult (.lst xs) (.int k) = if repOk xs.length k then some (.lst (List.replicate k.toNat xs).flatten) else none := nrfl rfl
theorem cut_1 {S : Sto} {x : D} {xs : List D} : slD S (.lst (x :: xs)) (some 1) none = some (.lst xs) := by
  have h1 : HT.sIx (x :: xs).length 0 (some 1) = 1 := by
    show min (1 : Int).toNat (x :: xs).length = 1
    simp
  have h2 : HT.sIx (x :: xs).length (x :: xs).length none = xs.length + 1 := rfl
  simp only [slD, lstOf, cutD, h1, h2, Option.map_some]
  simp
theorem inN {S : Sto} {d e : D} : cmpD S .In d e = inD S d e := nrfl rfl
theorem inN' {S : Sto} {d e : D} : cmpD S .NotIn d e = (inD S d e).map (!·) := nrfl rfl
end Rw
namespace Rw
section
variable {α : Type} {all : List D} {turn : D → Sto → Rs (Option D)} {S : Sto}
theorem compL_mapT {g f : α → D} : ∀ {xs : List α} {acc : List D}, (∀ x ∈ xs, turn (g x) S = some (some (f x), S)) → compL none all turn (xs.map g) S acc = some (acc ++ xs.map f, S)
  | [], acc, _ => by rw [List.map_nil, compL_nil]; simp
  | x :: xs, acc, h => by
    rw [List.map_cons, compL_some (h x List.mem_cons_self), compL_mapT fun y hy => h y (List.mem_cons_of_mem _ hy)]
    simp
theorem compL_fmT {g : α → D} {f : α → Option D} : ∀ {xs : List α} {acc : List D}, (∀ x ∈ xs, turn (g x) S = some (f x, S)) → compL none all turn (xs.map g) S acc = some (acc ++ xs.filterMap f, S)
  | [], acc, _ => by rw [List.map_nil, compL_nil]; simp
  | x :: xs, acc, h => by
    have h1 := h x List.mem_cons_self
    have ih := fun acc => compL_fmT (acc := acc) fun y hy => h y (List.mem_cons_of_mem x hy)
    cases c : f x with
    | none => rw [List.map_cons, compL_none (by rw [h1, c]), ih, List.filterMap_cons, c]
    | some y => rw [List.map_cons, compL_some (by rw [h1, c]), ih, List.filterMap_cons, c]; simp
theorem compL_noneT {g : α → D} : ∀ {xs : List α} {acc : List D}, (∀ x ∈ xs, turn (g x) S = some (none, S)) → compL none all turn (xs.map g) S acc = some (acc, S)
  | [], acc, _ => by rw [List.map_nil, compL_nil]
  | x :: xs, acc, h => by
    rw [List.map_cons, compL_none (h x List.mem_cons_self), compL_noneT fun y hy => h y (List.mem_cons_of_mem x hy)]
end
end Rw
namespace Rw
open PySem L2
theorem in_strs {S : Sto} {a : Str} {xs : List Str} (h : (PyData.strOk a && xs.all PyData.strOk) = true) (hl : xs.length ≤ 1000) : cmpD S .In (.str a) (.tup (xs.map D.str)) = some (xs.any fun z => z == a) := by
  obtain ⟨h1, h2⟩ := bk h
  rw [inN, in_t (n := 0) (m := 1) (show okD 0 (.str a) = true from h1) (by decide) (okD_tup (okDs_all (by
    intro x hx
    obtain ⟨y, hy, rfl⟩ := List.mem_map.mp hx
    exact List.all_eq_true.mp h2 y hy)) (le_size (by simp; omega))) (by decide), List.any_map]
  congr 1
theorem in_strT {S : Sto} {a : Str} {xs : List Str} {b : Bool} (h : (PyData.strOk a && xs.all PyData.strOk) = true) (hl : xs.length ≤ 1000) (e : (xs.any fun z => z == a) = b) : cmpD S .In (.str a) (.tup (xs.map D.str)) = some b := by
  rw [in_strs h hl, e]
end Rw

namespace Rw
/-! hulls -/
def lo2 (a b : Rat) : Rat := if b < a then b else a
def hi2 (a b : Rat) : Rat := if a < b then b else a
def hullF (x : Rat) (xs : List Rat) : Rat × Rat := (xs.foldl lo2 x, xs.foldl hi2 x)
theorem lo_fold : ∀ (xs : List Rat) (x : Rat), (∀ y ∈ x :: xs, xs.foldl lo2 x ≤ y) ∧ xs.foldl lo2 x ∈ x :: xs
  | [], x => by simp
  | z :: xs, x => by
    obtain ⟨h1, h2⟩ := lo_fold xs (lo2 x z)
    have h3 := h1 (lo2 x z) List.mem_cons_self
    refine ⟨?_, ?_⟩
    · intro y hy
      rw [List.foldl_cons]
      rcases List.mem_cons.mp hy with rfl | hy
      · unfold lo2 at h3 ⊢; grind
      · rcases List.mem_cons.mp hy with rfl | hy
        · unfold lo2 at h3 ⊢; grind
        · exact h1 y (List.mem_cons_of_mem _ hy)
    · rw [List.foldl_cons]
      rcases List.mem_cons.mp h2 with e | e
      · rw [e]; unfold lo2; split <;> simp
      · simp [e]
theorem hi_fold : ∀ (xs : List Rat) (x : Rat), (∀ y ∈ x :: xs, y ≤ xs.foldl hi2 x) ∧ xs.foldl hi2 x ∈ x :: xs
  | [], x => by simp
  | z :: xs, x => by
    obtain ⟨h1, h2⟩ := hi_fold xs (hi2 x z)
    have h3 := h1 (hi2 x z) List.mem_cons_self
    refine ⟨?_, ?_⟩
    · intro y hy
      rw [List.foldl_cons]
      rcases List.mem_cons.mp hy with rfl | hy
      · unfold hi2 at h3 ⊢; grind
      · rcases List.mem_cons.mp hy with rfl | hy
        · unfold hi2 at h3 ⊢; grind
        · exact h1 y (List.mem_cons_of_mem _ hy)
    · rw [List.foldl_cons]
      rcases List.mem_cons.mp h2 with e | e
      · rw [e]; unfold hi2; split <;> simp
      · simp [e]
theorem hull_eq {x l h : Rat} {xs : List Rat} (hb : ∀ y ∈ x :: xs, l ≤ y ∧ y ≤ h) (hl : l ∈ x :: xs) (hh : h ∈ x :: xs) : hullF x xs = (l, h) := by
  obtain ⟨h1, h2⟩ := lo_fold xs x
  obtain ⟨h3, h4⟩ := hi_fold xs x
  unfold hullF
  rw [Rat.le_antisymm (h1 l hl) (hb _ h2).1, Rat.le_antisymm (hb _ h4).2 (h3 h hh)]
/-- the first one twice changes nothing -/
theorem hull_self {x : Rat} {xs : List Rat} : hullF x (x :: xs) = hullF x xs := by
  unfold hullF
  have h1 : lo2 x x = x := by unfold lo2; split <;> rfl
  have h2 : hi2 x x = x := by unfold hi2; split <;> rfl
  rw [List.foldl_cons, List.foldl_cons, h1, h2]
theorem inv_le {t s : Rat} (h : t ≤ s) (p : 0 < t ∨ s < 0) : s⁻¹ ≤ t⁻¹ := by
  have hs : s ≠ 0 := by grind
  have ht : t ≠ 0 := by grind
  have e1 := Rat.mul_inv_cancel s hs
  have e2 := Rat.mul_inv_cancel t ht
  have hst : 0 ≤ s * t := by
    rcases p with p | p
    · exact Rat.mul_nonneg (by grind) (by grind)
    · have := Rat.mul_nonneg (a := -s) (b := -t) (by grind) (by grind)
      grind
  have h0 : 0 ≤ s⁻¹ * t⁻¹ := by
    have h2 : 0 ≤ (s⁻¹ * t⁻¹) * (s⁻¹ * t⁻¹) := by
      rcases Rat.le_total (a := 0) (b := s⁻¹ * t⁻¹) with q | q
      · exact Rat.mul_nonneg q q
      · have := Rat.mul_nonneg (a := -(s⁻¹ * t⁻¹)) (b := -(s⁻¹ * t⁻¹)) (by grind) (by grind)
        grind
    have h3 := Rat.mul_nonneg hst h2
    have h4 : s * t * (s⁻¹ * t⁻¹ * (s⁻¹ * t⁻¹)) = s⁻¹ * t⁻¹ := by grind
    rwa [h4] at h3
  have h5 := Rat.mul_nonneg (a := s - t) (b := s⁻¹ * t⁻¹) (by grind) h0
  have h6 : (s - t) * (s⁻¹ * t⁻¹) = t⁻¹ - s⁻¹ := by grind
  rw [h6] at h5
  grind
/-- between -/
theorem mul_betw {a t s r l h : Rat} (h1 : t ≤ s) (h2 : s ≤ r) (l1 : l ≤ a * t) (l2 : l ≤ a * r) (u1 : a * t ≤ h) (u2 : a * r ≤ h) : l ≤ a * s ∧ a * s ≤ h := by
  rcases Rat.le_total (a := 0) (b := a) with q | q
  · have := Rat.mul_le_mul_of_nonneg_left h1 q
    have := Rat.mul_le_mul_of_nonneg_left h2 q
    grind
  · have := Rat.mul_le_mul_of_nonneg_left h1 (c := -a) (by grind)
    have := Rat.mul_le_mul_of_nonneg_left h2 (c := -a) (by grind)
    grind
def mid (a b : Rat) : Rat := (a + b) * (1 / 2)
def pts (a b : Rat) (c d : Rat) : List (Rat × Rat) := [(a, c), (a, d), (a, mid c d), (b, c), (b, d), (b, mid c d), (mid a b, c), (mid a b, d), (mid a b, mid c d)]
theorem mid_ge {a b : Rat} (h : a ≤ b) : a ≤ mid a b ∧ mid a b ≤ b := by unfold mid; grind
section
variable {a b c d : Rat}
theorem hull9 {f : Rat → Rat → Rat} {l h : Rat} (hb : ∀ p ∈ pts a b c d, l ≤ f p.1 p.2 ∧ f p.1 p.2 ≤ h) (hl : ∃ p ∈ pts a b c d, f p.1 p.2 = l) (hh : ∃ p ∈ pts a b c d, f p.1 p.2 = h) :
    hullF (f a c) ((pts a b c d).map fun p => f p.1 p.2) = (l, h) := by
  have : (pts a b c d).map (fun p => f p.1 p.2) = f a c :: [f a d, f a (mid c d), f b c, f b d, f b (mid c d), f (mid a b) c, f (mid a b) d, f (mid a b) (mid c d)] := rfl
  rw [this, hull_self]
  refine hull_eq ?_ ?_ ?_
  · rw [← this]
    intro y hy
    obtain ⟨p, hp, rfl⟩ := List.mem_map.mp hy
    exact hb p hp
  · rw [← this]
    obtain ⟨p, hp, e⟩ := hl
    exact List.mem_map.mpr ⟨p, hp, e⟩
  · rw [← this]
    obtain ⟨p, hp, e⟩ := hh
    exact List.mem_map.mpr ⟨p, hp, e⟩
theorem pts_in (h1 : a ≤ b) (h2 : c ≤ d) : ∀ p ∈ pts a b c d, a ≤ p.1 ∧ p.1 ≤ b ∧ c ≤ p.2 ∧ p.2 ≤ d := by
  have := mid_ge h1
  have := mid_ge h2
  intro p hp
  simp only [pts, List.mem_cons, List.not_mem_nil, or_false] at hp
  rcases hp with rfl | rfl | rfl | rfl | rfl | rfl | rfl | rfl | rfl <;> grind
theorem m_ac : (a, c) ∈ pts a b c d := by simp [pts]
theorem m_ad : (a, d) ∈ pts a b c d := by simp [pts]
theorem m_bc : (b, c) ∈ pts a b c d := by simp [pts]
theorem m_bd : (b, d) ∈ pts a b c d := by simp [pts]
theorem pts_all {P : Rat × Rat → Prop} (h1 : P (a, c)) (h2 : P (a, d)) (h3 : P (a, mid c d)) (h4 : P (b, c)) (h5 : P (b, d)) (h6 : P (b, mid c d)) (h7 : P (mid a b, c)) (h8 : P (mid a b, d)) (h9 : P (mid a b, mid c d)) : ∀ p ∈ pts a b c d, P p := by
  intro p hp
  simp only [pts, List.mem_cons, List.not_mem_nil, or_false] at hp
  rcases hp with rfl | rfl | rfl | rfl | rfl | rfl | rfl | rfl | rfl <;> assumption
/-- what the program finds of four ends -/
def hull4 (f : Rat → Rat → Rat) (a b c d : Rat) : Rat × Rat := hullF (f a c) [f a d, f b c, f b d]
theorem hull4_in {f : Rat → Rat → Rat} : (∀ y ∈ [f a c, f a d, f b c, f b d], (hull4 f a b c d).1 ≤ y ∧ y ≤ (hull4 f a b c d).2) ∧ (∃ p ∈ pts a b c d, f p.1 p.2 = (hull4 f a b c d).1) ∧ ∃ p ∈ pts a b c d, f p.1 p.2 = (hull4 f a b c d).2 := by
  obtain ⟨h1, h2⟩ := lo_fold [f a d, f b c, f b d] (f a c)
  obtain ⟨h3, h4⟩ := hi_fold [f a d, f b c, f b d] (f a c)
  refine ⟨fun y hy => ⟨h1 y hy, h3 y hy⟩, ?_, ?_⟩
  · simp only [List.mem_cons, List.not_mem_nil, or_false] at h2
    rcases h2 with e | e | e | e
    · exact ⟨_, m_ac, e.symm⟩
    · exact ⟨_, m_ad, e.symm⟩
    · exact ⟨_, m_bc, e.symm⟩
    · exact ⟨_, m_bd, e.symm⟩
  · simp only [List.mem_cons, List.not_mem_nil, or_false] at h4
    rcases h4 with e | e | e | e
    · exact ⟨_, m_ac, e.symm⟩
    · exact ⟨_, m_ad, e.symm⟩
    · exact ⟨_, m_bc, e.symm⟩
    · exact ⟨_, m_bd, e.symm⟩
/-- what a step's span is: all values in it, the ends among them -/
def IsHull (f : Rat → Rat → Rat) (a b c d l h : Rat) : Prop := (∀ p ∈ pts a b c d, l ≤ f p.1 p.2 ∧ f p.1 p.2 ≤ h) ∧ (∃ p ∈ pts a b c d, f p.1 p.2 = l) ∧ ∃ p ∈ pts a b c d, f p.1 p.2 = h
theorem is_add (h1 : a ≤ b) (h2 : c ≤ d) : IsHull (· + ·) a b c d (a + c) (b + d) :=
  ⟨fun p hp => by have := pts_in h1 h2 p hp; grind, ⟨_, m_ac, rfl⟩, ⟨_, m_bd, rfl⟩⟩
theorem is_less (h1 : a ≤ b) (h2 : c ≤ d) : IsHull (· - ·) a b c d (a - d) (b - c) :=
  ⟨fun p hp => by have := pts_in h1 h2 p hp; grind, ⟨_, m_ad, rfl⟩, ⟨_, m_bc, rfl⟩⟩
theorem is_least (h1 : a ≤ b) (h2 : c ≤ d) : IsHull lo2 a b c d (lo2 a c) (lo2 b d) :=
  ⟨fun p hp => by have := pts_in h1 h2 p hp; unfold lo2; grind, ⟨_, m_ac, rfl⟩, ⟨_, m_bd, rfl⟩⟩
theorem is_most (h1 : a ≤ b) (h2 : c ≤ d) : IsHull hi2 a b c d (hi2 a c) (hi2 b d) :=
  ⟨fun p hp => by have := pts_in h1 h2 p hp; unfold hi2; grind, ⟨_, m_ac, rfl⟩, ⟨_, m_bd, rfl⟩⟩
theorem is_times : IsHull (· * ·) a b c d (hull4 (· * ·) a b c d).1 (hull4 (· * ·) a b c d).2 := by
  obtain ⟨h1, h2, h3⟩ := hull4_in (f := (· * ·)) (a := a) (b := b) (c := c) (d := d)
  refine ⟨?_, h2, h3⟩
  have e1 := h1 (a * c) (by simp)
  have e2 := h1 (a * d) (by simp)
  have e3 := h1 (b * c) (by simp)
  have e4 := h1 (b * d) (by simp)
  generalize (hull4 (· * ·) a b c d).1 = l at *
  generalize (hull4 (· * ·) a b c d).2 = h at *
  refine pts_all ?_ ?_ ?_ ?_ ?_ ?_ ?_ ?_ ?_ <;> simp only [mid] <;> grind
theorem is_over (hcd : c ≤ d) (hz : 0 < c ∨ d < 0) : IsHull (· / ·) a b c d (hull4 (· / ·) a b c d).1 (hull4 (· / ·) a b c d).2 := by
  obtain ⟨h1, h2, h3⟩ := hull4_in (f := (· / ·)) (a := a) (b := b) (c := c) (d := d)
  refine ⟨?_, h2, h3⟩
  have e1 := h1 (a / c) (by simp)
  have e2 := h1 (a / d) (by simp)
  have e3 := h1 (b / c) (by simp)
  have e4 := h1 (b / d) (by simp)
  have hm := mid_ge hcd
  have i1 := inv_le hm.1 (by grind)
  have i2 := inv_le hm.2 (by grind)
  generalize (hull4 (· / ·) a b c d).1 = l at *
  generalize (hull4 (· / ·) a b c d).2 = h at *
  simp only [Rat.div_def] at *
  have m1 := mul_betw i2 i1 e2.1 e1.1 e2.2 e1.2
  have m2 := mul_betw i2 i1 e4.1 e3.1 e4.2 e3.2
  clear h1 h2 h3 i1 i2 hm hz
  refine pts_all e1 e2 m1 e3 e4 m2 ?_ ?_ ?_
  all_goals
    simp only []
    rw [show mid a b = (a + b) * (1 / 2) from rfl]
    generalize (mid c d)⁻¹ = t at *
    generalize c⁻¹ = c' at *
    generalize d⁻¹ = d' at *
    grind
/-- sure comparisons -/
theorem all_lt (h1 : a ≤ b) (h2 : c ≤ d) : (∀ p ∈ pts a b c d, p.1 < p.2) ↔ b < c :=
  ⟨fun h => h _ m_bc, fun h p hp => by have := pts_in h1 h2 p hp; grind⟩
theorem all_le (h1 : a ≤ b) (h2 : c ≤ d) : (∀ p ∈ pts a b c d, p.1 ≤ p.2) ↔ b ≤ c :=
  ⟨fun h => h _ m_bc, fun h p hp => by have := pts_in h1 h2 p hp; grind⟩
theorem no_lt (h1 : a ≤ b) (h2 : c ≤ d) : (∀ p ∈ pts a b c d, ¬ p.1 < p.2) ↔ d ≤ a :=
  ⟨fun h => by have := h _ m_ad; grind, fun h p hp => by have := pts_in h1 h2 p hp; grind⟩
theorem no_le (h1 : a ≤ b) (h2 : c ≤ d) : (∀ p ∈ pts a b c d, ¬ p.1 ≤ p.2) ↔ d < a :=
  ⟨fun h => by have := h _ m_ad; grind, fun h p hp => by have := pts_in h1 h2 p hp; grind⟩
/-- sizes -/
theorem abs_eq (a : Rat) : a.abs = if a < 0 then -a else a := by unfold Rat.abs; grind
theorem size_none (h : a ≤ b) (hz : 0 < a ∨ b < 0) : hullF a.abs [a.abs, b.abs] = hullF a.abs [b.abs] := hull_self
theorem size_zero (h1 : a ≤ 0) (h2 : 0 ≤ b) : hullF a.abs [a.abs, b.abs, 0] = (0, hi2 a.abs b.abs) := by
  rw [hull_self]
  have e1 := abs_eq a
  have e2 := abs_eq b
  unfold hullF
  simp only [List.foldl_cons, List.foldl_nil]
  refine Prod.ext ?_ ?_
  · show lo2 (lo2 a.abs b.abs) 0 = 0
    unfold lo2; grind
  · show hi2 (hi2 a.abs b.abs) 0 = hi2 a.abs b.abs
    unfold hi2; grind
end
section
open PySem L2
variable {n m : Nat} {p q a b : Rat}
theorem Sm.lo (h : Sm n p) (g : Sm n q) : Sm n (lo2 p q) := by unfold lo2; split <;> assumption
theorem Sm.hi (h : Sm n p) (g : Sm n q) : Sm n (hi2 p q) := by unfold hi2; split <;> assumption
theorem fr_half : fr (1 / 2) = .tup [.int 1, .int 2] := by
  have h1 : (1 / 2 : Rat).num = 1 := by decide +kernel
  have h2 : (1 / 2 : Rat).den = 2 := by decide +kernel
  unfold fr
  rw [h1, h2]
  rfl
theorem sm_half : Sm 2 (1 / 2) := by
  have h1 : (1 / 2 : Rat).num = 1 := by decide +kernel
  have h2 : (1 / 2 : Rat).den = 2 := by decide +kernel
  unfold Sm
  rw [h1, h2]
  decide
theorem Sm.mid (ha : Sm n a) (hb : Sm n b) : Sm (n + n + 3) (mid a b) := ((ha.add hb).mul sm_half).mono (by omega)
theorem Sm.sub (h : Sm n p) (g : Sm m q) : Sm (n + m + 1) (p - q) := by
  rw [Rat.sub_eq_add_neg]
  exact h.add g.neg
end
end Rw

namespace Rw
/-! formats: the numbers in order, and where a fraction stands among them -/
theorem lt_le {a b c : Rat} (h : a < b) (g : b ≤ c) : a < c := by grind
theorem le_lt {a b c : Rat} (h : a ≤ b) (g : b < c) : a < c := by grind
def fh (d : Nat) : Nat := 2 ^ (d - 1)
def cnt (d : Nat) (m M : Int) : Nat := 2 * fh d + (M - m).toNat * fh d
def rW (d k : Nat) : Nat := if k < 2 * fh d then k else fh d + k % fh d
def rP (d : Nat) (m : Int) (k : Nat) : Int := if k < 2 * fh d then m else m + ((k / fh d : Nat) : Int) - 1
def vl (d : Nat) (m : Int) (k : Nat) : Rat := (rW d k : Rat) * (2 : Rat) ^ rP d m k
section
variable {d k : Nat} {m M : Int}
theorem fh_pos : 0 < fh d := Nat.two_pow_pos _
theorem fh_two (hd : 1 ≤ d) : 2 * fh d = 2 ^ d := by
  unfold fh
  obtain ⟨n, rfl⟩ : ∃ n, d = n + 1 := ⟨d - 1, by omega⟩
  rw [Nat.pow_succ, Nat.add_sub_cancel, Nat.mul_comm]
theorem two_succ (p : Int) : (2 : Rat) ^ (p + 1) = 2 * (2 : Rat) ^ p := by
  rw [two_add, Rat.mul_comm]
  rfl
theorem vl_succ : vl d m (k + 1) = ((rW d k : Rat) + 1) * (2 : Rat) ^ rP d m k := by
  have hp := fh_pos (d := d)
  unfold vl rW rP
  by_cases c : k + 1 < 2 * fh d
  · rw [if_pos c, if_pos c, if_pos (show k < 2 * fh d by omega), if_pos (show k < 2 * fh d by omega), Rat.natCast_add]
    rfl
  · rw [if_neg c, if_neg c]
    by_cases c2 : k < 2 * fh d
    · have e : k + 1 = 2 * fh d := by omega
      rw [if_pos c2, if_pos c2, e]
      have e1 : 2 * fh d % fh d = 0 := by simp
      have e2 : 2 * fh d / fh d = 2 := Nat.mul_div_cancel _ hp
      rw [e1, e2, show m + ((2 : Nat) : Int) - 1 = m + 1 by omega, two_succ]
      have e3 : (k : Rat) + 1 = 2 * (fh d : Rat) := by
        have := congrArg (fun n : Nat => (n : Rat)) e
        simp only [Rat.natCast_add, Rat.natCast_mul] at this
        exact this
      rw [e3, Nat.add_zero]
      grind
    · rw [if_neg c2, if_neg c2]
      by_cases c3 : (k + 1) % fh d = 0
      · have e1 : (k + 1) / fh d = k / fh d + 1 := by rw [Nat.succ_div, if_pos (Nat.dvd_of_mod_eq_zero c3)]
        have e0 : k % fh d + 1 = fh d := by
          have := Nat.div_add_mod k (fh d)
          have h2 := Nat.div_add_mod (k + 1) (fh d)
          rw [c3, e1, Nat.mul_add] at h2
          omega
        rw [c3, e1, Nat.add_zero, show m + ((k / fh d + 1 : Nat) : Int) - 1 = (m + ((k / fh d : Nat) : Int) - 1) + 1 by omega, two_succ]
        have e3 : ((fh d + k % fh d : Nat) : Rat) + 1 = 2 * (fh d : Rat) := by
          have : fh d + k % fh d + 1 = 2 * fh d := by omega
          have := congrArg (fun n : Nat => (n : Rat)) this
          simp only [Rat.natCast_add, Rat.natCast_mul] at this ⊢
          exact this
        rw [e3]
        grind
      · have e1 : (k + 1) / fh d = k / fh d := by rw [Nat.succ_div, if_neg (fun q => c3 (Nat.mod_eq_zero_of_dvd q))]; rfl
        have e0 : (k + 1) % fh d = k % fh d + 1 := by
          have := Nat.div_add_mod k (fh d)
          have h2 := Nat.div_add_mod (k + 1) (fh d)
          rw [e1] at h2
          omega
        rw [e0, e1, ← Nat.add_assoc, Rat.natCast_add]
        rfl
theorem vl_lt_succ : vl d m k < vl d m (k + 1) := by
  rw [vl_succ]
  unfold vl
  have := two_pos (rP d m k)
  grind
theorem vl_lt {i j : Nat} (h : i < j) : vl d m i < vl d m j := by
  induction h with
  | refl => exact vl_lt_succ
  | step _ ih => exact lt_le ih (Rat.le_of_lt vl_lt_succ)
theorem vl_le {i j : Nat} (h : i ≤ j) : vl d m i ≤ vl d m j := by
  rcases Nat.lt_or_eq_of_le h with h | h
  · exact Rat.le_of_lt (vl_lt h)
  · rw [h]; exact Rat.le_refl
theorem vl_lt_iff {i j : Nat} : vl d m i < vl d m j ↔ i < j := by
  refine ⟨fun h => ?_, vl_lt⟩
  rcases Nat.lt_or_ge i j with q | q
  · exact q
  · have := vl_le (d := d) (m := m) q
    grind
theorem vl_le_iff {i j : Nat} : vl d m i ≤ vl d m j ↔ i ≤ j := by
  refine ⟨fun h => ?_, vl_le⟩
  rcases Nat.lt_or_ge j i with q | q
  · have := vl_lt (d := d) (m := m) q
    grind
  · exact q
theorem vl_zero : vl d m 0 = 0 := by
  have hp := fh_pos (d := d)
  unfold vl rW
  rw [if_pos (by omega)]
  exact Rat.zero_mul _
theorem fh_cast (hd : 1 ≤ d) : (fh d : Rat) = (2 : Rat) ^ ((d : Int) - 1) := by
  unfold fh
  rw [two_cast]
  congr 1
  omega
theorem vl_cnt (hd : 1 ≤ d) (hm : m ≤ M) : vl d m (cnt d m M) = (2 : Rat) ^ ((d : Int) + M) := by
  have hp := fh_pos (d := d)
  unfold vl rW rP cnt
  have c : ¬ (2 * fh d + (M - m).toNat * fh d < 2 * fh d) := by omega
  have e1 : (2 * fh d + (M - m).toNat * fh d) = (2 + (M - m).toNat) * fh d := by rw [Nat.add_mul]
  rw [if_neg c, if_neg c, e1, Nat.mul_mod_left, Nat.mul_div_cancel _ hp, Nat.add_zero, fh_cast hd, ← two_add]
  congr 1
  omega
/-- the place of a whole part and a power -/
def ixF (d : Nat) (m : Int) (w : Nat) (p : Int) : Nat := w + (p - m).toNat * fh d
theorem ix_rW {w : Nat} {p : Int} (hp : m ≤ p) (hw : w < 2 * fh d) (h : p = m ∨ fh d ≤ w) : rW d (ixF d m w p) = w ∧ rP d m (ixF d m w p) = p := by
  have h0 := fh_pos (d := d)
  unfold rW rP ixF
  by_cases c : p = m
  · subst c
    have e : w + (p - p).toNat * fh d = w := by simp
    rw [e, if_pos hw, if_pos hw]
    exact ⟨rfl, rfl⟩
  · have hw2 : fh d ≤ w := by rcases h with h | h; exact absurd h c; exact h
    obtain ⟨t, ht⟩ : ∃ t : Nat, (p - m).toNat = t + 1 := ⟨(p - m).toNat - 1, by omega⟩
    obtain ⟨r, hr⟩ : ∃ r : Nat, w = fh d + r := ⟨w - fh d, by omega⟩
    have e : w + (p - m).toNat * fh d = r + (t + 2) * fh d := by rw [ht, hr, Nat.add_mul, Nat.add_mul]; omega
    have hr2 : r < fh d := by omega
    have n1 : ¬ (r + (t + 2) * fh d < 2 * fh d) := by rw [Nat.add_mul]; omega
    rw [e, if_neg n1, if_neg n1, Nat.add_mul_mod_self_right, Nat.add_mul_div_right _ _ h0, Nat.mod_eq_of_lt hr2, Nat.div_eq_of_lt hr2]
    exact ⟨by omega, by omega⟩
theorem ix_lt {w : Nat} {p : Int} (hp : m ≤ p) (hM : p ≤ M) (hw : w < 2 * fh d) : ixF d m w p < cnt d m M := by
  unfold ixF cnt
  have : (p - m).toNat * fh d ≤ (M - m).toNat * fh d := Nat.mul_le_mul_right _ (by omega)
  omega
/-- the greatest one not above -/
def IsLow (d : Nat) (m M : Int) (a : Rat) (k : Nat) : Prop := k < cnt d m M ∧ vl d m k ≤ a ∧ ∀ j, j < cnt d m M → vl d m j ≤ a → j ≤ k
theorem IsLow.uniq {a : Rat} {i j : Nat} (h : IsLow d m M a i) (g : IsLow d m M a j) : i = j := Nat.le_antisymm (g.2.2 i h.1 h.2.1) (h.2.2 j g.1 g.2.1)
theorem low_of {a : Rat} {w : Nat} {p : Int} (hp : m ≤ p) (hM : p ≤ M) (hw : w < 2 * fh d) (h : p = m ∨ fh d ≤ w) (h1 : (w : Rat) * (2 : Rat) ^ p ≤ a) (h2 : a < ((w : Rat) + 1) * (2 : Rat) ^ p) : IsLow d m M a (ixF d m w p) := by
  obtain ⟨e1, e2⟩ := ix_rW hp hw h
  refine ⟨ix_lt hp hM hw, ?_, fun j hj hv => ?_⟩
  · unfold vl
    rw [e1, e2]
    exact h1
  · have e3 := vl_succ (d := d) (m := m) (k := ixF d m w p)
    rw [e1, e2] at e3
    have : vl d m j < vl d m (ixF d m w p + 1) := by rw [e3]; grind
    have := vl_lt_iff.mp this
    omega
theorem low_top {a : Rat} (hd : 1 ≤ d) (hm : m ≤ M) (h : (2 : Rat) ^ ((d : Int) + M) ≤ a) : IsLow d m M a (cnt d m M - 1) := by
  have hp := fh_pos (d := d)
  have hc : 0 < cnt d m M := by unfold cnt; omega
  rw [← vl_cnt hd hm] at h
  refine ⟨by omega, Rat.le_trans (vl_le (Nat.sub_le _ _)) h, fun j hj _ => by omega⟩
theorem top_rW (hd : 1 ≤ d) (hm : m ≤ M) : rW d (cnt d m M - 1) = 2 ^ d - 1 ∧ rP d m (cnt d m M - 1) = M := by
  have hp := fh_pos (d := d)
  have := ix_rW (d := d) (m := m) (w := 2 * fh d - 1) (p := M) hm (by omega) (.inr (by omega))
  have e : ixF d m (2 * fh d - 1) M = cnt d m M - 1 := by unfold ixF cnt; omega
  rw [e, fh_two hd] at this
  exact this
end
/-! a fraction's own power and whole part -/
def pw (d : Nat) (m : Int) (q : Rat) : Int := if q.num = 0 then m else (if expo q - (d : Int) + 1 > m then expo q - (d : Int) + 1 else m)
def xq (p : Int) (q : Rat) : Rat := q.abs * (2 : Rat) ^ (-p)
def wh (d : Nat) (m : Int) (q : Rat) : Nat := (xq (pw d m q) q).num.natAbs / (xq (pw d m q) q).den
def rs (d : Nat) (m : Int) (q : Rat) : Nat := (xq (pw d m q) q).num.natAbs % (xq (pw d m q) q).den
section
variable {d : Nat} {m M : Int} {q a : Rat}
theorem two_cancel (p : Int) : (2 : Rat) ^ (-p) * (2 : Rat) ^ p = 1 := by
  rw [← two_add, Int.add_left_neg]
  rfl
theorem xq_mul (p : Int) : xq p q * (2 : Rat) ^ p = q.abs := by
  unfold xq
  rw [Rat.mul_assoc, two_cancel, Rat.mul_one]
theorem abs_nonneg : 0 ≤ q.abs := by
  unfold Rat.abs
  split <;> grind
theorem xq_nonneg (p : Int) : 0 ≤ xq p q := Rat.mul_nonneg abs_nonneg (Rat.le_of_lt (two_pos _))
/-- floor and rest -/
theorem floor_le {x : Rat} (h : 0 ≤ x) : ((x.num.natAbs / x.den : Nat) : Rat) ≤ x ∧ x < ((x.num.natAbs / x.den : Nat) : Rat) + 1 := by
  have hp := Rat.natCast_pos.mpr x.den_pos
  have hn : (x.num.natAbs : Rat) = x * (x.den : Rat) := by
    rw [mul_den]
    have : ((x.num.natAbs : Nat) : Int) = x.num := by have := Rat.num_nonneg.mpr h; omega
    rw [← Rat.intCast_natCast, this]
  have h1 : x.den * (x.num.natAbs / x.den) ≤ x.num.natAbs := Nat.mul_div_le _ _
  have h2 : x.num.natAbs < x.den * (x.num.natAbs / x.den + 1) := Nat.lt_mul_div_succ _ x.den_pos
  have h1' := Rat.natCast_le_natCast.mpr h1
  have h2' := Rat.natCast_lt_natCast.mpr h2
  rw [Rat.natCast_mul, hn] at h1'
  rw [Rat.natCast_mul, hn, Rat.natCast_add] at h2'
  refine ⟨?_, ?_⟩
  · refine Rat.le_of_mul_le_mul_right (c := (x.den : Rat)) ?_ hp
    rw [Rat.mul_comm]
    exact h1'
  · refine Rat.lt_of_mul_lt_mul_right (c := (x.den : Rat)) ?_ (Rat.le_of_lt hp)
    rw [Rat.mul_comm (_ + 1)]
    exact h2'
theorem rest_eq {x : Rat} (h : 0 ≤ x) : x = ((x.num.natAbs / x.den : Nat) : Rat) + ((x.num.natAbs % x.den : Nat) : Rat) / (x.den : Rat) := by
  have hp := Rat.natCast_pos.mpr x.den_pos
  have hz : (x.den : Rat) ≠ 0 := by grind
  have hn : (x.num.natAbs : Rat) = x * (x.den : Rat) := by
    rw [mul_den]
    have : ((x.num.natAbs : Nat) : Int) = x.num := by have := Rat.num_nonneg.mpr h; omega
    rw [← Rat.intCast_natCast, this]
  have h1 := congrArg (fun n : Nat => (n : Rat)) (Nat.div_add_mod x.num.natAbs x.den)
  simp only [Rat.natCast_add, Rat.natCast_mul] at h1
  rw [hn] at h1
  have h2 : x = (x * (x.den : Rat)) / (x.den : Rat) := by rw [Rat.div_def, Rat.mul_assoc, Rat.mul_inv_cancel _ hz, Rat.mul_one]
  rw [h2]
  conv => lhs; rw [← h1]
  rw [← h2, Rat.div_def, Rat.add_mul, Rat.div_def, Rat.mul_comm (x.den : Rat), Rat.mul_assoc, Rat.mul_inv_cancel _ hz, Rat.mul_one]
theorem wh_lo : (wh d m q : Rat) * (2 : Rat) ^ pw d m q ≤ q.abs := by
  have h := (floor_le (xq_nonneg (q := q) (pw d m q))).1
  have := Rat.mul_le_mul_of_nonneg_right h (Rat.le_of_lt (two_pos (pw d m q)))
  rw [xq_mul] at this
  exact this
theorem wh_hi : q.abs < ((wh d m q : Rat) + 1) * (2 : Rat) ^ pw d m q := by
  have h := (floor_le (xq_nonneg (q := q) (pw d m q))).2
  have := Rat.mul_lt_mul_of_pos_right h (two_pos (pw d m q))
  rw [xq_mul] at this
  exact this
theorem pw_ge : m ≤ pw d m q := by
  unfold pw
  split
  · exact Int.le_refl _
  · split <;> omega
theorem two_lt {i j : Int} : (2 : Rat) ^ i < (2 : Rat) ^ j ↔ i < j := by
  have key : ∀ {i j : Int}, i ≤ j → (2 : Rat) ^ i ≤ (2 : Rat) ^ j := by
    intro i j h
    obtain ⟨n, rfl⟩ : ∃ n : Nat, j = i + n := ⟨(j - i).toNat, by omega⟩
    rw [two_add, ← two_cast]
    have h1 : (1 : Rat) ≤ ((2 ^ n : Nat) : Rat) := Rat.natCast_le_natCast.mpr (show 1 ≤ 2 ^ n from Nat.one_le_two_pow)
    have := Rat.mul_le_mul_of_nonneg_left h1 (Rat.le_of_lt (two_pos i))
    rwa [Rat.mul_one] at this
  refine ⟨fun h => ?_, fun h => ?_⟩
  · rcases Int.lt_or_le i j with q | q
    · exact q
    · have := key q
      grind
  · have h1 := key (show i + 1 ≤ j by omega)
    rw [two_succ] at h1
    have := two_pos i
    grind
theorem two_le {i j : Int} : (2 : Rat) ^ i ≤ (2 : Rat) ^ j ↔ i ≤ j := by
  rw [← Rat.not_lt, two_lt, Int.not_lt]
theorem wh_range (hd : 1 ≤ d) (hz : q ≠ 0) : wh d m q < 2 * fh d ∧ (pw d m q = m ∨ fh d ≤ wh d m q) := by
  obtain ⟨c1, c2⟩ := expo_spec hz
  have hn := num_ne hz
  have lo := wh_lo (d := d) (m := m) (q := q)
  have hi := wh_hi (d := d) (m := m) (q := q)
  have hp := two_pos (pw d m q)
  have hpe : expo q + 1 ≤ pw d m q + (d : Int) := by
    unfold pw
    rw [if_neg hn]
    split <;> omega
  have h1 : q.abs < (2 : Rat) ^ (pw d m q + (d : Int)) := lt_le (Rat.not_le.mp c2) (two_le.mpr hpe)
  have e1 : (2 : Rat) ^ (pw d m q + (d : Int)) = ((2 * fh d : Nat) : Rat) * (2 : Rat) ^ pw d m q := by
    rw [fh_two hd, two_cast, ← two_add, Int.add_comm]
  refine ⟨?_, ?_⟩
  · rw [e1] at h1
    have h2 : (wh d m q : Rat) * (2 : Rat) ^ pw d m q < ((2 * fh d : Nat) : Rat) * (2 : Rat) ^ pw d m q := le_lt lo h1
    exact Rat.natCast_lt_natCast.mp (Rat.lt_of_mul_lt_mul_right h2 (Rat.le_of_lt hp))
  · by_cases c : pw d m q = m
    · exact .inl c
    · right
      have e : expo q = pw d m q + ((d : Int) - 1) := by
        have := c
        unfold pw at this ⊢
        rw [if_neg hn] at this ⊢
        split
        · omega
        · rename_i g; rw [if_neg g] at this; exact absurd rfl this
      rw [e, two_add, ← fh_cast hd] at c1
      have h2 : (fh d : Rat) * (2 : Rat) ^ pw d m q < ((wh d m q : Rat) + 1) * (2 : Rat) ^ pw d m q := by
        rw [Rat.mul_comm]
        exact le_lt c1 hi
      have h3 := Rat.lt_of_mul_lt_mul_right h2 (Rat.le_of_lt hp)
      have h4 : ((fh d : Nat) : Rat) < ((wh d m q + 1 : Nat) : Rat) := by rw [Rat.natCast_add]; exact h3
      have := Rat.natCast_lt_natCast.mp h4
      omega
/-- where it is among the numbers -/
theorem q_low (hd : 1 ≤ d) (hz : q ≠ 0) (hM : pw d m q ≤ M) : IsLow d m M q.abs (ixF d m (wh d m q) (pw d m q)) := low_of pw_ge hM (wh_range hd hz).1 (wh_range hd hz).2 wh_lo wh_hi
theorem q_top (hd : 1 ≤ d) (hz : q ≠ 0) (hm : m ≤ M) (hM : M < pw d m q) : (2 : Rat) ^ ((d : Int) + M) ≤ q.abs := by
  obtain ⟨c1, c2⟩ := expo_spec hz
  have hn := num_ne hz
  refine Rat.le_trans (two_le.mpr ?_) c1
  unfold pw at hM
  rw [if_neg hn] at hM
  split at hM <;> omega
end
/-! numbers as data -/
section
open PySem L2
def fmD (d : Nat) (m M : Int) : D := .tup [.int (d : Int), .int m, .int M]
def nothD (s : Int) : D := .tup [.str "nothing", .int s]
def endD (s : Int) : D := .tup [.str "endless", .int s]
def noneD : D := .tup [.str "none"]
def numD (s : Int) (w : Nat) (p : Int) : D := .tup [.str "number", .int s, .int (w : Int), .int p]
def mkN (s : Int) (w : Nat) (p : Int) : D := if w = 0 then nothD s else numD s w p
def rowD (d : Nat) (m : Int) (k : Nat) : D := mkN 0 (rW d k) (rP d m k)
structure Fm (d : Nat) (m M : Int) : Prop where
  d1 : 2 ≤ d
  d2 : d ≤ 12
  m1 : m.natAbs ≤ 200
  M1 : M.natAbs ≤ 200
  le : m ≤ M
def ownQ (q : Rat) : Int := b2i (decide (q.num < 0))
def smallQ (d : Nat) (m : Int) (q : Rat) : Bool := decide (q.abs < (2 : Rat) ^ ((d : Int) - 1 + m))
def mrk (d : Nat) (m : Int) (q : Rat) (r : Nat) : D := if r = 0 then .tup [] else if smallQ d m q = true then .tup [.str "inexact", .str "underflow"] else .tup [.str "inexact"]
def ovf : D := .tup [.str "inexact", .str "overflow"]
def raiseB (way : Str) (own : Int) (w r l : Nat) : Bool := if way = "cut" then false else if way = "up" then decide (own = 0) else if way = "down" then decide (own = 1) else
  if 2 * r = l then (decide (way = "away") || decide (w % 2 = 1)) else decide (l < 2 * r)
def upQ (d : Nat) (m : Int) (way : Str) (q : Rat) : Bool := decide (0 < rs d m q) && raiseB way (ownQ q) (wh d m q) (rs d m q) (xq (pw d m q) q).den
def dirB (way : Str) (own : Int) : Bool := if way = "even" then true else if way = "away" then true else if way = "up" then decide (own = 0) else if way = "down" then decide (own = 1) else false
def beyD (d : Nat) (M : Int) (way : Str) (own : Int) : D := if dirB way own = true then endD own else numD own (2 ^ d - 1) M
def W1 (d : Nat) (m : Int) (way : Str) (q : Rat) : Nat := if upQ d m way q = true then wh d m q + 1 else wh d m q
def W2 (d : Nat) (m : Int) (way : Str) (q : Rat) : Nat := if W1 d m way q = 2 ^ d then W1 d m way q / 2 else W1 d m way q
def P2 (d : Nat) (m : Int) (way : Str) (q : Rat) : Int := if W1 d m way q = 2 ^ d then pw d m q + 1 else pw d m q
/-- a fraction rounded, by the program's own way -/
def outN (d : Nat) (m M : Int) (way : Str) (q : Rat) (s : Int) : D := if q.num = 0 then nothD s else if P2 d m way q > M then beyD d M way (ownQ q) else mkN (ownQ q) (W2 d m way q) (P2 d m way q)
def outM (d : Nat) (m M : Int) (way : Str) (q : Rat) : D := if q.num = 0 then .tup [] else if P2 d m way q > M then ovf else mrk d m q (rs d m q)
def outQ (d : Nat) (m M : Int) (way : Str) (q : Rat) (s : Int) : D := .tup [outN d m M way q s, outM d m M way q]
def ways : List Str := ["even", "away", "up", "down", "cut"]
theorem w_cases {way : Str} (h : way ∈ ways) : way = "even" ∨ way = "away" ∨ way = "up" ∨ way = "down" ∨ way = "cut" := by
  simpa [ways] using h
theorem fdiv_nat (m n : Nat) : Int.fdiv (m : Int) (n : Int) = ((m / n : Nat) : Int) := by
  rw [Int.fdiv_eq_ediv_of_nonneg _ (by omega)]
  rfl
theorem asg_fr {ts : MGs} {p : Rat} {ρ : Env} : asgG (.tup ts) (fr p) ρ = asgGs ts [.int p.num, .int (p.den : Int)] ρ := nrfl rfl
theorem asg_fm {ts : MGs} {d : Nat} {m M : Int} {ρ : Env} : asgG (.tup ts) (fmD d m M) ρ = asgGs ts [.int (d : Int), .int m, .int M] ρ := nrfl rfl
theorem idx_fm0 {S : Sto} {d : Nat} {m M : Int} : idxD S (fmD d m M) (.int 0) = some (.int (d : Int)) := at_0
theorem idx_fm1 {S : Sto} {d : Nat} {m M : Int} : idxD S (fmD d m M) (.int 1) = some (.int m) := at_1
theorem idx_fm2 {S : Sto} {d : Nat} {m M : Int} : idxD S (fmD d m M) (.int 2) = some (.int M) := at_2
theorem at_3 {α : Type} {x y z u : α} {xs : List α} : atI (x :: y :: z :: u :: xs) 3 = some u := by
  have : (3 : Int) < ((x :: y :: z :: u :: xs).length : Int) := by simp; omega
  simp only [atI, ixN, this, if_true]; rfl
theorem idx_n0 {S : Sto} {s p : Int} {w : Nat} : idxD S (numD s w p) (.int 0) = some (.str "number") := at_0
theorem idx_n1 {S : Sto} {s p : Int} {w : Nat} : idxD S (numD s w p) (.int 1) = some (.int s) := at_1
theorem idx_n2 {S : Sto} {s p : Int} {w : Nat} : idxD S (numD s w p) (.int 2) = some (.int (w : Int)) := at_2
theorem idx_n3 {S : Sto} {s p : Int} {w : Nat} : idxD S (numD s w p) (.int 3) = some (.int p) := at_3
theorem idx_z0 {S : Sto} {s : Int} : idxD S (nothD s) (.int 0) = some (.str "nothing") := at_0
theorem idx_z1 {S : Sto} {s : Int} : idxD S (nothD s) (.int 1) = some (.int s) := at_1
theorem idx_e0 {S : Sto} {s : Int} : idxD S (endD s) (.int 0) = some (.str "endless") := at_0
theorem idx_e1 {S : Sto} {s : Int} : idxD S (endD s) (.int 1) = some (.int s) := at_1
theorem idx_o0 {S : Sto} : idxD S noneD (.int 0) = some (.str "none") := at_0
theorem q_nn : (("nothing" : Str) = ("nothing" : Str)) = True := eq_true rfl
theorem q_num_noth : (("number" : Str) = ("nothing" : Str)) = False := eq_false (by decide +kernel)
theorem q_noth_num : (("nothing" : Str) = ("number" : Str)) = False := eq_false (by decide +kernel)
theorem q_num_end : (("number" : Str) = ("endless" : Str)) = False := eq_false (by decide +kernel)
theorem q_noth_end : (("nothing" : Str) = ("endless" : Str)) = False := eq_false (by decide +kernel)
theorem q_end_noth : (("endless" : Str) = ("nothing" : Str)) = False := eq_false (by decide +kernel)
theorem q_end_num : (("endless" : Str) = ("number" : Str)) = False := eq_false (by decide +kernel)
theorem q_none_noth : (("none" : Str) = ("nothing" : Str)) = False := eq_false (by decide +kernel)
theorem q_none_num : (("none" : Str) = ("number" : Str)) = False := eq_false (by decide +kernel)
theorem q_none_end : (("none" : Str) = ("endless" : Str)) = False := eq_false (by decide +kernel)
theorem q_noth_none : (("nothing" : Str) = ("none" : Str)) = False := eq_false (by decide +kernel)
theorem q_num_none : (("number" : Str) = ("none" : Str)) = False := eq_false (by decide +kernel)
theorem q_end_none : (("endless" : Str) = ("none" : Str)) = False := eq_false (by decide +kernel)
theorem y_even_away : (("even" : Str) = ("away" : Str)) = False := eq_false (by decide +kernel)
theorem y_even_up : (("even" : Str) = ("up" : Str)) = False := eq_false (by decide +kernel)
theorem y_even_down : (("even" : Str) = ("down" : Str)) = False := eq_false (by decide +kernel)
theorem y_even_cut : (("even" : Str) = ("cut" : Str)) = False := eq_false (by decide +kernel)
theorem y_away_even : (("away" : Str) = ("even" : Str)) = False := eq_false (by decide +kernel)
theorem y_away_up : (("away" : Str) = ("up" : Str)) = False := eq_false (by decide +kernel)
theorem y_away_down : (("away" : Str) = ("down" : Str)) = False := eq_false (by decide +kernel)
theorem y_away_cut : (("away" : Str) = ("cut" : Str)) = False := eq_false (by decide +kernel)
theorem y_up_even : (("up" : Str) = ("even" : Str)) = False := eq_false (by decide +kernel)
theorem y_up_away : (("up" : Str) = ("away" : Str)) = False := eq_false (by decide +kernel)
theorem y_up_down : (("up" : Str) = ("down" : Str)) = False := eq_false (by decide +kernel)
theorem y_up_cut : (("up" : Str) = ("cut" : Str)) = False := eq_false (by decide +kernel)
theorem y_down_even : (("down" : Str) = ("even" : Str)) = False := eq_false (by decide +kernel)
theorem y_down_away : (("down" : Str) = ("away" : Str)) = False := eq_false (by decide +kernel)
theorem y_down_up : (("down" : Str) = ("up" : Str)) = False := eq_false (by decide +kernel)
theorem y_down_cut : (("down" : Str) = ("cut" : Str)) = False := eq_false (by decide +kernel)
theorem y_cut_even : (("cut" : Str) = ("even" : Str)) = False := eq_false (by decide +kernel)
theorem y_cut_away : (("cut" : Str) = ("away" : Str)) = False := eq_false (by decide +kernel)
theorem y_cut_up : (("cut" : Str) = ("up" : Str)) = False := eq_false (by decide +kernel)
theorem y_cut_down : (("cut" : Str) = ("down" : Str)) = False := eq_false (by decide +kernel)
def YW := And.intro @y_even_away (And.intro @y_even_up (And.intro @y_even_down (And.intro @y_even_cut (And.intro @y_away_even (And.intro @y_away_up (And.intro @y_away_down (And.intro @y_away_cut (And.intro @y_up_even (And.intro @y_up_away (And.intro @y_up_down (And.intro @y_up_cut (And.intro @y_down_even (And.intro @y_down_away (And.intro @y_down_up (And.intro @y_down_cut (And.intro @y_cut_even (And.intro @y_cut_away (And.intro @y_cut_up @y_cut_down))))))))))))))))))
def YN := And.intro @q_num_noth (And.intro @q_noth_num (And.intro @q_num_end (And.intro @q_noth_end (And.intro @q_end_noth (And.intro @q_end_num (And.intro @q_none_noth (And.intro @q_none_num (And.intro @q_none_end (And.intro @q_noth_none (And.intro @q_num_none @q_end_none))))))))))
/-- the first, and from the third on -/
theorem sl_01 {S : Sto} {x : D} {xs : List D} : slD S (.tup (x :: xs)) none (some 1) = some (.tup [x]) := by
  have h1 : HT.sIx (x :: xs).length 0 none = 0 := rfl
  have h2 : HT.sIx (x :: xs).length (x :: xs).length (some 1) = 1 := by
    show min (1 : Int).toNat (x :: xs).length = 1
    simp
  simp only [slD, cutD, h1, h2]
  simp
theorem sl_2 {S : Sto} {x y : D} {xs : List D} : slD S (.tup (x :: y :: xs)) (some 2) none = some (.tup xs) := by
  have h1 : HT.sIx (x :: y :: xs).length 0 (some 2) = 2 := by
    show min (2 : Int).toNat (x :: y :: xs).length = 2
    simp
  have h2 : HT.sIx (x :: y :: xs).length (x :: y :: xs).length none = (x :: y :: xs).length := rfl
  simp only [slD, cutD, h1, h2]
  simp
theorem sl_2n {S : Sto} {x : D} : slD S (.tup [x]) (some 2) none = some (.tup []) := by
  rfl
end
end Rw

/-! the text by slots of roundedwithin_k22_whole_rounding_twice, written by gen.py -/
namespace Rw.Pk22
open PySem L2 Rw
def c_bits_of_0 : ME := (.cmp .Gt (.bin .RShift (.var 0) (.var 1)) (.int 0))
def b_bits_of_0 : MSs := (.cons (.aug 1 .Add (.int 1)) .nil)
def f_bits_of : Fn := ⟨1, 2, (.cons (.asg (.name 1) (.int 0)) (.cons (.whl c_bits_of_0 b_bits_of_0) (.cons (.ret (.var 1)) .nil)))⟩
def c_common_0 : ME := (.cmp .Gt (.var 1) (.int 0))
def b_common_0 : MSs := (.cons (.par2 0 1 (.var 1) (.bin .Mod (.var 0) (.var 1))) .nil)
def f_common : Fn := ⟨2, 2, (.cons (.par2 0 1 (.bi .abs 0 (.cons (.var 0) .nil)) (.bi .abs 0 (.cons (.var 1) .nil))) (.cons (.whl c_common_0 b_common_0) (.cons (.ret (.var 0)) .nil)))⟩
def f_fraction : Fn := ⟨2, 3, (.cons (.asg (.name 2) (.ifE (.cmp .Gt (.var 1) (.int 0)) (.call 16 (.cons (.var 0) (.cons (.var 1) .nil))) (.neg (.call 16 (.cons (.var 0) (.cons (.var 1) .nil)))))) (.cons (.ret (.tup (.cons (.bin .FloorDiv (.var 0) (.var 2)) (.cons (.bin .FloorDiv (.var 1) (.var 2)) .nil)))) .nil))⟩
def f_added : Fn := ⟨2, 2, (.cons (.ret (.call 17 (.cons (.bin .Add (.bin .Mult (.idx (.var 0) (.int 0)) (.idx (.var 1) (.int 1))) (.bin .Mult (.idx (.var 1) (.int 0)) (.idx (.var 0) (.int 1)))) (.cons (.bin .Mult (.idx (.var 0) (.int 1)) (.idx (.var 1) (.int 1))) .nil)))) .nil)⟩
def f_times : Fn := ⟨2, 2, (.cons (.ret (.call 17 (.cons (.bin .Mult (.idx (.var 0) (.int 0)) (.idx (.var 1) (.int 0))) (.cons (.bin .Mult (.idx (.var 0) (.int 1)) (.idx (.var 1) (.int 1))) .nil)))) .nil)⟩
def f_quotient : Fn := ⟨2, 2, (.cons (.ret (.call 17 (.cons (.bin .Mult (.idx (.var 0) (.int 0)) (.idx (.var 1) (.int 1))) (.cons (.bin .Mult (.idx (.var 0) (.int 1)) (.idx (.var 1) (.int 0))) .nil)))) .nil)⟩
def f_size : Fn := ⟨1, 1, (.cons (.ret (.tup (.cons (.bi .abs 0 (.cons (.idx (.var 0) (.int 0)) .nil)) (.cons (.idx (.var 0) (.int 1)) .nil)))) .nil)⟩
def f_is_less : Fn := ⟨2, 2, (.cons (.ret (.cmp .Lt (.bin .Mult (.idx (.var 0) (.int 0)) (.idx (.var 1) (.int 1))) (.bin .Mult (.idx (.var 1) (.int 0)) (.idx (.var 0) (.int 1))))) .nil)⟩
def f_is_most : Fn := ⟨2, 2, (.cons (.ret (.cmp .LtE (.bin .Mult (.idx (.var 0) (.int 0)) (.idx (.var 1) (.int 1))) (.bin .Mult (.idx (.var 1) (.int 0)) (.idx (.var 0) (.int 1))))) .nil)⟩
def f_two_to : Fn := ⟨1, 1, (.cons (.ret (.ifE (.cmp .GtE (.var 0) (.int 0)) (.tup (.cons (.bin .LShift (.int 1) (.var 0)) (.cons (.int 1) .nil))) (.tup (.cons (.int 1) (.cons (.bin .LShift (.int 1) (.neg (.var 0))) .nil))))) .nil)⟩
def f_shifted : Fn := ⟨2, 2, (.cons (.ret (.call 19 (.cons (.var 0) (.cons (.call 24 (.cons (.var 1) .nil)) .nil)))) .nil)⟩
def f_exponent_of : Fn := ⟨1, 4, (.cons (.par2 1 2 (.bi .abs 0 (.cons (.idx (.var 0) (.int 0)) .nil)) (.idx (.var 0) (.int 1))) (.cons (.asg (.name 3) (.bin .Sub (.call 15 (.cons (.var 1) .nil)) (.call 15 (.cons (.var 2) .nil)))) (.cons (.ret (.ifE (.call 23 (.cons (.call 24 (.cons (.var 3) .nil)) (.cons (.tup (.cons (.var 1) (.cons (.var 2) .nil))) .nil))) (.var 3) (.bin .Sub (.var 3) (.int 1)))) .nil)))⟩
def f_value_of : Fn := ⟨1, 2, (.cons (.ifS (.cmp .Eq (.idx (.var 0) (.int 0)) (.str "nothing")) (.cons (.ret (.con 12)) .nil) .nil) (.cons (.asg (.name 1) (.call 25 (.cons (.tup (.cons (.idx (.var 0) (.int 2)) (.cons (.int 1) .nil))) (.cons (.idx (.var 0) (.int 3)) .nil)))) (.cons (.ret (.ifE (.cmp .Eq (.idx (.var 0) (.int 1)) (.int 1)) (.tup (.cons (.neg (.idx (.var 1) (.int 0))) (.cons (.idx (.var 1) (.int 1)) .nil))) (.var 1))) .nil)))⟩
def f_greatest_of : Fn := ⟨1, 1, (.cons (.ret (.tup (.cons (.str "number") (.cons (.int 0) (.cons (.bin .Sub (.bin .LShift (.int 1) (.idx (.var 0) (.int 0))) (.int 1)) (.cons (.idx (.var 0) (.int 2)) .nil)))))) .nil)⟩
def f_least_full : Fn := ⟨1, 1, (.cons (.ret (.tup (.cons (.str "number") (.cons (.int 0) (.cons (.bin .LShift (.int 1) (.bin .Sub (.idx (.var 0) (.int 0)) (.int 1))) (.cons (.idx (.var 0) (.int 1)) .nil)))))) .nil)⟩
def e_all_finite_0 : ME := (.tup (.cons (.str "number") (.cons (.int 0) (.cons (.var 6) (.cons (.var 2) .nil)))))
def e_all_finite_2 : ME := (.tup (.cons (.str "number") (.cons (.int 0) (.cons (.var 6) (.cons (.var 5) .nil)))))
def b_all_finite_1 : MSs := (.cons (.ex (.meth .extend (.var 4) (.cons (.lc false [6] e_all_finite_2 (.name 6) (.rng 9 (.cons (.bin .LShift (.int 1) (.bin .Sub (.var 1) (.int 1))) (.cons (.bin .LShift (.int 1) (.var 1)) .nil))) .none) .nil))) .nil)
def f_all_finite : Fn := ⟨1, 7, (.cons (.asg (.tup (.cons (.name 1) (.cons (.name 2) (.cons (.name 3) .nil)))) (.var 0)) (.cons (.asg (.name 4) (.madd (.lst (.cons (.tup (.cons (.str "nothing") (.cons (.int 0) .nil))) .nil)) (.lc false [6] e_all_finite_0 (.name 6) (.rng 9 (.cons (.int 1) (.cons (.bin .LShift (.int 1) (.var 1)) .nil))) .none))) (.cons (.forS (.name 5) (.rng 9 (.cons (.bin .Add (.var 2) (.int 1)) (.cons (.bin .Add (.var 3) (.int 1)) .nil))) b_all_finite_1) (.cons (.ret (.bi .tuple 11 (.cons (.var 4) .nil))) .nil))))⟩
def f_unit_at : Fn := ⟨2, 2, (.cons (.ret (.ifE (.cmp .NotEq (.idx (.var 1) (.int 0)) (.int 0)) (.bi .max 7 (.cons (.idx (.var 0) (.int 1)) (.cons (.bin .Add (.bin .Sub (.call 26 (.cons (.var 1) .nil)) (.idx (.var 0) (.int 0))) (.int 1)) .nil))) (.idx (.var 0) (.int 1)))) .nil)⟩
def f_is_representable : Fn := ⟨2, 4, (.cons (.ifS (.cmp .Eq (.idx (.var 1) (.int 0)) (.int 0)) (.cons (.ret (.bl true)) .nil) .nil) (.cons (.asg (.name 2) (.call 31 (.cons (.var 0) (.cons (.var 1) .nil)))) (.cons (.asg (.name 3) (.call 25 (.cons (.var 1) (.cons (.neg (.var 2)) .nil)))) (.cons (.ret (.and (.cmp .Eq (.idx (.var 3) (.int 1)) (.int 1)) (.one (.cmp .LtE (.var 2) (.idx (.var 0) (.int 2)))))) .nil))))⟩
def f_is_within : Fn := ⟨2, 3, (.cons (.asg (.name 2) (.call 27 (.cons (.call 28 (.cons (.var 0) .nil)) .nil))) (.cons (.ret (.and (.cmp .LtE (.idx (.var 0) (.int 0)) (.idx (.var 1) (.int 0))) (.and (.cmp .GtE (.idx (.var 0) (.int 1)) (.idx (.var 1) (.int 1))) (.one (.call 32 (.cons (.var 1) (.cons (.var 2) .nil))))))) .nil))⟩
def f_is_raised : Fn := ⟨4, 5, (.cons (.ifS (.cmp .Eq (.var 0) (.str "cut")) (.cons (.ret (.bl false)) .nil) .nil) (.cons (.ifS (.cmp .Eq (.var 0) (.str "up")) (.cons (.ret (.cmp .Eq (.var 1) (.int 0))) .nil) .nil) (.cons (.ifS (.cmp .Eq (.var 0) (.str "down")) (.cons (.ret (.cmp .Eq (.var 1) (.int 1))) .nil) .nil) (.cons (.asg (.name 4) (.bin .Mult (.int 2) (.idx (.var 3) (.int 0)))) (.cons (.ifS (.cmp .NotEq (.var 4) (.idx (.var 3) (.int 1))) (.cons (.ret (.cmp .Gt (.var 4) (.idx (.var 3) (.int 1)))) .nil) .nil) (.cons (.ret (.or (.cmp .Eq (.var 0) (.str "away")) (.one (.cmp .Eq (.bin .Mod (.var 2) (.int 2)) (.int 1))))) .nil))))))⟩
def s_rounded_0_0 : MS := (.ifS (.cmp .Eq (.idx (.var 2) (.int 0)) (.int 0)) (.cons (.ret (.tup (.cons (.tup (.cons (.str "nothing") (.cons (.var 3) .nil))) (.cons (.tup .nil) .nil)))) .nil) .nil) -- if one[0] == 0:
def s_rounded_0_1 : MS := (.asg (.name 4) (.bi .int 3 (.cons (.cmp .Lt (.idx (.var 2) (.int 0)) (.int 0)) .nil))) -- own = int(one[0] < 0)
def s_rounded_0_2 : MS := (.asg (.name 5) (.call 31 (.cons (.var 0) (.cons (.var 2) .nil)))) -- power = unit_at(form, one)
def s_rounded_0_3 : MS := (.asg (.tup (.cons (.name 6) (.cons (.name 7) .nil))) (.call 21 (.cons (.call 25 (.cons (.var 2) (.cons (.neg (.var 5)) .nil))) .nil))) -- upper, lower = size(shifted(one, -power))
def s_rounded_0_4 : MS := (.par2 8 9 (.bin .FloorDiv (.var 6) (.var 7)) (.bin .Mod (.var 6) (.var 7))) -- whole, rest = (upper // lower, upper % lower)
def s_rounded_0_5 : MS := (.asg (.name 10) (.call 36 (.cons (.var 0) (.cons (.var 2) (.cons (.var 9) .nil))))) -- marks = marks_of(form, one, rest)
def s_rounded_0_6 : MS := (.ifS (.and (.cmp .Gt (.var 9) (.int 0)) (.one (.call 34 (.cons (.var 1) (.cons (.var 4) (.cons (.var 8) (.cons (.tup (.cons (.var 9) (.cons (.var 7) .nil))) .nil))))))) (.cons (.aug 8 .Add (.int 1)) .nil) .nil) -- if rest > 0 and is_raised(way, own, whole, (rest, lower)):
def s_rounded_0_7 : MS := (.ifS (.cmp .Eq (.var 8) (.bin .LShift (.int 1) (.idx (.var 0) (.int 0)))) (.cons (.par2 8 5 (.bin .FloorDiv (.var 8) (.int 2)) (.bin .Add (.var 5) (.int 1))) .nil) .nil) -- if whole == 1 << form[0]:
def s_rounded_0_8 : MS := (.ifS (.cmp .Gt (.var 5) (.idx (.var 0) (.int 2))) (.cons (.ret (.tup (.cons (.call 37 (.cons (.var 0) (.cons (.var 1) (.cons (.var 4) .nil)))) (.cons (.tup (.cons (.str "inexact") (.cons (.str "overflow") .nil))) .nil)))) .nil) .nil) -- if power > form[2]:
def s_rounded_0_9 : MS := (.ifS (.cmp .Eq (.var 8) (.int 0)) (.cons (.ret (.tup (.cons (.tup (.cons (.str "nothing") (.cons (.var 4) .nil))) (.cons (.var 10) .nil)))) .nil) .nil) -- if whole == 0:
def s_rounded_0_10 : MS := (.ret (.tup (.cons (.tup (.cons (.str "number") (.cons (.var 4) (.cons (.var 8) (.cons (.var 5) .nil))))) (.cons (.var 10) .nil)))) -- return (('number', own, whole, power), marks)
def f_rounded : Fn := ⟨4, 11, (.cons s_rounded_0_0 (.cons s_rounded_0_1 (.cons s_rounded_0_2 (.cons s_rounded_0_3 (.cons s_rounded_0_4 (.cons s_rounded_0_5 (.cons s_rounded_0_6 (.cons s_rounded_0_7 (.cons s_rounded_0_8 (.cons s_rounded_0_9 (.cons s_rounded_0_10 .nil)))))))))))⟩
def f_marks_of : Fn := ⟨3, 4, (.cons (.ifS (.cmp .Eq (.var 2) (.int 0)) (.cons (.ret (.tup .nil)) .nil) .nil) (.cons (.asg (.name 3) (.call 22 (.cons (.call 21 (.cons (.var 1) .nil)) (.cons (.call 27 (.cons (.call 29 (.cons (.var 0) .nil)) .nil)) .nil)))) (.cons (.ret (.ifE (.var 3) (.tup (.cons (.str "inexact") (.cons (.str "underflow") .nil))) (.tup (.cons (.str "inexact") .nil)))) .nil)))⟩
def f_beyond : Fn := ⟨3, 3, (.cons (.ifS (.or (.cmp .In (.var 1) (.tup (.cons (.str "even") (.cons (.str "away") .nil)))) (.or (.and (.cmp .Eq (.var 1) (.str "up")) (.one (.cmp .Eq (.var 2) (.int 0)))) (.one (.and (.cmp .Eq (.var 1) (.str "down")) (.one (.cmp .Eq (.var 2) (.int 1))))))) (.cons (.ret (.tup (.cons (.str "endless") (.cons (.var 2) .nil)))) .nil) .nil) (.cons (.ret (.bin .Add (.bin .Add (.sl (.call 28 (.cons (.var 0) .nil)) .none (.some (.int 1))) (.tup (.cons (.var 2) .nil))) (.sl (.call 28 (.cons (.var 0) .nil)) (.some (.int 2)) .none))) .nil))⟩
def f_sign_when_nothing : Fn := ⟨3, 3, (.cons (.ifS (.cmp .Eq (.var 1) (.var 2)) (.cons (.ret (.var 1)) .nil) .nil) (.cons (.ret (.bi .int 3 (.cons (.cmp .Eq (.var 0) (.str "down")) .nil))) .nil))⟩
def f_plus : Fn := ⟨4, 5, (.cons (.ifS (.or (.cmp .Eq (.var 2) (.con 13)) (.one (.cmp .Eq (.var 3) (.con 13)))) (.cons (.ret (.tup (.cons (.con 13) (.cons (.tup .nil) .nil)))) .nil) .nil) (.cons (.ifS (.or (.cmp .Eq (.idx (.var 2) (.int 0)) (.str "endless")) (.one (.cmp .Eq (.idx (.var 3) (.int 0)) (.str "endless")))) (.cons (.ifS (.cmp .Eq (.idx (.var 2) (.int 0)) (.idx (.var 3) (.int 0))) (.cons (.ret (.ifE (.cmp .Eq (.idx (.var 2) (.int 1)) (.idx (.var 3) (.int 1))) (.tup (.cons (.var 2) (.cons (.tup .nil) .nil))) (.con 14))) .nil) .nil) (.cons (.ret (.tup (.cons (.ifE (.cmp .Eq (.idx (.var 2) (.int 0)) (.str "endless")) (.var 2) (.var 3)) (.cons (.tup .nil) .nil)))) .nil)) .nil) (.cons (.asg (.name 4) (.call 18 (.cons (.call 27 (.cons (.var 2) .nil)) (.cons (.call 27 (.cons (.var 3) .nil)) .nil)))) (.cons (.ret (.call 35 (.cons (.var 0) (.cons (.var 1) (.cons (.var 4) (.cons (.call 38 (.cons (.var 1) (.cons (.idx (.var 2) (.int 1)) (.cons (.idx (.var 3) (.int 1)) .nil)))) .nil)))))) .nil))))⟩
def f_product : Fn := ⟨4, 5, (.cons (.ifS (.or (.cmp .Eq (.var 2) (.con 13)) (.one (.cmp .Eq (.var 3) (.con 13)))) (.cons (.ret (.tup (.cons (.con 13) (.cons (.tup .nil) .nil)))) .nil) .nil) (.cons (.asg (.name 4) (.bin .Mod (.bin .Add (.idx (.var 2) (.int 1)) (.idx (.var 3) (.int 1))) (.int 2))) (.cons (.ifS (.or (.cmp .Eq (.idx (.var 2) (.int 0)) (.str "endless")) (.one (.cmp .Eq (.idx (.var 3) (.int 0)) (.str "endless")))) (.cons (.ret (.ifE (.cmp .In (.str "nothing") (.tup (.cons (.idx (.var 2) (.int 0)) (.cons (.idx (.var 3) (.int 0)) .nil)))) (.con 14) (.tup (.cons (.tup (.cons (.str "endless") (.cons (.var 4) .nil))) (.cons (.tup .nil) .nil))))) .nil) .nil) (.cons (.ret (.call 35 (.cons (.var 0) (.cons (.var 1) (.cons (.call 19 (.cons (.call 27 (.cons (.var 2) .nil)) (.cons (.call 27 (.cons (.var 3) .nil)) .nil))) (.cons (.var 4) .nil)))))) .nil))))⟩
def s_over_0_0 : MS := (.ifS (.or (.cmp .Eq (.var 2) (.con 13)) (.one (.cmp .Eq (.var 3) (.con 13)))) (.cons (.ret (.tup (.cons (.con 13) (.cons (.tup .nil) .nil)))) .nil) .nil) -- if one == NONE or other == NONE:
def s_over_0_1 : MS := (.asg (.name 4) (.bin .Mod (.bin .Add (.idx (.var 2) (.int 1)) (.idx (.var 3) (.int 1))) (.int 2))) -- sign = (one[1] + other[1]) % 2
def s_over_0_2 : MS := (.ifS (.and (.cmp .Eq (.idx (.var 2) (.int 0)) (.idx (.var 3) (.int 0))) (.one (.cmp .In (.idx (.var 2) (.int 0)) (.tup (.cons (.str "endless") (.cons (.str "nothing") .nil)))))) (.cons (.ret (.con 14)) .nil) .nil) -- if one[0] == other[0] and one[0] in ('endless', 'nothing'):
def s_over_0_3 : MS := (.ifS (.cmp .Eq (.idx (.var 2) (.int 0)) (.str "endless")) (.cons (.ret (.tup (.cons (.tup (.cons (.str "endless") (.cons (.var 4) .nil))) (.cons (.tup .nil) .nil)))) .nil) .nil) -- if one[0] == 'endless':
def s_over_0_4 : MS := (.ifS (.cmp .Eq (.idx (.var 3) (.int 0)) (.str "endless")) (.cons (.ret (.tup (.cons (.tup (.cons (.str "nothing") (.cons (.var 4) .nil))) (.cons (.tup .nil) .nil)))) .nil) .nil) -- if other[0] == 'endless':
def s_over_0_5 : MS := (.ifS (.cmp .Eq (.idx (.var 3) (.int 0)) (.str "nothing")) (.cons (.ret (.tup (.cons (.tup (.cons (.str "endless") (.cons (.var 4) .nil))) (.cons (.tup (.cons (.str "division") .nil)) .nil)))) .nil) .nil) -- if other[0] == 'nothing':
def s_over_0_6 : MS := (.ret (.call 35 (.cons (.var 0) (.cons (.var 1) (.cons (.call 20 (.cons (.call 27 (.cons (.var 2) .nil)) (.cons (.call 27 (.cons (.var 3) .nil)) .nil))) (.cons (.var 4) .nil)))))) -- return rounded(form, way, quotient(value_of(one), value_of(other)), sign)
def f_over : Fn := ⟨4, 5, (.cons s_over_0_0 (.cons s_over_0_1 (.cons s_over_0_2 (.cons s_over_0_3 (.cons s_over_0_4 (.cons s_over_0_5 (.cons s_over_0_6 .nil)))))))⟩
def c_root_parts_0 : ME := (.cmp .LtE (.bin .Mult (.var 2) (.var 2)) (.var 0))
def b_root_parts_0 : MSs := (.cons (.aug 2 .Mult (.int 2)) .nil)
def c_root_parts_1 : ME := (.cmp .Lt (.bin .Add (.var 1) (.int 1)) (.var 2))
def b_root_parts_1 : MSs := (.cons (.asg (.name 3) (.bin .FloorDiv (.bin .Add (.var 1) (.var 2)) (.int 2))) (.cons (.ifS (.cmp .LtE (.bin .Mult (.var 3) (.var 3)) (.var 0)) (.cons (.asg (.name 1) (.var 3)) .nil) (.cons (.asg (.name 2) (.var 3)) .nil)) .nil))
def f_root_parts : Fn := ⟨1, 4, (.cons (.asg (.tup (.cons (.name 1) (.cons (.name 2) .nil))) (.tup (.cons (.int 0) (.cons (.int 1) .nil)))) (.cons (.whl c_root_parts_0 b_root_parts_0) (.cons (.whl c_root_parts_1 b_root_parts_1) (.cons (.ret (.tup (.cons (.var 1) (.cons (.cmp .Eq (.bin .Mult (.var 1) (.var 1)) (.var 0)) .nil)))) .nil))))⟩
def s_root_0_0 : MS := (.ifS (.or (.cmp .Eq (.var 2) (.con 13)) (.or (.cmp .Eq (.idx (.var 2) (.int 0)) (.str "nothing")) (.one (.cmp .Eq (.var 2) (.tup (.cons (.str "endless") (.cons (.int 0) .nil))))))) (.cons (.ret (.tup (.cons (.var 2) (.cons (.tup .nil) .nil)))) .nil) .nil) -- if one == NONE or one[0] == 'nothing' or one == ('endless', 0):
def s_root_0_1 : MS := (.ifS (.cmp .Eq (.idx (.var 2) (.int 1)) (.int 1)) (.cons (.ret (.con 14)) .nil) .nil) -- if one[1] == 1:
def s_root_0_2 : MS := (.asg (.tup (.cons (.name 3) (.cons (.name 3) (.cons (.name 4) (.cons (.name 5) .nil))))) (.var 2)) -- _, _, whole, power = one
def s_root_0_3 : MS := (.ifS (.cmp .Eq (.bin .Mod (.var 5) (.int 2)) (.int 1)) (.cons (.par2 4 5 (.bin .Mult (.int 2) (.var 4)) (.bin .Sub (.var 5) (.int 1))) .nil) .nil) -- if power % 2 == 1:
def s_root_0_4 : MS := (.asg (.name 6) (.bin .Add (.bin .Mult (.int 2) (.idx (.var 0) (.int 0))) (.int 4))) -- more = 2 * form[0] + 4
def s_root_0_5 : MS := (.asg (.tup (.cons (.name 7) (.cons (.name 8) .nil))) (.call 42 (.cons (.bin .LShift (.var 4) (.bin .Mult (.int 2) (.var 6))) .nil))) -- found, is_whole = root_parts(whole << 2 * more)
def s_root_0_6 : MS := (.asg (.name 9) (.bin .Add (.bin .Mult (.int 2) (.var 7)) (.bi .int 3 (.cons (.not (.var 8)) .nil)))) -- half = 2 * found + int(not is_whole)
def s_root_0_7 : MS := (.ret (.call 35 (.cons (.var 0) (.cons (.var 1) (.cons (.call 25 (.cons (.tup (.cons (.var 9) (.cons (.int 1) .nil))) (.cons (.bin .Sub (.bin .Sub (.bin .FloorDiv (.var 5) (.int 2)) (.var 6)) (.int 1)) .nil))) (.cons (.int 0) .nil)))))) -- return rounded(form, way, shifted((half, 1), power // 2 - more - 1), 0)
def f_root : Fn := ⟨3, 10, (.cons s_root_0_0 (.cons s_root_0_1 (.cons s_root_0_2 (.cons s_root_0_3 (.cons s_root_0_4 (.cons s_root_0_5 (.cons s_root_0_6 (.cons s_root_0_7 .nil))))))))⟩
def f_converted : Fn := ⟨3, 3, (.cons (.ifS (.cmp .NotEq (.idx (.var 2) (.int 0)) (.str "number")) (.cons (.ret (.tup (.cons (.var 2) (.cons (.tup .nil) .nil)))) .nil) .nil) (.cons (.ret (.call 35 (.cons (.var 0) (.cons (.var 1) (.cons (.call 27 (.cons (.var 2) .nil)) (.cons (.idx (.var 2) (.int 1)) .nil)))))) .nil))⟩
def f_rounded_twice : Fn := ⟨4, 4, (.cons (.ret (.idx (.call 44 (.cons (.var 0) (.cons (.var 2) (.cons (.idx (.call 35 (.cons (.var 1) (.cons (.var 2) (.cons (.var 3) (.cons (.int 0) .nil))))) (.int 0)) .nil)))) (.int 0))) .nil)⟩
def f_is_unlike : Fn := ⟨4, 4, (.cons (.ret (.cmp .NotEq (.call 45 (.cons (.var 0) (.cons (.var 1) (.cons (.var 2) (.cons (.var 3) .nil))))) (.idx (.call 35 (.cons (.var 0) (.cons (.var 2) (.cons (.var 3) (.cons (.int 0) .nil))))) (.int 0)))) .nil)⟩
def f_is_harmless : Fn := ⟨2, 2, (.cons (.ret (.and (.call 33 (.cons (.var 0) (.cons (.var 1) .nil))) (.and (.cmp .GtE (.idx (.var 1) (.int 0)) (.bin .Add (.bin .Mult (.int 2) (.idx (.var 0) (.int 0))) (.int 2))) (.one (.call 48 (.cons (.var 0) (.cons (.var 1) .nil))))))) .nil)⟩
def f_has_room : Fn := ⟨2, 4, (.cons (.asg (.name 2) (.bin .Add (.idx (.var 0) (.int 2)) (.idx (.var 0) (.int 0)))) (.cons (.asg (.name 3) (.bin .Sub (.bi .min 8 (.cons (.bin .Mult (.int 2) (.idx (.var 0) (.int 1))) (.cons (.bin .Sub (.idx (.var 0) (.int 1)) (.var 2)) .nil))) (.idx (.var 1) (.int 0)))) (.cons (.ret (.and (.cmp .LtE (.idx (.var 1) (.int 1)) (.var 3)) (.one (.cmp .GtE (.idx (.var 1) (.int 2)) (.bi .max 7 (.cons (.bin .Mult (.int 2) (.var 2)) (.cons (.bin .Sub (.var 2) (.idx (.var 0) (.int 1))) .nil))))))) .nil)))⟩
def f_done_in : Fn := ⟨5, 5, (.cons (.ifS (.cmp .Eq (.var 1) (.str "plus")) (.cons (.ret (.idx (.call 39 (.cons (.var 0) (.cons (.var 2) (.cons (.var 3) (.cons (.var 4) .nil))))) (.int 0))) .nil) .nil) (.cons (.ifS (.cmp .Eq (.var 1) (.str "product")) (.cons (.ret (.idx (.call 40 (.cons (.var 0) (.cons (.var 2) (.cons (.var 3) (.cons (.var 4) .nil))))) (.int 0))) .nil) .nil) (.cons (.ret (.ifE (.cmp .Eq (.var 1) (.str "over")) (.idx (.call 41 (.cons (.var 0) (.cons (.var 2) (.cons (.var 3) (.cons (.var 4) .nil))))) (.int 0)) (.idx (.call 43 (.cons (.var 0) (.cons (.var 2) (.cons (.var 3) .nil)))) (.int 0)))) .nil)))⟩
def f_done_twice : Fn := ⟨6, 6, (.cons (.ret (.idx (.call 44 (.cons (.var 0) (.cons (.var 3) (.cons (.call 49 (.cons (.var 1) (.cons (.var 2) (.cons (.var 3) (.cons (.var 4) (.cons (.var 5) .nil)))))) .nil)))) (.int 0))) .nil)⟩
def b_first_unlike_1 : MSs := (.cons (.ifS (.cmp .NotEq (.call 50 (.cons (.var 0) (.cons (.var 1) (.cons (.var 2) (.cons (.var 3) (.cons (.var 5) (.cons (.var 6) .nil))))))) (.call 49 (.cons (.var 0) (.cons (.var 2) (.cons (.var 3) (.cons (.var 5) (.cons (.var 6) .nil))))))) (.cons (.ret (.tup (.cons (.var 5) (.cons (.var 6) .nil)))) .nil) .nil) .nil)
def b_first_unlike_0 : MSs := (.cons (.forS (.name 6) (.seq (.var 4)) b_first_unlike_1) .nil)
def f_first_unlike : Fn := ⟨4, 7, (.cons (.asg (.name 4) (.call 30 (.cons (.var 0) .nil))) (.cons (.forS (.name 5) (.seq (.var 4)) b_first_unlike_0) (.cons (.ret .non) .nil)))⟩
def b__law_draws_1 : MSs := (.cons (.ifS (.cmp .Gt (.var 6) (.int 0)) (.cons (.ex (.meth .append (.var 2) (.cons (.bin .Mod (.bi .int 3 (.cons (.var 6) .nil)) (.int 997)) .nil))) (.cons (.asg (.name 6) (.bin .FloorDiv (.var 6) (.int 997))) .nil)) .nil) .nil)
def b__law_draws_0 : MSs := (.cons (.asg (.name 5) (.bi .abs 0 (.cons (.bi .int 3 (.cons (.idx (.var 0) (.var 4)) .nil)) .nil))) (.cons (.asg (.name 3) (.bin .Mod (.bi .int 3 (.cons (.bin .Add (.bin .Add (.bin .Mult (.var 3) (.int 48271)) (.bin .Mod (.var 5) (.int 1000003))) (.var 4)) .nil)) (.int 65537))) (.cons (.asg (.name 6) (.int 0)) (.cons (.ifS (.cmp .GtE (.var 5) (.bin .Pow (.int 10) (.int 18))) (.cons (.asg (.name 6) (.var 5)) .nil) (.cons (.ex (.meth .append (.var 2) (.cons (.bin .Mod (.bi .int 3 (.cons (.var 5) .nil)) (.int 997)) .nil))) (.cons (.ex (.meth .append (.var 2) (.cons (.bin .Mod (.bin .Mod (.bi .int 3 (.cons (.bin .Add (.bin .Mult (.var 3) (.int 69621)) (.int 5)) .nil)) (.int 65521)) (.int 997)) .nil))) .nil))) (.cons (.forS (.name 7) (.rng 9 (.cons (.int 60) .nil)) b__law_draws_1) .nil)))))
def b__law_draws_2 : MSs := (.cons (.asg (.name 3) (.bin .Mod (.bi .int 3 (.cons (.bin .Add (.bin .Add (.bin .Mult (.var 3) (.int 16807)) (.var 4)) (.int 1)) .nil)) (.int 65537))) (.cons (.ex (.meth .append (.var 2) (.cons (.bin .Mod (.bi .int 3 (.cons (.var 3) .nil)) (.int 997)) .nil))) .nil))
def f__law_draws : Fn := ⟨2, 8, (.cons (.asg (.name 2) (.mlst .nil)) (.cons (.asg (.name 3) (.int 7)) (.cons (.forS (.name 4) (.rng 9 (.cons (.bi .len 5 (.cons (.var 0) .nil)) .nil)) b__law_draws_0) (.cons (.forS (.name 4) (.rng 9 (.cons (.var 1) .nil)) b__law_draws_2) (.cons (.ret (.sl (.var 2) .none (.some (.var 1)))) .nil)))))⟩
def f__law_next : Fn := ⟨2, 2, (.cons (.augI (.var 0) (.str "at") .Add (.int 1)) (.cons (.ifS (.cmp .Gt (.idx (.var 0) (.str "at")) (.bi .len 5 (.cons (.idx (.var 0) (.str "draws")) .nil))) (.cons (.ret (.int 0)) .nil) .nil) (.cons (.ret (.bin .Mod (.bi .int 3 (.cons (.idx (.idx (.var 0) (.str "draws")) (.bin .Sub (.idx (.var 0) (.str "at")) (.int 1))) .nil)) (.var 1))) .nil)))⟩
def f__law_pick : Fn := ⟨2, 2, (.cons (.ret (.idx (.var 1) (.call 53 (.cons (.var 0) (.cons (.bi .len 5 (.cons (.var 1) .nil)) .nil))))) .nil)⟩
def e__law_same_1 : ME := (.var 6)
def k__law_same_1 : MO := (.some (.cmp .NotIn (.var 6) (.var 3)))
def e__law_same_2 : ME := (.tup (.cons (.idx (.var 3) (.var 6)) (.cons (.idx (.var 4) (.var 6)) .nil)))
def e__law_same_3 : ME := (.tup (.cons (.idx (.var 5) (.var 6)) (.cons (.var 6) .nil)))
def e__law_same_4 : ME := (.tup (.cons (.idx (.var 3) (.var 7)) (.cons (.idx (.var 4) (.var 7)) .nil)))
def c__law_same_0 : ME := (.cmp .NotEq (.var 2) (.lst .nil))
def b__law_same_0 : MSs := (.cons (.asg (.tup (.cons (.name 3) (.cons (.name 4) .nil))) (.meth .pop (.var 2) .nil)) (.cons (.ifS (.isI 4 2 "dict" (.var 4)) (.cons (.ifS (.or (.not (.isI 4 2 "dict" (.var 3))) (.or (.cmp .NotEq (.bi .len 5 (.cons (.var 3) .nil)) (.bi .len 5 (.cons (.var 4) .nil))) (.one (.cmp .NotEq (.lc false [6] e__law_same_1 (.name 6) (.seq (.var 4)) k__law_same_1) (.lst .nil))))) (.cons (.ret (.bl false)) .nil) .nil) (.cons .nev (.cons (.ex (.meth .extend (.var 2) (.cons (.bin .Add (.lc false [6] e__law_same_2 (.name 6) (.seq (.var 4)) .none) (.lc false [6] e__law_same_3 (.name 6) (.seq (.var 4)) .none)) .nil))) .nil))) (.cons (.ifS (.or (.isI 4 11 "tuple" (.var 4)) (.one (.isI 4 6 "list" (.var 4)))) (.cons (.ifS (.or (.cmp .NotEq (.isI 4 11 "tuple" (.var 3)) (.isI 4 11 "tuple" (.var 4))) (.or (.cmp .NotEq (.isI 4 6 "list" (.var 3)) (.isI 4 6 "list" (.var 4))) (.one (.cmp .NotEq (.bi .len 5 (.cons (.var 3) .nil)) (.bi .len 5 (.cons (.var 4) .nil)))))) (.cons (.ret (.bl false)) .nil) .nil) (.cons (.ex (.meth .extend (.var 2) (.cons (.lc false [7] e__law_same_4 (.name 7) (.rng 9 (.cons (.bi .len 5 (.cons (.var 4) .nil)) .nil)) .none) .nil))) .nil)) (.cons (.ifS (.or (.cmp .NotEq (.isI 4 1 "bool" (.var 3)) (.isI 4 1 "bool" (.var 4))) (.or (.cmp .NotEq (.isI 4 3 "int" (.var 3)) (.isI 4 3 "int" (.var 4))) (.or (.cmp .NotEq (.isI 4 10 "str" (.var 3)) (.isI 4 10 "str" (.var 4))) (.one (.cmp .NotEq (.var 3) (.var 4)))))) (.cons (.ret (.bl false)) .nil) .nil) .nil)) .nil)) .nil))
def f__law_same : Fn := ⟨2, 8, (.cons (.asg (.name 2) (.mlst (.cons (.tup (.cons (.var 0) (.cons (.var 1) .nil))) .nil))) (.cons (.whl c__law_same_0 b__law_same_0) (.cons (.ret (.bl true)) .nil)))⟩
def c__law_least_0 : ME := (.cmp .Gt (.var 3) (.int 0))
def b__law_least_0 : MSs := (.cons (.par2 2 3 (.var 3) (.bin .Mod (.bi .int 3 (.cons (.var 2) .nil)) (.var 3))) .nil)
def f__law_least : Fn := ⟨2, 4, (.cons (.par2 2 3 (.bi .abs 0 (.cons (.var 0) .nil)) (.bi .abs 0 (.cons (.var 1) .nil))) (.cons (.whl c__law_least_0 b__law_least_0) (.cons (.asg (.name 2) (.ifE (.cmp .Gt (.var 1) (.int 0)) (.var 2) (.bin .Sub (.int 0) (.var 2)))) (.cons (.ret (.tup (.cons (.bin .FloorDiv (.var 0) (.var 2)) (.cons (.bin .FloorDiv (.var 1) (.var 2)) .nil)))) .nil))))⟩
def e__law_fin_0 : ME := (.tup (.cons (.str "number") (.cons (.int 0) (.cons (.var 6) (.cons (.var 2) .nil)))))
def e__law_fin_2 : ME := (.tup (.cons (.str "number") (.cons (.int 0) (.cons (.var 6) (.cons (.var 5) .nil)))))
def b__law_fin_1 : MSs := (.cons (.asg (.name 4) (.bin .Add (.var 4) (.lc false [6] e__law_fin_2 (.name 6) (.rng 9 (.cons (.bin .LShift (.int 1) (.bin .Sub (.var 1) (.int 1))) (.cons (.bin .LShift (.int 1) (.var 1)) .nil))) .none))) .nil)
def f__law_fin : Fn := ⟨1, 7, (.cons (.asg (.tup (.cons (.name 1) (.cons (.name 2) (.cons (.name 3) .nil)))) (.var 0)) (.cons (.asg (.name 4) (.bin .Add (.lst (.cons (.tup (.cons (.str "nothing") (.cons (.int 0) .nil))) .nil)) (.lc false [6] e__law_fin_0 (.name 6) (.rng 9 (.cons (.int 1) (.cons (.bin .LShift (.int 1) (.var 1)) .nil))) .none))) (.cons (.forS (.name 5) (.rng 9 (.cons (.bin .Add (.var 2) (.int 1)) (.cons (.bin .Add (.var 3) (.int 1)) .nil))) b__law_fin_1) (.cons (.ret (.var 4)) .nil))))⟩
def f__law_val : Fn := ⟨1, 2, (.cons (.ifS (.cmp .Eq (.idx (.var 0) (.int 0)) (.str "nothing")) (.cons (.ret (.tup (.cons (.int 0) (.cons (.int 1) .nil)))) .nil) .nil) (.cons (.asg (.name 1) (.bin .Sub (.int 1) (.bin .Mult (.int 2) (.idx (.var 0) (.int 1))))) (.cons (.ret (.ifE (.cmp .GtE (.idx (.var 0) (.int 3)) (.int 0)) (.call 56 (.cons (.bin .LShift (.bin .Mult (.var 1) (.idx (.var 0) (.int 2))) (.idx (.var 0) (.int 3))) (.cons (.int 1) .nil))) (.call 56 (.cons (.bin .Mult (.var 1) (.idx (.var 0) (.int 2))) (.cons (.bin .LShift (.int 1) (.bin .Sub (.int 0) (.idx (.var 0) (.int 3)))) .nil))))) .nil)))⟩
def s__law_round_0_0 : MS := (.ifS (.cmp .Eq (.idx (.var 2) (.int 0)) (.int 0)) (.cons (.ret (.tup (.cons (.tup (.cons (.str "nothing") (.cons (.var 3) .nil))) (.cons (.tup .nil) .nil)))) .nil) .nil) -- if one[0] == 0:
def s__law_round_0_1 : MS := (.par2 4 5 (.bi .int 3 (.cons (.cmp .Lt (.idx (.var 2) (.int 0)) (.int 0)) .nil)) (.call 57 (.cons (.var 0) .nil))) -- own, rows = (int(one[0] < 0), _law_fin(form))
def s__law_round_0_2 : MS := (.asg (.tup (.cons (.name 6) (.cons (.name 7) .nil))) (.tup (.cons (.bi .max 7 (.cons (.idx (.var 2) (.int 0)) (.cons (.bin .Sub (.int 0) (.idx (.var 2) (.int 0))) .nil))) (.cons (.idx (.var 2) (.int 1)) .nil)))) -- a, b = (max(one[0], 0 - one[0]), one[1])
def e__law_round_1 : ME := (.call 58 (.cons (.var 19) .nil))
def s__law_round_0_3 : MS := (.asg (.name 8) (.lc false [19] e__law_round_1 (.name 19) (.seq (.var 5)) .none)) -- values = [_law_val(number) for number in rows]
def e__law_round_2 : ME := (.var 20)
def k__law_round_2 : MO := (.some (.cmp .LtE (.bin .Mult (.idx (.idx (.var 8) (.var 20)) (.int 0)) (.var 7)) (.bin .Mult (.var 6) (.idx (.idx (.var 8) (.var 20)) (.int 1)))))
def s__law_round_0_4 : MS := (.asg (.name 9) (.bi .max 7 (.cons (.lc false [20] e__law_round_2 (.name 20) (.rng 9 (.cons (.bi .len 5 (.cons (.var 5) .nil)) .nil)) k__law_round_2) .nil))) -- low = max([k for k in range(len(rows)) if values[k][0] * b <= a * values[k][1]])
def s__law_round_0_5 : MS := (.ifS (.cmp .Eq (.bin .Mult (.idx (.idx (.var 8) (.var 9)) (.int 0)) (.var 7)) (.bin .Mult (.var 6) (.idx (.idx (.var 8) (.var 9)) (.int 1)))) (.cons (.asg (.name 10) (.idx (.var 5) (.var 9))) (.cons (.ret (.tup (.cons (.bin .Add (.bin .Add (.sl (.var 10) .none (.some (.int 1))) (.tup (.cons (.var 4) .nil))) (.sl (.var 10) (.some (.int 2)) .none)) (.cons (.tup .nil) .nil)))) .nil)) .nil) -- if values[low][0] * b == a * values[low][1]:
def s__law_round_0_6 : MS := (.asg (.name 11) (.bin .Add (.idx (.var 0) (.int 0)) (.idx (.var 0) (.int 2)))) -- top = form[0] + form[2]
def s__law_round_0_7 : MS := (.asg (.name 12) (.call 56 (.cons (.bin .LShift (.int 1) (.bi .max 7 (.cons (.int 0) (.cons (.var 11) .nil)))) (.cons (.bin .LShift (.int 1) (.bi .max 7 (.cons (.int 0) (.cons (.bin .Sub (.int 0) (.var 11)) .nil)))) .nil)))) -- beyond_v = _law_least(1 << max(0, top), 1 << max(0, 0 - top))
def s__law_round_0_8 : MS := (.asg (.name 13) (.ifE (.cmp .Lt (.bin .Add (.var 9) (.int 1)) (.bi .len 5 (.cons (.var 5) .nil))) (.idx (.var 8) (.bin .Add (.var 9) (.int 1))) (.var 12))) -- above = values[low + 1] if low + 1 < len(rows) else beyond_v
def s__law_round_0_9 : MS := (.asg (.name 14) (.tup (.cons (.bin .Mult (.bin .Mult (.bin .Mult (.int 2) (.var 6)) (.idx (.var 13) (.int 1))) (.idx (.idx (.var 8) (.var 9)) (.int 1))) (.cons (.bin .Mult (.var 7) (.bin .Add (.bin .Mult (.idx (.var 13) (.int 0)) (.idx (.idx (.var 8) (.var 9)) (.int 1))) (.bin .Mult (.idx (.idx (.var 8) (.var 9)) (.int 0)) (.idx (.var 13) (.int 1))))) .nil)))) -- first = (2 * a * above[1] * values[low][1], b * (above[0] * values[low][1] + values[low][0] * above[1]))
def s__law_round_0_10 : MS := (.asg (.name 15) (.or (.cmp .Eq (.idx (.idx (.var 5) (.var 9)) (.int 0)) (.str "nothing")) (.one (.cmp .Eq (.bin .Mod (.bi .int 3 (.cons (.idx (.idx (.var 5) (.var 9)) (.int 2)) .nil)) (.int 2)) (.int 0))))) -- even = rows[low][0] == 'nothing' or int(rows[low][2]) % 2 == 0
def s__law_round_0_11 : MS := (.ifS (.cmp .In (.var 1) (.tup (.cons (.str "even") (.cons (.str "away") .nil)))) (.cons (.asg (.name 16) (.or (.cmp .Gt (.idx (.var 14) (.int 0)) (.idx (.var 14) (.int 1))) (.one (.and (.cmp .Eq (.idx (.var 14) (.int 0)) (.idx (.var 14) (.int 1))) (.one (.or (.cmp .Eq (.var 1) (.str "away")) (.one (.not (.var 15))))))))) .nil) (.cons (.asg (.name 16) (.or (.and (.cmp .Eq (.var 1) (.str "up")) (.one (.cmp .Eq (.var 4) (.int 0)))) (.one (.and (.cmp .Eq (.var 1) (.str "down")) (.one (.cmp .Eq (.var 4) (.int 1))))))) .nil)) -- if way in ('even', 'away'):
def s__law_round_0_12 : MS := (.asg (.name 17) (.call 58 (.cons (.tup (.cons (.str "number") (.cons (.int 0) (.cons (.bin .LShift (.int 1) (.bin .Sub (.idx (.var 0) (.int 0)) (.int 1))) (.cons (.idx (.var 0) (.int 1)) .nil))))) .nil))) -- small = _law_val(('number', 0, 1 << form[0] - 1, form[1]))
def s__law_round_0_13 : MS := (.asg (.name 18) (.ifE (.cmp .Lt (.bin .Mult (.var 6) (.idx (.var 17) (.int 1))) (.bin .Mult (.idx (.var 17) (.int 0)) (.var 7))) (.tup (.cons (.str "inexact") (.cons (.str "underflow") .nil))) (.tup (.cons (.str "inexact") .nil)))) -- marks = ('inexact', 'underflow') if a * small[1] < small[0] * b else ('inexact',)
def s__law_round_0_14 : MS := (.ifS (.and (.cmp .Eq (.bin .Add (.var 9) (.int 1)) (.bi .len 5 (.cons (.var 5) .nil))) (.one (.or (.var 16) (.one (.cmp .GtE (.bin .Mult (.var 6) (.idx (.var 12) (.int 1))) (.bin .Mult (.idx (.var 12) (.int 0)) (.var 7))))))) (.cons (.ret (.tup (.cons (.ifE (.or (.var 16) (.one (.cmp .In (.var 1) (.tup (.cons (.str "even") (.cons (.str "away") .nil)))))) (.tup (.cons (.str "endless") (.cons (.var 4) .nil))) (.bin .Add (.bin .Add (.sl (.idx (.var 5) (.var 9)) .none (.some (.int 1))) (.tup (.cons (.var 4) .nil))) (.sl (.idx (.var 5) (.var 9)) (.some (.int 2)) .none))) (.cons (.tup (.cons (.str "inexact") (.cons (.str "overflow") .nil))) .nil)))) .nil) .nil) -- if low + 1 == len(rows) and (up or a * beyond_v[1] >= beyond_v[0] * b):
def s__law_round_0_15 : MS := (.asg (.name 10) (.ifE (.var 16) (.idx (.var 5) (.bin .Add (.var 9) (.int 1))) (.idx (.var 5) (.var 9)))) -- found = rows[low + 1] if up else rows[low]
def s__law_round_0_16 : MS := (.ret (.tup (.cons (.bin .Add (.bin .Add (.sl (.var 10) .none (.some (.int 1))) (.tup (.cons (.var 4) .nil))) (.sl (.var 10) (.some (.int 2)) .none)) (.cons (.var 18) .nil)))) -- return (found[:1] + (own,) + found[2:], marks)
def f__law_round : Fn := ⟨4, 21, (.cons s__law_round_0_0 (.cons s__law_round_0_1 (.cons s__law_round_0_2 (.cons s__law_round_0_3 (.cons s__law_round_0_4 (.cons s__law_round_0_5 (.cons s__law_round_0_6 (.cons s__law_round_0_7 (.cons s__law_round_0_8 (.cons s__law_round_0_9 (.cons s__law_round_0_10 (.cons s__law_round_0_11 (.cons s__law_round_0_12 (.cons s__law_round_0_13 (.cons s__law_round_0_14 (.cons s__law_round_0_15 (.cons s__law_round_0_16 .nil)))))))))))))))))⟩
def f__law_done : Fn := ⟨5, 5, (.cons (.ifS (.cmp .Eq (.var 1) (.str "root")) (.cons (.ret (.idx (.call 43 (.cons (.var 0) (.cons (.var 2) (.cons (.var 3) .nil)))) (.int 0))) .nil) .nil) (.cons (.ifS (.cmp .Eq (.var 1) (.str "plus")) (.cons (.ret (.idx (.call 39 (.cons (.var 0) (.cons (.var 2) (.cons (.var 3) (.cons (.var 4) .nil))))) (.int 0))) .nil) .nil) (.cons (.ret (.ifE (.cmp .Eq (.var 1) (.str "product")) (.idx (.call 40 (.cons (.var 0) (.cons (.var 2) (.cons (.var 3) (.cons (.var 4) .nil))))) (.int 0)) (.idx (.call 41 (.cons (.var 0) (.cons (.var 2) (.cons (.var 3) (.cons (.var 4) .nil))))) (.int 0)))) .nil)))⟩
def s_law_0_0 : MS := (.asg (.name 1) (.dict (.cons (.str "draws") (.call 52 (.cons (.var 0) (.cons (.int 90) .nil))) (.cons (.str "at") (.int 0) .nil)))) -- w = {'draws': _law_draws(script, 90), 'at': 0}
def s_law_0_1 : MS := (.asg (.name 2) (.bin .Add (.int 2) (.call 53 (.cons (.var 1) (.cons (.int 2) .nil))))) -- digits = 2 + _law_next(w, 2)
def s_law_0_2 : MS := (.par2 3 4 (.tup (.cons (.var 2) (.cons (.neg (.int 2)) (.cons (.call 53 (.cons (.var 1) (.cons (.int 2) .nil))) .nil)))) (.call 54 (.cons (.var 1) (.cons (.lst (.cons (.str "even") (.cons (.str "away") (.cons (.str "up") (.cons (.str "down") (.cons (.str "cut") .nil)))))) .nil)))) -- form, way = ((digits, -2, _law_next(w, 2)), _law_pick(w, ['even', 'away', 'up', 'down', 'cut']))
def s_law_0_3 : MS := (.asg (.name 5) (.tup (.cons (.bin .Add (.bin .Add (.var 2) (.int 1)) (.call 53 (.cons (.var 1) (.cons (.int 2) .nil)))) (.cons (.neg (.int 4)) (.cons (.int 3) .nil))))) -- other = (digits + 1 + _law_next(w, 2), -4, 3)
def b_law_1 : MSs := (.cons (.asg (.name 7) (.call 54 (.cons (.var 1) (.cons (.lst (.cons (.call 56 (.cons (.bin .Sub (.call 53 (.cons (.var 1) (.cons (.int 60) .nil))) (.int 30)) (.cons (.bin .Add (.int 1) (.call 53 (.cons (.var 1) (.cons (.int 24) .nil)))) .nil))) (.cons (.call 56 (.cons (.bin .Sub (.call 53 (.cons (.var 1) (.cons (.int 400) .nil))) (.int 200)) (.cons (.int 128) .nil))) .nil))) .nil)))) (.cons (.asg (.name 8) (.idx (.call 59 (.cons (.var 5) (.cons (.var 4) (.cons (.var 7) (.cons (.int 0) .nil))))) (.int 0))) (.cons (.asg (.name 9) (.ifE (.cmp .In (.idx (.var 8) (.int 0)) (.tup (.cons (.str "number") (.cons (.str "nothing") .nil)))) (.idx (.call 59 (.cons (.var 3) (.cons (.var 4) (.cons (.call 58 (.cons (.var 8) .nil)) (.cons (.idx (.var 8) (.int 1)) .nil))))) (.int 0)) (.var 8))) (.cons (.ifS (.or (.not (.call 55 (.cons (.call 45 (.cons (.var 3) (.cons (.var 5) (.cons (.var 4) (.cons (.var 7) .nil))))) (.cons (.var 9) .nil)))) (.one (.not (.call 55 (.cons (.call 46 (.cons (.var 3) (.cons (.var 5) (.cons (.var 4) (.cons (.var 7) .nil))))) (.cons (.cmp .NotEq (.var 9) (.idx (.call 59 (.cons (.var 3) (.cons (.var 4) (.cons (.var 7) (.cons (.int 0) .nil))))) (.int 0))) .nil)))))) (.cons (.ret (.bl false)) .nil) .nil) (.cons (.ifS (.and (.cmp .In (.var 4) (.tup (.cons (.str "up") (.cons (.str "down") (.cons (.str "cut") .nil))))) (.and (.call 33 (.cons (.var 3) (.cons (.var 5) .nil))) (.and (.cmp .Lt (.bin .Mult (.idx (.var 7) (.int 0)) (.idx (.var 7) (.int 0))) (.bin .Mult (.idx (.var 7) (.int 1)) (.idx (.var 7) (.int 1)))) (.one (.cmp .NotEq (.var 9) (.idx (.call 59 (.cons (.var 3) (.cons (.var 4) (.cons (.var 7) (.cons (.int 0) .nil))))) (.int 0))))))) (.cons (.ret (.bl false)) .nil) .nil) .nil)))))
def s_law_0_4 : MS := (.forS (.name 6) (.rng 9 (.cons (.int 8) .nil)) b_law_1) -- for time in range(8):
def s_law_0_5 : MS := (.asg (.name 10) (.call 57 (.cons (.var 3) .nil))) -- rows = _law_fin(form)
def s_law_0_6 : MS := (.asg (.name 11) (.tup (.cons (.bin .Add (.bin .Mult (.int 2) (.var 2)) (.int 2)) (.cons (.neg (.int 40)) (.cons (.int 40) .nil))))) -- best = (2 * digits + 2, -40, 40)
def s_law_0_7 : MS := (.ifS (.or (.cmp .IsNot (.call 47 (.cons (.var 3) (.cons (.var 11) .nil))) (.bl true)) (.or (.cmp .IsNot (.call 48 (.cons (.var 3) (.cons (.var 11) .nil))) (.bl true)) (.or (.cmp .IsNot (.call 47 (.cons (.var 3) (.cons (.tup (.cons (.bin .Add (.bin .Mult (.int 2) (.var 2)) (.int 1)) (.cons (.neg (.int 40)) (.cons (.int 40) .nil)))) .nil))) (.bl false)) (.one (.cmp .IsNot (.call 47 (.cons (.var 3) (.cons (.tup (.cons (.bin .Add (.bin .Mult (.int 2) (.var 2)) (.int 2)) (.cons (.neg (.int 2)) (.cons (.int 40) .nil)))) .nil))) (.bl false)))))) (.cons (.ret (.bl false)) .nil) .nil) -- if is_harmless(form, best) is not True or has_room(form, best) is not True or is_harmless(form, (2 * digits + 1, -40, 40)) is not False or (is_harmless(form, (2 * digits + 2, -2, 40)) is not False):
def b_law_4 : MSs := (.cons (.ifS (.and (.cmp .Is (.var 13) .non) (.one (.cmp .NotEq (.idx (.call 44 (.cons (.var 3) (.cons (.var 4) (.cons (.call 60 (.cons (.var 5) (.cons (.var 12) (.cons (.var 4) (.cons (.var 7) (.cons (.var 14) .nil)))))) .nil)))) (.int 0)) (.call 60 (.cons (.var 3) (.cons (.var 12) (.cons (.var 4) (.cons (.var 7) (.cons (.var 14) .nil))))))))) (.cons (.asg (.name 13) (.tup (.cons (.var 7) (.cons (.var 14) .nil)))) .nil) .nil) .nil)
def b_law_3 : MSs := (.cons (.forS (.name 14) (.seq (.var 10)) b_law_4) .nil)
def b_law_2 : MSs := (.cons (.asg (.name 13) .non) (.cons (.forS (.name 7) (.seq (.var 10)) b_law_3) (.cons (.ifS (.or (.not (.call 55 (.cons (.call 51 (.cons (.var 3) (.cons (.var 5) (.cons (.var 12) (.cons (.var 4) .nil))))) (.cons (.var 13) .nil)))) (.one (.cmp .IsNot (.call 51 (.cons (.var 3) (.cons (.var 11) (.cons (.var 12) (.cons (.var 4) .nil))))) .non))) (.cons (.ret (.bl false)) .nil) .nil) (.cons (.par2 7 14 (.call 54 (.cons (.var 1) (.cons (.var 10) .nil))) (.call 54 (.cons (.var 1) (.cons (.var 10) .nil)))) (.cons (.ifS (.not (.call 55 (.cons (.call 49 (.cons (.var 3) (.cons (.var 12) (.cons (.var 4) (.cons (.var 7) (.cons (.var 14) .nil)))))) (.cons (.call 60 (.cons (.var 3) (.cons (.var 12) (.cons (.var 4) (.cons (.var 7) (.cons (.var 14) .nil)))))) .nil)))) (.cons (.ret (.bl false)) .nil) .nil) (.cons (.ifS (.not (.call 55 (.cons (.call 50 (.cons (.var 3) (.cons (.var 5) (.cons (.var 12) (.cons (.var 4) (.cons (.var 7) (.cons (.var 14) .nil))))))) (.cons (.idx (.call 44 (.cons (.var 3) (.cons (.var 4) (.cons (.call 60 (.cons (.var 5) (.cons (.var 12) (.cons (.var 4) (.cons (.var 7) (.cons (.var 14) .nil)))))) .nil)))) (.int 0)) .nil)))) (.cons (.ret (.bl false)) .nil) .nil) .nil))))))
def s_law_0_8 : MS := (.forS (.name 12) (.seq (.tup (.cons (.str "plus") (.cons (.str "product") (.cons (.str "over") (.cons (.str "root") .nil)))))) b_law_2) -- for kind in ('plus', 'product', 'over', 'root'):
def s_law_0_9 : MS := (.ret (.bl true)) -- return True
def f_law : Fn := ⟨1, 15, (.cons s_law_0_0 (.cons s_law_0_1 (.cons s_law_0_2 (.cons s_law_0_3 (.cons s_law_0_4 (.cons s_law_0_5 (.cons s_law_0_6 (.cons s_law_0_7 (.cons s_law_0_8 (.cons s_law_0_9 .nil))))))))))⟩
def T : Tab := [
  (("abs" : Str), TK.blt),
  (("bool" : Str), TK.blt),
  (("dict" : Str), TK.blt),
  (("int" : Str), TK.blt),
  (("isinstance" : Str), TK.blt),
  (("len" : Str), TK.blt),
  (("list" : Str), TK.blt),
  (("max" : Str), TK.blt),
  (("min" : Str), TK.blt),
  (("range" : Str), TK.blt),
  (("str" : Str), TK.blt),
  (("tuple" : Str), TK.blt),
  (("NOTHING" : Str), TK.con (.tup [(.int 0), (.int 1)])),
  (("NONE" : Str), TK.con (.tup [(.str "none")])),
  (("WRONG" : Str), TK.con (.tup [(.tup [(.str "none")]), (.tup [(.str "invalid")])])),
  (("bits_of" : Str), TK.fn 1 ["number", "found"] f_bits_of),
  (("common" : Str), TK.fn 4 ["a", "b"] f_common),
  (("fraction" : Str), TK.fn 5 ["upper", "lower", "d"] f_fraction),
  (("added" : Str), TK.fn 6 ["one", "other"] f_added),
  (("times" : Str), TK.fn 7 ["one", "other"] f_times),
  (("quotient" : Str), TK.fn 8 ["one", "other"] f_quotient),
  (("size" : Str), TK.fn 9 ["one"] f_size),
  (("is_less" : Str), TK.fn 10 ["one", "other"] f_is_less),
  (("is_most" : Str), TK.fn 11 ["one", "other"] f_is_most),
  (("two_to" : Str), TK.fn 12 ["by"] f_two_to),
  (("shifted" : Str), TK.fn 13 ["one", "by"] f_shifted),
  (("exponent_of" : Str), TK.fn 14 ["one", "upper", "lower", "found"] f_exponent_of),
  (("value_of" : Str), TK.fn 16 ["number", "own"] f_value_of),
  (("greatest_of" : Str), TK.fn 17 ["form"] f_greatest_of),
  (("least_full" : Str), TK.fn 18 ["form"] f_least_full),
  (("all_finite" : Str), TK.fn 19 ["form", "digits", "least", "greatest", "found", "power", "own"] f_all_finite),
  (("unit_at" : Str), TK.fn 20 ["form", "one"] f_unit_at),
  (("is_representable" : Str), TK.fn 21 ["form", "one", "power", "own"] f_is_representable),
  (("is_within" : Str), TK.fn 22 ["form", "other", "top"] f_is_within),
  (("is_raised" : Str), TK.fn 24 ["way", "sign", "whole", "rest", "twice"] f_is_raised),
  (("rounded" : Str), TK.fn 25 ["form", "way", "one", "sign", "own", "power", "upper", "lower", "whole", "rest", "marks"] f_rounded),
  (("marks_of" : Str), TK.fn 26 ["form", "one", "rest", "is_small"] f_marks_of),
  (("beyond" : Str), TK.fn 27 ["form", "way", "sign"] f_beyond),
  (("sign_when_nothing" : Str), TK.fn 31 ["way", "one", "other"] f_sign_when_nothing),
  (("plus" : Str), TK.fn 32 ["form", "way", "one", "other", "both"] f_plus),
  (("product" : Str), TK.fn 33 ["form", "way", "one", "other", "sign"] f_product),
  (("over" : Str), TK.fn 34 ["form", "way", "one", "other", "sign"] f_over),
  (("root_parts" : Str), TK.fn 35 ["whole", "low", "high", "middle"] f_root_parts),
  (("root" : Str), TK.fn 36 ["form", "way", "one", "_", "whole", "power", "more", "found", "is_whole", "half"] f_root),
  (("converted" : Str), TK.fn 37 ["form", "way", "number"] f_converted),
  (("rounded_twice" : Str), TK.fn 39 ["form", "other", "way", "one"] f_rounded_twice),
  (("is_unlike" : Str), TK.fn 40 ["form", "other", "way", "one"] f_is_unlike),
  (("is_harmless" : Str), TK.fn 41 ["form", "other"] f_is_harmless),
  (("has_room" : Str), TK.fn 42 ["form", "other", "top", "low"] f_has_room),
  (("done_in" : Str), TK.fn 43 ["form", "kind", "way", "one", "other"] f_done_in),
  (("done_twice" : Str), TK.fn 44 ["form", "wide", "kind", "way", "one", "other"] f_done_twice),
  (("first_unlike" : Str), TK.fn 45 ["form", "wide", "kind", "way", "rows", "one", "other"] f_first_unlike),
  (("_law_draws" : Str), TK.fn 47 ["script", "many", "draws", "mixed", "k", "cell", "rest", "turn"] f__law_draws),
  (("_law_next" : Str), TK.fn 48 ["w", "many"] f__law_next),
  (("_law_pick" : Str), TK.fn 49 ["w", "rows"] f__law_pick),
  (("_law_same" : Str), TK.fn 50 ["seen", "due", "waiting", "one", "other", "keys", "key", "k"] f__law_same),
  (("_law_least" : Str), TK.fn 51 ["a", "b", "one", "other"] f__law_least),
  (("_law_fin" : Str), TK.fn 52 ["form", "digits", "first", "last", "rows", "power", "own"] f__law_fin),
  (("_law_val" : Str), TK.fn 53 ["number", "sign"] f__law_val),
  (("_law_round" : Str), TK.fn 54 ["form", "way", "one", "sign", "own", "rows", "a", "b", "values", "low", "found", "top", "beyond_v", "above", "first", "even", "up", "small", "marks", "number", "k"] f__law_round),
  (("_law_done" : Str), TK.fn 55 ["form", "kind", "way", "one", "other"] f__law_done),
  (("law" : Str), TK.fn 56 ["script", "w", "digits", "form", "way", "other", "time", "one", "wide", "due", "rows", "best", "kind", "first", "own"] f_law)]
abbrev G : GT := gtOf T
abbrev i_NOTHING : Nat := 12
theorem c_NOTHING : conOf G 12 = some (.tup [(.int 0), (.int 1)]) := rfl
abbrev i_NONE : Nat := 13
theorem c_NONE : conOf G 13 = some (.tup [(.str "none")]) := rfl
abbrev i_WRONG : Nat := 14
theorem c_WRONG : conOf G 14 = some (.tup [(.tup [(.str "none")]), (.tup [(.str "invalid")])]) := rfl
abbrev i_bits_of : Nat := 15
theorem g_bits_of : G[i_bits_of]? = some (("bits_of" : Str), GK.fn f_bits_of) := rfl
abbrev i_common : Nat := 16
theorem g_common : G[i_common]? = some (("common" : Str), GK.fn f_common) := rfl
abbrev i_fraction : Nat := 17
theorem g_fraction : G[i_fraction]? = some (("fraction" : Str), GK.fn f_fraction) := rfl
abbrev i_added : Nat := 18
theorem g_added : G[i_added]? = some (("added" : Str), GK.fn f_added) := rfl
abbrev i_times : Nat := 19
theorem g_times : G[i_times]? = some (("times" : Str), GK.fn f_times) := rfl
abbrev i_quotient : Nat := 20
theorem g_quotient : G[i_quotient]? = some (("quotient" : Str), GK.fn f_quotient) := rfl
abbrev i_size : Nat := 21
theorem g_size : G[i_size]? = some (("size" : Str), GK.fn f_size) := rfl
abbrev i_is_less : Nat := 22
theorem g_is_less : G[i_is_less]? = some (("is_less" : Str), GK.fn f_is_less) := rfl
abbrev i_is_most : Nat := 23
theorem g_is_most : G[i_is_most]? = some (("is_most" : Str), GK.fn f_is_most) := rfl
abbrev i_two_to : Nat := 24
theorem g_two_to : G[i_two_to]? = some (("two_to" : Str), GK.fn f_two_to) := rfl
abbrev i_shifted : Nat := 25
theorem g_shifted : G[i_shifted]? = some (("shifted" : Str), GK.fn f_shifted) := rfl
abbrev i_exponent_of : Nat := 26
theorem g_exponent_of : G[i_exponent_of]? = some (("exponent_of" : Str), GK.fn f_exponent_of) := rfl
abbrev i_value_of : Nat := 27
theorem g_value_of : G[i_value_of]? = some (("value_of" : Str), GK.fn f_value_of) := rfl
abbrev i_greatest_of : Nat := 28
theorem g_greatest_of : G[i_greatest_of]? = some (("greatest_of" : Str), GK.fn f_greatest_of) := rfl
abbrev i_least_full : Nat := 29
theorem g_least_full : G[i_least_full]? = some (("least_full" : Str), GK.fn f_least_full) := rfl
abbrev i_all_finite : Nat := 30
theorem g_all_finite : G[i_all_finite]? = some (("all_finite" : Str), GK.fn f_all_finite) := rfl
abbrev i_unit_at : Nat := 31
theorem g_unit_at : G[i_unit_at]? = some (("unit_at" : Str), GK.fn f_unit_at) := rfl
abbrev i_is_representable : Nat := 32
theorem g_is_representable : G[i_is_representable]? = some (("is_representable" : Str), GK.fn f_is_representable) := rfl
abbrev i_is_within : Nat := 33
theorem g_is_within : G[i_is_within]? = some (("is_within" : Str), GK.fn f_is_within) := rfl
abbrev i_is_raised : Nat := 34
theorem g_is_raised : G[i_is_raised]? = some (("is_raised" : Str), GK.fn f_is_raised) := rfl
abbrev i_rounded : Nat := 35
theorem g_rounded : G[i_rounded]? = some (("rounded" : Str), GK.fn f_rounded) := rfl
abbrev i_marks_of : Nat := 36
theorem g_marks_of : G[i_marks_of]? = some (("marks_of" : Str), GK.fn f_marks_of) := rfl
abbrev i_beyond : Nat := 37
theorem g_beyond : G[i_beyond]? = some (("beyond" : Str), GK.fn f_beyond) := rfl
abbrev i_sign_when_nothing : Nat := 38
theorem g_sign_when_nothing : G[i_sign_when_nothing]? = some (("sign_when_nothing" : Str), GK.fn f_sign_when_nothing) := rfl
abbrev i_plus : Nat := 39
theorem g_plus : G[i_plus]? = some (("plus" : Str), GK.fn f_plus) := rfl
abbrev i_product : Nat := 40
theorem g_product : G[i_product]? = some (("product" : Str), GK.fn f_product) := rfl
abbrev i_over : Nat := 41
theorem g_over : G[i_over]? = some (("over" : Str), GK.fn f_over) := rfl
abbrev i_root_parts : Nat := 42
theorem g_root_parts : G[i_root_parts]? = some (("root_parts" : Str), GK.fn f_root_parts) := rfl
abbrev i_root : Nat := 43
theorem g_root : G[i_root]? = some (("root" : Str), GK.fn f_root) := rfl
abbrev i_converted : Nat := 44
theorem g_converted : G[i_converted]? = some (("converted" : Str), GK.fn f_converted) := rfl
abbrev i_rounded_twice : Nat := 45
theorem g_rounded_twice : G[i_rounded_twice]? = some (("rounded_twice" : Str), GK.fn f_rounded_twice) := rfl
abbrev i_is_unlike : Nat := 46
theorem g_is_unlike : G[i_is_unlike]? = some (("is_unlike" : Str), GK.fn f_is_unlike) := rfl
abbrev i_is_harmless : Nat := 47
theorem g_is_harmless : G[i_is_harmless]? = some (("is_harmless" : Str), GK.fn f_is_harmless) := rfl
abbrev i_has_room : Nat := 48
theorem g_has_room : G[i_has_room]? = some (("has_room" : Str), GK.fn f_has_room) := rfl
abbrev i_done_in : Nat := 49
theorem g_done_in : G[i_done_in]? = some (("done_in" : Str), GK.fn f_done_in) := rfl
abbrev i_done_twice : Nat := 50
theorem g_done_twice : G[i_done_twice]? = some (("done_twice" : Str), GK.fn f_done_twice) := rfl
abbrev i_first_unlike : Nat := 51
theorem g_first_unlike : G[i_first_unlike]? = some (("first_unlike" : Str), GK.fn f_first_unlike) := rfl
abbrev i__law_draws : Nat := 52
theorem g__law_draws : G[i__law_draws]? = some (("_law_draws" : Str), GK.fn f__law_draws) := rfl
abbrev i__law_next : Nat := 53
theorem g__law_next : G[i__law_next]? = some (("_law_next" : Str), GK.fn f__law_next) := rfl
abbrev i__law_pick : Nat := 54
theorem g__law_pick : G[i__law_pick]? = some (("_law_pick" : Str), GK.fn f__law_pick) := rfl
abbrev i__law_same : Nat := 55
theorem g__law_same : G[i__law_same]? = some (("_law_same" : Str), GK.fn f__law_same) := rfl
abbrev i__law_least : Nat := 56
theorem g__law_least : G[i__law_least]? = some (("_law_least" : Str), GK.fn f__law_least) := rfl
abbrev i__law_fin : Nat := 57
theorem g__law_fin : G[i__law_fin]? = some (("_law_fin" : Str), GK.fn f__law_fin) := rfl
abbrev i__law_val : Nat := 58
theorem g__law_val : G[i__law_val]? = some (("_law_val" : Str), GK.fn f__law_val) := rfl
abbrev i__law_round : Nat := 59
theorem g__law_round : G[i__law_round]? = some (("_law_round" : Str), GK.fn f__law_round) := rfl
abbrev i__law_done : Nat := 60
theorem g__law_done : G[i__law_done]? = some (("_law_done" : Str), GK.fn f__law_done) := rfl
abbrev i_law : Nat := 61
theorem g_law : G[i_law]? = some (("law" : Str), GK.fn f_law) := rfl
end Rw.Pk22

set_option exponentiation.threshold 300
namespace Rw.Pk22
open PySem L2 Rw
section
variable {k : Nat} {S : Sto} {p q : Rat} {n : Nat}
theorem common_loop {cl : Nat → List D → Sto → Rs D} : ∀ n m : Nat, whE (evT G cl c_common_0) (evSs G cl b_common_0) [some (.int m), some (.int n)] S = some (.nx [some (.int (Nat.gcd m n : Nat)), some (.int 0)], S) := by
  intro n
  induction n using Nat.strongRecOn with
  | ind n ih =>
    intro m
    by_cases e : n = 0
    · subst e
      refine (whE_end (S1 := S) ?_).trans ?_
      · simp only [E1, E2, E3, E4, E5, E6, E7, E8, E9, List.map_cons, List.map_nil, List.cons_append, List.nil_append, List.append_nil, List.length_cons, List.length_nil, List.replicate_zero, List.replicate_succ, Nat.sub_self, Nat.zero_add, List.getElem?_cons_zero, List.getElem?_cons_succ, List.set_cons_zero, List.set_cons_succ, if_true, if_false, Bool.false_eq_true, decide_true, decide_false, Bool.not_true, Bool.not_false, decide_eq_true_eq, eq_self, Int.cast_ofNat_Int, Int.natCast_zero, Int.natCast_one, Nat.reduceLeDiff, Nat.reduceSub, Nat.reduceAdd, Nat.reduceLT, reduceIte, reduceCtorEq, Int.reduceEq, Int.reduceLT, Int.reduceLE, Int.reduceNeg, Int.reduceAdd, Int.reduceSub, Int.reduceMul, Int.reduceNe, Int.reduceBNe, Int.reduceBEq, c_common_0]
      · rw [Nat.gcd_zero_right]
        rfl
    · refine whE_turn (S1 := S) (ρ2 := [some (.int n), some (.int ((m % n : Nat) : Int))]) (S2 := S) ?_ ?_ ((ih (m % n) (Nat.mod_lt _ (by omega)) n).trans ?_)
      · have : (0 : Int) < (n : Int) := by omega
        simp only [E1, E2, E3, E4, E5, E6, E7, E8, E9, List.map_cons, List.map_nil, List.cons_append, List.nil_append, List.append_nil, List.length_cons, List.length_nil, List.replicate_zero, List.replicate_succ, Nat.sub_self, Nat.zero_add, List.getElem?_cons_zero, List.getElem?_cons_succ, List.set_cons_zero, List.set_cons_succ, if_true, if_false, Bool.false_eq_true, decide_true, decide_false, Bool.not_true, Bool.not_false, decide_eq_true_eq, eq_self, Int.cast_ofNat_Int, Int.natCast_zero, Int.natCast_one, Nat.reduceLeDiff, Nat.reduceSub, Nat.reduceAdd, Nat.reduceLT, reduceIte, reduceCtorEq, Int.reduceEq, Int.reduceLT, Int.reduceLE, Int.reduceNeg, Int.reduceAdd, Int.reduceSub, Int.reduceMul, Int.reduceNe, Int.reduceBNe, Int.reduceBEq, c_common_0, this]
      · have : (n : Int) ≠ 0 := by omega
        simp only [E1, E2, E3, E4, E5, E6, E7, E8, E9, List.map_cons, List.map_nil, List.cons_append, List.nil_append, List.append_nil, List.length_cons, List.length_nil, List.replicate_zero, List.replicate_succ, Nat.sub_self, Nat.zero_add, List.getElem?_cons_zero, List.getElem?_cons_succ, List.set_cons_zero, List.set_cons_succ, if_true, if_false, Bool.false_eq_true, decide_true, decide_false, Bool.not_true, Bool.not_false, decide_eq_true_eq, eq_self, Int.cast_ofNat_Int, Int.natCast_zero, Int.natCast_one, Nat.reduceLeDiff, Nat.reduceSub, Nat.reduceAdd, Nat.reduceLT, reduceIte, reduceCtorEq, Int.reduceEq, Int.reduceLT, Int.reduceLE, Int.reduceNeg, Int.reduceAdd, Int.reduceSub, Int.reduceMul, Int.reduceNe, Int.reduceBNe, Int.reduceBEq, b_common_0, this, fmod_nat, ne_eq, not_false_eq_true]
      · rw [Nat.gcd_comm m n, Nat.gcd_rec n m, Nat.gcd_comm]
theorem common_ok {a b : Int} : callK G (k + 1) i_common [.int a, .int b] S = some (.int (Int.gcd a b : Int), S) := by
  rw [call_fn g_common rfl]
  simp only [E1, E2, E3, E4, E5, E6, E7, E8, E9, List.map_cons, List.map_nil, List.cons_append, List.nil_append, List.append_nil, List.length_cons, List.length_nil, List.replicate_zero, List.replicate_succ, Nat.sub_self, Nat.zero_add, List.getElem?_cons_zero, List.getElem?_cons_succ, List.set_cons_zero, List.set_cons_succ, if_true, if_false, Bool.false_eq_true, decide_true, decide_false, Bool.not_true, Bool.not_false, decide_eq_true_eq, eq_self, Int.cast_ofNat_Int, Int.natCast_zero, Int.natCast_one, Nat.reduceLeDiff, Nat.reduceSub, Nat.reduceAdd, Nat.reduceLT, reduceIte, reduceCtorEq, Int.reduceEq, Int.reduceLT, Int.reduceLE, Int.reduceNeg, Int.reduceAdd, Int.reduceSub, Int.reduceMul, Int.reduceNe, Int.reduceBNe, Int.reduceBEq, f_common, abs_nat, common_loop]
  rfl
theorem fraction_ok {u l : Int} (h : l ≠ 0) (b : Bd 8999 l) : callK G (k + 2) i_fraction [.int u, .int l] S = some (fr (Rat.divInt u l), S) := by
  have hd : divOk (if 0 < l then (Int.gcd u l : Int) else -(Int.gcd u l : Int)) := by
    split
    · exact (gcd_bd h b).divOk (gcd_ne h) (by omega)
    · exact (gcd_bd h b).neg.divOk (by have := gcd_ne (u := u) h; omega) (by omega)
  rw [call_fn g_fraction rfl, fr_div h]
  by_cases c : 0 < l
  · simp only [c, if_true] at hd ⊢
    simp only [E1, E2, E3, E4, E5, E6, E7, E8, E9, List.map_cons, List.map_nil, List.cons_append, List.nil_append, List.append_nil, List.length_cons, List.length_nil, List.replicate_zero, List.replicate_succ, Nat.sub_self, Nat.zero_add, List.getElem?_cons_zero, List.getElem?_cons_succ, List.set_cons_zero, List.set_cons_succ, if_true, if_false, Bool.false_eq_true, decide_true, decide_false, Bool.not_true, Bool.not_false, decide_eq_true_eq, eq_self, Int.cast_ofNat_Int, Int.natCast_zero, Int.natCast_one, Nat.reduceLeDiff, Nat.reduceSub, Nat.reduceAdd, Nat.reduceLT, reduceIte, reduceCtorEq, Int.reduceEq, Int.reduceLT, Int.reduceLE, Int.reduceNeg, Int.reduceAdd, Int.reduceSub, Int.reduceMul, Int.reduceNe, Int.reduceBNe, Int.reduceBEq, f_fraction, c, common_ok, hd]
  · simp only [c, if_false] at hd ⊢
    simp only [E1, E2, E3, E4, E5, E6, E7, E8, E9, List.map_cons, List.map_nil, List.cons_append, List.nil_append, List.append_nil, List.length_cons, List.length_nil, List.replicate_zero, List.replicate_succ, Nat.sub_self, Nat.zero_add, List.getElem?_cons_zero, List.getElem?_cons_succ, List.set_cons_zero, List.set_cons_succ, if_true, if_false, Bool.false_eq_true, decide_true, decide_false, Bool.not_true, Bool.not_false, decide_eq_true_eq, eq_self, Int.cast_ofNat_Int, Int.natCast_zero, Int.natCast_one, Nat.reduceLeDiff, Nat.reduceSub, Nat.reduceAdd, Nat.reduceLT, reduceIte, reduceCtorEq, Int.reduceEq, Int.reduceLT, Int.reduceLE, Int.reduceNeg, Int.reduceAdd, Int.reduceSub, Int.reduceMul, Int.reduceNe, Int.reduceBNe, Int.reduceBEq, f_fraction, c, common_ok, hd]
theorem added_ok (h : Sm 4000 p) (g : Sm 4000 q) : callK G (k + 3) i_added [fr p, fr q] S = some (fr (p + q), S) := by
  rw [call_fn g_added rfl, add_eq]
  have h1 := h.nm.mulOk g.dn (by decide)
  have h2 := g.nm.mulOk h.dn (by decide)
  have h3 := h.dn.mulOk g.dn (by decide)
  have hf := fun u => fraction_ok (k := k) (S := S) (u := u) (Int.mul_ne_zero (den_ne (q := p)) (den_ne (q := q))) ((h.dn.mul g.dn).mono (by decide))
  simp only [E1, E2, E3, E4, E5, E6, E7, E8, E9, List.map_cons, List.map_nil, List.cons_append, List.nil_append, List.append_nil, List.length_cons, List.length_nil, List.replicate_zero, List.replicate_succ, Nat.sub_self, Nat.zero_add, List.getElem?_cons_zero, List.getElem?_cons_succ, List.set_cons_zero, List.set_cons_succ, if_true, if_false, Bool.false_eq_true, decide_true, decide_false, Bool.not_true, Bool.not_false, decide_eq_true_eq, eq_self, Int.cast_ofNat_Int, Int.natCast_zero, Int.natCast_one, Nat.reduceLeDiff, Nat.reduceSub, Nat.reduceAdd, Nat.reduceLT, reduceIte, reduceCtorEq, Int.reduceEq, Int.reduceLT, Int.reduceLE, Int.reduceNeg, Int.reduceAdd, Int.reduceSub, Int.reduceMul, Int.reduceNe, Int.reduceBNe, Int.reduceBEq, f_added, fr, h1, h2, h3, hf]
theorem times_ok (h : Sm 4000 p) (g : Sm 4000 q) : callK G (k + 3) i_times [fr p, fr q] S = some (fr (p * q), S) := by
  rw [call_fn g_times rfl, mul_eq]
  have h1 := h.nm.mulOk g.nm (by decide)
  have h3 := h.dn.mulOk g.dn (by decide)
  have hf := fun u => fraction_ok (k := k) (S := S) (u := u) (Int.mul_ne_zero (den_ne (q := p)) (den_ne (q := q))) ((h.dn.mul g.dn).mono (by decide))
  simp only [E1, E2, E3, E4, E5, E6, E7, E8, E9, List.map_cons, List.map_nil, List.cons_append, List.nil_append, List.append_nil, List.length_cons, List.length_nil, List.replicate_zero, List.replicate_succ, Nat.sub_self, Nat.zero_add, List.getElem?_cons_zero, List.getElem?_cons_succ, List.set_cons_zero, List.set_cons_succ, if_true, if_false, Bool.false_eq_true, decide_true, decide_false, Bool.not_true, Bool.not_false, decide_eq_true_eq, eq_self, Int.cast_ofNat_Int, Int.natCast_zero, Int.natCast_one, Nat.reduceLeDiff, Nat.reduceSub, Nat.reduceAdd, Nat.reduceLT, reduceIte, reduceCtorEq, Int.reduceEq, Int.reduceLT, Int.reduceLE, Int.reduceNeg, Int.reduceAdd, Int.reduceSub, Int.reduceMul, Int.reduceNe, Int.reduceBNe, Int.reduceBEq, f_times, fr, h1, h3, hf]
theorem quotient_ok (h : Sm 4000 p) (g : Sm 4000 q) (z : q ≠ 0) : callK G (k + 3) i_quotient [fr p, fr q] S = some (fr (p / q), S) := by
  rw [call_fn g_quotient rfl, div_eq]
  have h1 := h.nm.mulOk g.dn (by decide)
  have h3 := h.dn.mulOk g.nm (by decide)
  have hf := fun u => fraction_ok (k := k) (S := S) (u := u) (Int.mul_ne_zero (den_ne (q := p)) (num_ne z)) ((h.dn.mul g.nm).mono (by decide))
  simp only [E1, E2, E3, E4, E5, E6, E7, E8, E9, List.map_cons, List.map_nil, List.cons_append, List.nil_append, List.append_nil, List.length_cons, List.length_nil, List.replicate_zero, List.replicate_succ, Nat.sub_self, Nat.zero_add, List.getElem?_cons_zero, List.getElem?_cons_succ, List.set_cons_zero, List.set_cons_succ, if_true, if_false, Bool.false_eq_true, decide_true, decide_false, Bool.not_true, Bool.not_false, decide_eq_true_eq, eq_self, Int.cast_ofNat_Int, Int.natCast_zero, Int.natCast_one, Nat.reduceLeDiff, Nat.reduceSub, Nat.reduceAdd, Nat.reduceLT, reduceIte, reduceCtorEq, Int.reduceEq, Int.reduceLT, Int.reduceLE, Int.reduceNeg, Int.reduceAdd, Int.reduceSub, Int.reduceMul, Int.reduceNe, Int.reduceBNe, Int.reduceBEq, f_quotient, fr, h1, h3, hf]
theorem size_ok : callK G (k + 1) i_size [fr p] S = some (fr p.abs, S) := by
  rw [call_fn g_size rfl, fr_abs]
  simp only [E1, E2, E3, E4, E5, E6, E7, E8, E9, List.map_cons, List.map_nil, List.cons_append, List.nil_append, List.append_nil, List.length_cons, List.length_nil, List.replicate_zero, List.replicate_succ, Nat.sub_self, Nat.zero_add, List.getElem?_cons_zero, List.getElem?_cons_succ, List.set_cons_zero, List.set_cons_succ, if_true, if_false, Bool.false_eq_true, decide_true, decide_false, Bool.not_true, Bool.not_false, decide_eq_true_eq, eq_self, Int.cast_ofNat_Int, Int.natCast_zero, Int.natCast_one, Nat.reduceLeDiff, Nat.reduceSub, Nat.reduceAdd, Nat.reduceLT, reduceIte, reduceCtorEq, Int.reduceEq, Int.reduceLT, Int.reduceLE, Int.reduceNeg, Int.reduceAdd, Int.reduceSub, Int.reduceMul, Int.reduceNe, Int.reduceBNe, Int.reduceBEq, f_size, fr]
theorem is_less_ok (h : Sm 4000 p) (g : Sm 4000 q) : callK G (k + 1) i_is_less [fr p, fr q] S = some (.bl (decide (p < q)), S) := by
  rw [call_fn g_is_less rfl, ← lt_eq]
  have h1 := h.nm.mulOk g.dn (by decide)
  have h2 := g.nm.mulOk h.dn (by decide)
  simp only [E1, E2, E3, E4, E5, E6, E7, E8, E9, List.map_cons, List.map_nil, List.cons_append, List.nil_append, List.append_nil, List.length_cons, List.length_nil, List.replicate_zero, List.replicate_succ, Nat.sub_self, Nat.zero_add, List.getElem?_cons_zero, List.getElem?_cons_succ, List.set_cons_zero, List.set_cons_succ, if_true, if_false, Bool.false_eq_true, decide_true, decide_false, Bool.not_true, Bool.not_false, decide_eq_true_eq, eq_self, Int.cast_ofNat_Int, Int.natCast_zero, Int.natCast_one, Nat.reduceLeDiff, Nat.reduceSub, Nat.reduceAdd, Nat.reduceLT, reduceIte, reduceCtorEq, Int.reduceEq, Int.reduceLT, Int.reduceLE, Int.reduceNeg, Int.reduceAdd, Int.reduceSub, Int.reduceMul, Int.reduceNe, Int.reduceBNe, Int.reduceBEq, f_is_less, fr, h1, h2]
theorem is_most_ok (h : Sm 4000 p) (g : Sm 4000 q) : callK G (k + 1) i_is_most [fr p, fr q] S = some (.bl (decide (p ≤ q)), S) := by
  rw [call_fn g_is_most rfl, ← le_eq]
  have h1 := h.nm.mulOk g.dn (by decide)
  have h2 := g.nm.mulOk h.dn (by decide)
  simp only [E1, E2, E3, E4, E5, E6, E7, E8, E9, List.map_cons, List.map_nil, List.cons_append, List.nil_append, List.append_nil, List.length_cons, List.length_nil, List.replicate_zero, List.replicate_succ, Nat.sub_self, Nat.zero_add, List.getElem?_cons_zero, List.getElem?_cons_succ, List.set_cons_zero, List.set_cons_succ, if_true, if_false, Bool.false_eq_true, decide_true, decide_false, Bool.not_true, Bool.not_false, decide_eq_true_eq, eq_self, Int.cast_ofNat_Int, Int.natCast_zero, Int.natCast_one, Nat.reduceLeDiff, Nat.reduceSub, Nat.reduceAdd, Nat.reduceLT, reduceIte, reduceCtorEq, Int.reduceEq, Int.reduceLT, Int.reduceLE, Int.reduceNeg, Int.reduceAdd, Int.reduceSub, Int.reduceMul, Int.reduceNe, Int.reduceBNe, Int.reduceBEq, f_is_most, fr, h1, h2]
theorem two_to_ok {b : Int} (h : b.natAbs ≤ 10000) : callK G (k + 1) i_two_to [.int b] S = some (fr ((2 : Rat) ^ b), S) := by
  rw [call_fn g_two_to rfl, fr_two]
  by_cases c : 0 ≤ b
  · have := shl_one (b := b) c (by omega)
    simp only [E1, E2, E3, E4, E5, E6, E7, E8, E9, List.map_cons, List.map_nil, List.cons_append, List.nil_append, List.append_nil, List.length_cons, List.length_nil, List.replicate_zero, List.replicate_succ, Nat.sub_self, Nat.zero_add, List.getElem?_cons_zero, List.getElem?_cons_succ, List.set_cons_zero, List.set_cons_succ, if_true, if_false, Bool.false_eq_true, decide_true, decide_false, Bool.not_true, Bool.not_false, decide_eq_true_eq, eq_self, Int.cast_ofNat_Int, Int.natCast_zero, Int.natCast_one, Nat.reduceLeDiff, Nat.reduceSub, Nat.reduceAdd, Nat.reduceLT, reduceIte, reduceCtorEq, Int.reduceEq, Int.reduceLT, Int.reduceLE, Int.reduceNeg, Int.reduceAdd, Int.reduceSub, Int.reduceMul, Int.reduceNe, Int.reduceBNe, Int.reduceBEq, f_two_to, c, this, Int.one_mul]
  · have := shl_one (b := -b) (by omega) (by omega)
    simp only [E1, E2, E3, E4, E5, E6, E7, E8, E9, List.map_cons, List.map_nil, List.cons_append, List.nil_append, List.append_nil, List.length_cons, List.length_nil, List.replicate_zero, List.replicate_succ, Nat.sub_self, Nat.zero_add, List.getElem?_cons_zero, List.getElem?_cons_succ, List.set_cons_zero, List.set_cons_succ, if_true, if_false, Bool.false_eq_true, decide_true, decide_false, Bool.not_true, Bool.not_false, decide_eq_true_eq, eq_self, Int.cast_ofNat_Int, Int.natCast_zero, Int.natCast_one, Nat.reduceLeDiff, Nat.reduceSub, Nat.reduceAdd, Nat.reduceLT, reduceIte, reduceCtorEq, Int.reduceEq, Int.reduceLT, Int.reduceLE, Int.reduceNeg, Int.reduceAdd, Int.reduceSub, Int.reduceMul, Int.reduceNe, Int.reduceBNe, Int.reduceBEq, f_two_to, c, this, Int.one_mul]
theorem shifted_ok {b : Int} (h : Sm 4000 p) (g : b.natAbs ≤ 3999) : callK G (k + 4) i_shifted [fr p, .int b] S = some (fr (p * (2 : Rat) ^ b), S) := by
  rw [call_fn g_shifted rfl]
  simp only [E1, E2, E3, E4, E5, E6, E7, E8, E9, List.map_cons, List.map_nil, List.cons_append, List.nil_append, List.append_nil, List.length_cons, List.length_nil, List.replicate_zero, List.replicate_succ, Nat.sub_self, Nat.zero_add, List.getElem?_cons_zero, List.getElem?_cons_succ, List.set_cons_zero, List.set_cons_succ, if_true, if_false, Bool.false_eq_true, decide_true, decide_false, Bool.not_true, Bool.not_false, decide_eq_true_eq, eq_self, Int.cast_ofNat_Int, Int.natCast_zero, Int.natCast_one, Nat.reduceLeDiff, Nat.reduceSub, Nat.reduceAdd, Nat.reduceLT, reduceIte, reduceCtorEq, Int.reduceEq, Int.reduceLT, Int.reduceLE, Int.reduceNeg, Int.reduceAdd, Int.reduceSub, Int.reduceMul, Int.reduceNe, Int.reduceBNe, Int.reduceBEq, f_shifted, two_to_ok (b := b) (by omega), times_ok h (sm_two g)]
theorem bits_loop {cl : Nat → List D → Sto → Rs D} {m : Nat} (d : Nat) : ∀ i : Nat, i + d = bln m → whE (evT G cl c_bits_of_0) (evSs G cl b_bits_of_0) [some (.int m), some (.int i)] S = some (.nx [some (.int m), some (.int (bln m : Nat))], S) := by
  induction d with
  | zero =>
    intro i e
    refine (whE_end (S1 := S) ?_).trans ?_
    · have h0 : (0 : Int) ≤ (i : Int) := by omega
      have h1 : ¬ (0 : Int) < ((m : Int) / 2 ^ (i : Int).toNat) := by
        rw [bln_shr]
        omega
      simp only [E1, E2, E3, E4, E5, E6, E7, E8, E9, List.map_cons, List.map_nil, List.cons_append, List.nil_append, List.append_nil, List.length_cons, List.length_nil, List.replicate_zero, List.replicate_succ, Nat.sub_self, Nat.zero_add, List.getElem?_cons_zero, List.getElem?_cons_succ, List.set_cons_zero, List.set_cons_succ, if_true, if_false, Bool.false_eq_true, decide_true, decide_false, Bool.not_true, Bool.not_false, decide_eq_true_eq, eq_self, Int.cast_ofNat_Int, Int.natCast_zero, Int.natCast_one, Nat.reduceLeDiff, Nat.reduceSub, Nat.reduceAdd, Nat.reduceLT, reduceIte, reduceCtorEq, Int.reduceEq, Int.reduceLT, Int.reduceLE, Int.reduceNeg, Int.reduceAdd, Int.reduceSub, Int.reduceMul, Int.reduceNe, Int.reduceBNe, Int.reduceBEq, c_bits_of_0, h0, h1]
    · rw [← e]
      rfl
  | succ d ih =>
    intro i e
    refine whE_turn (S1 := S) (ρ2 := [some (.int m), some (.int ((i + 1 : Nat) : Int))]) (S2 := S) ?_ ?_ (ih (i + 1) (by omega))
    · have h0 : (0 : Int) ≤ (i : Int) := by omega
      have h1 : (0 : Int) < ((m : Int) / 2 ^ (i : Int).toNat) := by
        rw [bln_shr]
        omega
      simp only [E1, E2, E3, E4, E5, E6, E7, E8, E9, List.map_cons, List.map_nil, List.cons_append, List.nil_append, List.append_nil, List.length_cons, List.length_nil, List.replicate_zero, List.replicate_succ, Nat.sub_self, Nat.zero_add, List.getElem?_cons_zero, List.getElem?_cons_succ, List.set_cons_zero, List.set_cons_succ, if_true, if_false, Bool.false_eq_true, decide_true, decide_false, Bool.not_true, Bool.not_false, decide_eq_true_eq, eq_self, Int.cast_ofNat_Int, Int.natCast_zero, Int.natCast_one, Nat.reduceLeDiff, Nat.reduceSub, Nat.reduceAdd, Nat.reduceLT, reduceIte, reduceCtorEq, Int.reduceEq, Int.reduceLT, Int.reduceLE, Int.reduceNeg, Int.reduceAdd, Int.reduceSub, Int.reduceMul, Int.reduceNe, Int.reduceBNe, Int.reduceBEq, c_bits_of_0, h0, h1]
    · simp only [E1, E2, E3, E4, E5, E6, E7, E8, E9, List.map_cons, List.map_nil, List.cons_append, List.nil_append, List.append_nil, List.length_cons, List.length_nil, List.replicate_zero, List.replicate_succ, Nat.sub_self, Nat.zero_add, List.getElem?_cons_zero, List.getElem?_cons_succ, List.set_cons_zero, List.set_cons_succ, if_true, if_false, Bool.false_eq_true, decide_true, decide_false, Bool.not_true, Bool.not_false, decide_eq_true_eq, eq_self, Int.cast_ofNat_Int, Int.natCast_zero, Int.natCast_one, Nat.reduceLeDiff, Nat.reduceSub, Nat.reduceAdd, Nat.reduceLT, reduceIte, reduceCtorEq, Int.reduceEq, Int.reduceLT, Int.reduceLE, Int.reduceNeg, Int.reduceAdd, Int.reduceSub, Int.reduceMul, Int.reduceNe, Int.reduceBNe, Int.reduceBEq, b_bits_of_0]
      rfl
theorem bits_ok {m : Nat} : callK G (k + 1) i_bits_of [.int m] S = some (.int (bln m : Nat), S) := by
  rw [call_fn g_bits_of rfl]
  simp only [E1, E2, E3, E4, E5, E6, E7, E8, E9, List.map_cons, List.map_nil, List.cons_append, List.nil_append, List.append_nil, List.length_cons, List.length_nil, List.replicate_zero, List.replicate_succ, Nat.sub_self, Nat.zero_add, List.getElem?_cons_zero, List.getElem?_cons_succ, List.set_cons_zero, List.set_cons_succ, if_true, if_false, Bool.false_eq_true, decide_true, decide_false, Bool.not_true, Bool.not_false, decide_eq_true_eq, eq_self, Int.cast_ofNat_Int, Int.natCast_zero, Int.natCast_one, Nat.reduceLeDiff, Nat.reduceSub, Nat.reduceAdd, Nat.reduceLT, reduceIte, reduceCtorEq, Int.reduceEq, Int.reduceLT, Int.reduceLE, Int.reduceNeg, Int.reduceAdd, Int.reduceSub, Int.reduceMul, Int.reduceNe, Int.reduceBNe, Int.reduceBEq, f_bits_of]
  have := bits_loop (S := S) (cl := callK G k) (m := m) (bln m) 0 (by omega)
  rw [show ((0 : Nat) : Int) = 0 from rfl] at this
  rw [this]
  simp only [E1, E2, E3, E4, E5, E6, E7, E8, E9, List.map_cons, List.map_nil, List.cons_append, List.nil_append, List.append_nil, List.length_cons, List.length_nil, List.replicate_zero, List.replicate_succ, Nat.sub_self, Nat.zero_add, List.getElem?_cons_zero, List.getElem?_cons_succ, List.set_cons_zero, List.set_cons_succ, if_true, if_false, Bool.false_eq_true, decide_true, decide_false, Bool.not_true, Bool.not_false, decide_eq_true_eq, eq_self, Int.cast_ofNat_Int, Int.natCast_zero, Int.natCast_one, Nat.reduceLeDiff, Nat.reduceSub, Nat.reduceAdd, Nat.reduceLT, reduceIte, reduceCtorEq, Int.reduceEq, Int.reduceLT, Int.reduceLE, Int.reduceNeg, Int.reduceAdd, Int.reduceSub, Int.reduceMul, Int.reduceNe, Int.reduceBNe, Int.reduceBEq]
end

end Rw.Pk22

set_option exponentiation.threshold 300
namespace Rw.Pk22
open PySem L2 Rw
section
variable {k : Nat} {S : Sto}
/-- alike data are found alike -/
theorem same_turn {cl : Nat → List D → Sto → Rs D} {d : D} {ds : List D} {n : Nat} {a0 a1 a3 a4 a5 a6 a7 : Option D} (hd : okD n d = true) (hn : n ≤ 60) (hl : szD d + szDs ds ≤ 1000000) :
    ∃ (b3 b4 b5 b6 b7 : Option D) (es : List D) , evSs G cl b__law_same_0 [a0, a1, some (.ref S.length), a3, a4, a5, a6, a7] (S ++ [.lst ((ds ++ [d]).map dup)]) = some (.nx [a0, a1, some (.ref S.length), b3, b4, b5, b6, b7], S ++ [.lst ((ds ++ es).map dup)]) ∧ okDs n es = true ∧ szDs es < szD d := by
  have hlen : ∀ xs : List D, xs.length ≤ szDs xs := by
    intro xs
    induction xs with
    | nil => exact Nat.le_refl _
    | cons x xs ih =>
      show xs.length + 1 ≤ szD x + szDs xs
      have : 1 ≤ szD x := by cases x <;> simp [szD]
      omega
  have hds := hlen ds
  have he : (ds ++ [d]).map dup = ds.map dup ++ [dup d] := by simp
  rw [he]
  cases d with
  | non =>
    refine ⟨some .non, some .non, a5, a6, a7, [], ?_, rfl, Nat.zero_lt_one⟩
    simp only [E1, E2, E3, E4, E5, E6, E7, E8, E9, List.map_cons, List.map_nil, List.cons_append, List.nil_append, List.append_nil, List.length_cons, List.length_nil, List.replicate_zero, List.replicate_succ, Nat.sub_self, Nat.zero_add, List.getElem?_cons_zero, List.getElem?_cons_succ, List.set_cons_zero, List.set_cons_succ, if_true, if_false, Bool.false_eq_true, decide_true, decide_false, Bool.not_true, Bool.not_false, decide_eq_true_eq, eq_self, Int.cast_ofNat_Int, Int.natCast_zero, Int.natCast_one, Nat.reduceLeDiff, Nat.reduceSub, Nat.reduceAdd, Nat.reduceLT, reduceIte, reduceCtorEq, Int.reduceEq, Int.reduceLT, Int.reduceLE, Int.reduceNeg, Int.reduceAdd, Int.reduceSub, Int.reduceMul, Int.reduceNe, Int.reduceBNe, Int.reduceBEq, b__law_same_0, getRef, pop_new, dup]
  | bl b =>
    refine ⟨some (.bl b), some (.bl b), a5, a6, a7, [], ?_, rfl, Nat.zero_lt_one⟩
    simp only [E1, E2, E3, E4, E5, E6, E7, E8, E9, List.map_cons, List.map_nil, List.cons_append, List.nil_append, List.append_nil, List.length_cons, List.length_nil, List.replicate_zero, List.replicate_succ, Nat.sub_self, Nat.zero_add, List.getElem?_cons_zero, List.getElem?_cons_succ, List.set_cons_zero, List.set_cons_succ, if_true, if_false, Bool.false_eq_true, decide_true, decide_false, Bool.not_true, Bool.not_false, decide_eq_true_eq, eq_self, Int.cast_ofNat_Int, Int.natCast_zero, Int.natCast_one, Nat.reduceLeDiff, Nat.reduceSub, Nat.reduceAdd, Nat.reduceLT, reduceIte, reduceCtorEq, Int.reduceEq, Int.reduceLT, Int.reduceLE, Int.reduceNeg, Int.reduceAdd, Int.reduceSub, Int.reduceMul, Int.reduceNe, Int.reduceBNe, Int.reduceBEq, b__law_same_0, getRef, pop_new, dup]
  | int b =>
    refine ⟨some (.int b), some (.int b), a5, a6, a7, [], ?_, rfl, Nat.zero_lt_one⟩
    simp only [E1, E2, E3, E4, E5, E6, E7, E8, E9, List.map_cons, List.map_nil, List.cons_append, List.nil_append, List.append_nil, List.length_cons, List.length_nil, List.replicate_zero, List.replicate_succ, Nat.sub_self, Nat.zero_add, List.getElem?_cons_zero, List.getElem?_cons_succ, List.set_cons_zero, List.set_cons_succ, if_true, if_false, Bool.false_eq_true, decide_true, decide_false, Bool.not_true, Bool.not_false, decide_eq_true_eq, eq_self, Int.cast_ofNat_Int, Int.natCast_zero, Int.natCast_one, Nat.reduceLeDiff, Nat.reduceSub, Nat.reduceAdd, Nat.reduceLT, reduceIte, reduceCtorEq, Int.reduceEq, Int.reduceLT, Int.reduceLE, Int.reduceNeg, Int.reduceAdd, Int.reduceSub, Int.reduceMul, Int.reduceNe, Int.reduceBNe, Int.reduceBEq, b__law_same_0, getRef, pop_new, dup]
  | str b =>
    refine ⟨some (.str b), some (.str b), a5, a6, a7, [], ?_, rfl, Nat.zero_lt_one⟩
    simp only [E1, E2, E3, E4, E5, E6, E7, E8, E9, List.map_cons, List.map_nil, List.cons_append, List.nil_append, List.append_nil, List.length_cons, List.length_nil, List.replicate_zero, List.replicate_succ, Nat.sub_self, Nat.zero_add, List.getElem?_cons_zero, List.getElem?_cons_succ, List.set_cons_zero, List.set_cons_succ, if_true, if_false, Bool.false_eq_true, decide_true, decide_false, Bool.not_true, Bool.not_false, decide_eq_true_eq, eq_self, Int.cast_ofNat_Int, Int.natCast_zero, Int.natCast_one, Nat.reduceLeDiff, Nat.reduceSub, Nat.reduceAdd, Nat.reduceLT, reduceIte, reduceCtorEq, Int.reduceEq, Int.reduceLT, Int.reduceLE, Int.reduceNeg, Int.reduceAdd, Int.reduceSub, Int.reduceMul, Int.reduceNe, Int.reduceBNe, Int.reduceBEq, b__law_same_0, getRef, pop_new, dup]
  | tup xs =>
    cases n with
    | zero => exact absurd (show false = true from hd) Bool.false_ne_true
    | succ n =>
      obtain ⟨h1, h2⟩ := bk (show (okDs n xs && decide (xs.length ≤ sizeLine)) = true from hd)
      have hx := hlen xs
      have hz : szD (.tup xs) = 1 + szDs xs := rfl
      refine ⟨some (.tup xs), some (.tup xs), a5, a6, a7, xs, ?_, okDs_mono (Nat.le_succ n) h1, by omega⟩
      have hr := rng_nat (n := xs.length) (by omega)
      have hc : compL none ((List.range xs.length).map fun (i : Nat) => D.int (i : Int)) (ctn G cl e__law_same_4 (.name 7) .none [a0, a1, some (.ref S.length), some (.tup xs), some (.tup xs), a5, a6, none]) ((List.range xs.length).map fun (i : Nat) => D.int (i : Int)) (S ++ [.lst (ds.map dup)]) [] = some (xs.map dup, S ++ [.lst (ds.map dup)]) := by
        rw [compL_map (f := fun x => match x with
          | .int i => dup (xs[i.toNat]?.getD .non)
          | _ => .non), by_place _ dup]
        · simp
        · intro i hi
          simp [hi]
        · intro x hx
          obtain ⟨i, hi, rfl⟩ := List.mem_map.mp hx
          have hi := List.mem_range.mp hi
          have hat := at_nat hi
          unfold ctn
          simp only [E1, E2, E3, E4, E5, E6, E7, E8, E9, List.map_cons, List.map_nil, List.cons_append, List.nil_append, List.append_nil, List.length_cons, List.length_nil, List.replicate_zero, List.replicate_succ, Nat.sub_self, Nat.zero_add, List.getElem?_cons_zero, List.getElem?_cons_succ, List.set_cons_zero, List.set_cons_succ, if_true, if_false, Bool.false_eq_true, decide_true, decide_false, Bool.not_true, Bool.not_false, decide_eq_true_eq, eq_self, Int.cast_ofNat_Int, Int.natCast_zero, Int.natCast_one, Nat.reduceLeDiff, Nat.reduceSub, Nat.reduceAdd, Nat.reduceLT, reduceIte, reduceCtorEq, Int.reduceEq, Int.reduceLT, Int.reduceLE, Int.reduceNeg, Int.reduceAdd, Int.reduceSub, Int.reduceMul, Int.reduceNe, Int.reduceBNe, Int.reduceBEq, e__law_same_4, hat]
          simp [hi, dup]
      have hL : (ds.map dup).length + (xs.map dup).length ≤ sizeLine := le_size (by simp; omega)
      have hL2 : xs.length ≤ sizeLine := le_size (by omega)
      simp only [E1, E2, E3, E4, E5, E6, E7, E8, E9, List.map_cons, List.map_nil, List.cons_append, List.nil_append, List.append_nil, List.length_cons, List.length_nil, List.replicate_zero, List.replicate_succ, Nat.sub_self, Nat.zero_add, List.getElem?_cons_zero, List.getElem?_cons_succ, List.set_cons_zero, List.set_cons_succ, if_true, if_false, Bool.false_eq_true, decide_true, decide_false, Bool.not_true, Bool.not_false, decide_eq_true_eq, eq_self, Int.cast_ofNat_Int, Int.natCast_zero, Int.natCast_one, Nat.reduceLeDiff, Nat.reduceSub, Nat.reduceAdd, Nat.reduceLT, reduceIte, reduceCtorEq, Int.reduceEq, Int.reduceLT, Int.reduceLE, Int.reduceNeg, Int.reduceAdd, Int.reduceSub, Int.reduceMul, Int.reduceNe, Int.reduceBNe, Int.reduceBEq, b__law_same_0, getRef, pop_new, dup, hr, wipe_nil, wipe_cons, hc, List.length_range, List.length_map, hL2]
      simp only [E1, E2, E3, E4, E5, E6, E7, E8, E9, List.map_cons, List.map_nil, List.cons_append, List.nil_append, List.append_nil, List.length_cons, List.length_nil, List.replicate_zero, List.replicate_succ, Nat.sub_self, Nat.zero_add, List.getElem?_cons_zero, List.getElem?_cons_succ, List.set_cons_zero, List.set_cons_succ, if_true, if_false, Bool.false_eq_true, decide_true, decide_false, Bool.not_true, Bool.not_false, decide_eq_true_eq, eq_self, Int.cast_ofNat_Int, Int.natCast_zero, Int.natCast_one, Nat.reduceLeDiff, Nat.reduceSub, Nat.reduceAdd, Nat.reduceLT, reduceIte, reduceCtorEq, Int.reduceEq, Int.reduceLT, Int.reduceLE, Int.reduceNeg, Int.reduceAdd, Int.reduceSub, Int.reduceMul, Int.reduceNe, Int.reduceBNe, Int.reduceBEq, ext_new, hL, List.map_append]
  | lst xs =>
    cases n with
    | zero => exact absurd (show false = true from hd) Bool.false_ne_true
    | succ n =>
      obtain ⟨h1, h2⟩ := bk (show (okDs n xs && decide (xs.length ≤ sizeLine)) = true from hd)
      have hx := hlen xs
      have hz : szD (.lst xs) = 1 + szDs xs := rfl
      refine ⟨some (.lst xs), some (.lst xs), a5, a6, a7, xs, ?_, okDs_mono (Nat.le_succ n) h1, by omega⟩
      have hr := rng_nat (n := xs.length) (by omega)
      have hc : compL none ((List.range xs.length).map fun (i : Nat) => D.int (i : Int)) (ctn G cl e__law_same_4 (.name 7) .none [a0, a1, some (.ref S.length), some (.lst xs), some (.lst xs), a5, a6, none]) ((List.range xs.length).map fun (i : Nat) => D.int (i : Int)) (S ++ [.lst (ds.map dup)]) [] = some (xs.map dup, S ++ [.lst (ds.map dup)]) := by
        rw [compL_map (f := fun x => match x with
          | .int i => dup (xs[i.toNat]?.getD .non)
          | _ => .non), by_place _ dup]
        · simp
        · intro i hi
          simp [hi]
        · intro x hx
          obtain ⟨i, hi, rfl⟩ := List.mem_map.mp hx
          have hi := List.mem_range.mp hi
          have hat := at_nat hi
          unfold ctn
          simp only [E1, E2, E3, E4, E5, E6, E7, E8, E9, List.map_cons, List.map_nil, List.cons_append, List.nil_append, List.append_nil, List.length_cons, List.length_nil, List.replicate_zero, List.replicate_succ, Nat.sub_self, Nat.zero_add, List.getElem?_cons_zero, List.getElem?_cons_succ, List.set_cons_zero, List.set_cons_succ, if_true, if_false, Bool.false_eq_true, decide_true, decide_false, Bool.not_true, Bool.not_false, decide_eq_true_eq, eq_self, Int.cast_ofNat_Int, Int.natCast_zero, Int.natCast_one, Nat.reduceLeDiff, Nat.reduceSub, Nat.reduceAdd, Nat.reduceLT, reduceIte, reduceCtorEq, Int.reduceEq, Int.reduceLT, Int.reduceLE, Int.reduceNeg, Int.reduceAdd, Int.reduceSub, Int.reduceMul, Int.reduceNe, Int.reduceBNe, Int.reduceBEq, e__law_same_4, hat]
          simp [hi, dup]
      have hL : (ds.map dup).length + (xs.map dup).length ≤ sizeLine := le_size (by simp; omega)
      have hL2 : xs.length ≤ sizeLine := le_size (by omega)
      simp only [E1, E2, E3, E4, E5, E6, E7, E8, E9, List.map_cons, List.map_nil, List.cons_append, List.nil_append, List.append_nil, List.length_cons, List.length_nil, List.replicate_zero, List.replicate_succ, Nat.sub_self, Nat.zero_add, List.getElem?_cons_zero, List.getElem?_cons_succ, List.set_cons_zero, List.set_cons_succ, if_true, if_false, Bool.false_eq_true, decide_true, decide_false, Bool.not_true, Bool.not_false, decide_eq_true_eq, eq_self, Int.cast_ofNat_Int, Int.natCast_zero, Int.natCast_one, Nat.reduceLeDiff, Nat.reduceSub, Nat.reduceAdd, Nat.reduceLT, reduceIte, reduceCtorEq, Int.reduceEq, Int.reduceLT, Int.reduceLE, Int.reduceNeg, Int.reduceAdd, Int.reduceSub, Int.reduceMul, Int.reduceNe, Int.reduceBNe, Int.reduceBEq, b__law_same_0, getRef, pop_new, dup, hr, wipe_nil, wipe_cons, hc, List.length_range, List.length_map, hL2]
      simp only [E1, E2, E3, E4, E5, E6, E7, E8, E9, List.map_cons, List.map_nil, List.cons_append, List.nil_append, List.append_nil, List.length_cons, List.length_nil, List.replicate_zero, List.replicate_succ, Nat.sub_self, Nat.zero_add, List.getElem?_cons_zero, List.getElem?_cons_succ, List.set_cons_zero, List.set_cons_succ, if_true, if_false, Bool.false_eq_true, decide_true, decide_false, Bool.not_true, Bool.not_false, decide_eq_true_eq, eq_self, Int.cast_ofNat_Int, Int.natCast_zero, Int.natCast_one, Nat.reduceLeDiff, Nat.reduceSub, Nat.reduceAdd, Nat.reduceLT, reduceIte, reduceCtorEq, Int.reduceEq, Int.reduceLT, Int.reduceLE, Int.reduceNeg, Int.reduceAdd, Int.reduceSub, Int.reduceMul, Int.reduceNe, Int.reduceBNe, Int.reduceBEq, ext_new, hL, List.map_append]
  | flst _ => cases n <;> exact absurd (show false = true from hd) Bool.false_ne_true
  | ref _ => cases n <;> exact absurd (show false = true from hd) Bool.false_ne_true
  | ty _ => cases n <;> exact absurd (show false = true from hd) Bool.false_ne_true
theorem same_loop {cl : Nat → List D → Sto → Rs D} {n : Nat} (hn : n ≤ 60) (m : Nat) : ∀ (ds : List D) (a0 a1 a3 a4 a5 a6 a7 : Option D), szDs ds ≤ m → szDs ds ≤ 1000000 → okDs n ds = true →
    ∃ (b3 b4 b5 b6 b7 : Option D), whE (evT G cl c__law_same_0) (evSs G cl b__law_same_0) [a0, a1, some (.ref S.length), a3, a4, a5, a6, a7] (S ++ [.lst (ds.map dup)]) = some (.nx [a0, a1, some (.ref S.length), b3, b4, b5, b6, b7], S ++ [.lst []]) := by
  induction m with
  | zero =>
    intro ds a0 a1 a3 a4 a5 a6 a7 hm h1 ho
    cases ds with
    | nil =>
      refine ⟨a3, a4, a5, a6, a7, whE_end ?_⟩
      have := ne_nil (S := S) (ds := []) (n := 0) rfl (by decide)
      simp only [E1, E2, E3, E4, E5, E6, E7, E8, E9, List.map_cons, List.map_nil, List.cons_append, List.nil_append, List.append_nil, List.length_cons, List.length_nil, List.replicate_zero, List.replicate_succ, Nat.sub_self, Nat.zero_add, List.getElem?_cons_zero, List.getElem?_cons_succ, List.set_cons_zero, List.set_cons_succ, if_true, if_false, Bool.false_eq_true, decide_true, decide_false, Bool.not_true, Bool.not_false, decide_eq_true_eq, eq_self, Int.cast_ofNat_Int, Int.natCast_zero, Int.natCast_one, Nat.reduceLeDiff, Nat.reduceSub, Nat.reduceAdd, Nat.reduceLT, reduceIte, reduceCtorEq, Int.reduceEq, Int.reduceLT, Int.reduceLE, Int.reduceNeg, Int.reduceAdd, Int.reduceSub, Int.reduceMul, Int.reduceNe, Int.reduceBNe, Int.reduceBEq, c__law_same_0, this, List.isEmpty_nil]
    | cons d ds =>
      have : szDs (d :: ds) = szD d + szDs ds := rfl
      have : 1 ≤ szD d := by cases d <;> simp [szD]
      omega
  | succ m ih =>
    intro ds a0 a1 a3 a4 a5 a6 a7 hm h1 ho
    rcases List.eq_nil_or_concat ds with rfl | ⟨es, d, rfl⟩
    · exact ih [] a0 a1 a3 a4 a5 a6 a7 (Nat.zero_le _) (Nat.zero_le _) rfl
    · rw [List.concat_eq_append] at *
      rw [szDs_ap] at hm h1
      have ho' := ho
      rw [okDs_ap] at ho
      obtain ⟨o1, o2⟩ := bk ho
      have o3 : okD n d = true := (bk (show (okD n d && true) = true from o2)).1
      have e1 : szDs [d] = szD d := by simp [szDs]
      obtain ⟨b3, b4, b5, b6, b7, fs, hb, hf, hs⟩ := same_turn (S := S) (cl := cl) (d := d) (ds := es) (a0 := a0) (a1 := a1) (a3 := a3) (a4 := a4) (a5 := a5) (a6 := a6) (a7 := a7) o3 hn (by omega)
      obtain ⟨c3, c4, c5, c6, c7, h⟩ := ih (es ++ fs) a0 a1 b3 b4 b5 b6 b7 (by rw [szDs_ap]; omega) (by rw [szDs_ap]; omega) (by rw [okDs_ap, o1, hf]; rfl)
      refine ⟨c3, c4, c5, c6, c7, whE_turn ?_ hb h⟩
      have hok : okDs (n + 1) ((es ++ [d]).map dup) = true := dup_ok ho'
      have := ne_nil (S := S) hok (by omega)
      simp only [E1, E2, E3, E4, E5, E6, E7, E8, E9, List.map_cons, List.map_nil, List.cons_append, List.nil_append, List.append_nil, List.length_cons, List.length_nil, List.replicate_zero, List.replicate_succ, Nat.sub_self, Nat.zero_add, List.getElem?_cons_zero, List.getElem?_cons_succ, List.set_cons_zero, List.set_cons_succ, if_true, if_false, Bool.false_eq_true, decide_true, decide_false, Bool.not_true, Bool.not_false, decide_eq_true_eq, eq_self, Int.cast_ofNat_Int, Int.natCast_zero, Int.natCast_one, Nat.reduceLeDiff, Nat.reduceSub, Nat.reduceAdd, Nat.reduceLT, reduceIte, reduceCtorEq, Int.reduceEq, Int.reduceLT, Int.reduceLE, Int.reduceNeg, Int.reduceAdd, Int.reduceSub, Int.reduceMul, Int.reduceNe, Int.reduceBNe, Int.reduceBEq, c__law_same_0, this]
      simp
theorem same_ok {d : D} {n : Nat} (h : okD n d = true) (hn : n ≤ 60) (hz : szD d ≤ 1000000) : callK G (k + 1) i__law_same [d, d] S = some (.bl true, S) := by
  rw [call_fn g__law_same rfl]
  have hd : okDs n [d] = true := by
    show (okD n d && true) = true
    rw [h]
    rfl
  obtain ⟨b3, b4, b5, b6, b7, hl⟩ := same_loop (S := S) (cl := callK G k) hn (szD d) [d] (some d) (some d) none none none none none (by simp [szDs]) (by simp [szDs]; omega) hd
  have hl' : whE (evT G (callK G k) c__law_same_0) (evSs G (callK G k) b__law_same_0) [some d, some d, some (.ref S.length), none, none, none, none, none] (S ++ [.lst [.tup [d, d]]]) = some (.nx [some d, some d, some (.ref S.length), b3, b4, b5, b6, b7], S ++ [.lst []]) := hl
  simp only [E1, E2, E3, E4, E5, E6, E7, E8, E9, List.map_cons, List.map_nil, List.cons_append, List.nil_append, List.append_nil, List.length_cons, List.length_nil, List.replicate_zero, List.replicate_succ, Nat.sub_self, Nat.zero_add, List.getElem?_cons_zero, List.getElem?_cons_succ, List.set_cons_zero, List.set_cons_succ, if_true, if_false, Bool.false_eq_true, decide_true, decide_false, Bool.not_true, Bool.not_false, decide_eq_true_eq, eq_self, Int.cast_ofNat_Int, Int.natCast_zero, Int.natCast_one, Nat.reduceLeDiff, Nat.reduceSub, Nat.reduceAdd, Nat.reduceLT, reduceIte, reduceCtorEq, Int.reduceEq, Int.reduceLT, Int.reduceLE, Int.reduceNeg, Int.reduceAdd, Int.reduceSub, Int.reduceMul, Int.reduceNe, Int.reduceBNe, Int.reduceBEq, f__law_same, hl', prune_one bl_bl]
end

section
variable {k : Nat} {S T : Sto}
def wC (L : List D) (a : Int) : Cell := .dk [(.inr "draws", .lst L), (.inr "at", .int a)]
theorem w_at0 {L : List D} {a : Int} : (wC L a :: T)[0]? = some (wC L a) := rfl
/-- the next draw -/
theorem next_ok {L : List D} {a m : Int} (hL : ∀ d ∈ L, ∃ x : Int, d = .int x) (hm : 0 < m) (ha : 0 ≤ a) : ∃ v : Int, 0 ≤ v ∧ v < m ∧ callK G (k + 1) i__law_next [.ref 0, .int m] (wC L a :: T) = some (.int v, wC L (a + 1) :: T) := by
  rw [call_fn g__law_next rfl]
  have hs : ¬ (("draws" : Str) = ("at" : Str)) := by decide +kernel
  have hz : 2 < sizeLine := by rw [size_eq]; decide
  have e1 : augGet (wC L a :: T) (.ref 0) (.str "at") = some (.int a) := by
    simp [augGet, wC, keyD, lookK, hs]
  have e2 : putI (wC L a :: T) (.ref 0) (.str "at") (.int (a + 1)) = some (wC L (a + 1) :: T) := by
    simp [putI, wC, keyD, storeK, hz, hs]
  have e3 : idxD (wC L (a + 1) :: T) (.ref 0) (.str "at") = some (.int (a + 1)) := by
    simp [idxD, wC, keyD, lookK, hs]
  have e4 : idxD (wC L (a + 1) :: T) (.ref 0) (.str "draws") = some (.lst L) := by
    simp [idxD, wC, keyD, lookK, hs]
  have pl : ∀ d, prune (wC L a :: T) d (wC L (a + 1) :: T) = (d, wC L (a + 1) :: T) := fun d => prune_len rfl
  by_cases c : (L.length : Int) < a + 1
  · refine ⟨0, Int.le_refl _, hm, ?_⟩
    simp only [E1, E2, E3, E4, E5, E6, E7, E8, E9, List.map_cons, List.map_nil, List.cons_append, List.nil_append, List.append_nil, List.length_cons, List.length_nil, List.replicate_zero, List.replicate_succ, Nat.sub_self, Nat.zero_add, List.getElem?_cons_zero, List.getElem?_cons_succ, List.set_cons_zero, List.set_cons_succ, if_true, if_false, Bool.false_eq_true, decide_true, decide_false, Bool.not_true, Bool.not_false, decide_eq_true_eq, eq_self, Int.cast_ofNat_Int, Int.natCast_zero, Int.natCast_one, Nat.reduceLeDiff, Nat.reduceSub, Nat.reduceAdd, Nat.reduceLT, reduceIte, reduceCtorEq, Int.reduceEq, Int.reduceLT, Int.reduceLE, Int.reduceNeg, Int.reduceAdd, Int.reduceSub, Int.reduceMul, Int.reduceNe, Int.reduceBNe, Int.reduceBEq, f__law_next, e1, e2, e3, e4, c, pl]
  · have hi : (a.toNat) < L.length := by omega
    have hat : atI L (a + 1 - 1) = some L[a.toNat] := by
      have := at_nat hi
      rw [show a + 1 - 1 = ((a.toNat : Nat) : Int) by omega]
      exact this
    obtain ⟨x, hx⟩ := hL _ (List.getElem_mem hi)
    refine ⟨x.fmod m, Int.fmod_nonneg_of_pos _ hm, Int.fmod_lt_of_pos _ hm, ?_⟩
    have hm' : m ≠ 0 := by omega
    simp only [E1, E2, E3, E4, E5, E6, E7, E8, E9, List.map_cons, List.map_nil, List.cons_append, List.nil_append, List.append_nil, List.length_cons, List.length_nil, List.replicate_zero, List.replicate_succ, Nat.sub_self, Nat.zero_add, List.getElem?_cons_zero, List.getElem?_cons_succ, List.set_cons_zero, List.set_cons_succ, if_true, if_false, Bool.false_eq_true, decide_true, decide_false, Bool.not_true, Bool.not_false, decide_eq_true_eq, eq_self, Int.cast_ofNat_Int, Int.natCast_zero, Int.natCast_one, Nat.reduceLeDiff, Nat.reduceSub, Nat.reduceAdd, Nat.reduceLT, reduceIte, reduceCtorEq, Int.reduceEq, Int.reduceLT, Int.reduceLE, Int.reduceNeg, Int.reduceAdd, Int.reduceSub, Int.reduceMul, Int.reduceNe, Int.reduceBNe, Int.reduceBEq, f__law_next, e1, e2, e3, e4, c, pl, hat, hx, hm', ne_eq, not_false_eq_true]
theorem pick_ok {L : List D} {a : Int} {xs : List D} (hL : ∀ d ∈ L, ∃ x : Int, d = .int x) (hx : xs ≠ []) (ha : 0 ≤ a) : ∃ d ∈ xs, callK G (k + 2) i__law_pick [.ref 0, .lst xs] (wC L a :: T) = some (d, wC L (a + 1) :: T) := by
  have hp : 0 < xs.length := List.length_pos_iff.mpr hx
  obtain ⟨v, h1, h2, h3⟩ := next_ok (k := k) (T := T) (m := (xs.length : Int)) hL (by omega) ha
  have hi : v.toNat < xs.length := by omega
  refine ⟨xs[v.toNat], List.getElem_mem hi, ?_⟩
  rw [call_fn g__law_pick rfl]
  have hat : atI xs v = some xs[v.toNat] := by
    have := at_nat hi
    rw [show ((v.toNat : Nat) : Int) = v by omega] at this
    exact this
  have pl : ∀ d, prune (wC L a :: T) d (wC L (a + 1) :: T) = (d, wC L (a + 1) :: T) := fun d => prune_len rfl
  simp only [E1, E2, E3, E4, E5, E6, E7, E8, E9, List.map_cons, List.map_nil, List.cons_append, List.nil_append, List.append_nil, List.length_cons, List.length_nil, List.replicate_zero, List.replicate_succ, Nat.sub_self, Nat.zero_add, List.getElem?_cons_zero, List.getElem?_cons_succ, List.set_cons_zero, List.set_cons_succ, if_true, if_false, Bool.false_eq_true, decide_true, decide_false, Bool.not_true, Bool.not_false, decide_eq_true_eq, eq_self, Int.cast_ofNat_Int, Int.natCast_zero, Int.natCast_one, Nat.reduceLeDiff, Nat.reduceSub, Nat.reduceAdd, Nat.reduceLT, reduceIte, reduceCtorEq, Int.reduceEq, Int.reduceLT, Int.reduceLE, Int.reduceNeg, Int.reduceAdd, Int.reduceSub, Int.reduceMul, Int.reduceNe, Int.reduceBNe, Int.reduceBEq, f__law_pick, h3, hat, pl]
/-! the draws -/
theorem p18 : powOk 10 18 := by
  refine ⟨by decide, by decide, ?_⟩
  show (10 : Nat) < 2 ^ 64
  decide
theorem d997 : divOk 997 := ⟨by decide, by decide +kernel⟩
theorem draws_rest {cl : Nat → List D → Sto → Rs D} {a0 a1 a3 a4 a5 a7 : Option D} {c : Int} {xs : List Int} (hc : 0 ≤ c) (hl : xs.length ≤ 100000) :
    ∃ (c' : Int) (b7 : Option D) (ys : List Int), forL none ((List.range 60).map fun (i : Nat) => D.int (i : Int)) (fbd G cl (.name 7) b__law_draws_1) ((List.range 60).map fun (i : Nat) => D.int (i : Int)) [a0, a1, some (.ref S.length), a3, a4, a5, some (.int c), a7] (S ++ [.lst (xs.map D.int)]) = some (.nx [a0, a1, some (.ref S.length), a3, a4, a5, some (.int c'), b7], S ++ [.lst (ys.map D.int)]) ∧ ys.length ≤ xs.length + 60 := by
  have := forL_run (all := (List.range 60).map fun (i : Nat) => D.int (i : Int)) (body := fbd G cl (.name 7) b__law_draws_1) (xs := (List.range 60).map fun (i : Nat) => D.int (i : Int)) (ρ := [a0, a1, some (.ref S.length), a3, a4, a5, some (.int c), a7]) (S := S ++ [.lst (xs.map D.int)])
    (I := fun i ρ S' => ∃ (c' : Int) (b7 : Option D) (ys : List Int), ρ = [a0, a1, some (.ref S.length), a3, a4, a5, some (.int c'), b7] ∧ S' = S ++ [.lst (ys.map D.int)] ∧ ys.length ≤ xs.length + i) ?_ ⟨c, a7, xs, rfl, rfl, Nat.le_refl _⟩
  · obtain ⟨ρ1, S1, h, c', b7, ys, rfl, rfl, hy⟩ := this
    exact ⟨c', b7, ys, h, by simpa using hy⟩
  · rintro i x ρ S' hx ⟨c', b7, ys, rfl, rfl, hy⟩
    have hi : i < 60 := by
      have := (List.getElem?_eq_some_iff.mp hx).1
      simpa using this
    by_cases hp : 0 < c'
    · have hl' : (ys.map D.int).length < sizeLine := by
        have : (ys.map D.int).length + 1 ≤ sizeLine := le_size (by simp; omega)
        omega
      refine ⟨[a0, a1, some (.ref S.length), a3, a4, a5, some (.int (c'.fdiv 997)), some x], S ++ [.lst ((ys ++ [c'.fmod 997]).map D.int)], ?_, c'.fdiv 997, some x, _, rfl, rfl, by simp; omega⟩
      unfold fbd
      simp only [E1, E2, E3, E4, E5, E6, E7, E8, E9, List.map_cons, List.map_nil, List.cons_append, List.nil_append, List.append_nil, List.length_cons, List.length_nil, List.replicate_zero, List.replicate_succ, Nat.sub_self, Nat.zero_add, List.getElem?_cons_zero, List.getElem?_cons_succ, List.set_cons_zero, List.set_cons_succ, if_true, if_false, Bool.false_eq_true, decide_true, decide_false, Bool.not_true, Bool.not_false, decide_eq_true_eq, eq_self, Int.cast_ofNat_Int, Int.natCast_zero, Int.natCast_one, Nat.reduceLeDiff, Nat.reduceSub, Nat.reduceAdd, Nat.reduceLT, reduceIte, reduceCtorEq, Int.reduceEq, Int.reduceLT, Int.reduceLE, Int.reduceNeg, Int.reduceAdd, Int.reduceSub, Int.reduceMul, Int.reduceNe, Int.reduceBNe, Int.reduceBEq, b__law_draws_1, hp, getRef, ap_new, hl', d997, ne_eq, not_false_eq_true, List.map_append]
    · refine ⟨_, _, ?_, c', some x, ys, rfl, rfl, by omega⟩
      unfold fbd
      simp only [E1, E2, E3, E4, E5, E6, E7, E8, E9, List.map_cons, List.map_nil, List.cons_append, List.nil_append, List.append_nil, List.length_cons, List.length_nil, List.replicate_zero, List.replicate_succ, Nat.sub_self, Nat.zero_add, List.getElem?_cons_zero, List.getElem?_cons_succ, List.set_cons_zero, List.set_cons_succ, if_true, if_false, Bool.false_eq_true, decide_true, decide_false, Bool.not_true, Bool.not_false, decide_eq_true_eq, eq_self, Int.cast_ofNat_Int, Int.natCast_zero, Int.natCast_one, Nat.reduceLeDiff, Nat.reduceSub, Nat.reduceAdd, Nat.reduceLT, reduceIte, reduceCtorEq, Int.reduceEq, Int.reduceLT, Int.reduceLE, Int.reduceNeg, Int.reduceAdd, Int.reduceSub, Int.reduceMul, Int.reduceNe, Int.reduceBNe, Int.reduceBEq, b__law_draws_1, hp]
theorem draws_ok {ns : List Int} {m : Nat} (hn : ns.length ≤ 63) (hm : m ≤ 30000) : ∃ L : List Int, callK G (k + 1) i__law_draws [.flst (ns.map D.int), .int (m : Int)] S = some (.lst (L.map D.int), S) := by
  rw [call_fn g__law_draws rfl]
  have r1 := rng_nat (n := ns.length) (by omega)
  have r2 := rng_nat (n := m) (by omega)
  have r3 := rng_nat (n := 60) (by omega)
  obtain ⟨ρ1, S1, h1, x4, x5, x6, x7, mx, ys, rfl, rfl, hmx, hys⟩ := forL_run (all := (List.range ns.length).map fun (i : Nat) => D.int (i : Int)) (body := fbd G (callK G k) (.name 4) b__law_draws_0) (xs := (List.range ns.length).map fun (i : Nat) => D.int (i : Int)) (ρ := [some (.flst (ns.map D.int)), some (.int (m : Int)), some (.ref S.length), some (.int 7), none, none, none, none]) (S := S ++ [.lst []])
    (I := fun i ρ S' => ∃ (x4 x5 x6 x7 : Option D) (mx : Int) (ys : List Int), ρ = [some (.flst (ns.map D.int)), some (.int (m : Int)), some (.ref S.length), some (.int mx), x4, x5, x6, x7] ∧ S' = S ++ [.lst (ys.map D.int)] ∧ Bd 17 mx ∧ ys.length ≤ 62 * i)
    (by
      rintro i x ρ S' hx ⟨x4, x5, x6, x7, mx, ys, rfl, rfl, hmx, hys⟩
      have hi : i < ns.length := by
        have := (List.getElem?_eq_some_iff.mp hx).1
        simpa using this
      have hxi : x = .int (i : Int) := by
        have := (List.getElem?_eq_some_iff.mp hx).2
        simpa using this.symm
      subst hxi
      have hat := at_nat (xs := ns.map D.int) (n := i) (by simpa using hi)
      simp only [List.getElem_map] at hat
      have m1 := hmx.mulOk (n := 17) (m := 16) (b := 48271) (show (48271 : Nat) < 2 ^ 16 by decide) (by decide)
      have hp : (10 : Int) ^ (18 : Int).toNat = 1000000000000000000 := by decide
      have z1 : (1000003 : Int) ≠ 0 := by decide
      have z2 : (65537 : Int) ≠ 0 := by decide
      have b2 : ∀ z : Int, Bd 17 (z.fmod 65537) := fun z => by
        have h1 := Int.fmod_nonneg_of_pos z (b := 65537) (by decide)
        have h2 := Int.fmod_lt_of_pos z (b := 65537) (by decide)
        show (z.fmod 65537).natAbs < 131072
        omega
      by_cases c : (1000000000000000000 : Int) ≤ (ns[i].natAbs : Int)
      · obtain ⟨c', b7, zs, h, hz⟩ := draws_rest (S := S) (cl := callK G k) (a0 := some (.flst (ns.map D.int))) (a1 := some (.int (m : Int))) (a3 := some (.int ((mx * 48271 + ((ns[i].natAbs : Int)).fmod 1000003 + i).fmod 65537))) (a4 := some (.int (i : Int))) (a5 := some (.int (ns[i].natAbs : Int))) (a7 := x7) (c := (ns[i].natAbs : Int)) (xs := ys) (by omega) (by omega)
        refine ⟨_, _, ?_, some (.int (i : Int)), some (.int (ns[i].natAbs : Int)), some (.int c'), b7, (mx * 48271 + ((ns[i].natAbs : Int)).fmod 1000003 + i).fmod 65537, zs, rfl, rfl, b2 _, by omega⟩
        unfold fbd
        simp only [E1, E2, E3, E4, E5, E6, E7, E8, E9, List.map_cons, List.map_nil, List.cons_append, List.nil_append, List.append_nil, List.length_cons, List.length_nil, List.replicate_zero, List.replicate_succ, Nat.sub_self, Nat.zero_add, List.getElem?_cons_zero, List.getElem?_cons_succ, List.set_cons_zero, List.set_cons_succ, if_true, if_false, Bool.false_eq_true, decide_true, decide_false, Bool.not_true, Bool.not_false, decide_eq_true_eq, eq_self, Int.cast_ofNat_Int, Int.natCast_zero, Int.natCast_one, Nat.reduceLeDiff, Nat.reduceSub, Nat.reduceAdd, Nat.reduceLT, reduceIte, reduceCtorEq, Int.reduceEq, Int.reduceLT, Int.reduceLE, Int.reduceNeg, Int.reduceAdd, Int.reduceSub, Int.reduceMul, Int.reduceNe, Int.reduceBNe, Int.reduceBEq, b__law_draws_0, hat, abs_nat, m1, p18, hp, c, ne_eq, not_false_eq_true]
        rw [show (60 : Int) = ((60 : Nat) : Int) from rfl, r3]
        simp only [E1, E2, E3, E4, E5, E6, E7, E8, E9, List.map_cons, List.map_nil, List.cons_append, List.nil_append, List.append_nil, List.length_cons, List.length_nil, List.replicate_zero, List.replicate_succ, Nat.sub_self, Nat.zero_add, List.getElem?_cons_zero, List.getElem?_cons_succ, List.set_cons_zero, List.set_cons_succ, if_true, if_false, Bool.false_eq_true, decide_true, decide_false, Bool.not_true, Bool.not_false, decide_eq_true_eq, eq_self, Int.cast_ofNat_Int, Int.natCast_zero, Int.natCast_one, Nat.reduceLeDiff, Nat.reduceSub, Nat.reduceAdd, Nat.reduceLT, reduceIte, reduceCtorEq, Int.reduceEq, Int.reduceLT, Int.reduceLE, Int.reduceNeg, Int.reduceAdd, Int.reduceSub, Int.reduceMul, Int.reduceNe, Int.reduceBNe, Int.reduceBEq, List.length_map, List.length_range]
        rw [h]
        simp only [E1, E2, E3, E4, E5, E6, E7, E8, E9, List.map_cons, List.map_nil, List.cons_append, List.nil_append, List.append_nil, List.length_cons, List.length_nil, List.replicate_zero, List.replicate_succ, Nat.sub_self, Nat.zero_add, List.getElem?_cons_zero, List.getElem?_cons_succ, List.set_cons_zero, List.set_cons_succ, if_true, if_false, Bool.false_eq_true, decide_true, decide_false, Bool.not_true, Bool.not_false, decide_eq_true_eq, eq_self, Int.cast_ofNat_Int, Int.natCast_zero, Int.natCast_one, Nat.reduceLeDiff, Nat.reduceSub, Nat.reduceAdd, Nat.reduceLT, reduceIte, reduceCtorEq, Int.reduceEq, Int.reduceLT, Int.reduceLE, Int.reduceNeg, Int.reduceAdd, Int.reduceSub, Int.reduceMul, Int.reduceNe, Int.reduceBNe, Int.reduceBEq]
      · have hl1 : (ys.map D.int).length < sizeLine := by
          have : (ys.map D.int).length + 1 ≤ sizeLine := le_size (by simp; omega)
          omega
        have hl2 : (ys.map D.int).length + 1 < sizeLine := by
          have : (ys.map D.int).length + 1 + 1 ≤ sizeLine := le_size (by simp; omega)
          omega
        have m2 := (b2 (mx * 48271 + ((ns[i].natAbs : Int)).fmod 1000003 + i)).mulOk (n := 17) (m := 17) (b := 69621) (show (69621 : Nat) < 2 ^ 17 by decide) (by decide)
        obtain ⟨c', b7, zs, h, hz⟩ := draws_rest (S := S) (cl := callK G k) (a0 := some (.flst (ns.map D.int))) (a1 := some (.int (m : Int))) (a3 := some (.int ((mx * 48271 + ((ns[i].natAbs : Int)).fmod 1000003 + i).fmod 65537))) (a4 := some (.int (i : Int))) (a5 := some (.int (ns[i].natAbs : Int))) (a7 := x7) (c := 0) (xs := ys ++ [((ns[i].natAbs : Int)).fmod 997, (((mx * 48271 + ((ns[i].natAbs : Int)).fmod 1000003 + i).fmod 65537 * 69621 + 5).fmod 65521).fmod 997]) (by omega) (by simp; omega)
        refine ⟨_, _, ?_, some (.int (i : Int)), some (.int (ns[i].natAbs : Int)), some (.int c'), b7, (mx * 48271 + ((ns[i].natAbs : Int)).fmod 1000003 + i).fmod 65537, zs, rfl, rfl, b2 _, by simp at hz; omega⟩
        unfold fbd
        simp only [E1, E2, E3, E4, E5, E6, E7, E8, E9, List.map_cons, List.map_nil, List.cons_append, List.nil_append, List.append_nil, List.length_cons, List.length_nil, List.replicate_zero, List.replicate_succ, Nat.sub_self, Nat.zero_add, List.getElem?_cons_zero, List.getElem?_cons_succ, List.set_cons_zero, List.set_cons_succ, if_true, if_false, Bool.false_eq_true, decide_true, decide_false, Bool.not_true, Bool.not_false, decide_eq_true_eq, eq_self, Int.cast_ofNat_Int, Int.natCast_zero, Int.natCast_one, Nat.reduceLeDiff, Nat.reduceSub, Nat.reduceAdd, Nat.reduceLT, reduceIte, reduceCtorEq, Int.reduceEq, Int.reduceLT, Int.reduceLE, Int.reduceNeg, Int.reduceAdd, Int.reduceSub, Int.reduceMul, Int.reduceNe, Int.reduceBNe, Int.reduceBEq, b__law_draws_0, hat, abs_nat, m1, m2, p18, hp, c, ne_eq, not_false_eq_true, getRef, ap_new, hl1, hl2, List.length_append]
        rw [show (60 : Int) = ((60 : Nat) : Int) from rfl, r3]
        simp only [List.map_append, List.map_cons, List.map_nil] at h
        simp only [E1, E2, E3, E4, E5, E6, E7, E8, E9, List.map_cons, List.map_nil, List.cons_append, List.nil_append, List.append_nil, List.length_cons, List.length_nil, List.replicate_zero, List.replicate_succ, Nat.sub_self, Nat.zero_add, List.getElem?_cons_zero, List.getElem?_cons_succ, List.set_cons_zero, List.set_cons_succ, if_true, if_false, Bool.false_eq_true, decide_true, decide_false, Bool.not_true, Bool.not_false, decide_eq_true_eq, eq_self, Int.cast_ofNat_Int, Int.natCast_zero, Int.natCast_one, Nat.reduceLeDiff, Nat.reduceSub, Nat.reduceAdd, Nat.reduceLT, reduceIte, reduceCtorEq, Int.reduceEq, Int.reduceLT, Int.reduceLE, Int.reduceNeg, Int.reduceAdd, Int.reduceSub, Int.reduceMul, Int.reduceNe, Int.reduceBNe, Int.reduceBEq, List.append_assoc, h])
    ⟨none, none, none, none, 7, [], rfl, rfl, (by show (7 : Nat) < 2 ^ 17; decide), Nat.le_refl _⟩
  obtain ⟨ρ2, S2, h2, y4, y5, y6, y7, my, zs, rfl, rfl, hmy, hzs⟩ := forL_run (all := (List.range m).map fun (i : Nat) => D.int (i : Int)) (body := fbd G (callK G k) (.name 4) b__law_draws_2) (xs := (List.range m).map fun (i : Nat) => D.int (i : Int)) (ρ := [some (.flst (ns.map D.int)), some (.int (m : Int)), some (.ref S.length), some (.int mx), x4, x5, x6, x7]) (S := S ++ [.lst (ys.map D.int)])
    (I := fun i ρ S' => ∃ (x4 x5 x6 x7 : Option D) (mx : Int) (zs : List Int), ρ = [some (.flst (ns.map D.int)), some (.int (m : Int)), some (.ref S.length), some (.int mx), x4, x5, x6, x7] ∧ S' = S ++ [.lst (zs.map D.int)] ∧ Bd 17 mx ∧ zs.length ≤ 62 * 63 + i)
    (by
      rintro i x ρ S' hx ⟨x4, x5, x6, x7, mx, zs, rfl, rfl, hmx, hzs⟩
      have hi : i < m := by
        have := (List.getElem?_eq_some_iff.mp hx).1
        simpa using this
      have hxi : x = .int (i : Int) := by
        have := (List.getElem?_eq_some_iff.mp hx).2
        simpa using this.symm
      subst hxi
      have m1 := hmx.mulOk (n := 17) (m := 15) (b := 16807) (show (16807 : Nat) < 2 ^ 15 by decide) (by decide)
      have hl1 : (zs.map D.int).length < sizeLine := by
        have : (zs.map D.int).length + 1 ≤ sizeLine := le_size (by simp; omega)
        omega
      refine ⟨_, _, ?_, some (.int (i : Int)), x5, x6, x7, (mx * 16807 + i + 1).fmod 65537, zs ++ [((mx * 16807 + i + 1).fmod 65537).fmod 997], rfl, rfl, ?_, by simp; omega⟩
      · unfold fbd
        simp only [E1, E2, E3, E4, E5, E6, E7, E8, E9, List.map_cons, List.map_nil, List.cons_append, List.nil_append, List.append_nil, List.length_cons, List.length_nil, List.replicate_zero, List.replicate_succ, Nat.sub_self, Nat.zero_add, List.getElem?_cons_zero, List.getElem?_cons_succ, List.set_cons_zero, List.set_cons_succ, if_true, if_false, Bool.false_eq_true, decide_true, decide_false, Bool.not_true, Bool.not_false, decide_eq_true_eq, eq_self, Int.cast_ofNat_Int, Int.natCast_zero, Int.natCast_one, Nat.reduceLeDiff, Nat.reduceSub, Nat.reduceAdd, Nat.reduceLT, reduceIte, reduceCtorEq, Int.reduceEq, Int.reduceLT, Int.reduceLE, Int.reduceNeg, Int.reduceAdd, Int.reduceSub, Int.reduceMul, Int.reduceNe, Int.reduceBNe, Int.reduceBEq, b__law_draws_2, m1, ne_eq, not_false_eq_true, getRef, ap_new, hl1, List.map_append]
      · have h1 := Int.fmod_nonneg_of_pos (mx * 16807 + i + 1) (b := 65537) (by decide)
        have h2 := Int.fmod_lt_of_pos (mx * 16807 + i + 1) (b := 65537) (by decide)
        show ((mx * 16807 + i + 1).fmod 65537).natAbs < 131072
        omega)
    ⟨x4, x5, x6, x7, mx, ys, rfl, rfl, hmx, by simp at hys; omega⟩
  refine ⟨cutD zs none (some (m : Int)), ?_⟩
  have hcut : slD (S ++ [.lst (zs.map D.int)]) (.ref S.length) none (some (m : Int)) = some (.lst ((cutD zs none (some (m : Int))).map D.int)) := by
    show (lstOf (S ++ [.lst (zs.map D.int)]) (.ref S.length)).map _ = _
    rw [getRef]
    simp [cutD, List.map_take, List.map_drop]
  have hb : below S.length (.lst ((cutD zs none (some (m : Int))).map D.int)) = true := bls_map (f := D.int) (fun _ => rfl) _
  simp only [E1, E2, E3, E4, E5, E6, E7, E8, E9, List.map_cons, List.map_nil, List.cons_append, List.nil_append, List.append_nil, List.length_cons, List.length_nil, List.replicate_zero, List.replicate_succ, Nat.sub_self, Nat.zero_add, List.getElem?_cons_zero, List.getElem?_cons_succ, List.set_cons_zero, List.set_cons_succ, if_true, if_false, Bool.false_eq_true, decide_true, decide_false, Bool.not_true, Bool.not_false, decide_eq_true_eq, eq_self, Int.cast_ofNat_Int, Int.natCast_zero, Int.natCast_one, Nat.reduceLeDiff, Nat.reduceSub, Nat.reduceAdd, Nat.reduceLT, reduceIte, reduceCtorEq, Int.reduceEq, Int.reduceLT, Int.reduceLE, Int.reduceNeg, Int.reduceAdd, Int.reduceSub, Int.reduceMul, Int.reduceNe, Int.reduceBNe, Int.reduceBEq, f__law_draws, r1, r2, len_f, List.length_map, h1, h2, hcut, prune_one hb]
end

end Rw.Pk22

set_option exponentiation.threshold 300
namespace Rw.Pk22
open PySem L2 Rw
section
variable {k : Nat} {S : Sto} {p q r : Rat} {n : Nat}
theorem least_loop {cl : Nat → List D → Sto → Rs D} {x y : Option D} : ∀ n m : Nat, whE (evT G cl c__law_least_0) (evSs G cl b__law_least_0) [x, y, some (.int m), some (.int n)] S = some (.nx [x, y, some (.int (Nat.gcd m n : Nat)), some (.int 0)], S) := by
  intro n
  induction n using Nat.strongRecOn with
  | ind n ih =>
    intro m
    by_cases e : n = 0
    · subst e
      refine (whE_end (S1 := S) ?_).trans ?_
      · simp only [E1, E2, E3, E4, E5, E6, E7, E8, E9, List.map_cons, List.map_nil, List.cons_append, List.nil_append, List.append_nil, List.length_cons, List.length_nil, List.replicate_zero, List.replicate_succ, Nat.sub_self, Nat.zero_add, List.getElem?_cons_zero, List.getElem?_cons_succ, List.set_cons_zero, List.set_cons_succ, if_true, if_false, Bool.false_eq_true, decide_true, decide_false, Bool.not_true, Bool.not_false, decide_eq_true_eq, eq_self, Int.cast_ofNat_Int, Int.natCast_zero, Int.natCast_one, Nat.reduceLeDiff, Nat.reduceSub, Nat.reduceAdd, Nat.reduceLT, reduceIte, reduceCtorEq, Int.reduceEq, Int.reduceLT, Int.reduceLE, Int.reduceNeg, Int.reduceAdd, Int.reduceSub, Int.reduceMul, Int.reduceNe, Int.reduceBNe, Int.reduceBEq, c__law_least_0]
      · rw [Nat.gcd_zero_right]
        rfl
    · refine whE_turn (S1 := S) (ρ2 := [x, y, some (.int n), some (.int ((m % n : Nat) : Int))]) (S2 := S) ?_ ?_ ((ih (m % n) (Nat.mod_lt _ (by omega)) n).trans ?_)
      · have : (0 : Int) < (n : Int) := by omega
        simp only [E1, E2, E3, E4, E5, E6, E7, E8, E9, List.map_cons, List.map_nil, List.cons_append, List.nil_append, List.append_nil, List.length_cons, List.length_nil, List.replicate_zero, List.replicate_succ, Nat.sub_self, Nat.zero_add, List.getElem?_cons_zero, List.getElem?_cons_succ, List.set_cons_zero, List.set_cons_succ, if_true, if_false, Bool.false_eq_true, decide_true, decide_false, Bool.not_true, Bool.not_false, decide_eq_true_eq, eq_self, Int.cast_ofNat_Int, Int.natCast_zero, Int.natCast_one, Nat.reduceLeDiff, Nat.reduceSub, Nat.reduceAdd, Nat.reduceLT, reduceIte, reduceCtorEq, Int.reduceEq, Int.reduceLT, Int.reduceLE, Int.reduceNeg, Int.reduceAdd, Int.reduceSub, Int.reduceMul, Int.reduceNe, Int.reduceBNe, Int.reduceBEq, c__law_least_0, this]
      · have : (n : Int) ≠ 0 := by omega
        simp only [E1, E2, E3, E4, E5, E6, E7, E8, E9, List.map_cons, List.map_nil, List.cons_append, List.nil_append, List.append_nil, List.length_cons, List.length_nil, List.replicate_zero, List.replicate_succ, Nat.sub_self, Nat.zero_add, List.getElem?_cons_zero, List.getElem?_cons_succ, List.set_cons_zero, List.set_cons_succ, if_true, if_false, Bool.false_eq_true, decide_true, decide_false, Bool.not_true, Bool.not_false, decide_eq_true_eq, eq_self, Int.cast_ofNat_Int, Int.natCast_zero, Int.natCast_one, Nat.reduceLeDiff, Nat.reduceSub, Nat.reduceAdd, Nat.reduceLT, reduceIte, reduceCtorEq, Int.reduceEq, Int.reduceLT, Int.reduceLE, Int.reduceNeg, Int.reduceAdd, Int.reduceSub, Int.reduceMul, Int.reduceNe, Int.reduceBNe, Int.reduceBEq, b__law_least_0, this, fmod_nat, ne_eq, not_false_eq_true]
      · rw [Nat.gcd_comm m n, Nat.gcd_rec n m, Nat.gcd_comm]
theorem least_ok {u l : Int} (h : l ≠ 0) (b : Bd 8999 l) : callK G (k + 1) i__law_least [.int u, .int l] S = some (fr (Rat.divInt u l), S) := by
  have hd : divOk (if 0 < l then (Int.gcd u l : Int) else -(Int.gcd u l : Int)) := by
    split
    · exact (gcd_bd h b).divOk (gcd_ne h) (by omega)
    · exact (gcd_bd h b).neg.divOk (by have := gcd_ne (u := u) h; omega) (by omega)
  have hg : ((Nat.gcd u.natAbs l.natAbs : Nat) : Int) = (Int.gcd u l : Int) := rfl
  rw [call_fn g__law_least rfl, fr_div h]
  by_cases c : 0 < l
  · simp only [c, if_true] at hd ⊢
    simp only [E1, E2, E3, E4, E5, E6, E7, E8, E9, List.map_cons, List.map_nil, List.cons_append, List.nil_append, List.append_nil, List.length_cons, List.length_nil, List.replicate_zero, List.replicate_succ, Nat.sub_self, Nat.zero_add, List.getElem?_cons_zero, List.getElem?_cons_succ, List.set_cons_zero, List.set_cons_succ, if_true, if_false, Bool.false_eq_true, decide_true, decide_false, Bool.not_true, Bool.not_false, decide_eq_true_eq, eq_self, Int.cast_ofNat_Int, Int.natCast_zero, Int.natCast_one, Nat.reduceLeDiff, Nat.reduceSub, Nat.reduceAdd, Nat.reduceLT, reduceIte, reduceCtorEq, Int.reduceEq, Int.reduceLT, Int.reduceLE, Int.reduceNeg, Int.reduceAdd, Int.reduceSub, Int.reduceMul, Int.reduceNe, Int.reduceBNe, Int.reduceBEq, f__law_least, c, abs_nat, least_loop, hg, hd]
  · simp only [c, if_false] at hd ⊢
    simp only [E1, E2, E3, E4, E5, E6, E7, E8, E9, List.map_cons, List.map_nil, List.cons_append, List.nil_append, List.append_nil, List.length_cons, List.length_nil, List.replicate_zero, List.replicate_succ, Nat.sub_self, Nat.zero_add, List.getElem?_cons_zero, List.getElem?_cons_succ, List.set_cons_zero, List.set_cons_succ, if_true, if_false, Bool.false_eq_true, decide_true, decide_false, Bool.not_true, Bool.not_false, decide_eq_true_eq, eq_self, Int.cast_ofNat_Int, Int.natCast_zero, Int.natCast_one, Nat.reduceLeDiff, Nat.reduceSub, Nat.reduceAdd, Nat.reduceLT, reduceIte, reduceCtorEq, Int.reduceEq, Int.reduceLT, Int.reduceLE, Int.reduceNeg, Int.reduceAdd, Int.reduceSub, Int.reduceMul, Int.reduceNe, Int.reduceBNe, Int.reduceBEq, f__law_least, c, abs_nat, least_loop, hg, Int.zero_sub, hd]
theorem least_mul (h : Sm 4000 p) (g : Sm 4000 q) : callK G (k + 1) i__law_least [.int (p.num * q.num), .int ((p.den : Int) * (q.den : Int))] S = some (fr (p * q), S) := by
  rw [mul_eq]
  exact least_ok (Int.mul_ne_zero den_ne den_ne) ((h.dn.mul g.dn).mono (by decide))
theorem least_quo (h : Sm 4000 p) (g : Sm 4000 q) (z : q.num ≠ 0) : callK G (k + 1) i__law_least [.int (p.num * (q.den : Int)), .int ((p.den : Int) * q.num)] S = some (fr (p / q), S) := by
  rw [div_eq]
  exact least_ok (Int.mul_ne_zero den_ne z) ((h.dn.mul g.nm).mono (by decide))
theorem least_add (h : Sm 4000 p) (g : Sm 4000 q) : callK G (k + 1) i__law_least [.int (p.num * (q.den : Int) + q.num * (p.den : Int)), .int ((p.den : Int) * (q.den : Int))] S = some (fr (p + q), S) := by
  rw [add_eq]
  exact least_ok (Int.mul_ne_zero den_ne den_ne) ((h.dn.mul g.dn).mono (by decide))
theorem exponent_ok (h : Sm 3000 p) : callK G (k + 2) i_exponent_of [fr p] S = some (.int (expo p), S) := by
  rw [call_fn g_exponent_of rfl]
  have h1 := expF_le h
  have h2 := two_to_ok (k := k) (S := S) (b := expF p) (by omega)
  have h3 := is_most_ok (k := k) (S := S) (p := (2 : Rat) ^ expF p) (q := p.abs) ((sm_two (b := expF p) h1).mono (by decide)) (h.abs.mono (by decide))
  rw [fr_abs'] at h3
  have e : (bln p.num.natAbs : Int) - (bln p.den : Int) = expF p := rfl
  unfold expo
  by_cases c : (2 : Rat) ^ expF p ≤ p.abs
  · simp only [E1, E2, E3, E4, E5, E6, E7, E8, E9, List.map_cons, List.map_nil, List.cons_append, List.nil_append, List.append_nil, List.length_cons, List.length_nil, List.replicate_zero, List.replicate_succ, Nat.sub_self, Nat.zero_add, List.getElem?_cons_zero, List.getElem?_cons_succ, List.set_cons_zero, List.set_cons_succ, if_true, if_false, Bool.false_eq_true, decide_true, decide_false, Bool.not_true, Bool.not_false, decide_eq_true_eq, eq_self, Int.cast_ofNat_Int, Int.natCast_zero, Int.natCast_one, Nat.reduceLeDiff, Nat.reduceSub, Nat.reduceAdd, Nat.reduceLT, reduceIte, reduceCtorEq, Int.reduceEq, Int.reduceLT, Int.reduceLE, Int.reduceNeg, Int.reduceAdd, Int.reduceSub, Int.reduceMul, Int.reduceNe, Int.reduceBNe, Int.reduceBEq, f_exponent_of, idx_fr0, idx_fr1, abs_nat, bits_ok, e, h2, h3, c]
  · simp only [E1, E2, E3, E4, E5, E6, E7, E8, E9, List.map_cons, List.map_nil, List.cons_append, List.nil_append, List.append_nil, List.length_cons, List.length_nil, List.replicate_zero, List.replicate_succ, Nat.sub_self, Nat.zero_add, List.getElem?_cons_zero, List.getElem?_cons_succ, List.set_cons_zero, List.set_cons_succ, if_true, if_false, Bool.false_eq_true, decide_true, decide_false, Bool.not_true, Bool.not_false, decide_eq_true_eq, eq_self, Int.cast_ofNat_Int, Int.natCast_zero, Int.natCast_one, Nat.reduceLeDiff, Nat.reduceSub, Nat.reduceAdd, Nat.reduceLT, reduceIte, reduceCtorEq, Int.reduceEq, Int.reduceLT, Int.reduceLE, Int.reduceNeg, Int.reduceAdd, Int.reduceSub, Int.reduceMul, Int.reduceNe, Int.reduceBNe, Int.reduceBEq, f_exponent_of, idx_fr0, idx_fr1, abs_nat, bits_ok, e, h2, h3, c]
end

end Rw.Pk22

set_option exponentiation.threshold 300
namespace Rw.Pk22
open PySem L2 Rw
section
variable {k : Nat} {S : Sto} {d : Nat} {m M : Int} {q : Rat} {p : Int} {n : Nat} {way : Str} {s : Int}
theorem shl_d (h : Fm d m M) : shlOk 1 (d : Int) := shl_one (by omega) (by have := h.d2; omega)
theorem shl_d1 (h : Fm d m M) : shlOk 1 ((d : Int) - 1) := shl_one (by have := h.d1; omega) (by have := h.d2; omega)
theorem pow_d : (1 : Int) * 2 ^ (d : Int).toNat = ((2 ^ d : Nat) : Int) := by
  rw [Int.one_mul, Int.toNat_natCast, Int.natCast_pow]
  rfl
theorem pow_d1 (h : Fm d m M) : (1 : Int) * 2 ^ ((d : Int) - 1).toNat = ((fh d : Nat) : Int) := by
  have := h.d1
  rw [Int.one_mul, show ((d : Int) - 1).toNat = d - 1 by omega]
  unfold fh
  rw [Int.natCast_pow]
  rfl
/-- values of numbers -/
def sgQ (s : Int) (x : Rat) : Rat := if s = 1 then -x else x
theorem val_num {w : Nat} (hw : Bd 100 (w : Int)) (hp : p.natAbs ≤ 1000) : callK G (k + 5) i_value_of [numD s w p] S = some (fr (sgQ s ((w : Rat) * (2 : Rat) ^ p)), S) := by
  have e0 : D.tup [.int (w : Int), .int 1] = fr (w : Rat) := rfl
  have sm : Sm 4000 (w : Rat) := ⟨(Bd.mono hw (by decide) : Bd 4000 (w : Int)), Nat.one_lt_two_pow (by decide)⟩
  have e1 := shifted_ok (k := k) (S := S) (p := (w : Rat)) (b := p) sm (by omega)
  rw [call_fn g_value_of rfl]
  unfold sgQ
  by_cases c : s = 1
  · simp only [E1, E2, E3, E4, E5, E6, E7, E8, E9, List.map_cons, List.map_nil, List.cons_append, List.nil_append, List.append_nil, List.length_cons, List.length_nil, List.replicate_zero, List.replicate_succ, Nat.sub_self, Nat.zero_add, List.getElem?_cons_zero, List.getElem?_cons_succ, List.set_cons_zero, List.set_cons_succ, if_true, if_false, Bool.false_eq_true, decide_true, decide_false, Bool.not_true, Bool.not_false, decide_eq_true_eq, eq_self, Int.cast_ofNat_Int, Int.natCast_zero, Int.natCast_one, Nat.reduceLeDiff, Nat.reduceSub, Nat.reduceAdd, Nat.reduceLT, reduceIte, reduceCtorEq, Int.reduceEq, Int.reduceLT, Int.reduceLE, Int.reduceNeg, Int.reduceAdd, Int.reduceSub, Int.reduceMul, Int.reduceNe, Int.reduceBNe, Int.reduceBEq, f_value_of, idx_n0, idx_n1, idx_n2, idx_n3, YN, e0, e1, idx_fr0, idx_fr1, c]
    rfl
  · simp only [E1, E2, E3, E4, E5, E6, E7, E8, E9, List.map_cons, List.map_nil, List.cons_append, List.nil_append, List.append_nil, List.length_cons, List.length_nil, List.replicate_zero, List.replicate_succ, Nat.sub_self, Nat.zero_add, List.getElem?_cons_zero, List.getElem?_cons_succ, List.set_cons_zero, List.set_cons_succ, if_true, if_false, Bool.false_eq_true, decide_true, decide_false, Bool.not_true, Bool.not_false, decide_eq_true_eq, eq_self, Int.cast_ofNat_Int, Int.natCast_zero, Int.natCast_one, Nat.reduceLeDiff, Nat.reduceSub, Nat.reduceAdd, Nat.reduceLT, reduceIte, reduceCtorEq, Int.reduceEq, Int.reduceLT, Int.reduceLE, Int.reduceNeg, Int.reduceAdd, Int.reduceSub, Int.reduceMul, Int.reduceNe, Int.reduceBNe, Int.reduceBEq, f_value_of, idx_n0, idx_n1, idx_n2, idx_n3, YN, e0, e1, idx_fr0, idx_fr1, c]
theorem val_noth : callK G (k + 5) i_value_of [nothD s] S = some (fr 0, S) := by
  rw [call_fn g_value_of rfl]
  simp only [E1, E2, E3, E4, E5, E6, E7, E8, E9, List.map_cons, List.map_nil, List.cons_append, List.nil_append, List.append_nil, List.length_cons, List.length_nil, List.replicate_zero, List.replicate_succ, Nat.sub_self, Nat.zero_add, List.getElem?_cons_zero, List.getElem?_cons_succ, List.set_cons_zero, List.set_cons_succ, if_true, if_false, Bool.false_eq_true, decide_true, decide_false, Bool.not_true, Bool.not_false, decide_eq_true_eq, eq_self, Int.cast_ofNat_Int, Int.natCast_zero, Int.natCast_one, Nat.reduceLeDiff, Nat.reduceSub, Nat.reduceAdd, Nat.reduceLT, reduceIte, reduceCtorEq, Int.reduceEq, Int.reduceLT, Int.reduceLE, Int.reduceNeg, Int.reduceAdd, Int.reduceSub, Int.reduceMul, Int.reduceNe, Int.reduceBNe, Int.reduceBEq, f_value_of, idx_z0, c_NOTHING]
  rfl
theorem xq_sm (h : Fm d m M) (hq : Sm 1000 q) : (pw d m q).natAbs ≤ 1300 := by
  have h1 := expo_le hq
  have := h.d2
  have := h.m1
  unfold pw
  split
  · omega
  · split <;> omega
theorem unit_ok (h : Fm d m M) (hq : Sm 1000 q) : callK G (k + 3) i_unit_at [fmD d m M, fr q] S = some (.int (pw d m q), S) := by
  rw [call_fn g_unit_at rfl]
  unfold pw
  by_cases c : q.num = 0
  · simp only [E1, E2, E3, E4, E5, E6, E7, E8, E9, List.map_cons, List.map_nil, List.cons_append, List.nil_append, List.append_nil, List.length_cons, List.length_nil, List.replicate_zero, List.replicate_succ, Nat.sub_self, Nat.zero_add, List.getElem?_cons_zero, List.getElem?_cons_succ, List.set_cons_zero, List.set_cons_succ, if_true, if_false, Bool.false_eq_true, decide_true, decide_false, Bool.not_true, Bool.not_false, decide_eq_true_eq, eq_self, Int.cast_ofNat_Int, Int.natCast_zero, Int.natCast_one, Nat.reduceLeDiff, Nat.reduceSub, Nat.reduceAdd, Nat.reduceLT, reduceIte, reduceCtorEq, Int.reduceEq, Int.reduceLT, Int.reduceLE, Int.reduceNeg, Int.reduceAdd, Int.reduceSub, Int.reduceMul, Int.reduceNe, Int.reduceBNe, Int.reduceBEq, f_unit_at, idx_fm0, idx_fm1, idx_fr0, c]
  · simp only [E1, E2, E3, E4, E5, E6, E7, E8, E9, List.map_cons, List.map_nil, List.cons_append, List.nil_append, List.append_nil, List.length_cons, List.length_nil, List.replicate_zero, List.replicate_succ, Nat.sub_self, Nat.zero_add, List.getElem?_cons_zero, List.getElem?_cons_succ, List.set_cons_zero, List.set_cons_succ, if_true, if_false, Bool.false_eq_true, decide_true, decide_false, Bool.not_true, Bool.not_false, decide_eq_true_eq, eq_self, Int.cast_ofNat_Int, Int.natCast_zero, Int.natCast_one, Nat.reduceLeDiff, Nat.reduceSub, Nat.reduceAdd, Nat.reduceLT, reduceIte, reduceCtorEq, Int.reduceEq, Int.reduceLT, Int.reduceLE, Int.reduceNeg, Int.reduceAdd, Int.reduceSub, Int.reduceMul, Int.reduceNe, Int.reduceBNe, Int.reduceBEq, f_unit_at, idx_fm0, idx_fm1, idx_fr0, c, exponent_ok (hq.mono (by decide))]
theorem least_full_ok (h : Fm d m M) : callK G (k + 1) i_least_full [fmD d m M] S = some (numD 0 (fh d) m, S) := by
  rw [call_fn g_least_full rfl]
  simp only [E1, E2, E3, E4, E5, E6, E7, E8, E9, List.map_cons, List.map_nil, List.cons_append, List.nil_append, List.append_nil, List.length_cons, List.length_nil, List.replicate_zero, List.replicate_succ, Nat.sub_self, Nat.zero_add, List.getElem?_cons_zero, List.getElem?_cons_succ, List.set_cons_zero, List.set_cons_succ, if_true, if_false, Bool.false_eq_true, decide_true, decide_false, Bool.not_true, Bool.not_false, decide_eq_true_eq, eq_self, Int.cast_ofNat_Int, Int.natCast_zero, Int.natCast_one, Nat.reduceLeDiff, Nat.reduceSub, Nat.reduceAdd, Nat.reduceLT, reduceIte, reduceCtorEq, Int.reduceEq, Int.reduceLT, Int.reduceLE, Int.reduceNeg, Int.reduceAdd, Int.reduceSub, Int.reduceMul, Int.reduceNe, Int.reduceBNe, Int.reduceBEq, f_least_full, idx_fm0, idx_fm1, shl_d1 h, pow_d1 h]
  rfl
theorem greatest_ok (h : Fm d m M) : callK G (k + 1) i_greatest_of [fmD d m M] S = some (numD 0 (2 ^ d - 1) M, S) := by
  have e : (((2 ^ d : Nat) : Int) - 1) = ((2 ^ d - 1 : Nat) : Int) := by
    have := Nat.two_pow_pos d
    omega
  rw [call_fn g_greatest_of rfl]
  simp only [E1, E2, E3, E4, E5, E6, E7, E8, E9, List.map_cons, List.map_nil, List.cons_append, List.nil_append, List.append_nil, List.length_cons, List.length_nil, List.replicate_zero, List.replicate_succ, Nat.sub_self, Nat.zero_add, List.getElem?_cons_zero, List.getElem?_cons_succ, List.set_cons_zero, List.set_cons_succ, if_true, if_false, Bool.false_eq_true, decide_true, decide_false, Bool.not_true, Bool.not_false, decide_eq_true_eq, eq_self, Int.cast_ofNat_Int, Int.natCast_zero, Int.natCast_one, Nat.reduceLeDiff, Nat.reduceSub, Nat.reduceAdd, Nat.reduceLT, reduceIte, reduceCtorEq, Int.reduceEq, Int.reduceLT, Int.reduceLE, Int.reduceNeg, Int.reduceAdd, Int.reduceSub, Int.reduceMul, Int.reduceNe, Int.reduceBNe, Int.reduceBEq, f_greatest_of, idx_fm0, idx_fm2, shl_d h, pow_d, e]
  rfl
theorem fh_bd (h : Fm d m M) : Bd 100 ((fh d : Nat) : Int) := by
  have := h.d2
  show (fh d) < 2 ^ 100
  exact Nat.lt_of_le_of_lt (Nat.pow_le_pow_right (by decide) (show d - 1 ≤ 11 by omega)) (by decide)
theorem small_sm (h : Fm d m M) : Sm 4000 ((2 : Rat) ^ ((d : Int) - 1 + m)) := (sm_two (m := 300) (by have := h.d2; have := h.m1; omega)).mono (by decide)
theorem marks_ok (h : Fm d m M) (hq : Sm 1000 q) (r : Nat) : callK G (k + 6) i_marks_of [fmD d m M, fr q, .int (r : Int)] S = some (mrk d m q r, S) := by
  rw [call_fn g_marks_of rfl]
  unfold mrk
  by_cases c : r = 0
  · subst c
    simp only [E1, E2, E3, E4, E5, E6, E7, E8, E9, List.map_cons, List.map_nil, List.cons_append, List.nil_append, List.append_nil, List.length_cons, List.length_nil, List.replicate_zero, List.replicate_succ, Nat.sub_self, Nat.zero_add, List.getElem?_cons_zero, List.getElem?_cons_succ, List.set_cons_zero, List.set_cons_succ, if_true, if_false, Bool.false_eq_true, decide_true, decide_false, Bool.not_true, Bool.not_false, decide_eq_true_eq, eq_self, Int.cast_ofNat_Int, Int.natCast_zero, Int.natCast_one, Nat.reduceLeDiff, Nat.reduceSub, Nat.reduceAdd, Nat.reduceLT, reduceIte, reduceCtorEq, Int.reduceEq, Int.reduceLT, Int.reduceLE, Int.reduceNeg, Int.reduceAdd, Int.reduceSub, Int.reduceMul, Int.reduceNe, Int.reduceBNe, Int.reduceBEq, f_marks_of]
  · have c' : ¬ (r : Int) = 0 := by omega
    have hv := val_num (k := k) (S := S) (s := 0) (w := fh d) (p := m) (fh_bd h) (by have := h.m1; omega)
    have e1 : sgQ 0 ((fh d : Rat) * (2 : Rat) ^ m) = (2 : Rat) ^ ((d : Int) - 1 + m) := by
      unfold sgQ
      rw [if_neg (by decide), fh_cast (by have := h.d1; omega), ← two_add]
    rw [e1] at hv
    have hl := is_less_ok (k := k + 4) (S := S) (p := q.abs) (q := (2 : Rat) ^ ((d : Int) - 1 + m)) ((hq.mono (by decide)).abs) (small_sm h)
    unfold smallQ
    by_cases g : q.abs < (2 : Rat) ^ ((d : Int) - 1 + m)
    · rw [decide_eq_true g] at hl ⊢
      simp only [E1, E2, E3, E4, E5, E6, E7, E8, E9, List.map_cons, List.map_nil, List.cons_append, List.nil_append, List.append_nil, List.length_cons, List.length_nil, List.replicate_zero, List.replicate_succ, Nat.sub_self, Nat.zero_add, List.getElem?_cons_zero, List.getElem?_cons_succ, List.set_cons_zero, List.set_cons_succ, if_true, if_false, Bool.false_eq_true, decide_true, decide_false, Bool.not_true, Bool.not_false, decide_eq_true_eq, eq_self, Int.cast_ofNat_Int, Int.natCast_zero, Int.natCast_one, Nat.reduceLeDiff, Nat.reduceSub, Nat.reduceAdd, Nat.reduceLT, reduceIte, reduceCtorEq, Int.reduceEq, Int.reduceLT, Int.reduceLE, Int.reduceNeg, Int.reduceAdd, Int.reduceSub, Int.reduceMul, Int.reduceNe, Int.reduceBNe, Int.reduceBEq, f_marks_of, c', c, size_ok, least_full_ok h, hv, hl]
    · rw [decide_eq_false g] at hl ⊢
      simp only [E1, E2, E3, E4, E5, E6, E7, E8, E9, List.map_cons, List.map_nil, List.cons_append, List.nil_append, List.append_nil, List.length_cons, List.length_nil, List.replicate_zero, List.replicate_succ, Nat.sub_self, Nat.zero_add, List.getElem?_cons_zero, List.getElem?_cons_succ, List.set_cons_zero, List.set_cons_succ, if_true, if_false, Bool.false_eq_true, decide_true, decide_false, Bool.not_true, Bool.not_false, decide_eq_true_eq, eq_self, Int.cast_ofNat_Int, Int.natCast_zero, Int.natCast_one, Nat.reduceLeDiff, Nat.reduceSub, Nat.reduceAdd, Nat.reduceLT, reduceIte, reduceCtorEq, Int.reduceEq, Int.reduceLT, Int.reduceLE, Int.reduceNeg, Int.reduceAdd, Int.reduceSub, Int.reduceMul, Int.reduceNe, Int.reduceBNe, Int.reduceBEq, f_marks_of, c', c, size_ok, least_full_ok h, hv, hl]
theorem in_ea_even : cmpD S .In (.str "even") (.tup [.str "even", .str "away"]) = some true := in_strT (xs := ["even", "away"]) (by decide +kernel) (by decide) (by decide +kernel)
theorem in_ea_away : cmpD S .In (.str "away") (.tup [.str "even", .str "away"]) = some true := in_strT (xs := ["even", "away"]) (by decide +kernel) (by decide) (by decide +kernel)
theorem in_ea_up : cmpD S .In (.str "up") (.tup [.str "even", .str "away"]) = some false := in_strT (xs := ["even", "away"]) (by decide +kernel) (by decide) (by decide +kernel)
theorem in_ea_down : cmpD S .In (.str "down") (.tup [.str "even", .str "away"]) = some false := in_strT (xs := ["even", "away"]) (by decide +kernel) (by decide) (by decide +kernel)
theorem in_ea_cut : cmpD S .In (.str "cut") (.tup [.str "even", .str "away"]) = some false := in_strT (xs := ["even", "away"]) (by decide +kernel) (by decide) (by decide +kernel)
theorem raised_ok {own : Int} {w r l : Nat} (hw : way ∈ ways) (hl : Bd 8000 (r : Int)) : callK G (k + 1) i_is_raised [.str way, .int own, .int (w : Int), .tup [.int (r : Int), .int (l : Int)]] S = some (.bl (raiseB way own w r l), S) := by
  have o := Bd.mulOk (n := 2) (a := 2) (show (2 : Nat) < 2 ^ 2 by decide) hl (by decide)
  rw [call_fn g_is_raised rfl]
  have m2 : Int.fmod (w : Int) 2 = ((w % 2 : Nat) : Int) := fmod_nat w 2
  have e2 : decide ((((w % 2 : Nat)) : Int) = 1) = decide (w % 2 = 1) := by rw [decide_eq_decide]; omega
  have z2 : (2 : Int) ≠ 0 := by decide
  unfold raiseB
  rcases w_cases hw with rfl | rfl | rfl | rfl | rfl
  · by_cases c : 2 * r = l
    · have c' : (2 * (r : Int)) = (l : Int) := by omega
      simp only [E1, E2, E3, E4, E5, E6, E7, E8, E9, List.map_cons, List.map_nil, List.cons_append, List.nil_append, List.append_nil, List.length_cons, List.length_nil, List.replicate_zero, List.replicate_succ, Nat.sub_self, Nat.zero_add, List.getElem?_cons_zero, List.getElem?_cons_succ, List.set_cons_zero, List.set_cons_succ, if_true, if_false, Bool.false_eq_true, decide_true, decide_false, Bool.not_true, Bool.not_false, decide_eq_true_eq, eq_self, Int.cast_ofNat_Int, Int.natCast_zero, Int.natCast_one, Nat.reduceLeDiff, Nat.reduceSub, Nat.reduceAdd, Nat.reduceLT, reduceIte, reduceCtorEq, Int.reduceEq, Int.reduceLT, Int.reduceLE, Int.reduceNeg, Int.reduceAdd, Int.reduceSub, Int.reduceMul, Int.reduceNe, Int.reduceBNe, Int.reduceBEq, f_is_raised, YW, o, c, c', m2, e2, Bool.false_or, ne_eq, not_false_eq_true]
    · have c' : ¬ (2 * (r : Int)) = (l : Int) := by omega
      have e3 : decide ((l : Int) < 2 * (r : Int)) = decide (l < 2 * r) := by rw [decide_eq_decide]; omega
      simp only [E1, E2, E3, E4, E5, E6, E7, E8, E9, List.map_cons, List.map_nil, List.cons_append, List.nil_append, List.append_nil, List.length_cons, List.length_nil, List.replicate_zero, List.replicate_succ, Nat.sub_self, Nat.zero_add, List.getElem?_cons_zero, List.getElem?_cons_succ, List.set_cons_zero, List.set_cons_succ, if_true, if_false, Bool.false_eq_true, decide_true, decide_false, Bool.not_true, Bool.not_false, decide_eq_true_eq, eq_self, Int.cast_ofNat_Int, Int.natCast_zero, Int.natCast_one, Nat.reduceLeDiff, Nat.reduceSub, Nat.reduceAdd, Nat.reduceLT, reduceIte, reduceCtorEq, Int.reduceEq, Int.reduceLT, Int.reduceLE, Int.reduceNeg, Int.reduceAdd, Int.reduceSub, Int.reduceMul, Int.reduceNe, Int.reduceBNe, Int.reduceBEq, f_is_raised, YW, o, c, c', e3]
  · by_cases c : 2 * r = l
    · have c' : (2 * (r : Int)) = (l : Int) := by omega
      simp only [E1, E2, E3, E4, E5, E6, E7, E8, E9, List.map_cons, List.map_nil, List.cons_append, List.nil_append, List.append_nil, List.length_cons, List.length_nil, List.replicate_zero, List.replicate_succ, Nat.sub_self, Nat.zero_add, List.getElem?_cons_zero, List.getElem?_cons_succ, List.set_cons_zero, List.set_cons_succ, if_true, if_false, Bool.false_eq_true, decide_true, decide_false, Bool.not_true, Bool.not_false, decide_eq_true_eq, eq_self, Int.cast_ofNat_Int, Int.natCast_zero, Int.natCast_one, Nat.reduceLeDiff, Nat.reduceSub, Nat.reduceAdd, Nat.reduceLT, reduceIte, reduceCtorEq, Int.reduceEq, Int.reduceLT, Int.reduceLE, Int.reduceNeg, Int.reduceAdd, Int.reduceSub, Int.reduceMul, Int.reduceNe, Int.reduceBNe, Int.reduceBEq, f_is_raised, YW, o, c, c', Bool.true_or]
    · have c' : ¬ (2 * (r : Int)) = (l : Int) := by omega
      have e3 : decide ((l : Int) < 2 * (r : Int)) = decide (l < 2 * r) := by rw [decide_eq_decide]; omega
      simp only [E1, E2, E3, E4, E5, E6, E7, E8, E9, List.map_cons, List.map_nil, List.cons_append, List.nil_append, List.append_nil, List.length_cons, List.length_nil, List.replicate_zero, List.replicate_succ, Nat.sub_self, Nat.zero_add, List.getElem?_cons_zero, List.getElem?_cons_succ, List.set_cons_zero, List.set_cons_succ, if_true, if_false, Bool.false_eq_true, decide_true, decide_false, Bool.not_true, Bool.not_false, decide_eq_true_eq, eq_self, Int.cast_ofNat_Int, Int.natCast_zero, Int.natCast_one, Nat.reduceLeDiff, Nat.reduceSub, Nat.reduceAdd, Nat.reduceLT, reduceIte, reduceCtorEq, Int.reduceEq, Int.reduceLT, Int.reduceLE, Int.reduceNeg, Int.reduceAdd, Int.reduceSub, Int.reduceMul, Int.reduceNe, Int.reduceBNe, Int.reduceBEq, f_is_raised, YW, o, c, c', e3]
  · simp only [E1, E2, E3, E4, E5, E6, E7, E8, E9, List.map_cons, List.map_nil, List.cons_append, List.nil_append, List.append_nil, List.length_cons, List.length_nil, List.replicate_zero, List.replicate_succ, Nat.sub_self, Nat.zero_add, List.getElem?_cons_zero, List.getElem?_cons_succ, List.set_cons_zero, List.set_cons_succ, if_true, if_false, Bool.false_eq_true, decide_true, decide_false, Bool.not_true, Bool.not_false, decide_eq_true_eq, eq_self, Int.cast_ofNat_Int, Int.natCast_zero, Int.natCast_one, Nat.reduceLeDiff, Nat.reduceSub, Nat.reduceAdd, Nat.reduceLT, reduceIte, reduceCtorEq, Int.reduceEq, Int.reduceLT, Int.reduceLE, Int.reduceNeg, Int.reduceAdd, Int.reduceSub, Int.reduceMul, Int.reduceNe, Int.reduceBNe, Int.reduceBEq, f_is_raised, YW]
  · simp only [E1, E2, E3, E4, E5, E6, E7, E8, E9, List.map_cons, List.map_nil, List.cons_append, List.nil_append, List.append_nil, List.length_cons, List.length_nil, List.replicate_zero, List.replicate_succ, Nat.sub_self, Nat.zero_add, List.getElem?_cons_zero, List.getElem?_cons_succ, List.set_cons_zero, List.set_cons_succ, if_true, if_false, Bool.false_eq_true, decide_true, decide_false, Bool.not_true, Bool.not_false, decide_eq_true_eq, eq_self, Int.cast_ofNat_Int, Int.natCast_zero, Int.natCast_one, Nat.reduceLeDiff, Nat.reduceSub, Nat.reduceAdd, Nat.reduceLT, reduceIte, reduceCtorEq, Int.reduceEq, Int.reduceLT, Int.reduceLE, Int.reduceNeg, Int.reduceAdd, Int.reduceSub, Int.reduceMul, Int.reduceNe, Int.reduceBNe, Int.reduceBEq, f_is_raised, YW]
  · simp only [E1, E2, E3, E4, E5, E6, E7, E8, E9, List.map_cons, List.map_nil, List.cons_append, List.nil_append, List.append_nil, List.length_cons, List.length_nil, List.replicate_zero, List.replicate_succ, Nat.sub_self, Nat.zero_add, List.getElem?_cons_zero, List.getElem?_cons_succ, List.set_cons_zero, List.set_cons_succ, if_true, if_false, Bool.false_eq_true, decide_true, decide_false, Bool.not_true, Bool.not_false, decide_eq_true_eq, eq_self, Int.cast_ofNat_Int, Int.natCast_zero, Int.natCast_one, Nat.reduceLeDiff, Nat.reduceSub, Nat.reduceAdd, Nat.reduceLT, reduceIte, reduceCtorEq, Int.reduceEq, Int.reduceLT, Int.reduceLE, Int.reduceNeg, Int.reduceAdd, Int.reduceSub, Int.reduceMul, Int.reduceNe, Int.reduceBNe, Int.reduceBEq, f_is_raised, YW]
theorem num_tup {w : Nat} {p : Int} : binD .Add (.tup [.str "number", .int s]) (.tup [.int (w : Int), .int p]) = some (numD s w p) := by
  rw [add_t]
  rfl
theorem sl1_num {w : Nat} {p : Int} : slD S (numD s w p) none (some 1) = some (.tup [.str "number"]) := sl_01
theorem sl2_num {w : Nat} {p : Int} : slD S (numD s w p) (some 2) none = some (.tup [.int (w : Int), .int p]) := sl_2
theorem sl1_noth : slD S (nothD s) none (some 1) = some (.tup [.str "nothing"]) := sl_01
theorem sl2_noth : slD S (nothD s) (some 2) none = some (.tup []) := sl_2
theorem mk_num {w : Nat} {p : Int} : D.tup [.str "number", .int s, .int (w : Int), .int p] = numD s w p := nrfl rfl
theorem mk_noth : D.tup [.str "nothing", .int s] = nothD s := nrfl rfl
theorem mk_end : D.tup [.str "endless", .int s] = endD s := nrfl rfl
theorem beyond_ok {own : Int} (h : Fm d m M) (hw : way ∈ ways) : callK G (k + 2) i_beyond [fmD d m M, .str way, .int own] S = some (beyD d M way own, S) := by
  rw [call_fn g_beyond rfl]
  unfold beyD dirB
  rcases w_cases hw with rfl | rfl | rfl | rfl | rfl
  · simp only [E1, E2, E3, E4, E5, E6, E7, E8, E9, List.map_cons, List.map_nil, List.cons_append, List.nil_append, List.append_nil, List.length_cons, List.length_nil, List.replicate_zero, List.replicate_succ, Nat.sub_self, Nat.zero_add, List.getElem?_cons_zero, List.getElem?_cons_succ, List.set_cons_zero, List.set_cons_succ, if_true, if_false, Bool.false_eq_true, decide_true, decide_false, Bool.not_true, Bool.not_false, decide_eq_true_eq, eq_self, Int.cast_ofNat_Int, Int.natCast_zero, Int.natCast_one, Nat.reduceLeDiff, Nat.reduceSub, Nat.reduceAdd, Nat.reduceLT, reduceIte, reduceCtorEq, Int.reduceEq, Int.reduceLT, Int.reduceLE, Int.reduceNeg, Int.reduceAdd, Int.reduceSub, Int.reduceMul, Int.reduceNe, Int.reduceBNe, Int.reduceBEq, f_beyond, YW, in_ea_even]
    rfl
  · simp only [E1, E2, E3, E4, E5, E6, E7, E8, E9, List.map_cons, List.map_nil, List.cons_append, List.nil_append, List.append_nil, List.length_cons, List.length_nil, List.replicate_zero, List.replicate_succ, Nat.sub_self, Nat.zero_add, List.getElem?_cons_zero, List.getElem?_cons_succ, List.set_cons_zero, List.set_cons_succ, if_true, if_false, Bool.false_eq_true, decide_true, decide_false, Bool.not_true, Bool.not_false, decide_eq_true_eq, eq_self, Int.cast_ofNat_Int, Int.natCast_zero, Int.natCast_one, Nat.reduceLeDiff, Nat.reduceSub, Nat.reduceAdd, Nat.reduceLT, reduceIte, reduceCtorEq, Int.reduceEq, Int.reduceLT, Int.reduceLE, Int.reduceNeg, Int.reduceAdd, Int.reduceSub, Int.reduceMul, Int.reduceNe, Int.reduceBNe, Int.reduceBEq, f_beyond, YW, in_ea_away]
    rfl
  · by_cases c : own = 0
    · simp only [E1, E2, E3, E4, E5, E6, E7, E8, E9, List.map_cons, List.map_nil, List.cons_append, List.nil_append, List.append_nil, List.length_cons, List.length_nil, List.replicate_zero, List.replicate_succ, Nat.sub_self, Nat.zero_add, List.getElem?_cons_zero, List.getElem?_cons_succ, List.set_cons_zero, List.set_cons_succ, if_true, if_false, Bool.false_eq_true, decide_true, decide_false, Bool.not_true, Bool.not_false, decide_eq_true_eq, eq_self, Int.cast_ofNat_Int, Int.natCast_zero, Int.natCast_one, Nat.reduceLeDiff, Nat.reduceSub, Nat.reduceAdd, Nat.reduceLT, reduceIte, reduceCtorEq, Int.reduceEq, Int.reduceLT, Int.reduceLE, Int.reduceNeg, Int.reduceAdd, Int.reduceSub, Int.reduceMul, Int.reduceNe, Int.reduceBNe, Int.reduceBEq, f_beyond, YW, in_ea_up, c]
      rfl
    · simp only [E1, E2, E3, E4, E5, E6, E7, E8, E9, List.map_cons, List.map_nil, List.cons_append, List.nil_append, List.append_nil, List.length_cons, List.length_nil, List.replicate_zero, List.replicate_succ, Nat.sub_self, Nat.zero_add, List.getElem?_cons_zero, List.getElem?_cons_succ, List.set_cons_zero, List.set_cons_succ, if_true, if_false, Bool.false_eq_true, decide_true, decide_false, Bool.not_true, Bool.not_false, decide_eq_true_eq, eq_self, Int.cast_ofNat_Int, Int.natCast_zero, Int.natCast_one, Nat.reduceLeDiff, Nat.reduceSub, Nat.reduceAdd, Nat.reduceLT, reduceIte, reduceCtorEq, Int.reduceEq, Int.reduceLT, Int.reduceLE, Int.reduceNeg, Int.reduceAdd, Int.reduceSub, Int.reduceMul, Int.reduceNe, Int.reduceBNe, Int.reduceBEq, f_beyond, YW, in_ea_up, c, greatest_ok h, sl1_num, sl2_num, mk_num]
  · by_cases c : own = 1
    · simp only [E1, E2, E3, E4, E5, E6, E7, E8, E9, List.map_cons, List.map_nil, List.cons_append, List.nil_append, List.append_nil, List.length_cons, List.length_nil, List.replicate_zero, List.replicate_succ, Nat.sub_self, Nat.zero_add, List.getElem?_cons_zero, List.getElem?_cons_succ, List.set_cons_zero, List.set_cons_succ, if_true, if_false, Bool.false_eq_true, decide_true, decide_false, Bool.not_true, Bool.not_false, decide_eq_true_eq, eq_self, Int.cast_ofNat_Int, Int.natCast_zero, Int.natCast_one, Nat.reduceLeDiff, Nat.reduceSub, Nat.reduceAdd, Nat.reduceLT, reduceIte, reduceCtorEq, Int.reduceEq, Int.reduceLT, Int.reduceLE, Int.reduceNeg, Int.reduceAdd, Int.reduceSub, Int.reduceMul, Int.reduceNe, Int.reduceBNe, Int.reduceBEq, f_beyond, YW, in_ea_down, c]
      rfl
    · simp only [E1, E2, E3, E4, E5, E6, E7, E8, E9, List.map_cons, List.map_nil, List.cons_append, List.nil_append, List.append_nil, List.length_cons, List.length_nil, List.replicate_zero, List.replicate_succ, Nat.sub_self, Nat.zero_add, List.getElem?_cons_zero, List.getElem?_cons_succ, List.set_cons_zero, List.set_cons_succ, if_true, if_false, Bool.false_eq_true, decide_true, decide_false, Bool.not_true, Bool.not_false, decide_eq_true_eq, eq_self, Int.cast_ofNat_Int, Int.natCast_zero, Int.natCast_one, Nat.reduceLeDiff, Nat.reduceSub, Nat.reduceAdd, Nat.reduceLT, reduceIte, reduceCtorEq, Int.reduceEq, Int.reduceLT, Int.reduceLE, Int.reduceNeg, Int.reduceAdd, Int.reduceSub, Int.reduceMul, Int.reduceNe, Int.reduceBNe, Int.reduceBEq, f_beyond, YW, in_ea_down, c, greatest_ok h, sl1_num, sl2_num, mk_num]
  · simp only [E1, E2, E3, E4, E5, E6, E7, E8, E9, List.map_cons, List.map_nil, List.cons_append, List.nil_append, List.append_nil, List.length_cons, List.length_nil, List.replicate_zero, List.replicate_succ, Nat.sub_self, Nat.zero_add, List.getElem?_cons_zero, List.getElem?_cons_succ, List.set_cons_zero, List.set_cons_succ, if_true, if_false, Bool.false_eq_true, decide_true, decide_false, Bool.not_true, Bool.not_false, decide_eq_true_eq, eq_self, Int.cast_ofNat_Int, Int.natCast_zero, Int.natCast_one, Nat.reduceLeDiff, Nat.reduceSub, Nat.reduceAdd, Nat.reduceLT, reduceIte, reduceCtorEq, Int.reduceEq, Int.reduceLT, Int.reduceLE, Int.reduceNeg, Int.reduceAdd, Int.reduceSub, Int.reduceMul, Int.reduceNe, Int.reduceBNe, Int.reduceBEq, f_beyond, YW, in_ea_cut, greatest_ok h, sl1_num, sl2_num, mk_num]
theorem abs_two (b : Int) : (q * (2 : Rat) ^ b).abs = q.abs * (2 : Rat) ^ b := by
  have h := two_pos b
  rw [abs_eq, abs_eq]
  by_cases c : q < 0
  · have : q * (2 : Rat) ^ b < 0 := by
      have := Rat.mul_lt_mul_of_pos_right c h
      rwa [Rat.zero_mul] at this
    rw [if_pos c, if_pos this]
    grind
  · have : ¬ q * (2 : Rat) ^ b < 0 := by
      have := Rat.mul_nonneg (Rat.not_lt.mp c) (Rat.le_of_lt h)
      grind
    rw [if_neg c, if_neg this]
theorem xq_num : (xq (pw d m q) q).num = ((xq (pw d m q) q).num.natAbs : Int) := by
  have := Rat.num_nonneg.mpr (xq_nonneg (q := q) (pw d m q))
  omega
theorem xq_sm2 (h : Fm d m M) (hq : Sm 1000 q) : Sm 2400 (xq (pw d m q) q) := ((hq.abs).mul (sm_two (m := 1300) (b := -(pw d m q)) (by have := xq_sm h hq; omega))).mono (by decide)
theorem rounded_0 (hz : q.num = 0) : callK G (k + 8) i_rounded [fmD d m M, .str way, fr q, .int s] S = some (outQ d m M way q s, S) := by
  rw [call_fn g_rounded rfl]
  unfold outQ outN outM
  simp only [E1, E2, E3, E4, E5, E6, E7, E8, E9, List.map_cons, List.map_nil, List.cons_append, List.nil_append, List.append_nil, List.length_cons, List.length_nil, List.replicate_zero, List.replicate_succ, Nat.sub_self, Nat.zero_add, List.getElem?_cons_zero, List.getElem?_cons_succ, List.set_cons_zero, List.set_cons_succ, if_true, if_false, Bool.false_eq_true, decide_true, decide_false, Bool.not_true, Bool.not_false, decide_eq_true_eq, eq_self, Int.cast_ofNat_Int, Int.natCast_zero, Int.natCast_one, Nat.reduceLeDiff, Nat.reduceSub, Nat.reduceAdd, Nat.reduceLT, reduceIte, reduceCtorEq, Int.reduceEq, Int.reduceLT, Int.reduceLE, Int.reduceNeg, Int.reduceAdd, Int.reduceSub, Int.reduceMul, Int.reduceNe, Int.reduceBNe, Int.reduceBEq, f_rounded, s_rounded_0_0, idx_fr0, hz, mk_noth]
theorem W1_le (h : Fm d m M) (hz : q.num ≠ 0) : W1 d m way q ≤ 2 ^ d := by
  have hq : q ≠ 0 := fun e => hz (by rw [e]; rfl)
  have := (wh_range (d := d) (m := m) (by have := h.d1; omega) hq).1
  rw [fh_two (d := d) (by have := h.d1; omega)] at this
  unfold W1
  split <;> omega
theorem rounded_ok (h : Fm d m M) (hw : way ∈ ways) (hq : Sm 1000 q) : callK G (k + 8) i_rounded [fmD d m M, .str way, fr q, .int s] S = some (outQ d m M way q s, S) := by
  by_cases hz : q.num = 0
  · exact rounded_0 hz
  rw [call_fn g_rounded rfl]
  have hp := xq_sm h hq
  have e1 := shifted_ok (k := k + 3) (S := S) (p := q) (b := -(pw d m q)) (hq.mono (by decide)) (by omega)
  have e2 : (q * (2 : Rat) ^ (-(pw d m q))).abs = xq (pw d m q) q := abs_two _
  have hx := xq_sm2 h hq
  have dv : divOk ((xq (pw d m q) q).den : Int) := hx.dn.divOk den_ne (by decide)
  have e3 : Int.fdiv (xq (pw d m q) q).num ((xq (pw d m q) q).den : Int) = ((wh d m q : Nat) : Int) := by
    rw [xq_num, fdiv_nat]
    rfl
  have e4 : Int.fmod (xq (pw d m q) q).num ((xq (pw d m q) q).den : Int) = ((rs d m q : Nat) : Int) := by
    rw [xq_num, fmod_nat]
    rfl
  have e5 := marks_ok (k := k + 1) (S := S) h hq (rs d m q)
  have rl : Bd 8000 ((rs d m q : Nat) : Int) := by
    show rs d m q < 2 ^ 8000
    have h1 : rs d m q < (xq (pw d m q) q).den := Nat.mod_lt _ (xq (pw d m q) q).den_pos
    exact Nat.lt_trans h1 (Nat.lt_of_lt_of_le hx.2 (Nat.pow_le_pow_right (by decide) (by decide)))
  have e6 := raised_ok (k := k + 6) (S := S) (way := way) (own := ownQ q) (w := wh d m q) (r := rs d m q) (l := (xq (pw d m q) q).den) hw rl
  have e7 := beyond_ok (k := k + 5) (S := S) (own := ownQ q) h hw
  have z : ((xq (pw d m q) q).den : Int) ≠ 0 := den_ne
  have eo : b2i (decide (q.num < 0)) = ownQ q := rfl
  have u1 : (decide (0 < ((rs d m q : Nat) : Int))) = decide (0 < rs d m q) := by rw [decide_eq_decide]; omega
  have hu : ∀ x y : D, (if decide (0 < rs d m q) = true then (if raiseB way (ownQ q) (wh d m q) (rs d m q) (xq (pw d m q) q).den = true then x else y) else y) = if upQ d m way q = true then x else y := fun x y => by
    unfold upQ
    cases decide (0 < rs d m q) <;> rfl
  have hW : ((if upQ d m way q = true then (wh d m q + 1 : Nat) else wh d m q : Nat)) = W1 d m way q := rfl
  have l2 := W1_le (way := way) h hz
  have pd : ∀ x : Nat, decide ((x : Int) = ((2 ^ d : Nat) : Int)) = decide (x = 2 ^ d) := fun x => by rw [decide_eq_decide]; omega
  have f2 : Int.fdiv ((2 ^ d : Nat) : Int) 2 = ((2 ^ d / 2 : Nat) : Int) := fdiv_nat (2 ^ d) 2
  have d2 : divOk 2 := ⟨by decide, by decide +kernel⟩
  have cz : ∀ x : Nat, decide ((x : Int) = 0) = decide (x = 0) := fun x => by rw [decide_eq_decide]; omega
  have tail : ∀ (x : Nat) (p : Int) (x9 : Option D), W2 d m way q = x → P2 d m way q = p → evSs G (callK G (k + 7)) (.cons s_rounded_0_8 (.cons s_rounded_0_9 (.cons s_rounded_0_10 .nil))) [some (fmD d m M), some (.str way), some (fr q), some (.int s), some (.int (ownQ q)), some (.int p), some (.int (xq (pw d m q) q).num), some (.int ((xq (pw d m q) q).den : Int)), some (.int (x : Int)), x9, some (mrk d m q (rs d m q))] S = some (.rt (outQ d m M way q s), S) := fun x p x9 hx hp => by
    unfold outQ outN outM mkN
    rw [if_neg hz, if_neg hz, hx, hp]
    by_cases c : p > M
    · have c' : M < p := c
      simp only [E1, E2, E3, E4, E5, E6, E7, E8, E9, List.map_cons, List.map_nil, List.cons_append, List.nil_append, List.append_nil, List.length_cons, List.length_nil, List.replicate_zero, List.replicate_succ, Nat.sub_self, Nat.zero_add, List.getElem?_cons_zero, List.getElem?_cons_succ, List.set_cons_zero, List.set_cons_succ, if_true, if_false, Bool.false_eq_true, decide_true, decide_false, Bool.not_true, Bool.not_false, decide_eq_true_eq, eq_self, Int.cast_ofNat_Int, Int.natCast_zero, Int.natCast_one, Nat.reduceLeDiff, Nat.reduceSub, Nat.reduceAdd, Nat.reduceLT, reduceIte, reduceCtorEq, Int.reduceEq, Int.reduceLT, Int.reduceLE, Int.reduceNeg, Int.reduceAdd, Int.reduceSub, Int.reduceMul, Int.reduceNe, Int.reduceBNe, Int.reduceBEq, s_rounded_0_8, s_rounded_0_9, s_rounded_0_10, idx_fm2, c', c, e7]
      rfl
    · have c' : ¬ M < p := c
      by_cases c2 : x = 0
      · simp only [E1, E2, E3, E4, E5, E6, E7, E8, E9, List.map_cons, List.map_nil, List.cons_append, List.nil_append, List.append_nil, List.length_cons, List.length_nil, List.replicate_zero, List.replicate_succ, Nat.sub_self, Nat.zero_add, List.getElem?_cons_zero, List.getElem?_cons_succ, List.set_cons_zero, List.set_cons_succ, if_true, if_false, Bool.false_eq_true, decide_true, decide_false, Bool.not_true, Bool.not_false, decide_eq_true_eq, eq_self, Int.cast_ofNat_Int, Int.natCast_zero, Int.natCast_one, Nat.reduceLeDiff, Nat.reduceSub, Nat.reduceAdd, Nat.reduceLT, reduceIte, reduceCtorEq, Int.reduceEq, Int.reduceLT, Int.reduceLE, Int.reduceNeg, Int.reduceAdd, Int.reduceSub, Int.reduceMul, Int.reduceNe, Int.reduceBNe, Int.reduceBEq, s_rounded_0_8, s_rounded_0_9, s_rounded_0_10, idx_fm2, c', c, cz, c2, mk_noth]
      · simp only [E1, E2, E3, E4, E5, E6, E7, E8, E9, List.map_cons, List.map_nil, List.cons_append, List.nil_append, List.append_nil, List.length_cons, List.length_nil, List.replicate_zero, List.replicate_succ, Nat.sub_self, Nat.zero_add, List.getElem?_cons_zero, List.getElem?_cons_succ, List.set_cons_zero, List.set_cons_succ, if_true, if_false, Bool.false_eq_true, decide_true, decide_false, Bool.not_true, Bool.not_false, decide_eq_true_eq, eq_self, Int.cast_ofNat_Int, Int.natCast_zero, Int.natCast_one, Nat.reduceLeDiff, Nat.reduceSub, Nat.reduceAdd, Nat.reduceLT, reduceIte, reduceCtorEq, Int.reduceEq, Int.reduceLT, Int.reduceLE, Int.reduceNeg, Int.reduceAdd, Int.reduceSub, Int.reduceMul, Int.reduceNe, Int.reduceBNe, Int.reduceBEq, s_rounded_0_8, s_rounded_0_9, s_rounded_0_10, idx_fm2, c', c, cz, c2, mk_num]
  have mid : ∀ (x : Nat) (x9 : Option D), W1 d m way q = x → evSs G (callK G (k + 7)) (.cons s_rounded_0_7 (.cons s_rounded_0_8 (.cons s_rounded_0_9 (.cons s_rounded_0_10 .nil)))) [some (fmD d m M), some (.str way), some (fr q), some (.int s), some (.int (ownQ q)), some (.int (pw d m q)), some (.int (xq (pw d m q) q).num), some (.int ((xq (pw d m q) q).den : Int)), some (.int (x : Int)), x9, some (mrk d m q (rs d m q))] S = some (.rt (outQ d m M way q s), S) := fun x x9 hx => by
    by_cases c : x = 2 ^ d
    · have t := tail (2 ^ d / 2) (pw d m q + 1) x9 (by unfold W2; rw [hx, if_pos c, c]) (by unfold P2; rw [hx, if_pos c])
      have c' : decide ((x : Int) = ((2 ^ d : Nat) : Int)) = true := by rw [pd, decide_eq_true c]
      rw [ev_sC]
      subst c
      simp only [E1, E2, E3, E4, E5, E6, E7, E8, E9, List.map_cons, List.map_nil, List.cons_append, List.nil_append, List.append_nil, List.length_cons, List.length_nil, List.replicate_zero, List.replicate_succ, Nat.sub_self, Nat.zero_add, List.getElem?_cons_zero, List.getElem?_cons_succ, List.set_cons_zero, List.set_cons_succ, if_true, if_false, Bool.false_eq_true, decide_true, decide_false, Bool.not_true, Bool.not_false, decide_eq_true_eq, eq_self, Int.cast_ofNat_Int, Int.natCast_zero, Int.natCast_one, Nat.reduceLeDiff, Nat.reduceSub, Nat.reduceAdd, Nat.reduceLT, reduceIte, reduceCtorEq, Int.reduceEq, Int.reduceLT, Int.reduceLE, Int.reduceNeg, Int.reduceAdd, Int.reduceSub, Int.reduceMul, Int.reduceNe, Int.reduceBNe, Int.reduceBEq, s_rounded_0_7, idx_fm0, shl_d h, pow_d, f2, d2]
      exact t
    · have t := tail x (pw d m q) x9 (by unfold W2; rw [hx, if_neg c]) (by unfold P2; rw [hx, if_neg c])
      rw [ev_sC]
      simp only [E1, E2, E3, E4, E5, E6, E7, E8, E9, List.map_cons, List.map_nil, List.cons_append, List.nil_append, List.append_nil, List.length_cons, List.length_nil, List.replicate_zero, List.replicate_succ, Nat.sub_self, Nat.zero_add, List.getElem?_cons_zero, List.getElem?_cons_succ, List.set_cons_zero, List.set_cons_succ, if_true, if_false, Bool.false_eq_true, decide_true, decide_false, Bool.not_true, Bool.not_false, decide_eq_true_eq, eq_self, Int.cast_ofNat_Int, Int.natCast_zero, Int.natCast_one, Nat.reduceLeDiff, Nat.reduceSub, Nat.reduceAdd, Nat.reduceLT, reduceIte, reduceCtorEq, Int.reduceEq, Int.reduceLT, Int.reduceLE, Int.reduceNeg, Int.reduceAdd, Int.reduceSub, Int.reduceMul, Int.reduceNe, Int.reduceBNe, Int.reduceBEq, s_rounded_0_7, idx_fm0, shl_d h, pow_d, pd, c]
      exact t
  simp only [E1, E2, E3, E4, E5, E6, E7, E8, E9, List.map_cons, List.map_nil, List.cons_append, List.nil_append, List.append_nil, List.length_cons, List.length_nil, List.replicate_zero, List.replicate_succ, Nat.sub_self, Nat.zero_add, List.getElem?_cons_zero, List.getElem?_cons_succ, List.set_cons_zero, List.set_cons_succ, if_true, if_false, Bool.false_eq_true, decide_true, decide_false, Bool.not_true, Bool.not_false, decide_eq_true_eq, eq_self, Int.cast_ofNat_Int, Int.natCast_zero, Int.natCast_one, Nat.reduceLeDiff, Nat.reduceSub, Nat.reduceAdd, Nat.reduceLT, reduceIte, reduceCtorEq, Int.reduceEq, Int.reduceLT, Int.reduceLE, Int.reduceNeg, Int.reduceAdd, Int.reduceSub, Int.reduceMul, Int.reduceNe, Int.reduceBNe, Int.reduceBEq, f_rounded, s_rounded_0_0, s_rounded_0_1, s_rounded_0_2, s_rounded_0_3, s_rounded_0_4, s_rounded_0_5, idx_fr0, hz, eo, unit_ok h hq, e1, size_ok, e2, asg_fr, dv, e3, e4, e5, z, ne_eq, not_false_eq_true]
  by_cases c : 0 < rs d m q
  · have c' : (0 : Int) < ((rs d m q : Nat) : Int) := by omega
    by_cases c2 : raiseB way (ownQ q) (wh d m q) (rs d m q) (xq (pw d m q) q).den = true
    · have t := mid (wh d m q + 1) (some (.int ((rs d m q : Nat) : Int))) (by unfold W1 upQ; rw [c2, decide_eq_true c]; rfl)
      rw [c2] at e6
      simp only [Int.natCast_add, Int.natCast_one] at t
      simp only [E1, E2, E3, E4, E5, E6, E7, E8, E9, List.map_cons, List.map_nil, List.cons_append, List.nil_append, List.append_nil, List.length_cons, List.length_nil, List.replicate_zero, List.replicate_succ, Nat.sub_self, Nat.zero_add, List.getElem?_cons_zero, List.getElem?_cons_succ, List.set_cons_zero, List.set_cons_succ, if_true, if_false, Bool.false_eq_true, decide_true, decide_false, Bool.not_true, Bool.not_false, decide_eq_true_eq, eq_self, Int.cast_ofNat_Int, Int.natCast_zero, Int.natCast_one, Nat.reduceLeDiff, Nat.reduceSub, Nat.reduceAdd, Nat.reduceLT, reduceIte, reduceCtorEq, Int.reduceEq, Int.reduceLT, Int.reduceLE, Int.reduceNeg, Int.reduceAdd, Int.reduceSub, Int.reduceMul, Int.reduceNe, Int.reduceBNe, Int.reduceBEq, s_rounded_0_6, c', e6, t]
    · have c2 : raiseB way (ownQ q) (wh d m q) (rs d m q) (xq (pw d m q) q).den = false := by simpa using c2
      have t := mid (wh d m q) (some (.int ((rs d m q : Nat) : Int))) (by unfold W1 upQ; rw [c2, Bool.and_false]; rfl)
      rw [c2] at e6
      simp only [E1, E2, E3, E4, E5, E6, E7, E8, E9, List.map_cons, List.map_nil, List.cons_append, List.nil_append, List.append_nil, List.length_cons, List.length_nil, List.replicate_zero, List.replicate_succ, Nat.sub_self, Nat.zero_add, List.getElem?_cons_zero, List.getElem?_cons_succ, List.set_cons_zero, List.set_cons_succ, if_true, if_false, Bool.false_eq_true, decide_true, decide_false, Bool.not_true, Bool.not_false, decide_eq_true_eq, eq_self, Int.cast_ofNat_Int, Int.natCast_zero, Int.natCast_one, Nat.reduceLeDiff, Nat.reduceSub, Nat.reduceAdd, Nat.reduceLT, reduceIte, reduceCtorEq, Int.reduceEq, Int.reduceLT, Int.reduceLE, Int.reduceNeg, Int.reduceAdd, Int.reduceSub, Int.reduceMul, Int.reduceNe, Int.reduceBNe, Int.reduceBEq, s_rounded_0_6, c', e6, t]
  · have c' : ¬ (0 : Int) < ((rs d m q : Nat) : Int) := by omega
    have t := mid (wh d m q) (some (.int ((rs d m q : Nat) : Int))) (by unfold W1 upQ; rw [decide_eq_false c]; rfl)
    simp only [E1, E2, E3, E4, E5, E6, E7, E8, E9, List.map_cons, List.map_nil, List.cons_append, List.nil_append, List.append_nil, List.length_cons, List.length_nil, List.replicate_zero, List.replicate_succ, Nat.sub_self, Nat.zero_add, List.getElem?_cons_zero, List.getElem?_cons_succ, List.set_cons_zero, List.set_cons_succ, if_true, if_false, Bool.false_eq_true, decide_true, decide_false, Bool.not_true, Bool.not_false, decide_eq_true_eq, eq_self, Int.cast_ofNat_Int, Int.natCast_zero, Int.natCast_one, Nat.reduceLeDiff, Nat.reduceSub, Nat.reduceAdd, Nat.reduceLT, reduceIte, reduceCtorEq, Int.reduceEq, Int.reduceLT, Int.reduceLE, Int.reduceNeg, Int.reduceAdd, Int.reduceSub, Int.reduceMul, Int.reduceNe, Int.reduceBNe, Int.reduceBEq, s_rounded_0_6, c', t]
end
end Rw.Pk22

set_option exponentiation.threshold 300
namespace Rw.Pk22
open PySem L2 Rw
section
variable {k : Nat} {S : Sto} {d : Nat} {m M : Int} {q : Rat} {p : Int} {n : Nat} {way : Str} {s : Int}
theorem shl_bd {a b : Int} (h : Bd 200 a) (hb : 0 ≤ b) (hb2 : b ≤ 10000) : shlOk a b := by
  refine ⟨hb, ?_⟩
  have : Builtin.Int.intBits a ≤ 200 := by
    unfold Builtin.Int.intBits
    split
    · omega
    · have := log_lt h (by decide)
      omega
  omega
theorem val_pos {a : Int} (hp : 0 ≤ p) : Rat.divInt (a * 2 ^ p.toNat) 1 = (a : Rat) * (2 : Rat) ^ p := by
  obtain ⟨n, rfl⟩ := Int.eq_ofNat_of_zero_le hp
  rw [Rat.divInt_eq_div, Int.toNat_natCast, Rat.zpow_natCast, Rat.intCast_mul, Rat.intCast_pow]
  show _ / ((1 : Int) : Rat) = _
  rw [show ((1 : Int) : Rat) = 1 from rfl, Rat.div_def, show (1 : Rat)⁻¹ = 1 by decide +kernel, Rat.mul_one]
  rfl
theorem val_neg {a : Int} (hp : p < 0) : Rat.divInt a (2 ^ (-p).toNat) = (a : Rat) * (2 : Rat) ^ p := by
  obtain ⟨n, e⟩ := Int.eq_ofNat_of_zero_le (show 0 ≤ -p by omega)
  have : p = -(n : Int) := by omega
  subst this
  rw [Int.neg_neg, Int.toNat_natCast, Rat.divInt_eq_div, Rat.zpow_neg, Rat.zpow_natCast, Rat.intCast_pow, Rat.div_def]
  rfl
theorem sg_cast {w : Nat} (hs : s = 0 ∨ s = 1) : (((1 - 2 * s) * (w : Int) : Int) : Rat) * (2 : Rat) ^ p = sgQ s ((w : Rat) * (2 : Rat) ^ p) := by
  unfold sgQ
  rcases hs with rfl | rfl
  · rw [if_neg (by decide), show ((1 - 2 * 0 : Int)) = 1 by decide, Int.one_mul, Rat.intCast_natCast]
  · rw [if_pos rfl, show ((1 - 2 * 1 : Int)) = -1 by decide, Int.neg_one_mul, Rat.intCast_neg, Rat.intCast_natCast, Rat.neg_mul]
theorem lval_num {w : Nat} (hw : Bd 100 (w : Int)) (hp : p.natAbs ≤ 1000) (hs : s = 0 ∨ s = 1) : callK G (k + 2) i__law_val [numD s w p] S = some (fr (sgQ s ((w : Rat) * (2 : Rat) ^ p)), S) := by
  rw [call_fn g__law_val rfl, ← sg_cast hs]
  have hsb : Bd 2 s := by
    show s.natAbs < 2 ^ 2
    omega
  have o1 := Bd.mulOk (n := 2) (a := 2) (show (2 : Nat) < 2 ^ 2 by decide) hsb (by decide)
  have b1 : Bd 2 (1 - 2 * s) := by
    show (1 - 2 * s).natAbs < 2 ^ 2
    omega
  have o2 := b1.mulOk hw (by decide)
  have b2 : Bd 200 ((1 - 2 * s) * (w : Int)) := (b1.mul hw).mono (by decide)
  by_cases c : 0 ≤ p
  · have o3 := shl_bd b2 c (by omega)
    have e := least_ok (k := k) (S := S) (u := (1 - 2 * s) * (w : Int) * 2 ^ p.toNat) (l := 1) (by decide) (Nat.one_lt_two_pow (by decide))
    rw [val_pos c] at e
    simp only [E1, E2, E3, E4, E5, E6, E7, E8, E9, List.map_cons, List.map_nil, List.cons_append, List.nil_append, List.append_nil, List.length_cons, List.length_nil, List.replicate_zero, List.replicate_succ, Nat.sub_self, Nat.zero_add, List.getElem?_cons_zero, List.getElem?_cons_succ, List.set_cons_zero, List.set_cons_succ, if_true, if_false, Bool.false_eq_true, decide_true, decide_false, Bool.not_true, Bool.not_false, decide_eq_true_eq, eq_self, Int.cast_ofNat_Int, Int.natCast_zero, Int.natCast_one, Nat.reduceLeDiff, Nat.reduceSub, Nat.reduceAdd, Nat.reduceLT, reduceIte, reduceCtorEq, Int.reduceEq, Int.reduceLT, Int.reduceLE, Int.reduceNeg, Int.reduceAdd, Int.reduceSub, Int.reduceMul, Int.reduceNe, Int.reduceBNe, Int.reduceBEq, f__law_val, idx_n0, idx_n1, idx_n2, idx_n3, YN, o1, o2, o3, c, e]
  · have o3 := shl_one (b := 0 - p) (by omega) (by omega)
    have hb : Bd 8999 (2 ^ (-p).toNat) := by
      show ((2 : Int) ^ (-p).toNat).natAbs < 2 ^ 8999
      rw [Int.natAbs_pow]
      exact Nat.pow_lt_pow_right (by decide) (by omega)
    have hne : (2 : Int) ^ (-p).toNat ≠ 0 := by
      have := pow_succ_eq (-p).toNat
      omega
    have e := least_ok (k := k) (S := S) (u := (1 - 2 * s) * (w : Int)) (l := 2 ^ (-p).toNat) hne hb
    rw [val_neg (by omega)] at e
    have z : (1 : Int) * 2 ^ (0 - p).toNat = 2 ^ (-p).toNat := by rw [Int.one_mul, Int.zero_sub]
    simp only [E1, E2, E3, E4, E5, E6, E7, E8, E9, List.map_cons, List.map_nil, List.cons_append, List.nil_append, List.append_nil, List.length_cons, List.length_nil, List.replicate_zero, List.replicate_succ, Nat.sub_self, Nat.zero_add, List.getElem?_cons_zero, List.getElem?_cons_succ, List.set_cons_zero, List.set_cons_succ, if_true, if_false, Bool.false_eq_true, decide_true, decide_false, Bool.not_true, Bool.not_false, decide_eq_true_eq, eq_self, Int.cast_ofNat_Int, Int.natCast_zero, Int.natCast_one, Nat.reduceLeDiff, Nat.reduceSub, Nat.reduceAdd, Nat.reduceLT, reduceIte, reduceCtorEq, Int.reduceEq, Int.reduceLT, Int.reduceLE, Int.reduceNeg, Int.reduceAdd, Int.reduceSub, Int.reduceMul, Int.reduceNe, Int.reduceBNe, Int.reduceBEq, f__law_val, idx_n0, idx_n1, idx_n2, idx_n3, YN, o1, o2, o3, c, z, e]
theorem lval_noth : callK G (k + 2) i__law_val [nothD s] S = some (fr 0, S) := by
  rw [call_fn g__law_val rfl]
  simp only [E1, E2, E3, E4, E5, E6, E7, E8, E9, List.map_cons, List.map_nil, List.cons_append, List.nil_append, List.append_nil, List.length_cons, List.length_nil, List.replicate_zero, List.replicate_succ, Nat.sub_self, Nat.zero_add, List.getElem?_cons_zero, List.getElem?_cons_succ, List.set_cons_zero, List.set_cons_succ, if_true, if_false, Bool.false_eq_true, decide_true, decide_false, Bool.not_true, Bool.not_false, decide_eq_true_eq, eq_self, Int.cast_ofNat_Int, Int.natCast_zero, Int.natCast_one, Nat.reduceLeDiff, Nat.reduceSub, Nat.reduceAdd, Nat.reduceLT, reduceIte, reduceCtorEq, Int.reduceEq, Int.reduceLT, Int.reduceLE, Int.reduceNeg, Int.reduceAdd, Int.reduceSub, Int.reduceMul, Int.reduceNe, Int.reduceBNe, Int.reduceBEq, f__law_val, idx_z0]
  rfl
/-- the numbers in order -/
def rowsL (d : Nat) (m : Int) (n : Nat) : List D := (List.range n).map (rowD d m)
def vlsL (d : Nat) (m : Int) (n : Nat) : List D := (List.range n).map fun k => fr (vl d m k)
theorem row_in (h : Fm d m M) {j : Nat} (hj : j < cnt d m M) : rW d j < 2 * fh d ∧ m ≤ rP d m j ∧ rP d m j ≤ M := by
  have hp := fh_pos (d := d)
  have hle := h.le
  unfold cnt at hj
  unfold rW rP
  by_cases c : j < 2 * fh d
  · rw [if_pos c, if_pos c]
    exact ⟨c, Int.le_refl _, hle⟩
  · rw [if_neg c, if_neg c]
    have h1 : j % fh d < fh d := Nat.mod_lt _ hp
    have h2 : 2 ≤ j / fh d := (Nat.le_div_iff_mul_le hp).mpr (by omega)
    have h3 : j / fh d < 2 + (M - m).toNat := (Nat.div_lt_iff_lt_mul hp).mpr (by rw [Nat.add_mul]; exact hj)
    exact ⟨by omega, by omega, by omega⟩
theorem fh_le (h : Fm d m M) : 2 * fh d ≤ 4096 := by
  rw [fh_two (by have := h.d1; omega)]
  exact Nat.le_trans (Nat.pow_le_pow_right (by decide) h.d2) (by decide)
theorem cnt_le (h : Fm d m M) : cnt d m M ≤ 1000000 := by
  have h1 := fh_le h
  have h2 : (M - m).toNat ≤ 400 := by have := h.m1; have := h.M1; omega
  have := Nat.mul_le_mul h2 (show fh d ≤ 2048 by omega)
  unfold cnt
  omega
theorem cnt_pos : 0 < cnt d m M := by
  have hp := fh_pos (d := d)
  unfold cnt
  omega
theorem vl_sm (h : Fm d m M) {j : Nat} (hj : j < cnt d m M) : Sm 400 (vl d m j) := by
  obtain ⟨h1, h2, h3⟩ := row_in h hj
  have h4 := fh_le h
  have s1 : Sm 13 ((rW d j : Nat) : Rat) := ⟨Nat.lt_of_lt_of_le h1 (Nat.le_trans h4 (by decide)), by show 1 < 2 ^ 13; decide⟩
  have s2 := sm_two (b := rP d m j) (m := 200) (by have := h.m1; have := h.M1; omega)
  exact (s1.mul s2).mono (by decide)
theorem lval_row (h : Fm d m M) {j : Nat} (hj : j < cnt d m M) : callK G (k + 2) i__law_val [rowD d m j] S = some (fr (vl d m j), S) := by
  obtain ⟨h1, h2, h3⟩ := row_in h hj
  have h4 := fh_le h
  unfold rowD mkN vl
  by_cases c : rW d j = 0
  · rw [if_pos c, c]
    rw [show ((0 : Nat) : Rat) * (2 : Rat) ^ rP d m j = 0 from Rat.zero_mul _]
    exact lval_noth
  · rw [if_neg c]
    exact lval_num (s := 0) (show rW d j < 2 ^ 100 from Nat.lt_of_lt_of_le h1 (Nat.le_trans h4 (by decide))) (by have := h.m1; have := h.M1; omega) (.inl rfl)
theorem rows_first (hd : 1 ≤ d) : nothD 0 :: ((List.range (2 ^ d - 1)).map fun (i : Nat) => numD 0 (1 + i) m) = rowsL d m (2 * fh d) := by
  have hp := fh_pos (d := d)
  unfold rowsL
  rw [fh_two hd]
  obtain ⟨n, hn⟩ : ∃ n, 2 ^ d = n + 1 := ⟨2 ^ d - 1, by have := Nat.two_pow_pos d; omega⟩
  rw [hn, List.range_succ_eq_map, List.map_cons, List.map_map, Nat.add_sub_cancel]
  have e0 : rowD d m 0 = nothD 0 := by
    unfold rowD rW mkN
    rw [if_pos (show 0 < 2 * fh d by omega)]
    rfl
  rw [e0]
  congr 1
  refine List.map_congr_left fun i hi => ?_
  have hi := List.mem_range.mp hi
  show _ = rowD d m (i + 1)
  unfold rowD rW rP mkN
  rw [if_pos (show i + 1 < 2 * fh d by rw [fh_two hd]; omega), if_pos (show i + 1 < 2 * fh d by rw [fh_two hd]; omega), if_neg (by omega), Nat.add_comm]
theorem rows_next (i : Nat) : rowsL d m (2 * fh d + i * fh d) ++ ((List.range (fh d)).map fun (j : Nat) => numD 0 (fh d + j) (m + 1 + (i : Int))) = rowsL d m (2 * fh d + (i + 1) * fh d) := by
  have hp := fh_pos (d := d)
  unfold rowsL
  rw [show 2 * fh d + (i + 1) * fh d = (2 * fh d + i * fh d) + fh d by rw [Nat.add_mul]; omega, show List.range ((2 * fh d + i * fh d) + fh d) = List.range (2 * fh d + i * fh d) ++ (List.range (fh d)).map ((2 * fh d + i * fh d) + ·) from List.range_add .., List.map_append, List.map_map]
  congr 1
  refine List.map_congr_left fun j hj => ?_
  have hj := List.mem_range.mp hj
  show _ = rowD d m (2 * fh d + i * fh d + j)
  have := ix_rW (d := d) (m := m) (w := fh d + j) (p := m + 1 + (i : Int)) (by omega) (by omega) (.inr (by omega))
  have e : ixF d m (fh d + j) (m + 1 + (i : Int)) = 2 * fh d + i * fh d + j := by
    unfold ixF
    rw [show (m + 1 + (i : Int) - m).toNat = i + 1 by omega, Nat.add_mul]
    omega
  rw [e] at this
  unfold rowD mkN
  rw [this.1, this.2, if_neg (by omega)]
theorem rows_len {n : Nat} : (rowsL d m n).length = n := by simp [rowsL]
theorem fin_ok (h : Fm d m M) : callK G (k + 1) i__law_fin [fmD d m M] S = some (.lst (rowsL d m (cnt d m M)), S) := by
  rw [call_fn g__law_fin rfl]
  have hp := fh_pos (d := d)
  have hd : 1 ≤ d := by have := h.d1; omega
  have h4 := fh_le h
  have h2d := fh_two hd
  have b1 : ((2 ^ d : Nat) : Int) < 2 ^ 62 := by omega
  have r1 := rng_two (a := 1) (b := ((2 ^ d : Nat) : Int)) ⟨by decide, by decide, by omega, b1⟩
  rw [show (((2 ^ d : Nat) : Int) - 1).toNat = 2 ^ d - 1 by omega] at r1
  have r2 := rng_two (a := m + 1) (b := M + 1) ⟨by have := h.m1; omega, by have := h.m1; omega, by have := h.M1; omega, by have := h.M1; omega⟩
  rw [show (M + 1 - (m + 1)).toNat = (M - m).toNat by omega] at r2
  have r3 := rng_two (a := ((fh d : Nat) : Int)) (b := ((2 ^ d : Nat) : Int)) ⟨by omega, by omega, by omega, b1⟩
  rw [show (((2 ^ d : Nat) : Int) - ((fh d : Nat) : Int)).toNat = fh d by omega] at r3
  have c1 : ∀ all x4 x5, compL none all (ctn G (callK G k) e__law_fin_0 (.name 6) .none [some (fmD d m M), some (.int (d : Int)), some (.int m), some (.int M), x4, x5, none]) ((List.range (2 ^ d - 1)).map fun (i : Nat) => D.int (1 + (i : Int))) S [] = some ((List.range (2 ^ d - 1)).map fun (i : Nat) => numD 0 (1 + i) m, S) := fun all x4 x5 => by
    have := compL_mapT (all := all) (turn := ctn G (callK G k) e__law_fin_0 (.name 6) .none [some (fmD d m M), some (.int (d : Int)), some (.int m), some (.int M), x4, x5, none]) (S := S) (g := fun (i : Nat) => D.int (1 + (i : Int))) (f := fun (i : Nat) => numD 0 (1 + i) m) (xs := List.range (2 ^ d - 1)) (acc := []) fun x hx => by
      unfold ctn
      simp only [E1, E2, E3, E4, E5, E6, E7, E8, E9, List.map_cons, List.map_nil, List.cons_append, List.nil_append, List.append_nil, List.length_cons, List.length_nil, List.replicate_zero, List.replicate_succ, Nat.sub_self, Nat.zero_add, List.getElem?_cons_zero, List.getElem?_cons_succ, List.set_cons_zero, List.set_cons_succ, if_true, if_false, Bool.false_eq_true, decide_true, decide_false, Bool.not_true, Bool.not_false, decide_eq_true_eq, eq_self, Int.cast_ofNat_Int, Int.natCast_zero, Int.natCast_one, Nat.reduceLeDiff, Nat.reduceSub, Nat.reduceAdd, Nat.reduceLT, reduceIte, reduceCtorEq, Int.reduceEq, Int.reduceLT, Int.reduceLE, Int.reduceNeg, Int.reduceAdd, Int.reduceSub, Int.reduceMul, Int.reduceNe, Int.reduceBNe, Int.reduceBEq, e__law_fin_0]
      rfl
    rw [List.nil_append] at this
    exact this
  have l1 : 1 + (2 ^ d - 1) ≤ sizeLine := le_size (by omega)
  have l0 : 2 ^ d - 1 ≤ sizeLine := le_size (by omega)
  have l5 : fh d ≤ sizeLine := le_size (by omega)
  have f1 := rows_first (m := m) hd
  obtain ⟨ρ1, S1, hl, x5, x6, rfl, rfl⟩ := forL_run (all := (List.range (M - m).toNat).map fun (i : Nat) => D.int (m + 1 + (i : Int))) (body := fbd G (callK G k) (.name 5) b__law_fin_1) (xs := (List.range (M - m).toNat).map fun (i : Nat) => D.int (m + 1 + (i : Int))) (ρ := [some (fmD d m M), some (.int (d : Int)), some (.int m), some (.int M), some (.lst (rowsL d m (2 * fh d))), none, none]) (S := S)
    (I := fun i ρ S' => ∃ (x5 x6 : Option D), ρ = [some (fmD d m M), some (.int (d : Int)), some (.int m), some (.int M), some (.lst (rowsL d m (2 * fh d + i * fh d))), x5, x6] ∧ S' = S)
    (by
      rintro i x ρ S' hx ⟨x5, x6, rfl, rfl⟩
      have hi : i < (M - m).toNat := by
        have := (List.getElem?_eq_some_iff.mp hx).1
        simpa using this
      have hxi : x = .int (m + 1 + (i : Int)) := by
        have := (List.getElem?_eq_some_iff.mp hx).2
        simpa using this.symm
      subst hxi
      have c2 : ∀ all x4, compL none all (ctn G (callK G k) e__law_fin_2 (.name 6) .none [some (fmD d m M), some (.int (d : Int)), some (.int m), some (.int M), x4, some (.int (m + 1 + (i : Int))), none]) ((List.range (fh d)).map fun (j : Nat) => D.int (((fh d : Nat) : Int) + (j : Int))) S' [] = some ((List.range (fh d)).map fun (j : Nat) => numD 0 (fh d + j) (m + 1 + (i : Int)), S') := fun all x4 => by
        have := compL_mapT (all := all) (turn := ctn G (callK G k) e__law_fin_2 (.name 6) .none [some (fmD d m M), some (.int (d : Int)), some (.int m), some (.int M), x4, some (.int (m + 1 + (i : Int))), none]) (S := S') (g := fun (j : Nat) => D.int (((fh d : Nat) : Int) + (j : Int))) (f := fun (j : Nat) => numD 0 (fh d + j) (m + 1 + (i : Int))) (xs := List.range (fh d)) (acc := []) fun x hx => by
          unfold ctn
          simp only [E1, E2, E3, E4, E5, E6, E7, E8, E9, List.map_cons, List.map_nil, List.cons_append, List.nil_append, List.append_nil, List.length_cons, List.length_nil, List.replicate_zero, List.replicate_succ, Nat.sub_self, Nat.zero_add, List.getElem?_cons_zero, List.getElem?_cons_succ, List.set_cons_zero, List.set_cons_succ, if_true, if_false, Bool.false_eq_true, decide_true, decide_false, Bool.not_true, Bool.not_false, decide_eq_true_eq, eq_self, Int.cast_ofNat_Int, Int.natCast_zero, Int.natCast_one, Nat.reduceLeDiff, Nat.reduceSub, Nat.reduceAdd, Nat.reduceLT, reduceIte, reduceCtorEq, Int.reduceEq, Int.reduceLT, Int.reduceLE, Int.reduceNeg, Int.reduceAdd, Int.reduceSub, Int.reduceMul, Int.reduceNe, Int.reduceBNe, Int.reduceBEq, e__law_fin_2]
          rfl
        rw [List.nil_append] at this
        exact this
      have ll : 2 * fh d + i * fh d + fh d ≤ sizeLine := le_size (by
        have h5 := cnt_le h
        unfold cnt at h5
        have : (i + 1) * fh d ≤ (M - m).toNat * fh d := Nat.mul_le_mul_right _ hi
        rw [Nat.add_mul] at this
        omega)
      refine ⟨_, _, ?_, some (.int (m + 1 + (i : Int))), x6, rfl, rfl⟩
      unfold fbd
      simp only [E1, E2, E3, E4, E5, E6, E7, E8, E9, List.map_cons, List.map_nil, List.cons_append, List.nil_append, List.append_nil, List.length_cons, List.length_nil, List.replicate_zero, List.replicate_succ, Nat.sub_self, Nat.zero_add, List.getElem?_cons_zero, List.getElem?_cons_succ, List.set_cons_zero, List.set_cons_succ, if_true, if_false, Bool.false_eq_true, decide_true, decide_false, Bool.not_true, Bool.not_false, decide_eq_true_eq, eq_self, Int.cast_ofNat_Int, Int.natCast_zero, Int.natCast_one, Nat.reduceLeDiff, Nat.reduceSub, Nat.reduceAdd, Nat.reduceLT, reduceIte, reduceCtorEq, Int.reduceEq, Int.reduceLT, Int.reduceLE, Int.reduceNeg, Int.reduceAdd, Int.reduceSub, Int.reduceMul, Int.reduceNe, Int.reduceBNe, Int.reduceBEq, b__law_fin_1, shl_d h, shl_d1 h, pow_d, pow_d1 h, r3, List.length_map, List.length_range, l5, wipe_nil, wipe_cons, c2, rows_len, ll, rows_next])
    ⟨none, none, by rw [Nat.zero_mul, Nat.add_zero], rfl⟩
  simp only [List.length_map, List.length_range] at hl
  have hmk : D.tup [.str "nothing", .int 0] = nothD 0 := rfl
  simp only [E1, E2, E3, E4, E5, E6, E7, E8, E9, List.map_cons, List.map_nil, List.cons_append, List.nil_append, List.append_nil, List.length_cons, List.length_nil, List.replicate_zero, List.replicate_succ, Nat.sub_self, Nat.zero_add, List.getElem?_cons_zero, List.getElem?_cons_succ, List.set_cons_zero, List.set_cons_succ, if_true, if_false, Bool.false_eq_true, decide_true, decide_false, Bool.not_true, Bool.not_false, decide_eq_true_eq, eq_self, Int.cast_ofNat_Int, Int.natCast_zero, Int.natCast_one, Nat.reduceLeDiff, Nat.reduceSub, Nat.reduceAdd, Nat.reduceLT, reduceIte, reduceCtorEq, Int.reduceEq, Int.reduceLT, Int.reduceLE, Int.reduceNeg, Int.reduceAdd, Int.reduceSub, Int.reduceMul, Int.reduceNe, Int.reduceBNe, Int.reduceBEq, f__law_fin, asg_fm, shl_d h, pow_d, r1, List.length_map, List.length_range, l0, wipe_nil, wipe_cons, c1, l1, hmk, f1, r2, hl]
  rfl
end

end Rw.Pk22

set_option exponentiation.threshold 300
namespace Rw.Pk22
open PySem L2 Rw
section
variable {k : Nat} {S : Sto} {d : Nat} {m M : Int} {q : Rat} {p : Int} {n : Nat} {way : Str} {s : Int} {L : Nat}
theorem vls_at {n j : Nat} (h : j < n) : atI (vlsL d m n) (j : Int) = some (fr (vl d m j)) := by
  have := at_nat (xs := vlsL d m n) (n := j) (by simpa [vlsL] using h)
  rw [this]
  simp [vlsL]
theorem rows_at {n j : Nat} (h : j < n) : atI (rowsL d m n) (j : Int) = some (rowD d m j) := by
  have := at_nat (xs := rowsL d m n) (n := j) (by simpa [rowsL] using h)
  rw [this]
  simp [rowsL]
def lowF (d : Nat) (m : Int) (a : Rat) (i : Nat) : Option D := if vl d m i ≤ a then some (D.int (i : Int)) else none
theorem low_ints (a : Rat) : ∀ xs : List Nat, intsD (xs.filterMap (lowF d m a)) = some ((xs.filter fun i => decide (vl d m i ≤ a)).map fun (i : Nat) => (i : Int))
  | [] => rfl
  | x :: xs => by
    have ih := low_ints a xs
    rw [List.filterMap_cons, List.filter_cons]
    unfold lowF at ih ⊢
    by_cases c : vl d m x ≤ a
    · rw [if_pos c, if_pos (decide_eq_true c)]
      show (intsD _).map _ = _
      rw [ih]
      rfl
    · rw [if_neg c, if_neg (by simpa using c)]
      exact ih
theorem low_max {a : Rat} (ha : 0 ≤ a) : ∃ L, IsLow d m M a L ∧ ∀ S : Sto, biD S .max [.lst ((List.range (cnt d m M)).filterMap (lowF d m a))] = some (.int (L : Int)) := by
  have h0 : (0 : Nat) ∈ (List.range (cnt d m M)).filter fun i => decide (vl d m i ≤ a) := by
    rw [List.mem_filter]
    refine ⟨List.mem_range.mpr cnt_pos, ?_⟩
    rw [vl_zero]
    exact decide_eq_true ha
  have hi := low_ints (d := d) (m := m) a (List.range (cnt d m M))
  generalize hF : (List.range (cnt d m M)).filter (fun i => decide (vl d m i ≤ a)) = F at h0 hi
  cases F with
  | nil => cases h0
  | cons i F =>
    rw [List.map_cons] at hi
    obtain ⟨f1, f2⟩ := max_fold (F.map fun (i : Nat) => (i : Int)) (i : Int)
    rw [← List.map_cons (f := fun (i : Nat) => (i : Int))] at f1 f2
    obtain ⟨L, hL, e⟩ := List.mem_map.mp f2
    rw [← hF, List.mem_filter] at hL
    refine ⟨L, ⟨List.mem_range.mp hL.1, of_decide_eq_true hL.2, fun j hj hv => ?_⟩, fun S => ?_⟩
    · have hm : j ∈ (List.range (cnt d m M)).filter fun i => decide (vl d m i ≤ a) := List.mem_filter.mpr ⟨List.mem_range.mpr hj, decide_eq_true hv⟩
      rw [hF] at hm
      have := f1 (j : Int) (List.mem_map.mpr ⟨j, hm, rfl⟩)
      rw [← e] at this
      exact Int.ofNat_le.mp this
    · show biMax [D.lst ((List.range (cnt d m M)).filterMap (lowF d m a))] = _
      unfold biMax
      simp only [hi]
      rw [← e]
theorem eq_eq {x y : Rat} : decide (x.num * (y.den : Int) = y.num * (x.den : Int)) = decide (x = y) := by
  rw [decide_eq_decide]
  have h1 := Rat.le_iff x y
  have h2 := Rat.le_iff y x
  constructor
  · intro h
    exact Rat.le_antisymm (h1.mpr (by omega)) (h2.mpr (by omega))
  · intro h
    rw [h]
/-- first: twice the size against the two beside it -/
def F0 (x y z : Rat) : Int := 2 * x.num * (y.den : Int) * (z.den : Int)
def F1 (x y z : Rat) : Int := (x.den : Int) * (y.num * (z.den : Int) + z.num * (y.den : Int))
theorem F_rat (x y z : Rat) : ((F0 x y z : Int) : Rat) = 2 * x * ((x.den : Rat) * (y.den : Rat) * (z.den : Rat)) ∧ ((F1 x y z : Int) : Rat) = (y + z) * ((x.den : Rat) * (y.den : Rat) * (z.den : Rat)) := by
  have h1 := mul_den x
  have h2 := mul_den y
  have h3 := mul_den z
  unfold F0 F1
  simp only [Rat.intCast_mul, Rat.intCast_add, Rat.intCast_natCast]
  rw [← h1, ← h2, ← h3]
  refine ⟨?_, ?_⟩
  · show ((2 : Int) : Rat) * _ * _ * _ = _
    rw [show ((2 : Int) : Rat) = 2 from rfl]
    grind
  · grind
theorem den3_pos (x y z : Rat) : 0 < (x.den : Rat) * (y.den : Rat) * (z.den : Rat) := Rat.mul_pos (Rat.mul_pos (Rat.natCast_pos.mpr x.den_pos) (Rat.natCast_pos.mpr y.den_pos)) (Rat.natCast_pos.mpr z.den_pos)
theorem F_gt {x y z : Rat} : decide (F1 x y z < F0 x y z) = decide (y + z < 2 * x) := by
  obtain ⟨h1, h2⟩ := F_rat x y z
  rw [decide_eq_decide, ← Rat.intCast_lt_intCast, h1, h2]
  refine ⟨fun h => Rat.lt_of_mul_lt_mul_right h (Rat.le_of_lt (den3_pos x y z)), fun h => Rat.mul_lt_mul_of_pos_right h (den3_pos x y z)⟩
theorem F_eq {x y z : Rat} : decide (F0 x y z = F1 x y z) = decide (y + z = 2 * x) := by
  obtain ⟨h1, h2⟩ := F_rat x y z
  have h3 := den3_pos x y z
  rw [decide_eq_decide, ← Rat.intCast_inj, h1, h2]
  refine ⟨fun h => ?_, fun h => by rw [h]⟩
  by_cases g : y + z < 2 * x
  · have := Rat.mul_lt_mul_of_pos_right g h3
    grind
  · by_cases g2 : 2 * x < y + z
    · have := Rat.mul_lt_mul_of_pos_right g2 h3
      grind
    · grind
/-- a row with a sign -/
def h1D (w : Nat) : D := .tup [.str (if w = 0 then "nothing" else "number")]
def h2D (s : Int) (w : Nat) : D := .tup [.str (if w = 0 then "nothing" else "number"), .int s]
def t2D (w : Nat) (p : Int) : D := if w = 0 then .tup [] else .tup [.int (w : Int), .int p]
theorem sl1_mk {w : Nat} {p : Int} : slD S (mkN s w p) none (some 1) = some (h1D w) := by
  unfold mkN h1D
  by_cases c : w = 0
  · rw [if_pos c, if_pos c]; exact sl1_noth
  · rw [if_neg c, if_neg c]; exact sl1_num
theorem sl2_mk {w : Nat} {p : Int} : slD S (mkN s w p) (some 2) none = some (t2D w p) := by
  unfold mkN t2D
  by_cases c : w = 0
  · rw [if_pos c, if_pos c]; exact sl2_noth
  · rw [if_neg c, if_neg c]; exact sl2_num
theorem add1_mk {w : Nat} : binD .Add (h1D w) (.tup [.int s]) = some (h2D s w) := by
  unfold h1D h2D
  rw [add_t]
  rfl
theorem add2_mk {w : Nat} {p : Int} : binD .Add (h2D s w) (t2D w p) = some (mkN s w p) := by
  unfold h2D t2D mkN
  by_cases c : w = 0
  · simp only [c, if_true]
    rw [add_t]
    rfl
  · simp only [c, if_false]
    rw [add_t]
    rfl
theorem row_mk {j : Nat} : rowD d m j = mkN 0 (rW d j) (rP d m j) := nrfl rfl
def lawUp (way : Str) (own : Int) (gt eq evn : Bool) : Bool := if way = "even" then (gt || (eq && !evn)) else if way = "away" then (gt || eq) else if way = "up" then decide (own = 0) else if way = "down" then decide (own = 1) else false
def eaB (way : Str) : Bool := if way = "even" then true else if way = "away" then true else false
def upL (d : Nat) (m : Int) (way : Str) (q : Rat) (L : Nat) : Bool := lawUp way (ownQ q) (decide (vl d m (L + 1) + vl d m L < 2 * q.abs)) (decide (vl d m (L + 1) + vl d m L = 2 * q.abs)) (decide (rW d L % 2 = 0))
def mrkL (d : Nat) (m : Int) (q : Rat) : D := if smallQ d m q = true then .tup [.str "inexact", .str "underflow"] else .tup [.str "inexact"]
theorem beyv (h : Fm d m M) : callK G (k + 5) i__law_least [.int (1 * 2 ^ (if (d : Int) + M > 0 then (d : Int) + M else 0).toNat), .int (1 * 2 ^ (if 0 - ((d : Int) + M) > 0 then 0 - ((d : Int) + M) else 0).toNat)] S = some (fr (vl d m (cnt d m M)), S) := by
  rw [vl_cnt (by have := h.d1; omega) h.le, Int.one_mul, Int.one_mul]
  have hM := h.M1
  have hd2 := h.d2
  have one : ((1 : Int) : Rat) = 1 := rfl
  by_cases c : 0 ≤ (d : Int) + M
  · have e1 : (if (d : Int) + M > 0 then (d : Int) + M else 0) = (d : Int) + M := by split <;> omega
    have e2 : (if 0 - ((d : Int) + M) > 0 then 0 - ((d : Int) + M) else 0) = 0 := by rw [if_neg (by omega)]
    rw [e1, e2]
    have e := least_ok (k := k + 4) (S := S) (u := 1 * 2 ^ ((d : Int) + M).toNat) (l := 1) (by decide) (Nat.one_lt_two_pow (by decide))
    rw [val_pos c, one, Rat.one_mul, Int.one_mul] at e
    exact e
  · have e1 : (if (d : Int) + M > 0 then (d : Int) + M else 0) = 0 := by rw [if_neg (by omega)]
    have e2 : (if 0 - ((d : Int) + M) > 0 then 0 - ((d : Int) + M) else 0) = -((d : Int) + M) := by rw [if_pos (by omega), Int.zero_sub]
    rw [e1, e2]
    have hb : Bd 8999 (2 ^ (-((d : Int) + M)).toNat) := by
      show ((2 : Int) ^ (-((d : Int) + M)).toNat).natAbs < 2 ^ 8999
      rw [Int.natAbs_pow]
      exact Nat.pow_lt_pow_right (by decide) (by omega)
    have hne : (2 : Int) ^ (-((d : Int) + M)).toNat ≠ 0 := by
      have := pow_succ_eq (-((d : Int) + M)).toNat
      omega
    have e := least_ok (k := k + 4) (S := S) (u := 1) (l := 2 ^ (-((d : Int) + M)).toNat) hne hb
    rw [val_neg (by omega), one, Rat.one_mul] at e
    exact e
theorem vl_sm' (h : Fm d m M) {j : Nat} (hj : j ≤ cnt d m M) : Sm 400 (vl d m j) := by
  rcases Nat.lt_or_eq_of_le hj with g | g
  · exact vl_sm h g
  · rw [g, vl_cnt (by have := h.d1; omega) h.le]
    exact (sm_two (m := 300) (by have := h.d2; have := h.M1; omega)).mono (by decide)
def lawOut (d : Nat) (m M : Int) (way : Str) (q : Rat) (L : Nat) : D := if vl d m L = q.abs then .tup [mkN (ownQ q) (rW d L) (rP d m L), .tup []] else
  if L + 1 = cnt d m M ∧ (upL d m way q L = true ∨ vl d m (cnt d m M) ≤ q.abs) then .tup [if (upL d m way q L || eaB way) = true then endD (ownQ q) else mkN (ownQ q) (rW d L) (rP d m L), ovf]
  else .tup [if upL d m way q L = true then mkN (ownQ q) (rW d (L + 1)) (rP d m (L + 1)) else mkN (ownQ q) (rW d L) (rP d m L), mrkL d m q]
theorem l5 (hL : L < cnt d m M) (h : Fm d m M) (hq : Sm 1000 q) (hx : ¬ vl d m L = q.abs) : evS G (callK G (k + 5)) s__law_round_0_5 [some (fmD d m M), some (.str way), some (fr q), some (.int s), some (.int (ownQ q)), some (.lst (rowsL d m (cnt d m M))), some (.int q.abs.num), some (.int (q.abs.den : Int)), some (.lst (vlsL d m (cnt d m M))), some (.int (L : Int)), none, none, none, none, none, none, none, none, none, none, none] S = some (.nx [some (fmD d m M), some (.str way), some (fr q), some (.int s), some (.int (ownQ q)), some (.lst (rowsL d m (cnt d m M))), some (.int q.abs.num), some (.int (q.abs.den : Int)), some (.lst (vlsL d m (cnt d m M))), some (.int (L : Int)), none, none, none, none, none, none, none, none, none, none, none], S) := by
  have o1 := (vl_sm h hL).nm.mulOk hq.abs.dn (by decide)
  have o2 := hq.abs.nm.mulOk (vl_sm h hL).dn (by decide)
  simp only [E1, E2, E3, E4, E5, E6, E7, E8, E9, List.map_cons, List.map_nil, List.cons_append, List.nil_append, List.append_nil, List.length_cons, List.length_nil, List.replicate_zero, List.replicate_succ, Nat.sub_self, Nat.zero_add, List.getElem?_cons_zero, List.getElem?_cons_succ, List.set_cons_zero, List.set_cons_succ, if_true, if_false, Bool.false_eq_true, decide_true, decide_false, Bool.not_true, Bool.not_false, decide_eq_true_eq, eq_self, Int.cast_ofNat_Int, Int.natCast_zero, Int.natCast_one, Nat.reduceLeDiff, Nat.reduceSub, Nat.reduceAdd, Nat.reduceLT, reduceIte, reduceCtorEq, Int.reduceEq, Int.reduceLT, Int.reduceLE, Int.reduceNeg, Int.reduceAdd, Int.reduceSub, Int.reduceMul, Int.reduceNe, Int.reduceBNe, Int.reduceBEq, s__law_round_0_5, vls_at hL, idx_fr0, idx_fr1, o1, o2, eq_eq, hx]
theorem l67 (h : Fm d m M) : evSs G (callK G (k + 5)) (.cons s__law_round_0_6 (.cons s__law_round_0_7 .nil)) [some (fmD d m M), some (.str way), some (fr q), some (.int s), some (.int (ownQ q)), some (.lst (rowsL d m (cnt d m M))), some (.int q.abs.num), some (.int (q.abs.den : Int)), some (.lst (vlsL d m (cnt d m M))), some (.int (L : Int)), none, none, none, none, none, none, none, none, none, none, none] S = some (.nx [some (fmD d m M), some (.str way), some (fr q), some (.int s), some (.int (ownQ q)), some (.lst (rowsL d m (cnt d m M))), some (.int q.abs.num), some (.int (q.abs.den : Int)), some (.lst (vlsL d m (cnt d m M))), some (.int (L : Int)), none, some (.int ((d : Int) + M)), some (fr (vl d m (cnt d m M))), none, none, none, none, none, none, none, none], S) := by
  have hM := h.M1
  have hd2 := h.d2
  have s1 := shl_one (b := if (d : Int) + M > 0 then (d : Int) + M else 0) (by split <;> omega) (by split <;> omega)
  have s2 := shl_one (b := if 0 - ((d : Int) + M) > 0 then 0 - ((d : Int) + M) else 0) (by split <;> omega) (by split <;> omega)
  simp only [E1, E2, E3, E4, E5, E6, E7, E8, E9, List.map_cons, List.map_nil, List.cons_append, List.nil_append, List.append_nil, List.length_cons, List.length_nil, List.replicate_zero, List.replicate_succ, Nat.sub_self, Nat.zero_add, List.getElem?_cons_zero, List.getElem?_cons_succ, List.set_cons_zero, List.set_cons_succ, if_true, if_false, Bool.false_eq_true, decide_true, decide_false, Bool.not_true, Bool.not_false, decide_eq_true_eq, eq_self, Int.cast_ofNat_Int, Int.natCast_zero, Int.natCast_one, Nat.reduceLeDiff, Nat.reduceSub, Nat.reduceAdd, Nat.reduceLT, reduceIte, reduceCtorEq, Int.reduceEq, Int.reduceLT, Int.reduceLE, Int.reduceNeg, Int.reduceAdd, Int.reduceSub, Int.reduceMul, Int.reduceNe, Int.reduceBNe, Int.reduceBEq, s__law_round_0_6, s__law_round_0_7, idx_fm0, idx_fm2, s1, s2, beyv h]
theorem l89 (hL : L < cnt d m M) (h : Fm d m M) (hq : Sm 1000 q) : evSs G (callK G (k + 5)) (.cons s__law_round_0_8 (.cons s__law_round_0_9 .nil)) [some (fmD d m M), some (.str way), some (fr q), some (.int s), some (.int (ownQ q)), some (.lst (rowsL d m (cnt d m M))), some (.int q.abs.num), some (.int (q.abs.den : Int)), some (.lst (vlsL d m (cnt d m M))), some (.int (L : Int)), none, some (.int ((d : Int) + M)), some (fr (vl d m (cnt d m M))), none, none, none, none, none, none, none, none] S = some (.nx [some (fmD d m M), some (.str way), some (fr q), some (.int s), some (.int (ownQ q)), some (.lst (rowsL d m (cnt d m M))), some (.int q.abs.num), some (.int (q.abs.den : Int)), some (.lst (vlsL d m (cnt d m M))), some (.int (L : Int)), none, some (.int ((d : Int) + M)), some (fr (vl d m (cnt d m M))), some (fr (vl d m (L + 1))), some (.tup [.int (F0 q.abs (vl d m (L + 1)) (vl d m L)), .int (F1 q.abs (vl d m (L + 1)) (vl d m L))]), none, none, none, none, none, none], S) := by
  have sv := vl_sm h hL
  have su := vl_sm' h (show L + 1 ≤ cnt d m M from hL)
  have b2 : Bd 2 2 := by show (2 : Nat) < 2 ^ 2; decide
  have o1 := b2.mulOk hq.abs.nm (by decide)
  have o2 := (b2.mul hq.abs.nm).mulOk su.dn (by decide)
  have o3 := ((b2.mul hq.abs.nm).mul su.dn).mulOk sv.dn (by decide)
  have o4 := su.nm.mulOk sv.dn (by decide)
  have o5 := sv.nm.mulOk su.dn (by decide)
  have o6 := hq.abs.dn.mulOk ((su.nm.mul sv.dn).add (sv.nm.mul su.dn)) (by decide)
  have f0 : 2 * q.abs.num * ((vl d m (L + 1)).den : Int) * ((vl d m L).den : Int) = F0 q.abs (vl d m (L + 1)) (vl d m L) := rfl
  have f1 : (q.abs.den : Int) * ((vl d m (L + 1)).num * ((vl d m L).den : Int) + (vl d m L).num * ((vl d m (L + 1)).den : Int)) = F1 q.abs (vl d m (L + 1)) (vl d m L) := rfl
  by_cases c : L + 1 < cnt d m M
  · have c' : (L : Int) + 1 < (cnt d m M : Int) := by omega
    have va := vls_at (d := d) (m := m) c
    rw [Int.natCast_add] at va
    have va : atI (vlsL d m (cnt d m M)) ((L : Int) + 1) = some (fr (vl d m (L + 1))) := va
    simp only [E1, E2, E3, E4, E5, E6, E7, E8, E9, List.map_cons, List.map_nil, List.cons_append, List.nil_append, List.append_nil, List.length_cons, List.length_nil, List.replicate_zero, List.replicate_succ, Nat.sub_self, Nat.zero_add, List.getElem?_cons_zero, List.getElem?_cons_succ, List.set_cons_zero, List.set_cons_succ, if_true, if_false, Bool.false_eq_true, decide_true, decide_false, Bool.not_true, Bool.not_false, decide_eq_true_eq, eq_self, Int.cast_ofNat_Int, Int.natCast_zero, Int.natCast_one, Nat.reduceLeDiff, Nat.reduceSub, Nat.reduceAdd, Nat.reduceLT, reduceIte, reduceCtorEq, Int.reduceEq, Int.reduceLT, Int.reduceLE, Int.reduceNeg, Int.reduceAdd, Int.reduceSub, Int.reduceMul, Int.reduceNe, Int.reduceBNe, Int.reduceBEq, s__law_round_0_8, s__law_round_0_9, rows_len, c', va, vls_at hL, idx_fr0, idx_fr1, o1, o2, o3, o4, o5, o6, f0, f1]
  · have c' : ¬ (L : Int) + 1 < (cnt d m M : Int) := by omega
    have e : cnt d m M = L + 1 := by omega
    rw [← e] at o2 o3 o4 o5 o6 f0 f1 ⊢
    simp only [E1, E2, E3, E4, E5, E6, E7, E8, E9, List.map_cons, List.map_nil, List.cons_append, List.nil_append, List.append_nil, List.length_cons, List.length_nil, List.replicate_zero, List.replicate_succ, Nat.sub_self, Nat.zero_add, List.getElem?_cons_zero, List.getElem?_cons_succ, List.set_cons_zero, List.set_cons_succ, if_true, if_false, Bool.false_eq_true, decide_true, decide_false, Bool.not_true, Bool.not_false, decide_eq_true_eq, eq_self, Int.cast_ofNat_Int, Int.natCast_zero, Int.natCast_one, Nat.reduceLeDiff, Nat.reduceSub, Nat.reduceAdd, Nat.reduceLT, reduceIte, reduceCtorEq, Int.reduceEq, Int.reduceLT, Int.reduceLE, Int.reduceNeg, Int.reduceAdd, Int.reduceSub, Int.reduceMul, Int.reduceNe, Int.reduceBNe, Int.reduceBEq, s__law_round_0_8, s__law_round_0_9, rows_len, c', vls_at hL, idx_fr0, idx_fr1, o1, o2, o3, o4, o5, o6, f0, f1]
theorem l10 (hL : L < cnt d m M) : evS G (callK G (k + 5)) s__law_round_0_10 [some (fmD d m M), some (.str way), some (fr q), some (.int s), some (.int (ownQ q)), some (.lst (rowsL d m (cnt d m M))), some (.int q.abs.num), some (.int (q.abs.den : Int)), some (.lst (vlsL d m (cnt d m M))), some (.int (L : Int)), none, some (.int ((d : Int) + M)), some (fr (vl d m (cnt d m M))), some (fr (vl d m (L + 1))), some (.tup [.int (F0 q.abs (vl d m (L + 1)) (vl d m L)), .int (F1 q.abs (vl d m (L + 1)) (vl d m L))]), none, none, none, none, none, none] S = some (.nx [some (fmD d m M), some (.str way), some (fr q), some (.int s), some (.int (ownQ q)), some (.lst (rowsL d m (cnt d m M))), some (.int q.abs.num), some (.int (q.abs.den : Int)), some (.lst (vlsL d m (cnt d m M))), some (.int (L : Int)), none, some (.int ((d : Int) + M)), some (fr (vl d m (cnt d m M))), some (fr (vl d m (L + 1))), some (.tup [.int (F0 q.abs (vl d m (L + 1)) (vl d m L)), .int (F1 q.abs (vl d m (L + 1)) (vl d m L))]), some (.bl (decide (rW d L % 2 = 0))), none, none, none, none, none], S) := by
  have m2 : Int.fmod ((rW d L : Nat) : Int) 2 = ((rW d L % 2 : Nat) : Int) := fmod_nat _ 2
  have z2 : (2 : Int) ≠ 0 := by decide
  by_cases c : rW d L = 0
  · have e : rowD d m L = nothD 0 := by rw [row_mk]; unfold mkN; rw [if_pos c]
    rw [c]
    simp only [E1, E2, E3, E4, E5, E6, E7, E8, E9, List.map_cons, List.map_nil, List.cons_append, List.nil_append, List.append_nil, List.length_cons, List.length_nil, List.replicate_zero, List.replicate_succ, Nat.sub_self, Nat.zero_add, List.getElem?_cons_zero, List.getElem?_cons_succ, List.set_cons_zero, List.set_cons_succ, if_true, if_false, Bool.false_eq_true, decide_true, decide_false, Bool.not_true, Bool.not_false, decide_eq_true_eq, eq_self, Int.cast_ofNat_Int, Int.natCast_zero, Int.natCast_one, Nat.reduceLeDiff, Nat.reduceSub, Nat.reduceAdd, Nat.reduceLT, reduceIte, reduceCtorEq, Int.reduceEq, Int.reduceLT, Int.reduceLE, Int.reduceNeg, Int.reduceAdd, Int.reduceSub, Int.reduceMul, Int.reduceNe, Int.reduceBNe, Int.reduceBEq, s__law_round_0_10, rows_at hL, e, idx_z0]
  · have e : rowD d m L = numD 0 (rW d L) (rP d m L) := by rw [row_mk]; unfold mkN; rw [if_neg c]
    have e2 : decide (((rW d L % 2 : Nat) : Int) = 0) = decide (rW d L % 2 = 0) := by rw [decide_eq_decide]; omega
    simp only [E1, E2, E3, E4, E5, E6, E7, E8, E9, List.map_cons, List.map_nil, List.cons_append, List.nil_append, List.append_nil, List.length_cons, List.length_nil, List.replicate_zero, List.replicate_succ, Nat.sub_self, Nat.zero_add, List.getElem?_cons_zero, List.getElem?_cons_succ, List.set_cons_zero, List.set_cons_succ, if_true, if_false, Bool.false_eq_true, decide_true, decide_false, Bool.not_true, Bool.not_false, decide_eq_true_eq, eq_self, Int.cast_ofNat_Int, Int.natCast_zero, Int.natCast_one, Nat.reduceLeDiff, Nat.reduceSub, Nat.reduceAdd, Nat.reduceLT, reduceIte, reduceCtorEq, Int.reduceEq, Int.reduceLT, Int.reduceLE, Int.reduceNeg, Int.reduceAdd, Int.reduceSub, Int.reduceMul, Int.reduceNe, Int.reduceBNe, Int.reduceBEq, s__law_round_0_10, rows_at hL, e, idx_n0, idx_n2, YN, m2, e2, ne_eq, not_false_eq_true]
theorem l11 (hw : way ∈ ways) : evS G (callK G (k + 5)) s__law_round_0_11 [some (fmD d m M), some (.str way), some (fr q), some (.int s), some (.int (ownQ q)), some (.lst (rowsL d m (cnt d m M))), some (.int q.abs.num), some (.int (q.abs.den : Int)), some (.lst (vlsL d m (cnt d m M))), some (.int (L : Int)), none, some (.int ((d : Int) + M)), some (fr (vl d m (cnt d m M))), some (fr (vl d m (L + 1))), some (.tup [.int (F0 q.abs (vl d m (L + 1)) (vl d m L)), .int (F1 q.abs (vl d m (L + 1)) (vl d m L))]), some (.bl (decide (rW d L % 2 = 0))), none, none, none, none, none] S = some (.nx [some (fmD d m M), some (.str way), some (fr q), some (.int s), some (.int (ownQ q)), some (.lst (rowsL d m (cnt d m M))), some (.int q.abs.num), some (.int (q.abs.den : Int)), some (.lst (vlsL d m (cnt d m M))), some (.int (L : Int)), none, some (.int ((d : Int) + M)), some (fr (vl d m (cnt d m M))), some (fr (vl d m (L + 1))), some (.tup [.int (F0 q.abs (vl d m (L + 1)) (vl d m L)), .int (F1 q.abs (vl d m (L + 1)) (vl d m L))]), some (.bl (decide (rW d L % 2 = 0))), some (.bl (upL d m way q L)), none, none, none, none], S) := by
  have g := F_gt (x := q.abs) (y := vl d m (L + 1)) (z := vl d m L)
  have e := F_eq (x := q.abs) (y := vl d m (L + 1)) (z := vl d m L)
  unfold upL lawUp
  rw [← g, ← e]
  generalize F0 q.abs (vl d m (L + 1)) (vl d m L) = f0
  generalize F1 q.abs (vl d m (L + 1)) (vl d m L) = f1
  rcases w_cases hw with rfl | rfl | rfl | rfl | rfl
  · by_cases c : f1 < f0
    · simp only [E1, E2, E3, E4, E5, E6, E7, E8, E9, List.map_cons, List.map_nil, List.cons_append, List.nil_append, List.append_nil, List.length_cons, List.length_nil, List.replicate_zero, List.replicate_succ, Nat.sub_self, Nat.zero_add, List.getElem?_cons_zero, List.getElem?_cons_succ, List.set_cons_zero, List.set_cons_succ, if_true, if_false, Bool.false_eq_true, decide_true, decide_false, Bool.not_true, Bool.not_false, decide_eq_true_eq, eq_self, Int.cast_ofNat_Int, Int.natCast_zero, Int.natCast_one, Nat.reduceLeDiff, Nat.reduceSub, Nat.reduceAdd, Nat.reduceLT, reduceIte, reduceCtorEq, Int.reduceEq, Int.reduceLT, Int.reduceLE, Int.reduceNeg, Int.reduceAdd, Int.reduceSub, Int.reduceMul, Int.reduceNe, Int.reduceBNe, Int.reduceBEq, s__law_round_0_11, in_ea_even, c, YW, Bool.true_or]
    · by_cases c2 : f0 = f1
      · simp only [E1, E2, E3, E4, E5, E6, E7, E8, E9, List.map_cons, List.map_nil, List.cons_append, List.nil_append, List.append_nil, List.length_cons, List.length_nil, List.replicate_zero, List.replicate_succ, Nat.sub_self, Nat.zero_add, List.getElem?_cons_zero, List.getElem?_cons_succ, List.set_cons_zero, List.set_cons_succ, if_true, if_false, Bool.false_eq_true, decide_true, decide_false, Bool.not_true, Bool.not_false, decide_eq_true_eq, eq_self, Int.cast_ofNat_Int, Int.natCast_zero, Int.natCast_one, Nat.reduceLeDiff, Nat.reduceSub, Nat.reduceAdd, Nat.reduceLT, reduceIte, reduceCtorEq, Int.reduceEq, Int.reduceLT, Int.reduceLE, Int.reduceNeg, Int.reduceAdd, Int.reduceSub, Int.reduceMul, Int.reduceNe, Int.reduceBNe, Int.reduceBEq, s__law_round_0_11, in_ea_even, c, c2, YW, Bool.false_or, Bool.true_and, Int.lt_irrefl]
      · simp only [E1, E2, E3, E4, E5, E6, E7, E8, E9, List.map_cons, List.map_nil, List.cons_append, List.nil_append, List.append_nil, List.length_cons, List.length_nil, List.replicate_zero, List.replicate_succ, Nat.sub_self, Nat.zero_add, List.getElem?_cons_zero, List.getElem?_cons_succ, List.set_cons_zero, List.set_cons_succ, if_true, if_false, Bool.false_eq_true, decide_true, decide_false, Bool.not_true, Bool.not_false, decide_eq_true_eq, eq_self, Int.cast_ofNat_Int, Int.natCast_zero, Int.natCast_one, Nat.reduceLeDiff, Nat.reduceSub, Nat.reduceAdd, Nat.reduceLT, reduceIte, reduceCtorEq, Int.reduceEq, Int.reduceLT, Int.reduceLE, Int.reduceNeg, Int.reduceAdd, Int.reduceSub, Int.reduceMul, Int.reduceNe, Int.reduceBNe, Int.reduceBEq, s__law_round_0_11, in_ea_even, c, c2, YW, Bool.false_or, Bool.false_and]
  · by_cases c : f1 < f0
    · simp only [E1, E2, E3, E4, E5, E6, E7, E8, E9, List.map_cons, List.map_nil, List.cons_append, List.nil_append, List.append_nil, List.length_cons, List.length_nil, List.replicate_zero, List.replicate_succ, Nat.sub_self, Nat.zero_add, List.getElem?_cons_zero, List.getElem?_cons_succ, List.set_cons_zero, List.set_cons_succ, if_true, if_false, Bool.false_eq_true, decide_true, decide_false, Bool.not_true, Bool.not_false, decide_eq_true_eq, eq_self, Int.cast_ofNat_Int, Int.natCast_zero, Int.natCast_one, Nat.reduceLeDiff, Nat.reduceSub, Nat.reduceAdd, Nat.reduceLT, reduceIte, reduceCtorEq, Int.reduceEq, Int.reduceLT, Int.reduceLE, Int.reduceNeg, Int.reduceAdd, Int.reduceSub, Int.reduceMul, Int.reduceNe, Int.reduceBNe, Int.reduceBEq, s__law_round_0_11, in_ea_away, c, YW, Bool.true_or]
    · by_cases c2 : f0 = f1
      · simp only [E1, E2, E3, E4, E5, E6, E7, E8, E9, List.map_cons, List.map_nil, List.cons_append, List.nil_append, List.append_nil, List.length_cons, List.length_nil, List.replicate_zero, List.replicate_succ, Nat.sub_self, Nat.zero_add, List.getElem?_cons_zero, List.getElem?_cons_succ, List.set_cons_zero, List.set_cons_succ, if_true, if_false, Bool.false_eq_true, decide_true, decide_false, Bool.not_true, Bool.not_false, decide_eq_true_eq, eq_self, Int.cast_ofNat_Int, Int.natCast_zero, Int.natCast_one, Nat.reduceLeDiff, Nat.reduceSub, Nat.reduceAdd, Nat.reduceLT, reduceIte, reduceCtorEq, Int.reduceEq, Int.reduceLT, Int.reduceLE, Int.reduceNeg, Int.reduceAdd, Int.reduceSub, Int.reduceMul, Int.reduceNe, Int.reduceBNe, Int.reduceBEq, s__law_round_0_11, in_ea_away, c, c2, YW, Bool.false_or, Int.lt_irrefl]
      · simp only [E1, E2, E3, E4, E5, E6, E7, E8, E9, List.map_cons, List.map_nil, List.cons_append, List.nil_append, List.append_nil, List.length_cons, List.length_nil, List.replicate_zero, List.replicate_succ, Nat.sub_self, Nat.zero_add, List.getElem?_cons_zero, List.getElem?_cons_succ, List.set_cons_zero, List.set_cons_succ, if_true, if_false, Bool.false_eq_true, decide_true, decide_false, Bool.not_true, Bool.not_false, decide_eq_true_eq, eq_self, Int.cast_ofNat_Int, Int.natCast_zero, Int.natCast_one, Nat.reduceLeDiff, Nat.reduceSub, Nat.reduceAdd, Nat.reduceLT, reduceIte, reduceCtorEq, Int.reduceEq, Int.reduceLT, Int.reduceLE, Int.reduceNeg, Int.reduceAdd, Int.reduceSub, Int.reduceMul, Int.reduceNe, Int.reduceBNe, Int.reduceBEq, s__law_round_0_11, in_ea_away, c, c2, YW, Bool.false_or]
  · by_cases c : ownQ q = 0
    · simp only [E1, E2, E3, E4, E5, E6, E7, E8, E9, List.map_cons, List.map_nil, List.cons_append, List.nil_append, List.append_nil, List.length_cons, List.length_nil, List.replicate_zero, List.replicate_succ, Nat.sub_self, Nat.zero_add, List.getElem?_cons_zero, List.getElem?_cons_succ, List.set_cons_zero, List.set_cons_succ, if_true, if_false, Bool.false_eq_true, decide_true, decide_false, Bool.not_true, Bool.not_false, decide_eq_true_eq, eq_self, Int.cast_ofNat_Int, Int.natCast_zero, Int.natCast_one, Nat.reduceLeDiff, Nat.reduceSub, Nat.reduceAdd, Nat.reduceLT, reduceIte, reduceCtorEq, Int.reduceEq, Int.reduceLT, Int.reduceLE, Int.reduceNeg, Int.reduceAdd, Int.reduceSub, Int.reduceMul, Int.reduceNe, Int.reduceBNe, Int.reduceBEq, s__law_round_0_11, in_ea_up, c, YW]
    · simp only [E1, E2, E3, E4, E5, E6, E7, E8, E9, List.map_cons, List.map_nil, List.cons_append, List.nil_append, List.append_nil, List.length_cons, List.length_nil, List.replicate_zero, List.replicate_succ, Nat.sub_self, Nat.zero_add, List.getElem?_cons_zero, List.getElem?_cons_succ, List.set_cons_zero, List.set_cons_succ, if_true, if_false, Bool.false_eq_true, decide_true, decide_false, Bool.not_true, Bool.not_false, decide_eq_true_eq, eq_self, Int.cast_ofNat_Int, Int.natCast_zero, Int.natCast_one, Nat.reduceLeDiff, Nat.reduceSub, Nat.reduceAdd, Nat.reduceLT, reduceIte, reduceCtorEq, Int.reduceEq, Int.reduceLT, Int.reduceLE, Int.reduceNeg, Int.reduceAdd, Int.reduceSub, Int.reduceMul, Int.reduceNe, Int.reduceBNe, Int.reduceBEq, s__law_round_0_11, in_ea_up, c, YW]
  · simp only [E1, E2, E3, E4, E5, E6, E7, E8, E9, List.map_cons, List.map_nil, List.cons_append, List.nil_append, List.append_nil, List.length_cons, List.length_nil, List.replicate_zero, List.replicate_succ, Nat.sub_self, Nat.zero_add, List.getElem?_cons_zero, List.getElem?_cons_succ, List.set_cons_zero, List.set_cons_succ, if_true, if_false, Bool.false_eq_true, decide_true, decide_false, Bool.not_true, Bool.not_false, decide_eq_true_eq, eq_self, Int.cast_ofNat_Int, Int.natCast_zero, Int.natCast_one, Nat.reduceLeDiff, Nat.reduceSub, Nat.reduceAdd, Nat.reduceLT, reduceIte, reduceCtorEq, Int.reduceEq, Int.reduceLT, Int.reduceLE, Int.reduceNeg, Int.reduceAdd, Int.reduceSub, Int.reduceMul, Int.reduceNe, Int.reduceBNe, Int.reduceBEq, s__law_round_0_11, in_ea_down, YW]
  · simp only [E1, E2, E3, E4, E5, E6, E7, E8, E9, List.map_cons, List.map_nil, List.cons_append, List.nil_append, List.append_nil, List.length_cons, List.length_nil, List.replicate_zero, List.replicate_succ, Nat.sub_self, Nat.zero_add, List.getElem?_cons_zero, List.getElem?_cons_succ, List.set_cons_zero, List.set_cons_succ, if_true, if_false, Bool.false_eq_true, decide_true, decide_false, Bool.not_true, Bool.not_false, decide_eq_true_eq, eq_self, Int.cast_ofNat_Int, Int.natCast_zero, Int.natCast_one, Nat.reduceLeDiff, Nat.reduceSub, Nat.reduceAdd, Nat.reduceLT, reduceIte, reduceCtorEq, Int.reduceEq, Int.reduceLT, Int.reduceLE, Int.reduceNeg, Int.reduceAdd, Int.reduceSub, Int.reduceMul, Int.reduceNe, Int.reduceBNe, Int.reduceBEq, s__law_round_0_11, in_ea_cut, YW]
theorem l1213 (h : Fm d m M) (hq : Sm 1000 q) : evSs G (callK G (k + 5)) (.cons s__law_round_0_12 (.cons s__law_round_0_13 .nil)) [some (fmD d m M), some (.str way), some (fr q), some (.int s), some (.int (ownQ q)), some (.lst (rowsL d m (cnt d m M))), some (.int q.abs.num), some (.int (q.abs.den : Int)), some (.lst (vlsL d m (cnt d m M))), some (.int (L : Int)), none, some (.int ((d : Int) + M)), some (fr (vl d m (cnt d m M))), some (fr (vl d m (L + 1))), some (.tup [.int (F0 q.abs (vl d m (L + 1)) (vl d m L)), .int (F1 q.abs (vl d m (L + 1)) (vl d m L))]), some (.bl (decide (rW d L % 2 = 0))), some (.bl (upL d m way q L)), none, none, none, none] S = some (.nx [some (fmD d m M), some (.str way), some (fr q), some (.int s), some (.int (ownQ q)), some (.lst (rowsL d m (cnt d m M))), some (.int q.abs.num), some (.int (q.abs.den : Int)), some (.lst (vlsL d m (cnt d m M))), some (.int (L : Int)), none, some (.int ((d : Int) + M)), some (fr (vl d m (cnt d m M))), some (fr (vl d m (L + 1))), some (.tup [.int (F0 q.abs (vl d m (L + 1)) (vl d m L)), .int (F1 q.abs (vl d m (L + 1)) (vl d m L))]), some (.bl (decide (rW d L % 2 = 0))), some (.bl (upL d m way q L)), some (fr ((2 : Rat) ^ ((d : Int) - 1 + m))), some (mrkL d m q), none, none], S) := by
  have hv := lval_num (k := k + 3) (S := S) (s := 0) (w := fh d) (p := m) (fh_bd h) (by have := h.m1; omega) (.inl rfl)
  have e1 : sgQ 0 ((fh d : Rat) * (2 : Rat) ^ m) = (2 : Rat) ^ ((d : Int) - 1 + m) := by
    unfold sgQ
    rw [if_neg (by decide), fh_cast (by have := h.d1; omega), ← two_add]
  rw [e1] at hv
  have hv : callK G (k + 5) i__law_val [.tup [.str "number", .int 0, .int ((fh d : Nat) : Int), .int m]] S = some (fr ((2 : Rat) ^ ((d : Int) - 1 + m)), S) := hv
  have ss := small_sm h
  have o1 := hq.abs.nm.mulOk ss.dn (by decide)
  have o2 := ss.nm.mulOk hq.abs.dn (by decide)
  unfold mrkL smallQ
  by_cases c : q.abs < (2 : Rat) ^ ((d : Int) - 1 + m)
  · simp only [E1, E2, E3, E4, E5, E6, E7, E8, E9, List.map_cons, List.map_nil, List.cons_append, List.nil_append, List.append_nil, List.length_cons, List.length_nil, List.replicate_zero, List.replicate_succ, Nat.sub_self, Nat.zero_add, List.getElem?_cons_zero, List.getElem?_cons_succ, List.set_cons_zero, List.set_cons_succ, if_true, if_false, Bool.false_eq_true, decide_true, decide_false, Bool.not_true, Bool.not_false, decide_eq_true_eq, eq_self, Int.cast_ofNat_Int, Int.natCast_zero, Int.natCast_one, Nat.reduceLeDiff, Nat.reduceSub, Nat.reduceAdd, Nat.reduceLT, reduceIte, reduceCtorEq, Int.reduceEq, Int.reduceLT, Int.reduceLE, Int.reduceNeg, Int.reduceAdd, Int.reduceSub, Int.reduceMul, Int.reduceNe, Int.reduceBNe, Int.reduceBEq, s__law_round_0_12, s__law_round_0_13, idx_fm0, idx_fm1, shl_d1 h, pow_d1 h, hv, idx_fr0, idx_fr1, o1, o2, lt_eq, c]
  · simp only [E1, E2, E3, E4, E5, E6, E7, E8, E9, List.map_cons, List.map_nil, List.cons_append, List.nil_append, List.append_nil, List.length_cons, List.length_nil, List.replicate_zero, List.replicate_succ, Nat.sub_self, Nat.zero_add, List.getElem?_cons_zero, List.getElem?_cons_succ, List.set_cons_zero, List.set_cons_succ, if_true, if_false, Bool.false_eq_true, decide_true, decide_false, Bool.not_true, Bool.not_false, decide_eq_true_eq, eq_self, Int.cast_ofNat_Int, Int.natCast_zero, Int.natCast_one, Nat.reduceLeDiff, Nat.reduceSub, Nat.reduceAdd, Nat.reduceLT, reduceIte, reduceCtorEq, Int.reduceEq, Int.reduceLT, Int.reduceLE, Int.reduceNeg, Int.reduceAdd, Int.reduceSub, Int.reduceMul, Int.reduceNe, Int.reduceBNe, Int.reduceBEq, s__law_round_0_12, s__law_round_0_13, idx_fm0, idx_fm1, shl_d1 h, pow_d1 h, hv, idx_fr0, idx_fr1, o1, o2, lt_eq, c]
theorem inT_ea (hw : way ∈ ways) : cmpD S .In (.str way) (.tup [.str "even", .str "away"]) = some (eaB way) := by
  unfold eaB
  rcases w_cases hw with rfl | rfl | rfl | rfl | rfl
  · exact in_ea_even
  · exact in_ea_away
  · exact in_ea_up
  · exact in_ea_down
  · exact in_ea_cut
theorem ovf_mk : D.tup [.str "inexact", .str "overflow"] = ovf := nrfl rfl
theorem l14 (hL : L < cnt d m M) (h : Fm d m M) (hq : Sm 1000 q) (hw : way ∈ ways) (hx : ¬ vl d m L = q.abs) : evSs G (callK G (k + 5)) (.cons s__law_round_0_14 (.cons s__law_round_0_15 (.cons s__law_round_0_16 .nil))) [some (fmD d m M), some (.str way), some (fr q), some (.int s), some (.int (ownQ q)), some (.lst (rowsL d m (cnt d m M))), some (.int q.abs.num), some (.int (q.abs.den : Int)), some (.lst (vlsL d m (cnt d m M))), some (.int (L : Int)), none, some (.int ((d : Int) + M)), some (fr (vl d m (cnt d m M))), some (fr (vl d m (L + 1))), some (.tup [.int (F0 q.abs (vl d m (L + 1)) (vl d m L)), .int (F1 q.abs (vl d m (L + 1)) (vl d m L))]), some (.bl (decide (rW d L % 2 = 0))), some (.bl (upL d m way q L)), some (fr ((2 : Rat) ^ ((d : Int) - 1 + m))), some (mrkL d m q), none, none] S = some (.rt (lawOut d m M way q L), S) := by
  have sv := vl_sm' h (Nat.le_refl (cnt d m M))
  have o1 := hq.abs.nm.mulOk sv.dn (by decide)
  have o2 := sv.nm.mulOk hq.abs.dn (by decide)
  unfold lawOut
  rw [if_neg hx]
  have hin := inT_ea (S := S) hw
  generalize upL d m way q L = U
  by_cases c : L + 1 = cnt d m M
  · have c' : (L : Int) + 1 = (cnt d m M : Int) := by omega
    cases U with
    | true =>
      rw [if_pos ⟨c, .inl rfl⟩]
      simp only [E1, E2, E3, E4, E5, E6, E7, E8, E9, List.map_cons, List.map_nil, List.cons_append, List.nil_append, List.append_nil, List.length_cons, List.length_nil, List.replicate_zero, List.replicate_succ, Nat.sub_self, Nat.zero_add, List.getElem?_cons_zero, List.getElem?_cons_succ, List.set_cons_zero, List.set_cons_succ, if_true, if_false, Bool.false_eq_true, decide_true, decide_false, Bool.not_true, Bool.not_false, decide_eq_true_eq, eq_self, Int.cast_ofNat_Int, Int.natCast_zero, Int.natCast_one, Nat.reduceLeDiff, Nat.reduceSub, Nat.reduceAdd, Nat.reduceLT, reduceIte, reduceCtorEq, Int.reduceEq, Int.reduceLT, Int.reduceLE, Int.reduceNeg, Int.reduceAdd, Int.reduceSub, Int.reduceMul, Int.reduceNe, Int.reduceBNe, Int.reduceBEq, s__law_round_0_14, rows_len, c', Bool.true_or, mk_end, ovf_mk]
    | false =>
      by_cases c2 : vl d m (cnt d m M) ≤ q.abs
      · rw [if_pos ⟨c, .inr c2⟩]
        have e2 : decide ((vl d m (cnt d m M)).num * (q.abs.den : Int) ≤ q.abs.num * ((vl d m (cnt d m M)).den : Int)) = true := by rw [le_eq]; exact decide_eq_true c2
        cases he : eaB way with
        | true =>
          rw [he] at hin
          simp only [E1, E2, E3, E4, E5, E6, E7, E8, E9, List.map_cons, List.map_nil, List.cons_append, List.nil_append, List.append_nil, List.length_cons, List.length_nil, List.replicate_zero, List.replicate_succ, Nat.sub_self, Nat.zero_add, List.getElem?_cons_zero, List.getElem?_cons_succ, List.set_cons_zero, List.set_cons_succ, if_true, if_false, Bool.false_eq_true, decide_true, decide_false, Bool.not_true, Bool.not_false, decide_eq_true_eq, eq_self, Int.cast_ofNat_Int, Int.natCast_zero, Int.natCast_one, Nat.reduceLeDiff, Nat.reduceSub, Nat.reduceAdd, Nat.reduceLT, reduceIte, reduceCtorEq, Int.reduceEq, Int.reduceLT, Int.reduceLE, Int.reduceNeg, Int.reduceAdd, Int.reduceSub, Int.reduceMul, Int.reduceNe, Int.reduceBNe, Int.reduceBEq, s__law_round_0_14, rows_len, c', idx_fr0, idx_fr1, o1, o2, e2, hin, Bool.false_or, mk_end, ovf_mk]
        | false =>
          rw [he] at hin
          simp only [E1, E2, E3, E4, E5, E6, E7, E8, E9, List.map_cons, List.map_nil, List.cons_append, List.nil_append, List.append_nil, List.length_cons, List.length_nil, List.replicate_zero, List.replicate_succ, Nat.sub_self, Nat.zero_add, List.getElem?_cons_zero, List.getElem?_cons_succ, List.set_cons_zero, List.set_cons_succ, if_true, if_false, Bool.false_eq_true, decide_true, decide_false, Bool.not_true, Bool.not_false, decide_eq_true_eq, eq_self, Int.cast_ofNat_Int, Int.natCast_zero, Int.natCast_one, Nat.reduceLeDiff, Nat.reduceSub, Nat.reduceAdd, Nat.reduceLT, reduceIte, reduceCtorEq, Int.reduceEq, Int.reduceLT, Int.reduceLE, Int.reduceNeg, Int.reduceAdd, Int.reduceSub, Int.reduceMul, Int.reduceNe, Int.reduceBNe, Int.reduceBEq, s__law_round_0_14, rows_len, c', idx_fr0, idx_fr1, o1, o2, e2, hin, Bool.false_or, rows_at hL, row_mk, sl1_mk, sl2_mk, add1_mk, add2_mk, ovf_mk]
      · rw [if_neg (fun g => by rcases g.2 with g | g; exact Bool.false_ne_true g; exact c2 g)]
        have e2 : decide ((vl d m (cnt d m M)).num * (q.abs.den : Int) ≤ q.abs.num * ((vl d m (cnt d m M)).den : Int)) = false := by rw [le_eq]; exact decide_eq_false c2
        simp only [E1, E2, E3, E4, E5, E6, E7, E8, E9, List.map_cons, List.map_nil, List.cons_append, List.nil_append, List.append_nil, List.length_cons, List.length_nil, List.replicate_zero, List.replicate_succ, Nat.sub_self, Nat.zero_add, List.getElem?_cons_zero, List.getElem?_cons_succ, List.set_cons_zero, List.set_cons_succ, if_true, if_false, Bool.false_eq_true, decide_true, decide_false, Bool.not_true, Bool.not_false, decide_eq_true_eq, eq_self, Int.cast_ofNat_Int, Int.natCast_zero, Int.natCast_one, Nat.reduceLeDiff, Nat.reduceSub, Nat.reduceAdd, Nat.reduceLT, reduceIte, reduceCtorEq, Int.reduceEq, Int.reduceLT, Int.reduceLE, Int.reduceNeg, Int.reduceAdd, Int.reduceSub, Int.reduceMul, Int.reduceNe, Int.reduceBNe, Int.reduceBEq, s__law_round_0_14, s__law_round_0_15, s__law_round_0_16, rows_len, c', idx_fr0, idx_fr1, o1, o2, e2, rows_at hL, row_mk, sl1_mk, sl2_mk, add1_mk, add2_mk]
  · have c' : ¬ (L : Int) + 1 = (cnt d m M : Int) := by omega
    rw [if_neg (fun g => c g.1)]
    have ra := rows_at (d := d) (m := m) (n := cnt d m M) (j := L + 1) (by omega)
    rw [Int.natCast_add] at ra
    have ra : atI (rowsL d m (cnt d m M)) ((L : Int) + 1) = some (rowD d m (L + 1)) := ra
    cases U with
    | true => simp only [E1, E2, E3, E4, E5, E6, E7, E8, E9, List.map_cons, List.map_nil, List.cons_append, List.nil_append, List.append_nil, List.length_cons, List.length_nil, List.replicate_zero, List.replicate_succ, Nat.sub_self, Nat.zero_add, List.getElem?_cons_zero, List.getElem?_cons_succ, List.set_cons_zero, List.set_cons_succ, if_true, if_false, Bool.false_eq_true, decide_true, decide_false, Bool.not_true, Bool.not_false, decide_eq_true_eq, eq_self, Int.cast_ofNat_Int, Int.natCast_zero, Int.natCast_one, Nat.reduceLeDiff, Nat.reduceSub, Nat.reduceAdd, Nat.reduceLT, reduceIte, reduceCtorEq, Int.reduceEq, Int.reduceLT, Int.reduceLE, Int.reduceNeg, Int.reduceAdd, Int.reduceSub, Int.reduceMul, Int.reduceNe, Int.reduceBNe, Int.reduceBEq, s__law_round_0_14, s__law_round_0_15, s__law_round_0_16, rows_len, c', ra, row_mk, sl1_mk, sl2_mk, add1_mk, add2_mk]
    | false => simp only [E1, E2, E3, E4, E5, E6, E7, E8, E9, List.map_cons, List.map_nil, List.cons_append, List.nil_append, List.append_nil, List.length_cons, List.length_nil, List.replicate_zero, List.replicate_succ, Nat.sub_self, Nat.zero_add, List.getElem?_cons_zero, List.getElem?_cons_succ, List.set_cons_zero, List.set_cons_succ, if_true, if_false, Bool.false_eq_true, decide_true, decide_false, Bool.not_true, Bool.not_false, decide_eq_true_eq, eq_self, Int.cast_ofNat_Int, Int.natCast_zero, Int.natCast_one, Nat.reduceLeDiff, Nat.reduceSub, Nat.reduceAdd, Nat.reduceLT, reduceIte, reduceCtorEq, Int.reduceEq, Int.reduceLT, Int.reduceLE, Int.reduceNeg, Int.reduceAdd, Int.reduceSub, Int.reduceMul, Int.reduceNe, Int.reduceBNe, Int.reduceBEq, s__law_round_0_14, s__law_round_0_15, s__law_round_0_16, rows_len, c', rows_at hL, row_mk, sl1_mk, sl2_mk, add1_mk, add2_mk]
theorem law_tail (hL : L < cnt d m M) (h : Fm d m M) (hq : Sm 1000 q) (hw : way ∈ ways) : evSs G (callK G (k + 5)) (.cons s__law_round_0_5 (.cons s__law_round_0_6 (.cons s__law_round_0_7 (.cons s__law_round_0_8 (.cons s__law_round_0_9 (.cons s__law_round_0_10 (.cons s__law_round_0_11 (.cons s__law_round_0_12 (.cons s__law_round_0_13 (.cons s__law_round_0_14 (.cons s__law_round_0_15 (.cons s__law_round_0_16 .nil)))))))))))) [some (fmD d m M), some (.str way), some (fr q), some (.int s), some (.int (ownQ q)), some (.lst (rowsL d m (cnt d m M))), some (.int q.abs.num), some (.int (q.abs.den : Int)), some (.lst (vlsL d m (cnt d m M))), some (.int (L : Int)), none, none, none, none, none, none, none, none, none, none, none] S = some (.rt (lawOut d m M way q L), S) := by
  by_cases hx : vl d m L = q.abs
  · unfold lawOut
    rw [if_pos hx]
    have o1 := (vl_sm h hL).nm.mulOk hq.abs.dn (by decide)
    have o2 := hq.abs.nm.mulOk (vl_sm h hL).dn (by decide)
    have e1 : decide ((vl d m L).num * (q.abs.den : Int) = q.abs.num * ((vl d m L).den : Int)) = true := by rw [eq_eq]; exact decide_eq_true hx
    simp only [E1, E2, E3, E4, E5, E6, E7, E8, E9, List.map_cons, List.map_nil, List.cons_append, List.nil_append, List.append_nil, List.length_cons, List.length_nil, List.replicate_zero, List.replicate_succ, Nat.sub_self, Nat.zero_add, List.getElem?_cons_zero, List.getElem?_cons_succ, List.set_cons_zero, List.set_cons_succ, if_true, if_false, Bool.false_eq_true, decide_true, decide_false, Bool.not_true, Bool.not_false, decide_eq_true_eq, eq_self, Int.cast_ofNat_Int, Int.natCast_zero, Int.natCast_one, Nat.reduceLeDiff, Nat.reduceSub, Nat.reduceAdd, Nat.reduceLT, reduceIte, reduceCtorEq, Int.reduceEq, Int.reduceLT, Int.reduceLE, Int.reduceNeg, Int.reduceAdd, Int.reduceSub, Int.reduceMul, Int.reduceNe, Int.reduceBNe, Int.reduceBEq, s__law_round_0_5, vls_at hL, idx_fr0, idx_fr1, o1, o2, e1, rows_at hL, row_mk, sl1_mk, sl2_mk, add1_mk, add2_mk]
  · have e14 := l14 (k := k) (S := S) (s := s) hL h hq hw hx
    rw [ev_sC, l5 hL h hq hx, sq_nx]
    have cat : ∀ (a b : MS) (r : MSs) (ρ ρ1 : Env) (x : Fl × Sto), sq G (callK G (k + 5)) (.cons b .nil) (evS G (callK G (k + 5)) a ρ S) = some (.nx ρ1, S) → evSs G (callK G (k + 5)) r ρ1 S = some x → evSs G (callK G (k + 5)) (.cons a (.cons b r)) ρ S = some x := by
      intro a b r ρ ρ1 x h1 h2
      rw [ev_sC]
      cases h3 : evS G (callK G (k + 5)) a ρ S with
      | none => rw [h3] at h1; cases h1
      | some y =>
        rw [h3] at h1
        obtain ⟨fl, S1⟩ := y
        cases fl with
        | nx ρ2 =>
          rw [sq_nx, ev_sC] at h1
          rw [sq_nx, ev_sC]
          cases h4 : evS G (callK G (k + 5)) b ρ2 S1 with
          | none => rw [h4] at h1; cases h1
          | some z =>
            rw [h4] at h1
            obtain ⟨fl2, S2⟩ := z
            cases fl2 with
            | nx ρ3 =>
              rw [sq_nx, ev_sN] at h1
              cases h1
              rw [sq_nx]
              exact h2
            | bk _ => cases h1
            | rt _ => cases h1
        | bk _ => cases h1
        | rt _ => cases h1
    have two : ∀ {a b : MS} {ρ ρ1 : Env}, evSs G (callK G (k + 5)) (.cons a (.cons b .nil)) ρ S = some (.nx ρ1, S) → sq G (callK G (k + 5)) (.cons b .nil) (evS G (callK G (k + 5)) a ρ S) = some (.nx ρ1, S) := fun h => by rw [ev_sC] at h; exact h
    refine cat _ _ _ _ _ _ (two (l67 h)) ?_
    refine cat _ _ _ _ _ _ (two (l89 hL h hq)) ?_
    rw [ev_sC, l10 hL, sq_nx, ev_sC, l11 hw, sq_nx]
    exact cat _ _ _ _ _ _ (two (l1213 h hq)) e14
theorem lround_walk (h : Fm d m M) (hq : Sm 1000 q) (hw : way ∈ ways) (hz : q.num ≠ 0) : ∃ L, IsLow d m M q.abs L ∧ callK G (k + 6) i__law_round [fmD d m M, .str way, fr q, .int s] S = some (lawOut d m M way q L, S) := by
  obtain ⟨L, hL, hmx⟩ := low_max (d := d) (m := m) (M := M) (a := q.abs) abs_nonneg
  refine ⟨L, hL, ?_⟩
  rw [call_fn g__law_round rfl]
  have hc := cnt_le h
  have c1 : ∀ all x6 x7, compL none all (ctn G (callK G (k + 5)) e__law_round_1 (.name 19) .none [some (fmD d m M), some (.str way), some (fr q), some (.int s), some (.int (ownQ q)), some (.lst (rowsL d m (cnt d m M))), x6, x7, none, none, none, none, none, none, none, none, none, none, none, none, none]) (rowsL d m (cnt d m M)) S [] = some (vlsL d m (cnt d m M), S) := fun all x6 x7 => by
    have := compL_mapT (all := all) (turn := ctn G (callK G (k + 5)) e__law_round_1 (.name 19) .none [some (fmD d m M), some (.str way), some (fr q), some (.int s), some (.int (ownQ q)), some (.lst (rowsL d m (cnt d m M))), x6, x7, none, none, none, none, none, none, none, none, none, none, none, none, none]) (S := S) (g := rowD d m) (f := fun i => fr (vl d m i)) (xs := List.range (cnt d m M)) (acc := []) fun i hi => by
      unfold ctn
      simp only [E1, E2, E3, E4, E5, E6, E7, E8, E9, List.map_cons, List.map_nil, List.cons_append, List.nil_append, List.append_nil, List.length_cons, List.length_nil, List.replicate_zero, List.replicate_succ, Nat.sub_self, Nat.zero_add, List.getElem?_cons_zero, List.getElem?_cons_succ, List.set_cons_zero, List.set_cons_succ, if_true, if_false, Bool.false_eq_true, decide_true, decide_false, Bool.not_true, Bool.not_false, decide_eq_true_eq, eq_self, Int.cast_ofNat_Int, Int.natCast_zero, Int.natCast_one, Nat.reduceLeDiff, Nat.reduceSub, Nat.reduceAdd, Nat.reduceLT, reduceIte, reduceCtorEq, Int.reduceEq, Int.reduceLT, Int.reduceLE, Int.reduceNeg, Int.reduceAdd, Int.reduceSub, Int.reduceMul, Int.reduceNe, Int.reduceBNe, Int.reduceBEq, e__law_round_1, lval_row h (List.mem_range.mp hi)]
    rw [List.nil_append] at this
    exact this
  have c2 : ∀ all, compL none all (ctn G (callK G (k + 5)) e__law_round_2 (.name 20) k__law_round_2 [some (fmD d m M), some (.str way), some (fr q), some (.int s), some (.int (ownQ q)), some (.lst (rowsL d m (cnt d m M))), some (.int q.abs.num), some (.int (q.abs.den : Int)), some (.lst (vlsL d m (cnt d m M))), none, none, none, none, none, none, none, none, none, none, none, none]) ((List.range (cnt d m M)).map fun (i : Nat) => D.int (i : Int)) S [] = some ((List.range (cnt d m M)).filterMap (lowF d m q.abs), S) := fun all => by
    have := compL_fmT (all := all) (turn := ctn G (callK G (k + 5)) e__law_round_2 (.name 20) k__law_round_2 [some (fmD d m M), some (.str way), some (fr q), some (.int s), some (.int (ownQ q)), some (.lst (rowsL d m (cnt d m M))), some (.int q.abs.num), some (.int (q.abs.den : Int)), some (.lst (vlsL d m (cnt d m M))), none, none, none, none, none, none, none, none, none, none, none, none]) (S := S) (g := fun (i : Nat) => D.int (i : Int)) (f := lowF d m q.abs) (xs := List.range (cnt d m M)) (acc := []) fun i hi => by
      have hi := List.mem_range.mp hi
      have o1 := (vl_sm h hi).nm.mulOk hq.abs.dn (by decide)
      have o2 := hq.abs.nm.mulOk (vl_sm h hi).dn (by decide)
      unfold ctn lowF
      by_cases c : vl d m i ≤ q.abs
      · simp only [E1, E2, E3, E4, E5, E6, E7, E8, E9, List.map_cons, List.map_nil, List.cons_append, List.nil_append, List.append_nil, List.length_cons, List.length_nil, List.replicate_zero, List.replicate_succ, Nat.sub_self, Nat.zero_add, List.getElem?_cons_zero, List.getElem?_cons_succ, List.set_cons_zero, List.set_cons_succ, if_true, if_false, Bool.false_eq_true, decide_true, decide_false, Bool.not_true, Bool.not_false, decide_eq_true_eq, eq_self, Int.cast_ofNat_Int, Int.natCast_zero, Int.natCast_one, Nat.reduceLeDiff, Nat.reduceSub, Nat.reduceAdd, Nat.reduceLT, reduceIte, reduceCtorEq, Int.reduceEq, Int.reduceLT, Int.reduceLE, Int.reduceNeg, Int.reduceAdd, Int.reduceSub, Int.reduceMul, Int.reduceNe, Int.reduceBNe, Int.reduceBEq, e__law_round_2, k__law_round_2, vls_at hi, idx_fr0, idx_fr1, o1, o2, le_eq, c]
      · simp only [E1, E2, E3, E4, E5, E6, E7, E8, E9, List.map_cons, List.map_nil, List.cons_append, List.nil_append, List.append_nil, List.length_cons, List.length_nil, List.replicate_zero, List.replicate_succ, Nat.sub_self, Nat.zero_add, List.getElem?_cons_zero, List.getElem?_cons_succ, List.set_cons_zero, List.set_cons_succ, if_true, if_false, Bool.false_eq_true, decide_true, decide_false, Bool.not_true, Bool.not_false, decide_eq_true_eq, eq_self, Int.cast_ofNat_Int, Int.natCast_zero, Int.natCast_one, Nat.reduceLeDiff, Nat.reduceSub, Nat.reduceAdd, Nat.reduceLT, reduceIte, reduceCtorEq, Int.reduceEq, Int.reduceLT, Int.reduceLE, Int.reduceNeg, Int.reduceAdd, Int.reduceSub, Int.reduceMul, Int.reduceNe, Int.reduceBNe, Int.reduceBEq, e__law_round_2, k__law_round_2, vls_at hi, idx_fr0, idx_fr1, o1, o2, le_eq, c]
    rw [List.nil_append] at this
    exact this
  have eo : b2i (decide (q.num < 0)) = ownQ q := rfl
  have ea : (if (0 : Int) - q.num > q.num then (0 : Int) - q.num else q.num) = q.abs.num := by
    rw [abs_num]
    split <;> omega
  have eb : ((q.den : Nat) : Int) = ((q.abs.den : Nat) : Int) := by rw [abs_den]
  have hl1 : cnt d m M ≤ sizeLine := le_size hc
  have rr := rng_nat (n := cnt d m M) (by omega)
  have it : ∀ xs : List D, itemsOf S (.lst xs) = some (xs, none) := fun _ => rfl
  have t := law_tail (k := k) (S := S) (s := s) hL.1 h hq hw
  simp only [E1, E2, E3, E4, E5, E6, E7, E8, E9, List.map_cons, List.map_nil, List.cons_append, List.nil_append, List.append_nil, List.length_cons, List.length_nil, List.replicate_zero, List.replicate_succ, Nat.sub_self, Nat.zero_add, List.getElem?_cons_zero, List.getElem?_cons_succ, List.set_cons_zero, List.set_cons_succ, if_true, if_false, Bool.false_eq_true, decide_true, decide_false, Bool.not_true, Bool.not_false, decide_eq_true_eq, eq_self, Int.cast_ofNat_Int, Int.natCast_zero, Int.natCast_one, Nat.reduceLeDiff, Nat.reduceSub, Nat.reduceAdd, Nat.reduceLT, reduceIte, reduceCtorEq, Int.reduceEq, Int.reduceLT, Int.reduceLE, Int.reduceNeg, Int.reduceAdd, Int.reduceSub, Int.reduceMul, Int.reduceNe, Int.reduceBNe, Int.reduceBEq, f__law_round, s__law_round_0_0, s__law_round_0_1, s__law_round_0_2, s__law_round_0_3, s__law_round_0_4, idx_fr0, idx_fr1, hz, eo, fin_ok h, ea, rows_len, hl1, wipe_nil, wipe_cons, c1]
  rw [eb]
  simp only [E1, E2, E3, E4, E5, E6, E7, E8, E9, List.map_cons, List.map_nil, List.cons_append, List.nil_append, List.append_nil, List.length_cons, List.length_nil, List.replicate_zero, List.replicate_succ, Nat.sub_self, Nat.zero_add, List.getElem?_cons_zero, List.getElem?_cons_succ, List.set_cons_zero, List.set_cons_succ, if_true, if_false, Bool.false_eq_true, decide_true, decide_false, Bool.not_true, Bool.not_false, decide_eq_true_eq, eq_self, Int.cast_ofNat_Int, Int.natCast_zero, Int.natCast_one, Nat.reduceLeDiff, Nat.reduceSub, Nat.reduceAdd, Nat.reduceLT, reduceIte, reduceCtorEq, Int.reduceEq, Int.reduceLT, Int.reduceLE, Int.reduceNeg, Int.reduceAdd, Int.reduceSub, Int.reduceMul, Int.reduceNe, Int.reduceBNe, Int.reduceBEq, rr, rows_len, hl1, List.length_map, List.length_range, wipe_nil, wipe_cons, c2, hmx, t]
theorem lround_0 (hz : q.num = 0) : callK G (k + 6) i__law_round [fmD d m M, .str way, fr q, .int s] S = some (outQ d m M way q s, S) := by
  rw [call_fn g__law_round rfl]
  unfold outQ outN outM
  simp only [E1, E2, E3, E4, E5, E6, E7, E8, E9, List.map_cons, List.map_nil, List.cons_append, List.nil_append, List.append_nil, List.length_cons, List.length_nil, List.replicate_zero, List.replicate_succ, Nat.sub_self, Nat.zero_add, List.getElem?_cons_zero, List.getElem?_cons_succ, List.set_cons_zero, List.set_cons_succ, if_true, if_false, Bool.false_eq_true, decide_true, decide_false, Bool.not_true, Bool.not_false, decide_eq_true_eq, eq_self, Int.cast_ofNat_Int, Int.natCast_zero, Int.natCast_one, Nat.reduceLeDiff, Nat.reduceSub, Nat.reduceAdd, Nat.reduceLT, reduceIte, reduceCtorEq, Int.reduceEq, Int.reduceLT, Int.reduceLE, Int.reduceNeg, Int.reduceAdd, Int.reduceSub, Int.reduceMul, Int.reduceNe, Int.reduceBNe, Int.reduceBEq, f__law_round, s__law_round_0_0, idx_fr0, hz, mk_noth]
end

end Rw.Pk22

set_option exponentiation.threshold 300
namespace Rw.Pk22
open PySem L2 Rw
section
variable {k : Nat} {S : Sto} {d : Nat} {m M : Int} {q : Rat} {p : Int} {way : Str} {s : Int} {L : Nat}
/-- the rest told by values -/
theorem rest_of (d : Nat) (m : Int) (q : Rat) : q.abs = ((wh d m q : Rat) + ((rs d m q : Nat) : Rat) / (((xq (pw d m q) q).den : Nat) : Rat)) * (2 : Rat) ^ pw d m q := by
  have h := rest_eq (xq_nonneg (q := q) (pw d m q))
  have e := xq_mul (q := q) (pw d m q)
  rw [← e]
  congr 1
theorem cmp_ex (hv : vl d m L = (wh d m q : Rat) * (2 : Rat) ^ pw d m q) : vl d m L = q.abs ↔ rs d m q = 0 := by
  have h := rest_of d m q
  have hp := two_pos (pw d m q)
  have hl : (0 : Rat) < (((xq (pw d m q) q).den : Nat) : Rat) := Rat.natCast_pos.mpr (xq (pw d m q) q).den_pos
  rw [hv, h]
  generalize (((xq (pw d m q) q).den : Nat) : Rat) = l at *
  constructor
  · intro e
    rcases Nat.eq_zero_or_pos (rs d m q) with g | g
    · exact g
    · have g2 : (0 : Rat) < ((rs d m q : Nat) : Rat) := Rat.natCast_pos.mpr g
      have g3 : 0 < ((rs d m q : Nat) : Rat) / l := by rw [Rat.div_def]; exact Rat.mul_pos g2 (Rat.inv_pos.mpr hl)
      have g4 := Rat.mul_pos g3 hp
      generalize ((rs d m q : Nat) : Rat) / l = z at *
      grind
  · intro e
    rw [e, show ((0 : Nat) : Rat) / l = 0 from Rat.zero_mul _, Rat.add_zero]
theorem cmp_gt (hv : vl d m L = (wh d m q : Rat) * (2 : Rat) ^ pw d m q) (hu : vl d m (L + 1) = ((wh d m q : Rat) + 1) * (2 : Rat) ^ pw d m q) : (vl d m (L + 1) + vl d m L < 2 * q.abs ↔ (xq (pw d m q) q).den < 2 * rs d m q) ∧ (vl d m (L + 1) + vl d m L = 2 * q.abs ↔ 2 * rs d m q = (xq (pw d m q) q).den) := by
  have h := rest_of d m q
  have hp := two_pos (pw d m q)
  have hl : (0 : Rat) < (((xq (pw d m q) q).den : Nat) : Rat) := Rat.natCast_pos.mpr (xq (pw d m q) q).den_pos
  have hz : (((xq (pw d m q) q).den : Nat) : Rat) ≠ 0 := by grind
  have c1 : (xq (pw d m q) q).den < 2 * rs d m q ↔ (((xq (pw d m q) q).den : Nat) : Rat) < 2 * ((rs d m q : Nat) : Rat) := by
    rw [← Rat.natCast_lt_natCast, Rat.natCast_mul]
    rfl
  have c2 : 2 * rs d m q = (xq (pw d m q) q).den ↔ 2 * ((rs d m q : Nat) : Rat) = (((xq (pw d m q) q).den : Nat) : Rat) := by
    rw [← Rat.natCast_inj, Rat.natCast_mul]
    rfl
  rw [c1, c2, hv, hu, h]
  have e0 : ((rs d m q : Nat) : Rat) = ((rs d m q : Nat) : Rat) / (((xq (pw d m q) q).den : Nat) : Rat) * (((xq (pw d m q) q).den : Nat) : Rat) := (Rat.div_mul_cancel hz).symm
  generalize hT : ((rs d m q : Nat) : Rat) / (((xq (pw d m q) q).den : Nat) : Rat) = t at *
  rw [e0]
  generalize (((xq (pw d m q) q).den : Nat) : Rat) = l at *
  generalize (2 : Rat) ^ pw d m q = P at *
  generalize ((wh d m q : Nat) : Rat) = W at *
  have k1 : (W + 1) * P + W * P = (2 * W + 1) * P := by grind
  have k2 : 2 * ((W + t) * P) = (2 * W + 2 * t) * P := by grind
  have k3 : 2 * (t * l) = (2 * t) * l := by grind
  rw [k1, k2, k3]
  have q1 : (2 * W + 1) * P < (2 * W + 2 * t) * P ↔ 1 < 2 * t := by
    refine ⟨fun g => ?_, fun g => Rat.mul_lt_mul_of_pos_right (by grind) hp⟩
    have := Rat.lt_of_mul_lt_mul_right g (Rat.le_of_lt hp)
    grind
  have q1' : (2 * W + 2 * t) * P < (2 * W + 1) * P ↔ 2 * t < 1 := by
    refine ⟨fun g => ?_, fun g => Rat.mul_lt_mul_of_pos_right (by grind) hp⟩
    have := Rat.lt_of_mul_lt_mul_right g (Rat.le_of_lt hp)
    grind
  have q2 : l < 2 * t * l ↔ 1 < 2 * t := by
    refine ⟨fun g => ?_, fun g => ?_⟩
    · have g : 1 * l < 2 * t * l := by rw [Rat.one_mul]; exact g
      exact Rat.lt_of_mul_lt_mul_right g (Rat.le_of_lt hl)
    · have := Rat.mul_lt_mul_of_pos_right g hl
      rwa [Rat.one_mul] at this
  have q2' : 2 * t * l < l ↔ 2 * t < 1 := by
    refine ⟨fun g => ?_, fun g => ?_⟩
    · have g : 2 * t * l < 1 * l := by rw [Rat.one_mul]; exact g
      exact Rat.lt_of_mul_lt_mul_right g (Rat.le_of_lt hl)
    · have := Rat.mul_lt_mul_of_pos_right g hl
      rwa [Rat.one_mul] at this
  refine ⟨q1.trans q2.symm, ?_⟩
  constructor
  · intro g
    have a1 : ¬ 1 < 2 * t := fun z => by have := q1.mpr z; grind
    have a2 : ¬ 2 * t < 1 := fun z => by have := q1'.mpr z; grind
    have : 2 * t = 1 := by grind
    rw [this, Rat.one_mul]
  · intro g
    have a1 : ¬ 1 < 2 * t := fun z => by have := q2.mpr z; grind
    have a2 : ¬ 2 * t < 1 := fun z => by have := q2'.mpr z; grind
    have : 2 * t = 1 := by grind
    rw [this]
theorem up_same (hw : way ∈ ways) {own : Int} {w r l : Nat} : lawUp way own (decide (l < 2 * r)) (decide (2 * r = l)) (decide (w % 2 = 0)) = raiseB way own w r l := by
  unfold lawUp raiseB
  rcases w_cases hw with rfl | rfl | rfl | rfl | rfl
  · simp only [YW, if_true, if_false]
    by_cases c : 2 * r = l
    · rw [if_pos c, decide_eq_true c, decide_eq_false (show ¬ l < 2 * r by omega)]
      by_cases c2 : w % 2 = 0
      · rw [decide_eq_true c2, decide_eq_false (show ¬ w % 2 = 1 by omega)]; rfl
      · rw [decide_eq_false c2, decide_eq_true (show w % 2 = 1 by omega)]; rfl
    · rw [if_neg c, decide_eq_false c]
      simp
  · simp only [YW, if_true, if_false]
    by_cases c : 2 * r = l
    · rw [if_pos c, decide_eq_true c]; simp
    · rw [if_neg c, decide_eq_false c]; simp
  · simp only [YW, if_true, if_false]
  · simp only [YW, if_true, if_false]
  · simp only [YW, if_true, if_false]
theorem dir_of (hw : way ∈ ways) {own : Int} {w r l : Nat} (h : raiseB way own w r l = true) : dirB way own = true := by
  unfold raiseB at h
  unfold dirB
  rcases w_cases hw with rfl | rfl | rfl | rfl | rfl
  · simp only [YW, if_true, if_false]
  · simp only [YW, if_true, if_false]
  · simpa only [YW, if_true, if_false] using h
  · simpa only [YW, if_true, if_false] using h
  · simp only [YW, if_true, if_false] at h; cases h
theorem dir_ea (hw : way ∈ ways) {own : Int} {a b c : Bool} : (lawUp way own a b c || eaB way) = dirB way own := by
  unfold lawUp eaB dirB
  rcases w_cases hw with rfl | rfl | rfl | rfl | rfl <;> simp only [YW, if_true, if_false, Bool.or_true, Bool.or_false]
theorem lawOut_eq (h : Fm d m M) (hw : way ∈ ways) (hz : q.num ≠ 0) (hL : IsLow d m M q.abs L) : lawOut d m M way q L = outQ d m M way q s := by
  have hq : q ≠ 0 := fun e => hz (by rw [e]; rfl)
  have hd : 1 ≤ d := by have := h.d1; omega
  have hp := fh_pos (d := d)
  have h2 := fh_two hd
  have hr := wh_range (m := m) hd hq
  unfold outQ outN outM
  rw [if_neg hz, if_neg hz]
  by_cases hM : pw d m q ≤ M
  · have e := hL.uniq (q_low hd hq hM)
    obtain ⟨e1, e2⟩ := ix_rW (m := m) pw_ge hr.1 hr.2
    rw [← e] at e1 e2
    have hv : vl d m L = (wh d m q : Rat) * (2 : Rat) ^ pw d m q := by unfold vl; rw [e1, e2]
    have hu : vl d m (L + 1) = ((wh d m q : Rat) + 1) * (2 : Rat) ^ pw d m q := by rw [vl_succ, e1, e2]
    unfold lawOut
    by_cases c0 : rs d m q = 0
    · have hU : upQ d m way q = false := by unfold upQ; rw [c0]; rfl
      have w1 : W1 d m way q = wh d m q := by unfold W1; rw [hU]; rfl
      have hne : ¬ wh d m q = 2 ^ d := by omega
      have w2 : W2 d m way q = wh d m q := by unfold W2; rw [w1, if_neg hne]
      have p2 : P2 d m way q = pw d m q := by unfold P2; rw [w1, if_neg hne]
      rw [if_pos ((cmp_ex hv).mpr c0), w2, p2, if_neg (by omega), if_neg (by omega), e1, e2, c0]
      rfl
    · rw [if_neg (fun g => c0 ((cmp_ex hv).mp g))]
      obtain ⟨g1, g2⟩ := cmp_gt hv hu
      have hU : upL d m way q L = upQ d m way q := by
        unfold upL upQ
        rw [e1, decide_eq_true (show 0 < rs d m q by omega), Bool.true_and, ← up_same hw]
        congr 1
        · rw [decide_eq_decide]; exact g1
        · rw [decide_eq_decide]; exact g2
      have hlast : L + 1 = cnt d m M ↔ (wh d m q + 1 = 2 ^ d ∧ pw d m q = M) := by
        rw [e]
        unfold ixF cnt
        have hge := pw_ge (d := d) (m := m) (q := q)
        constructor
        · intro g
          by_cases c : pw d m q = M
          · rw [c] at g
            exact ⟨by omega, c⟩
          · have : (pw d m q - m).toNat + 1 ≤ (M - m).toNat := by omega
            have := Nat.mul_le_mul_right (fh d) this
            rw [Nat.add_mul] at this
            omega
        · rintro ⟨g1, g2⟩
          rw [g2]
          omega
      have hno : ¬ vl d m (cnt d m M) ≤ q.abs := by
        have a1 := wh_hi (d := d) (m := m) (q := q)
        rw [← hu] at a1
        have a2 := vl_le (d := d) (m := m) (show L + 1 ≤ cnt d m M from hL.1)
        grind
      have hmk : mrk d m q (rs d m q) = mrkL d m q := by unfold mrk mrkL; rw [if_neg c0]
      rw [hU]
      cases hb : upQ d m way q with
      | true =>
        have w1 : W1 d m way q = wh d m q + 1 := by unfold W1; rw [hb]; rfl
        have hraise : raiseB way (ownQ q) (wh d m q) (rs d m q) (xq (pw d m q) q).den = true := by
          unfold upQ at hb
          rw [decide_eq_true (show 0 < rs d m q by omega), Bool.true_and] at hb
          exact hb
        by_cases c1 : wh d m q + 1 = 2 ^ d
        · have w2 : W2 d m way q = fh d := by unfold W2; rw [w1, if_pos c1, c1, ← h2]; omega
          have p2 : P2 d m way q = pw d m q + 1 := by unfold P2; rw [w1, if_pos c1]
          by_cases c2 : pw d m q = M
          · rw [if_pos ⟨hlast.mpr ⟨c1, c2⟩, .inl rfl⟩, p2, if_pos (show pw d m q + 1 > M by omega), if_pos (show pw d m q + 1 > M by omega)]
            unfold beyD
            rw [if_pos (dir_of hw hraise), Bool.true_or]
            rfl
          · have hn : ¬ (L + 1 = cnt d m M) := fun g => c2 (hlast.mp g).2
            rw [if_neg (fun g => hn g.1), p2, if_neg (show ¬ pw d m q + 1 > M by omega), if_neg (show ¬ pw d m q + 1 > M by omega), w2, hmk]
            have e3 := ix_rW (d := d) (m := m) (w := fh d) (p := pw d m q + 1) (by have := pw_ge (d := d) (m := m) (q := q); omega) (by omega) (.inr (Nat.le_refl _))
            have e4 : ixF d m (fh d) (pw d m q + 1) = L + 1 := by
              rw [e]
              unfold ixF
              have hge := pw_ge (d := d) (m := m) (q := q)
              rw [show (pw d m q + 1 - m).toNat = (pw d m q - m).toNat + 1 by omega, Nat.add_mul]
              omega
            rw [e4] at e3
            rw [e3.1, e3.2]
            rfl
        · have w2 : W2 d m way q = wh d m q + 1 := by unfold W2; rw [w1, if_neg c1]
          have p2 : P2 d m way q = pw d m q := by unfold P2; rw [w1, if_neg c1]
          have hn : ¬ (L + 1 = cnt d m M) := fun g => c1 (hlast.mp g).1
          rw [if_neg (fun g => hn g.1), p2, if_neg (show ¬ pw d m q > M by omega), if_neg (show ¬ pw d m q > M by omega), w2, hmk]
          have e3 := ix_rW (d := d) (m := m) (w := wh d m q + 1) (p := pw d m q) pw_ge (by omega) (by have := hr.2; omega)
          have e4 : ixF d m (wh d m q + 1) (pw d m q) = L + 1 := by
            rw [e]
            unfold ixF
            omega
          rw [e4] at e3
          rw [e3.1, e3.2]
          rfl
      | false =>
        have w1 : W1 d m way q = wh d m q := by unfold W1; rw [hb]; rfl
        have hne : ¬ wh d m q = 2 ^ d := by omega
        have w2 : W2 d m way q = wh d m q := by unfold W2; rw [w1, if_neg hne]
        have p2 : P2 d m way q = pw d m q := by unfold P2; rw [w1, if_neg hne]
        rw [if_neg (fun g => by rcases g.2 with g | g; exact Bool.false_ne_true g; exact hno g), w2, p2, if_neg (show ¬ pw d m q > M by omega), if_neg (show ¬ pw d m q > M by omega), hmk, e1, e2]
        rfl
  · have hM' : M < pw d m q := by omega
    have ht := q_top hd hq h.le hM'
    have e := hL.uniq (low_top hd h.le ht)
    obtain ⟨e1, e2⟩ := top_rW hd h.le
    rw [← e] at e1 e2
    have hc := cnt_pos (d := d) (m := m) (M := M)
    rw [← vl_cnt hd h.le] at ht
    have hlt : vl d m L < vl d m (cnt d m M) := vl_lt (by omega)
    unfold lawOut
    rw [if_neg (by grind), if_pos ⟨by omega, .inr ht⟩]
    have p2 : P2 d m way q > M := by unfold P2; split <;> omega
    rw [if_pos p2, if_pos p2]
    unfold beyD upL
    rw [dir_ea hw, e1, e2]
    have : ¬ 2 ^ d - 1 = 0 := by
      have : 2 ^ 1 ≤ 2 ^ d := Nat.pow_le_pow_right (by decide) hd
      omega
    unfold mkN
    rw [if_neg this]
/-- by definition, over all numbers: as the program rounds -/
theorem lround_ok (h : Fm d m M) (hq : Sm 1000 q) (hw : way ∈ ways) : callK G (k + 6) i__law_round [fmD d m M, .str way, fr q, .int s] S = some (outQ d m M way q s, S) := by
  by_cases hz : q.num = 0
  · exact lround_0 hz
  · obtain ⟨L, hL, e⟩ := lround_walk (k := k) (S := S) (s := s) h hq hw hz
    rw [e, lawOut_eq (s := s) h hw hz hL]
end

end Rw.Pk22

set_option exponentiation.threshold 300
namespace Rw.Pk22
open PySem L2 Rw
section
variable {p : Rat}
theorem num_le0 : p.num ≤ 0 ↔ p ≤ 0 := by
  rw [Rat.le_iff]
  simp
theorem num_ge0 : 0 ≤ p.num ↔ 0 ≤ p := by
  rw [Rat.le_iff]
  simp
end

section
variable {d : Nat} {m M : Int} {way : Str} {s : Int} {q o : Rat}
/-- the greatest finite number -/
def topV (d : Nat) (m M : Int) : Rat := vl d m (cnt d m M - 1)
theorem topV_eq (h : Fm d m M) : topV d m M = ((2 ^ d - 1 : Nat) : Rat) * (2 : Rat) ^ M := by
  obtain ⟨e1, e2⟩ := top_rW (d := d) (m := m) (M := M) (by have := h.d1; omega) h.le
  unfold topV vl
  rw [e1, e2]
theorem expo_mono (ho : o ≠ 0) (hq : q ≠ 0) (h : o.abs ≤ q.abs) : expo o ≤ expo q := by
  obtain ⟨a1, a2⟩ := expo_spec ho
  obtain ⟨b1, b2⟩ := expo_spec hq
  have : (2 : Rat) ^ expo o < (2 : Rat) ^ (expo q + 1) := le_lt (Rat.le_trans a1 h) (Rat.not_le.mp b2)
  have := two_lt.mp this
  omega
theorem abs_zero (h : o.abs ≤ 0) : o = 0 := by
  rw [abs_eq] at h
  split at h <;> grind
theorem pw_mono (ho : o ≠ 0) (h : o.abs ≤ q.abs) : pw d m o ≤ pw d m q := by
  have hq : q ≠ 0 := fun e => ho (abs_zero (by rw [e] at h; exact h))
  have := expo_mono ho hq h
  unfold pw
  rw [if_neg (num_ne ho), if_neg (num_ne hq)]
  split <;> split <;> omega
/-- within reach nothing runs over -/
theorem in_reach (h : Fm d m M) (ho : o ≠ 0) (hr : o.abs ≤ topV d m M) : pw d m o ≤ M ∧ P2 d m way o ≤ M := by
  have hd : 1 ≤ d := by have := h.d1; omega
  have hp : pw d m o ≤ M := by
    rcases Int.lt_or_le M (pw d m o) with g | g
    · have h1 := q_top hd ho h.le g
      rw [← vl_cnt hd h.le] at h1
      have h2 : topV d m M < vl d m (cnt d m M) := vl_lt (by have := cnt_pos (d := d) (m := m) (M := M); omega)
      grind
    · exact g
  refine ⟨hp, ?_⟩
  unfold P2
  split
  · rename_i c
    by_cases hM : pw d m o = M
    · -- the whole part is the greatest one, with a rest
      exfalso
      have w1 : wh d m o + 1 = 2 ^ d ∧ upQ d m way o = true := by
        have := (wh_range (d := d) (m := m) hd ho).1
        rw [fh_two hd] at this
        unfold W1 at c
        split at c
        · rename_i u; exact ⟨c, u⟩
        · omega
      have hr0 : rs d m o ≠ 0 := by
        intro e
        have := w1.2
        unfold upQ at this
        rw [e] at this
        cases this
      have e1 := rest_of d m o
      rw [topV_eq h] at hr
      have e2 : ((wh d m o : Nat) : Rat) = ((2 ^ d - 1 : Nat) : Rat) := by congr 1; omega
      have hl : (0 : Rat) < (((xq (pw d m o) o).den : Nat) : Rat) := Rat.natCast_pos.mpr (xq (pw d m o) o).den_pos
      have g2 : (0 : Rat) < ((rs d m o : Nat) : Rat) := Rat.natCast_pos.mpr (by omega)
      have g3 : 0 < ((rs d m o : Nat) : Rat) / (((xq (pw d m o) o).den : Nat) : Rat) := by rw [Rat.div_def]; exact Rat.mul_pos g2 (Rat.inv_pos.mpr hl)
      have g4 := Rat.mul_pos g3 (two_pos (pw d m o))
      rw [e2, hM] at e1
      rw [hM] at g4
      generalize ((rs d m o : Nat) : Rat) / (((xq M o).den : Nat) : Rat) = z at *
      grind
    · omega
  · exact hp
theorem W2_val (h : Fm d m M) : ((W2 d m way o : Nat) : Rat) * (2 : Rat) ^ P2 d m way o = ((W1 d m way o : Nat) : Rat) * (2 : Rat) ^ pw d m o := by
  unfold W2 P2
  split
  · rename_i c
    rw [c]
    have hd : 1 ≤ d := by have := h.d1; omega
    have h2 := fh_two hd
    have e : 2 ^ d / 2 = fh d := by omega
    rw [e, two_succ, ← h2, Rat.natCast_mul]
    show _ * (2 * _) = (2 : Rat) * _ * _
    grind
  · rfl
/-- the size of the rounded number -/
theorem out_reach (h : Fm d m M) (ho : o ≠ 0) (hr : o.abs ≤ topV d m M) : outN d m M way o s = mkN (ownQ o) (W2 d m way o) (P2 d m way o) := by
  unfold outN
  rw [if_neg (num_ne ho), if_neg (by have := (in_reach (way := way) h ho hr).2; omega)]
def bndR (d : Nat) (m : Int) (way : Str) (q : Rat) : Rat := if eaB way = true then 1 / 2 * (2 : Rat) ^ pw d m q else (2 : Rat) ^ pw d m q
theorem ow (o : Rat) : o = sgQ (ownQ o) o.abs ∧ (ownQ o = 0 ∨ ownQ o = 1) := by
  unfold ownQ sgQ
  by_cases c : o.num < 0
  · rw [decide_eq_true c, abs_eq, if_pos (show b2i true = 1 from rfl)]
    have : o < 0 := by
      have h1 := num_ge0 (p := o)
      rcases Rat.le_total (a := 0) (b := o) with g | g
      · have := h1.mpr g; omega
      · have : o ≠ 0 := fun e => by rw [e] at c; exact absurd c (by decide)
        grind
    rw [if_pos this]
    exact ⟨by grind, .inr rfl⟩
  · rw [decide_eq_false c, abs_eq, if_neg (show ¬ b2i false = 1 by decide)]
    have : ¬ o < 0 := by
      have := num_ge0 (p := o)
      have := this.mp (by omega)
      grind
    rw [if_neg this]
    exact ⟨rfl, .inl rfl⟩
theorem abs_sub (s : Int) (a b : Rat) : (sgQ s a - sgQ s b).abs = (a - b).abs := by
  unfold sgQ
  split
  · rw [abs_eq, abs_eq]
    split <;> split <;> grind
  · rfl
theorem err_ok (h : Fm d m M) (hw : way ∈ ways) (ho : o ≠ 0) (hr : o.abs ≤ topV d m M) (hq : o.abs ≤ q.abs) : (sgQ (ownQ o) ((W2 d m way o : Rat) * (2 : Rat) ^ P2 d m way o) - o).abs ≤ bndR d m way q := by
  have e1 := rest_of d m o
  have hp := two_pos (pw d m o)
  have hl : (0 : Rat) < (((xq (pw d m o) o).den : Nat) : Rat) := Rat.natCast_pos.mpr (xq (pw d m o) o).den_pos
  have hlt : rs d m o < (xq (pw d m o) o).den := Nat.mod_lt _ (xq (pw d m o) o).den_pos
  have hz : (((xq (pw d m o) o).den : Nat) : Rat) ≠ 0 := by grind
  have r0 : (0 : Rat) ≤ ((rs d m o : Nat) : Rat) := Rat.natCast_nonneg
  have rl : ((rs d m o : Nat) : Rat) < (((xq (pw d m o) o).den : Nat) : Rat) := Rat.natCast_lt_natCast.mpr hlt
  have half : 2 * rs d m o ≤ (xq (pw d m o) o).den ↔ 2 * ((rs d m o : Nat) : Rat) ≤ (((xq (pw d m o) o).den : Nat) : Rat) := by
    rw [← Rat.natCast_le_natCast, Rat.natCast_mul]; rfl
  have half2 : (xq (pw d m o) o).den ≤ 2 * rs d m o ↔ (((xq (pw d m o) o).den : Nat) : Rat) ≤ 2 * ((rs d m o : Nat) : Rat) := by
    rw [← Rat.natCast_le_natCast, Rat.natCast_mul]; rfl
  have e0 : ((rs d m o : Nat) : Rat) = ((rs d m o : Nat) : Rat) / (((xq (pw d m o) o).den : Nat) : Rat) * (((xq (pw d m o) o).den : Nat) : Rat) := (Rat.div_mul_cancel hz).symm
  -- the rest as a part of one
  have t0 : 0 ≤ ((rs d m o : Nat) : Rat) / (((xq (pw d m o) o).den : Nat) : Rat) := by rw [Rat.div_def]; exact Rat.mul_nonneg r0 (Rat.le_of_lt (Rat.inv_pos.mpr hl))
  have t1 : ((rs d m o : Nat) : Rat) / (((xq (pw d m o) o).den : Nat) : Rat) < 1 := by
    refine Rat.lt_of_mul_lt_mul_right (c := (((xq (pw d m o) o).den : Nat) : Rat)) ?_ (Rat.le_of_lt hl)
    rw [← e0, Rat.one_mul]
    exact rl
  have t2 : 2 * rs d m o ≤ (xq (pw d m o) o).den → 2 * (((rs d m o : Nat) : Rat) / (((xq (pw d m o) o).den : Nat) : Rat)) ≤ 1 := fun g => by
    refine Rat.le_of_mul_le_mul_right (c := (((xq (pw d m o) o).den : Nat) : Rat)) ?_ hl
    rw [Rat.mul_assoc, ← e0, Rat.one_mul]
    exact half.mp g
  have t3 : (xq (pw d m o) o).den ≤ 2 * rs d m o → 1 ≤ 2 * (((rs d m o : Nat) : Rat) / (((xq (pw d m o) o).den : Nat) : Rat)) := fun g => by
    refine Rat.le_of_mul_le_mul_right (c := (((xq (pw d m o) o).den : Nat) : Rat)) ?_ hl
    rw [Rat.mul_assoc, ← e0, Rat.one_mul]
    exact half2.mp g
  have key : ((W1 d m way o : Rat) * (2 : Rat) ^ pw d m o - o.abs).abs ≤ bndR d m way o := by
    unfold bndR W1 upQ
    generalize hT : ((rs d m o : Nat) : Rat) / (((xq (pw d m o) o).den : Nat) : Rat) = t at *
    have tP : 0 ≤ t * (2 : Rat) ^ pw d m o := Rat.mul_nonneg t0 (Rat.le_of_lt hp)
    have tQ : t * (2 : Rat) ^ pw d m o < (2 : Rat) ^ pw d m o := by
      have := Rat.mul_lt_mul_of_pos_right t1 hp
      rwa [Rat.one_mul] at this
    have tH : 2 * t ≤ 1 → 2 * (t * (2 : Rat) ^ pw d m o) ≤ (2 : Rat) ^ pw d m o := fun g => by
      have := Rat.mul_le_mul_of_nonneg_right g (Rat.le_of_lt hp)
      rw [Rat.one_mul, Rat.mul_assoc] at this
      exact this
    have tG : 1 ≤ 2 * t → (2 : Rat) ^ pw d m o ≤ 2 * (t * (2 : Rat) ^ pw d m o) := fun g => by
      have := Rat.mul_le_mul_of_nonneg_right g (Rat.le_of_lt hp)
      rw [Rat.one_mul, Rat.mul_assoc] at this
      exact this
    have e1' : o.abs = (wh d m o : Rat) * (2 : Rat) ^ pw d m o + t * (2 : Rat) ^ pw d m o := by rw [e1, Rat.add_mul]
    have hx1 : ((wh d m o + 1 : Nat) : Rat) * (2 : Rat) ^ pw d m o = (wh d m o : Rat) * (2 : Rat) ^ pw d m o + (2 : Rat) ^ pw d m o := by
      rw [Rat.natCast_add, Rat.add_mul, show ((1 : Nat) : Rat) = 1 from rfl, Rat.one_mul]
    by_cases u : (decide (0 < rs d m o) && raiseB way (ownQ o) (wh d m o) (rs d m o) (xq (pw d m o) o).den) = true
    · rw [if_pos u, hx1, e1']
      rw [Bool.and_eq_true] at u
      obtain ⟨u1, u2⟩ := u
      by_cases ea : eaB way = true
      · rw [if_pos ea]
        have : (xq (pw d m o) o).den ≤ 2 * rs d m o := by
          unfold raiseB at u2
          unfold eaB at ea
          rcases w_cases hw with rfl | rfl | rfl | rfl | rfl
          · simp only [YW, if_true, if_false] at u2
            split at u2
            · omega
            · have := of_decide_eq_true u2; omega
          · simp only [YW, if_true, if_false] at u2
            split at u2
            · omega
            · have := of_decide_eq_true u2; omega
          · simp only [YW, if_false] at ea; cases ea
          · simp only [YW, if_false] at ea; cases ea
          · simp only [YW, if_false] at ea; cases ea
        have := tG (t3 this)
        clear tG tH t2 t3 half half2
        rw [abs_eq]
        split <;> grind
      · rw [if_neg ea, abs_eq]
        clear tG tH t2 t3 half half2
        split <;> grind
    · rw [if_neg u, e1']
      by_cases ea : eaB way = true
      · rw [if_pos ea]
        have : 2 * rs d m o ≤ (xq (pw d m o) o).den := by
          by_cases r00 : rs d m o = 0
          · omega
          · rw [decide_eq_true (show 0 < rs d m o by omega), Bool.true_and] at u
            unfold raiseB at u
            unfold eaB at ea
            rcases w_cases hw with rfl | rfl | rfl | rfl | rfl
            · simp only [YW, if_true, if_false] at u
              split at u
              · omega
              · have g2 : ¬ (xq (pw d m o) o).den < 2 * rs d m o := fun g => u (decide_eq_true g)
                omega
            · simp only [YW, if_true, if_false] at u
              split at u
              · omega
              · have g2 : ¬ (xq (pw d m o) o).den < 2 * rs d m o := fun g => u (decide_eq_true g)
                omega
            · simp only [YW, if_false] at ea; cases ea
            · simp only [YW, if_false] at ea; cases ea
            · simp only [YW, if_false] at ea; cases ea
        have := tH (t2 this)
        clear tG tH t2 t3 half half2
        rw [abs_eq]
        split <;> grind
      · rw [if_neg ea, abs_eq]
        clear tG tH t2 t3 half half2
        split <;> grind
  have mono : bndR d m way o ≤ bndR d m way q := by
    have := two_le.mpr (pw_mono (d := d) (m := m) ho hq)
    unfold bndR
    split <;> grind
  refine Rat.le_trans ?_ mono
  rw [W2_val h]
  have := (ow o).1
  conv => lhs; arg 1; arg 2; rw [this]
  rw [abs_sub]
  exact key
end

end Rw.Pk22

set_option exponentiation.threshold 300
namespace Rw.Pk22
open PySem L2 Rw
section
variable {k : Nat} {S : Sto} {d : Nat} {m M : Int} {way : Str} {s t u p r y : Int} {w v x : Nat} {q q' : Rat}
theorem so_number : PyData.strOk ("number" : Str) = true := by decide +kernel
theorem so_nothing : PyData.strOk ("nothing" : Str) = true := by decide +kernel
theorem so_endless : PyData.strOk ("endless" : Str) = true := by decide +kernel
theorem so_none : PyData.strOk ("none" : Str) = true := by decide +kernel
theorem so_invalid : PyData.strOk ("invalid" : Str) = true := by decide +kernel
theorem so_division : PyData.strOk ("division" : Str) = true := by decide +kernel
theorem so_inexact : PyData.strOk ("inexact" : Str) = true := by decide +kernel
theorem so_underflow : PyData.strOk ("underflow" : Str) = true := by decide +kernel
theorem so_overflow : PyData.strOk ("overflow" : Str) = true := by decide +kernel
theorem okD_n : okD 1 (numD s w p) = true := by
  simp only [numD, okD, okDs, so_number, Bool.and_true, Bool.true_and, List.length_cons, List.length_nil, decide_eq_true_eq]
  exact le_size (by decide)
theorem okD_z : okD 1 (nothD s) = true := by
  simp only [nothD, okD, okDs, so_nothing, Bool.and_true, Bool.true_and, List.length_cons, List.length_nil, decide_eq_true_eq]
  exact le_size (by decide)
theorem okD_e : okD 1 (endD s) = true := by
  simp only [endD, okD, okDs, so_endless, Bool.and_true, Bool.true_and, List.length_cons, List.length_nil, decide_eq_true_eq]
  exact le_size (by decide)
theorem okD_o : okD 1 noneD = true := by
  simp only [noneD, okD, okDs, so_none, Bool.and_true, Bool.true_and, List.length_cons, List.length_nil, decide_eq_true_eq]
  exact le_size (by decide)
theorem okD_inv : okD 1 (.tup [.str "invalid"]) = true := by
  simp only [okD, okDs, so_invalid, Bool.and_true, Bool.true_and, List.length_cons, List.length_nil, decide_eq_true_eq]
  exact le_size (by decide)
theorem okD_dv : okD 1 (.tup [.str "division"]) = true := by
  simp only [okD, okDs, so_division, Bool.and_true, Bool.true_and, List.length_cons, List.length_nil, decide_eq_true_eq]
  exact le_size (by decide)
theorem okD_ovf : okD 1 ovf = true := by
  simp only [ovf, okD, okDs, so_inexact, so_overflow, Bool.and_true, Bool.true_and, List.length_cons, List.length_nil, decide_eq_true_eq]
  exact le_size (by decide)
theorem okD_ine : okD 1 (.tup [.str "inexact"]) = true := by
  simp only [okD, okDs, so_inexact, Bool.and_true, Bool.true_and, List.length_cons, List.length_nil, decide_eq_true_eq]
  exact le_size (by decide)
theorem okD_und : okD 1 (.tup [.str "inexact", .str "underflow"]) = true := by
  simp only [okD, okDs, so_inexact, so_underflow, Bool.and_true, Bool.true_and, List.length_cons, List.length_nil, decide_eq_true_eq]
  exact le_size (by decide)
theorem okD_nil : okD 1 (.tup []) = true := rfl
theorem okD_no : okD 1 (.tup [.str "none"]) = true := okD_o
def eO (z : D) : Bool := PyData.eqv (pdD z) (.tuple [.str "none"])
theorem eO_n : eO (numD s w p) = false := by simp [eO, numD, pdD, pdDs, PyData.eqv, PyData.eqvAll]
theorem eO_z : eO (nothD s) = false := by simp [eO, nothD, pdD, pdDs, PyData.eqv, PyData.eqvAll]
theorem eO_e : eO (endD s) = false := by simp [eO, endD, pdD, pdDs, PyData.eqv, PyData.eqvAll]
theorem eO_o : eO noneD = true := by simp [eO, noneD, pdD, pdDs, PyData.eqv, PyData.eqvAll]
theorem eqO {z : D} {xs : List D} (e : z = .tup xs) (h : okD 1 z = true) : cmpD S .Eq z (.tup [.str "none"]) = some (eO z) := by
  subst e
  show eqD S (.tup xs) (.tup [.str "none"]) = _
  rw [eq_tt (n := 1) (m := 1) h (by decide) okD_no (by decide)]
  simp only [eO, pdD, PyData.eqv, pdDs]
theorem eqO_n : cmpD S .Eq (numD s w p) noneD = some false := (eqO (z := numD s w p) rfl okD_n).trans (by rw [eO_n])
theorem eqO_z : cmpD S .Eq (nothD s) noneD = some false := (eqO (z := nothD s) rfl okD_z).trans (by rw [eO_z])
theorem eqO_e : cmpD S .Eq (endD s) noneD = some false := (eqO (z := endD s) rfl okD_e).trans (by rw [eO_e])
theorem eqO_o : cmpD S .Eq noneD noneD = some true := (eqO (z := noneD) rfl okD_o).trans (by rw [eO_o])
theorem inO {xs : List D} (h : ∀ z ∈ xs, okD 1 z = true) (hl : xs.length ≤ 1000) : cmpD S .In noneD (.tup xs) = some (xs.any eO) := by
  rw [inN, in_t (n := 1) (m := 2) okD_o (by decide) (okD_tup (okDs_all h) (le_size (by omega))) (by decide)]
  rfl
theorem inO2 {a b : D} (h : okD 1 a = true) (g : okD 1 b = true) : cmpD S .In noneD (.tup [a, b]) = some (eO a || eO b) := by
  rw [inO (by intro z hz; simp only [List.mem_cons, List.not_mem_nil, or_false] at hz; rcases hz with rfl | rfl <;> assumption) (by show 2 ≤ 1000; decide)]
  simp
theorem inO3 {a b c : D} (h : okD 1 a = true) (g : okD 1 b = true) (i : okD 1 c = true) : cmpD S .In noneD (.tup [a, b, c]) = some (eO a || (eO b || eO c)) := by
  rw [inO (by intro z hz; simp only [List.mem_cons, List.not_mem_nil, or_false] at hz; rcases hz with rfl | rfl | rfl <;> assumption) (by show 3 ≤ 1000; decide)]
  simp
/-- told from an endless one -/
theorem eqE {z : D} {xs : List D} {t : Int} (e : z = .tup xs) (h : okD 1 z = true) : cmpD S .Eq z (.tup [.str "endless", .int t]) = some (PyData.eqv (pdD z) (pdD (endD t))) := by
  subst e
  show eqD S (.tup xs) (.tup [.str "endless", .int t]) = _
  rw [eq_tt (n := 1) (m := 1) h (by decide) (okD_e (s := t)) (by decide)]
  simp only [endD, pdD, PyData.eqv, pdDs]
theorem eqE_n : cmpD S .Eq (numD s w p) (.tup [.str "endless", .int t]) = some false := by
  refine (eqE (z := numD s w p) rfl okD_n).trans ?_
  simp [numD, endD, pdD, pdDs, PyData.eqv, PyData.eqvAll]
theorem nz_end : (("nothing" : Str) == ("endless" : Str)) = false := by decide +kernel
theorem eqE_z : cmpD S .Eq (nothD s) (.tup [.str "endless", .int t]) = some false := by
  refine (eqE (z := nothD s) rfl okD_z).trans ?_
  simp [nothD, endD, pdD, pdDs, PyData.eqv, PyData.eqvAll, nz_end]
theorem eqE_e : cmpD S .Eq (endD s) (.tup [.str "endless", .int t]) = some (decide (s = t)) := by
  refine (eqE (z := endD s) rfl okD_e).trans ?_
  simp only [endD, pdD, pdDs, PyData.eqv, PyData.eqvAll, Bool.and_true]
  rw [show (("endless" : Str) == ("endless" : Str)) = true from beq_self_eq_true _, Bool.true_and]
  rfl
theorem eqE_o : cmpD S .Eq noneD (.tup [.str "endless", .int t]) = some false := by
  refine (eqE (z := noneD) rfl okD_o).trans ?_
  simp [noneD, endD, pdD, pdDs, PyData.eqv, PyData.eqvAll]
theorem in2_z_nn : cmpD S .In (.str "nothing") (.tup [.str "number", .str "number"]) = some false := in_strT (xs := ["number", "number"]) (by decide +kernel) (by decide) (by decide +kernel)
theorem in2_e_nn : cmpD S .In (.str "endless") (.tup [.str "number", .str "number"]) = some false := in_strT (xs := ["number", "number"]) (by decide +kernel) (by decide) (by decide +kernel)
theorem in2_z_nz : cmpD S .In (.str "nothing") (.tup [.str "number", .str "nothing"]) = some true := in_strT (xs := ["number", "nothing"]) (by decide +kernel) (by decide) (by decide +kernel)
theorem in2_e_nz : cmpD S .In (.str "endless") (.tup [.str "number", .str "nothing"]) = some false := in_strT (xs := ["number", "nothing"]) (by decide +kernel) (by decide) (by decide +kernel)
theorem in2_z_ne : cmpD S .In (.str "nothing") (.tup [.str "number", .str "endless"]) = some false := in_strT (xs := ["number", "endless"]) (by decide +kernel) (by decide) (by decide +kernel)
theorem in2_e_ne : cmpD S .In (.str "endless") (.tup [.str "number", .str "endless"]) = some true := in_strT (xs := ["number", "endless"]) (by decide +kernel) (by decide) (by decide +kernel)
theorem in2_z_no : cmpD S .In (.str "nothing") (.tup [.str "number", .str "none"]) = some false := in_strT (xs := ["number", "none"]) (by decide +kernel) (by decide) (by decide +kernel)
theorem in2_e_no : cmpD S .In (.str "endless") (.tup [.str "number", .str "none"]) = some false := in_strT (xs := ["number", "none"]) (by decide +kernel) (by decide) (by decide +kernel)
theorem in2_z_zn : cmpD S .In (.str "nothing") (.tup [.str "nothing", .str "number"]) = some true := in_strT (xs := ["nothing", "number"]) (by decide +kernel) (by decide) (by decide +kernel)
theorem in2_e_zn : cmpD S .In (.str "endless") (.tup [.str "nothing", .str "number"]) = some false := in_strT (xs := ["nothing", "number"]) (by decide +kernel) (by decide) (by decide +kernel)
theorem in2_z_zz : cmpD S .In (.str "nothing") (.tup [.str "nothing", .str "nothing"]) = some true := in_strT (xs := ["nothing", "nothing"]) (by decide +kernel) (by decide) (by decide +kernel)
theorem in2_e_zz : cmpD S .In (.str "endless") (.tup [.str "nothing", .str "nothing"]) = some false := in_strT (xs := ["nothing", "nothing"]) (by decide +kernel) (by decide) (by decide +kernel)
theorem in2_z_ze : cmpD S .In (.str "nothing") (.tup [.str "nothing", .str "endless"]) = some true := in_strT (xs := ["nothing", "endless"]) (by decide +kernel) (by decide) (by decide +kernel)
theorem in2_e_ze : cmpD S .In (.str "endless") (.tup [.str "nothing", .str "endless"]) = some true := in_strT (xs := ["nothing", "endless"]) (by decide +kernel) (by decide) (by decide +kernel)
theorem in2_z_zo : cmpD S .In (.str "nothing") (.tup [.str "nothing", .str "none"]) = some true := in_strT (xs := ["nothing", "none"]) (by decide +kernel) (by decide) (by decide +kernel)
theorem in2_e_zo : cmpD S .In (.str "endless") (.tup [.str "nothing", .str "none"]) = some false := in_strT (xs := ["nothing", "none"]) (by decide +kernel) (by decide) (by decide +kernel)
theorem in2_z_en : cmpD S .In (.str "nothing") (.tup [.str "endless", .str "number"]) = some false := in_strT (xs := ["endless", "number"]) (by decide +kernel) (by decide) (by decide +kernel)
theorem in2_e_en : cmpD S .In (.str "endless") (.tup [.str "endless", .str "number"]) = some true := in_strT (xs := ["endless", "number"]) (by decide +kernel) (by decide) (by decide +kernel)
theorem in2_z_ez : cmpD S .In (.str "nothing") (.tup [.str "endless", .str "nothing"]) = some true := in_strT (xs := ["endless", "nothing"]) (by decide +kernel) (by decide) (by decide +kernel)
theorem in2_e_ez : cmpD S .In (.str "endless") (.tup [.str "endless", .str "nothing"]) = some true := in_strT (xs := ["endless", "nothing"]) (by decide +kernel) (by decide) (by decide +kernel)
theorem in2_z_ee : cmpD S .In (.str "nothing") (.tup [.str "endless", .str "endless"]) = some false := in_strT (xs := ["endless", "endless"]) (by decide +kernel) (by decide) (by decide +kernel)
theorem in2_e_ee : cmpD S .In (.str "endless") (.tup [.str "endless", .str "endless"]) = some true := in_strT (xs := ["endless", "endless"]) (by decide +kernel) (by decide) (by decide +kernel)
theorem in2_z_eo : cmpD S .In (.str "nothing") (.tup [.str "endless", .str "none"]) = some false := in_strT (xs := ["endless", "none"]) (by decide +kernel) (by decide) (by decide +kernel)
theorem in2_e_eo : cmpD S .In (.str "endless") (.tup [.str "endless", .str "none"]) = some true := in_strT (xs := ["endless", "none"]) (by decide +kernel) (by decide) (by decide +kernel)
theorem in2_z_on : cmpD S .In (.str "nothing") (.tup [.str "none", .str "number"]) = some false := in_strT (xs := ["none", "number"]) (by decide +kernel) (by decide) (by decide +kernel)
theorem in2_e_on : cmpD S .In (.str "endless") (.tup [.str "none", .str "number"]) = some false := in_strT (xs := ["none", "number"]) (by decide +kernel) (by decide) (by decide +kernel)
theorem in2_z_oz : cmpD S .In (.str "nothing") (.tup [.str "none", .str "nothing"]) = some true := in_strT (xs := ["none", "nothing"]) (by decide +kernel) (by decide) (by decide +kernel)
theorem in2_e_oz : cmpD S .In (.str "endless") (.tup [.str "none", .str "nothing"]) = some false := in_strT (xs := ["none", "nothing"]) (by decide +kernel) (by decide) (by decide +kernel)
theorem in2_z_oe : cmpD S .In (.str "nothing") (.tup [.str "none", .str "endless"]) = some false := in_strT (xs := ["none", "endless"]) (by decide +kernel) (by decide) (by decide +kernel)
theorem in2_e_oe : cmpD S .In (.str "endless") (.tup [.str "none", .str "endless"]) = some true := in_strT (xs := ["none", "endless"]) (by decide +kernel) (by decide) (by decide +kernel)
theorem in2_z_oo : cmpD S .In (.str "nothing") (.tup [.str "none", .str "none"]) = some false := in_strT (xs := ["none", "none"]) (by decide +kernel) (by decide) (by decide +kernel)
theorem in2_e_oo : cmpD S .In (.str "endless") (.tup [.str "none", .str "none"]) = some false := in_strT (xs := ["none", "none"]) (by decide +kernel) (by decide) (by decide +kernel)
theorem in_en_n : cmpD S .In (.str "number") (.tup [.str "endless", .str "nothing"]) = some false := in_strT (xs := ["endless", "nothing"]) (by decide +kernel) (by decide) (by decide +kernel)
theorem in_en_z : cmpD S .In (.str "nothing") (.tup [.str "endless", .str "nothing"]) = some true := in_strT (xs := ["endless", "nothing"]) (by decide +kernel) (by decide) (by decide +kernel)
theorem in_en_e : cmpD S .In (.str "endless") (.tup [.str "endless", .str "nothing"]) = some true := in_strT (xs := ["endless", "nothing"]) (by decide +kernel) (by decide) (by decide +kernel)
theorem in_en_o : cmpD S .In (.str "none") (.tup [.str "endless", .str "nothing"]) = some false := in_strT (xs := ["endless", "nothing"]) (by decide +kernel) (by decide) (by decide +kernel)
theorem in_on_n : cmpD S .In (.str "number") (.tup [.str "none", .str "nothing"]) = some false := in_strT (xs := ["none", "nothing"]) (by decide +kernel) (by decide) (by decide +kernel)
theorem in_on_z : cmpD S .In (.str "nothing") (.tup [.str "none", .str "nothing"]) = some true := in_strT (xs := ["none", "nothing"]) (by decide +kernel) (by decide) (by decide +kernel)
theorem in_on_e : cmpD S .In (.str "endless") (.tup [.str "none", .str "nothing"]) = some false := in_strT (xs := ["none", "nothing"]) (by decide +kernel) (by decide) (by decide +kernel)
theorem in_on_o : cmpD S .In (.str "none") (.tup [.str "none", .str "nothing"]) = some true := in_strT (xs := ["none", "nothing"]) (by decide +kernel) (by decide) (by decide +kernel)
theorem in_nn_n : cmpD S .In (.str "number") (.tup [.str "number", .str "nothing"]) = some true := in_strT (xs := ["number", "nothing"]) (by decide +kernel) (by decide) (by decide +kernel)
theorem in_nn_z : cmpD S .In (.str "nothing") (.tup [.str "number", .str "nothing"]) = some true := in_strT (xs := ["number", "nothing"]) (by decide +kernel) (by decide) (by decide +kernel)
theorem in_nn_e : cmpD S .In (.str "endless") (.tup [.str "number", .str "nothing"]) = some false := in_strT (xs := ["number", "nothing"]) (by decide +kernel) (by decide) (by decide +kernel)
theorem in_nn_o : cmpD S .In (.str "none") (.tup [.str "number", .str "nothing"]) = some false := in_strT (xs := ["number", "nothing"]) (by decide +kernel) (by decide) (by decide +kernel)
theorem mk_none : D.tup [.str "none"] = noneD := nrfl rfl
/-- signs -/
abbrev Sg (s : Int) : Prop := s = 0 ∨ s = 1
theorem Sg.fl (h : Sg s) : Sg (1 - s) := by unfold Sg at *; omega
theorem sg_mul (hs : Sg s) (ht : Sg t) : Int.fmod (s + t) 2 = b2i (!decide (s = t)) := by
  rcases hs with rfl | rfl <;> rcases ht with rfl | rfl <;> rfl
theorem sg_b {b : Bool} : Sg (b2i b) := by cases b <;> simp [Sg, b2i]
def swn (way : Str) (s t : Int) : Int := if s = t then s else b2i (decide (way = "down"))
theorem swn_ok : callK G (k + 1) i_sign_when_nothing [.str way, .int s, .int t] S = some (.int (swn way s t), S) := by
  rw [call_fn g_sign_when_nothing rfl]
  unfold swn
  by_cases c : s = t
  · simp only [E1, E2, E3, E4, E5, E6, E7, E8, E9, List.map_cons, List.map_nil, List.cons_append, List.nil_append, List.append_nil, List.length_cons, List.length_nil, List.replicate_zero, List.replicate_succ, Nat.sub_self, Nat.zero_add, List.getElem?_cons_zero, List.getElem?_cons_succ, List.set_cons_zero, List.set_cons_succ, if_true, if_false, Bool.false_eq_true, decide_true, decide_false, Bool.not_true, Bool.not_false, decide_eq_true_eq, eq_self, Int.cast_ofNat_Int, Int.natCast_zero, Int.natCast_one, Nat.reduceLeDiff, Nat.reduceSub, Nat.reduceAdd, Nat.reduceLT, reduceIte, reduceCtorEq, Int.reduceEq, Int.reduceLT, Int.reduceLE, Int.reduceNeg, Int.reduceAdd, Int.reduceSub, Int.reduceMul, Int.reduceNe, Int.reduceBNe, Int.reduceBEq, f_sign_when_nothing, c]
  · simp only [E1, E2, E3, E4, E5, E6, E7, E8, E9, List.map_cons, List.map_nil, List.cons_append, List.nil_append, List.append_nil, List.length_cons, List.length_nil, List.replicate_zero, List.replicate_succ, Nat.sub_self, Nat.zero_add, List.getElem?_cons_zero, List.getElem?_cons_succ, List.set_cons_zero, List.set_cons_succ, if_true, if_false, Bool.false_eq_true, decide_true, decide_false, Bool.not_true, Bool.not_false, decide_eq_true_eq, eq_self, Int.cast_ofNat_Int, Int.natCast_zero, Int.natCast_one, Nat.reduceLeDiff, Nat.reduceSub, Nat.reduceAdd, Nat.reduceLT, reduceIte, reduceCtorEq, Int.reduceEq, Int.reduceLT, Int.reduceLE, Int.reduceNeg, Int.reduceAdd, Int.reduceSub, Int.reduceMul, Int.reduceNe, Int.reduceBNe, Int.reduceBEq, f_sign_when_nothing, c]
/-- numbers of the format, small -/
structure Ok (d : Nat) (m M : Int) (s : Int) (w : Nat) (p : Int) : Prop where
  sg : Sg s
  ne : w ≠ 0
  ix : ∃ i, i < cnt d m M ∧ rW d i = w ∧ rP d m i = p
  f : Fm d m M
theorem Ok.wb (h : Ok d m M s w p) : Bd 100 (w : Int) := by
  obtain ⟨i, h1, rfl, h3⟩ := h.ix
  have := (row_in h.f h1).1
  have := fh_le h.f
  show rW d i < 2 ^ 100
  exact Nat.lt_of_lt_of_le (show rW d i < 4096 by omega) (by decide)
theorem Ok.pb (h : Ok d m M s w p) : p.natAbs ≤ 200 := by
  obtain ⟨i, h1, h2, rfl⟩ := h.ix
  have := (row_in h.f h1).2
  have := h.f.m1
  have := h.f.M1
  omega
theorem Ok.fl (h : Ok d m M s w p) : Ok d m M (1 - s) w p := ⟨h.sg.fl, h.ne, h.ix, h.f⟩
abbrev nv (s : Int) (w : Nat) (p : Int) : Rat := sgQ s ((w : Rat) * (2 : Rat) ^ p)
theorem nv_sm (h : Ok d m M s w p) : Sm 400 (nv s w p) := by
  obtain ⟨i, h1, h2, h3⟩ := h.ix
  have := vl_sm h.f h1
  unfold vl at this
  rw [h2, h3] at this
  unfold nv sgQ
  split
  · exact this.neg
  · exact this
theorem sm0 : Sm 400 0 := ⟨by decide +kernel, by decide +kernel⟩
theorem val_n (h : Ok d m M s w p) : callK G (k + 5) i_value_of [numD s w p] S = some (fr (nv s w p), S) := val_num h.wb (by have := h.pb; omega)
theorem lval_n (h : Ok d m M s w p) : callK G (k + 2) i__law_val [numD s w p] S = some (fr (nv s w p), S) := lval_num h.wb (by have := h.pb; omega) h.sg
theorem sl1_end : slD S (endD s) none (some 1) = some (.tup [.str "endless"]) := sl_01
theorem sl2_end : slD S (endD s) (some 2) none = some (.tup []) := sl_2
/-- what both give -/
def Good (R : D) : Prop := okD 3 R = true ∧ szD R ≤ 1000
theorem gd {x y : D} (h : okD 1 x = true) (g : okD 1 y = true) (hs : szD x + szD y ≤ 100) : Good (.tup [x, y]) := by
  refine ⟨?_, ?_⟩
  · refine okD_tup ?_ (le_size (by show 2 ≤ 1000000; decide))
    show (okD 2 x && (okD 2 y && true)) = true
    rw [okD_mono (by decide) h, okD_mono (by decide) g]
    rfl
  · show 1 + (szD x + (szD y + 0)) ≤ 1000
    omega
theorem good_out {s : Int} : Good (outQ d m M way q s) := by
  have h1 : okD 1 (outN d m M way q s) = true ∧ szD (outN d m M way q s) ≤ 10 := by
    unfold outN beyD mkN
    split
    · exact ⟨okD_z, by show 3 ≤ 10; decide⟩
    · split
      · split
        · exact ⟨okD_e, by show 3 ≤ 10; decide⟩
        · exact ⟨okD_n, by show 5 ≤ 10; decide⟩
      · split
        · exact ⟨okD_z, by show 3 ≤ 10; decide⟩
        · exact ⟨okD_n, by show 5 ≤ 10; decide⟩
  have h2 : okD 1 (outM d m M way q) = true ∧ szD (outM d m M way q) ≤ 10 := by
    unfold outM mrk
    split
    · exact ⟨okD_nil, by show 1 ≤ 10; decide⟩
    · split
      · exact ⟨okD_ovf, by show 3 ≤ 10; decide⟩
      · split
        · exact ⟨okD_nil, by show 1 ≤ 10; decide⟩
        · split
          · exact ⟨okD_und, by show 3 ≤ 10; decide⟩
          · exact ⟨okD_ine, by show 2 ≤ 10; decide⟩
  exact gd h1.1 h2.1 (by omega)
def wrongD : D := .tup [.tup [.str "none"], .tup [.str "invalid"]]
theorem mk_wrong : D.tup [noneD, .tup [.str "invalid"]] = wrongD := nrfl rfl
theorem mk_wrong' : D.tup [.tup [.str "none"], .tup [.str "invalid"]] = wrongD := nrfl rfl
theorem idx_none : idxD S (.tup [.str "none"]) (.int 0) = some (.str "none") := at_0
theorem pos_mul {a b : Int} (ha : 0 < a) (h : 0 < a * b) : 0 < b := by
  have h : a * 0 < a * b := by rwa [Int.mul_zero]
  exact Int.lt_of_mul_lt_mul_left h (Int.le_of_lt ha)
theorem nv_ne (h : Ok d m M s w p) : nv s w p ≠ 0 := by
  have h1 : (0 : Rat) < ((w : Nat) : Rat) := Rat.natCast_pos.mpr (by have := h.ne; omega)
  have h2 := Rat.mul_pos h1 (two_pos p)
  unfold nv sgQ
  split <;> grind
theorem least_quo_neg {q q' : Rat} (h : Sm 400 q) (g : Sm 400 q') (z : q' ≠ 0) : callK G (k + 1) i__law_least [.int (-(q.num * (q'.den : Int))), .int (-((q.den : Int) * q'.num))] S = some (fr (q / q'), S) := by
  have e := least_ok (k := k) (S := S) (u := -(q.num * (q'.den : Int))) (l := -((q.den : Int) * q'.num)) (Int.neg_ne_zero.mpr (Int.mul_ne_zero den_ne (num_ne z))) ((h.dn.mul g.nm).neg.mono (by decide))
  have e2 : Rat.divInt (-(q.num * (q'.den : Int))) (-((q.den : Int) * q'.num)) = q / q' := by
    rw [div_eq]
    exact Rat.neg_divInt_neg _ _
  rw [e2] at e
  exact e
end
end Rw.Pk22

set_option exponentiation.threshold 300
namespace Rw.Pk22
open PySem L2 Rw
section
variable {k : Nat} {S T : Sto} {d d' j : Nat} {m M m' M' i : Int} {way : Str} {s t p : Int} {v w : Nat} {q o A P : Rat} {L : List D} {K : Int}
theorem row_bl {n : Nat} : below n (rowD d m j) = true := by
  unfold rowD mkN
  split <;> rfl
theorem tup_new {xs : List D} : biD (S ++ [.lst xs]) .tuple [.ref S.length] = some (.tup xs) := by
  show biTup (S ++ [.lst xs]) [.ref S.length] = _
  unfold biTup
  simp
theorem bls_rows {n c : Nat} : below n (.tup (rowsL d m c)) = true := bls_map (fun j => row_bl) _
theorem all_finite_ok (h : Fm d m M) : callK G (k + 1) i_all_finite [fmD d m M] S = some (.tup (rowsL d m (cnt d m M)), S) := by
  rw [call_fn g_all_finite rfl]
  have hp := fh_pos (d := d)
  have hd : 1 ≤ d := by have := h.d1; omega
  have h4 := fh_le h
  have h2d := fh_two hd
  have b1 : ((2 ^ d : Nat) : Int) < 2 ^ 62 := by omega
  have r1 := rng_two (a := 1) (b := ((2 ^ d : Nat) : Int)) ⟨by decide, by decide, by omega, b1⟩
  rw [show (((2 ^ d : Nat) : Int) - 1).toNat = 2 ^ d - 1 by omega] at r1
  have r2 := rng_two (a := m + 1) (b := M + 1) ⟨by have := h.m1; omega, by have := h.m1; omega, by have := h.M1; omega, by have := h.M1; omega⟩
  rw [show (M + 1 - (m + 1)).toNat = (M - m).toNat by omega] at r2
  have r3 := rng_two (a := ((fh d : Nat) : Int)) (b := ((2 ^ d : Nat) : Int)) ⟨by omega, by omega, by omega, b1⟩
  rw [show (((2 ^ d : Nat) : Int) - ((fh d : Nat) : Int)).toNat = fh d by omega] at r3
  have c1 : ∀ all x4 x5, compL none all (ctn G (callK G k) e_all_finite_0 (.name 6) .none [some (fmD d m M), some (.int (d : Int)), some (.int m), some (.int M), x4, x5, none]) ((List.range (2 ^ d - 1)).map fun (i : Nat) => D.int (1 + (i : Int))) S [] = some ((List.range (2 ^ d - 1)).map fun (i : Nat) => numD 0 (1 + i) m, S) := fun all x4 x5 => by
    have := compL_mapT (all := all) (turn := ctn G (callK G k) e_all_finite_0 (.name 6) .none [some (fmD d m M), some (.int (d : Int)), some (.int m), some (.int M), x4, x5, none]) (S := S) (g := fun (i : Nat) => D.int (1 + (i : Int))) (f := fun (i : Nat) => numD 0 (1 + i) m) (xs := List.range (2 ^ d - 1)) (acc := []) fun x hx => by
      unfold ctn
      simp only [E1, E2, E3, E4, E5, E6, E7, E8, E9, List.map_cons, List.map_nil, List.cons_append, List.nil_append, List.append_nil, List.length_cons, List.length_nil, List.replicate_zero, List.replicate_succ, Nat.sub_self, Nat.zero_add, List.getElem?_cons_zero, List.getElem?_cons_succ, List.set_cons_zero, List.set_cons_succ, if_true, if_false, Bool.false_eq_true, decide_true, decide_false, Bool.not_true, Bool.not_false, decide_eq_true_eq, eq_self, Int.cast_ofNat_Int, Int.natCast_zero, Int.natCast_one, Nat.reduceLeDiff, Nat.reduceSub, Nat.reduceAdd, Nat.reduceLT, reduceIte, reduceCtorEq, Int.reduceEq, Int.reduceLT, Int.reduceLE, Int.reduceNeg, Int.reduceAdd, Int.reduceSub, Int.reduceMul, Int.reduceNe, Int.reduceBNe, Int.reduceBEq, e_all_finite_0]
      rfl
    rw [List.nil_append] at this
    exact this
  have l1 : 1 + (2 ^ d - 1) ≤ sizeLine := le_size (by omega)
  have l0 : 2 ^ d - 1 ≤ sizeLine := le_size (by omega)
  have l5 : fh d ≤ sizeLine := le_size (by omega)
  have f1 := rows_first (m := m) hd
  obtain ⟨ρ1, S1, hl, x5, x6, rfl, rfl⟩ := forL_run (all := (List.range (M - m).toNat).map fun (i : Nat) => D.int (m + 1 + (i : Int))) (body := fbd G (callK G k) (.name 5) b_all_finite_1) (xs := (List.range (M - m).toNat).map fun (i : Nat) => D.int (m + 1 + (i : Int))) (ρ := [some (fmD d m M), some (.int (d : Int)), some (.int m), some (.int M), some (.ref S.length), none, none]) (S := S ++ [.lst (rowsL d m (2 * fh d))])
    (I := fun i ρ S' => ∃ (x5 x6 : Option D), ρ = [some (fmD d m M), some (.int (d : Int)), some (.int m), some (.int M), some (.ref S.length), x5, x6] ∧ S' = S ++ [.lst (rowsL d m (2 * fh d + i * fh d))])
    (by
      rintro i x ρ S' hx ⟨x5, x6, rfl, rfl⟩
      have hi : i < (M - m).toNat := by
        have := (List.getElem?_eq_some_iff.mp hx).1
        simpa using this
      have hxi : x = .int (m + 1 + (i : Int)) := by
        have := (List.getElem?_eq_some_iff.mp hx).2
        simpa using this.symm
      subst hxi
      have c2 : ∀ all x4, compL none all (ctn G (callK G k) e_all_finite_2 (.name 6) .none [some (fmD d m M), some (.int (d : Int)), some (.int m), some (.int M), x4, some (.int (m + 1 + (i : Int))), none]) ((List.range (fh d)).map fun (j : Nat) => D.int (((fh d : Nat) : Int) + (j : Int))) (S ++ [.lst (rowsL d m (2 * fh d + i * fh d))]) [] = some ((List.range (fh d)).map fun (j : Nat) => numD 0 (fh d + j) (m + 1 + (i : Int)), S ++ [.lst (rowsL d m (2 * fh d + i * fh d))]) := fun all x4 => by
        have := compL_mapT (all := all) (turn := ctn G (callK G k) e_all_finite_2 (.name 6) .none [some (fmD d m M), some (.int (d : Int)), some (.int m), some (.int M), x4, some (.int (m + 1 + (i : Int))), none]) (S := S ++ [.lst (rowsL d m (2 * fh d + i * fh d))]) (g := fun (j : Nat) => D.int (((fh d : Nat) : Int) + (j : Int))) (f := fun (j : Nat) => numD 0 (fh d + j) (m + 1 + (i : Int))) (xs := List.range (fh d)) (acc := []) fun x hx => by
          unfold ctn
          simp only [E1, E2, E3, E4, E5, E6, E7, E8, E9, List.map_cons, List.map_nil, List.cons_append, List.nil_append, List.append_nil, List.length_cons, List.length_nil, List.replicate_zero, List.replicate_succ, Nat.sub_self, Nat.zero_add, List.getElem?_cons_zero, List.getElem?_cons_succ, List.set_cons_zero, List.set_cons_succ, if_true, if_false, Bool.false_eq_true, decide_true, decide_false, Bool.not_true, Bool.not_false, decide_eq_true_eq, eq_self, Int.cast_ofNat_Int, Int.natCast_zero, Int.natCast_one, Nat.reduceLeDiff, Nat.reduceSub, Nat.reduceAdd, Nat.reduceLT, reduceIte, reduceCtorEq, Int.reduceEq, Int.reduceLT, Int.reduceLE, Int.reduceNeg, Int.reduceAdd, Int.reduceSub, Int.reduceMul, Int.reduceNe, Int.reduceBNe, Int.reduceBEq, e_all_finite_2]
          rfl
        rw [List.nil_append] at this
        exact this
      have ll : 2 * fh d + i * fh d + fh d ≤ sizeLine := le_size (by
        have h5 := cnt_le h
        unfold cnt at h5
        have : (i + 1) * fh d ≤ (M - m).toNat * fh d := Nat.mul_le_mul_right _ hi
        rw [Nat.add_mul] at this
        omega)
      refine ⟨_, _, ?_, some (.int (m + 1 + (i : Int))), x6, rfl, rfl⟩
      unfold fbd
      simp only [E1, E2, E3, E4, E5, E6, E7, E8, E9, List.map_cons, List.map_nil, List.cons_append, List.nil_append, List.append_nil, List.length_cons, List.length_nil, List.replicate_zero, List.replicate_succ, Nat.sub_self, Nat.zero_add, List.getElem?_cons_zero, List.getElem?_cons_succ, List.set_cons_zero, List.set_cons_succ, if_true, if_false, Bool.false_eq_true, decide_true, decide_false, Bool.not_true, Bool.not_false, decide_eq_true_eq, eq_self, Int.cast_ofNat_Int, Int.natCast_zero, Int.natCast_one, Nat.reduceLeDiff, Nat.reduceSub, Nat.reduceAdd, Nat.reduceLT, reduceIte, reduceCtorEq, Int.reduceEq, Int.reduceLT, Int.reduceLE, Int.reduceNeg, Int.reduceAdd, Int.reduceSub, Int.reduceMul, Int.reduceNe, Int.reduceBNe, Int.reduceBEq, b_all_finite_1, shl_d h, shl_d1 h, pow_d, pow_d1 h, r3, List.length_map, List.length_range, l5, wipe_nil, wipe_cons, c2, getRef, ext_new, rows_len, ll, rows_next])
    ⟨none, none, rfl, by rw [Nat.zero_mul, Nat.add_zero]⟩
  simp only [List.length_map, List.length_range] at hl
  have hmk : D.tup [.str "nothing", .int 0] = nothD 0 := rfl
  simp only [E1, E2, E3, E4, E5, E6, E7, E8, E9, List.map_cons, List.map_nil, List.cons_append, List.nil_append, List.append_nil, List.length_cons, List.length_nil, List.replicate_zero, List.replicate_succ, Nat.sub_self, Nat.zero_add, List.getElem?_cons_zero, List.getElem?_cons_succ, List.set_cons_zero, List.set_cons_succ, if_true, if_false, Bool.false_eq_true, decide_true, decide_false, Bool.not_true, Bool.not_false, decide_eq_true_eq, eq_self, Int.cast_ofNat_Int, Int.natCast_zero, Int.natCast_one, Nat.reduceLeDiff, Nat.reduceSub, Nat.reduceAdd, Nat.reduceLT, reduceIte, reduceCtorEq, Int.reduceEq, Int.reduceLT, Int.reduceLE, Int.reduceNeg, Int.reduceAdd, Int.reduceSub, Int.reduceMul, Int.reduceNe, Int.reduceBNe, Int.reduceBEq, f_all_finite, asg_fm, shl_d h, pow_d, r1, List.length_map, List.length_range, l0, wipe_nil, wipe_cons, c1, l1, hmk, f1, r2, hl, tup_new, prune_one (bls_rows (n := S.length))]
  rfl
/-! which fractions stand in a format -/
theorem den1_iff : (xq p q).den = 1 ↔ ∃ w : Nat, q.abs = (w : Rat) * (2 : Rat) ^ p := by
  constructor
  · intro h
    refine ⟨(xq p q).num.natAbs, ?_⟩
    have h0 := Rat.num_nonneg.mpr (xq_nonneg (q := q) p)
    have e : (((xq p q).num.natAbs : Nat) : Rat) = xq p q := by
      have e1 : (((xq p q).num.natAbs : Nat) : Int) = (xq p q).num := by omega
      rw [← Rat.intCast_natCast, e1]
      refine Rat.ext rfl ?_
      rw [h]
      rfl
    rw [e, xq_mul]
  · rintro ⟨w, e⟩
    have : xq p q = (w : Rat) := by
      unfold xq
      rw [e, Rat.mul_assoc, ← two_add, Int.add_right_neg, show (2 : Rat) ^ (0 : Int) = 1 from rfl, Rat.mul_one]
    rw [this]
    rfl
def repB (d : Nat) (m M : Int) (q : Rat) : Bool := decide (q.num = 0) || (decide ((xq (pw d m q) q).den = 1) && decide (pw d m q ≤ M))
theorem rep_ix (h : Fm d m M) (hq : q ≠ 0) (hj : j < cnt d m M) (e : vl d m j = q.abs) : pw d m q ≤ M ∧ j = ixF d m (wh d m q) (pw d m q) ∧ (wh d m q : Rat) * (2 : Rat) ^ pw d m q = q.abs := by
  have hd : 1 ≤ d := by have := h.d1; omega
  have hl : IsLow d m M q.abs j := ⟨hj, by rw [e]; exact Rat.le_refl, fun i _ hv => vl_le_iff.mp (by rw [e]; exact hv)⟩
  have hM : pw d m q ≤ M := by
    rcases Int.lt_or_le M (pw d m q) with c | c
    · have h1 := q_top hd hq h.le c
      have h2 := vl_lt (d := d) (m := m) hj
      rw [vl_cnt hd h.le, e] at h2
      grind
    · exact c
  have hx := hl.uniq (q_low hd hq hM)
  refine ⟨hM, hx, ?_⟩
  obtain ⟨w1, w2⟩ := wh_range (m := m) hd hq
  obtain ⟨e1, e2⟩ := ix_rW (d := d) (m := m) pw_ge w1 w2
  rw [← e, hx]
  unfold vl
  rw [e1, e2]
theorem rep_of (h : Fm d m M) (hj : j < cnt d m M) (e : vl d m j = q.abs) : repB d m M q = true := by
  unfold repB
  by_cases c : q = 0
  · subst c
    rfl
  · obtain ⟨h1, _, h2⟩ := rep_ix h c hj e
    rw [decide_eq_true (den1_iff.mpr ⟨_, h2.symm⟩), decide_eq_true h1, Bool.and_true, Bool.or_true]
theorem rep_cases (h : repB d m M q = true) : q = 0 ∨ ((xq (pw d m q) q).den = 1 ∧ pw d m q ≤ M) := by
  unfold repB at h
  rcases Bool.or_eq_true_iff.mp h with g | g
  · exact .inl (Rat.num_eq_zero.mp (of_decide_eq_true g))
  · obtain ⟨g1, g2⟩ := Bool.and_eq_true_iff.mp g
    exact .inr ⟨of_decide_eq_true g1, of_decide_eq_true g2⟩
theorem rep_to (h : Fm d m M) (g : repB d m M q = true) : ∃ j, j < cnt d m M ∧ vl d m j = q.abs := by
  have hd : 1 ≤ d := by have := h.d1; omega
  by_cases c : q = 0
  · refine ⟨0, cnt_pos, ?_⟩
    rw [vl_zero, c]
    decide +kernel
  · rcases rep_cases g with g | ⟨g1, g2⟩
    · exact absurd g c
    · obtain ⟨w1, w2⟩ := wh_range (m := m) hd c
      refine ⟨ixF d m (wh d m q) (pw d m q), ix_lt pw_ge g2 w1, ?_⟩
      obtain ⟨e1, e2⟩ := ix_rW (d := d) (m := m) pw_ge w1 w2
      have h0 := Rat.num_nonneg.mpr (xq_nonneg (q := q) (pw d m q))
      unfold vl
      rw [e1, e2]
      have e : ((wh d m q : Nat) : Rat) = xq (pw d m q) q := by
        unfold wh
        rw [g1, Nat.div_one]
        have e1 : (((xq (pw d m q) q).num.natAbs : Nat) : Int) = (xq (pw d m q) q).num := by omega
        rw [← Rat.intCast_natCast, e1]
        refine Rat.ext rfl ?_
        rw [g1]
        rfl
      rw [e, xq_mul]
theorem wh_1 (g : (xq (pw d m q) q).den = 1) : (q * (2 : Rat) ^ (-(pw d m q))).num.natAbs = wh d m q := by
  have e2 : (q * (2 : Rat) ^ (-(pw d m q))).abs = xq (pw d m q) q := abs_two _
  have : (xq (pw d m q) q).num = ((q * (2 : Rat) ^ (-(pw d m q))).num.natAbs : Int) := by rw [← e2, abs_num]
  unfold wh
  rw [g, Nat.div_one, this]
  rfl
theorem wh_2 (g : (xq (pw d m q) q).den = 1) : (if (q * (2 : Rat) ^ (-(pw d m q))).num < 0 then -(q * (2 : Rat) ^ (-(pw d m q))).num else (q * (2 : Rat) ^ (-(pw d m q))).num) = ((wh d m q : Nat) : Int) := by
  rw [← wh_1 g]
  split <;> omega
theorem repr_ok (h : Fm d m M) (hq : Sm 1000 q) : callK G (k + 5) i_is_representable [fmD d m M, fr q] S = some (.bl (repB d m M q), S) := by
  have hp := xq_sm h hq
  have e1 := shifted_ok (k := k) (S := S) (p := q) (b := -(pw d m q)) (hq.mono (by decide)) (by omega)
  have e2 : (q * (2 : Rat) ^ (-(pw d m q))).abs = xq (pw d m q) q := abs_two _
  have e3 : (q * (2 : Rat) ^ (-(pw d m q))).den = (xq (pw d m q) q).den := by rw [← e2, abs_den]
  have e4 : ∀ x : Nat, decide ((x : Int) = 1) = decide (x = 1) := fun x => by rw [decide_eq_decide]; omega
  rw [call_fn g_is_representable rfl]
  unfold repB
  by_cases c : q.num = 0
  · simp only [E1, E2, E3, E4, E5, E6, E7, E8, E9, List.map_cons, List.map_nil, List.cons_append, List.nil_append, List.append_nil, List.length_cons, List.length_nil, List.replicate_zero, List.replicate_succ, Nat.sub_self, Nat.zero_add, List.getElem?_cons_zero, List.getElem?_cons_succ, List.set_cons_zero, List.set_cons_succ, if_true, if_false, Bool.false_eq_true, decide_true, decide_false, Bool.not_true, Bool.not_false, decide_eq_true_eq, eq_self, Int.cast_ofNat_Int, Int.natCast_zero, Int.natCast_one, Nat.reduceLeDiff, Nat.reduceSub, Nat.reduceAdd, Nat.reduceLT, reduceIte, reduceCtorEq, Int.reduceEq, Int.reduceLT, Int.reduceLE, Int.reduceNeg, Int.reduceAdd, Int.reduceSub, Int.reduceMul, Int.reduceNe, Int.reduceBNe, Int.reduceBEq, f_is_representable, idx_fr0, c, Bool.true_or]
  · by_cases c2 : (xq (pw d m q) q).den = 1
    · simp only [E1, E2, E3, E4, E5, E6, E7, E8, E9, List.map_cons, List.map_nil, List.cons_append, List.nil_append, List.append_nil, List.length_cons, List.length_nil, List.replicate_zero, List.replicate_succ, Nat.sub_self, Nat.zero_add, List.getElem?_cons_zero, List.getElem?_cons_succ, List.set_cons_zero, List.set_cons_succ, if_true, if_false, Bool.false_eq_true, decide_true, decide_false, Bool.not_true, Bool.not_false, decide_eq_true_eq, eq_self, Int.cast_ofNat_Int, Int.natCast_zero, Int.natCast_one, Nat.reduceLeDiff, Nat.reduceSub, Nat.reduceAdd, Nat.reduceLT, reduceIte, reduceCtorEq, Int.reduceEq, Int.reduceLT, Int.reduceLE, Int.reduceNeg, Int.reduceAdd, Int.reduceSub, Int.reduceMul, Int.reduceNe, Int.reduceBNe, Int.reduceBEq, f_is_representable, idx_fr0, idx_fr1, idx_fm2, c, unit_ok h hq, e1, e3, e4, c2, Bool.false_or, Bool.true_and]
    · simp only [E1, E2, E3, E4, E5, E6, E7, E8, E9, List.map_cons, List.map_nil, List.cons_append, List.nil_append, List.append_nil, List.length_cons, List.length_nil, List.replicate_zero, List.replicate_succ, Nat.sub_self, Nat.zero_add, List.getElem?_cons_zero, List.getElem?_cons_succ, List.set_cons_zero, List.set_cons_succ, if_true, if_false, Bool.false_eq_true, decide_true, decide_false, Bool.not_true, Bool.not_false, decide_eq_true_eq, eq_self, Int.cast_ofNat_Int, Int.natCast_zero, Int.natCast_one, Nat.reduceLeDiff, Nat.reduceSub, Nat.reduceAdd, Nat.reduceLT, reduceIte, reduceCtorEq, Int.reduceEq, Int.reduceLT, Int.reduceLE, Int.reduceNeg, Int.reduceAdd, Int.reduceSub, Int.reduceMul, Int.reduceNe, Int.reduceBNe, Int.reduceBEq, f_is_representable, idx_fr0, idx_fr1, idx_fm2, c, unit_ok h hq, e1, e3, e4, c2, Bool.false_or, Bool.false_and]
theorem num_nz (hw : w ≠ 0) : ((w : Nat) : Rat) * (2 : Rat) ^ p ≠ 0 := by
  have h1 : (0 : Rat) < ((w : Nat) : Rat) := Rat.natCast_pos.mpr (by omega)
  have := Rat.mul_pos h1 (two_pos p)
  grind
/-- formats within others -/
theorem vl_nn : 0 ≤ vl d m j := by
  rw [← vl_zero (d := d) (m := m)]
  exact vl_le (Nat.zero_le _)
theorem vl_abs : (vl d m j).abs = vl d m j := by
  have := vl_nn (d := d) (m := m) (j := j)
  rw [abs_eq, if_neg (by grind)]
def wtB (d : Nat) (m M : Int) (d' : Nat) (m' M' : Int) : Bool := decide (d ≤ d') && (decide (m' ≤ m) && repB d' m' M' (topV d m M))
theorem wt_of (h : Fm d m M) (h' : Fm d' m' M') (H : ∀ j, j < cnt d m M → ∃ i, i < cnt d' m' M' ∧ vl d' m' i = vl d m j) : wtB d m M d' m' M' = true := by
  have hp := fh_pos (d := d)
  have hd : 1 ≤ d := by have := h.d1; omega
  have h2 : 2 ≤ fh d := by
    unfold fh
    exact Nat.le_trans (by decide) (Nat.pow_le_pow_right (by decide) (show 1 ≤ d - 1 by have := h.d1; omega))
  have hc : 2 * fh d ≤ cnt d m M := by unfold cnt; omega
  have a1 : repB d' m' M' (topV d m M) = true := by
    obtain ⟨i, hi, e⟩ := H (cnt d m M - 1) (by omega)
    exact rep_of h' hi (by rw [e]; exact vl_abs.symm)
  have a2 : m' ≤ m := by
    obtain ⟨i, hi, e⟩ := H 1 (by omega)
    obtain ⟨r1, r2, r3⟩ := row_in h' hi
    have e1 : vl d m 1 = (2 : Rat) ^ m := by
      unfold vl rW rP
      rw [if_pos (by omega), if_pos (by omega)]
      exact Rat.one_mul _
    rw [e1] at e
    have hw : rW d' i ≠ 0 := fun c => by
      unfold vl at e
      rw [c, show ((0 : Nat) : Rat) * (2 : Rat) ^ rP d' m' i = 0 from Rat.zero_mul _] at e
      have := two_pos m
      grind
    have h1 : (1 : Rat) ≤ ((rW d' i : Nat) : Rat) := Rat.natCast_le_natCast.mpr (show 1 ≤ rW d' i by omega)
    have h3 := Rat.mul_le_mul_of_nonneg_right h1 (Rat.le_of_lt (two_pos (rP d' m' i)))
    rw [Rat.one_mul] at h3
    unfold vl at e
    rw [e] at h3
    have := two_le.mp h3
    omega
  have a3 : d ≤ d' := by
    rcases Nat.lt_or_ge d' d with c | c
    · exfalso
      obtain ⟨i, hi, e⟩ := H (2 * fh d - 1) (by omega)
      obtain ⟨r1, r2, r3⟩ := row_in h' hi
      have e1 : vl d m (2 * fh d - 1) = ((2 * fh d - 1 : Nat) : Rat) * (2 : Rat) ^ m := by
        unfold vl rW rP
        rw [if_pos (by omega), if_pos (by omega)]
      rw [e1] at e
      unfold vl at e
      have hf : 2 * fh d' ≤ fh d := by
        rw [fh_two (d := d') (by have := h'.d1; omega)]
        unfold fh
        exact Nat.pow_le_pow_right (by decide) (by omega)
      have hpm : m < rP d' m' i := by
        rcases Int.lt_or_le m (rP d' m' i) with g | g
        · exact g
        · exfalso
          have g1 := two_le.mpr g
          have g2 : ((rW d' i : Nat) : Rat) < ((2 * fh d - 1 : Nat) : Rat) := Rat.natCast_lt_natCast.mpr (by omega)
          have g3 := Rat.mul_lt_mul_of_pos_right g2 (two_pos m)
          have g4 := Rat.mul_le_mul_of_nonneg_left g1 (show (0 : Rat) ≤ ((rW d' i : Nat) : Rat) from Rat.natCast_nonneg)
          grind
      obtain ⟨n, hn⟩ : ∃ n : Nat, rP d' m' i = ((n + 1 : Nat) : Int) + m := ⟨(rP d' m' i - m - 1).toNat, by omega⟩
      rw [hn, two_add, ← Rat.mul_assoc, ← two_cast, ← Rat.natCast_mul] at e
      have hz : (2 : Rat) ^ m ≠ 0 := by have := two_pos m; grind
      have e2 : ((rW d' i * 2 ^ (n + 1) : Nat) : Rat) = ((2 * fh d - 1 : Nat) : Rat) := by
        have := congrArg (fun x => x * ((2 : Rat) ^ m)⁻¹) e
        simp only [Rat.mul_assoc, Rat.mul_inv_cancel _ hz, Rat.mul_one] at this
        exact this
      have e3 : rW d' i * 2 ^ (n + 1) = 2 * fh d - 1 := by
        have h1 := Rat.natCast_le_natCast.mp (show ((rW d' i * 2 ^ (n + 1) : Nat) : Rat) ≤ ((2 * fh d - 1 : Nat) : Rat) by rw [e2]; exact Rat.le_refl)
        have h2 := Rat.natCast_le_natCast.mp (show ((2 * fh d - 1 : Nat) : Rat) ≤ ((rW d' i * 2 ^ (n + 1) : Nat) : Rat) by rw [e2]; exact Rat.le_refl)
        omega
      rw [Nat.pow_succ, ← Nat.mul_assoc] at e3
      omega
    · exact c
  unfold wtB
  rw [decide_eq_true a3, decide_eq_true a2, a1]
  rfl
theorem top_pos (h : Fm d m M) : topV d m M ≠ 0 := by
  have hp := fh_pos (d := d)
  have hc : 2 ≤ cnt d m M := by unfold cnt; omega
  have := vl_lt (d := d) (m := m) (show 0 < cnt d m M - 1 by omega)
  rw [vl_zero] at this
  unfold topV
  grind
theorem wt_to (h : Fm d m M) (h' : Fm d' m' M') (g : wtB d m M d' m' M' = true) : ∀ j, j < cnt d m M → ∃ i, i < cnt d' m' M' ∧ vl d' m' i = vl d m j := by
  unfold wtB at g
  obtain ⟨g1, g2⟩ := Bool.and_eq_true_iff.mp g
  obtain ⟨g2, g3⟩ := Bool.and_eq_true_iff.mp g2
  have g1 := of_decide_eq_true g1
  have g2 := of_decide_eq_true g2
  intro j hj
  have hd : 1 ≤ d := by have := h.d1; omega
  suffices hr : repB d' m' M' (vl d m j) = true by
    obtain ⟨i, hi, e⟩ := rep_to h' hr
    exact ⟨i, hi, by rw [e]; exact vl_abs⟩
  by_cases c : vl d m j = 0
  · rw [c]
    rfl
  · have hn := num_ne c
    obtain ⟨r1, r2, r3⟩ := row_in h hj
    have hp : pw d' m' (vl d m j) ≤ rP d m j := by
      have a1 := (expo_spec c).1
      rw [vl_abs] at a1
      have a2 : vl d m j < (2 : Rat) ^ ((d : Int) + rP d m j) := by
        have b1 : ((rW d j : Nat) : Rat) < ((2 ^ d : Nat) : Rat) := Rat.natCast_lt_natCast.mpr (by rw [← fh_two hd]; exact r1)
        have b2 := Rat.mul_lt_mul_of_pos_right b1 (two_pos (rP d m j))
        rw [two_cast, ← two_add] at b2
        exact b2
      have a3 := two_lt.mp (le_lt a1 a2)
      unfold pw
      rw [if_neg hn]
      split <;> omega
    have hM : pw d' m' (vl d m j) ≤ M' := by
      rcases rep_cases g3 with e | ⟨_, e⟩
      · exact absurd e (top_pos h)
      · refine Int.le_trans (pw_mono c ?_) e
        unfold topV
        rw [vl_abs, vl_abs]
        exact vl_le (by omega)
    unfold repB
    have hden : (xq (pw d' m' (vl d m j)) (vl d m j)).den = 1 := by
      rw [den1_iff, vl_abs]
      obtain ⟨n, hn⟩ : ∃ n : Nat, rP d m j = (n : Int) + pw d' m' (vl d m j) := ⟨(rP d m j - pw d' m' (vl d m j)).toNat, by omega⟩
      refine ⟨rW d j * 2 ^ n, ?_⟩
      rw [Rat.natCast_mul, two_cast, Rat.mul_assoc, ← two_add, ← hn]
      rfl
    rw [decide_eq_true hden, decide_eq_true hM, Bool.and_true, Bool.or_true]
theorem val_top (h : Fm d m M) : callK G (k + 5) i_value_of [numD 0 (2 ^ d - 1) M] S = some (fr (topV d m M), S) := by
  have h4 := fh_le h
  rw [fh_two (by have := h.d1; omega)] at h4
  have e := val_num (k := k) (S := S) (s := 0) (w := 2 ^ d - 1) (p := M) (show 2 ^ d - 1 < 2 ^ 100 from Nat.lt_of_lt_of_le (show 2 ^ d - 1 < 4096 by have := Nat.two_pow_pos d; omega) (by decide)) (by have := h.M1; omega)
  rw [show sgQ 0 (((2 ^ d - 1 : Nat) : Rat) * (2 : Rat) ^ M) = topV d m M by rw [topV_eq h]; unfold sgQ; rw [if_neg (by decide)]] at e
  exact e
theorem top_sm (h : Fm d m M) : Sm 400 (topV d m M) := vl_sm h (by have := cnt_pos (d := d) (m := m) (M := M); omega)
theorem within_ok (h : Fm d m M) (h' : Fm d' m' M') : callK G (k + 7) i_is_within [fmD d m M, fmD d' m' M'] S = some (.bl (wtB d m M d' m' M'), S) := by
  have e1 : callK G (k + 6) i_value_of [numD 0 (2 ^ d - 1) M] S = some (fr (topV d m M), S) := val_top h
  have e2 : callK G (k + 6) i_is_representable [fmD d' m' M', fr (topV d m M)] S = some (.bl (repB d' m' M' (topV d m M)), S) := repr_ok h' ((top_sm h).mono (by decide))
  have e4 : decide ((d : Int) ≤ (d' : Int)) = decide (d ≤ d') := by rw [decide_eq_decide]; omega
  rw [call_fn g_is_within rfl]
  unfold wtB
  by_cases c1 : d ≤ d'
  · by_cases c2 : m' ≤ m
    · simp only [E1, E2, E3, E4, E5, E6, E7, E8, E9, List.map_cons, List.map_nil, List.cons_append, List.nil_append, List.append_nil, List.length_cons, List.length_nil, List.replicate_zero, List.replicate_succ, Nat.sub_self, Nat.zero_add, List.getElem?_cons_zero, List.getElem?_cons_succ, List.set_cons_zero, List.set_cons_succ, if_true, if_false, Bool.false_eq_true, decide_true, decide_false, Bool.not_true, Bool.not_false, decide_eq_true_eq, eq_self, Int.cast_ofNat_Int, Int.natCast_zero, Int.natCast_one, Nat.reduceLeDiff, Nat.reduceSub, Nat.reduceAdd, Nat.reduceLT, reduceIte, reduceCtorEq, Int.reduceEq, Int.reduceLT, Int.reduceLE, Int.reduceNeg, Int.reduceAdd, Int.reduceSub, Int.reduceMul, Int.reduceNe, Int.reduceBNe, Int.reduceBEq, f_is_within, greatest_ok h, e1, idx_fm0, idx_fm1, e4, c1, c2, e2, Bool.true_and]
    · simp only [E1, E2, E3, E4, E5, E6, E7, E8, E9, List.map_cons, List.map_nil, List.cons_append, List.nil_append, List.append_nil, List.length_cons, List.length_nil, List.replicate_zero, List.replicate_succ, Nat.sub_self, Nat.zero_add, List.getElem?_cons_zero, List.getElem?_cons_succ, List.set_cons_zero, List.set_cons_succ, if_true, if_false, Bool.false_eq_true, decide_true, decide_false, Bool.not_true, Bool.not_false, decide_eq_true_eq, eq_self, Int.cast_ofNat_Int, Int.natCast_zero, Int.natCast_one, Nat.reduceLeDiff, Nat.reduceSub, Nat.reduceAdd, Nat.reduceLT, reduceIte, reduceCtorEq, Int.reduceEq, Int.reduceLT, Int.reduceLE, Int.reduceNeg, Int.reduceAdd, Int.reduceSub, Int.reduceMul, Int.reduceNe, Int.reduceBNe, Int.reduceBEq, f_is_within, greatest_ok h, e1, idx_fm0, idx_fm1, e4, c1, c2, Bool.true_and, Bool.false_and]
  · simp only [E1, E2, E3, E4, E5, E6, E7, E8, E9, List.map_cons, List.map_nil, List.cons_append, List.nil_append, List.append_nil, List.length_cons, List.length_nil, List.replicate_zero, List.replicate_succ, Nat.sub_self, Nat.zero_add, List.getElem?_cons_zero, List.getElem?_cons_succ, List.set_cons_zero, List.set_cons_succ, if_true, if_false, Bool.false_eq_true, decide_true, decide_false, Bool.not_true, Bool.not_false, decide_eq_true_eq, eq_self, Int.cast_ofNat_Int, Int.natCast_zero, Int.natCast_one, Nat.reduceLeDiff, Nat.reduceSub, Nat.reduceAdd, Nat.reduceLT, reduceIte, reduceCtorEq, Int.reduceEq, Int.reduceLT, Int.reduceLE, Int.reduceNeg, Int.reduceAdd, Int.reduceSub, Int.reduceMul, Int.reduceNe, Int.reduceBNe, Int.reduceBEq, f_is_within, greatest_ok h, e1, idx_fm0, idx_fm1, e4, c1, Bool.false_and]
end

end Rw.Pk22

set_option exponentiation.threshold 300
namespace Rw.Pk22
open PySem L2 Rw
section
variable {k : Nat} {S T : Sto} {d d' j i : Nat} {m M m' M' : Int} {way : Str} {s t p : Int} {v w : Nat} {q o A P : Rat} {L : List D} {K : Int} {d0 : Nat} {m0 M0 : Int}
theorem row_n (h : rW d j ≠ 0) : rowD d m j = numD 0 (rW d j) (rP d m j) := by
  unfold rowD mkN
  rw [if_neg h]
theorem row_z (h : rW d j = 0) : rowD d m j = nothD 0 := by
  unfold rowD mkN
  rw [if_pos h]
theorem vl_z (h : rW d j = 0) : vl d m j = 0 := by
  unfold vl
  rw [h]
  exact Rat.zero_mul _
theorem vl_n (h : rW d j ≠ 0) : vl d m j ≠ 0 := by
  have h1 : (0 : Rat) < ((rW d j : Nat) : Rat) := Rat.natCast_pos.mpr (by omega)
  have := Rat.mul_pos h1 (two_pos (rP d m j))
  unfold vl
  grind
theorem val_row (h : Fm d0 m0 M0) (hj : j < cnt d0 m0 M0) : callK G (k + 5) i_value_of [rowD d0 m0 j] S = some (fr (vl d0 m0 j), S) := by
  obtain ⟨r1, r2, r3⟩ := row_in h hj
  have h4 := fh_le h
  by_cases c : rW d0 j = 0
  · rw [row_z c, vl_z c]
    exact val_noth
  · rw [row_n c]
    have := val_num (k := k) (S := S) (s := 0) (w := rW d0 j) (p := rP d0 m0 j) (show rW d0 j < 2 ^ 100 from Nat.lt_of_lt_of_le r1 (Nat.le_trans h4 (by decide))) (by have := h.m1; have := h.M1; omega)
    unfold sgQ at this
    rw [if_neg (by decide)] at this
    exact this
theorem swn0 : callK G (k + 1) i_sign_when_nothing [.str way, .int 0, .int 0] S = some (.int 0, S) := by
  rw [call_fn g_sign_when_nothing rfl]
  simp only [E1, E2, E3, E4, E5, E6, E7, E8, E9, List.map_cons, List.map_nil, List.cons_append, List.nil_append, List.append_nil, List.length_cons, List.length_nil, List.replicate_zero, List.replicate_succ, Nat.sub_self, Nat.zero_add, List.getElem?_cons_zero, List.getElem?_cons_succ, List.set_cons_zero, List.set_cons_succ, if_true, if_false, Bool.false_eq_true, decide_true, decide_false, Bool.not_true, Bool.not_false, decide_eq_true_eq, eq_self, Int.cast_ofNat_Int, Int.natCast_zero, Int.natCast_one, Nat.reduceLeDiff, Nat.reduceSub, Nat.reduceAdd, Nat.reduceLT, reduceIte, reduceCtorEq, Int.reduceEq, Int.reduceLT, Int.reduceLE, Int.reduceNeg, Int.reduceAdd, Int.reduceSub, Int.reduceMul, Int.reduceNe, Int.reduceBNe, Int.reduceBEq, f_sign_when_nothing]
theorem inZE_zz : cmpD S .In (.str "nothing") (.tup [.str "endless", .str "nothing"]) = some true := in_en_z
theorem inZE_zn : cmpD S .In (.str "nothing") (.tup [.str "endless", .str "nothing"]) = some true := in_en_z
theorem inZE_n : cmpD S .In (.str "number") (.tup [.str "endless", .str "nothing"]) = some false := in_en_n
theorem plus_row (h0 : Fm d0 m0 M0) (hf : Fm d m M) (hw : way ∈ ways) (hi : i < cnt d0 m0 M0) (hj : j < cnt d0 m0 M0) : callK G (k + 10) i_plus [fmD d m M, .str way, rowD d0 m0 i, rowD d0 m0 j] S = some (outQ d m M way (vl d0 m0 i + vl d0 m0 j) 0, S) := by
  have vi := val_row (k := k + 4) (S := S) h0 hi
  have vj := val_row (k := k + 4) (S := S) h0 hj
  have e1 := added_ok (k := k + 6) (S := S) ((vl_sm h0 hi).mono (by decide)) ((vl_sm h0 hj).mono (by decide))
  have e2 := rounded_ok (k := k + 1) (S := S) (s := 0) hf hw ((Sm.mono (m := 1000) ((vl_sm h0 hi).add (vl_sm h0 hj)) (by decide)))
  have fm : Int.fmod 0 2 = 0 := rfl
  rw [call_fn g_plus rfl]
  by_cases c1 : rW d0 i = 0
  · rw [row_z c1] at vi ⊢
    by_cases c2 : rW d0 j = 0
    · rw [row_z c2] at vj ⊢
      have ez : vl d0 m0 j = vl d0 m0 i := by rw [vl_z c1, vl_z c2]
      rw [ez] at e1 e2 vj ⊢
      simp only [E1, E2, E3, E4, E5, E6, E7, E8, E9, List.map_cons, List.map_nil, List.cons_append, List.nil_append, List.append_nil, List.length_cons, List.length_nil, List.replicate_zero, List.replicate_succ, Nat.sub_self, Nat.zero_add, List.getElem?_cons_zero, List.getElem?_cons_succ, List.set_cons_zero, List.set_cons_succ, if_true, if_false, Bool.false_eq_true, decide_true, decide_false, Bool.not_true, Bool.not_false, decide_eq_true_eq, eq_self, Int.cast_ofNat_Int, Int.natCast_zero, Int.natCast_one, Nat.reduceLeDiff, Nat.reduceSub, Nat.reduceAdd, Nat.reduceLT, reduceIte, reduceCtorEq, Int.reduceEq, Int.reduceLT, Int.reduceLE, Int.reduceNeg, Int.reduceAdd, Int.reduceSub, Int.reduceMul, Int.reduceNe, Int.reduceBNe, Int.reduceBEq, f_plus, idx_n0, idx_n1, idx_z0, idx_z1, YN, c_NONE, c_WRONG, eqO_n, eqO_z, mk_none, ne_eq, not_false_eq_true, vi, vj, e1, e2, swn0, fm]
    · rw [row_n c2] at vj ⊢
      simp only [E1, E2, E3, E4, E5, E6, E7, E8, E9, List.map_cons, List.map_nil, List.cons_append, List.nil_append, List.append_nil, List.length_cons, List.length_nil, List.replicate_zero, List.replicate_succ, Nat.sub_self, Nat.zero_add, List.getElem?_cons_zero, List.getElem?_cons_succ, List.set_cons_zero, List.set_cons_succ, if_true, if_false, Bool.false_eq_true, decide_true, decide_false, Bool.not_true, Bool.not_false, decide_eq_true_eq, eq_self, Int.cast_ofNat_Int, Int.natCast_zero, Int.natCast_one, Nat.reduceLeDiff, Nat.reduceSub, Nat.reduceAdd, Nat.reduceLT, reduceIte, reduceCtorEq, Int.reduceEq, Int.reduceLT, Int.reduceLE, Int.reduceNeg, Int.reduceAdd, Int.reduceSub, Int.reduceMul, Int.reduceNe, Int.reduceBNe, Int.reduceBEq, f_plus, idx_n0, idx_n1, idx_z0, idx_z1, YN, c_NONE, c_WRONG, eqO_n, eqO_z, mk_none, ne_eq, not_false_eq_true, vi, vj, e1, e2, swn0, fm]
  · rw [row_n c1] at vi ⊢
    by_cases c2 : rW d0 j = 0
    · rw [row_z c2] at vj ⊢
      simp only [E1, E2, E3, E4, E5, E6, E7, E8, E9, List.map_cons, List.map_nil, List.cons_append, List.nil_append, List.append_nil, List.length_cons, List.length_nil, List.replicate_zero, List.replicate_succ, Nat.sub_self, Nat.zero_add, List.getElem?_cons_zero, List.getElem?_cons_succ, List.set_cons_zero, List.set_cons_succ, if_true, if_false, Bool.false_eq_true, decide_true, decide_false, Bool.not_true, Bool.not_false, decide_eq_true_eq, eq_self, Int.cast_ofNat_Int, Int.natCast_zero, Int.natCast_one, Nat.reduceLeDiff, Nat.reduceSub, Nat.reduceAdd, Nat.reduceLT, reduceIte, reduceCtorEq, Int.reduceEq, Int.reduceLT, Int.reduceLE, Int.reduceNeg, Int.reduceAdd, Int.reduceSub, Int.reduceMul, Int.reduceNe, Int.reduceBNe, Int.reduceBEq, f_plus, idx_n0, idx_n1, idx_z0, idx_z1, YN, c_NONE, c_WRONG, eqO_n, eqO_z, mk_none, ne_eq, not_false_eq_true, vi, vj, e1, e2, swn0, fm]
    · rw [row_n c2] at vj ⊢
      simp only [E1, E2, E3, E4, E5, E6, E7, E8, E9, List.map_cons, List.map_nil, List.cons_append, List.nil_append, List.append_nil, List.length_cons, List.length_nil, List.replicate_zero, List.replicate_succ, Nat.sub_self, Nat.zero_add, List.getElem?_cons_zero, List.getElem?_cons_succ, List.set_cons_zero, List.set_cons_succ, if_true, if_false, Bool.false_eq_true, decide_true, decide_false, Bool.not_true, Bool.not_false, decide_eq_true_eq, eq_self, Int.cast_ofNat_Int, Int.natCast_zero, Int.natCast_one, Nat.reduceLeDiff, Nat.reduceSub, Nat.reduceAdd, Nat.reduceLT, reduceIte, reduceCtorEq, Int.reduceEq, Int.reduceLT, Int.reduceLE, Int.reduceNeg, Int.reduceAdd, Int.reduceSub, Int.reduceMul, Int.reduceNe, Int.reduceBNe, Int.reduceBEq, f_plus, idx_n0, idx_n1, idx_z0, idx_z1, YN, c_NONE, c_WRONG, eqO_n, eqO_z, mk_none, ne_eq, not_false_eq_true, vi, vj, e1, e2, swn0, fm]
theorem prod_row (h0 : Fm d0 m0 M0) (hf : Fm d m M) (hw : way ∈ ways) (hi : i < cnt d0 m0 M0) (hj : j < cnt d0 m0 M0) : callK G (k + 10) i_product [fmD d m M, .str way, rowD d0 m0 i, rowD d0 m0 j] S = some (outQ d m M way (vl d0 m0 i * vl d0 m0 j) 0, S) := by
  have vi := val_row (k := k + 4) (S := S) h0 hi
  have vj := val_row (k := k + 4) (S := S) h0 hj
  have e1 := times_ok (k := k + 6) (S := S) ((vl_sm h0 hi).mono (by decide)) ((vl_sm h0 hj).mono (by decide))
  have e2 := rounded_ok (k := k + 1) (S := S) (s := 0) hf hw ((Sm.mono (m := 1000) ((vl_sm h0 hi).mul (vl_sm h0 hj)) (by decide)))
  have fm : Int.fmod 0 2 = 0 := rfl
  rw [call_fn g_product rfl]
  by_cases c1 : rW d0 i = 0
  · rw [row_z c1] at vi ⊢
    by_cases c2 : rW d0 j = 0
    · rw [row_z c2] at vj ⊢
      have ez : vl d0 m0 j = vl d0 m0 i := by rw [vl_z c1, vl_z c2]
      rw [ez] at e1 e2 vj ⊢
      simp only [E1, E2, E3, E4, E5, E6, E7, E8, E9, List.map_cons, List.map_nil, List.cons_append, List.nil_append, List.append_nil, List.length_cons, List.length_nil, List.replicate_zero, List.replicate_succ, Nat.sub_self, Nat.zero_add, List.getElem?_cons_zero, List.getElem?_cons_succ, List.set_cons_zero, List.set_cons_succ, if_true, if_false, Bool.false_eq_true, decide_true, decide_false, Bool.not_true, Bool.not_false, decide_eq_true_eq, eq_self, Int.cast_ofNat_Int, Int.natCast_zero, Int.natCast_one, Nat.reduceLeDiff, Nat.reduceSub, Nat.reduceAdd, Nat.reduceLT, reduceIte, reduceCtorEq, Int.reduceEq, Int.reduceLT, Int.reduceLE, Int.reduceNeg, Int.reduceAdd, Int.reduceSub, Int.reduceMul, Int.reduceNe, Int.reduceBNe, Int.reduceBEq, f_product, idx_n0, idx_n1, idx_z0, idx_z1, YN, c_NONE, c_WRONG, eqO_n, eqO_z, mk_none, ne_eq, not_false_eq_true, vi, vj, e1, e2, swn0, fm, in2_z_zz, in2_z_zn, in2_z_nz, in2_z_nn]
    · rw [row_n c2] at vj ⊢
      simp only [E1, E2, E3, E4, E5, E6, E7, E8, E9, List.map_cons, List.map_nil, List.cons_append, List.nil_append, List.append_nil, List.length_cons, List.length_nil, List.replicate_zero, List.replicate_succ, Nat.sub_self, Nat.zero_add, List.getElem?_cons_zero, List.getElem?_cons_succ, List.set_cons_zero, List.set_cons_succ, if_true, if_false, Bool.false_eq_true, decide_true, decide_false, Bool.not_true, Bool.not_false, decide_eq_true_eq, eq_self, Int.cast_ofNat_Int, Int.natCast_zero, Int.natCast_one, Nat.reduceLeDiff, Nat.reduceSub, Nat.reduceAdd, Nat.reduceLT, reduceIte, reduceCtorEq, Int.reduceEq, Int.reduceLT, Int.reduceLE, Int.reduceNeg, Int.reduceAdd, Int.reduceSub, Int.reduceMul, Int.reduceNe, Int.reduceBNe, Int.reduceBEq, f_product, idx_n0, idx_n1, idx_z0, idx_z1, YN, c_NONE, c_WRONG, eqO_n, eqO_z, mk_none, ne_eq, not_false_eq_true, vi, vj, e1, e2, swn0, fm, in2_z_zz, in2_z_zn, in2_z_nz, in2_z_nn]
  · rw [row_n c1] at vi ⊢
    by_cases c2 : rW d0 j = 0
    · rw [row_z c2] at vj ⊢
      simp only [E1, E2, E3, E4, E5, E6, E7, E8, E9, List.map_cons, List.map_nil, List.cons_append, List.nil_append, List.append_nil, List.length_cons, List.length_nil, List.replicate_zero, List.replicate_succ, Nat.sub_self, Nat.zero_add, List.getElem?_cons_zero, List.getElem?_cons_succ, List.set_cons_zero, List.set_cons_succ, if_true, if_false, Bool.false_eq_true, decide_true, decide_false, Bool.not_true, Bool.not_false, decide_eq_true_eq, eq_self, Int.cast_ofNat_Int, Int.natCast_zero, Int.natCast_one, Nat.reduceLeDiff, Nat.reduceSub, Nat.reduceAdd, Nat.reduceLT, reduceIte, reduceCtorEq, Int.reduceEq, Int.reduceLT, Int.reduceLE, Int.reduceNeg, Int.reduceAdd, Int.reduceSub, Int.reduceMul, Int.reduceNe, Int.reduceBNe, Int.reduceBEq, f_product, idx_n0, idx_n1, idx_z0, idx_z1, YN, c_NONE, c_WRONG, eqO_n, eqO_z, mk_none, ne_eq, not_false_eq_true, vi, vj, e1, e2, swn0, fm, in2_z_zz, in2_z_zn, in2_z_nz, in2_z_nn]
    · rw [row_n c2] at vj ⊢
      simp only [E1, E2, E3, E4, E5, E6, E7, E8, E9, List.map_cons, List.map_nil, List.cons_append, List.nil_append, List.append_nil, List.length_cons, List.length_nil, List.replicate_zero, List.replicate_succ, Nat.sub_self, Nat.zero_add, List.getElem?_cons_zero, List.getElem?_cons_succ, List.set_cons_zero, List.set_cons_succ, if_true, if_false, Bool.false_eq_true, decide_true, decide_false, Bool.not_true, Bool.not_false, decide_eq_true_eq, eq_self, Int.cast_ofNat_Int, Int.natCast_zero, Int.natCast_one, Nat.reduceLeDiff, Nat.reduceSub, Nat.reduceAdd, Nat.reduceLT, reduceIte, reduceCtorEq, Int.reduceEq, Int.reduceLT, Int.reduceLE, Int.reduceNeg, Int.reduceAdd, Int.reduceSub, Int.reduceMul, Int.reduceNe, Int.reduceBNe, Int.reduceBEq, f_product, idx_n0, idx_n1, idx_z0, idx_z1, YN, c_NONE, c_WRONG, eqO_n, eqO_z, mk_none, ne_eq, not_false_eq_true, vi, vj, e1, e2, swn0, fm, in2_z_zz, in2_z_zn, in2_z_nz, in2_z_nn]
theorem ovr_row (h0 : Fm d0 m0 M0) (hf : Fm d m M) (hw : way ∈ ways) (hi : i < cnt d0 m0 M0) (hj : j < cnt d0 m0 M0) (z : vl d0 m0 j ≠ 0) : callK G (k + 10) i_over [fmD d m M, .str way, rowD d0 m0 i, rowD d0 m0 j] S = some (outQ d m M way (vl d0 m0 i / vl d0 m0 j) 0, S) := by
  have vi := val_row (k := k + 4) (S := S) h0 hi
  have vj := val_row (k := k + 4) (S := S) h0 hj
  have e1 := quotient_ok (k := k + 6) (S := S) ((vl_sm h0 hi).mono (by decide)) ((vl_sm h0 hj).mono (by decide)) z
  have e2 := rounded_ok (k := k + 1) (S := S) (s := 0) hf hw ((Sm.mono (m := 1000) ((vl_sm h0 hi).quo (vl_sm h0 hj) z) (by decide)))
  have fm : Int.fmod 0 2 = 0 := rfl
  rw [call_fn g_over rfl]
  by_cases c1 : rW d0 i = 0
  · rw [row_z c1] at vi ⊢
    by_cases c2 : rW d0 j = 0
    · exact absurd (vl_z c2) z
    · rw [row_n c2] at vj ⊢
      simp only [E1, E2, E3, E4, E5, E6, E7, E8, E9, List.map_cons, List.map_nil, List.cons_append, List.nil_append, List.append_nil, List.length_cons, List.length_nil, List.replicate_zero, List.replicate_succ, Nat.sub_self, Nat.zero_add, List.getElem?_cons_zero, List.getElem?_cons_succ, List.set_cons_zero, List.set_cons_succ, if_true, if_false, Bool.false_eq_true, decide_true, decide_false, Bool.not_true, Bool.not_false, decide_eq_true_eq, eq_self, Int.cast_ofNat_Int, Int.natCast_zero, Int.natCast_one, Nat.reduceLeDiff, Nat.reduceSub, Nat.reduceAdd, Nat.reduceLT, reduceIte, reduceCtorEq, Int.reduceEq, Int.reduceLT, Int.reduceLE, Int.reduceNeg, Int.reduceAdd, Int.reduceSub, Int.reduceMul, Int.reduceNe, Int.reduceBNe, Int.reduceBEq, f_over, s_over_0_0, s_over_0_1, s_over_0_2, s_over_0_3, s_over_0_4, s_over_0_5, s_over_0_6, idx_n0, idx_n1, idx_z0, idx_z1, YN, c_NONE, c_WRONG, eqO_n, eqO_z, mk_none, ne_eq, not_false_eq_true, vi, vj, e1, e2, swn0, fm, inZE_zz, inZE_zn, inZE_n]
  · rw [row_n c1] at vi ⊢
    by_cases c2 : rW d0 j = 0
    · exact absurd (vl_z c2) z
    · rw [row_n c2] at vj ⊢
      simp only [E1, E2, E3, E4, E5, E6, E7, E8, E9, List.map_cons, List.map_nil, List.cons_append, List.nil_append, List.append_nil, List.length_cons, List.length_nil, List.replicate_zero, List.replicate_succ, Nat.sub_self, Nat.zero_add, List.getElem?_cons_zero, List.getElem?_cons_succ, List.set_cons_zero, List.set_cons_succ, if_true, if_false, Bool.false_eq_true, decide_true, decide_false, Bool.not_true, Bool.not_false, decide_eq_true_eq, eq_self, Int.cast_ofNat_Int, Int.natCast_zero, Int.natCast_one, Nat.reduceLeDiff, Nat.reduceSub, Nat.reduceAdd, Nat.reduceLT, reduceIte, reduceCtorEq, Int.reduceEq, Int.reduceLT, Int.reduceLE, Int.reduceNeg, Int.reduceAdd, Int.reduceSub, Int.reduceMul, Int.reduceNe, Int.reduceBNe, Int.reduceBEq, f_over, s_over_0_0, s_over_0_1, s_over_0_2, s_over_0_3, s_over_0_4, s_over_0_5, s_over_0_6, idx_n0, idx_n1, idx_z0, idx_z1, YN, c_NONE, c_WRONG, eqO_n, eqO_z, mk_none, ne_eq, not_false_eq_true, vi, vj, e1, e2, swn0, fm, inZE_zz, inZE_zn, inZE_n]
theorem mk_dv0 : D.tup [.tup [.str "endless", .int 0], .tup [.str "division"]] = .tup [endD 0, .tup [.str "division"]] := rfl
theorem ovr_z0 (hi : rW d0 i = 0) (hj : rW d0 j = 0) : callK G (k + 10) i_over [fmD d m M, .str way, rowD d0 m0 i, rowD d0 m0 j] S = some (wrongD, S) := by
  have fm : Int.fmod 0 2 = 0 := rfl
  rw [call_fn g_over rfl, row_z hi, row_z hj]
  simp only [E1, E2, E3, E4, E5, E6, E7, E8, E9, List.map_cons, List.map_nil, List.cons_append, List.nil_append, List.append_nil, List.length_cons, List.length_nil, List.replicate_zero, List.replicate_succ, Nat.sub_self, Nat.zero_add, List.getElem?_cons_zero, List.getElem?_cons_succ, List.set_cons_zero, List.set_cons_succ, if_true, if_false, Bool.false_eq_true, decide_true, decide_false, Bool.not_true, Bool.not_false, decide_eq_true_eq, eq_self, Int.cast_ofNat_Int, Int.natCast_zero, Int.natCast_one, Nat.reduceLeDiff, Nat.reduceSub, Nat.reduceAdd, Nat.reduceLT, reduceIte, reduceCtorEq, Int.reduceEq, Int.reduceLT, Int.reduceLE, Int.reduceNeg, Int.reduceAdd, Int.reduceSub, Int.reduceMul, Int.reduceNe, Int.reduceBNe, Int.reduceBEq, f_over, s_over_0_0, s_over_0_1, s_over_0_2, s_over_0_3, s_over_0_4, s_over_0_5, s_over_0_6, idx_z0, idx_z1, YN, c_NONE, c_WRONG, eqO_z, mk_none, ne_eq, not_false_eq_true, fm, in_en_z, mk_wrong, mk_wrong']
theorem ovr_n0 (hi : rW d0 i ≠ 0) (hj : rW d0 j = 0) : callK G (k + 10) i_over [fmD d m M, .str way, rowD d0 m0 i, rowD d0 m0 j] S = some (.tup [endD 0, .tup [.str "division"]], S) := by
  have fm : Int.fmod 0 2 = 0 := rfl
  rw [call_fn g_over rfl, row_n hi, row_z hj]
  simp only [E1, E2, E3, E4, E5, E6, E7, E8, E9, List.map_cons, List.map_nil, List.cons_append, List.nil_append, List.append_nil, List.length_cons, List.length_nil, List.replicate_zero, List.replicate_succ, Nat.sub_self, Nat.zero_add, List.getElem?_cons_zero, List.getElem?_cons_succ, List.set_cons_zero, List.set_cons_succ, if_true, if_false, Bool.false_eq_true, decide_true, decide_false, Bool.not_true, Bool.not_false, decide_eq_true_eq, eq_self, Int.cast_ofNat_Int, Int.natCast_zero, Int.natCast_one, Nat.reduceLeDiff, Nat.reduceSub, Nat.reduceAdd, Nat.reduceLT, reduceIte, reduceCtorEq, Int.reduceEq, Int.reduceLT, Int.reduceLE, Int.reduceNeg, Int.reduceAdd, Int.reduceSub, Int.reduceMul, Int.reduceNe, Int.reduceBNe, Int.reduceBEq, f_over, s_over_0_0, s_over_0_1, s_over_0_2, s_over_0_3, s_over_0_4, s_over_0_5, s_over_0_6, idx_n0, idx_n1, idx_z0, idx_z1, YN, c_NONE, c_WRONG, eqO_n, eqO_z, mk_none, ne_eq, not_false_eq_true, fm, in_en_z, in_en_n, mk_wrong, mk_wrong']
  try rfl
theorem aug_mul2 {a : Int} : augD .Mult (.int a) (.int 2) = some (.int (a * 2)) := by
  show (if CMul a 2 then _ else _) = _
  rw [if_pos (.inr ⟨by decide, by decide⟩)]
theorem sq_ok {h N : Nat} (hN : N < 2 ^ 100) (hl : h ≤ 2 * N + 1) : mulOk (h : Int) (h : Int) := Bd.mulOk (n := 102) (m := 102) (show h < 2 ^ 102 by omega) (show h < 2 ^ 102 by omega) (by decide)
theorem rp1 {cl : Nat → List D → Sto → Rs D} {x : Option D} {N : Nat} (hN : N < 2 ^ 100) (n : Nat) : ∀ h : Nat, N + 1 - h ≤ n → 0 < h → h ≤ 2 * N + 1 → ∃ h' : Nat, whE (evT G cl c_root_parts_0) (evSs G cl b_root_parts_0) [some (.int (N : Int)), some (.int 0), some (.int (h : Int)), x] S = some (.nx [some (.int (N : Int)), some (.int 0), some (.int (h' : Int)), x], S) ∧ N < h' * h' ∧ h' ≤ 2 * N + 1 := by
  induction n with
  | zero =>
    intro h h1 h2 h3
    have o := sq_ok hN h3
    have c : ¬ (h : Int) * (h : Int) ≤ (N : Int) := by
      have h0 : N < h := by omega
      have h4 : h ≤ h * h := Nat.le_mul_of_pos_left h h2
      have : N < h * h := Nat.lt_of_lt_of_le h0 h4
      have : (N : Int) < ((h * h : Nat) : Int) := by omega
      rw [Int.natCast_mul] at this
      omega
    refine ⟨h, whE_end ?_, ?_, h3⟩
    · simp only [E1, E2, E3, E4, E5, E6, E7, E8, E9, List.map_cons, List.map_nil, List.cons_append, List.nil_append, List.append_nil, List.length_cons, List.length_nil, List.replicate_zero, List.replicate_succ, Nat.sub_self, Nat.zero_add, List.getElem?_cons_zero, List.getElem?_cons_succ, List.set_cons_zero, List.set_cons_succ, if_true, if_false, Bool.false_eq_true, decide_true, decide_false, Bool.not_true, Bool.not_false, decide_eq_true_eq, eq_self, Int.cast_ofNat_Int, Int.natCast_zero, Int.natCast_one, Nat.reduceLeDiff, Nat.reduceSub, Nat.reduceAdd, Nat.reduceLT, reduceIte, reduceCtorEq, Int.reduceEq, Int.reduceLT, Int.reduceLE, Int.reduceNeg, Int.reduceAdd, Int.reduceSub, Int.reduceMul, Int.reduceNe, Int.reduceBNe, Int.reduceBEq, c_root_parts_0, o, c]
    · have : (N : Int) < (h : Int) * (h : Int) := by omega
      rw [← Int.natCast_mul] at this
      omega
  | succ n ih =>
    intro h h1 h2 h3
    have o := sq_ok hN h3
    by_cases c : (h : Int) * (h : Int) ≤ (N : Int)
    · have c2 : h ≤ N := by
        have h4 : h ≤ h * h := Nat.le_mul_of_pos_left h h2
        rw [← Int.natCast_mul] at c
        omega
      obtain ⟨h', e1, e2, e3⟩ := ih (h * 2) (by omega) (by omega) (by omega)
      refine ⟨h', whE_turn (S1 := S) (ρ2 := [some (.int (N : Int)), some (.int 0), some (.int ((h * 2 : Nat) : Int)), x]) (S2 := S) ?_ ?_ e1, e2, e3⟩
      · simp only [E1, E2, E3, E4, E5, E6, E7, E8, E9, List.map_cons, List.map_nil, List.cons_append, List.nil_append, List.append_nil, List.length_cons, List.length_nil, List.replicate_zero, List.replicate_succ, Nat.sub_self, Nat.zero_add, List.getElem?_cons_zero, List.getElem?_cons_succ, List.set_cons_zero, List.set_cons_succ, if_true, if_false, Bool.false_eq_true, decide_true, decide_false, Bool.not_true, Bool.not_false, decide_eq_true_eq, eq_self, Int.cast_ofNat_Int, Int.natCast_zero, Int.natCast_one, Nat.reduceLeDiff, Nat.reduceSub, Nat.reduceAdd, Nat.reduceLT, reduceIte, reduceCtorEq, Int.reduceEq, Int.reduceLT, Int.reduceLE, Int.reduceNeg, Int.reduceAdd, Int.reduceSub, Int.reduceMul, Int.reduceNe, Int.reduceBNe, Int.reduceBEq, c_root_parts_0, o, c]
      · simp only [E1, E2, E3, E4, E5, E6, E7, E8, E9, List.map_cons, List.map_nil, List.cons_append, List.nil_append, List.append_nil, List.length_cons, List.length_nil, List.replicate_zero, List.replicate_succ, Nat.sub_self, Nat.zero_add, List.getElem?_cons_zero, List.getElem?_cons_succ, List.set_cons_zero, List.set_cons_succ, if_true, if_false, Bool.false_eq_true, decide_true, decide_false, Bool.not_true, Bool.not_false, decide_eq_true_eq, eq_self, Int.cast_ofNat_Int, Int.natCast_zero, Int.natCast_one, Nat.reduceLeDiff, Nat.reduceSub, Nat.reduceAdd, Nat.reduceLT, reduceIte, reduceCtorEq, Int.reduceEq, Int.reduceLT, Int.reduceLE, Int.reduceNeg, Int.reduceAdd, Int.reduceSub, Int.reduceMul, Int.reduceNe, Int.reduceBNe, Int.reduceBEq, b_root_parts_0, aug_mul2, Int.natCast_mul]
    · refine ⟨h, whE_end ?_, ?_, h3⟩
      · simp only [E1, E2, E3, E4, E5, E6, E7, E8, E9, List.map_cons, List.map_nil, List.cons_append, List.nil_append, List.append_nil, List.length_cons, List.length_nil, List.replicate_zero, List.replicate_succ, Nat.sub_self, Nat.zero_add, List.getElem?_cons_zero, List.getElem?_cons_succ, List.set_cons_zero, List.set_cons_succ, if_true, if_false, Bool.false_eq_true, decide_true, decide_false, Bool.not_true, Bool.not_false, decide_eq_true_eq, eq_self, Int.cast_ofNat_Int, Int.natCast_zero, Int.natCast_one, Nat.reduceLeDiff, Nat.reduceSub, Nat.reduceAdd, Nat.reduceLT, reduceIte, reduceCtorEq, Int.reduceEq, Int.reduceLT, Int.reduceLE, Int.reduceNeg, Int.reduceAdd, Int.reduceSub, Int.reduceMul, Int.reduceNe, Int.reduceBNe, Int.reduceBEq, c_root_parts_0, o, c]
      · have : (N : Int) < (h : Int) * (h : Int) := by omega
        rw [← Int.natCast_mul] at this
        omega
theorem d2 : divOk 2 := ⟨by decide, by decide +kernel⟩
theorem mid_nat (l h : Nat) : Int.fdiv ((l : Int) + (h : Int)) 2 = (((l + h) / 2 : Nat) : Int) := by
  rw [← Int.natCast_add]
  exact fdiv_nat (l + h) 2
theorem rp2 {cl : Nat → List D → Sto → Rs D} {N : Nat} (hN : N < 2 ^ 100) (n : Nat) : ∀ (l h : Nat) (x : Option D), h - l ≤ n → l < h → l * l ≤ N → N < h * h → h ≤ 2 * N + 1 → ∃ (l' h' : Nat) (x' : Option D), whE (evT G cl c_root_parts_1) (evSs G cl b_root_parts_1) [some (.int (N : Int)), some (.int (l : Int)), some (.int (h : Int)), x] S = some (.nx [some (.int (N : Int)), some (.int (l' : Int)), some (.int (h' : Int)), x'], S) ∧ l' * l' ≤ N ∧ N < (l' + 1) * (l' + 1) ∧ l' ≤ 2 * N + 1 := by
  induction n with
  | zero => intro l h x h1 h2; omega
  | succ n ih =>
    intro l h x h1 h2 h3 h4 h5
    by_cases c : l + 1 < h
    · have c' : (l : Int) + 1 < (h : Int) := by omega
      have o := sq_ok (h := (l + h) / 2) hN (by omega)
      by_cases q : ((l + h) / 2) * ((l + h) / 2) ≤ N
      · have q' : (((l + h) / 2 : Nat) : Int) * (((l + h) / 2 : Nat) : Int) ≤ (N : Int) := by rw [← Int.natCast_mul]; omega
        obtain ⟨l', h', x', e1, e2, e3, e4⟩ := ih ((l + h) / 2) h (some (.int (((l + h) / 2 : Nat) : Int))) (by omega) (by omega) q h4 h5
        refine ⟨l', h', x', whE_turn (S1 := S) (ρ2 := [some (.int (N : Int)), some (.int (((l + h) / 2 : Nat) : Int)), some (.int (h : Int)), some (.int (((l + h) / 2 : Nat) : Int))]) (S2 := S) ?_ ?_ e1, e2, e3, e4⟩
        · simp only [E1, E2, E3, E4, E5, E6, E7, E8, E9, List.map_cons, List.map_nil, List.cons_append, List.nil_append, List.append_nil, List.length_cons, List.length_nil, List.replicate_zero, List.replicate_succ, Nat.sub_self, Nat.zero_add, List.getElem?_cons_zero, List.getElem?_cons_succ, List.set_cons_zero, List.set_cons_succ, if_true, if_false, Bool.false_eq_true, decide_true, decide_false, Bool.not_true, Bool.not_false, decide_eq_true_eq, eq_self, Int.cast_ofNat_Int, Int.natCast_zero, Int.natCast_one, Nat.reduceLeDiff, Nat.reduceSub, Nat.reduceAdd, Nat.reduceLT, reduceIte, reduceCtorEq, Int.reduceEq, Int.reduceLT, Int.reduceLE, Int.reduceNeg, Int.reduceAdd, Int.reduceSub, Int.reduceMul, Int.reduceNe, Int.reduceBNe, Int.reduceBEq, c_root_parts_1, c']
        · simp only [E1, E2, E3, E4, E5, E6, E7, E8, E9, List.map_cons, List.map_nil, List.cons_append, List.nil_append, List.append_nil, List.length_cons, List.length_nil, List.replicate_zero, List.replicate_succ, Nat.sub_self, Nat.zero_add, List.getElem?_cons_zero, List.getElem?_cons_succ, List.set_cons_zero, List.set_cons_succ, if_true, if_false, Bool.false_eq_true, decide_true, decide_false, Bool.not_true, Bool.not_false, decide_eq_true_eq, eq_self, Int.cast_ofNat_Int, Int.natCast_zero, Int.natCast_one, Nat.reduceLeDiff, Nat.reduceSub, Nat.reduceAdd, Nat.reduceLT, reduceIte, reduceCtorEq, Int.reduceEq, Int.reduceLT, Int.reduceLE, Int.reduceNeg, Int.reduceAdd, Int.reduceSub, Int.reduceMul, Int.reduceNe, Int.reduceBNe, Int.reduceBEq, b_root_parts_1, d2, mid_nat, o, q']
      · have q' : ¬ (((l + h) / 2 : Nat) : Int) * (((l + h) / 2 : Nat) : Int) ≤ (N : Int) := by rw [← Int.natCast_mul]; omega
        obtain ⟨l', h', x', e1, e2, e3, e4⟩ := ih l ((l + h) / 2) (some (.int (((l + h) / 2 : Nat) : Int))) (by omega) (by omega) h3 (by omega) (by omega)
        refine ⟨l', h', x', whE_turn (S1 := S) (ρ2 := [some (.int (N : Int)), some (.int (l : Int)), some (.int (((l + h) / 2 : Nat) : Int)), some (.int (((l + h) / 2 : Nat) : Int))]) (S2 := S) ?_ ?_ e1, e2, e3, e4⟩
        · simp only [E1, E2, E3, E4, E5, E6, E7, E8, E9, List.map_cons, List.map_nil, List.cons_append, List.nil_append, List.append_nil, List.length_cons, List.length_nil, List.replicate_zero, List.replicate_succ, Nat.sub_self, Nat.zero_add, List.getElem?_cons_zero, List.getElem?_cons_succ, List.set_cons_zero, List.set_cons_succ, if_true, if_false, Bool.false_eq_true, decide_true, decide_false, Bool.not_true, Bool.not_false, decide_eq_true_eq, eq_self, Int.cast_ofNat_Int, Int.natCast_zero, Int.natCast_one, Nat.reduceLeDiff, Nat.reduceSub, Nat.reduceAdd, Nat.reduceLT, reduceIte, reduceCtorEq, Int.reduceEq, Int.reduceLT, Int.reduceLE, Int.reduceNeg, Int.reduceAdd, Int.reduceSub, Int.reduceMul, Int.reduceNe, Int.reduceBNe, Int.reduceBEq, c_root_parts_1, c']
        · simp only [E1, E2, E3, E4, E5, E6, E7, E8, E9, List.map_cons, List.map_nil, List.cons_append, List.nil_append, List.append_nil, List.length_cons, List.length_nil, List.replicate_zero, List.replicate_succ, Nat.sub_self, Nat.zero_add, List.getElem?_cons_zero, List.getElem?_cons_succ, List.set_cons_zero, List.set_cons_succ, if_true, if_false, Bool.false_eq_true, decide_true, decide_false, Bool.not_true, Bool.not_false, decide_eq_true_eq, eq_self, Int.cast_ofNat_Int, Int.natCast_zero, Int.natCast_one, Nat.reduceLeDiff, Nat.reduceSub, Nat.reduceAdd, Nat.reduceLT, reduceIte, reduceCtorEq, Int.reduceEq, Int.reduceLT, Int.reduceLE, Int.reduceNeg, Int.reduceAdd, Int.reduceSub, Int.reduceMul, Int.reduceNe, Int.reduceBNe, Int.reduceBEq, b_root_parts_1, d2, mid_nat, o, q']
    · have c' : ¬ (l : Int) + 1 < (h : Int) := by omega
      have e : h = l + 1 := by omega
      subst e
      refine ⟨l, l + 1, x, whE_end ?_, h3, h4, by omega⟩
      simp only [E1, E2, E3, E4, E5, E6, E7, E8, E9, List.map_cons, List.map_nil, List.cons_append, List.nil_append, List.append_nil, List.length_cons, List.length_nil, List.replicate_zero, List.replicate_succ, Nat.sub_self, Nat.zero_add, List.getElem?_cons_zero, List.getElem?_cons_succ, List.set_cons_zero, List.set_cons_succ, if_true, if_false, Bool.false_eq_true, decide_true, decide_false, Bool.not_true, Bool.not_false, decide_eq_true_eq, eq_self, Int.cast_ofNat_Int, Int.natCast_zero, Int.natCast_one, Nat.reduceLeDiff, Nat.reduceSub, Nat.reduceAdd, Nat.reduceLT, reduceIte, reduceCtorEq, Int.reduceEq, Int.reduceLT, Int.reduceLE, Int.reduceNeg, Int.reduceAdd, Int.reduceSub, Int.reduceMul, Int.reduceNe, Int.reduceBNe, Int.reduceBEq, c_root_parts_1, c']
theorem root_parts_ok {N : Nat} (hN : N < 2 ^ 100) : ∃ f : Nat, f * f ≤ N ∧ N < (f + 1) * (f + 1) ∧ f ≤ 2 * N + 1 ∧ callK G (k + 1) i_root_parts [.int (N : Int)] S = some (.tup [.int (f : Int), .bl (decide (f * f = N))], S) := by
  obtain ⟨h', e1, e2, e3⟩ := rp1 (S := S) (cl := callK G k) (x := none) hN (N + 1) 1 (by omega) (by decide) (by omega)
  obtain ⟨l', h2, x', e4, e5, e6, e7⟩ := rp2 (S := S) (cl := callK G k) hN (h' + 1) 0 h' none (by omega) (by rcases Nat.eq_zero_or_pos h' with g | g; rw [g] at e2; omega; exact g) (by omega) e2 e3
  refine ⟨l', e5, e6, e7, ?_⟩
  have o := sq_ok hN e7
  have e8 : decide ((l' : Int) * (l' : Int) = (N : Int)) = decide (l' * l' = N) := by rw [decide_eq_decide, ← Int.natCast_mul]; omega
  rw [call_fn g_root_parts rfl]
  rw [show ((1 : Nat) : Int) = 1 from rfl] at e1
  rw [show ((0 : Nat) : Int) = 0 from rfl] at e4
  simp only [E1, E2, E3, E4, E5, E6, E7, E8, E9, List.map_cons, List.map_nil, List.cons_append, List.nil_append, List.append_nil, List.length_cons, List.length_nil, List.replicate_zero, List.replicate_succ, Nat.sub_self, Nat.zero_add, List.getElem?_cons_zero, List.getElem?_cons_succ, List.set_cons_zero, List.set_cons_succ, if_true, if_false, Bool.false_eq_true, decide_true, decide_false, Bool.not_true, Bool.not_false, decide_eq_true_eq, eq_self, Int.cast_ofNat_Int, Int.natCast_zero, Int.natCast_one, Nat.reduceLeDiff, Nat.reduceSub, Nat.reduceAdd, Nat.reduceLT, reduceIte, reduceCtorEq, Int.reduceEq, Int.reduceLT, Int.reduceLE, Int.reduceNeg, Int.reduceAdd, Int.reduceSub, Int.reduceMul, Int.reduceNe, Int.reduceBNe, Int.reduceBEq, f_root_parts, e1, e4, o, e8]
theorem fmod_two (p : Int) : Int.fmod p 2 = p % 2 := Int.fmod_eq_emod_of_nonneg _ (by decide)
theorem fdiv_two2 (p : Int) : Int.fdiv p 2 = p / 2 := Int.fdiv_eq_ediv_of_nonneg _ (by decide)
/-- roots by halves -/
def isqF : Nat → Nat → Nat → Nat → Nat
  | 0, _, lo, _ => lo
  | f + 1, n, lo, hi => if lo + 1 < hi then (if ((lo + hi) / 2) * ((lo + hi) / 2) ≤ n then isqF f n ((lo + hi) / 2) hi else isqF f n lo ((lo + hi) / 2)) else lo
theorem isqF_ok : ∀ (f n lo hi : Nat), lo < hi → hi - lo ≤ 2 ^ f → lo * lo ≤ n → n < hi * hi → isqF f n lo hi * isqF f n lo hi ≤ n ∧ n < (isqF f n lo hi + 1) * (isqF f n lo hi + 1)
  | 0, n, lo, hi, h0, h1, h2, h3 => by
    have e : hi = lo + 1 := by
      have : (2 : Nat) ^ 0 = 1 := rfl
      omega
    subst e
    exact ⟨h2, h3⟩
  | f + 1, n, lo, hi, h0, h1, h2, h3 => by
    unfold isqF
    rw [Nat.pow_succ] at h1
    by_cases c : lo + 1 < hi
    · rw [if_pos c]
      by_cases c2 : ((lo + hi) / 2) * ((lo + hi) / 2) ≤ n
      · rw [if_pos c2]
        exact isqF_ok f n _ hi (by omega) (by omega) c2 h3
      · rw [if_neg c2]
        exact isqF_ok f n lo _ (by omega) (by omega) h2 (by omega)
    · rw [if_neg c]
      have e : hi = lo + 1 := by omega
      subst e
      exact ⟨h2, h3⟩
def isq (n : Nat) : Nat := isqF 52 n 0 (2 ^ 51)
theorem isq_ok {n : Nat} (h : n < 2 ^ 100) : isq n * isq n ≤ n ∧ n < (isq n + 1) * (isq n + 1) := isqF_ok 52 n 0 (2 ^ 51) (by decide) (by decide) (by omega) (Nat.lt_trans h (by decide))
theorem sq_uniq {n a b : Nat} (h1 : a * a ≤ n) (h2 : n < (a + 1) * (a + 1)) (h3 : b * b ≤ n) (h4 : n < (b + 1) * (b + 1)) : a = b := by
  rcases Nat.lt_trichotomy a b with g | g | g
  · have := Nat.mul_le_mul (show a + 1 ≤ b by omega) (show a + 1 ≤ b by omega)
    omega
  · exact g
  · have := Nat.mul_le_mul (show b + 1 ≤ a by omega) (show b + 1 ≤ a by omega)
    omega
def rtW (w : Nat) (p : Int) : Nat := if p % 2 = 1 then 2 * w else w
def rtP (p : Int) : Int := if p % 2 = 1 then p - 1 else p
def rtN (d w : Nat) (p : Int) : Nat := rtW w p * 2 ^ (2 * (2 * d + 4))
def rtH (d w : Nat) (p : Int) : Int := 2 * ((isq (rtN d w p) : Nat) : Int) + b2i (!decide (isq (rtN d w p) * isq (rtN d w p) = rtN d w p))
def rtR (d w : Nat) (p : Int) : Rat := ((rtH d w p : Int) : Rat) * (2 : Rat) ^ (rtP p / 2 - (2 * (d : Int) + 4) - 1)
theorem rtR_sm (hd : d ≤ 12) (hw : w ≤ 20) (hp : p.natAbs ≤ 20) : rtN d w p < 2 ^ 100 ∧ Sm 200 ((rtH d w p : Int) : Rat) ∧ Sm 400 (rtR d w p) := by
  have h1 : 2 ^ (2 * (2 * d + 4)) ≤ 2 ^ 56 := Nat.pow_le_pow_right (by decide) (by omega)
  have h2 : rtW w p ≤ 40 := by unfold rtW; split <;> omega
  have h3 : rtN d w p < 2 ^ 100 := Nat.lt_of_le_of_lt (Nat.mul_le_mul h2 h1) (by decide)
  have h4 := (isq_ok h3).1
  have h5 : isq (rtN d w p) < 2 ^ 100 := by
    rcases Nat.eq_zero_or_pos (isq (rtN d w p)) with g | g
    · rw [g]; decide
    · exact Nat.lt_of_le_of_lt (Nat.le_trans (Nat.le_mul_of_pos_left _ g) h4) h3
  have h6 : Sm 200 ((rtH d w p : Int) : Rat) := by
    refine ⟨?_, by show 1 < 2 ^ 200; exact Nat.one_lt_two_pow (by decide)⟩
    show (rtH d w p).natAbs < 2 ^ 200
    have h7 : (b2i (!decide (isq (rtN d w p) * isq (rtN d w p) = rtN d w p))).natAbs ≤ 1 := by cases (!decide (isq (rtN d w p) * isq (rtN d w p) = rtN d w p)) <;> decide
    have h8 : (rtH d w p).natAbs < 2 ^ 102 := by
      unfold rtH
      omega
    exact Nat.lt_trans h8 (by decide)
  refine ⟨h3, h6, ?_⟩
  have h9 : (rtP p).natAbs ≤ 21 := by unfold rtP; split <;> omega
  exact (h6.mul (sm_two (m := 150) (by omega))).mono (by decide)
theorem root_row (h0 : Fm d0 m0 M0) (hf : Fm d m M) (hw : way ∈ ways) (hi : i < cnt d0 m0 M0) (hd0 : d0 ≤ 4) (hm0 : -10 ≤ m0) (hM0 : M0 ≤ 10) (c : rW d0 i ≠ 0) : callK G (k + 10) i_root [fmD d m M, .str way, rowD d0 m0 i] S = some (outQ d m M way (rtR d (rW d0 i) (rP d0 m0 i)) 0, S) := by
  obtain ⟨r1, r2, r3⟩ := row_in h0 hi
  have hww : 2 * fh d0 ≤ 16 := by
    rw [fh_two (by have := h0.d1; omega)]
    exact Nat.le_trans (Nat.pow_le_pow_right (by decide) hd0) (by decide)
  rw [row_n c]
  generalize hW0 : rW d0 i = w at *
  generalize hP0 : rP d0 m0 i = p at *
  have hd2 := hf.d2
  obtain ⟨hN, hH, hR⟩ := rtR_sm (d := d) (w := w) (p := p) hd2 (by omega) (by omega)
  obtain ⟨f, f1, f2, f3, f4⟩ := root_parts_ok (k := k + 8) (S := S) hN
  obtain ⟨q1, q2⟩ := isq_ok hN
  have hf' : f = isq (rtN d w p) := sq_uniq f1 f2 q1 q2
  subst hf'
  have hP : (rtP p).natAbs ≤ 21 := by unfold rtP; split <;> omega
  have hs := shifted_ok (k := k + 5) (S := S) (p := ((rtH d w p : Int) : Rat)) (b := rtP p / 2 - (2 * (d : Int) + 4) - 1) (hH.mono (by decide)) (by omega)
  have e2 := rounded_ok (k := k + 1) (S := S) (s := 0) hf hw (hR.mono (m := 1000) (by decide))
  have mk : D.tup [.int (2 * ((isq (rtN d w p) : Nat) : Int) + b2i (!decide (isq (rtN d w p) * isq (rtN d w p) = rtN d w p))), .int 1] = fr ((rtH d w p : Int) : Rat) := rfl
  have hs : callK G (k + 5 + 4) i_shifted [fr ((rtH d w p : Int) : Rat), .int (rtP p / 2 - (2 * (d : Int) + 4) - 1)] S = some (fr (rtR d w p), S) := hs
  have o1 : mulOk 2 (d : Int) := Bd.mulOk (n := 2) (m := 4) (show (2 : Nat) < 2 ^ 2 by decide) (show d < 2 ^ 4 by omega) (by decide)
  have o2 : mulOk 2 (2 * (d : Int) + 4) := Bd.mulOk (n := 2) (m := 6) (show (2 : Nat) < 2 ^ 2 by decide) (show (2 * (d : Int) + 4).natAbs < 2 ^ 6 by omega) (by decide)
  have o3 : mulOk 2 ((isq (rtN d w p) : Nat) : Int) := by
    have hb : isq (rtN d w p) < 2 ^ 102 := by omega
    exact Bd.mulOk (n := 2) (m := 102) (show (2 : Nat) < 2 ^ 2 by decide) hb (by decide)
  have o4 : mulOk 2 (w : Int) := Bd.mulOk (n := 2) (m := 6) (show (2 : Nat) < 2 ^ 2 by decide) (show w < 2 ^ 6 by omega) (by decide)
  have hW : rtW w p ≤ 40 := by unfold rtW; split <;> omega
  have sh : shlOk (rtW w p : Int) (2 * (2 * (d : Int) + 4)) := shl_bd (show rtW w p < 2 ^ 200 from Nat.lt_of_le_of_lt hW (by decide)) (by omega) (by omega)
  have pw : (rtW w p : Int) * 2 ^ (2 * (2 * (d : Int) + 4)).toNat = ((rtN d w p : Nat) : Int) := by
    unfold rtN
    rw [show (2 * (2 * (d : Int) + 4)).toNat = 2 * (2 * d + 4) by omega, Int.natCast_mul, Int.natCast_pow]
    rfl
  have z2 : (2 : Int) ≠ 0 := by decide
  have asgN : ∀ {ts : MGs} {ρ : Env}, asgG (.tup ts) (numD 0 w p) ρ = asgGs ts [.str "number", .int 0, .int (w : Int), .int p] ρ := rfl
  rw [call_fn g_root rfl]
  by_cases c1 : p % 2 = 1
  · have c1' : Int.fmod p 2 = 1 := by rw [fmod_two]; exact c1
    have c4 : 2 * (w : Int) = (rtW w p : Int) := by unfold rtW; rw [if_pos c1]; omega
    have c3 : p - 1 = rtP p := by unfold rtP; rw [if_pos c1]
    simp only [E1, E2, E3, E4, E5, E6, E7, E8, E9, List.map_cons, List.map_nil, List.cons_append, List.nil_append, List.append_nil, List.length_cons, List.length_nil, List.replicate_zero, List.replicate_succ, Nat.sub_self, Nat.zero_add, List.getElem?_cons_zero, List.getElem?_cons_succ, List.set_cons_zero, List.set_cons_succ, if_true, if_false, Bool.false_eq_true, decide_true, decide_false, Bool.not_true, Bool.not_false, decide_eq_true_eq, eq_self, Int.cast_ofNat_Int, Int.natCast_zero, Int.natCast_one, Nat.reduceLeDiff, Nat.reduceSub, Nat.reduceAdd, Nat.reduceLT, reduceIte, reduceCtorEq, Int.reduceEq, Int.reduceLT, Int.reduceLE, Int.reduceNeg, Int.reduceAdd, Int.reduceSub, Int.reduceMul, Int.reduceNe, Int.reduceBNe, Int.reduceBEq, f_root, s_root_0_0, s_root_0_1, s_root_0_2, s_root_0_3, s_root_0_4, s_root_0_5, s_root_0_6, s_root_0_7, c_NONE, mk_none, eqO_n, idx_n0, idx_n1, YN, eqE_n, asgN, c1', o1, o2, o3, o4, c4, c3, idx_fm0, sh, pw, f4, mk, d2, fdiv_two2, hs, e2, ne_eq, not_false_eq_true]
  · have c1' : ¬ Int.fmod p 2 = 1 := by rw [fmod_two]; exact c1
    have c4 : (w : Int) = (rtW w p : Int) := by unfold rtW; rw [if_neg c1]
    have c3 : p = rtP p := by unfold rtP; rw [if_neg c1]
    have fd : Int.fdiv p 2 = rtP p / 2 := by rw [fdiv_two2, ← c3]
    rw [← c4] at sh pw
    simp only [E1, E2, E3, E4, E5, E6, E7, E8, E9, List.map_cons, List.map_nil, List.cons_append, List.nil_append, List.append_nil, List.length_cons, List.length_nil, List.replicate_zero, List.replicate_succ, Nat.sub_self, Nat.zero_add, List.getElem?_cons_zero, List.getElem?_cons_succ, List.set_cons_zero, List.set_cons_succ, if_true, if_false, Bool.false_eq_true, decide_true, decide_false, Bool.not_true, Bool.not_false, decide_eq_true_eq, eq_self, Int.cast_ofNat_Int, Int.natCast_zero, Int.natCast_one, Nat.reduceLeDiff, Nat.reduceSub, Nat.reduceAdd, Nat.reduceLT, reduceIte, reduceCtorEq, Int.reduceEq, Int.reduceLT, Int.reduceLE, Int.reduceNeg, Int.reduceAdd, Int.reduceSub, Int.reduceMul, Int.reduceNe, Int.reduceBNe, Int.reduceBEq, f_root, s_root_0_0, s_root_0_1, s_root_0_2, s_root_0_3, s_root_0_4, s_root_0_5, s_root_0_6, s_root_0_7, c_NONE, mk_none, eqO_n, idx_n0, idx_n1, YN, eqE_n, asgN, c1', o1, o2, o3, idx_fm0, sh, pw, f4, mk, d2, fd, hs, e2, ne_eq, not_false_eq_true]
theorem root_z (hi : rW d0 i = 0) : callK G (k + 10) i_root [fmD d m M, .str way, rowD d0 m0 i] S = some (.tup [nothD 0, .tup []], S) := by
  rw [call_fn g_root rfl, row_z hi]
  simp only [E1, E2, E3, E4, E5, E6, E7, E8, E9, List.map_cons, List.map_nil, List.cons_append, List.nil_append, List.append_nil, List.length_cons, List.length_nil, List.replicate_zero, List.replicate_succ, Nat.sub_self, Nat.zero_add, List.getElem?_cons_zero, List.getElem?_cons_succ, List.set_cons_zero, List.set_cons_succ, if_true, if_false, Bool.false_eq_true, decide_true, decide_false, Bool.not_true, Bool.not_false, decide_eq_true_eq, eq_self, Int.cast_ofNat_Int, Int.natCast_zero, Int.natCast_one, Nat.reduceLeDiff, Nat.reduceSub, Nat.reduceAdd, Nat.reduceLT, reduceIte, reduceCtorEq, Int.reduceEq, Int.reduceLT, Int.reduceLE, Int.reduceNeg, Int.reduceAdd, Int.reduceSub, Int.reduceMul, Int.reduceNe, Int.reduceBNe, Int.reduceBEq, f_root, s_root_0_0, c_NONE, mk_none, eqO_z, idx_z0, YN]
end
end Rw.Pk22

set_option exponentiation.threshold 300
namespace Rw.Pk22
open PySem L2 Rw
section
variable {k : Nat} {S T : Sto} {d d' j i : Nat} {m M m' M' : Int} {way : Str} {s t p : Int} {v w : Nat} {q o A P : Rat} {L : List D} {K : Int} {d0 : Nat} {m0 M0 : Int} {z z' : D} {kn : Nat}
theorem q_plus_product : (("plus" : Str) = ("product" : Str)) = False := eq_false (by decide +kernel)
theorem q_plus_over : (("plus" : Str) = ("over" : Str)) = False := eq_false (by decide +kernel)
theorem q_plus_root : (("plus" : Str) = ("root" : Str)) = False := eq_false (by decide +kernel)
theorem q_product_plus : (("product" : Str) = ("plus" : Str)) = False := eq_false (by decide +kernel)
theorem q_product_over : (("product" : Str) = ("over" : Str)) = False := eq_false (by decide +kernel)
theorem q_product_root : (("product" : Str) = ("root" : Str)) = False := eq_false (by decide +kernel)
theorem q_over_plus : (("over" : Str) = ("plus" : Str)) = False := eq_false (by decide +kernel)
theorem q_over_product : (("over" : Str) = ("product" : Str)) = False := eq_false (by decide +kernel)
theorem q_over_root : (("over" : Str) = ("root" : Str)) = False := eq_false (by decide +kernel)
theorem q_root_plus : (("root" : Str) = ("plus" : Str)) = False := eq_false (by decide +kernel)
theorem q_root_product : (("root" : Str) = ("product" : Str)) = False := eq_false (by decide +kernel)
theorem q_root_over : (("root" : Str) = ("over" : Str)) = False := eq_false (by decide +kernel)
def kS : Nat → Str
  | 0 => "plus"
  | 1 => "product"
  | 2 => "over"
  | _ => "root"
def dnN (kn : Nat) (d : Nat) (m M : Int) (way : Str) (d0 : Nat) (m0 : Int) (i j : Nat) : D := match kn with
  | 0 => outN d m M way (vl d0 m0 i + vl d0 m0 j) 0
  | 1 => outN d m M way (vl d0 m0 i * vl d0 m0 j) 0
  | 2 => if rW d0 j = 0 then (if rW d0 i = 0 then noneD else endD 0) else outN d m M way (vl d0 m0 i / vl d0 m0 j) 0
  | _ => if rW d0 i = 0 then nothD 0 else outN d m M way (rtR d (rW d0 i) (rP d0 m0 i)) 0
theorem idx_out0 : idxD S (outQ d m M way q s) (.int 0) = some (outN d m M way q s) := at_0
theorem idx_wrong : idxD S wrongD (.int 0) = some noneD := at_0
structure Fs (d0 : Nat) (m0 M0 : Int) : Prop where
  f : Fm d0 m0 M0
  d4 : d0 ≤ 4
  m4 : -10 ≤ m0
  M4 : M0 ≤ 10
theorem done_in_ok (h0 : Fs d0 m0 M0) (hf : Fm d m M) (hw : way ∈ ways) (hi : i < cnt d0 m0 M0) (hj : j < cnt d0 m0 M0) (hk : kn < 4) : callK G (k + 11) i_done_in [fmD d m M, .str (kS kn), .str way, rowD d0 m0 i, rowD d0 m0 j] S = some (dnN kn d m M way d0 m0 i j, S) := by
  rw [call_fn g_done_in rfl]
  rcases (show kn = 0 ∨ kn = 1 ∨ kn = 2 ∨ kn = 3 by omega) with rfl | rfl | rfl | rfl
  · have e := plus_row (k := k) (S := S) h0.f hf hw hi hj
    unfold dnN kS
    simp only [E1, E2, E3, E4, E5, E6, E7, E8, E9, List.map_cons, List.map_nil, List.cons_append, List.nil_append, List.append_nil, List.length_cons, List.length_nil, List.replicate_zero, List.replicate_succ, Nat.sub_self, Nat.zero_add, List.getElem?_cons_zero, List.getElem?_cons_succ, List.set_cons_zero, List.set_cons_succ, if_true, if_false, Bool.false_eq_true, decide_true, decide_false, Bool.not_true, Bool.not_false, decide_eq_true_eq, eq_self, Int.cast_ofNat_Int, Int.natCast_zero, Int.natCast_one, Nat.reduceLeDiff, Nat.reduceSub, Nat.reduceAdd, Nat.reduceLT, reduceIte, reduceCtorEq, Int.reduceEq, Int.reduceLT, Int.reduceLE, Int.reduceNeg, Int.reduceAdd, Int.reduceSub, Int.reduceMul, Int.reduceNe, Int.reduceBNe, Int.reduceBEq, f_done_in, e, idx_out0]
  · have e := prod_row (k := k) (S := S) h0.f hf hw hi hj
    unfold dnN kS
    simp only [E1, E2, E3, E4, E5, E6, E7, E8, E9, List.map_cons, List.map_nil, List.cons_append, List.nil_append, List.append_nil, List.length_cons, List.length_nil, List.replicate_zero, List.replicate_succ, Nat.sub_self, Nat.zero_add, List.getElem?_cons_zero, List.getElem?_cons_succ, List.set_cons_zero, List.set_cons_succ, if_true, if_false, Bool.false_eq_true, decide_true, decide_false, Bool.not_true, Bool.not_false, decide_eq_true_eq, eq_self, Int.cast_ofNat_Int, Int.natCast_zero, Int.natCast_one, Nat.reduceLeDiff, Nat.reduceSub, Nat.reduceAdd, Nat.reduceLT, reduceIte, reduceCtorEq, Int.reduceEq, Int.reduceLT, Int.reduceLE, Int.reduceNeg, Int.reduceAdd, Int.reduceSub, Int.reduceMul, Int.reduceNe, Int.reduceBNe, Int.reduceBEq, f_done_in, q_plus_product, q_plus_over, q_plus_root, q_product_plus, q_product_over, q_product_root, q_over_plus, q_over_product, q_over_root, q_root_plus, q_root_product, q_root_over, e, idx_out0]
  · unfold dnN kS
    by_cases c : rW d0 j = 0
    · by_cases c2 : rW d0 i = 0
      · have e := ovr_z0 (k := k) (S := S) (d := d) (m := m) (M := M) (way := way) (m0 := m0) c2 c
        simp only [E1, E2, E3, E4, E5, E6, E7, E8, E9, List.map_cons, List.map_nil, List.cons_append, List.nil_append, List.append_nil, List.length_cons, List.length_nil, List.replicate_zero, List.replicate_succ, Nat.sub_self, Nat.zero_add, List.getElem?_cons_zero, List.getElem?_cons_succ, List.set_cons_zero, List.set_cons_succ, if_true, if_false, Bool.false_eq_true, decide_true, decide_false, Bool.not_true, Bool.not_false, decide_eq_true_eq, eq_self, Int.cast_ofNat_Int, Int.natCast_zero, Int.natCast_one, Nat.reduceLeDiff, Nat.reduceSub, Nat.reduceAdd, Nat.reduceLT, reduceIte, reduceCtorEq, Int.reduceEq, Int.reduceLT, Int.reduceLE, Int.reduceNeg, Int.reduceAdd, Int.reduceSub, Int.reduceMul, Int.reduceNe, Int.reduceBNe, Int.reduceBEq, f_done_in, q_plus_product, q_plus_over, q_plus_root, q_product_plus, q_product_over, q_product_root, q_over_plus, q_over_product, q_over_root, q_root_plus, q_root_product, q_root_over, e, idx_wrong, c, c2]
      · have e := ovr_n0 (k := k) (S := S) (d := d) (m := m) (M := M) (way := way) (m0 := m0) c2 c
        simp only [E1, E2, E3, E4, E5, E6, E7, E8, E9, List.map_cons, List.map_nil, List.cons_append, List.nil_append, List.append_nil, List.length_cons, List.length_nil, List.replicate_zero, List.replicate_succ, Nat.sub_self, Nat.zero_add, List.getElem?_cons_zero, List.getElem?_cons_succ, List.set_cons_zero, List.set_cons_succ, if_true, if_false, Bool.false_eq_true, decide_true, decide_false, Bool.not_true, Bool.not_false, decide_eq_true_eq, eq_self, Int.cast_ofNat_Int, Int.natCast_zero, Int.natCast_one, Nat.reduceLeDiff, Nat.reduceSub, Nat.reduceAdd, Nat.reduceLT, reduceIte, reduceCtorEq, Int.reduceEq, Int.reduceLT, Int.reduceLE, Int.reduceNeg, Int.reduceAdd, Int.reduceSub, Int.reduceMul, Int.reduceNe, Int.reduceBNe, Int.reduceBEq, f_done_in, q_plus_product, q_plus_over, q_plus_root, q_product_plus, q_product_over, q_product_root, q_over_plus, q_over_product, q_over_root, q_root_plus, q_root_product, q_root_over, e, c, c2]
    · have e := ovr_row (k := k) (S := S) h0.f hf hw hi hj (vl_n c)
      simp only [E1, E2, E3, E4, E5, E6, E7, E8, E9, List.map_cons, List.map_nil, List.cons_append, List.nil_append, List.append_nil, List.length_cons, List.length_nil, List.replicate_zero, List.replicate_succ, Nat.sub_self, Nat.zero_add, List.getElem?_cons_zero, List.getElem?_cons_succ, List.set_cons_zero, List.set_cons_succ, if_true, if_false, Bool.false_eq_true, decide_true, decide_false, Bool.not_true, Bool.not_false, decide_eq_true_eq, eq_self, Int.cast_ofNat_Int, Int.natCast_zero, Int.natCast_one, Nat.reduceLeDiff, Nat.reduceSub, Nat.reduceAdd, Nat.reduceLT, reduceIte, reduceCtorEq, Int.reduceEq, Int.reduceLT, Int.reduceLE, Int.reduceNeg, Int.reduceAdd, Int.reduceSub, Int.reduceMul, Int.reduceNe, Int.reduceBNe, Int.reduceBEq, f_done_in, q_plus_product, q_plus_over, q_plus_root, q_product_plus, q_product_over, q_product_root, q_over_plus, q_over_product, q_over_root, q_root_plus, q_root_product, q_root_over, e, idx_out0, c]
  · unfold dnN kS
    by_cases c2 : rW d0 i = 0
    · have e := root_z (k := k) (S := S) (d := d) (m := m) (M := M) (way := way) (m0 := m0) c2
      simp only [E1, E2, E3, E4, E5, E6, E7, E8, E9, List.map_cons, List.map_nil, List.cons_append, List.nil_append, List.append_nil, List.length_cons, List.length_nil, List.replicate_zero, List.replicate_succ, Nat.sub_self, Nat.zero_add, List.getElem?_cons_zero, List.getElem?_cons_succ, List.set_cons_zero, List.set_cons_succ, if_true, if_false, Bool.false_eq_true, decide_true, decide_false, Bool.not_true, Bool.not_false, decide_eq_true_eq, eq_self, Int.cast_ofNat_Int, Int.natCast_zero, Int.natCast_one, Nat.reduceLeDiff, Nat.reduceSub, Nat.reduceAdd, Nat.reduceLT, reduceIte, reduceCtorEq, Int.reduceEq, Int.reduceLT, Int.reduceLE, Int.reduceNeg, Int.reduceAdd, Int.reduceSub, Int.reduceMul, Int.reduceNe, Int.reduceBNe, Int.reduceBEq, f_done_in, q_plus_product, q_plus_over, q_plus_root, q_product_plus, q_product_over, q_product_root, q_over_plus, q_over_product, q_over_root, q_root_plus, q_root_product, q_root_over, e, c2]
    · have e := root_row (k := k) (S := S) h0.f hf hw hi h0.d4 h0.m4 h0.M4 c2
      simp only [E1, E2, E3, E4, E5, E6, E7, E8, E9, List.map_cons, List.map_nil, List.cons_append, List.nil_append, List.append_nil, List.length_cons, List.length_nil, List.replicate_zero, List.replicate_succ, Nat.sub_self, Nat.zero_add, List.getElem?_cons_zero, List.getElem?_cons_succ, List.set_cons_zero, List.set_cons_succ, if_true, if_false, Bool.false_eq_true, decide_true, decide_false, Bool.not_true, Bool.not_false, decide_eq_true_eq, eq_self, Int.cast_ofNat_Int, Int.natCast_zero, Int.natCast_one, Nat.reduceLeDiff, Nat.reduceSub, Nat.reduceAdd, Nat.reduceLT, reduceIte, reduceCtorEq, Int.reduceEq, Int.reduceLT, Int.reduceLE, Int.reduceNeg, Int.reduceAdd, Int.reduceSub, Int.reduceMul, Int.reduceNe, Int.reduceBNe, Int.reduceBEq, f_done_in, q_plus_product, q_plus_over, q_plus_root, q_product_plus, q_product_over, q_product_root, q_over_plus, q_over_product, q_over_root, q_root_plus, q_root_product, q_root_over, e, idx_out0, c2]
theorem law_done_ok (h0 : Fs d0 m0 M0) (hf : Fm d m M) (hw : way ∈ ways) (hi : i < cnt d0 m0 M0) (hj : j < cnt d0 m0 M0) (hk : kn < 4) : callK G (k + 11) i__law_done [fmD d m M, .str (kS kn), .str way, rowD d0 m0 i, rowD d0 m0 j] S = some (dnN kn d m M way d0 m0 i j, S) := by
  rw [call_fn g__law_done rfl]
  rcases (show kn = 0 ∨ kn = 1 ∨ kn = 2 ∨ kn = 3 by omega) with rfl | rfl | rfl | rfl
  · have e := plus_row (k := k) (S := S) h0.f hf hw hi hj
    unfold dnN kS
    simp only [E1, E2, E3, E4, E5, E6, E7, E8, E9, List.map_cons, List.map_nil, List.cons_append, List.nil_append, List.append_nil, List.length_cons, List.length_nil, List.replicate_zero, List.replicate_succ, Nat.sub_self, Nat.zero_add, List.getElem?_cons_zero, List.getElem?_cons_succ, List.set_cons_zero, List.set_cons_succ, if_true, if_false, Bool.false_eq_true, decide_true, decide_false, Bool.not_true, Bool.not_false, decide_eq_true_eq, eq_self, Int.cast_ofNat_Int, Int.natCast_zero, Int.natCast_one, Nat.reduceLeDiff, Nat.reduceSub, Nat.reduceAdd, Nat.reduceLT, reduceIte, reduceCtorEq, Int.reduceEq, Int.reduceLT, Int.reduceLE, Int.reduceNeg, Int.reduceAdd, Int.reduceSub, Int.reduceMul, Int.reduceNe, Int.reduceBNe, Int.reduceBEq, f__law_done, q_plus_product, q_plus_over, q_plus_root, q_product_plus, q_product_over, q_product_root, q_over_plus, q_over_product, q_over_root, q_root_plus, q_root_product, q_root_over, e, idx_out0]
  · have e := prod_row (k := k) (S := S) h0.f hf hw hi hj
    unfold dnN kS
    simp only [E1, E2, E3, E4, E5, E6, E7, E8, E9, List.map_cons, List.map_nil, List.cons_append, List.nil_append, List.append_nil, List.length_cons, List.length_nil, List.replicate_zero, List.replicate_succ, Nat.sub_self, Nat.zero_add, List.getElem?_cons_zero, List.getElem?_cons_succ, List.set_cons_zero, List.set_cons_succ, if_true, if_false, Bool.false_eq_true, decide_true, decide_false, Bool.not_true, Bool.not_false, decide_eq_true_eq, eq_self, Int.cast_ofNat_Int, Int.natCast_zero, Int.natCast_one, Nat.reduceLeDiff, Nat.reduceSub, Nat.reduceAdd, Nat.reduceLT, reduceIte, reduceCtorEq, Int.reduceEq, Int.reduceLT, Int.reduceLE, Int.reduceNeg, Int.reduceAdd, Int.reduceSub, Int.reduceMul, Int.reduceNe, Int.reduceBNe, Int.reduceBEq, f__law_done, q_plus_product, q_plus_over, q_plus_root, q_product_plus, q_product_over, q_product_root, q_over_plus, q_over_product, q_over_root, q_root_plus, q_root_product, q_root_over, e, idx_out0]
  · unfold dnN kS
    by_cases c : rW d0 j = 0
    · by_cases c2 : rW d0 i = 0
      · have e := ovr_z0 (k := k) (S := S) (d := d) (m := m) (M := M) (way := way) (m0 := m0) c2 c
        simp only [E1, E2, E3, E4, E5, E6, E7, E8, E9, List.map_cons, List.map_nil, List.cons_append, List.nil_append, List.append_nil, List.length_cons, List.length_nil, List.replicate_zero, List.replicate_succ, Nat.sub_self, Nat.zero_add, List.getElem?_cons_zero, List.getElem?_cons_succ, List.set_cons_zero, List.set_cons_succ, if_true, if_false, Bool.false_eq_true, decide_true, decide_false, Bool.not_true, Bool.not_false, decide_eq_true_eq, eq_self, Int.cast_ofNat_Int, Int.natCast_zero, Int.natCast_one, Nat.reduceLeDiff, Nat.reduceSub, Nat.reduceAdd, Nat.reduceLT, reduceIte, reduceCtorEq, Int.reduceEq, Int.reduceLT, Int.reduceLE, Int.reduceNeg, Int.reduceAdd, Int.reduceSub, Int.reduceMul, Int.reduceNe, Int.reduceBNe, Int.reduceBEq, f__law_done, q_plus_product, q_plus_over, q_plus_root, q_product_plus, q_product_over, q_product_root, q_over_plus, q_over_product, q_over_root, q_root_plus, q_root_product, q_root_over, e, idx_wrong, c, c2]
      · have e := ovr_n0 (k := k) (S := S) (d := d) (m := m) (M := M) (way := way) (m0 := m0) c2 c
        simp only [E1, E2, E3, E4, E5, E6, E7, E8, E9, List.map_cons, List.map_nil, List.cons_append, List.nil_append, List.append_nil, List.length_cons, List.length_nil, List.replicate_zero, List.replicate_succ, Nat.sub_self, Nat.zero_add, List.getElem?_cons_zero, List.getElem?_cons_succ, List.set_cons_zero, List.set_cons_succ, if_true, if_false, Bool.false_eq_true, decide_true, decide_false, Bool.not_true, Bool.not_false, decide_eq_true_eq, eq_self, Int.cast_ofNat_Int, Int.natCast_zero, Int.natCast_one, Nat.reduceLeDiff, Nat.reduceSub, Nat.reduceAdd, Nat.reduceLT, reduceIte, reduceCtorEq, Int.reduceEq, Int.reduceLT, Int.reduceLE, Int.reduceNeg, Int.reduceAdd, Int.reduceSub, Int.reduceMul, Int.reduceNe, Int.reduceBNe, Int.reduceBEq, f__law_done, q_plus_product, q_plus_over, q_plus_root, q_product_plus, q_product_over, q_product_root, q_over_plus, q_over_product, q_over_root, q_root_plus, q_root_product, q_root_over, e, c, c2]
    · have e := ovr_row (k := k) (S := S) h0.f hf hw hi hj (vl_n c)
      simp only [E1, E2, E3, E4, E5, E6, E7, E8, E9, List.map_cons, List.map_nil, List.cons_append, List.nil_append, List.append_nil, List.length_cons, List.length_nil, List.replicate_zero, List.replicate_succ, Nat.sub_self, Nat.zero_add, List.getElem?_cons_zero, List.getElem?_cons_succ, List.set_cons_zero, List.set_cons_succ, if_true, if_false, Bool.false_eq_true, decide_true, decide_false, Bool.not_true, Bool.not_false, decide_eq_true_eq, eq_self, Int.cast_ofNat_Int, Int.natCast_zero, Int.natCast_one, Nat.reduceLeDiff, Nat.reduceSub, Nat.reduceAdd, Nat.reduceLT, reduceIte, reduceCtorEq, Int.reduceEq, Int.reduceLT, Int.reduceLE, Int.reduceNeg, Int.reduceAdd, Int.reduceSub, Int.reduceMul, Int.reduceNe, Int.reduceBNe, Int.reduceBEq, f__law_done, q_plus_product, q_plus_over, q_plus_root, q_product_plus, q_product_over, q_product_root, q_over_plus, q_over_product, q_over_root, q_root_plus, q_root_product, q_root_over, e, idx_out0, c]
  · unfold dnN kS
    by_cases c2 : rW d0 i = 0
    · have e := root_z (k := k) (S := S) (d := d) (m := m) (M := M) (way := way) (m0 := m0) c2
      simp only [E1, E2, E3, E4, E5, E6, E7, E8, E9, List.map_cons, List.map_nil, List.cons_append, List.nil_append, List.append_nil, List.length_cons, List.length_nil, List.replicate_zero, List.replicate_succ, Nat.sub_self, Nat.zero_add, List.getElem?_cons_zero, List.getElem?_cons_succ, List.set_cons_zero, List.set_cons_succ, if_true, if_false, Bool.false_eq_true, decide_true, decide_false, Bool.not_true, Bool.not_false, decide_eq_true_eq, eq_self, Int.cast_ofNat_Int, Int.natCast_zero, Int.natCast_one, Nat.reduceLeDiff, Nat.reduceSub, Nat.reduceAdd, Nat.reduceLT, reduceIte, reduceCtorEq, Int.reduceEq, Int.reduceLT, Int.reduceLE, Int.reduceNeg, Int.reduceAdd, Int.reduceSub, Int.reduceMul, Int.reduceNe, Int.reduceBNe, Int.reduceBEq, f__law_done, q_plus_product, q_plus_over, q_plus_root, q_product_plus, q_product_over, q_product_root, q_over_plus, q_over_product, q_over_root, q_root_plus, q_root_product, q_root_over, e, c2]
    · have e := root_row (k := k) (S := S) h0.f hf hw hi h0.d4 h0.m4 h0.M4 c2
      simp only [E1, E2, E3, E4, E5, E6, E7, E8, E9, List.map_cons, List.map_nil, List.cons_append, List.nil_append, List.append_nil, List.length_cons, List.length_nil, List.replicate_zero, List.replicate_succ, Nat.sub_self, Nat.zero_add, List.getElem?_cons_zero, List.getElem?_cons_succ, List.set_cons_zero, List.set_cons_succ, if_true, if_false, Bool.false_eq_true, decide_true, decide_false, Bool.not_true, Bool.not_false, decide_eq_true_eq, eq_self, Int.cast_ofNat_Int, Int.natCast_zero, Int.natCast_one, Nat.reduceLeDiff, Nat.reduceSub, Nat.reduceAdd, Nat.reduceLT, reduceIte, reduceCtorEq, Int.reduceEq, Int.reduceLT, Int.reduceLE, Int.reduceNeg, Int.reduceAdd, Int.reduceSub, Int.reduceMul, Int.reduceNe, Int.reduceBNe, Int.reduceBEq, f__law_done, q_plus_product, q_plus_over, q_plus_root, q_product_plus, q_product_over, q_product_root, q_over_plus, q_over_product, q_over_root, q_root_plus, q_root_product, q_root_over, e, idx_out0, c2]
/-- shapes of numbers -/
def Nn (z : D) : Prop := (∃ (s : Int) (w : Nat) (p : Int), z = numD s w p ∧ Sg s ∧ w < 2 ^ 100 ∧ p.natAbs ≤ 400) ∨ (∃ s : Int, z = nothD s ∧ Sg s) ∨ (∃ s : Int, z = endD s) ∨ z = noneD
theorem outN_nn (h : Fm d m M) (hs : Sg s) : Nn (outN d m M way q s) := by
  have h4 := fh_le h
  have hd : 1 ≤ d := by have := h.d1; omega
  rw [fh_two hd] at h4
  have how : Sg (ownQ q) := sg_b
  have hm := h.m1
  have hM := h.M1
  unfold outN
  by_cases c : q.num = 0
  · rw [if_pos c]
    exact .inr (.inl ⟨s, rfl, hs⟩)
  · rw [if_neg c]
    by_cases c2 : P2 d m way q > M
    · rw [if_pos c2]
      unfold beyD
      split
      · exact .inr (.inr (.inl ⟨_, rfl⟩))
      · exact .inl ⟨_, _, _, rfl, how, Nat.lt_of_le_of_lt (show 2 ^ d - 1 ≤ 4096 by omega) (by decide), by omega⟩
    · rw [if_neg c2]
      unfold mkN
      split
      · exact .inr (.inl ⟨_, rfl, how⟩)
      · have hge := pw_ge (d := d) (m := m) (q := q)
        have hP : m ≤ P2 d m way q := by unfold P2; split <;> omega
        have hW : W2 d m way q ≤ 2 ^ d := by
          have := W1_le (way := way) h c
          unfold W2
          split
          · exact Nat.le_trans (Nat.div_le_self _ _) this
          · exact this
        exact .inl ⟨_, _, _, rfl, how, Nat.lt_of_le_of_lt (Nat.le_trans hW h4) (by decide), by omega⟩
theorem dn_nn (h : Fm d m M) : Nn (dnN kn d m M way d0 m0 i j) := by
  unfold dnN
  split
  · exact outN_nn h (.inl rfl)
  · exact outN_nn h (.inl rfl)
  · split
    · split
      · exact .inr (.inr (.inr rfl))
      · exact .inr (.inr (.inl ⟨_, rfl⟩))
    · exact outN_nn h (.inl rfl)
  · split
    · exact .inr (.inl ⟨_, rfl, .inl rfl⟩)
    · exact outN_nn h (.inl rfl)
def cvN (d : Nat) (m M : Int) (way : Str) (z : D) : D := match z with
  | .tup [.str _, .int s, .int w, .int p] => outN d m M way (sgQ s ((w.toNat : Rat) * (2 : Rat) ^ p)) s
  | z => z
def cvQ (d : Nat) (m M : Int) (way : Str) (z : D) : D := match z with
  | .tup [.str _, .int s, .int w, .int p] => outQ d m M way (sgQ s ((w.toNat : Rat) * (2 : Rat) ^ p)) s
  | z => .tup [z, .tup []]
theorem cvN_n : cvN d m M way (numD s v p) = outN d m M way (sgQ s ((v : Rat) * (2 : Rat) ^ p)) s := rfl
theorem cvQ_n : cvQ d m M way (numD s v p) = outQ d m M way (sgQ s ((v : Rat) * (2 : Rat) ^ p)) s := rfl
theorem cvN_z : cvN d m M way (nothD s) = nothD s := rfl
theorem cvQ_z : cvQ d m M way (nothD s) = .tup [nothD s, .tup []] := rfl
theorem cvN_e : cvN d m M way (endD s) = endD s := rfl
theorem cvQ_e : cvQ d m M way (endD s) = .tup [endD s, .tup []] := rfl
theorem cvN_o : cvN d m M way noneD = noneD := rfl
theorem cvQ_o : cvQ d m M way noneD = .tup [noneD, .tup []] := rfl
theorem idx_cv (hz : Nn z) : idxD S (cvQ d m M way z) (.int 0) = some (cvN d m M way z) := by
  rcases hz with ⟨s, w, p, rfl, _⟩ | ⟨s, rfl, _⟩ | ⟨s, rfl⟩ | rfl
  · exact idx_out0
  · exact at_0
  · exact at_0
  · exact at_0
theorem nm_sm (hw : w < 2 ^ 100) (hp : p.natAbs ≤ 400) : Sm 1000 (sgQ s ((w : Rat) * (2 : Rat) ^ p)) := by
  have s1 : Sm 100 ((w : Nat) : Rat) := ⟨hw, by show 1 < 2 ^ 100; decide⟩
  have s2 := sm_two (b := p) (m := 400) hp
  have s3 : Sm 1000 ((w : Rat) * (2 : Rat) ^ p) := (s1.mul s2).mono (by decide)
  unfold sgQ
  split
  · exact s3.neg
  · exact s3
theorem converted_ok (h : Fm d m M) (hw : way ∈ ways) (hz : Nn z) : callK G (k + 9) i_converted [fmD d m M, .str way, z] S = some (cvQ d m M way z, S) := by
  rw [call_fn g_converted rfl]
  rcases hz with ⟨s, w, p, rfl, h1, h2, h3⟩ | ⟨s, rfl, _⟩ | ⟨s, rfl⟩ | rfl
  · have e1 := val_num (k := k + 3) (S := S) (s := s) (w := w) (p := p) h2 (by omega)
    have e2 := rounded_ok (k := k) (S := S) (s := s) h hw (nm_sm (s := s) h2 h3)
    rw [cvQ_n]
    simp only [E1, E2, E3, E4, E5, E6, E7, E8, E9, List.map_cons, List.map_nil, List.cons_append, List.nil_append, List.append_nil, List.length_cons, List.length_nil, List.replicate_zero, List.replicate_succ, Nat.sub_self, Nat.zero_add, List.getElem?_cons_zero, List.getElem?_cons_succ, List.set_cons_zero, List.set_cons_succ, if_true, if_false, Bool.false_eq_true, decide_true, decide_false, Bool.not_true, Bool.not_false, decide_eq_true_eq, eq_self, Int.cast_ofNat_Int, Int.natCast_zero, Int.natCast_one, Nat.reduceLeDiff, Nat.reduceSub, Nat.reduceAdd, Nat.reduceLT, reduceIte, reduceCtorEq, Int.reduceEq, Int.reduceLT, Int.reduceLE, Int.reduceNeg, Int.reduceAdd, Int.reduceSub, Int.reduceMul, Int.reduceNe, Int.reduceBNe, Int.reduceBEq, f_converted, idx_n0, idx_n1, YN, e1, e2]
  · rw [cvQ_z]
    simp only [E1, E2, E3, E4, E5, E6, E7, E8, E9, List.map_cons, List.map_nil, List.cons_append, List.nil_append, List.append_nil, List.length_cons, List.length_nil, List.replicate_zero, List.replicate_succ, Nat.sub_self, Nat.zero_add, List.getElem?_cons_zero, List.getElem?_cons_succ, List.set_cons_zero, List.set_cons_succ, if_true, if_false, Bool.false_eq_true, decide_true, decide_false, Bool.not_true, Bool.not_false, decide_eq_true_eq, eq_self, Int.cast_ofNat_Int, Int.natCast_zero, Int.natCast_one, Nat.reduceLeDiff, Nat.reduceSub, Nat.reduceAdd, Nat.reduceLT, reduceIte, reduceCtorEq, Int.reduceEq, Int.reduceLT, Int.reduceLE, Int.reduceNeg, Int.reduceAdd, Int.reduceSub, Int.reduceMul, Int.reduceNe, Int.reduceBNe, Int.reduceBEq, f_converted, idx_z0, YN]
  · rw [cvQ_e]
    simp only [E1, E2, E3, E4, E5, E6, E7, E8, E9, List.map_cons, List.map_nil, List.cons_append, List.nil_append, List.append_nil, List.length_cons, List.length_nil, List.replicate_zero, List.replicate_succ, Nat.sub_self, Nat.zero_add, List.getElem?_cons_zero, List.getElem?_cons_succ, List.set_cons_zero, List.set_cons_succ, if_true, if_false, Bool.false_eq_true, decide_true, decide_false, Bool.not_true, Bool.not_false, decide_eq_true_eq, eq_self, Int.cast_ofNat_Int, Int.natCast_zero, Int.natCast_one, Nat.reduceLeDiff, Nat.reduceSub, Nat.reduceAdd, Nat.reduceLT, reduceIte, reduceCtorEq, Int.reduceEq, Int.reduceLT, Int.reduceLE, Int.reduceNeg, Int.reduceAdd, Int.reduceSub, Int.reduceMul, Int.reduceNe, Int.reduceBNe, Int.reduceBEq, f_converted, idx_e0, YN]
  · rw [cvQ_o]
    simp only [E1, E2, E3, E4, E5, E6, E7, E8, E9, List.map_cons, List.map_nil, List.cons_append, List.nil_append, List.append_nil, List.length_cons, List.length_nil, List.replicate_zero, List.replicate_succ, Nat.sub_self, Nat.zero_add, List.getElem?_cons_zero, List.getElem?_cons_succ, List.set_cons_zero, List.set_cons_succ, if_true, if_false, Bool.false_eq_true, decide_true, decide_false, Bool.not_true, Bool.not_false, decide_eq_true_eq, eq_self, Int.cast_ofNat_Int, Int.natCast_zero, Int.natCast_one, Nat.reduceLeDiff, Nat.reduceSub, Nat.reduceAdd, Nat.reduceLT, reduceIte, reduceCtorEq, Int.reduceEq, Int.reduceLT, Int.reduceLE, Int.reduceNeg, Int.reduceAdd, Int.reduceSub, Int.reduceMul, Int.reduceNe, Int.reduceBNe, Int.reduceBEq, f_converted, idx_o0, YN]
theorem cv_nn (h : Fm d m M) (hz : Nn z) : Nn (cvN d m M way z) := by
  rcases hz with ⟨s, w, p, rfl, h1, h2, h3⟩ | ⟨s, rfl, h1⟩ | ⟨s, rfl⟩ | rfl
  · exact outN_nn h h1
  · exact .inr (.inl ⟨_, rfl, h1⟩)
  · exact .inr (.inr (.inl ⟨_, rfl⟩))
  · exact .inr (.inr (.inr rfl))
theorem twice_ok (h0 : Fs d0 m0 M0) (hf : Fm d m M) (hf' : Fm d' m' M') (hw : way ∈ ways) (hi : i < cnt d0 m0 M0) (hj : j < cnt d0 m0 M0) (hk : kn < 4) : callK G (k + 12) i_done_twice [fmD d m M, fmD d' m' M', .str (kS kn), .str way, rowD d0 m0 i, rowD d0 m0 j] S = some (cvN d m M way (dnN kn d' m' M' way d0 m0 i j), S) := by
  rw [call_fn g_done_twice rfl]
  have e1 := done_in_ok (k := k) (S := S) h0 hf' hw hi hj hk
  have n1 : Nn (dnN kn d' m' M' way d0 m0 i j) := dn_nn hf'
  have e2 := converted_ok (k := k + 2) (S := S) hf hw n1
  simp only [E1, E2, E3, E4, E5, E6, E7, E8, E9, List.map_cons, List.map_nil, List.cons_append, List.nil_append, List.append_nil, List.length_cons, List.length_nil, List.replicate_zero, List.replicate_succ, Nat.sub_self, Nat.zero_add, List.getElem?_cons_zero, List.getElem?_cons_succ, List.set_cons_zero, List.set_cons_succ, if_true, if_false, Bool.false_eq_true, decide_true, decide_false, Bool.not_true, Bool.not_false, decide_eq_true_eq, eq_self, Int.cast_ofNat_Int, Int.natCast_zero, Int.natCast_one, Nat.reduceLeDiff, Nat.reduceSub, Nat.reduceAdd, Nat.reduceLT, reduceIte, reduceCtorEq, Int.reduceEq, Int.reduceLT, Int.reduceLE, Int.reduceNeg, Int.reduceAdd, Int.reduceSub, Int.reduceMul, Int.reduceNe, Int.reduceBNe, Int.reduceBEq, f_done_twice, e1, e2, idx_cv n1]
theorem nn_ok (hz : Nn z) : okD 1 z = true ∧ szD z ≤ 10 := by
  rcases hz with ⟨s, w, p, rfl, _⟩ | ⟨s, rfl, _⟩ | ⟨s, rfl⟩ | rfl
  · exact ⟨okD_n, by show 5 ≤ 10; decide⟩
  · exact ⟨okD_z, by show 3 ≤ 10; decide⟩
  · exact ⟨okD_e, by show 3 ≤ 10; decide⟩
  · exact ⟨okD_o, by show 2 ≤ 10; decide⟩
theorem nn_tup (hz : Nn z) : ∃ xs, z = .tup xs := by
  rcases hz with ⟨s, w, p, rfl, _⟩ | ⟨s, rfl, _⟩ | ⟨s, rfl⟩ | rfl
  · exact ⟨_, rfl⟩
  · exact ⟨_, rfl⟩
  · exact ⟨_, rfl⟩
  · exact ⟨_, rfl⟩
def neB (x y : D) : Bool := !PyData.eqv (pdD x) (pdD y)
theorem ne_nn (hz : Nn z) (hz' : Nn z') : cmpD S .NotEq z z' = some (neB z z') := by
  have h1 := (nn_ok hz).1
  have h2 := (nn_ok hz').1
  obtain ⟨xs, rfl⟩ := nn_tup hz
  obtain ⟨ys, rfl⟩ := nn_tup hz'
  show (eqD S (.tup xs) (.tup ys)).map (!·) = _
  rw [eq_tt h1 (by decide) h2 (by decide)]
  unfold neB
  simp only [pdD, PyData.eqv]
  rfl
theorem ne_self (hz : Nn z) : neB z z = false := by
  unfold neB
  rcases hz with ⟨s, w, p, rfl, _⟩ | ⟨s, rfl, _⟩ | ⟨s, rfl⟩ | rfl
  · simp [numD, pdD, pdDs, PyData.eqv, PyData.eqvAll]
  · simp [nothD, pdD, pdDs, PyData.eqv, PyData.eqvAll]
  · simp [endD, pdD, pdDs, PyData.eqv, PyData.eqvAll]
  · simp [noneD, pdD, pdDs, PyData.eqv, PyData.eqvAll]
theorem same_nn (hz : Nn z) : callK G (k + 1) i__law_same [z, z] S = some (.bl true, S) := same_ok (n := 1) (nn_ok hz).1 (by decide) (Nat.le_trans (nn_ok hz).2 (by decide))
theorem same_bl {b : Bool} : callK G (k + 1) i__law_same [.bl b, .bl b] S = some (.bl true, S) := same_ok (n := 1) rfl (by decide) (by show (1 : Nat) ≤ 1000000; decide)
/-- twice and at once -/
def unB (kn : Nat) (d : Nat) (m M : Int) (d' : Nat) (m' M' : Int) (way : Str) (d0 : Nat) (m0 : Int) (i j : Nat) : Bool := neB (cvN d m M way (dnN kn d' m' M' way d0 m0 i j)) (dnN kn d m M way d0 m0 i j)
end
end Rw.Pk22

set_option exponentiation.threshold 300
namespace Rw.Pk22
open PySem L2 Rw
section
variable {k : Nat} {S T : Sto} {d d' j i n : Nat} {m M m' M' : Int} {way : Str} {L : List D} {d0 : Nat} {m0 M0 : Int} {kn : Nat} {U : Nat → Nat → Bool} {js is : List Nat} {o : Option (Nat × Nat)} {x0 x1 x2 x3 x4 x5 x6 x7 x8 x9 x10 x11 x12 x13 x14 : Option D}
def ffD (d0 : Nat) (m0 : Int) (o : Option (Nat × Nat)) : D := match o with
  | none => .non
  | some p => .tup [rowD d0 m0 p.1, rowD d0 m0 p.2]
def rowF (U : Nat → Nat → Bool) (i : Nat) : List Nat → Option (Nat × Nat)
  | [] => none
  | j :: js => if U i j = true then some (i, j) else rowF U i js
def allF (U : Nat → Nat → Bool) (js : List Nat) : List Nat → Option (Nat × Nat)
  | [] => none
  | i :: is => (rowF U i js).or (allF U js is)
theorem rowF_none : ∀ {js : List Nat}, (∀ j ∈ js, U i j = false) → rowF U i js = none
  | [], _ => rfl
  | j :: js, h => by
    unfold rowF
    rw [h j List.mem_cons_self, if_neg Bool.false_ne_true]
    exact rowF_none fun z hz => h z (List.mem_cons_of_mem _ hz)
theorem allF_none : ∀ {is : List Nat}, (∀ i ∈ is, ∀ j ∈ js, U i j = false) → allF U js is = none
  | [], _ => rfl
  | i :: is, h => by
    unfold allF
    rw [rowF_none (h i List.mem_cons_self), allF_none fun z hz => h z (List.mem_cons_of_mem _ hz)]
    rfl
theorem rowF_in : ∀ {js : List Nat} {p : Nat × Nat}, rowF U i js = some p → p.1 = i ∧ p.2 ∈ js
  | [], p, h => by cases h
  | j :: js, p, h => by
    unfold rowF at h
    split at h
    · injection h with h
      rw [← h]
      exact ⟨rfl, List.mem_cons_self⟩
    · have := rowF_in h
      exact ⟨this.1, List.mem_cons_of_mem _ this.2⟩
theorem allF_in : ∀ {is : List Nat} {p : Nat × Nat}, allF U js is = some p → p.1 ∈ is ∧ p.2 ∈ js
  | [], p, h => by cases h
  | i :: is, p, h => by
    unfold allF at h
    cases c : rowF U i js with
    | some q =>
      rw [c] at h
      have h : some q = some p := h
      injection h with h
      rw [h] at c
      have := rowF_in c
      exact ⟨by rw [this.1]; exact List.mem_cons_self, this.2⟩
    | none =>
      rw [c] at h
      have h : allF U js is = some p := h
      have := allF_in h
      exact ⟨List.mem_cons_of_mem _ this.1, this.2⟩
def firstF (U : Nat → Nat → Bool) (n : Nat) : Option (Nat × Nat) := allF U (List.range n) (List.range n)
theorem first_none (h : ∀ i, i < n → ∀ j, j < n → U i j = false) : firstF U n = none := allF_none fun i hi j hj => h i (List.mem_range.mp hi) j (List.mem_range.mp hj)
theorem first_in {p : Nat × Nat} (h : firstF U n = some p) : p.1 < n ∧ p.2 < n := ⟨List.mem_range.mp (allF_in h).1, List.mem_range.mp (allF_in h).2⟩
theorem ffD_0 : ffD d0 m0 none = .non := rfl
theorem ffD_1 {p : Nat × Nat} : ffD d0 m0 (some p) = .tup [rowD d0 m0 p.1, rowD d0 m0 p.2] := rfl
theorem row_nn (h : Fs d0 m0 M0) (hj : j < cnt d0 m0 M0) : Nn (rowD d0 m0 j) := by
  obtain ⟨r1, r2, r3⟩ := row_in h.f hj
  have h4 := fh_le h.f
  have := h.m4
  have := h.M4
  by_cases c : rW d0 j = 0
  · rw [row_z c]; exact .inr (.inl ⟨_, rfl, .inl rfl⟩)
  · rw [row_n c]; exact .inl ⟨_, _, _, rfl, .inl rfl, Nat.lt_of_lt_of_le r1 (Nat.le_trans h4 (by decide)), by omega⟩
theorem ff_ok (h : Fs d0 m0 M0) (ho : ∀ p, o = some p → p.1 < cnt d0 m0 M0 ∧ p.2 < cnt d0 m0 M0) : okD 2 (ffD d0 m0 o) = true ∧ szD (ffD d0 m0 o) ≤ 30 := by
  cases o with
  | none => exact ⟨rfl, by show (1 : Nat) ≤ 30; decide⟩
  | some p =>
    obtain ⟨h1, h2⟩ := ho p rfl
    have a := nn_ok (row_nn h h1)
    have b := nn_ok (row_nn h h2)
    refine ⟨?_, ?_⟩
    · rw [ffD_1]
      refine okD_tup ?_ (by show (2 : Nat) ≤ sizeLine; exact le_size (by decide))
      show (okD 1 _ && (okD 1 _ && true)) = true
      rw [a.1, b.1]
      rfl
    · rw [ffD_1]
      show 1 + (szD _ + (szD _ + 0)) ≤ 30
      omega
theorem same_ff (h : Fs d0 m0 M0) (ho : ∀ p, o = some p → p.1 < cnt d0 m0 M0 ∧ p.2 < cnt d0 m0 M0) : callK G (k + 1) i__law_same [ffD d0 m0 o, ffD d0 m0 o] S = some (.bl true, S) := same_ok (n := 2) (ff_ok h ho).1 (by decide) (Nat.le_trans (ff_ok h ho).2 (by decide))
/-- the program's search: a row -/
theorem fu_row (h0 : Fs d m M) (hf' : Fm d' m' M') (hw : way ∈ ways) (hk : kn < 4) (hi : i < cnt d m M) (all : List D) : ∀ (js : List Nat) (y6 : Option D), (∀ j ∈ js, j < cnt d m M) → ∃ z6, forL none all (fbd G (callK G (k + 12)) (.name 6) b_first_unlike_1) (js.map (rowD d m)) [some (fmD d m M), some (fmD d' m' M'), some (.str (kS kn)), some (.str way), x4, some (rowD d m i), y6] S = some ((match rowF (unB kn d m M d' m' M' way d m) i js with
    | none => Fl.nx [some (fmD d m M), some (fmD d' m' M'), some (.str (kS kn)), some (.str way), x4, some (rowD d m i), z6]
    | some p => Fl.rt (ffD d m (some p))), S)
  | [], y6, _ => ⟨y6, by rw [List.map_nil, forL_nil]; rfl⟩
  | j :: js, y6, hj => by
    obtain ⟨z6, ih⟩ := fu_row h0 hf' hw hk hi all js (some (rowD d m j)) fun z hz => hj z (List.mem_cons_of_mem _ hz)
    have hj0 := hj j List.mem_cons_self
    have e1 := twice_ok (k := k) (S := S) h0 h0.f hf' hw hi hj0 hk
    have e2 := done_in_ok (k := k + 1) (S := S) h0 h0.f hw hi hj0 hk
    have n1 : Nn (cvN d m M way (dnN kn d' m' M' way d m i j)) := cv_nn h0.f (dn_nn hf')
    have n2 : Nn (dnN kn d m M way d m i j) := dn_nn h0.f
    have e3 := ne_nn (S := S) n1 n2
    rw [List.map_cons]
    unfold rowF
    cases c : unB kn d m M d' m' M' way d m i j with
    | true =>
      unfold unB at c
      rw [c] at e3
      refine ⟨none, ?_⟩
      rw [forL_ret (d := ffD d m (some (i, j))) (S1 := S)]
      · rfl
      · unfold fbd
        simp only [E1, E2, E3, E4, E5, E6, E7, E8, E9, List.map_cons, List.map_nil, List.cons_append, List.nil_append, List.append_nil, List.length_cons, List.length_nil, List.replicate_zero, List.replicate_succ, Nat.sub_self, Nat.zero_add, List.getElem?_cons_zero, List.getElem?_cons_succ, List.set_cons_zero, List.set_cons_succ, if_true, if_false, Bool.false_eq_true, decide_true, decide_false, Bool.not_true, Bool.not_false, decide_eq_true_eq, eq_self, Int.cast_ofNat_Int, Int.natCast_zero, Int.natCast_one, Nat.reduceLeDiff, Nat.reduceSub, Nat.reduceAdd, Nat.reduceLT, reduceIte, reduceCtorEq, Int.reduceEq, Int.reduceLT, Int.reduceLE, Int.reduceNeg, Int.reduceAdd, Int.reduceSub, Int.reduceMul, Int.reduceNe, Int.reduceBNe, Int.reduceBEq, b_first_unlike_1, e1, e2, e3]
        rfl
    | false =>
      unfold unB at c
      rw [c] at e3
      refine ⟨z6, ?_⟩
      rw [forL_cons (ρ1 := [some (fmD d m M), some (fmD d' m' M'), some (.str (kS kn)), some (.str way), x4, some (rowD d m i), some (rowD d m j)]) (S1 := S)]
      · exact ih
      · unfold fbd
        simp only [E1, E2, E3, E4, E5, E6, E7, E8, E9, List.map_cons, List.map_nil, List.cons_append, List.nil_append, List.append_nil, List.length_cons, List.length_nil, List.replicate_zero, List.replicate_succ, Nat.sub_self, Nat.zero_add, List.getElem?_cons_zero, List.getElem?_cons_succ, List.set_cons_zero, List.set_cons_succ, if_true, if_false, Bool.false_eq_true, decide_true, decide_false, Bool.not_true, Bool.not_false, decide_eq_true_eq, eq_self, Int.cast_ofNat_Int, Int.natCast_zero, Int.natCast_one, Nat.reduceLeDiff, Nat.reduceSub, Nat.reduceAdd, Nat.reduceLT, reduceIte, reduceCtorEq, Int.reduceEq, Int.reduceLT, Int.reduceLE, Int.reduceNeg, Int.reduceAdd, Int.reduceSub, Int.reduceMul, Int.reduceNe, Int.reduceBNe, Int.reduceBEq, b_first_unlike_1, e1, e2, e3]
theorem fu_all (h0 : Fs d m M) (hf' : Fm d' m' M') (hw : way ∈ ways) (hk : kn < 4) (all : List D) : ∀ (is : List Nat) (y5 y6 : Option D), (∀ i ∈ is, i < cnt d m M) → ∃ z5 z6, forL none all (fbd G (callK G (k + 12)) (.name 5) b_first_unlike_0) (is.map (rowD d m)) [some (fmD d m M), some (fmD d' m' M'), some (.str (kS kn)), some (.str way), some (.tup (rowsL d m (cnt d m M))), y5, y6] S = some ((match allF (unB kn d m M d' m' M' way d m) (List.range (cnt d m M)) is with
    | none => Fl.nx [some (fmD d m M), some (fmD d' m' M'), some (.str (kS kn)), some (.str way), some (.tup (rowsL d m (cnt d m M))), z5, z6]
    | some p => Fl.rt (ffD d m (some p))), S)
  | [], y5, y6, _ => ⟨y5, y6, by rw [List.map_nil, forL_nil]; rfl⟩
  | i :: is, y5, y6, hi => by
    have hi0 := hi i List.mem_cons_self
    obtain ⟨w6, er⟩ := fu_row (k := k) (S := S) (x4 := some (.tup (rowsL d m (cnt d m M)))) h0 hf' hw hk hi0 (rowsL d m (cnt d m M)) (List.range (cnt d m M)) y6 fun z hz => List.mem_range.mp hz
    rw [show (List.range (cnt d m M)).map (rowD d m) = rowsL d m (cnt d m M) from rfl] at er
    obtain ⟨z5, z6, ih⟩ := fu_all h0 hf' hw hk all is (some (rowD d m i)) w6 fun z hz => hi z (List.mem_cons_of_mem _ hz)
    rw [List.map_cons]
    unfold allF
    cases c : rowF (unB kn d m M d' m' M' way d m) i (List.range (cnt d m M)) with
    | some p =>
      rw [c] at er
      refine ⟨none, none, ?_⟩
      rw [forL_ret (d := ffD d m (some p)) (S1 := S)]
      · rfl
      · unfold fbd
        simp only [E1, E2, E3, E4, E5, E6, E7, E8, E9, List.map_cons, List.map_nil, List.cons_append, List.nil_append, List.append_nil, List.length_cons, List.length_nil, List.replicate_zero, List.replicate_succ, Nat.sub_self, Nat.zero_add, List.getElem?_cons_zero, List.getElem?_cons_succ, List.set_cons_zero, List.set_cons_succ, if_true, if_false, Bool.false_eq_true, decide_true, decide_false, Bool.not_true, Bool.not_false, decide_eq_true_eq, eq_self, Int.cast_ofNat_Int, Int.natCast_zero, Int.natCast_one, Nat.reduceLeDiff, Nat.reduceSub, Nat.reduceAdd, Nat.reduceLT, reduceIte, reduceCtorEq, Int.reduceEq, Int.reduceLT, Int.reduceLE, Int.reduceNeg, Int.reduceAdd, Int.reduceSub, Int.reduceMul, Int.reduceNe, Int.reduceBNe, Int.reduceBEq, b_first_unlike_0, er]
    | none =>
      rw [c] at er
      refine ⟨z5, z6, ?_⟩
      rw [forL_cons (ρ1 := [some (fmD d m M), some (fmD d' m' M'), some (.str (kS kn)), some (.str way), some (.tup (rowsL d m (cnt d m M))), some (rowD d m i), w6]) (S1 := S)]
      · exact ih
      · unfold fbd
        simp only [E1, E2, E3, E4, E5, E6, E7, E8, E9, List.map_cons, List.map_nil, List.cons_append, List.nil_append, List.append_nil, List.length_cons, List.length_nil, List.replicate_zero, List.replicate_succ, Nat.sub_self, Nat.zero_add, List.getElem?_cons_zero, List.getElem?_cons_succ, List.set_cons_zero, List.set_cons_succ, if_true, if_false, Bool.false_eq_true, decide_true, decide_false, Bool.not_true, Bool.not_false, decide_eq_true_eq, eq_self, Int.cast_ofNat_Int, Int.natCast_zero, Int.natCast_one, Nat.reduceLeDiff, Nat.reduceSub, Nat.reduceAdd, Nat.reduceLT, reduceIte, reduceCtorEq, Int.reduceEq, Int.reduceLT, Int.reduceLE, Int.reduceNeg, Int.reduceAdd, Int.reduceSub, Int.reduceMul, Int.reduceNe, Int.reduceBNe, Int.reduceBEq, b_first_unlike_0, er]
theorem fu_ok (h0 : Fs d m M) (hf' : Fm d' m' M') (hw : way ∈ ways) (hk : kn < 4) : callK G (k + 13) i_first_unlike [fmD d m M, fmD d' m' M', .str (kS kn), .str way] S = some (ffD d m (firstF (unB kn d m M d' m' M' way d m) (cnt d m M)), S) := by
  have ea := all_finite_ok (k := k + 11) (S := S) h0.f
  obtain ⟨z5, z6, e⟩ := fu_all (k := k) (S := S) h0 hf' hw hk (rowsL d m (cnt d m M)) (List.range (cnt d m M)) none none fun z hz => List.mem_range.mp hz
  rw [show (List.range (cnt d m M)).map (rowD d m) = rowsL d m (cnt d m M) from rfl] at e
  rw [call_fn g_first_unlike rfl]
  unfold firstF
  cases c : allF (unB kn d m M d' m' M' way d m) (List.range (cnt d m M)) (List.range (cnt d m M)) with
  | none =>
    rw [c] at e
    simp only [E1, E2, E3, E4, E5, E6, E7, E8, E9, List.map_cons, List.map_nil, List.cons_append, List.nil_append, List.append_nil, List.length_cons, List.length_nil, List.replicate_zero, List.replicate_succ, Nat.sub_self, Nat.zero_add, List.getElem?_cons_zero, List.getElem?_cons_succ, List.set_cons_zero, List.set_cons_succ, if_true, if_false, Bool.false_eq_true, decide_true, decide_false, Bool.not_true, Bool.not_false, decide_eq_true_eq, eq_self, Int.cast_ofNat_Int, Int.natCast_zero, Int.natCast_one, Nat.reduceLeDiff, Nat.reduceSub, Nat.reduceAdd, Nat.reduceLT, reduceIte, reduceCtorEq, Int.reduceEq, Int.reduceLT, Int.reduceLE, Int.reduceNeg, Int.reduceAdd, Int.reduceSub, Int.reduceMul, Int.reduceNe, Int.reduceBNe, Int.reduceBEq, f_first_unlike, ea, e, ffD_0]
  | some p =>
    rw [c] at e
    simp only [E1, E2, E3, E4, E5, E6, E7, E8, E9, List.map_cons, List.map_nil, List.cons_append, List.nil_append, List.append_nil, List.length_cons, List.length_nil, List.replicate_zero, List.replicate_succ, Nat.sub_self, Nat.zero_add, List.getElem?_cons_zero, List.getElem?_cons_succ, List.set_cons_zero, List.set_cons_succ, if_true, if_false, Bool.false_eq_true, decide_true, decide_false, Bool.not_true, Bool.not_false, decide_eq_true_eq, eq_self, Int.cast_ofNat_Int, Int.natCast_zero, Int.natCast_one, Nat.reduceLeDiff, Nat.reduceSub, Nat.reduceAdd, Nat.reduceLT, reduceIte, reduceCtorEq, Int.reduceEq, Int.reduceLT, Int.reduceLE, Int.reduceNeg, Int.reduceAdd, Int.reduceSub, Int.reduceMul, Int.reduceNe, Int.reduceBNe, Int.reduceBEq, f_first_unlike, ea, e]
/-- the law's search: a row -/
theorem lf_step (h0 : Fs d m M) (hf' : Fm d' m' M') (hw : way ∈ ways) (hk : kn < 4) (hi : i < cnt d m M) (hj : j < cnt d m M) : fbd G (callK G (k + 15)) (.name 14) b_law_4 (rowD d m j) [x0, x1, x2, some (fmD d m M), some (.str way), some (fmD d' m' M'), x6, some (rowD d m i), x8, x9, x10, x11, some (.str (kS kn)), some (ffD d m o), x14] S = some (.nx [x0, x1, x2, some (fmD d m M), some (.str way), some (fmD d' m' M'), x6, some (rowD d m i), x8, x9, x10, x11, some (.str (kS kn)), some (ffD d m (o.or (if unB kn d m M d' m' M' way d m i j = true then some (i, j) else none))), some (rowD d m j)], S) := by
  have e1 := law_done_ok (k := k + 4) (S := S) h0 hf' hw hi hj hk
  have e2 := law_done_ok (k := k + 4) (S := S) h0 h0.f hw hi hj hk
  have n1 : Nn (dnN kn d' m' M' way d m i j) := dn_nn hf'
  have n2 : Nn (dnN kn d m M way d m i j) := dn_nn h0.f
  have ec := converted_ok (k := k + 6) (S := S) (z := dnN kn d' m' M' way d m i j) h0.f hw n1
  have e3 := ne_nn (S := S) (cv_nn (way := way) h0.f n1) n2
  have b1 : isNone D.non = true := rfl
  have b2 : ∀ xs, isNone (D.tup xs) = false := fun _ => rfl
  unfold fbd
  cases o with
  | some p =>
    rw [ffD_1]
    simp only [E1, E2, E3, E4, E5, E6, E7, E8, E9, List.map_cons, List.map_nil, List.cons_append, List.nil_append, List.append_nil, List.length_cons, List.length_nil, List.replicate_zero, List.replicate_succ, Nat.sub_self, Nat.zero_add, List.getElem?_cons_zero, List.getElem?_cons_succ, List.set_cons_zero, List.set_cons_succ, if_true, if_false, Bool.false_eq_true, decide_true, decide_false, Bool.not_true, Bool.not_false, decide_eq_true_eq, eq_self, Int.cast_ofNat_Int, Int.natCast_zero, Int.natCast_one, Nat.reduceLeDiff, Nat.reduceSub, Nat.reduceAdd, Nat.reduceLT, reduceIte, reduceCtorEq, Int.reduceEq, Int.reduceLT, Int.reduceLE, Int.reduceNeg, Int.reduceAdd, Int.reduceSub, Int.reduceMul, Int.reduceNe, Int.reduceBNe, Int.reduceBEq, b_law_4, b2, Option.some_or]
    try rfl
  | none =>
    rw [ffD_0]
    cases c : unB kn d m M d' m' M' way d m i j with
    | true =>
      have c' := c
      unfold unB at c
      rw [c] at e3
      simp only [E1, E2, E3, E4, E5, E6, E7, E8, E9, List.map_cons, List.map_nil, List.cons_append, List.nil_append, List.append_nil, List.length_cons, List.length_nil, List.replicate_zero, List.replicate_succ, Nat.sub_self, Nat.zero_add, List.getElem?_cons_zero, List.getElem?_cons_succ, List.set_cons_zero, List.set_cons_succ, if_true, if_false, Bool.false_eq_true, decide_true, decide_false, Bool.not_true, Bool.not_false, decide_eq_true_eq, eq_self, Int.cast_ofNat_Int, Int.natCast_zero, Int.natCast_one, Nat.reduceLeDiff, Nat.reduceSub, Nat.reduceAdd, Nat.reduceLT, reduceIte, reduceCtorEq, Int.reduceEq, Int.reduceLT, Int.reduceLE, Int.reduceNeg, Int.reduceAdd, Int.reduceSub, Int.reduceMul, Int.reduceNe, Int.reduceBNe, Int.reduceBEq, b_law_4, b1, e1, e2, ec, idx_cv n1, e3, Option.none_or]
      try rfl
    | false =>
      unfold unB at c
      rw [c] at e3
      simp only [E1, E2, E3, E4, E5, E6, E7, E8, E9, List.map_cons, List.map_nil, List.cons_append, List.nil_append, List.append_nil, List.length_cons, List.length_nil, List.replicate_zero, List.replicate_succ, Nat.sub_self, Nat.zero_add, List.getElem?_cons_zero, List.getElem?_cons_succ, List.set_cons_zero, List.set_cons_succ, if_true, if_false, Bool.false_eq_true, decide_true, decide_false, Bool.not_true, Bool.not_false, decide_eq_true_eq, eq_self, Int.cast_ofNat_Int, Int.natCast_zero, Int.natCast_one, Nat.reduceLeDiff, Nat.reduceSub, Nat.reduceAdd, Nat.reduceLT, reduceIte, reduceCtorEq, Int.reduceEq, Int.reduceLT, Int.reduceLE, Int.reduceNeg, Int.reduceAdd, Int.reduceSub, Int.reduceMul, Int.reduceNe, Int.reduceBNe, Int.reduceBEq, b_law_4, b1, e1, e2, ec, idx_cv n1, e3, Option.none_or, Bool.false_eq_true, ffD_0]
      try rfl
theorem lf_row (h0 : Fs d m M) (hf' : Fm d' m' M') (hw : way ∈ ways) (hk : kn < 4) (hi : i < cnt d m M) (all : List D) : ∀ (js : List Nat) (o : Option (Nat × Nat)) (y14 : Option D), (∀ j ∈ js, j < cnt d m M) → ∃ z14, forL none all (fbd G (callK G (k + 15)) (.name 14) b_law_4) (js.map (rowD d m)) [x0, x1, x2, some (fmD d m M), some (.str way), some (fmD d' m' M'), x6, some (rowD d m i), x8, x9, x10, x11, some (.str (kS kn)), some (ffD d m o), y14] S = some (.nx [x0, x1, x2, some (fmD d m M), some (.str way), some (fmD d' m' M'), x6, some (rowD d m i), x8, x9, x10, x11, some (.str (kS kn)), some (ffD d m (o.or (rowF (unB kn d m M d' m' M' way d m) i js))), z14], S)
  | [], o, y14, _ => ⟨y14, by rw [List.map_nil, forL_nil, show o.or (rowF (unB kn d m M d' m' M' way d m) i []) = o by cases o <;> rfl]⟩
  | j :: js, o, y14, hj => by
    have hj0 := hj j List.mem_cons_self
    obtain ⟨z14, ih⟩ := lf_row h0 hf' hw hk hi all js (o.or (if unB kn d m M d' m' M' way d m i j = true then some (i, j) else none)) (some (rowD d m j)) fun z hz => hj z (List.mem_cons_of_mem _ hz)
    refine ⟨z14, ?_⟩
    rw [List.map_cons, forL_cons (lf_step (x14 := y14) h0 hf' hw hk hi hj0), ih]
    congr 6
    rw [Option.or_assoc]
    congr 1
    rw [rowF]
    split
    · rfl
    · rfl
theorem lf_all (h0 : Fs d m M) (hf' : Fm d' m' M') (hw : way ∈ ways) (hk : kn < 4) (all : List D) : ∀ (is : List Nat) (o : Option (Nat × Nat)) (y7 y14 : Option D), (∀ i ∈ is, i < cnt d m M) → ∃ z7 z14, forL none all (fbd G (callK G (k + 15)) (.name 7) b_law_3) (is.map (rowD d m)) [x0, x1, x2, some (fmD d m M), some (.str way), some (fmD d' m' M'), x6, y7, x8, x9, some (.lst (rowsL d m (cnt d m M))), x11, some (.str (kS kn)), some (ffD d m o), y14] S = some (.nx [x0, x1, x2, some (fmD d m M), some (.str way), some (fmD d' m' M'), x6, z7, x8, x9, some (.lst (rowsL d m (cnt d m M))), x11, some (.str (kS kn)), some (ffD d m (o.or (allF (unB kn d m M d' m' M' way d m) (List.range (cnt d m M)) is))), z14], S)
  | [], o, y7, y14, _ => ⟨y7, y14, by rw [List.map_nil, forL_nil, show o.or (allF (unB kn d m M d' m' M' way d m) (List.range (cnt d m M)) []) = o by cases o <;> rfl]⟩
  | i :: is, o, y7, y14, hi => by
    have hi0 := hi i List.mem_cons_self
    obtain ⟨w14, er⟩ := lf_row (k := k) (S := S) (x10 := some (.lst (rowsL d m (cnt d m M)))) (x0 := x0) (x1 := x1) (x2 := x2) (x6 := x6) (x8 := x8) (x9 := x9) (x11 := x11) h0 hf' hw hk hi0 (rowsL d m (cnt d m M)) (List.range (cnt d m M)) o y14 fun z hz => List.mem_range.mp hz
    rw [show (List.range (cnt d m M)).map (rowD d m) = rowsL d m (cnt d m M) from rfl] at er
    obtain ⟨z7, z14, ih⟩ := lf_all h0 hf' hw hk all is (o.or (rowF (unB kn d m M d' m' M' way d m) i (List.range (cnt d m M)))) (some (rowD d m i)) w14 fun z hz => hi z (List.mem_cons_of_mem _ hz)
    refine ⟨z7, z14, ?_⟩
    have st : fbd G (callK G (k + 15)) (.name 7) b_law_3 (rowD d m i) [x0, x1, x2, some (fmD d m M), some (.str way), some (fmD d' m' M'), x6, y7, x8, x9, some (.lst (rowsL d m (cnt d m M))), x11, some (.str (kS kn)), some (ffD d m o), y14] S = some (.nx [x0, x1, x2, some (fmD d m M), some (.str way), some (fmD d' m' M'), x6, some (rowD d m i), x8, x9, some (.lst (rowsL d m (cnt d m M))), x11, some (.str (kS kn)), some (ffD d m (o.or (rowF (unB kn d m M d' m' M' way d m) i (List.range (cnt d m M))))), w14], S) := by
      unfold fbd
      simp only [E1, E2, E3, E4, E5, E6, E7, E8, E9, List.map_cons, List.map_nil, List.cons_append, List.nil_append, List.append_nil, List.length_cons, List.length_nil, List.replicate_zero, List.replicate_succ, Nat.sub_self, Nat.zero_add, List.getElem?_cons_zero, List.getElem?_cons_succ, List.set_cons_zero, List.set_cons_succ, if_true, if_false, Bool.false_eq_true, decide_true, decide_false, Bool.not_true, Bool.not_false, decide_eq_true_eq, eq_self, Int.cast_ofNat_Int, Int.natCast_zero, Int.natCast_one, Nat.reduceLeDiff, Nat.reduceSub, Nat.reduceAdd, Nat.reduceLT, reduceIte, reduceCtorEq, Int.reduceEq, Int.reduceLT, Int.reduceLE, Int.reduceNeg, Int.reduceAdd, Int.reduceSub, Int.reduceMul, Int.reduceNe, Int.reduceBNe, Int.reduceBEq, b_law_3, er]
    rw [List.map_cons, forL_cons st, ih]
    congr 6
    rw [Option.or_assoc]
    congr 1
end
end Rw.Pk22

set_option exponentiation.threshold 300
namespace Rw.Pk22
open PySem L2 Rw
def eqF : D → D → Bool
  | .tup [.str a, .int s, .int w, .int p], .tup [.str b, .int s', .int w', .int p'] => decide (w = w') && (decide (p = p') && (decide (s = s') && decide (a = b)))
  | .tup [.str a, .int s], .tup [.str b, .int s'] => decide (s = s') && decide (a = b)
  | .tup [.str a], .tup [.str b] => decide (a = b)
  | _, _ => false
theorem eqF_eq {x y : D} (h : eqF x y = true) : x = y := by
  unfold eqF at h
  split at h
  · simp only [Bool.and_eq_true, decide_eq_true_eq] at h
    obtain ⟨rfl, rfl, rfl, rfl⟩ := h
    rfl
  · simp only [Bool.and_eq_true, decide_eq_true_eq] at h
    obtain ⟨rfl, rfl⟩ := h
    rfl
  · simp only [decide_eq_true_eq] at h
    rw [h]
  · cases h
def hmB (kn d : Nat) (M : Int) : Bool := ways.all fun way => (List.range (cnt d (-2) M)).all fun i => (List.range (if kn = 3 then 1 else cnt d (-2) M)).all fun j => eqF (cvN d (-2) M way (dnN kn (2 * d + 2) (-40) 40 way d (-2) i j)) (dnN kn d (-2) M way d (-2) i j)
def dirQ (d : Nat) (M : Int) (d' : Nat) (q : Rat) : Bool := !decide (q.num * q.num < (q.den : Int) * (q.den : Int)) || (["up", "down", "cut"] : List Str).all fun way => eqF (cvN d (-2) M way (outN d' (-4) 3 way q 0)) (outN d (-2) M way q 0)
def dirB (d : Nat) (M : Int) (d' : Nat) : Bool := ((List.range 60).all fun k => (List.range 24).all fun j => dirQ d M d' (Rat.divInt ((k : Int) - 30) (1 + (j : Int)))) && (List.range 400).all fun k => dirQ d M d' (Rat.divInt ((k : Int) - 200) 128)
theorem hm_0_2_0 : hmB 0 2 0 = true := by decide +kernel
theorem hm_1_2_0 : hmB 1 2 0 = true := by decide +kernel
theorem hm_2_2_0 : hmB 2 2 0 = true := by decide +kernel
theorem hm_3_2_0 : hmB 3 2 0 = true := by decide +kernel
theorem dr_2_0_1 : dirB 2 0 3 = true := by decide +kernel
theorem dr_2_0_2 : dirB 2 0 4 = true := by decide +kernel
theorem hm_0_2_1 : hmB 0 2 1 = true := by decide +kernel
theorem hm_1_2_1 : hmB 1 2 1 = true := by decide +kernel
theorem hm_2_2_1 : hmB 2 2 1 = true := by decide +kernel
theorem hm_3_2_1 : hmB 3 2 1 = true := by decide +kernel
theorem dr_2_1_1 : dirB 2 1 3 = true := by decide +kernel
theorem dr_2_1_2 : dirB 2 1 4 = true := by decide +kernel
theorem hm_0_3_0 : hmB 0 3 0 = true := by decide +kernel
theorem hm_1_3_0 : hmB 1 3 0 = true := by decide +kernel
theorem hm_2_3_0 : hmB 2 3 0 = true := by decide +kernel
theorem hm_3_3_0 : hmB 3 3 0 = true := by decide +kernel
theorem dr_3_0_1 : dirB 3 0 4 = true := by decide +kernel
theorem dr_3_0_2 : dirB 3 0 5 = true := by decide +kernel
theorem hm_0_3_1 : hmB 0 3 1 = true := by decide +kernel
theorem hm_1_3_1 : hmB 1 3 1 = true := by decide +kernel
theorem hm_2_3_1 : hmB 2 3 1 = true := by decide +kernel
theorem hm_3_3_1 : hmB 3 3 1 = true := by decide +kernel
theorem dr_3_1_1 : dirB 3 1 4 = true := by decide +kernel
theorem dr_3_1_2 : dirB 3 1 5 = true := by decide +kernel
end Rw.Pk22

set_option exponentiation.threshold 300
namespace Rw.Pk22
open PySem L2 Rw
def InQ (q : Rat) : Prop := (∃ k j : Int, 0 ≤ k ∧ k < 60 ∧ 0 ≤ j ∧ j < 24 ∧ q = Rat.divInt (k - 30) (1 + j)) ∨ ∃ k : Int, 0 ≤ k ∧ k < 400 ∧ q = Rat.divInt (k - 200) 128
structure F22 (d : Nat) (M : Int) (d' : Nat) : Prop where
  hd : d = 2 ∨ d = 3
  hM : M = 0 ∨ M = 1
  he : d' = d + 1 ∨ d' = d + 2
theorem F22.fs {d : Nat} {M : Int} {d' : Nat} (h : F22 d M d') : Fs d (-2) M := by
  have := h.hd
  have := h.hM
  exact ⟨⟨by omega, by omega, by omega, by omega, by omega⟩, by omega, by omega, by omega⟩
theorem F22.fw {d : Nat} {M : Int} {d' : Nat} (h : F22 d M d') : Fm d' (-4) 3 := by
  have := h.hd
  have := h.he
  exact ⟨by omega, by omega, by omega, by omega, by omega⟩
theorem F22.fb {d : Nat} {M : Int} {d' : Nat} (h : F22 d M d') : Fm (2 * d + 2) (-40) 40 := by
  have := h.hd
  exact ⟨by omega, by omega, by omega, by omega, by omega⟩
theorem harm_ok {d : Nat} {M : Int} {d' kn i j : Nat} {way : Str} (h : F22 d M d') (hw : way ∈ ways) (hk : kn < 4) (hi : i < cnt d (-2) M) (hj : j < cnt d (-2) M) : cvN d (-2) M way (dnN kn (2 * d + 2) (-40) 40 way d (-2) i j) = dnN kn d (-2) M way d (-2) i j := by
  have g : hmB kn d M = true := by
    have := h.hd
    have := h.hM
    have k4 : kn = 0 ∨ kn = 1 ∨ kn = 2 ∨ kn = 3 := by omega
    rcases h.hd with rfl | rfl <;> rcases h.hM with rfl | rfl <;> rcases k4 with rfl | rfl | rfl | rfl
    · exact hm_0_2_0
    · exact hm_1_2_0
    · exact hm_2_2_0
    · exact hm_3_2_0
    · exact hm_0_2_1
    · exact hm_1_2_1
    · exact hm_2_2_1
    · exact hm_3_2_1
    · exact hm_0_3_0
    · exact hm_1_3_0
    · exact hm_2_3_0
    · exact hm_3_3_0
    · exact hm_0_3_1
    · exact hm_1_3_1
    · exact hm_2_3_1
    · exact hm_3_3_1
  unfold hmB at g
  have g1 := List.all_eq_true.mp g way hw
  have g2 := List.all_eq_true.mp g1 i (List.mem_range.mpr hi)
  by_cases c : kn = 3
  · rw [if_pos c] at g2
    have g3 := List.all_eq_true.mp g2 0 (List.mem_range.mpr (by decide))
    subst c
    exact eqF_eq g3
  · rw [if_neg c] at g2
    exact eqF_eq (List.all_eq_true.mp g2 j (List.mem_range.mpr hj))
theorem dir_ok {d : Nat} {M : Int} {d' : Nat} {way : Str} {q : Rat} (h : F22 d M d') (hq : InQ q) (hw : way ∈ (["up", "down", "cut"] : List Str)) (h1 : q.num * q.num < (q.den : Int) * (q.den : Int)) : cvN d (-2) M way (outN d' (-4) 3 way q 0) = outN d (-2) M way q 0 := by
  have g : dirB d M d' = true := by
    rcases h.hd with hd | hd <;> rcases h.hM with hm | hm <;> rcases h.he with he | he <;> subst hd <;> subst hm <;> subst he
    · exact dr_2_0_1
    · exact dr_2_0_2
    · exact dr_2_1_1
    · exact dr_2_1_2
    · exact dr_3_0_1
    · exact dr_3_0_2
    · exact dr_3_1_1
    · exact dr_3_1_2
  have gq : dirQ d M d' q = true := by
    unfold dirB at g
    obtain ⟨ga, gb⟩ := bk g
    rcases hq with ⟨k, j, k0, k1, j0, j1, e⟩ | ⟨k, k0, k1, e⟩
    · have g2 := List.all_eq_true.mp (List.all_eq_true.mp ga k.toNat (List.mem_range.mpr (by omega))) j.toNat (List.mem_range.mpr (by omega))
      rw [show ((k.toNat : Nat) : Int) = k by omega, show ((j.toNat : Nat) : Int) = j by omega] at g2
      rw [e]
      exact g2
    · have g2 := List.all_eq_true.mp gb k.toNat (List.mem_range.mpr (by omega))
      rw [show ((k.toNat : Nat) : Int) = k by omega] at g2
      rw [e]
      exact g2
  unfold dirQ at gq
  rw [decide_eq_true h1, Bool.not_true, Bool.false_or] at gq
  exact eqF_eq (List.all_eq_true.mp gq way hw)
end Rw.Pk22

set_option exponentiation.threshold 300
namespace Rw.Pk22
open PySem L2 Rw
section
variable {k : Nat} {S T : Sto} {d d' n : Nat} {m M m' M' i : Int} {way : Str} {L : List D} {q : Rat} {kn : Nat} {x0 x1 x2 x3 x4 x5 x6 x7 x8 x9 x10 x11 x12 x13 x14 : Option D}
def t1_0 : MS := (.asg (.name 7) (.call 54 (.cons (.var 1) (.cons (.lst (.cons (.call 56 (.cons (.bin .Sub (.call 53 (.cons (.var 1) (.cons (.int 60) .nil))) (.int 30)) (.cons (.bin .Add (.int 1) (.call 53 (.cons (.var 1) (.cons (.int 24) .nil)))) .nil))) (.cons (.call 56 (.cons (.bin .Sub (.call 53 (.cons (.var 1) (.cons (.int 400) .nil))) (.int 200)) (.cons (.int 128) .nil))) .nil))) .nil))))
def t1_1 : MS := (.asg (.name 8) (.idx (.call 59 (.cons (.var 5) (.cons (.var 4) (.cons (.var 7) (.cons (.int 0) .nil))))) (.int 0)))
def t1_2 : MS := (.asg (.name 9) (.ifE (.cmp .In (.idx (.var 8) (.int 0)) (.tup (.cons (.str "number") (.cons (.str "nothing") .nil)))) (.idx (.call 59 (.cons (.var 3) (.cons (.var 4) (.cons (.call 58 (.cons (.var 8) .nil)) (.cons (.idx (.var 8) (.int 1)) .nil))))) (.int 0)) (.var 8)))
def t1_3 : MS := (.ifS (.or (.not (.call 55 (.cons (.call 45 (.cons (.var 3) (.cons (.var 5) (.cons (.var 4) (.cons (.var 7) .nil))))) (.cons (.var 9) .nil)))) (.one (.not (.call 55 (.cons (.call 46 (.cons (.var 3) (.cons (.var 5) (.cons (.var 4) (.cons (.var 7) .nil))))) (.cons (.cmp .NotEq (.var 9) (.idx (.call 59 (.cons (.var 3) (.cons (.var 4) (.cons (.var 7) (.cons (.int 0) .nil))))) (.int 0))) .nil)))))) (.cons (.ret (.bl false)) .nil) .nil)
def t1_4 : MS := (.ifS (.and (.cmp .In (.var 4) (.tup (.cons (.str "up") (.cons (.str "down") (.cons (.str "cut") .nil))))) (.and (.call 33 (.cons (.var 3) (.cons (.var 5) .nil))) (.and (.cmp .Lt (.bin .Mult (.idx (.var 7) (.int 0)) (.idx (.var 7) (.int 0))) (.bin .Mult (.idx (.var 7) (.int 1)) (.idx (.var 7) (.int 1)))) (.one (.cmp .NotEq (.var 9) (.idx (.call 59 (.cons (.var 3) (.cons (.var 4) (.cons (.var 7) (.cons (.int 0) .nil))))) (.int 0))))))) (.cons (.ret (.bl false)) .nil) .nil)
theorem t1_eq : b_law_1 = (.cons t1_0 (.cons t1_1 (.cons t1_2 (.cons t1_3 (.cons t1_4 .nil))))) := rfl
def t2_0 : MS := (.asg (.name 13) .non)
def t2_1 : MS := (.forS (.name 7) (.seq (.var 10)) b_law_3)
def t2_2 : MS := (.ifS (.or (.not (.call 55 (.cons (.call 51 (.cons (.var 3) (.cons (.var 5) (.cons (.var 12) (.cons (.var 4) .nil))))) (.cons (.var 13) .nil)))) (.one (.cmp .IsNot (.call 51 (.cons (.var 3) (.cons (.var 11) (.cons (.var 12) (.cons (.var 4) .nil))))) .non))) (.cons (.ret (.bl false)) .nil) .nil)
def t2_3 : MS := (.par2 7 14 (.call 54 (.cons (.var 1) (.cons (.var 10) .nil))) (.call 54 (.cons (.var 1) (.cons (.var 10) .nil))))
def t2_4 : MS := (.ifS (.not (.call 55 (.cons (.call 49 (.cons (.var 3) (.cons (.var 12) (.cons (.var 4) (.cons (.var 7) (.cons (.var 14) .nil)))))) (.cons (.call 60 (.cons (.var 3) (.cons (.var 12) (.cons (.var 4) (.cons (.var 7) (.cons (.var 14) .nil)))))) .nil)))) (.cons (.ret (.bl false)) .nil) .nil)
def t2_5 : MS := (.ifS (.not (.call 55 (.cons (.call 50 (.cons (.var 3) (.cons (.var 5) (.cons (.var 12) (.cons (.var 4) (.cons (.var 7) (.cons (.var 14) .nil))))))) (.cons (.idx (.call 44 (.cons (.var 3) (.cons (.var 4) (.cons (.call 60 (.cons (.var 5) (.cons (.var 12) (.cons (.var 4) (.cons (.var 7) (.cons (.var 14) .nil)))))) .nil)))) (.int 0)) .nil)))) (.cons (.ret (.bl false)) .nil) .nil)
theorem t2_eq : b_law_2 = (.cons t2_0 (.cons t2_1 (.cons t2_2 (.cons t2_3 (.cons t2_4 (.cons t2_5 .nil)))))) := rfl
def IntL (L : List D) : Prop := ∀ d ∈ L, ∃ x : Int, d = .int x
theorem rt_ok (h : Fm d m M) (h' : Fm d' m' M') (hw : way ∈ ways) (hq : Sm 1000 q) : callK G (k + 10) i_rounded_twice [fmD d m M, fmD d' m' M', .str way, fr q] S = some (cvN d m M way (outN d' m' M' way q 0), S) := by
  have e1 := rounded_ok (k := k + 1) (S := S) (s := 0) h' hw hq
  have n1 : Nn (outN d' m' M' way q 0) := outN_nn h' (.inl rfl)
  have e2 := converted_ok (k := k) (S := S) h hw n1
  rw [call_fn g_rounded_twice rfl]
  simp only [E1, E2, E3, E4, E5, E6, E7, E8, E9, List.map_cons, List.map_nil, List.cons_append, List.nil_append, List.append_nil, List.length_cons, List.length_nil, List.replicate_zero, List.replicate_succ, Nat.sub_self, Nat.zero_add, List.getElem?_cons_zero, List.getElem?_cons_succ, List.set_cons_zero, List.set_cons_succ, if_true, if_false, Bool.false_eq_true, decide_true, decide_false, Bool.not_true, Bool.not_false, decide_eq_true_eq, eq_self, Int.cast_ofNat_Int, Int.natCast_zero, Int.natCast_one, Nat.reduceLeDiff, Nat.reduceSub, Nat.reduceAdd, Nat.reduceLT, reduceIte, reduceCtorEq, Int.reduceEq, Int.reduceLT, Int.reduceLE, Int.reduceNeg, Int.reduceAdd, Int.reduceSub, Int.reduceMul, Int.reduceNe, Int.reduceBNe, Int.reduceBEq, f_rounded_twice, e1, idx_out0, e2, idx_cv n1]
theorem iu_ok (h : Fm d m M) (h' : Fm d' m' M') (hw : way ∈ ways) (hq : Sm 1000 q) : callK G (k + 11) i_is_unlike [fmD d m M, fmD d' m' M', .str way, fr q] S = some (.bl (neB (cvN d m M way (outN d' m' M' way q 0)) (outN d m M way q 0)), S) := by
  have e1 := rt_ok (k := k) (S := S) h h' hw hq
  have e2 := rounded_ok (k := k + 2) (S := S) (s := 0) h hw hq
  have n1 : Nn (outN d' m' M' way q 0) := outN_nn h' (.inl rfl)
  have n2 : Nn (outN d m M way q 0) := outN_nn h (.inl rfl)
  have e3 := ne_nn (S := S) (cv_nn (d := d) (m := m) (M := M) (way := way) h n1) n2
  rw [call_fn g_is_unlike rfl]
  simp only [E1, E2, E3, E4, E5, E6, E7, E8, E9, List.map_cons, List.map_nil, List.cons_append, List.nil_append, List.append_nil, List.length_cons, List.length_nil, List.replicate_zero, List.replicate_succ, Nat.sub_self, Nat.zero_add, List.getElem?_cons_zero, List.getElem?_cons_succ, List.set_cons_zero, List.set_cons_succ, if_true, if_false, Bool.false_eq_true, decide_true, decide_false, Bool.not_true, Bool.not_false, decide_eq_true_eq, eq_self, Int.cast_ofNat_Int, Int.natCast_zero, Int.natCast_one, Nat.reduceLeDiff, Nat.reduceSub, Nat.reduceAdd, Nat.reduceLT, reduceIte, reduceCtorEq, Int.reduceEq, Int.reduceLT, Int.reduceLE, Int.reduceNeg, Int.reduceAdd, Int.reduceSub, Int.reduceMul, Int.reduceNe, Int.reduceBNe, Int.reduceBEq, f_is_unlike, e1, e2, idx_out0, e3]
def rmB (d : Nat) (m M : Int) (d' : Nat) (m' M' : Int) : Bool := decide (m' ≤ (if m - (M + (d : Int)) < 2 * m then m - (M + (d : Int)) else 2 * m) - (d' : Int)) && decide ((if M + (d : Int) - m > 2 * (M + (d : Int)) then M + (d : Int) - m else 2 * (M + (d : Int))) ≤ M')
theorem room_ok (h : Fm d m M) : callK G (k + 1) i_has_room [fmD d m M, fmD d' m' M'] S = some (.bl (rmB d m M d' m' M'), S) := by
  have h1 := h.m1
  have h2 := h.M1
  have h3 := h.d2
  have o1 : mulOk 2 m := Bd.mulOk (n := 2) (m := 40) (show (2 : Nat) < 2 ^ 2 by decide) (show m.natAbs < 2 ^ 40 by omega) (by decide)
  have o2 : mulOk 2 (M + (d : Int)) := Bd.mulOk (n := 2) (m := 40) (show (2 : Nat) < 2 ^ 2 by decide) (show (M + (d : Int)).natAbs < 2 ^ 40 by omega) (by decide)
  rw [call_fn g_has_room rfl]
  unfold rmB
  by_cases c : m' ≤ (if m - (M + (d : Int)) < 2 * m then m - (M + (d : Int)) else 2 * m) - (d' : Int)
  · rw [decide_eq_true c, Bool.true_and]
    simp only [E1, E2, E3, E4, E5, E6, E7, E8, E9, List.map_cons, List.map_nil, List.cons_append, List.nil_append, List.append_nil, List.length_cons, List.length_nil, List.replicate_zero, List.replicate_succ, Nat.sub_self, Nat.zero_add, List.getElem?_cons_zero, List.getElem?_cons_succ, List.set_cons_zero, List.set_cons_succ, if_true, if_false, Bool.false_eq_true, decide_true, decide_false, Bool.not_true, Bool.not_false, decide_eq_true_eq, eq_self, Int.cast_ofNat_Int, Int.natCast_zero, Int.natCast_one, Nat.reduceLeDiff, Nat.reduceSub, Nat.reduceAdd, Nat.reduceLT, reduceIte, reduceCtorEq, Int.reduceEq, Int.reduceLT, Int.reduceLE, Int.reduceNeg, Int.reduceAdd, Int.reduceSub, Int.reduceMul, Int.reduceNe, Int.reduceBNe, Int.reduceBEq, f_has_room, idx_fm0, idx_fm1, idx_fm2, o1, o2, c, ge_iff_le]
  · rw [decide_eq_false c, Bool.false_and]
    simp only [E1, E2, E3, E4, E5, E6, E7, E8, E9, List.map_cons, List.map_nil, List.cons_append, List.nil_append, List.append_nil, List.length_cons, List.length_nil, List.replicate_zero, List.replicate_succ, Nat.sub_self, Nat.zero_add, List.getElem?_cons_zero, List.getElem?_cons_succ, List.set_cons_zero, List.set_cons_succ, if_true, if_false, Bool.false_eq_true, decide_true, decide_false, Bool.not_true, Bool.not_false, decide_eq_true_eq, eq_self, Int.cast_ofNat_Int, Int.natCast_zero, Int.natCast_one, Nat.reduceLeDiff, Nat.reduceSub, Nat.reduceAdd, Nat.reduceLT, reduceIte, reduceCtorEq, Int.reduceEq, Int.reduceLT, Int.reduceLE, Int.reduceNeg, Int.reduceAdd, Int.reduceSub, Int.reduceMul, Int.reduceNe, Int.reduceBNe, Int.reduceBEq, f_has_room, idx_fm0, idx_fm1, idx_fm2, o1, o2, c, Bool.false_eq_true]
theorem hl_ok (h : Fm d m M) (h' : Fm d' m' M') : callK G (k + 8) i_is_harmless [fmD d m M, fmD d' m' M'] S = some (.bl (wtB d m M d' m' M' && (decide (2 * (d : Int) + 2 ≤ (d' : Int)) && rmB d m M d' m' M')), S) := by
  have e1 := within_ok (k := k) (S := S) h h'
  have e2 := room_ok (k := k + 6) (S := S) (d' := d') (m' := m') (M' := M') h
  have h3 := h.d2
  have o1 : mulOk 2 (d : Int) := Bd.mulOk (n := 2) (m := 40) (show (2 : Nat) < 2 ^ 2 by decide) (show ((d : Int)).natAbs < 2 ^ 40 by omega) (by decide)
  rw [call_fn g_is_harmless rfl]
  cases c1 : wtB d m M d' m' M' with
  | false =>
    rw [c1] at e1
    simp only [E1, E2, E3, E4, E5, E6, E7, E8, E9, List.map_cons, List.map_nil, List.cons_append, List.nil_append, List.append_nil, List.length_cons, List.length_nil, List.replicate_zero, List.replicate_succ, Nat.sub_self, Nat.zero_add, List.getElem?_cons_zero, List.getElem?_cons_succ, List.set_cons_zero, List.set_cons_succ, if_true, if_false, Bool.false_eq_true, decide_true, decide_false, Bool.not_true, Bool.not_false, decide_eq_true_eq, eq_self, Int.cast_ofNat_Int, Int.natCast_zero, Int.natCast_one, Nat.reduceLeDiff, Nat.reduceSub, Nat.reduceAdd, Nat.reduceLT, reduceIte, reduceCtorEq, Int.reduceEq, Int.reduceLT, Int.reduceLE, Int.reduceNeg, Int.reduceAdd, Int.reduceSub, Int.reduceMul, Int.reduceNe, Int.reduceBNe, Int.reduceBEq, f_is_harmless, e1, Bool.false_and, Bool.false_eq_true]
  | true =>
    rw [c1] at e1
    by_cases c2 : 2 * (d : Int) + 2 ≤ (d' : Int)
    · rw [decide_eq_true c2]
      simp only [E1, E2, E3, E4, E5, E6, E7, E8, E9, List.map_cons, List.map_nil, List.cons_append, List.nil_append, List.append_nil, List.length_cons, List.length_nil, List.replicate_zero, List.replicate_succ, Nat.sub_self, Nat.zero_add, List.getElem?_cons_zero, List.getElem?_cons_succ, List.set_cons_zero, List.set_cons_succ, if_true, if_false, Bool.false_eq_true, decide_true, decide_false, Bool.not_true, Bool.not_false, decide_eq_true_eq, eq_self, Int.cast_ofNat_Int, Int.natCast_zero, Int.natCast_one, Nat.reduceLeDiff, Nat.reduceSub, Nat.reduceAdd, Nat.reduceLT, reduceIte, reduceCtorEq, Int.reduceEq, Int.reduceLT, Int.reduceLE, Int.reduceNeg, Int.reduceAdd, Int.reduceSub, Int.reduceMul, Int.reduceNe, Int.reduceBNe, Int.reduceBEq, f_is_harmless, e1, e2, idx_fm0, o1, c2, Bool.true_and, ge_iff_le]
    · rw [decide_eq_false c2]
      simp only [E1, E2, E3, E4, E5, E6, E7, E8, E9, List.map_cons, List.map_nil, List.cons_append, List.nil_append, List.append_nil, List.length_cons, List.length_nil, List.replicate_zero, List.replicate_succ, Nat.sub_self, Nat.zero_add, List.getElem?_cons_zero, List.getElem?_cons_succ, List.set_cons_zero, List.set_cons_succ, if_true, if_false, Bool.false_eq_true, decide_true, decide_false, Bool.not_true, Bool.not_false, decide_eq_true_eq, eq_self, Int.cast_ofNat_Int, Int.natCast_zero, Int.natCast_one, Nat.reduceLeDiff, Nat.reduceSub, Nat.reduceAdd, Nat.reduceLT, reduceIte, reduceCtorEq, Int.reduceEq, Int.reduceLT, Int.reduceLE, Int.reduceNeg, Int.reduceAdd, Int.reduceSub, Int.reduceMul, Int.reduceNe, Int.reduceBNe, Int.reduceBEq, f_is_harmless, e1, idx_fm0, o1, c2, Bool.true_and, Bool.false_and, ge_iff_le, Bool.false_eq_true]
theorem inq_sm (h : InQ q) : Sm 100 q := by
  have b : ∀ x : Int, x.natAbs < 1000 → Bd 12 x := fun x h => Nat.lt_trans h (by decide)
  rcases h with ⟨k, j, k0, k1, j0, j1, rfl⟩ | ⟨k, k0, k1, rfl⟩
  · exact (Sm.div (b (k - 30) (by omega)) (b (1 + j) (by omega)) (by omega)).mono (by decide)
  · exact (Sm.div (b (k - 200) (by omega)) (b 128 (by decide)) (by decide)).mono (by decide)
theorem t1_0_ok (hL : IntL L) (ha : 0 ≤ i) : ∃ q, InQ q ∧ ∀ {x0 x2 x3 x4 x5 x6 x7 x8 x9 x10 x11 x12 x13 x14 : Option D}, evS G (callK G (k + 15)) t1_0 [x0, some (.ref 0), x2, x3, x4, x5, x6, x7, x8, x9, x10, x11, x12, x13, x14] (wC L i :: T) = some (.nx [x0, some (.ref 0), x2, x3, x4, x5, x6, some (fr q), x8, x9, x10, x11, x12, x13, x14], wC L (i + 4) :: T) := by
  obtain ⟨v1, h1, h2, h3⟩ := next_ok (k := k + 14) (T := T) (m := 60) hL (by decide) ha
  obtain ⟨v2, h4, h5, h6⟩ := next_ok (k := k + 14) (T := T) (a := i + 1) (m := 24) hL (by decide) (by omega)
  obtain ⟨v3, h7, h8, h9⟩ := next_ok (k := k + 14) (T := T) (a := i + 1 + 1) (m := 400) hL (by decide) (by omega)
  have b : ∀ x : Int, x.natAbs < 1000 → Bd 8999 x := fun x h => Bd.mono (n := 12) (Nat.lt_trans h (by decide)) (by decide)
  have e1 := fun S => least_ok (k := k + 14) (S := S) (u := v1 - 30) (l := 1 + v2) (by omega) (b _ (by omega))
  have e2 := fun S => least_ok (k := k + 14) (S := S) (u := v3 - 200) (l := 128) (by decide) (b _ (by decide))
  obtain ⟨z, hz, e3⟩ := pick_ok (k := k + 13) (T := T) (a := i + 1 + 1 + 1) (xs := [fr (Rat.divInt (v1 - 30) (1 + v2)), fr (Rat.divInt (v3 - 200) 128)]) hL (by simp) (by omega)
  have hq : ∃ q, InQ q ∧ z = fr q := by
    rcases List.mem_cons.mp hz with g | g
    · exact ⟨_, .inl ⟨v1, v2, h1, h2, h4, h5, rfl⟩, g⟩
    · rcases List.mem_cons.mp g with g | g
      · exact ⟨_, .inr ⟨v3, h7, h8, rfl⟩, g⟩
      · cases g
  obtain ⟨q, hq, rfl⟩ := hq
  rw [show i + 1 + 1 + 1 + 1 = i + 4 by omega] at e3
  refine ⟨q, hq, ?_⟩
  intros
  simp only [E1, E2, E3, E4, E5, E6, E7, E8, E9, List.map_cons, List.map_nil, List.cons_append, List.nil_append, List.append_nil, List.length_cons, List.length_nil, List.replicate_zero, List.replicate_succ, Nat.sub_self, Nat.zero_add, List.getElem?_cons_zero, List.getElem?_cons_succ, List.set_cons_zero, List.set_cons_succ, if_true, if_false, Bool.false_eq_true, decide_true, decide_false, Bool.not_true, Bool.not_false, decide_eq_true_eq, eq_self, Int.cast_ofNat_Int, Int.natCast_zero, Int.natCast_one, Nat.reduceLeDiff, Nat.reduceSub, Nat.reduceAdd, Nat.reduceLT, reduceIte, reduceCtorEq, Int.reduceEq, Int.reduceLT, Int.reduceLE, Int.reduceNeg, Int.reduceAdd, Int.reduceSub, Int.reduceMul, Int.reduceNe, Int.reduceBNe, Int.reduceBEq, t1_0, h3, h6, h9, e1, e2, e3]
theorem t1_1_ok (h : F22 d M d') (hw : way ∈ ways) (hq : InQ q) : evS G (callK G (k + 15)) t1_1 [x0, some (.ref 0), x2, some (fmD d (-2) M), some (.str way), some (fmD d' (-4) 3), x6, some (fr q), x8, x9, x10, x11, x12, x13, x14] S = some (.nx [x0, some (.ref 0), x2, some (fmD d (-2) M), some (.str way), some (fmD d' (-4) 3), x6, some (fr q), some (outN d' (-4) 3 way q 0), x9, x10, x11, x12, x13, x14], S) := by
  have e1 := lround_ok (k := k + 9) (S := S) (s := 0) h.fw ((inq_sm hq).mono (by decide)) hw
  simp only [E1, E2, E3, E4, E5, E6, E7, E8, E9, List.map_cons, List.map_nil, List.cons_append, List.nil_append, List.append_nil, List.length_cons, List.length_nil, List.replicate_zero, List.replicate_succ, Nat.sub_self, Nat.zero_add, List.getElem?_cons_zero, List.getElem?_cons_succ, List.set_cons_zero, List.set_cons_succ, if_true, if_false, Bool.false_eq_true, decide_true, decide_false, Bool.not_true, Bool.not_false, decide_eq_true_eq, eq_self, Int.cast_ofNat_Int, Int.natCast_zero, Int.natCast_one, Nat.reduceLeDiff, Nat.reduceSub, Nat.reduceAdd, Nat.reduceLT, reduceIte, reduceCtorEq, Int.reduceEq, Int.reduceLT, Int.reduceLE, Int.reduceNeg, Int.reduceAdd, Int.reduceSub, Int.reduceMul, Int.reduceNe, Int.reduceBNe, Int.reduceBEq, t1_1, e1, idx_out0]
theorem inNN_n : cmpD S .In (.str "number") (.tup [.str "number", .str "nothing"]) = some true := in_strT (xs := ["number", "nothing"]) (by decide +kernel) (by decide) (by decide +kernel)
theorem inNN_z : cmpD S .In (.str "nothing") (.tup [.str "number", .str "nothing"]) = some true := in_strT (xs := ["number", "nothing"]) (by decide +kernel) (by decide) (by decide +kernel)
theorem inNN_e : cmpD S .In (.str "endless") (.tup [.str "number", .str "nothing"]) = some false := in_strT (xs := ["number", "nothing"]) (by decide +kernel) (by decide) (by decide +kernel)
theorem inNN_o : cmpD S .In (.str "none") (.tup [.str "number", .str "nothing"]) = some false := in_strT (xs := ["number", "nothing"]) (by decide +kernel) (by decide) (by decide +kernel)
theorem t1_2_ok {z : D} (h : F22 d M d') (hw : way ∈ ways) (hz : Nn z) : evS G (callK G (k + 15)) t1_2 [x0, some (.ref 0), x2, some (fmD d (-2) M), some (.str way), some (fmD d' (-4) 3), x6, x7, some (z), x9, x10, x11, x12, x13, x14] S = some (.nx [x0, some (.ref 0), x2, some (fmD d (-2) M), some (.str way), some (fmD d' (-4) 3), x6, x7, some (z), some (cvN d (-2) M way z), x10, x11, x12, x13, x14], S) := by
  rcases hz with ⟨s, v, p, rfl, g1, g2, g3⟩ | ⟨s, rfl, g1⟩ | ⟨s, rfl⟩ | rfl
  · have e1 := lval_num (k := k + 13) (S := S) (s := s) (w := v) (p := p) g2 (by omega) g1
    have e2 := lround_ok (k := k + 9) (S := S) (s := s) h.fs.f (nm_sm (s := s) g2 g3) hw
    rw [cvN_n]
    simp only [E1, E2, E3, E4, E5, E6, E7, E8, E9, List.map_cons, List.map_nil, List.cons_append, List.nil_append, List.append_nil, List.length_cons, List.length_nil, List.replicate_zero, List.replicate_succ, Nat.sub_self, Nat.zero_add, List.getElem?_cons_zero, List.getElem?_cons_succ, List.set_cons_zero, List.set_cons_succ, if_true, if_false, Bool.false_eq_true, decide_true, decide_false, Bool.not_true, Bool.not_false, decide_eq_true_eq, eq_self, Int.cast_ofNat_Int, Int.natCast_zero, Int.natCast_one, Nat.reduceLeDiff, Nat.reduceSub, Nat.reduceAdd, Nat.reduceLT, reduceIte, reduceCtorEq, Int.reduceEq, Int.reduceLT, Int.reduceLE, Int.reduceNeg, Int.reduceAdd, Int.reduceSub, Int.reduceMul, Int.reduceNe, Int.reduceBNe, Int.reduceBEq, t1_2, idx_n0, idx_n1, inNN_n, e1, e2, idx_out0]
  · have e1 := lval_noth (k := k + 13) (S := S) (s := s)
    have e2 := lround_ok (k := k + 9) (S := S) (q := 0) (s := s) h.fs.f (by unfold Sm; exact ⟨by show 0 < 2 ^ 1000; exact Nat.pow_pos (by decide), by show 1 < 2 ^ 1000; exact Nat.one_lt_two_pow (by decide)⟩) hw
    have e3 : outN d (-2) M way 0 s = nothD s := by unfold outN; rw [if_pos (by decide +kernel)]
    rw [cvN_z]
    simp only [E1, E2, E3, E4, E5, E6, E7, E8, E9, List.map_cons, List.map_nil, List.cons_append, List.nil_append, List.append_nil, List.length_cons, List.length_nil, List.replicate_zero, List.replicate_succ, Nat.sub_self, Nat.zero_add, List.getElem?_cons_zero, List.getElem?_cons_succ, List.set_cons_zero, List.set_cons_succ, if_true, if_false, Bool.false_eq_true, decide_true, decide_false, Bool.not_true, Bool.not_false, decide_eq_true_eq, eq_self, Int.cast_ofNat_Int, Int.natCast_zero, Int.natCast_one, Nat.reduceLeDiff, Nat.reduceSub, Nat.reduceAdd, Nat.reduceLT, reduceIte, reduceCtorEq, Int.reduceEq, Int.reduceLT, Int.reduceLE, Int.reduceNeg, Int.reduceAdd, Int.reduceSub, Int.reduceMul, Int.reduceNe, Int.reduceBNe, Int.reduceBEq, t1_2, idx_z0, idx_z1, inNN_z, e1, e2, idx_out0, e3]
  · rw [cvN_e]
    simp only [E1, E2, E3, E4, E5, E6, E7, E8, E9, List.map_cons, List.map_nil, List.cons_append, List.nil_append, List.append_nil, List.length_cons, List.length_nil, List.replicate_zero, List.replicate_succ, Nat.sub_self, Nat.zero_add, List.getElem?_cons_zero, List.getElem?_cons_succ, List.set_cons_zero, List.set_cons_succ, if_true, if_false, Bool.false_eq_true, decide_true, decide_false, Bool.not_true, Bool.not_false, decide_eq_true_eq, eq_self, Int.cast_ofNat_Int, Int.natCast_zero, Int.natCast_one, Nat.reduceLeDiff, Nat.reduceSub, Nat.reduceAdd, Nat.reduceLT, reduceIte, reduceCtorEq, Int.reduceEq, Int.reduceLT, Int.reduceLE, Int.reduceNeg, Int.reduceAdd, Int.reduceSub, Int.reduceMul, Int.reduceNe, Int.reduceBNe, Int.reduceBEq, t1_2, idx_e0, inNN_e, Bool.false_eq_true]
  · rw [cvN_o]
    simp only [E1, E2, E3, E4, E5, E6, E7, E8, E9, List.map_cons, List.map_nil, List.cons_append, List.nil_append, List.append_nil, List.length_cons, List.length_nil, List.replicate_zero, List.replicate_succ, Nat.sub_self, Nat.zero_add, List.getElem?_cons_zero, List.getElem?_cons_succ, List.set_cons_zero, List.set_cons_succ, if_true, if_false, Bool.false_eq_true, decide_true, decide_false, Bool.not_true, Bool.not_false, decide_eq_true_eq, eq_self, Int.cast_ofNat_Int, Int.natCast_zero, Int.natCast_one, Nat.reduceLeDiff, Nat.reduceSub, Nat.reduceAdd, Nat.reduceLT, reduceIte, reduceCtorEq, Int.reduceEq, Int.reduceLT, Int.reduceLE, Int.reduceNeg, Int.reduceAdd, Int.reduceSub, Int.reduceMul, Int.reduceNe, Int.reduceBNe, Int.reduceBEq, t1_2, idx_o0, inNN_o, Bool.false_eq_true]
theorem t1_3_ok (h : F22 d M d') (hw : way ∈ ways) (hq : InQ q) : evS G (callK G (k + 15)) t1_3 [x0, some (.ref 0), x2, some (fmD d (-2) M), some (.str way), some (fmD d' (-4) 3), x6, some (fr q), x8, some (cvN d (-2) M way (outN d' (-4) 3 way q 0)), x10, x11, x12, x13, x14] S = some (.nx [x0, some (.ref 0), x2, some (fmD d (-2) M), some (.str way), some (fmD d' (-4) 3), x6, some (fr q), x8, some (cvN d (-2) M way (outN d' (-4) 3 way q 0)), x10, x11, x12, x13, x14], S) := by
  have sq := (inq_sm hq).mono (show 100 ≤ 1000 by decide)
  have e1 := rt_ok (k := k + 5) (S := S) h.fs.f h.fw hw sq
  have e2 := iu_ok (k := k + 4) (S := S) h.fs.f h.fw hw sq
  have e3 := lround_ok (k := k + 9) (S := S) (s := 0) h.fs.f sq hw
  have n1 : Nn (outN d' (-4) 3 way q 0) := outN_nn h.fw (.inl rfl)
  have n2 : Nn (outN d (-2) M way q 0) := outN_nn h.fs.f (.inl rfl)
  have n3 : Nn (cvN d (-2) M way (outN d' (-4) 3 way q 0)) := cv_nn h.fs.f n1
  have e4 := ne_nn (S := S) n3 n2
  have s1 := same_nn (k := k + 14) (S := S) n3
  have s2 := same_bl (k := k + 14) (S := S) (b := neB (cvN d (-2) M way (outN d' (-4) 3 way q 0)) (outN d (-2) M way q 0))
  simp only [E1, E2, E3, E4, E5, E6, E7, E8, E9, List.map_cons, List.map_nil, List.cons_append, List.nil_append, List.append_nil, List.length_cons, List.length_nil, List.replicate_zero, List.replicate_succ, Nat.sub_self, Nat.zero_add, List.getElem?_cons_zero, List.getElem?_cons_succ, List.set_cons_zero, List.set_cons_succ, if_true, if_false, Bool.false_eq_true, decide_true, decide_false, Bool.not_true, Bool.not_false, decide_eq_true_eq, eq_self, Int.cast_ofNat_Int, Int.natCast_zero, Int.natCast_one, Nat.reduceLeDiff, Nat.reduceSub, Nat.reduceAdd, Nat.reduceLT, reduceIte, reduceCtorEq, Int.reduceEq, Int.reduceLT, Int.reduceLE, Int.reduceNeg, Int.reduceAdd, Int.reduceSub, Int.reduceMul, Int.reduceNe, Int.reduceBNe, Int.reduceBEq, t1_3, e1, s1, e2, e3, idx_out0, e4, s2, Bool.not_true, Bool.false_eq_true]
theorem t1_4_ok (h : F22 d M d') (hw : way ∈ ways) (hq : InQ q) : evS G (callK G (k + 15)) t1_4 [x0, some (.ref 0), x2, some (fmD d (-2) M), some (.str way), some (fmD d' (-4) 3), x6, some (fr q), x8, some (cvN d (-2) M way (outN d' (-4) 3 way q 0)), x10, x11, x12, x13, x14] S = some (.nx [x0, some (.ref 0), x2, some (fmD d (-2) M), some (.str way), some (fmD d' (-4) 3), x6, some (fr q), x8, some (cvN d (-2) M way (outN d' (-4) 3 way q 0)), x10, x11, x12, x13, x14], S) := by
  have sq := (inq_sm hq).mono (show 100 ≤ 1000 by decide)
  have e1 := within_ok (k := k + 8) (S := S) h.fs.f h.fw
  have e3 := lround_ok (k := k + 9) (S := S) (s := 0) h.fs.f sq hw
  have n1 : Nn (outN d' (-4) 3 way q 0) := outN_nn h.fw (.inl rfl)
  have n2 : Nn (outN d (-2) M way q 0) := outN_nn h.fs.f (.inl rfl)
  have n3 : Nn (cvN d (-2) M way (outN d' (-4) 3 way q 0)) := cv_nn h.fs.f n1
  have e4 := ne_nn (S := S) n3 n2
  have o1 := (inq_sm hq).nm.mulOk (inq_sm hq).nm (by decide)
  have o2 := (inq_sm hq).dn.mulOk (inq_sm hq).dn (by decide)
  have hin : ∃ b, cmpD S .In (.str way) (.tup [.str "up", .str "down", .str "cut"]) = some b ∧ (b = true → way ∈ (["up", "down", "cut"] : List Str)) := by
    rcases w_cases hw with rfl | rfl | rfl | rfl | rfl
    · exact ⟨false, in_strT (xs := ["up", "down", "cut"]) (by decide +kernel) (by decide) (by decide +kernel), fun g => by cases g⟩
    · exact ⟨false, in_strT (xs := ["up", "down", "cut"]) (by decide +kernel) (by decide) (by decide +kernel), fun g => by cases g⟩
    · exact ⟨true, in_strT (xs := ["up", "down", "cut"]) (by decide +kernel) (by decide) (by decide +kernel), fun _ => List.mem_cons_self⟩
    · exact ⟨true, in_strT (xs := ["up", "down", "cut"]) (by decide +kernel) (by decide) (by decide +kernel), fun _ => List.mem_cons_of_mem _ List.mem_cons_self⟩
    · exact ⟨true, in_strT (xs := ["up", "down", "cut"]) (by decide +kernel) (by decide) (by decide +kernel), fun _ => List.mem_cons_of_mem _ (List.mem_cons_of_mem _ List.mem_cons_self)⟩
  obtain ⟨b, hb, hb2⟩ := hin
  cases b with
  | false => simp only [E1, E2, E3, E4, E5, E6, E7, E8, E9, List.map_cons, List.map_nil, List.cons_append, List.nil_append, List.append_nil, List.length_cons, List.length_nil, List.replicate_zero, List.replicate_succ, Nat.sub_self, Nat.zero_add, List.getElem?_cons_zero, List.getElem?_cons_succ, List.set_cons_zero, List.set_cons_succ, if_true, if_false, Bool.false_eq_true, decide_true, decide_false, Bool.not_true, Bool.not_false, decide_eq_true_eq, eq_self, Int.cast_ofNat_Int, Int.natCast_zero, Int.natCast_one, Nat.reduceLeDiff, Nat.reduceSub, Nat.reduceAdd, Nat.reduceLT, reduceIte, reduceCtorEq, Int.reduceEq, Int.reduceLT, Int.reduceLE, Int.reduceNeg, Int.reduceAdd, Int.reduceSub, Int.reduceMul, Int.reduceNe, Int.reduceBNe, Int.reduceBEq, t1_4, hb, Bool.false_eq_true]
  | true =>
    cases c : wtB d (-2) M d' (-4) 3 with
    | false =>
      rw [c] at e1
      simp only [E1, E2, E3, E4, E5, E6, E7, E8, E9, List.map_cons, List.map_nil, List.cons_append, List.nil_append, List.append_nil, List.length_cons, List.length_nil, List.replicate_zero, List.replicate_succ, Nat.sub_self, Nat.zero_add, List.getElem?_cons_zero, List.getElem?_cons_succ, List.set_cons_zero, List.set_cons_succ, if_true, if_false, Bool.false_eq_true, decide_true, decide_false, Bool.not_true, Bool.not_false, decide_eq_true_eq, eq_self, Int.cast_ofNat_Int, Int.natCast_zero, Int.natCast_one, Nat.reduceLeDiff, Nat.reduceSub, Nat.reduceAdd, Nat.reduceLT, reduceIte, reduceCtorEq, Int.reduceEq, Int.reduceLT, Int.reduceLE, Int.reduceNeg, Int.reduceAdd, Int.reduceSub, Int.reduceMul, Int.reduceNe, Int.reduceBNe, Int.reduceBEq, t1_4, hb, e1, Bool.false_eq_true]
    | true =>
      rw [c] at e1
      by_cases c2 : q.num * q.num < (q.den : Int) * (q.den : Int)
      · rw [dir_ok h hq (hb2 rfl) c2, ne_self n2] at e4
        simp only [E1, E2, E3, E4, E5, E6, E7, E8, E9, List.map_cons, List.map_nil, List.cons_append, List.nil_append, List.append_nil, List.length_cons, List.length_nil, List.replicate_zero, List.replicate_succ, Nat.sub_self, Nat.zero_add, List.getElem?_cons_zero, List.getElem?_cons_succ, List.set_cons_zero, List.set_cons_succ, if_true, if_false, Bool.false_eq_true, decide_true, decide_false, Bool.not_true, Bool.not_false, decide_eq_true_eq, eq_self, Int.cast_ofNat_Int, Int.natCast_zero, Int.natCast_one, Nat.reduceLeDiff, Nat.reduceSub, Nat.reduceAdd, Nat.reduceLT, reduceIte, reduceCtorEq, Int.reduceEq, Int.reduceLT, Int.reduceLE, Int.reduceNeg, Int.reduceAdd, Int.reduceSub, Int.reduceMul, Int.reduceNe, Int.reduceBNe, Int.reduceBEq, t1_4, hb, e1, idx_fr0, idx_fr1, o1, o2, c2, e3, idx_out0, dir_ok h hq (hb2 rfl) c2, e4, Bool.false_eq_true]
      · simp only [E1, E2, E3, E4, E5, E6, E7, E8, E9, List.map_cons, List.map_nil, List.cons_append, List.nil_append, List.append_nil, List.length_cons, List.length_nil, List.replicate_zero, List.replicate_succ, Nat.sub_self, Nat.zero_add, List.getElem?_cons_zero, List.getElem?_cons_succ, List.set_cons_zero, List.set_cons_succ, if_true, if_false, Bool.false_eq_true, decide_true, decide_false, Bool.not_true, Bool.not_false, decide_eq_true_eq, eq_self, Int.cast_ofNat_Int, Int.natCast_zero, Int.natCast_one, Nat.reduceLeDiff, Nat.reduceSub, Nat.reduceAdd, Nat.reduceLT, reduceIte, reduceCtorEq, Int.reduceEq, Int.reduceLT, Int.reduceLE, Int.reduceNeg, Int.reduceAdd, Int.reduceSub, Int.reduceMul, Int.reduceNe, Int.reduceBNe, Int.reduceBEq, t1_4, hb, e1, idx_fr0, idx_fr1, o1, o2, c2, Bool.false_eq_true]
theorem turn1_ok (h : F22 d M d') (hL : IntL L) (ha : 0 ≤ i) (hw : way ∈ ways) : ∃ (y7 y8 y9 : Option D) (j : Int), 0 ≤ j ∧ evSs G (callK G (k + 15)) b_law_1 [x0, some (.ref 0), x2, some (fmD d (-2) M), some (.str way), some (fmD d' (-4) 3), x6, x7, x8, x9, x10, x11, x12, x13, x14] (wC L i :: T) = some (.nx [x0, some (.ref 0), x2, some (fmD d (-2) M), some (.str way), some (fmD d' (-4) 3), x6, y7, y8, y9, x10, x11, x12, x13, x14], wC L j :: T) := by
  obtain ⟨q, hq, e0⟩ := t1_0_ok (k := k) (T := T) hL ha
  have n1 : Nn (outN d' (-4) 3 way q 0) := outN_nn h.fw (.inl rfl)
  refine ⟨some (fr q), some (outN d' (-4) 3 way q 0), some (cvN d (-2) M way (outN d' (-4) 3 way q 0)), i + 4, by omega, ?_⟩
  rw [t1_eq, ev_sC, e0, sq_nx, ev_sC, t1_1_ok h hw hq, sq_nx, ev_sC, t1_2_ok h hw n1, sq_nx, ev_sC, t1_3_ok h hw hq, sq_nx, ev_sC, t1_4_ok h hw hq, sq_nx, ev_sN]
theorem t2_0_ok : evS G (callK G (k + 15)) t2_0 [x0, some (.ref 0), x2, some (fmD d (-2) M), some (.str way), some (fmD d' (-4) 3), x6, x7, x8, x9, some (.lst (rowsL d (-2) (cnt d (-2) M))), some (fmD (2 * d + 2) (-40) 40), some (.str (kS kn)), x13, x14] S = some (.nx [x0, some (.ref 0), x2, some (fmD d (-2) M), some (.str way), some (fmD d' (-4) 3), x6, x7, x8, x9, some (.lst (rowsL d (-2) (cnt d (-2) M))), some (fmD (2 * d + 2) (-40) 40), some (.str (kS kn)), some (.non), x14], S) := by
  simp only [E1, E2, E3, E4, E5, E6, E7, E8, E9, List.map_cons, List.map_nil, List.cons_append, List.nil_append, List.append_nil, List.length_cons, List.length_nil, List.replicate_zero, List.replicate_succ, Nat.sub_self, Nat.zero_add, List.getElem?_cons_zero, List.getElem?_cons_succ, List.set_cons_zero, List.set_cons_succ, if_true, if_false, Bool.false_eq_true, decide_true, decide_false, Bool.not_true, Bool.not_false, decide_eq_true_eq, eq_self, Int.cast_ofNat_Int, Int.natCast_zero, Int.natCast_one, Nat.reduceLeDiff, Nat.reduceSub, Nat.reduceAdd, Nat.reduceLT, reduceIte, reduceCtorEq, Int.reduceEq, Int.reduceLT, Int.reduceLE, Int.reduceNeg, Int.reduceAdd, Int.reduceSub, Int.reduceMul, Int.reduceNe, Int.reduceBNe, Int.reduceBEq, t2_0]
theorem t2_1_ok (h : F22 d M d') (hw : way ∈ ways) (hk : kn < 4) : ∃ y7 y14, evS G (callK G (k + 15)) t2_1 [x0, some (.ref 0), x2, some (fmD d (-2) M), some (.str way), some (fmD d' (-4) 3), x6, x7, x8, x9, some (.lst (rowsL d (-2) (cnt d (-2) M))), some (fmD (2 * d + 2) (-40) 40), some (.str (kS kn)), some (.non), x14] S = some (.nx [x0, some (.ref 0), x2, some (fmD d (-2) M), some (.str way), some (fmD d' (-4) 3), x6, y7, x8, x9, some (.lst (rowsL d (-2) (cnt d (-2) M))), some (fmD (2 * d + 2) (-40) 40), some (.str (kS kn)), some (ffD d (-2) (firstF (unB kn d (-2) M d' (-4) 3 way d (-2)) (cnt d (-2) M))), y14], S) := by
  obtain ⟨z7, z14, e⟩ := lf_all (k := k) (S := S) (x0 := x0) (x2 := x2) (x6 := x6) (x8 := x8) (x9 := x9) (x1 := some (.ref 0)) (x11 := some (fmD (2 * d + 2) (-40) 40)) h.fs h.fw hw hk (rowsL d (-2) (cnt d (-2) M)) (List.range (cnt d (-2) M)) none x7 x14 fun z hz => List.mem_range.mp hz
  rw [show (List.range (cnt d (-2) M)).map (rowD d (-2)) = rowsL d (-2) (cnt d (-2) M) from rfl, Option.none_or, ffD_0] at e
  refine ⟨z7, z14, ?_⟩
  unfold firstF
  simp only [E1, E2, E3, E4, E5, E6, E7, E8, E9, List.map_cons, List.map_nil, List.cons_append, List.nil_append, List.append_nil, List.length_cons, List.length_nil, List.replicate_zero, List.replicate_succ, Nat.sub_self, Nat.zero_add, List.getElem?_cons_zero, List.getElem?_cons_succ, List.set_cons_zero, List.set_cons_succ, if_true, if_false, Bool.false_eq_true, decide_true, decide_false, Bool.not_true, Bool.not_false, decide_eq_true_eq, eq_self, Int.cast_ofNat_Int, Int.natCast_zero, Int.natCast_one, Nat.reduceLeDiff, Nat.reduceSub, Nat.reduceAdd, Nat.reduceLT, reduceIte, reduceCtorEq, Int.reduceEq, Int.reduceLT, Int.reduceLE, Int.reduceNeg, Int.reduceAdd, Int.reduceSub, Int.reduceMul, Int.reduceNe, Int.reduceBNe, Int.reduceBEq, t2_1, e]
theorem t2_2_ok (h : F22 d M d') (hw : way ∈ ways) (hk : kn < 4) : evS G (callK G (k + 15)) t2_2 [x0, some (.ref 0), x2, some (fmD d (-2) M), some (.str way), some (fmD d' (-4) 3), x6, x7, x8, x9, some (.lst (rowsL d (-2) (cnt d (-2) M))), some (fmD (2 * d + 2) (-40) 40), some (.str (kS kn)), some (ffD d (-2) (firstF (unB kn d (-2) M d' (-4) 3 way d (-2)) (cnt d (-2) M))), x14] S = some (.nx [x0, some (.ref 0), x2, some (fmD d (-2) M), some (.str way), some (fmD d' (-4) 3), x6, x7, x8, x9, some (.lst (rowsL d (-2) (cnt d (-2) M))), some (fmD (2 * d + 2) (-40) 40), some (.str (kS kn)), some (ffD d (-2) (firstF (unB kn d (-2) M d' (-4) 3 way d (-2)) (cnt d (-2) M))), x14], S) := by
  have e1 := fu_ok (k := k + 2) (S := S) h.fs h.fw hw hk
  have e2 := fu_ok (k := k + 2) (S := S) h.fs h.fb hw hk
  have hn : firstF (unB kn d (-2) M (2 * d + 2) (-40) 40 way d (-2)) (cnt d (-2) M) = none := first_none fun i hi j hj => by
    unfold unB
    rw [harm_ok h hw hk hi hj]
    exact ne_self (dn_nn h.fs.f)
  rw [hn, ffD_0] at e2
  have s1 := same_ff (k := k + 14) (S := S) (o := firstF (unB kn d (-2) M d' (-4) 3 way d (-2)) (cnt d (-2) M)) h.fs fun p hp => first_in hp
  have b1 : isNone D.non = true := rfl
  simp only [E1, E2, E3, E4, E5, E6, E7, E8, E9, List.map_cons, List.map_nil, List.cons_append, List.nil_append, List.append_nil, List.length_cons, List.length_nil, List.replicate_zero, List.replicate_succ, Nat.sub_self, Nat.zero_add, List.getElem?_cons_zero, List.getElem?_cons_succ, List.set_cons_zero, List.set_cons_succ, if_true, if_false, Bool.false_eq_true, decide_true, decide_false, Bool.not_true, Bool.not_false, decide_eq_true_eq, eq_self, Int.cast_ofNat_Int, Int.natCast_zero, Int.natCast_one, Nat.reduceLeDiff, Nat.reduceSub, Nat.reduceAdd, Nat.reduceLT, reduceIte, reduceCtorEq, Int.reduceEq, Int.reduceLT, Int.reduceLE, Int.reduceNeg, Int.reduceAdd, Int.reduceSub, Int.reduceMul, Int.reduceNe, Int.reduceBNe, Int.reduceBEq, t2_2, e1, s1, e2, b1, Bool.not_true, Bool.false_eq_true]
theorem rows_mem {z : D} (h : z ∈ rowsL d m n) : ∃ j, j < n ∧ z = rowD d m j := by
  unfold rowsL at h
  obtain ⟨j, h1, h2⟩ := List.mem_map.mp h
  exact ⟨j, List.mem_range.mp h1, h2.symm⟩
theorem rows_ne (h : 0 < n) : rowsL d m n ≠ [] := fun e => by
  have : (rowsL d m n).length = 0 := by rw [e]; rfl
  rw [rows_len] at this
  omega
theorem t2_3_ok (hL : IntL L) (ha : 0 ≤ i) : ∃ a b : Nat, a < cnt d (-2) M ∧ b < cnt d (-2) M ∧ ∀ {x0 x2 x3 x4 x5 x6 x7 x8 x9 x11 x12 x13 x14 : Option D}, evS G (callK G (k + 15)) t2_3 [x0, some (.ref 0), x2, x3, x4, x5, x6, x7, x8, x9, some (.lst (rowsL d (-2) (cnt d (-2) M))), x11, x12, x13, x14] (wC L i :: T) = some (.nx [x0, some (.ref 0), x2, x3, x4, x5, x6, some (rowD d (-2) a), x8, x9, some (.lst (rowsL d (-2) (cnt d (-2) M))), x11, x12, x13, some (rowD d (-2) b)], wC L (i + 2) :: T) := by
  obtain ⟨z1, g1, e1⟩ := pick_ok (k := k + 13) (T := T) (a := i) (xs := rowsL d (-2) (cnt d (-2) M)) hL (rows_ne cnt_pos) ha
  obtain ⟨z2, g2, e2⟩ := pick_ok (k := k + 13) (T := T) (a := i + 1) (xs := rowsL d (-2) (cnt d (-2) M)) hL (rows_ne cnt_pos) (by omega)
  obtain ⟨a, ha, rfl⟩ := rows_mem g1
  obtain ⟨b, hb, rfl⟩ := rows_mem g2
  rw [show i + 1 + 1 = i + 2 by omega] at e2
  refine ⟨a, b, ha, hb, ?_⟩
  intros
  simp only [E1, E2, E3, E4, E5, E6, E7, E8, E9, List.map_cons, List.map_nil, List.cons_append, List.nil_append, List.append_nil, List.length_cons, List.length_nil, List.replicate_zero, List.replicate_succ, Nat.sub_self, Nat.zero_add, List.getElem?_cons_zero, List.getElem?_cons_succ, List.set_cons_zero, List.set_cons_succ, if_true, if_false, Bool.false_eq_true, decide_true, decide_false, Bool.not_true, Bool.not_false, decide_eq_true_eq, eq_self, Int.cast_ofNat_Int, Int.natCast_zero, Int.natCast_one, Nat.reduceLeDiff, Nat.reduceSub, Nat.reduceAdd, Nat.reduceLT, reduceIte, reduceCtorEq, Int.reduceEq, Int.reduceLT, Int.reduceLE, Int.reduceNeg, Int.reduceAdd, Int.reduceSub, Int.reduceMul, Int.reduceNe, Int.reduceBNe, Int.reduceBEq, t2_3, e1, e2]
theorem t2_4_ok {a b : Nat} (h : F22 d M d') (hw : way ∈ ways) (hk : kn < 4) (ha : a < cnt d (-2) M) (hb : b < cnt d (-2) M) : evS G (callK G (k + 15)) t2_4 [x0, some (.ref 0), x2, some (fmD d (-2) M), some (.str way), some (fmD d' (-4) 3), x6, some (rowD d (-2) a), x8, x9, some (.lst (rowsL d (-2) (cnt d (-2) M))), some (fmD (2 * d + 2) (-40) 40), some (.str (kS kn)), x13, some (rowD d (-2) b)] S = some (.nx [x0, some (.ref 0), x2, some (fmD d (-2) M), some (.str way), some (fmD d' (-4) 3), x6, some (rowD d (-2) a), x8, x9, some (.lst (rowsL d (-2) (cnt d (-2) M))), some (fmD (2 * d + 2) (-40) 40), some (.str (kS kn)), x13, some (rowD d (-2) b)], S) := by
  have e1 := done_in_ok (k := k + 4) (S := S) h.fs h.fs.f hw ha hb hk
  have e2 := law_done_ok (k := k + 4) (S := S) h.fs h.fs.f hw ha hb hk
  have n1 : Nn (dnN kn d (-2) M way d (-2) a b) := dn_nn h.fs.f
  have s1 := same_nn (k := k + 14) (S := S) n1
  simp only [E1, E2, E3, E4, E5, E6, E7, E8, E9, List.map_cons, List.map_nil, List.cons_append, List.nil_append, List.append_nil, List.length_cons, List.length_nil, List.replicate_zero, List.replicate_succ, Nat.sub_self, Nat.zero_add, List.getElem?_cons_zero, List.getElem?_cons_succ, List.set_cons_zero, List.set_cons_succ, if_true, if_false, Bool.false_eq_true, decide_true, decide_false, Bool.not_true, Bool.not_false, decide_eq_true_eq, eq_self, Int.cast_ofNat_Int, Int.natCast_zero, Int.natCast_one, Nat.reduceLeDiff, Nat.reduceSub, Nat.reduceAdd, Nat.reduceLT, reduceIte, reduceCtorEq, Int.reduceEq, Int.reduceLT, Int.reduceLE, Int.reduceNeg, Int.reduceAdd, Int.reduceSub, Int.reduceMul, Int.reduceNe, Int.reduceBNe, Int.reduceBEq, t2_4, e1, e2, s1, Bool.not_true, Bool.false_eq_true]
theorem t2_5_ok {a b : Nat} (h : F22 d M d') (hw : way ∈ ways) (hk : kn < 4) (ha : a < cnt d (-2) M) (hb : b < cnt d (-2) M) : evS G (callK G (k + 15)) t2_5 [x0, some (.ref 0), x2, some (fmD d (-2) M), some (.str way), some (fmD d' (-4) 3), x6, some (rowD d (-2) a), x8, x9, some (.lst (rowsL d (-2) (cnt d (-2) M))), some (fmD (2 * d + 2) (-40) 40), some (.str (kS kn)), x13, some (rowD d (-2) b)] S = some (.nx [x0, some (.ref 0), x2, some (fmD d (-2) M), some (.str way), some (fmD d' (-4) 3), x6, some (rowD d (-2) a), x8, x9, some (.lst (rowsL d (-2) (cnt d (-2) M))), some (fmD (2 * d + 2) (-40) 40), some (.str (kS kn)), x13, some (rowD d (-2) b)], S) := by
  have e1 := twice_ok (k := k + 3) (S := S) h.fs h.fs.f h.fw hw ha hb hk
  have e2 := law_done_ok (k := k + 4) (S := S) h.fs h.fw hw ha hb hk
  have n1 : Nn (dnN kn d' (-4) 3 way d (-2) a b) := dn_nn h.fw
  have e3 := converted_ok (k := k + 6) (S := S) h.fs.f hw n1
  have n2 : Nn (cvN d (-2) M way (dnN kn d' (-4) 3 way d (-2) a b)) := cv_nn h.fs.f n1
  have s1 := same_nn (k := k + 14) (S := S) n2
  simp only [E1, E2, E3, E4, E5, E6, E7, E8, E9, List.map_cons, List.map_nil, List.cons_append, List.nil_append, List.append_nil, List.length_cons, List.length_nil, List.replicate_zero, List.replicate_succ, Nat.sub_self, Nat.zero_add, List.getElem?_cons_zero, List.getElem?_cons_succ, List.set_cons_zero, List.set_cons_succ, if_true, if_false, Bool.false_eq_true, decide_true, decide_false, Bool.not_true, Bool.not_false, decide_eq_true_eq, eq_self, Int.cast_ofNat_Int, Int.natCast_zero, Int.natCast_one, Nat.reduceLeDiff, Nat.reduceSub, Nat.reduceAdd, Nat.reduceLT, reduceIte, reduceCtorEq, Int.reduceEq, Int.reduceLT, Int.reduceLE, Int.reduceNeg, Int.reduceAdd, Int.reduceSub, Int.reduceMul, Int.reduceNe, Int.reduceBNe, Int.reduceBEq, t2_5, e1, e2, e3, idx_cv n1, s1, Bool.not_true, Bool.false_eq_true]
theorem turn2_ok (h : F22 d M d') (hL : IntL L) (ha : 0 ≤ i) (hw : way ∈ ways) (hk : kn < 4) : ∃ (y7 y13 y14 : Option D) (j : Int), 0 ≤ j ∧ evSs G (callK G (k + 15)) b_law_2 [x0, some (.ref 0), x2, some (fmD d (-2) M), some (.str way), some (fmD d' (-4) 3), x6, x7, x8, x9, some (.lst (rowsL d (-2) (cnt d (-2) M))), some (fmD (2 * d + 2) (-40) 40), some (.str (kS kn)), x13, x14] (wC L i :: T) = some (.nx [x0, some (.ref 0), x2, some (fmD d (-2) M), some (.str way), some (fmD d' (-4) 3), x6, y7, x8, x9, some (.lst (rowsL d (-2) (cnt d (-2) M))), some (fmD (2 * d + 2) (-40) 40), some (.str (kS kn)), y13, y14], wC L j :: T) := by
  obtain ⟨y7, y14, e1⟩ := t2_1_ok (k := k) (S := wC L i :: T) (x0 := x0) (x2 := x2) (x6 := x6) (x7 := x7) (x8 := x8) (x9 := x9) (x14 := x14) h hw hk
  obtain ⟨a, b, h1, h2, e3⟩ := t2_3_ok (k := k) (T := T) (d := d) (M := M) hL ha
  refine ⟨some (rowD d (-2) a), some (ffD d (-2) (firstF (unB kn d (-2) M d' (-4) 3 way d (-2)) (cnt d (-2) M))), some (rowD d (-2) b), i + 2, by omega, ?_⟩
  rw [t2_eq, ev_sC, t2_0_ok, sq_nx, ev_sC, e1, sq_nx, ev_sC, t2_2_ok h hw hk, sq_nx, ev_sC, e3, sq_nx, ev_sC, t2_4_ok h hw hk h1 h2, sq_nx, ev_sC, t2_5_ok h hw hk h1 h2, sq_nx, ev_sN]
end
end Rw.Pk22

set_option exponentiation.threshold 300
namespace Rw.Pk22
open PySem L2 Rw
section
variable {k : Nat} {S T : Sto} {d d' n : Nat} {m M m' M' i : Int} {way : Str} {L : List D} {q : Rat} {kn : Nat} {x0 x1 x2 x3 x4 x5 x6 x7 x8 x9 x10 x11 x12 x13 x14 : Option D}
theorem l1_ok (hL : IntL L) (ha : 0 ≤ i) : ∃ d : Nat, (d = 2 ∨ d = 3) ∧ evS G (callK G (k + 15)) s_law_0_1 [x0, some (.ref 0), x2, x3, x4, x5, x6, x7, x8, x9, x10, x11, x12, x13, x14] (wC L i :: T) = some (.nx [x0, some (.ref 0), some (.int (d : Int)), x3, x4, x5, x6, x7, x8, x9, x10, x11, x12, x13, x14], wC L (i + 1) :: T) := by
  obtain ⟨v1, h1, h2, h3⟩ := next_ok (k := k + 14) (T := T) (m := 2) hL (by decide) ha
  refine ⟨(2 + v1).toNat, by omega, ?_⟩
  rw [show (((2 + v1).toNat : Nat) : Int) = 2 + v1 by omega]
  simp only [E1, E2, E3, E4, E5, E6, E7, E8, E9, List.map_cons, List.map_nil, List.cons_append, List.nil_append, List.append_nil, List.length_cons, List.length_nil, List.replicate_zero, List.replicate_succ, Nat.sub_self, Nat.zero_add, List.getElem?_cons_zero, List.getElem?_cons_succ, List.set_cons_zero, List.set_cons_succ, if_true, if_false, Bool.false_eq_true, decide_true, decide_false, Bool.not_true, Bool.not_false, decide_eq_true_eq, eq_self, Int.cast_ofNat_Int, Int.natCast_zero, Int.natCast_one, Nat.reduceLeDiff, Nat.reduceSub, Nat.reduceAdd, Nat.reduceLT, reduceIte, reduceCtorEq, Int.reduceEq, Int.reduceLT, Int.reduceLE, Int.reduceNeg, Int.reduceAdd, Int.reduceSub, Int.reduceMul, Int.reduceNe, Int.reduceBNe, Int.reduceBEq, s_law_0_1, h3]
theorem l2_ok (hL : IntL L) (ha : 0 ≤ i) : ∃ (M : Int) (way : Str), (M = 0 ∨ M = 1) ∧ way ∈ ways ∧ evS G (callK G (k + 15)) s_law_0_2 [x0, some (.ref 0), some (.int (d : Int)), x3, x4, x5, x6, x7, x8, x9, x10, x11, x12, x13, x14] (wC L i :: T) = some (.nx [x0, some (.ref 0), some (.int (d : Int)), some (fmD d (-2) M), some (.str way), x5, x6, x7, x8, x9, x10, x11, x12, x13, x14], wC L (i + 1 + 1) :: T) := by
  obtain ⟨v1, h1, h2, h3⟩ := next_ok (k := k + 14) (T := T) (m := 2) hL (by decide) ha
  obtain ⟨z, hz, e⟩ := pick_ok (k := k + 13) (T := T) (a := i + 1) (xs := [.str "even", .str "away", .str "up", .str "down", .str "cut"]) hL (by simp) (by omega)
  have hw : ∃ way, way ∈ ways ∧ z = .str way := by
    have : z ∈ ways.map D.str := hz
    obtain ⟨y, h1, h2⟩ := List.mem_map.mp this
    exact ⟨y, h1, h2.symm⟩
  obtain ⟨way, hw, rfl⟩ := hw
  refine ⟨v1, way, by omega, hw, ?_⟩
  unfold fmD
  simp only [E1, E2, E3, E4, E5, E6, E7, E8, E9, List.map_cons, List.map_nil, List.cons_append, List.nil_append, List.append_nil, List.length_cons, List.length_nil, List.replicate_zero, List.replicate_succ, Nat.sub_self, Nat.zero_add, List.getElem?_cons_zero, List.getElem?_cons_succ, List.set_cons_zero, List.set_cons_succ, if_true, if_false, Bool.false_eq_true, decide_true, decide_false, Bool.not_true, Bool.not_false, decide_eq_true_eq, eq_self, Int.cast_ofNat_Int, Int.natCast_zero, Int.natCast_one, Nat.reduceLeDiff, Nat.reduceSub, Nat.reduceAdd, Nat.reduceLT, reduceIte, reduceCtorEq, Int.reduceEq, Int.reduceLT, Int.reduceLE, Int.reduceNeg, Int.reduceAdd, Int.reduceSub, Int.reduceMul, Int.reduceNe, Int.reduceBNe, Int.reduceBEq, s_law_0_2, h3, e]
theorem l3_ok (hL : IntL L) (ha : 0 ≤ i) : ∃ d' : Nat, (d' = d + 1 ∨ d' = d + 2) ∧ evS G (callK G (k + 15)) s_law_0_3 [x0, some (.ref 0), some (.int (d : Int)), some (fmD d (-2) M), some (.str way), x5, x6, x7, x8, x9, x10, x11, x12, x13, x14] (wC L i :: T) = some (.nx [x0, some (.ref 0), some (.int (d : Int)), some (fmD d (-2) M), some (.str way), some (fmD d' (-4) 3), x6, x7, x8, x9, x10, x11, x12, x13, x14], wC L (i + 1) :: T) := by
  obtain ⟨v1, h1, h2, h3⟩ := next_ok (k := k + 14) (T := T) (m := 2) hL (by decide) ha
  refine ⟨((d : Int) + 1 + v1).toNat, by omega, ?_⟩
  have e : (((((d : Int) + 1 + v1).toNat) : Nat) : Int) = (d : Int) + 1 + v1 := by omega
  unfold fmD
  rw [e]
  simp only [E1, E2, E3, E4, E5, E6, E7, E8, E9, List.map_cons, List.map_nil, List.cons_append, List.nil_append, List.append_nil, List.length_cons, List.length_nil, List.replicate_zero, List.replicate_succ, Nat.sub_self, Nat.zero_add, List.getElem?_cons_zero, List.getElem?_cons_succ, List.set_cons_zero, List.set_cons_succ, if_true, if_false, Bool.false_eq_true, decide_true, decide_false, Bool.not_true, Bool.not_false, decide_eq_true_eq, eq_self, Int.cast_ofNat_Int, Int.natCast_zero, Int.natCast_one, Nat.reduceLeDiff, Nat.reduceSub, Nat.reduceAdd, Nat.reduceLT, reduceIte, reduceCtorEq, Int.reduceEq, Int.reduceLT, Int.reduceLE, Int.reduceNeg, Int.reduceAdd, Int.reduceSub, Int.reduceMul, Int.reduceNe, Int.reduceBNe, Int.reduceBEq, s_law_0_3, h3]
theorem wtb_1 (h : F22 d M d') : wtB d (-2) M (2 * d + 2) (-40) 40 = true := by
  rcases h.hd with rfl | rfl <;> rcases h.hM with rfl | rfl <;> decide +kernel
theorem rmb_1 (h : F22 d M d') : rmB d (-2) M (2 * d + 2) (-40) 40 = true := by
  rcases h.hd with rfl | rfl <;> rcases h.hM with rfl | rfl <;> decide +kernel
theorem rmb_2 (h : F22 d M d') : rmB d (-2) M (2 * d + 2) (-2) 40 = false := by
  rcases h.hd with rfl | rfl <;> rcases h.hM with rfl | rfl <;> decide +kernel
theorem s7_ok (h : F22 d M d') : evS G (callK G (k + 15)) s_law_0_7 [x0, some (.ref 0), some (.int (d : Int)), some (fmD d (-2) M), some (.str way), some (fmD d' (-4) 3), x6, x7, x8, x9, some (.lst (rowsL d (-2) (cnt d (-2) M))), some (fmD (2 * d + 2) (-40) 40), x12, x13, x14] S = some (.nx [x0, some (.ref 0), some (.int (d : Int)), some (fmD d (-2) M), some (.str way), some (fmD d' (-4) 3), x6, x7, x8, x9, some (.lst (rowsL d (-2) (cnt d (-2) M))), some (fmD (2 * d + 2) (-40) 40), x12, x13, x14], S) := by
  have hd := h.hd
  have hM := h.hM
  have f1 : Fm (2 * d + 1) (-40) 40 := ⟨by omega, by omega, by omega, by omega, by omega⟩
  have f2 : Fm (2 * d + 2) (-2) 40 := ⟨by omega, by omega, by omega, by omega, by omega⟩
  have e1 := hl_ok (k := k + 7) (S := S) h.fs.f h.fb
  rw [wtb_1 h, rmb_1 h, decide_eq_true (show 2 * (d : Int) + 2 ≤ ((2 * d + 2 : Nat) : Int) by omega)] at e1
  have e2 := room_ok (k := k + 14) (S := S) (d' := 2 * d + 2) (m' := -40) (M' := 40) h.fs.f
  rw [rmb_1 h] at e2
  have e3 := hl_ok (k := k + 7) (S := S) h.fs.f f1
  rw [decide_eq_false (show ¬ 2 * (d : Int) + 2 ≤ ((2 * d + 1 : Nat) : Int) by omega), Bool.false_and, Bool.and_false] at e3
  have e4 := hl_ok (k := k + 7) (S := S) h.fs.f f2
  rw [rmb_2 h, Bool.and_false, Bool.and_false] at e4
  have o1 : mulOk 2 (d : Int) := Bd.mulOk (n := 2) (m := 40) (show (2 : Nat) < 2 ^ 2 by decide) (show ((d : Int)).natAbs < 2 ^ 40 by omega) (by decide)
  have m1 : D.tup [.int (2 * (d : Int) + 1), .int (-40), .int 40] = fmD (2 * d + 1) (-40) 40 := rfl
  have m2 : D.tup [.int (2 * (d : Int) + 2), .int (-2), .int 40] = fmD (2 * d + 2) (-2) 40 := rfl
  simp only [E1, E2, E3, E4, E5, E6, E7, E8, E9, List.map_cons, List.map_nil, List.cons_append, List.nil_append, List.append_nil, List.length_cons, List.length_nil, List.replicate_zero, List.replicate_succ, Nat.sub_self, Nat.zero_add, List.getElem?_cons_zero, List.getElem?_cons_succ, List.set_cons_zero, List.set_cons_succ, if_true, if_false, Bool.false_eq_true, decide_true, decide_false, Bool.not_true, Bool.not_false, decide_eq_true_eq, eq_self, Int.cast_ofNat_Int, Int.natCast_zero, Int.natCast_one, Nat.reduceLeDiff, Nat.reduceSub, Nat.reduceAdd, Nat.reduceLT, reduceIte, reduceCtorEq, Int.reduceEq, Int.reduceLT, Int.reduceLE, Int.reduceNeg, Int.reduceAdd, Int.reduceSub, Int.reduceMul, Int.reduceNe, Int.reduceBNe, Int.reduceBEq, s_law_0_7, e1, e2, o1, m1, e3, m2, e4, Bool.and_self, Bool.not_true, Bool.false_eq_true]
theorem s6_ok (h : F22 d M d') : evS G (callK G (k + 15)) s_law_0_6 [x0, some (.ref 0), some (.int (d : Int)), some (fmD d (-2) M), some (.str way), some (fmD d' (-4) 3), x6, x7, x8, x9, some (.lst (rowsL d (-2) (cnt d (-2) M))), x11, x12, x13, x14] S = some (.nx [x0, some (.ref 0), some (.int (d : Int)), some (fmD d (-2) M), some (.str way), some (fmD d' (-4) 3), x6, x7, x8, x9, some (.lst (rowsL d (-2) (cnt d (-2) M))), some (fmD (2 * d + 2) (-40) 40), x12, x13, x14], S) := by
  have hd := h.hd
  have o1 : mulOk 2 (d : Int) := Bd.mulOk (n := 2) (m := 40) (show (2 : Nat) < 2 ^ 2 by decide) (show ((d : Int)).natAbs < 2 ^ 40 by omega) (by decide)
  have m1 : D.tup [.int (2 * (d : Int) + 2), .int (-40), .int 40] = fmD (2 * d + 2) (-40) 40 := rfl
  simp only [E1, E2, E3, E4, E5, E6, E7, E8, E9, List.map_cons, List.map_nil, List.cons_append, List.nil_append, List.append_nil, List.length_cons, List.length_nil, List.replicate_zero, List.replicate_succ, Nat.sub_self, Nat.zero_add, List.getElem?_cons_zero, List.getElem?_cons_succ, List.set_cons_zero, List.set_cons_succ, if_true, if_false, Bool.false_eq_true, decide_true, decide_false, Bool.not_true, Bool.not_false, decide_eq_true_eq, eq_self, Int.cast_ofNat_Int, Int.natCast_zero, Int.natCast_one, Nat.reduceLeDiff, Nat.reduceSub, Nat.reduceAdd, Nat.reduceLT, reduceIte, reduceCtorEq, Int.reduceEq, Int.reduceLT, Int.reduceLE, Int.reduceNeg, Int.reduceAdd, Int.reduceSub, Int.reduceMul, Int.reduceNe, Int.reduceBNe, Int.reduceBEq, s_law_0_6, o1, m1]
end
def depth : Nat := 20
theorem law_true (ns : List Int) (hn : ns.length ≤ 63) : ∃ S', callK G depth i_law [.flst (ns.map D.int)] [] = some (.bl true, S') := by
  obtain ⟨L, hd⟩ := draws_ok (k := 18) (S := []) (ns := ns) (m := 90) hn (by decide)
  have hL : IntL (L.map D.int) := fun d h => by
    obtain ⟨x, _, rfl⟩ := List.mem_map.mp h
    exact ⟨x, rfl⟩
  obtain ⟨d, h2, e1⟩ := l1_ok (k := 4) (T := []) (i := 0) hL (by decide) (x0 := some (.flst (ns.map D.int))) (x2 := none) (x3 := none) (x4 := none) (x5 := none) (x6 := none) (x7 := none) (x8 := none) (x9 := none) (x10 := none) (x11 := none) (x12 := none) (x13 := none) (x14 := none)
  obtain ⟨M, way, hM, hw, e2⟩ := l2_ok (k := 4) (T := []) (d := d) (i := 0 + 1) hL (by decide) (x0 := some (.flst (ns.map D.int))) (x3 := none) (x4 := none) (x5 := none) (x6 := none) (x7 := none) (x8 := none) (x9 := none) (x10 := none) (x11 := none) (x12 := none) (x13 := none) (x14 := none)
  obtain ⟨d', he, e3⟩ := l3_ok (k := 4) (T := []) (d := d) (M := M) (way := way) (i := 0 + 1 + 1 + 1) hL (by decide) (x0 := some (.flst (ns.map D.int))) (x5 := none) (x6 := none) (x7 := none) (x8 := none) (x9 := none) (x10 := none) (x11 := none) (x12 := none) (x13 := none) (x14 := none)
  have hF : F22 d M d' := ⟨h2, hM, he⟩
  have r8 : rngD [.int 8] = some ((List.range 8).map fun (i : Nat) => D.int (i : Int)) := rng_nat (n := 8) (by decide)
  obtain ⟨ρ, S1, h, hI⟩ := forL_run (all := (List.range 8).map fun (i : Nat) => D.int (i : Int)) (body := fbd G (callK G 19) (.name 6) b_law_1) (xs := (List.range 8).map fun (i : Nat) => D.int (i : Int)) (ρ := [some (.flst (ns.map D.int)), some (.ref 0), some (.int (d : Int)), some (fmD d (-2) M), some (.str way), some (fmD d' (-4) 3), none, none, none, none, none, none, none, none, none]) (S := [wC (L.map D.int) (0 + 1 + 1 + 1 + 1)])
    (I := fun _ ρ S => ∃ (x6 x7 x8 x9 : Option D) (a : Int), ρ = [some (.flst (ns.map D.int)), some (.ref 0), some (.int (d : Int)), some (fmD d (-2) M), some (.str way), some (fmD d' (-4) 3), x6, x7, x8, x9, none, none, none, none, none] ∧ S = [wC (L.map D.int) a] ∧ 0 ≤ a)
    (by
      rintro i x ρ S hx ⟨x6, x7, x8, x9, a, rfl, rfl, ha⟩
      obtain ⟨y7, y8, y9, b, hb, e⟩ := turn1_ok (k := 4) (T := []) hF hL ha hw (x0 := some (.flst (ns.map D.int))) (x2 := some (.int (d : Int))) (x6 := some x) (x7 := x7) (x8 := x8) (x9 := x9) (x10 := none) (x11 := none) (x12 := none) (x13 := none) (x14 := none)
      refine ⟨_, _, ?_, some x, y7, y8, y9, b, rfl, rfl, hb⟩
      unfold fbd
      simp only [E1, E2, E3, E4, E5, E6, E7, E8, E9, List.map_cons, List.map_nil, List.cons_append, List.nil_append, List.append_nil, List.length_cons, List.length_nil, List.replicate_zero, List.replicate_succ, Nat.sub_self, Nat.zero_add, List.getElem?_cons_zero, List.getElem?_cons_succ, List.set_cons_zero, List.set_cons_succ, if_true, if_false, Bool.false_eq_true, decide_true, decide_false, Bool.not_true, Bool.not_false, decide_eq_true_eq, eq_self, Int.cast_ofNat_Int, Int.natCast_zero, Int.natCast_one, Nat.reduceLeDiff, Nat.reduceSub, Nat.reduceAdd, Nat.reduceLT, reduceIte, reduceCtorEq, Int.reduceEq, Int.reduceLT, Int.reduceLE, Int.reduceNeg, Int.reduceAdd, Int.reduceSub, Int.reduceMul, Int.reduceNe, Int.reduceBNe, Int.reduceBEq, e])
    ⟨none, none, none, none, _, rfl, rfl, by decide⟩
  obtain ⟨x6, x7, x8, x9, a, rfl, rfl, ha⟩ := hI
  have tn : ∀ (kn : Nat) (hk : kn < 4) (a : Int) (ha : 0 ≤ a) (y7 y12 y13 y14 : Option D), ∃ (z7 z13 z14 : Option D) (b : Int), 0 ≤ b ∧ fbd G (callK G 19) (.name 12) b_law_2 (.str (kS kn)) [some (.flst (ns.map D.int)), some (.ref 0), some (.int (d : Int)), some (fmD d (-2) M), some (.str way), some (fmD d' (-4) 3), x6, y7, x8, x9, some (.lst (rowsL d (-2) (cnt d (-2) M))), some (fmD (2 * d + 2) (-40) 40), y12, y13, y14] [wC (L.map D.int) a] = some (.nx [some (.flst (ns.map D.int)), some (.ref 0), some (.int (d : Int)), some (fmD d (-2) M), some (.str way), some (fmD d' (-4) 3), x6, z7, x8, x9, some (.lst (rowsL d (-2) (cnt d (-2) M))), some (fmD (2 * d + 2) (-40) 40), some (.str (kS kn)), z13, z14], [wC (L.map D.int) b]) := by
    intro kn hk a ha y7 y12 y13 y14
    obtain ⟨z7, z13, z14, b, hb, e⟩ := turn2_ok (k := 4) (T := []) hF hL ha hw hk (x0 := some (.flst (ns.map D.int))) (x2 := some (.int (d : Int))) (x6 := x6) (x7 := y7) (x8 := x8) (x9 := x9) (x13 := y13) (x14 := y14)
    refine ⟨z7, z13, z14, b, hb, ?_⟩
    unfold fbd
    simp only [E1, E2, E3, E4, E5, E6, E7, E8, E9, List.map_cons, List.map_nil, List.cons_append, List.nil_append, List.append_nil, List.length_cons, List.length_nil, List.replicate_zero, List.replicate_succ, Nat.sub_self, Nat.zero_add, List.getElem?_cons_zero, List.getElem?_cons_succ, List.set_cons_zero, List.set_cons_succ, if_true, if_false, Bool.false_eq_true, decide_true, decide_false, Bool.not_true, Bool.not_false, decide_eq_true_eq, eq_self, Int.cast_ofNat_Int, Int.natCast_zero, Int.natCast_one, Nat.reduceLeDiff, Nat.reduceSub, Nat.reduceAdd, Nat.reduceLT, reduceIte, reduceCtorEq, Int.reduceEq, Int.reduceLT, Int.reduceLE, Int.reduceNeg, Int.reduceAdd, Int.reduceSub, Int.reduceMul, Int.reduceNe, Int.reduceBNe, Int.reduceBEq, e]
  obtain ⟨p7, p13, p14, a1, ha1, g0⟩ := tn 0 (by decide) a ha x7 none none none
  obtain ⟨q7, q13, q14, a2, ha2, g1⟩ := tn 1 (by decide) a1 ha1 p7 (some (.str (kS 0))) p13 p14
  obtain ⟨r7, r13, r14, a3, ha3, g2⟩ := tn 2 (by decide) a2 ha2 q7 (some (.str (kS 1))) q13 q14
  obtain ⟨t7, t13, t14, a4, ha4, g3⟩ := tn 3 (by decide) a3 ha3 r7 (some (.str (kS 2))) r13 r14
  have hloop : ∀ all, forL none all (fbd G (callK G 19) (.name 12) b_law_2) [.str "plus", .str "product", .str "over", .str "root"] [some (.flst (ns.map D.int)), some (.ref 0), some (.int (d : Int)), some (fmD d (-2) M), some (.str way), some (fmD d' (-4) 3), x6, x7, x8, x9, some (.lst (rowsL d (-2) (cnt d (-2) M))), some (fmD (2 * d + 2) (-40) 40), none, none, none] [wC (L.map D.int) a] = some (.nx [some (.flst (ns.map D.int)), some (.ref 0), some (.int (d : Int)), some (fmD d (-2) M), some (.str way), some (fmD d' (-4) 3), x6, t7, x8, x9, some (.lst (rowsL d (-2) (cnt d (-2) M))), some (fmD (2 * d + 2) (-40) 40), some (.str (kS 3)), t13, t14], [wC (L.map D.int) a4]) := fun all =>
    (forL_cons g0).trans ((forL_cons g1).trans ((forL_cons g2).trans ((forL_cons g3).trans forL_nil)))
  have hk : keysD [(.str "draws", .lst (L.map D.int)), (.str "at", .int 0)] = some [(.inr "draws", .lst (L.map D.int)), (.inr "at", .int 0)] := rfl
  have hs : ¬ (("draws" : Str) = ("at" : Str)) := by decide +kernel
  have hm : mergeKD [] [((.inr "draws" : Key), D.lst (L.map D.int)), (.inr "at", .int 0)] = [((.inr "draws" : Key), D.lst (L.map D.int)), (.inr "at", .int 0)] := by
    simp [mergeKD, storeK, hs]
  have hwc : [Cell.dk [((.inr "draws" : Key), D.lst (L.map D.int)), (.inr "at", .int 0)]] = [wC (L.map D.int) 0] := rfl
  have hp : prune [] (.bl true) [wC (L.map D.int) a4] = (.bl true, []) := prune_new (S := []) rfl
  refine ⟨[], ?_⟩
  unfold depth
  rw [call_fn g_law rfl]
  have hd' : callK G 19 i__law_draws [.flst (ns.map D.int), .int 90] [] = some (.lst (L.map D.int), []) := hd
  have hr : (2 : Nat) ≤ 15 := by decide
  have lf : ∀ S, callK G 19 i__law_fin [fmD d (-2) M] S = some (.lst (rowsL d (-2) (cnt d (-2) M)), S) := fun S => fin_ok hF.fs.f
  have st0 : evS G (callK G 19) s_law_0_0 [some (.flst (ns.map D.int)), none, none, none, none, none, none, none, none, none, none, none, none, none, none] [] = some (.nx [some (.flst (ns.map D.int)), some (.ref 0), none, none, none, none, none, none, none, none, none, none, none, none, none], [wC (L.map D.int) 0]) := by
    simp only [E1, E2, E3, E4, E5, E6, E7, E8, E9, List.map_cons, List.map_nil, List.cons_append, List.nil_append, List.append_nil, List.length_cons, List.length_nil, List.replicate_zero, List.replicate_succ, Nat.sub_self, Nat.zero_add, List.getElem?_cons_zero, List.getElem?_cons_succ, List.set_cons_zero, List.set_cons_succ, if_true, if_false, Bool.false_eq_true, decide_true, decide_false, Bool.not_true, Bool.not_false, decide_eq_true_eq, eq_self, Int.cast_ofNat_Int, Int.natCast_zero, Int.natCast_one, Nat.reduceLeDiff, Nat.reduceSub, Nat.reduceAdd, Nat.reduceLT, reduceIte, reduceCtorEq, Int.reduceEq, Int.reduceLT, Int.reduceLE, Int.reduceNeg, Int.reduceAdd, Int.reduceSub, Int.reduceMul, Int.reduceNe, Int.reduceBNe, Int.reduceBEq, s_law_0_0, hd', hk, hm, hr, List.nil_append, hwc]
  have st4 : evS G (callK G 19) s_law_0_4 [some (.flst (ns.map D.int)), some (.ref 0), some (.int (d : Int)), some (fmD d (-2) M), some (.str way), some (fmD d' (-4) 3), none, none, none, none, none, none, none, none, none] [wC (L.map D.int) (0 + 1 + 1 + 1 + 1)] = some (.nx [some (.flst (ns.map D.int)), some (.ref 0), some (.int (d : Int)), some (fmD d (-2) M), some (.str way), some (fmD d' (-4) 3), x6, x7, x8, x9, none, none, none, none, none], [wC (L.map D.int) a]) := by
    have h4 := h
    rw [show (0 : Int) + 1 + 1 + 1 + 1 = 4 from rfl] at h4
    simp only [E1, E2, E3, E4, E5, E6, E7, E8, E9, List.map_cons, List.map_nil, List.cons_append, List.nil_append, List.append_nil, List.length_cons, List.length_nil, List.replicate_zero, List.replicate_succ, Nat.sub_self, Nat.zero_add, List.getElem?_cons_zero, List.getElem?_cons_succ, List.set_cons_zero, List.set_cons_succ, if_true, if_false, Bool.false_eq_true, decide_true, decide_false, Bool.not_true, Bool.not_false, decide_eq_true_eq, eq_self, Int.cast_ofNat_Int, Int.natCast_zero, Int.natCast_one, Nat.reduceLeDiff, Nat.reduceSub, Nat.reduceAdd, Nat.reduceLT, reduceIte, reduceCtorEq, Int.reduceEq, Int.reduceLT, Int.reduceLE, Int.reduceNeg, Int.reduceAdd, Int.reduceSub, Int.reduceMul, Int.reduceNe, Int.reduceBNe, Int.reduceBEq, s_law_0_4, r8, h4]
  have st5 : evS G (callK G 19) s_law_0_5 [some (.flst (ns.map D.int)), some (.ref 0), some (.int (d : Int)), some (fmD d (-2) M), some (.str way), some (fmD d' (-4) 3), x6, x7, x8, x9, none, none, none, none, none] [wC (L.map D.int) a] = some (.nx [some (.flst (ns.map D.int)), some (.ref 0), some (.int (d : Int)), some (fmD d (-2) M), some (.str way), some (fmD d' (-4) 3), x6, x7, x8, x9, some (.lst (rowsL d (-2) (cnt d (-2) M))), none, none, none, none], [wC (L.map D.int) a]) := by
    simp only [E1, E2, E3, E4, E5, E6, E7, E8, E9, List.map_cons, List.map_nil, List.cons_append, List.nil_append, List.append_nil, List.length_cons, List.length_nil, List.replicate_zero, List.replicate_succ, Nat.sub_self, Nat.zero_add, List.getElem?_cons_zero, List.getElem?_cons_succ, List.set_cons_zero, List.set_cons_succ, if_true, if_false, Bool.false_eq_true, decide_true, decide_false, Bool.not_true, Bool.not_false, decide_eq_true_eq, eq_self, Int.cast_ofNat_Int, Int.natCast_zero, Int.natCast_one, Nat.reduceLeDiff, Nat.reduceSub, Nat.reduceAdd, Nat.reduceLT, reduceIte, reduceCtorEq, Int.reduceEq, Int.reduceLT, Int.reduceLE, Int.reduceNeg, Int.reduceAdd, Int.reduceSub, Int.reduceMul, Int.reduceNe, Int.reduceBNe, Int.reduceBEq, s_law_0_5, lf]
  have st8 : evS G (callK G 19) s_law_0_8 [some (.flst (ns.map D.int)), some (.ref 0), some (.int (d : Int)), some (fmD d (-2) M), some (.str way), some (fmD d' (-4) 3), x6, x7, x8, x9, some (.lst (rowsL d (-2) (cnt d (-2) M))), some (fmD (2 * d + 2) (-40) 40), none, none, none] [wC (L.map D.int) a] = some (.nx [some (.flst (ns.map D.int)), some (.ref 0), some (.int (d : Int)), some (fmD d (-2) M), some (.str way), some (fmD d' (-4) 3), x6, t7, x8, x9, some (.lst (rowsL d (-2) (cnt d (-2) M))), some (fmD (2 * d + 2) (-40) 40), some (.str (kS 3)), t13, t14], [wC (L.map D.int) a4]) := by
    simp only [E1, E2, E3, E4, E5, E6, E7, E8, E9, List.map_cons, List.map_nil, List.cons_append, List.nil_append, List.append_nil, List.length_cons, List.length_nil, List.replicate_zero, List.replicate_succ, Nat.sub_self, Nat.zero_add, List.getElem?_cons_zero, List.getElem?_cons_succ, List.set_cons_zero, List.set_cons_succ, if_true, if_false, Bool.false_eq_true, decide_true, decide_false, Bool.not_true, Bool.not_false, decide_eq_true_eq, eq_self, Int.cast_ofNat_Int, Int.natCast_zero, Int.natCast_one, Nat.reduceLeDiff, Nat.reduceSub, Nat.reduceAdd, Nat.reduceLT, reduceIte, reduceCtorEq, Int.reduceEq, Int.reduceLT, Int.reduceLE, Int.reduceNeg, Int.reduceAdd, Int.reduceSub, Int.reduceMul, Int.reduceNe, Int.reduceBNe, Int.reduceBEq, s_law_0_8, hloop]
  show fin [] (evSs G (callK G 19) f_law.body [some (.flst (ns.map D.int)), none, none, none, none, none, none, none, none, none, none, none, none, none, none] []) = _
  unfold f_law
  show fin [] (evSs G (callK G 19) (.cons s_law_0_0 (.cons s_law_0_1 (.cons s_law_0_2 (.cons s_law_0_3 (.cons s_law_0_4 (.cons s_law_0_5 (.cons s_law_0_6 (.cons s_law_0_7 (.cons s_law_0_8 (.cons s_law_0_9 .nil)))))))))) _ []) = _
  rw [ev_sC, st0, sq_nx, ev_sC, e1, sq_nx, ev_sC, e2, sq_nx, ev_sC, e3, sq_nx, ev_sC, st4, sq_nx, ev_sC, st5, sq_nx, ev_sC, s6_ok (k := 4) hF, sq_nx, ev_sC, s7_ok (k := 4) hF, sq_nx, ev_sC, st8, sq_nx]
  simp only [E1, E2, E3, E4, E5, E6, E7, E8, E9, List.map_cons, List.map_nil, List.cons_append, List.nil_append, List.append_nil, List.length_cons, List.length_nil, List.replicate_zero, List.replicate_succ, Nat.sub_self, Nat.zero_add, List.getElem?_cons_zero, List.getElem?_cons_succ, List.set_cons_zero, List.set_cons_succ, if_true, if_false, Bool.false_eq_true, decide_true, decide_false, Bool.not_true, Bool.not_false, decide_eq_true_eq, eq_self, Int.cast_ofNat_Int, Int.natCast_zero, Int.natCast_one, Nat.reduceLeDiff, Nat.reduceSub, Nat.reduceAdd, Nat.reduceLT, reduceIte, reduceCtorEq, Int.reduceEq, Int.reduceLT, Int.reduceLE, Int.reduceNeg, Int.reduceAdd, Int.reduceSub, Int.reduceMul, Int.reduceNe, Int.reduceBNe, Int.reduceBEq, s_law_0_9, hp]
end Rw.Pk22

namespace Rw.Pk22
open PySem PySem.Spec PyProof.Rows L2 Rw
def top (i : Nat) : Stmt := PySem.Challenge.pw_roundedwithin_k22_whole_rounding_twice.main.body.getD i (.Pass ⟨0, 0, 0, 0⟩)
abbrev R : PySem.W.OpenRow := PySem.W.OpenLaw.row PySem.Challenge.rw_roundedwithin_k22_whole_rounding_twice
abbrev hk : PySem.W.Hook := hookR 2 (faOf T) (fnOf' top T) (exOf T)
def loose0 : List Str := ["bits_of", "NOTHING", "common", "fraction", "added", "times", "quotient", "size", "is_less", "is_most", "two_to", "shifted", "exponent_of", "value_of", "greatest_of", "least_full", "all_finite", "unit_at", "is_representable", "is_within", "is_raised", "rounded", "marks_of", "beyond", "NONE", "WRONG", "sign_when_nothing", "plus", "product", "over"]
def loose1 : List Str := ["root_parts", "root", "converted", "rounded_twice", "is_unlike", "is_harmless", "has_room", "done_in", "done_twice", "first_unlike", "_law_draws", "_law_next", "_law_pick", "_law_same", "_law_least", "_law_fin", "_law_val", "_law_round", "_law_done"]
def loose : List Str := loose0 ++ loose1
theorem chk : chkT top T = true := by decide +kernel
def ob (s : PySem.W.SharedT) : hk.α := (He.obsDG 2 (faOf T) (fnOf' top T) (HandSHeadRun.getT s), exOf T (He.frG (HandSHeadRun.getT s) (He.asD (HandSHeadRun.getT s) 2)))
theorem ob_eq (s : PySem.W.SharedT) : ob s = hk.obs s.abs := by
  have e : HandSHeadRun.getT s = s.abs.heap.get? := funext (HandSHeadRun.getT_eq s)
  unfold ob
  rw [e]
  rfl
theorem run (w : World) : HandSHeadRun.RunEq R (PySem.W.view R.prog [56]) hk ob 3000 loose w := by
  intro os
  kernel_rfl
end Rw.Pk22

open PySem PySem.W PySem.Calls PyProof.Rows
theorem PySem.Challenge.cw_roundedwithin_k22_whole_rounding_twice_holds : PySem.Challenge.rw_roundedwithin_k22_whole_rounding_twice.Holds := by
  w_on; o_law
  refine HandSHeadRun.head_any (r := OpenLaw.row PySem.Challenge.rw_roundedwithin_k22_whole_rounding_twice) (q := view (OpenLaw.row PySem.Challenge.rw_roundedwithin_k22_whole_rounding_twice).prog [56]) (H := Rw.Pk22.hk) (ob := Rw.Pk22.ob) (M := 3000) (loose := Rw.Pk22.loose) (d := HandSHeadRun.topDef (OpenLaw.row PySem.Challenge.rw_roundedwithin_k22_whole_rounding_twice).prog 56) (kwd := []) Rw.Pk22.ob_eq
    (by kernel_rfl) (fun s => by kernel_rfl) Rw.Pk22.run (by kernel_rfl) (by kernel_rfl) (by kernel_rfl) (by rfl) (by first | assumption | decide +kernel) (by decide +kernel) ⟨rfl, rfl, rfl, rfl, rfl, by decide +kernel⟩ ?hw ?hc
  case hw => w_witness2
  case hc => exact Rw.law_walk (l := PySem.Challenge.rw_roundedwithin_k22_whole_rounding_twice) (top := Rw.Pk22.top) (T := Rw.Pk22.T) (n := 2) (g := 61) (k := Rw.Pk22.depth) (i := 56) (f := Rw.Pk22.f_law) rfl (by kernel_rfl) ⟨rfl, by decide, by decide⟩ (by kernel_rfl) Rw.Pk22.chk rfl (by kernel_rfl) Rw.Pk22.law_true

