import PyProof.Rows.All
import Wide.All
import OpenK.AllK
import Wide.FinOn
import HandS.ForMost
import HandS.Flow
import HandS.Wide
import HandS.WideBits
import HandS.IsInst
import HandS.TupAny
import HandS.Defaults
import HandS.Deep
import HandS.Style
import HandS.NoneIn
import HandS.Ends
import HandS.More
import HandS.Words
import HandS.WordsExc
import HandS.Head0
import HandS.Head1
import HandS.Head2
import HandS.HeadEnd
import HandS.HeadHook1
import HandS.HeadHook2
import PySem.Challenge.RW_roundedwithin_k01_formats_and_their_numb
set_option Elab.async false
set_option linter.all false
set_option maxRecDepth 100000
set_option maxHeartbeats 0
set_option exponentiation.threshold 300
/-! M1: the small language: values, store, what an expression and a statement do -/
namespace Rw
open PySem L2

/-! ### values -/
inductive D where
  | non | bl (b : Bool) | int (i : Int) | str (s : Str)
  | tup (xs : List D) | lst (xs : List D) | flst (xs : List D) | ref (r : Nat) | ty (n : String)
inductive Cell where
  | lst (xs : List D)
  | dk (kvs : List (Key × D))
abbrev Sto := List Cell
abbrev Env := List (Option D)
abbrev Rs (α : Type) := Option (α × Sto)

mutual
/-- all its references are below n -/
def below (n : Nat) : D → Bool
  | .tup xs => belows n xs
  | .lst xs => belows n xs
  | .flst xs => belows n xs
  | .ref r => decide (r < n)
  | _ => true
def belows (n : Nat) : List D → Bool
  | [] => true
  | x :: xs => below n x && belows n xs
end

/-! ### operations on values -/
def b2i (b : Bool) : Int := if b then 1 else 0
def mulOk (a b : Int) : Prop := a.natAbs.log2 + b.natAbs.log2 < 1000000
instance (a b : Int) : Decidable (mulOk a b) := inferInstanceAs (Decidable (_ < _))
def divOk (b : Int) : Prop := b ≠ 0 ∧ b.natAbs.log2 < 9000
instance (b : Int) : Decidable (divOk b) := inferInstanceAs (Decidable (_ ∧ _))
def shlOk (a b : Int) : Prop := 0 ≤ b ∧ (Builtin.Int.intBits a : Int) + b ≤ 2 ^ 27
instance (a b : Int) : Decidable (shlOk a b) := inferInstanceAs (Decidable (_ ∧ _))
def powOk (a b : Int) : Prop := 0 ≤ b ∧ b ≤ 1000000 ∧ a.natAbs < 2 ^ 64
instance (a b : Int) : Decidable (powOk a b) := inferInstanceAs (Decidable (_ ∧ _))
/-- a list so many times -/
def repOk (n : Nat) (k : Int) : Prop := -(2 ^ 63) ≤ k ∧ k < 2 ^ 63 ∧ n * k.toNat ≤ sizeLine
instance (n : Nat) (k : Int) : Decidable (repOk n k) := inferInstanceAs (Decidable (_ ∧ _ ∧ _))

def binD (op : Operator) (d e : D) : Option D :=
  match op, d, e with
  | .Add, .int a, .int b => some (.int (a + b))
  | .Add, .str a, .str b => if a.length + b.length ≤ sizeLine then some (.str (a ++ b)) else none
  | .Add, .tup xs, .tup ys => if xs.length + ys.length ≤ sizeLine then some (.tup (xs ++ ys)) else none
  | .Add, .lst xs, .lst ys => if xs.length + ys.length ≤ sizeLine then some (.lst (xs ++ ys)) else none
  | .Sub, .int a, .int b => some (.int (a - b))
  | .Sub, .bl a, .bl b => some (.int (b2i a - b2i b))
  | .Mult, .int a, .int b => if mulOk a b then some (.int (a * b)) else none
  | .FloorDiv, .int a, .int b => if divOk b then some (.int (a.fdiv b)) else none
  | .Mod, .int a, .int b => if b ≠ 0 then some (.int (a.fmod b)) else none
  | .Pow, .int a, .int b => if powOk a b then some (.int (a ^ b.toNat)) else none
  | .LShift, .int a, .int b => if shlOk a b then some (.int (a * 2 ^ b.toNat)) else none
  | .RShift, .int a, .int b => if 0 ≤ b then some (.int (a / 2 ^ b.toNat)) else none
  | .Mult, .lst xs, .int k => if repOk xs.length k then some (.lst (List.replicate k.toNat xs).flatten) else none
  | _, _, _ => none

mutual
/-- as data, references read in the store -/
def pd (S : Sto) : D → Option PyData
  | .non => some .none
  | .bl b => some (.bool b)
  | .int i => some (.int i)
  | .str s => some (.str s)
  | .tup xs => (pds S xs).map .tuple
  | .lst xs => (pds S xs).map .list
  | .flst xs => (pds S xs).map .list
  | .ref r => none
  | .ty _ => none
def pds (S : Sto) : List D → Option (List PyData)
  | [] => some []
  | x :: xs => match pd S x, pds S xs with
    | some y, some ys => some (y :: ys)
    | _, _ => none
end
/-- the list behind a value -/
def lstOf (S : Sto) : D → Option (List D)
  | .lst xs => some xs
  | .flst xs => some xs
  | .ref r => match S[r]? with
    | some (.lst xs) => some xs
    | _ => none
  | _ => none
/-- as data, a list at the outermost may be of the store -/
def pdT (S : Sto) (d : D) : Option PyData := match d with
  | .ref r => match S[r]? with
    | some (.lst xs) => (pds S xs).map .list
    | _ => none
  | _ => pd S d
def eqD (S : Sto) (d e : D) : Option Bool := match d, e with
  | .int a, .int b => some (decide (a = b))
  | .bl a, .bl b => some (decide (a = b))
  | .str a, .str b => some (decide (a = b))
  | .non, .non => some true
  | .non, .int _ => some false
  | .int _, .non => some false
  | .non, .bl _ => some false
  | .bl _, .non => some false
  | .non, .str _ => some false
  | .str _, .non => some false
  | _, _ => match pdT S d, pdT S e with
    | some p, some q => if SeqAt.shaped p = true ∧ SeqAt.shaped q = true then some (PyData.eqv p q) else none
    | _, _ => none
def isNone : D → Bool
  | .non => true
  | _ => false
/-- among the items -/
def inD (S : Sto) (d e : D) : Option Bool := match pdT S d, pdT S e with
  | some p, some (.tuple qs) => if SeqAt.shaped p = true ∧ SeqAt.shaped (.tuple qs) = true then some (qs.any fun z => PyData.eqv z p) else none
  | some p, some (.list qs) => if SeqAt.shaped p = true ∧ SeqAt.shaped (.list qs) = true then some (qs.any fun z => PyData.eqv z p) else none
  | _, _ => none
def cmpD (S : Sto) (op : CmpOp) (d e : D) : Option Bool := match op with
  | .Eq => eqD S d e
  | .NotEq => (eqD S d e).map (!·)
  | .Lt => match d, e with
    | .int a, .int b => some (decide (a < b))
    | _, _ => none
  | .LtE => match d, e with
    | .int a, .int b => some (decide (a ≤ b))
    | _, _ => none
  | .Gt => match d, e with
    | .int a, .int b => some (decide (b < a))
    | _, _ => none
  | .GtE => match d, e with
    | .int a, .int b => some (decide (b ≤ a))
    | _, _ => none
  | .Is => match e with
    | .non => some (isNone d)
    | .bl b => match d with
      | .bl a => some (decide (a = b))
      | _ => none
    | _ => none
  | .IsNot => match e with
    | .non => some (!isNone d)
    | .bl b => match d with
      | .bl a => some (!decide (a = b))
      | _ => none
    | _ => none
  | .In => inD S d e
  | .NotIn => (inD S d e).map (!·)
def truD (S : Sto) : D → Option Bool
  | .non => some false
  | .bl b => some b
  | .int i => some (i != 0)
  | .str s => if s.length ≤ sizeLine then some ((s.length : Int) != 0) else none
  | .tup xs => some (!xs.isEmpty)
  | .lst xs => some (!xs.isEmpty)
  | .flst xs => some (!xs.isEmpty)
  | .ref r => match S[r]? with
    | some (.lst xs) => some (!xs.isEmpty)
    | some (.dk kvs) => some (!kvs.isEmpty)
    | _ => none
  | .ty _ => none
def keyD : D → Option Key
  | .int i => some (.inl i)
  | .str s => some (.inr s)
  | _ => none
def lookK (kvs : List (Key × D)) (k : Key) : Option D := (kvs.find? fun kv => decide (kv.1 = k)).map (·.2)
def storeK (kvs : List (Key × D)) (k : Key) (v : D) : List (Key × D) :=
  if kvs.any (fun kv => decide (kv.1 = k)) then kvs.map (fun kv => if kv.1 = k then (kv.1, v) else kv) else kvs ++ [(k, v)]
def idxD (S : Sto) (d i : D) : Option D := match d, i with
  | .tup xs, .int k => atI xs k
  | .lst xs, .int k => atI xs k
  | .flst xs, .int k => atI xs k
  | .str s, .int k => if s.length ≤ sizeLine then (atI s.cps.toList k).map fun c => .str ⟨#[c]⟩ else none
  | .ref r, k => match S[r]? with
    | some (.lst xs) => match k with
      | .int j => atI xs j
      | _ => none
    | some (.dk kvs) => (keyD k).bind fun q => lookK kvs q
    | _ => none
  | _, _ => none
/-- xs[lo:hi] -/
def cutD {α : Type} (xs : List α) (lo hi : Option Int) : List α := (xs.drop (HT.sIx xs.length 0 lo)).take (HT.sIx xs.length xs.length hi - HT.sIx xs.length 0 lo)
def slD (S : Sto) (d : D) (lo hi : Option Int) : Option D := match d with
  | .tup xs => some (.tup (cutD xs lo hi))
  | .str s => if s.length ≤ sizeLine then some (.str (cutS s lo hi)) else none
  | d => (lstOf S d).map fun xs => .lst (cutD xs lo hi)

/-- xs[:hi:-1] -/
def slRL (S : Sto) (d : D) (hi : Option Int) : Option D := (lstOf S d).bind fun xs => match hi with
  | none => some (.lst xs.reverse)
  | some i => if 0 ≤ i then some (.lst (xs.drop (i.toNat + 1)).reverse) else none
def slRD (S : Sto) (d : D) (hi : Option Int) : Option D := match d with
  | .tup xs => match hi with
    | none => some (.tup xs.reverse)
    | some _ => none
  | d => slRL S d hi

/-! ### built-in calls -/
inductive BI where
  | len | abs | max | min | int | str | tuple | list
def tyName (S : Sto) : D → Option String
  | .non => some "NoneType"
  | .bl _ => some "bool"
  | .int _ => some "int"
  | .str _ => some "str"
  | .tup _ => some "tuple"
  | .lst _ => some "list"
  | .flst _ => some "list"
  | .ref r => match S[r]? with
    | some (.lst _) => some "list"
    | some (.dk _) => some "dict"
    | _ => none
  | .ty _ => none
def biLen (S : Sto) : List D → Option D
  | [.tup xs] => some (.int xs.length)
  | [.str s] => if s.length ≤ sizeLine then some (.int s.length) else none
  | [.lst xs] => some (.int xs.length)
  | [.flst xs] => some (.int xs.length)
  | [.ref r] => match S[r]? with
    | some (.lst xs) => some (.int xs.length)
    | _ => none
  | _ => none
def biAbs : List D → Option D
  | [.int i] => some (.int (if i < 0 then -i else i))
  | _ => none
/-- a list of whole numbers -/
def intsD : List D → Option (List Int)
  | [] => some []
  | .int i :: xs => (intsD xs).map fun ns => i :: ns
  | _ => none
def biMax : List D → Option D
  | [.int i, .int j] => some (.int (if j > i then j else i))
  | [.lst xs] => match intsD xs with
    | some (n :: ns) => some (.int (ns.foldl max n))
    | _ => none
  | _ => none
def biMin : List D → Option D
  | [.int i, .int j] => some (.int (if j < i then j else i))
  | _ => none
def biInt : List D → Option D
  | [.int i] => some (.int i)
  | [.bl b] => some (.int (b2i b))
  | _ => none
def biStr : List D → Option D
  | [.int i] => if i.natAbs.log2 < 1920 then some (.str (toString i)) else none
  | _ => none
def biTup (S : Sto) : List D → Option D
  | [.tup xs] => some (.tup xs)
  | [.lst xs] => some (.tup xs)
  | [.flst xs] => some (.tup xs)
  | [.ref r] => match S[r]? with
    | some (.lst xs) => some (.tup xs)
    | _ => none
  | _ => none
def biLst (S : Sto) : List D → Option D
  | [.tup xs] => some (.lst xs)
  | [.lst xs] => some (.lst xs)
  | [.flst xs] => some (.lst xs)
  | [.ref r] => match S[r]? with
    | some (.lst xs) => some (.lst xs)
    | _ => none
  | _ => none
def biD (S : Sto) (b : BI) (ds : List D) : Option D := match b with
  | .len => biLen S ds
  | .abs => biAbs ds
  | .max => biMax ds
  | .min => biMin ds
  | .int => biInt ds
  | .str => biStr ds
  | .tuple => biTup S ds
  | .list => biLst S ds
end Rw

/-! M2: how values, cells and stores stand in the heap -/
namespace Rw
open PySem L2

mutual
/-- the value d stands as v: W what never changes, μ where the cells are -/
def Rep (K : PySem.W.Frag) (W : Hp) (μ : List Addr) : D → V → Prop
  | .non, v => v = .non
  | .bl b, v => v = .bl b
  | .int i, v => v = .int i
  | .str s, v => v = .str s
  | .ty n, v => v = .ty n
  | .ref r, v => ∃ a, μ[r]? = some a ∧ v = .ref a
  | .tup ds, v => ∃ a vs, v = .ref a ∧ SqT K W a vs ∧ Reps K W μ ds vs
  | .lst ds, v => ∃ a vs, v = .ref a ∧ W a = some (.lst vs) ∧ Reps K W μ ds vs
  | .flst ds, v => ∃ a vs, v = .ref a ∧ SqL K W a vs ∧ Reps K W μ ds vs
def Reps (K : PySem.W.Frag) (W : Hp) (μ : List Addr) : List D → List V → Prop
  | [], vs => vs = []
  | d :: ds, vs => ∃ v r, vs = v :: r ∧ Rep K W μ d v ∧ Reps K W μ ds r
end
structure Ext (W : Hp) (μ : List Addr) (W' : Hp) (μ' : List Addr) : Prop where
  w : ∀ a o, W a = some o → W' a = some o
  m : ∀ (r : Nat) a, μ[r]? = some a → μ'[r]? = some a
theorem Ext.refl {W : Hp} {μ : List Addr} : Ext W μ W μ := ⟨fun _ _ h => h, fun _ _ h => h⟩
theorem Ext.trans {W W1 W2 : Hp} {μ μ1 μ2 : List Addr} (x : Ext W μ W1 μ1) (y : Ext W1 μ1 W2 μ2) : Ext W μ W2 μ2 :=
  ⟨fun a o h => y.w a o (x.w a o h), fun r a h => y.m r a (x.m r a h)⟩
section
variable {K : PySem.W.Frag} {W W' H : Hp} {μ μ' : List Addr}
theorem rd_le (h : ∀ a o, W a = some o → W' a = some o) {a : Addr} {u : HO} (r : Rd W a u) : Rd W' a u := by
  rcases r with r | ⟨o, r⟩
  · exact .inl (h _ _ r)
  · exact .inr ⟨o, h _ _ r⟩
theorem sqT_le (h : ∀ a o, W a = some o → W' a = some o) {a : Addr} {xs : List V} (r : SqT K W a xs) : SqT K W' a xs := by
  rcases r with r | r
  · exact .inl (rd_le h r)
  · exact .inr r
theorem sqL_le (h : ∀ a o, W a = some o → W' a = some o) {a : Addr} {xs : List V} (r : SqL K W a xs) : SqL K W' a xs := by
  rcases r with r | r
  · exact .inl (rd_le h r)
  · exact .inr r
mutual
theorem Rep.mono (x : Ext W μ W' μ') : ∀ (d : D) (v : V), Rep K W μ d v → Rep K W' μ' d v
  | .non, _, h => h
  | .bl _, _, h => h
  | .int _, _, h => h
  | .str _, _, h => h
  | .ty _, _, h => h
  | .ref r, _, ⟨a, h, e⟩ => ⟨a, x.m r a h, e⟩
  | .tup ds, _, ⟨a, vs, e, h, r⟩ => ⟨a, vs, e, sqT_le x.w h, Reps.mono x ds vs r⟩
  | .lst ds, _, ⟨a, vs, e, h, r⟩ => ⟨a, vs, e, x.w _ _ h, Reps.mono x ds vs r⟩
  | .flst ds, _, ⟨a, vs, e, h, r⟩ => ⟨a, vs, e, sqL_le x.w h, Reps.mono x ds vs r⟩
theorem Reps.mono (x : Ext W μ W' μ') : ∀ (ds : List D) (vs : List V), Reps K W μ ds vs → Reps K W' μ' ds vs
  | [], _, h => h
  | d :: ds, _, ⟨v, r, e, h1, h2⟩ => ⟨v, r, e, Rep.mono x d v h1, Reps.mono x ds r h2⟩
end
theorem Rep.m (x : Ext W μ W' μ') {d : D} {v : V} (h : Rep K W μ d v) : Rep K W' μ' d v := Rep.mono x d v h
theorem Reps.m (x : Ext W μ W' μ') {ds : List D} {vs : List V} (h : Reps K W μ ds vs) : Reps K W' μ' ds vs := Reps.mono x ds vs h
theorem Reps.length : ∀ {ds : List D} {vs : List V}, Reps K W μ ds vs → vs.length = ds.length
  | [], _, h => by cases (show _ = [] from h); rfl
  | d :: ds, _, ⟨v, r, e, _, h⟩ => by subst e; simp [Reps.length h]
theorem Reps.ints : ∀ {ds : List D} {vs : List V} {ns : List Int}, Reps K W μ ds vs → intsD ds = some ns → vs = ns.map V.int
  | [], _, _, h, e => by cases (show _ = [] from h); cases e; rfl
  | .int i :: ds, _, ns, ⟨v, r, e1, h1, h2⟩, e => by
    subst e1
    cases (show v = V.int i from h1)
    cases q : intsD ds with
    | none => simp [intsD, q] at e
    | some ms =>
      have : ns = i :: ms := by simpa [intsD, q] using e.symm
      subst this
      rw [Reps.ints h2 q]
      rfl
  | .non :: _, _, _, _, e => by cases e
  | .bl _ :: _, _, _, _, e => by cases e
  | .str _ :: _, _, _, _, e => by cases e
  | .tup _ :: _, _, _, _, e => by cases e
  | .lst _ :: _, _, _, _, e => by cases e
  | .flst _ :: _, _, _, _, e => by cases e
  | .ref _ :: _, _, _, _, e => by cases e
  | .ty _ :: _, _, _, _, e => by cases e
theorem Reps.get : ∀ {ds : List D} {vs : List V} {i : Nat} {d : D}, Reps K W μ ds vs → ds[i]? = some d → ∃ v, vs[i]? = some v ∧ Rep K W μ d v
  | [], _, _, _, _, e => by simp at e
  | d :: ds, _, 0, _, ⟨v, r, e, h, _⟩, e2 => by subst e; simp at e2; subst e2; exact ⟨v, rfl, h⟩
  | d :: ds, _, i + 1, x, ⟨v, r, e, _, h⟩, e2 => by
    subst e
    obtain ⟨u, h1, h2⟩ := Reps.get (i := i) h (by simpa using e2)
    exact ⟨u, by simpa using h1, h2⟩
theorem Reps.get2 : ∀ {ds : List D} {vs : List V} {i : Nat} {v : V}, Reps K W μ ds vs → vs[i]? = some v → ∃ d, ds[i]? = some d ∧ Rep K W μ d v
  | [], _, _, _, h, e => by cases (show _ = [] from h); simp at e
  | d :: ds, _, 0, _, ⟨v, r, e, h, _⟩, e2 => by subst e; simp at e2; subst e2; exact ⟨d, rfl, h⟩
  | d :: ds, _, i + 1, x, ⟨v, r, e, _, h⟩, e2 => by
    subst e
    obtain ⟨u, h1, h2⟩ := Reps.get2 (i := i) h (by simpa using e2)
    exact ⟨u, by simpa using h1, h2⟩
theorem Reps.app : ∀ {ds es : List D} {vs us : List V}, Reps K W μ ds vs → Reps K W μ es us → Reps K W μ (ds ++ es) (vs ++ us)
  | [], _, _, _, h, h2 => by cases (show _ = [] from h); exact h2
  | d :: ds, _, _, _, ⟨v, r, e, h1, h⟩, h2 => by subst e; exact ⟨v, _, rfl, h1, Reps.app h h2⟩
theorem Reps.drop : ∀ (n : Nat) {ds : List D} {vs : List V}, Reps K W μ ds vs → Reps K W μ (ds.drop n) (vs.drop n)
  | 0, _, _, h => h
  | _ + 1, [], _, h => by cases (show _ = [] from h); exact rfl
  | n + 1, d :: ds, _, ⟨v, r, e, h1, h⟩ => by subst e; exact Reps.drop n h
theorem Reps.reverse : ∀ {ds : List D} {vs : List V}, Reps K W μ ds vs → Reps K W μ ds.reverse vs.reverse
  | [], _, h => by cases (show _ = [] from h); exact (rfl : ([] : List V) = [])
  | d :: ds, _, ⟨v, r, e, h1, h⟩ => by
    subst e
    rw [List.reverse_cons, List.reverse_cons]
    exact Reps.app (Reps.reverse h) ⟨v, [], rfl, h1, rfl⟩
theorem Reps.take : ∀ (n : Nat) {ds : List D} {vs : List V}, Reps K W μ ds vs → Reps K W μ (ds.take n) (vs.take n)
  | 0, _, _, h => rfl
  | _ + 1, [], _, h => by cases (show _ = [] from h); exact rfl
  | n + 1, d :: ds, _, ⟨v, r, e, h1, h⟩ => by subst e; exact ⟨v, _, rfl, h1, Reps.take n h⟩
theorem Reps.cut {ds : List D} {vs : List V} (h : Reps K W μ ds vs) (lo hi : Option Int) : Reps K W μ (cutD ds lo hi) (cutV vs lo hi) := by
  unfold cutD cutV
  rw [h.length]
  exact (h.drop _).take _
theorem Reps.set : ∀ (i : Nat) {d : D} {v : V} {ds : List D} {vs : List V}, Rep K W μ d v → Reps K W μ ds vs → Reps K W μ (ds.set i d) (vs.set i v)
  | _, _, _, [], _, _, h => by cases (show _ = [] from h); exact rfl
  | 0, _, _, d :: ds, _, hd, ⟨v, r, e, h1, h⟩ => by subst e; exact ⟨_, _, rfl, hd, h⟩
  | i + 1, _, _, d :: ds, _, hd, ⟨v, r, e, h1, h⟩ => by subst e; exact ⟨v, _, rfl, h1, Reps.set i hd h⟩
theorem Reps.isEmpty {ds : List D} {vs : List V} (h : Reps K W μ ds vs) : vs.isEmpty = ds.isEmpty := by
  have := h.length
  cases ds <;> cases vs <;> simp_all
theorem Reps.dropLast {ds : List D} {vs : List V} (h : Reps K W μ ds vs) : Reps K W μ ds.dropLast vs.dropLast := by
  rw [List.dropLast_eq_take, List.dropLast_eq_take, h.length]
  exact h.take _
theorem Reps.one {d : D} {v : V} (h : Rep K W μ d v) : Reps K W μ [d] [v] := ⟨v, [], rfl, h, rfl⟩
theorem Reps.inv1 {d : D} {vs : List V} (h : Reps K W μ [d] vs) : ∃ v, vs = [v] ∧ Rep K W μ d v := by
  obtain ⟨v, r, e, h1, h2⟩ := h
  cases (show r = [] from h2)
  exact ⟨v, e, h1⟩
theorem Reps.inv2 {d e : D} {vs : List V} (h : Reps K W μ [d, e] vs) : ∃ v u, vs = [v, u] ∧ Rep K W μ d v ∧ Rep K W μ e u := by
  obtain ⟨v, r, e1, h1, u, r2, e2, h2, h3⟩ := h
  cases (show r2 = [] from h3)
  exact ⟨v, u, by rw [e1, e2], h1, h2⟩
theorem atI_rep {ds : List D} {vs : List V} (h : Reps K W μ ds vs) {i : Int} {d : D} (e : atI ds i = some d) : ∃ v, atI vs i = some v ∧ Rep K W μ d v := by
  unfold atI at e ⊢
  rw [h.length]
  cases q : ixN ds.length i with
  | none => rw [q] at e; cases e
  | some j =>
    rw [q] at e
    obtain ⟨v, h1, h2⟩ := h.get (show ds[j]? = some d from e)
    exact ⟨v, h1, h2⟩

/-! ### cells, stores -/
/-- a dict's pairs -/
def RepKV (K : PySem.W.Frag) (W : Hp) (μ : List Addr) (kvs : List (Key × D)) (ws : List (Key × V)) : Prop := kvs.map (·.1) = ws.map (·.1) ∧ Reps K W μ (kvs.map (·.2)) (ws.map (·.2))
def CellAt (K : PySem.W.Frag) (W : Hp) (μ : List Addr) (H : Hp) (a : Addr) : Cell → Prop
  | .lst ds => ∃ vs, H a = some (.lst vs) ∧ Reps K W μ ds vs
  | .dk kvs => ∃ ws, H a = some (.dK ws) ∧ RepKV K W μ kvs ws
/-- what never changes: tuples, lists that nobody changes, locked things -/
structure Stt (K : PySem.W.Frag) (W F : Hp) (μ : List Addr) (S : Sto) (H : Hp) : Prop where
  sub : ∀ a o, W a = some o → H a = some o
  frm : ∀ a o, F a = some o → H a = some o
  dis : ∀ a o, F a = some o → W a = none
  len : μ.length = S.length
  nd : ∀ (i j : Nat) a, μ[i]? = some a → μ[j]? = some a → i = j
  apart : ∀ (i : Nat) a, μ[i]? = some a → W a = none ∧ F a = none
  cel : ∀ (i : Nat) a c, μ[i]? = some a → S[i]? = some c → CellAt K W μ H a c
theorem RepKV.mono (x : Ext W μ W' μ') {kvs : List (Key × D)} {ws : List (Key × V)} (h : RepKV K W μ kvs ws) : RepKV K W' μ' kvs ws := ⟨h.1, h.2.m x⟩
theorem CellAt.mono (x : Ext W μ W' μ') {H' : Hp} {a : Addr} (hh : H' a = H a) : ∀ {c : Cell}, CellAt K W μ H a c → CellAt K W' μ' H' a c
  | .lst ds, ⟨vs, h, r⟩ => ⟨vs, hh.trans h, r.m x⟩
  | .dk kvs, ⟨ws, h, r⟩ => ⟨ws, hh.trans h, r.mono x⟩
theorem CellAt.some {a : Addr} : ∀ {c : Cell}, CellAt K W μ H a c → ∃ o, H a = some o ∧ Mut (some o)
  | .lst ds, ⟨vs, h, r⟩ => ⟨_, h, trivial⟩
  | .dk kvs, ⟨ws, h, r⟩ => ⟨_, h, trivial⟩
variable {F : Hp} {S : Sto}
theorem Stt.at (st : Stt K W F μ S H) {r : Nat} {a : Addr} (h : μ[r]? = some a) : ∃ c, S[r]? = some c ∧ CellAt K W μ H a c := by
  have hl : r < S.length := by rw [← st.len]; exact (List.getElem?_eq_some_iff.mp h).1
  exact ⟨S[r], by simp [hl], st.cel r a _ h (by simp [hl])⟩
theorem Stt.there (st : Stt K W F μ S H) {r : Nat} {a : Addr} (h : μ[r]? = some a) : ∃ o, H a = some o := by
  obtain ⟨c, _, q⟩ := st.at h
  obtain ⟨o, e, _⟩ := q.some
  exact ⟨o, e⟩
/-- a new thing that never changes -/
theorem Stt.imm (st : Stt K W F μ S H) {p : Addr} (o : HO) (hp : H p = none) : Stt K (upd W p o) F μ S (upd H p o) ∧ Ext W μ (upd W p o) μ := by
  have hW : W p = none := by
    cases q : W p with
    | none => rfl
    | some u => rw [st.sub _ _ q] at hp; cases hp
  have hF : F p = none := by
    cases q : F p with
    | none => rfl
    | some u => rw [st.frm _ _ q] at hp; cases hp
  have x : Ext W μ (upd W p o) μ := ⟨fun a u h => by
    rw [upd_ne (ne_of_none h hW)]
    exact h, fun _ _ h => h⟩
  have hμ : ∀ (i : Nat) a, μ[i]? = some a → a ≠ p := fun i a h e => by
    obtain ⟨u, q⟩ := st.there h
    rw [e, hp] at q
    cases q
  refine ⟨⟨fun a u h => ?_, fun a u h => ?_, fun a u h => ?_, st.len, st.nd, fun i a h => ?_, fun i a c h hc => ?_⟩, x⟩
  · by_cases e : a = p
    · subst e; rw [upd_same] at h; rw [upd_same]; exact h
    · rw [upd_ne e] at h; rw [upd_ne e]; exact st.sub _ _ h
  · rw [upd_ne (ne_of_none h hF)]; exact st.frm _ _ h
  · rw [upd_ne (ne_of_none h hF)]; exact st.dis _ _ h
  · rw [upd_ne (hμ i a h)]; exact st.apart i a h
  · exact (st.cel i a c h hc).mono x (upd_ne (hμ i a h))
theorem get_snoc {α : Type} {l : List α} {x : α} {i : Nat} {y : α} (h : (l ++ [x])[i]? = some y) : l[i]? = some y ∨ (i = l.length ∧ x = y) := by
  by_cases hi : i < l.length
  · rw [List.getElem?_append_left hi] at h; exact .inl h
  · rw [List.getElem?_append_right (by omega)] at h
    by_cases e : i = l.length
    · subst e; simp at h; exact .inr ⟨rfl, h⟩
    · have : i - l.length ≠ 0 := by omega
      obtain ⟨k, hk⟩ := Nat.exists_eq_succ_of_ne_zero this
      rw [hk] at h; simp at h
/-- a new cell -/
theorem Stt.cell (st : Stt K W F μ S H) {p : Addr} (o : HO) (c : Cell) (hp : H p = none) (hc : ∀ W' μ', Ext W μ W' μ' → CellAt K W' μ' (upd H p o) p c) :
    Stt K W F (μ ++ [p]) (S ++ [c]) (upd H p o) ∧ Ext W μ W (μ ++ [p]) := by
  have hW : W p = none := by
    cases q : W p with
    | none => rfl
    | some u => rw [st.sub _ _ q] at hp; cases hp
  have hF : F p = none := by
    cases q : F p with
    | none => rfl
    | some u => rw [st.frm _ _ q] at hp; cases hp
  have x : Ext W μ W (μ ++ [p]) := ⟨fun _ _ h => h, fun r a h => by rw [List.getElem?_append_left (List.getElem?_eq_some_iff.mp h).1]; exact h⟩
  have hμ : ∀ (i : Nat) a, μ[i]? = some a → a ≠ p := fun i a h e => by
    obtain ⟨u, q⟩ := st.there h
    rw [e, hp] at q
    cases q
  refine ⟨⟨fun a u h => ?_, fun a u h => ?_, st.dis, by simp [st.len], fun i j a h1 h2 => ?_, fun i a h => ?_, fun i a c' h hc' => ?_⟩, x⟩
  · rw [upd_ne (ne_of_none h hW)]; exact st.sub _ _ h
  · rw [upd_ne (ne_of_none h hF)]; exact st.frm _ _ h
  · rcases get_snoc h1 with h1 | ⟨e1, h1⟩ <;> rcases get_snoc h2 with h2 | ⟨e2, h2⟩
    · exact st.nd i j a h1 h2
    · exact absurd h2.symm (hμ i a h1)
    · exact absurd h1.symm (hμ j a h2)
    · omega
  · rcases get_snoc h with h | ⟨_, h⟩
    · exact st.apart i a h
    · rw [← h]; exact ⟨hW, hF⟩
  · rcases get_snoc h with h | ⟨e, h⟩
    · have hl : i < S.length := by rw [← st.len]; exact (List.getElem?_eq_some_iff.mp h).1
      rw [List.getElem?_append_left hl] at hc'
      exact (st.cel i a c' h hc').mono x (upd_ne (hμ i a h))
    · subst h
      rw [e, st.len, List.getElem?_append_right (Nat.le_refl _)] at hc'
      simp at hc'
      subst hc'
      exact hc _ _ x
/-- a cell changes -/
theorem Stt.put (st : Stt K W F μ S H) {r : Nat} {a : Addr} (o : HO) (c : Cell) (hr : μ[r]? = some a) (hc : CellAt K W μ (upd H a o) a c) : Stt K W F μ (S.set r c) (upd H a o) := by
  obtain ⟨hW, hF⟩ := st.apart r a hr
  have hl : r < S.length := by rw [← st.len]; exact (List.getElem?_eq_some_iff.mp hr).1
  refine ⟨fun b u h => ?_, fun b u h => ?_, st.dis, by simp [st.len], st.nd, st.apart, fun i b c' h hc' => ?_⟩
  · rw [upd_ne (ne_of_none h hW)]; exact st.sub _ _ h
  · rw [upd_ne (ne_of_none h hF)]; exact st.frm _ _ h
  · by_cases e : i = r
    · subst e
      rw [hr] at h; cases h
      rw [List.getElem?_set_self hl] at hc'
      cases hc'
      exact hc
    · rw [List.getElem?_set_ne (Ne.symm e)] at hc'
      refine (st.cel i b c' h hc').mono Ext.refl (upd_ne fun q => e (st.nd i r a (by rw [← q]; exact h) hr))

/-! ### the wish behind a value -/
def Post (K : PySem.W.Frag) (W F : Hp) (μ : List Addr) (S : Sto) (d : D) (Q : VK) : Prop := ∀ v H' W' μ', Ext W μ W' μ' → Stt K W' F μ' S H' → Rep K W' μ' d v → Q v H'
def PostB (K : PySem.W.Frag) (W F : Hp) (μ : List Addr) (S : Sto) (b : Bool) (Q : Bool → Hp → Prop) : Prop := ∀ H' W' μ', Ext W μ W' μ' → Stt K W' F μ' S H' → Q b H'
def PostA (K : PySem.W.Frag) (W F : Hp) (μ : List Addr) (S : Sto) (ds : List D) (Q : List V → Hp → Prop) : Prop := ∀ vs H' W' μ', Ext W μ W' μ' → Stt K W' F μ' S H' → Reps K W' μ' ds vs → Q vs H'
theorem Post.ext {W1 : Hp} {μ1 : List Addr} {d : D} {Q : VK} (p : Post K W F μ S d Q) (x : Ext W μ W1 μ1) : Post K W1 F μ1 S d Q := fun v H' W' μ' y st r => p v H' W' μ' (x.trans y) st r
theorem PostB.ext {W1 : Hp} {μ1 : List Addr} {b : Bool} {Q : Bool → Hp → Prop} (p : PostB K W F μ S b Q) (x : Ext W μ W1 μ1) : PostB K W1 F μ1 S b Q := fun H' W' μ' y st => p H' W' μ' (x.trans y) st
theorem PostA.ext {W1 : Hp} {μ1 : List Addr} {ds : List D} {Q : List V → Hp → Prop} (p : PostA K W F μ S ds Q) (x : Ext W μ W1 μ1) : PostA K W1 F μ1 S ds Q := fun v H' W' μ' y st r => p v H' W' μ' (x.trans y) st r
/-- the names' values -/
def EnvR (K : PySem.W.Frag) (W : Hp) (μ : List Addr) (ρ : Env) (σ : L2.St) : Prop := ρ.length = σ.length ∧ ∀ (i : Nat) d, ρ[i]? = some (some d) → ∃ v, σ[i]? = some (some v) ∧ Rep K W μ d v
theorem EnvR.mono {ρ : Env} {σ : L2.St} (x : Ext W μ W' μ') (h : EnvR K W μ ρ σ) : EnvR K W' μ' ρ σ := ⟨h.1, fun i d e => let ⟨v, a, b⟩ := h.2 i d e; ⟨v, a, b.m x⟩⟩
theorem EnvR.set {ρ : Env} {σ : L2.St} {i : Nat} {d : D} {v : V} (h : EnvR K W μ ρ σ) (r : Rep K W μ d v) : EnvR K W μ (ρ.set i (some d)) (σ.set i (some v)) := by
  refine ⟨by simp [h.1], fun j e q => ?_⟩
  by_cases hj : i = j
  · subst hj
    have hl : i < ρ.length := by
      have := (List.getElem?_eq_some_iff.mp q).1
      simpa using this
    rw [List.getElem?_set_self hl] at q
    cases q
    exact ⟨v, by rw [List.getElem?_set_self (by rw [← h.1]; exact hl)], r⟩
  · rw [List.getElem?_set_ne hj] at q
    obtain ⟨u, h1, h2⟩ := h.2 j e q
    exact ⟨u, by rw [List.getElem?_set_ne hj]; exact h1, h2⟩
end

/-! ### readings -/
def TR (K : PySem.W.Frag) (ev : Env → Sto → Rs D) : TE := fun σ H Q => ∃ W F μ ρ S d S', Stt K W F μ S H ∧ EnvR K W μ ρ σ ∧ ev ρ S = some (d, S') ∧ Post K W F μ S' d Q
def TTR (K : PySem.W.Frag) (ev : Env → Sto → Rs Bool) : TT := fun σ H Q => ∃ W F μ ρ S b S', Stt K W F μ S H ∧ EnvR K W μ ρ σ ∧ ev ρ S = some (b, S') ∧ PostB K W F μ S' b Q
def TAR (K : PySem.W.Frag) (ev : Env → Sto → Rs (List D)) : TA := fun σ H Q => ∃ W F μ ρ S ds S', Stt K W F μ S H ∧ EnvR K W μ ρ σ ∧ ev ρ S = some (ds, S') ∧ PostA K W F μ S' ds Q
inductive Fl where
  | nx (ρ : Env) | rt (d : D) | bk (ρ : Env)
def PostS (K : PySem.W.Frag) (W F : Hp) (μ : List Addr) (S : Sto) (fl : Fl) (D : Ends) : Prop := match fl with
  | .nx ρ => ∀ σ H' W' μ', Ext W μ W' μ' → Stt K W' F μ' S H' → EnvR K W' μ' ρ σ → D.nx σ H'
  | .bk ρ => ∀ σ H' W' μ', Ext W μ W' μ' → Stt K W' F μ' S H' → EnvR K W' μ' ρ σ → D.bk σ H'
  | .rt d => Post K W F μ S d D.rt
theorem PostS.ext {K : PySem.W.Frag} {W F W1 : Hp} {μ μ1 : List Addr} {S : Sto} {fl : Fl} {D : Ends} (p : PostS K W F μ S fl D) (x : Ext W μ W1 μ1) : PostS K W1 F μ1 S fl D := by
  cases fl with
  | nx ρ => exact fun σ H' W' μ' y st r => p σ H' W' μ' (x.trans y) st r
  | bk ρ => exact fun σ H' W' μ' y st r => p σ H' W' μ' (x.trans y) st r
  | rt d => exact Post.ext p x
def TSR (K : PySem.W.Frag) (es : Env → Sto → Rs Fl) : TS := fun D σ H => ∃ W F μ ρ S fl S', Stt K W F μ S H ∧ EnvR K W μ ρ σ ∧ es ρ S = some (fl, S') ∧ PostS K W F μ S' fl D
theorem _root_.L2.PE.weak {X : Cx} {e : Expr} {t t' : TE} (h : PE X e t) (w : ∀ σ H Q, t' σ H Q → t σ H Q) : PE X e t' := ⟨fun pins s σ H Q I q => h.run pins s σ H Q I (w σ H Q q)⟩
theorem _root_.L2.PT.weak {X : Cx} {e : Expr} {t t' : TT} (h : PT X e t) (w : ∀ σ H Q, t' σ H Q → t σ H Q) : PT X e t' := ⟨fun pins s σ H Q I q => h.run pins s σ H Q I (w σ H Q q)⟩
theorem _root_.L2.PW.weak {X : Cx} {e : Expr} {t t' : TT} (h : PW X e t) (w : ∀ σ H Q, t' σ H Q → t σ H Q) : PW X e t' := ⟨fun wh pins s σ H Q I q => h.run wh pins s σ H Q I (w σ H Q q)⟩
theorem _root_.L2.PA.weak {X : Cx} {es : List Expr} {t t' : TA} (h : PA X es t) (w : ∀ σ H Q, t' σ H Q → t σ H Q) : PA X es t' := ⟨fun pos pins s σ H Q I q => h.run pos pins s σ H Q I (w σ H Q q)⟩
theorem _root_.L2.PS.weak {X : Cx} {st : Stmt} {t t' : TS} (h : PS X st t) (w : ∀ D σ H, t' D σ H → t D σ H) : PS X st t' := ⟨fun pins s σ H D I q => h.run pins s σ H D I (w D σ H q)⟩
theorem _root_.L2.PSs.weak {X : Cx} {st : List Stmt} {t t' : TS} (h : PSs X st t) (w : ∀ D σ H, t' D σ H → t D σ H) : PSs X st t' := ⟨fun pins s σ H D I q => h.run pins s σ H D I (w D σ H q)⟩
end Rw

/-! M3: operations on values are those of the machine -/
namespace Rw
open PySem PySem.Spec PyProof.Rows L2

def rBin (K : PySem.W.Frag) (op : Operator) : R2 := fun x y H Q => ∃ W F μ S d e r, Stt K W F μ S H ∧ Rep K W μ d x ∧ Rep K W μ e y ∧ binD op d e = some r ∧ Post K W F μ S r Q
def rCmp (K : PySem.W.Frag) (op : CmpOp) : R2 := fun x y H Q => ∃ W F μ S d e b, Stt K W F μ S H ∧ Rep K W μ d x ∧ Rep K W μ e y ∧ cmpD S op d e = some b ∧ PostB K W F μ S b fun b H' => Q (.bl b) H'
def rNeg (K : PySem.W.Frag) : V → Hp → VK → Prop := fun x H Q => ∃ i, x = .int i ∧ Q (.int (-i)) H
section
variable {K : PySem.W.Frag} {W F : Hp} {μ : List Addr} {S : Sto} {H : Hp}
theorem Post.int {i : Int} {Q : VK} (p : Post K W F μ S (.int i) Q) (st : Stt K W F μ S H) : Q (.int i) H := p _ H W μ Ext.refl st rfl
theorem Post.strv {i : Str} {Q : VK} (p : Post K W F μ S (.str i) Q) (st : Stt K W F μ S H) : Q (.str i) H := p _ H W μ Ext.refl st rfl
theorem Post.blv {i : Bool} {Q : VK} (p : Post K W F μ S (.bl i) Q) (st : Stt K W F μ S H) : Q (.bl i) H := p _ H W μ Ext.refl st rfl
theorem Post.same {d : D} {v : V} {Q : VK} (p : Post K W F μ S d Q) (st : Stt K W F μ S H) (r : Rep K W μ d v) : Q v H := p _ H W μ Ext.refl st r
theorem PostB.now {b : Bool} {Q : Bool → Hp → Prop} (p : PostB K W F μ S b Q) (st : Stt K W F μ S H) : Q b H := p H W μ Ext.refl st
/-- a new tuple, a new list that nobody changes -/
theorem Post.tup {ds : List D} {vs : List V} {Q : VK} (p : Post K W F μ S (.tup ds) Q) (st : Stt K W F μ S H) (r : Reps K W μ ds vs) : ∀ a, H a = none → Q (.ref a) (upd H a (.tup vs)) := fun a ha =>
  let ⟨st', x⟩ := st.imm (.tup vs) ha
  p _ _ _ _ x st' ⟨a, vs, rfl, SqT.of upd_same, r.m x⟩
theorem Post.lst {ds : List D} {vs : List V} {Q : VK} (p : Post K W F μ S (.lst ds) Q) (st : Stt K W F μ S H) (r : Reps K W μ ds vs) : ∀ a, H a = none → Q (.ref a) (upd H a (.lst vs)) := fun a ha =>
  let ⟨st', x⟩ := st.imm (.lst vs) ha
  p _ _ _ _ x st' ⟨a, vs, rfl, upd_same, r.m x⟩
theorem Stt.sqT (st : Stt K W F μ S H) {a : Addr} {vs : List V} (h : SqT K W a vs) : SqT K H a vs := sqT_le st.sub h
theorem Stt.sqL (st : Stt K W F μ S H) {a : Addr} {vs : List V} (h : SqL K W a vs) : SqL K H a vs := sqL_le st.sub h
theorem Stt.lst (st : Stt K W F μ S H) {r : Nat} {a : Addr} {xs : List D} (h : μ[r]? = some a) (e : S[r]? = some (.lst xs)) : ∃ vs, H a = some (.lst vs) ∧ Reps K W μ xs vs := st.cel r a _ h e
theorem Stt.dk (st : Stt K W F μ S H) {r : Nat} {a : Addr} {kvs : List (Key × D)} (h : μ[r]? = some a) (e : S[r]? = some (.dk kvs)) : ∃ ws, H a = some (.dK ws) ∧ RepKV K W μ kvs ws := st.cel r a _ h e
/-- a list of any kind, read -/
theorem lst_of (st : Stt K W F μ S H) {d : D} {v : V} {xs : List D} (r : Rep K W μ d v) (e : lstOf S d = some xs) : ∃ a vs, v = .ref a ∧ SqL K H a vs ∧ Reps K W μ xs vs := by
  cases d with
  | lst ds =>
    cases e
    obtain ⟨a, vs, rfl, h, q⟩ := r
    exact ⟨a, vs, rfl, SqL.of (st.sub _ _ h), q⟩
  | flst ds =>
    cases e
    obtain ⟨a, vs, rfl, h, q⟩ := r
    exact ⟨a, vs, rfl, st.sqL h, q⟩
  | ref i =>
    obtain ⟨a, h, rfl⟩ := r
    cases c : S[i]? with
    | none => simp only [lstOf, c] at e; cases e
    | some cc =>
      simp only [lstOf, c] at e
      cases cc with
      | lst ys =>
        cases e
        obtain ⟨vs, h1, h2⟩ := st.lst h c
        exact ⟨a, vs, rfl, SqL.of h1, h2⟩
      | dk _ => cases e
  | _ => cases e
theorem RepKV.look {kvs : List (Key × D)} {ws : List (Key × V)} (h : RepKV K W μ kvs ws) {k : Key} {d : D} (e : lookK kvs k = some d) : ∃ v, valV ws k = some v ∧ Rep K W μ d v := by
  obtain ⟨h1, h2⟩ := h
  induction kvs generalizing ws with
  | nil => cases e
  | cons p kvs ih =>
    cases ws with
    | nil => simp at h1
    | cons q ws =>
      obtain ⟨h3, h4⟩ := List.cons.inj (show p.1 :: kvs.map (·.1) = q.1 :: ws.map (·.1) from h1)
      obtain ⟨v, r, e1, h5, h6⟩ := h2
      obtain ⟨e2, e3⟩ := List.cons.inj (show q.2 :: ws.map (·.2) = v :: r from e1)
      subst e2 e3
      by_cases c : p.1 = k
      · have : lookK (p :: kvs) k = some p.2 := by simp [lookK, List.find?_cons, c]
        rw [this] at e; cases e
        exact ⟨q.2, valV_pos (by rw [← h3, c]), h5⟩
      · have : lookK (p :: kvs) k = lookK kvs k := by simp [lookK, List.find?_cons, c]
        rw [this] at e
        obtain ⟨v, a, b⟩ := ih e h4 h6
        exact ⟨v, by rw [valV_neg (by rw [← h3]; exact c)]; exact a, b⟩
end

/-! ### data, for == -/
section
variable {K : PySem.W.Frag} {W F : Hp} {μ : List Addr} {S : Sto} {H : Hp}
mutual
theorem pd_dp (st : Stt K W F μ S H) : ∀ (d : D) (v : V) (p : PyData), Rep K W μ d v → pd S d = some p → Dp K H v p
  | .non, _, _, h, e => by cases (show _ = V.non from h); cases e; exact .non
  | .bl b, _, _, h, e => by cases (show _ = V.bl b from h); cases e; exact .bl b
  | .int i, _, _, h, e => by cases (show _ = V.int i from h); cases e; exact .int i
  | .str s, _, _, h, e => by cases (show _ = V.str s from h); cases e; exact .str s
  | .tup ds, _, p, ⟨a, vs, e1, h, r⟩, e => by
    subst e1
    cases q : pds S ds with
    | none => simp [pd, q] at e
    | some ps =>
      have : p = .tuple ps := by simpa [pd, q] using e.symm
      subst this
      exact .tup (st.sqT h) (pds_dp st ds vs ps r q)
  | .lst ds, _, p, ⟨a, vs, e1, h, r⟩, e => by
    subst e1
    cases q : pds S ds with
    | none => simp [pd, q] at e
    | some ps =>
      have : p = .list ps := by simpa [pd, q] using e.symm
      subst this
      exact .lst (SqL.of (st.sub _ _ h)) (pds_dp st ds vs ps r q)
  | .flst ds, _, p, ⟨a, vs, e1, h, r⟩, e => by
    subst e1
    cases q : pds S ds with
    | none => simp [pd, q] at e
    | some ps =>
      have : p = .list ps := by simpa [pd, q] using e.symm
      subst this
      exact .lst (st.sqL h) (pds_dp st ds vs ps r q)
  | .ref r, _, _, _, e => by cases e
  | .ty n, _, _, _, e => by cases e
theorem pds_dp (st : Stt K W F μ S H) : ∀ (ds : List D) (vs : List V) (ps : List PyData), Reps K W μ ds vs → pds S ds = some ps → DpAll K H vs ps
  | [], _, _, h, e => by cases (show _ = [] from h); cases e; exact .nil
  | d :: ds, _, ps, ⟨v, r, e1, h1, h2⟩, e => by
    subst e1
    cases q : pd S d with
    | none => simp [pds, q] at e
    | some p =>
      cases q2 : pds S ds with
      | none => simp [pds, q, q2] at e
      | some ps' =>
        have : ps = p :: ps' := by simpa [pds, q, q2] using e.symm
        subst this
        exact .cons (pd_dp st d v p h1 q) (pds_dp st ds r ps' h2 q2)
end
theorem pdT_dp (st : Stt K W F μ S H) {d : D} {v : V} {p : PyData} (r : Rep K W μ d v) (e : pdT S d = some p) : Dp K H v p := by
  cases d with
  | ref i =>
    obtain ⟨a, h, rfl⟩ := r
    cases c : S[i]? with
    | none => simp only [pdT, c] at e; cases e
    | some cc =>
      simp only [pdT, c] at e
      cases cc with
      | lst ys =>
        obtain ⟨vs, h1, h2⟩ := st.lst h c
        cases q : pds S ys with
        | none => simp [q] at e
        | some ps =>
          have : p = .list ps := by simpa [q] using e.symm
          subst this
          exact .lst (SqL.of h1) (pds_dp st ys vs ps h2 q)
      | dk _ => cases e
  | _ => exact pd_dp st _ v p r e
end

section
variable {X : Cx}
theorem op_fdivA : OpR X (binaryOp .FloorDiv) (rI (fun _ j => divOk j) fun i j => .int (i.fdiv j)) := opI fun _ _ _ _ _ _ _ hc q => floordiv_int hc.1 q (.inl (PyProof.noPylong_of_log2 hc.2))
theorem op_subb : OpR X (binaryOp .Sub) (fun x y H Q => ∃ a b, x = .bl a ∧ y = .bl b ∧ Q (.int (b2i a - b2i b)) H) := by
  intro pins s σ H x y v u Q I rx ry h
  obtain ⟨a, b, rfl, rfl, q⟩ := h
  cases rx
  cases ry
  exact PyProof.Rows.sub_bool ⟨.int _, H, I.tok _, ⟨_, rfl⟩, q⟩
theorem Reps.rep {K : PySem.W.Frag} {W : Hp} {μ : List Addr} {ds : List D} {vs : List V} (h : Reps K W μ ds vs) : ∀ n : Nat, Reps K W μ (List.replicate n ds).flatten (List.replicate n vs).flatten
  | 0 => rfl
  | n + 1 => by
    rw [List.replicate_succ, List.replicate_succ, List.flatten_cons, List.flatten_cons]
    exact h.app (Reps.rep h n)
theorem op_bin (op : Operator) : OpR X (binaryOp op) (rBin X.K op) := by
  intro pins s σ H x y v u Q I rx ry h
  obtain ⟨W, F, μ, S, d, e, r, st, hd, he, hb, p⟩ := h
  unfold binD at hb
  split at hb
  · cases hb; cases (show x = _ from hd); cases (show y = _ from he)
    exact op_add pins s σ H _ _ v u Q I rx ry ⟨_, _, rfl, rfl, p.int st⟩
  · split at hb
    · rename_i c
      cases hb; cases (show x = _ from hd); cases (show y = _ from he)
      exact op_add_str pins s σ H _ _ v u Q I rx ry ⟨_, _, rfl, rfl, c, p.strv st⟩
    · cases hb
  · split at hb
    · rename_i c
      cases hb
      obtain ⟨a, vs, rfl, h1, r1⟩ := hd
      obtain ⟨b, us, rfl, h2, r2⟩ := he
      refine op_catA pins s σ H _ _ v u Q I rx ry ⟨a, b, vs, us, rfl, rfl, st.sqT h1, st.sqT h2, by rw [r1.length, r2.length]; exact c, fun e => ?_, fun _ e => ?_, fun _ _ => p.tup st (r1.app r2)⟩
      · subst e
        exact p.same st ⟨b, us, rfl, h2, by have := r1.app r2; simpa using this⟩
      · subst e
        exact p.same st ⟨a, vs, rfl, h1, by have := r1.app r2; simpa using this⟩
    · cases hb
  · split at hb
    · rename_i c
      cases hb
      obtain ⟨a, vs, rfl, h1, r1⟩ := hd
      obtain ⟨b, us, rfl, h2, r2⟩ := he
      exact op_cat pins s σ H _ _ v u Q I rx ry ⟨a, b, vs, us, rfl, rfl, st.sub _ _ h1, st.sub _ _ h2, by rw [r1.length, r2.length]; exact c, p.lst st (r1.app r2)⟩
    · cases hb
  · cases hb; cases (show x = _ from hd); cases (show y = _ from he)
    exact op_sub pins s σ H _ _ v u Q I rx ry ⟨_, _, rfl, rfl, p.int st⟩
  · cases hb; cases (show x = _ from hd); cases (show y = _ from he)
    exact op_subb pins s σ H _ _ v u Q I rx ry ⟨_, _, rfl, rfl, p.int st⟩
  · split at hb
    · rename_i c
      cases hb; cases (show x = _ from hd); cases (show y = _ from he)
      exact op_mulW pins s σ H _ _ v u Q I rx ry ⟨_, _, rfl, rfl, c, p.int st⟩
    · cases hb
  · split at hb
    · rename_i c
      cases hb; cases (show x = _ from hd); cases (show y = _ from he)
      exact op_fdivA pins s σ H _ _ v u Q I rx ry ⟨_, _, rfl, rfl, c, p.int st⟩
    · cases hb
  · split at hb
    · rename_i c
      cases hb; cases (show x = _ from hd); cases (show y = _ from he)
      exact op_modN pins s σ H _ _ v u Q I rx ry ⟨_, _, rfl, rfl, c, p.int st⟩
    · cases hb
  · split at hb
    · rename_i c
      cases hb; cases (show x = _ from hd); cases (show y = _ from he)
      exact op_pow pins s σ H _ _ v u Q I rx ry ⟨_, _, rfl, rfl, c, p.int st⟩
    · cases hb
  · split at hb
    · rename_i c
      cases hb; cases (show x = _ from hd); cases (show y = _ from he)
      exact op_shlW pins s σ H _ _ v u Q I rx ry ⟨_, _, rfl, rfl, c, p.int st⟩
    · cases hb
  · split at hb
    · rename_i c
      cases hb; cases (show x = _ from hd); cases (show y = _ from he)
      exact op_shr pins s σ H _ _ v u Q I rx ry ⟨_, _, rfl, rfl, c, p.int st⟩
    · cases hb
  · split at hb
    · rename_i c
      cases hb; cases (show y = _ from he)
      obtain ⟨a, vs, rfl, h1, r1⟩ := hd
      exact op_rep pins s σ H _ _ v u Q I rx ry ⟨a, _, vs, rfl, rfl, st.sub _ _ h1, c.1, c.2.1, by rw [r1.length]; exact c.2.2, p.lst st (r1.rep _)⟩
    · cases hb
  · cases hb
theorem scal_eq {K : PySem.W.Frag} {W F : Hp} {μ : List Addr} {S : Sto} {H : Hp} (st : Stt K W F μ S H) {d e : D} {x y : V} {b : Bool} (hd : Rep K W μ d x) (he : Rep K W μ e y) (h : eqD S d e = some b) :
    (scal x y = true ∧ b = decide (x = y)) ∨ ∃ p q, Dp K H x p ∧ Dp K H y q ∧ SeqAt.shaped p = true ∧ SeqAt.shaped q = true ∧ b = PyData.eqv p q := by
  unfold eqD at h
  split at h
  · cases h; cases (show x = _ from hd); cases (show y = _ from he); exact .inl ⟨rfl, by simp⟩
  · cases h; cases (show x = _ from hd); cases (show y = _ from he); exact .inl ⟨rfl, by simp⟩
  · cases h; cases (show x = _ from hd); cases (show y = _ from he); exact .inl ⟨rfl, by simp⟩
  · cases h; cases (show x = _ from hd); cases (show y = _ from he); exact .inl ⟨rfl, by simp⟩
  · cases h; cases (show x = _ from hd); cases (show y = _ from he); exact .inl ⟨rfl, by simp⟩
  · cases h; cases (show x = _ from hd); cases (show y = _ from he); exact .inl ⟨rfl, by simp⟩
  · cases h; cases (show x = _ from hd); cases (show y = _ from he); exact .inl ⟨rfl, by simp⟩
  · cases h; cases (show x = _ from hd); cases (show y = _ from he); exact .inl ⟨rfl, by simp⟩
  · cases h; cases (show x = _ from hd); cases (show y = _ from he); exact .inl ⟨rfl, by simp⟩
  · cases h; cases (show x = _ from hd); cases (show y = _ from he); exact .inl ⟨rfl, by simp⟩
  · split at h
    · rename_i p q hp hq
      split at h
      · rename_i c
        cases h
        exact .inr ⟨p, q, pdT_dp st hd hp, pdT_dp st he hq, c.1, c.2, rfl⟩
      · cases h
    · cases h
theorem isNone_rep {K : PySem.W.Frag} {W : Hp} {μ : List Addr} {d : D} {x : V} (h : Rep K W μ d x) : isNone d = decide (x = .non) := by
  cases d with
  | non => cases (show x = _ from h); rfl
  | bl b => cases (show x = _ from h); rfl
  | int b => cases (show x = _ from h); rfl
  | str b => cases (show x = _ from h); rfl
  | ty b => cases (show x = _ from h); rfl
  | tup b => obtain ⟨_, _, rfl, _⟩ := h; rfl
  | lst b => obtain ⟨_, _, rfl, _⟩ := h; rfl
  | flst b => obtain ⟨_, _, rfl, _⟩ := h; rfl
  | ref b => obtain ⟨_, _, rfl⟩ := h; rfl
theorem op_inT (hu : X.A.units + 65 < cLine) : OpR X (compareOp .In) (fun x y H Q => ∃ d ds, Dp X.K H x d ∧ Dp X.K H y (.tuple ds) ∧ SeqAt.shaped d = true ∧ SeqAt.shaped (.tuple ds) = true ∧ Q (.bl (ds.any fun z => PyData.eqv z d)) H) := by
  intro pins s σ H x y v u Q I rx ry h
  obtain ⟨d, ds, hd, he, sd, se, q⟩ := h
  obtain ⟨as, r1⟩ := Dp.reads I d x v hd rx
  obtain ⟨bs, r2⟩ := Dp.reads I (.tuple ds) y u he ry
  exact SeqAt.in_tuple_reads r2 r1 (SeqAt.canLay_of_shaped se) (SeqAt.canLay_of_shaped sd) (room_in_shaped sd hu) ⟨.bl _, H, I, rfl, q⟩
theorem op_notInT (hu : X.A.units + 65 < cLine) : OpR X (compareOp .NotIn) (fun x y H Q => ∃ d ds, Dp X.K H x d ∧ Dp X.K H y (.tuple ds) ∧ SeqAt.shaped d = true ∧ SeqAt.shaped (.tuple ds) = true ∧ Q (.bl (!ds.any fun z => PyData.eqv z d)) H) := by
  intro pins s σ H x y v u Q I rx ry h
  obtain ⟨d, ds, hd, he, sd, se, q⟩ := h
  obtain ⟨as, r1⟩ := Dp.reads I d x v hd rx
  obtain ⟨bs, r2⟩ := Dp.reads I (.tuple ds) y u he ry
  exact SeqAt.notIn_tuple_reads r2 r1 (SeqAt.canLay_of_shaped se) (SeqAt.canLay_of_shaped sd) (room_in_shaped sd hu) ⟨.bl _, H, I, rfl, q⟩
theorem inD_dp {K : PySem.W.Frag} {W F : Hp} {μ : List Addr} {S : Sto} {H : Hp} (st : Stt K W F μ S H) {d e : D} {x y : V} {b : Bool} (hd : Rep K W μ d x) (he : Rep K W μ e y) (h : inD S d e = some b) :
    ∃ p qs, Dp K H x p ∧ (Dp K H y (.tuple qs) ∧ SeqAt.shaped (.tuple qs) = true ∨ Dp K H y (.list qs) ∧ SeqAt.shaped (.list qs) = true) ∧ SeqAt.shaped p = true ∧ b = qs.any fun z => PyData.eqv z p := by
  unfold inD at h
  split at h
  · rename_i p qs hp hq
    split at h
    · rename_i c
      cases h
      exact ⟨p, qs, pdT_dp st hd hp, .inl ⟨pdT_dp st he hq, c.2⟩, c.1, rfl⟩
    · cases h
  · rename_i p qs hp hq
    split at h
    · rename_i c
      cases h
      exact ⟨p, qs, pdT_dp st hd hp, .inr ⟨pdT_dp st he hq, c.2⟩, c.1, rfl⟩
    · cases h
  · cases h
theorem op_cmp (hu : X.A.units + 65 < cLine) (op : CmpOp) : OpR X (compareOp op) (rCmp X.K op) := by
  intro pins s σ H x y v u Q I rx ry h
  obtain ⟨W, F, μ, S, d, e, b, st, hd, he, hb, p⟩ := h
  have p := p.now st
  cases op with
  | Eq =>
    rcases scal_eq st hd he hb with ⟨h1, rfl⟩ | ⟨pp, q, h1, h2, h3, h4, rfl⟩
    · exact op_eq pins s σ H _ _ v u Q I rx ry ⟨h1, p⟩
    · exact op_eqD (by omega) pins s σ H _ _ v u Q I rx ry ⟨pp, q, h1, h2, h3, h4, p⟩
  | NotEq =>
    have hb : (eqD S d e).map (!·) = some b := hb
    cases q : eqD S d e with
    | none => rw [q] at hb; cases hb
    | some c =>
      rw [q] at hb
      cases hb
      rcases scal_eq st hd he q with ⟨h1, rfl⟩ | ⟨pp, q', h1, h2, h3, h4, rfl⟩
      · exact op_ne pins s σ H _ _ v u Q I rx ry ⟨h1, p⟩
      · exact op_neD (by omega) pins s σ H _ _ v u Q I rx ry ⟨pp, q', h1, h2, h3, h4, p⟩
  | Lt =>
    simp only [cmpD] at hb
    split at hb
    · cases hb; cases (show x = _ from hd); cases (show y = _ from he)
      exact op_lt pins s σ H _ _ v u Q I rx ry ⟨_, _, rfl, rfl, p⟩
    · cases hb
  | LtE =>
    simp only [cmpD] at hb
    split at hb
    · cases hb; cases (show x = _ from hd); cases (show y = _ from he)
      exact op_le pins s σ H _ _ v u Q I rx ry ⟨_, _, rfl, rfl, p⟩
    · cases hb
  | Gt =>
    simp only [cmpD] at hb
    split at hb
    · cases hb; cases (show x = _ from hd); cases (show y = _ from he)
      exact op_gt pins s σ H _ _ v u Q I rx ry ⟨_, _, rfl, rfl, p⟩
    · cases hb
  | GtE =>
    simp only [cmpD] at hb
    split at hb
    · cases hb; cases (show x = _ from hd); cases (show y = _ from he)
      exact op_ge pins s σ H _ _ v u Q I rx ry ⟨_, _, rfl, rfl, p⟩
    · cases hb
  | Is =>
    simp only [cmpD] at hb
    split at hb
    · cases hb; cases (show y = _ from he)
      rw [isNone_rep hd] at p
      exact op_isN pins s σ H _ _ v u Q I rx ry ⟨rfl, p⟩
    · split at hb
      · cases hb; cases (show x = _ from hd); cases (show y = _ from he)
        exact op_isBl pins s σ H _ _ v u Q I rx ry ⟨_, _, rfl, rfl, p⟩
      · cases hb
    · cases hb
  | IsNot =>
    simp only [cmpD] at hb
    split at hb
    · cases hb; cases (show y = _ from he)
      rw [isNone_rep hd] at p
      exact op_notN pins s σ H _ _ v u Q I rx ry ⟨rfl, p⟩
    · split at hb
      · cases hb; cases (show x = _ from hd); cases (show y = _ from he)
        exact op_notBl pins s σ H _ _ v u Q I rx ry ⟨_, _, rfl, rfl, p⟩
      · cases hb
    · cases hb
  | In =>
    obtain ⟨pp, qs, h1, h2, h3, rfl⟩ := inD_dp st hd he hb
    rcases h2 with ⟨h2, h4⟩ | ⟨h2, h4⟩
    · exact op_inT hu pins s σ H _ _ v u Q I rx ry ⟨pp, qs, h1, h2, h3, h4, p⟩
    · exact op_inD hu pins s σ H _ _ v u Q I rx ry ⟨pp, qs, h1, h2, h3, h4, p⟩
  | NotIn =>
    have hb : (inD S d e).map (!·) = some b := hb
    cases q : inD S d e with
    | none => rw [q] at hb; cases hb
    | some c =>
      rw [q] at hb
      cases hb
      obtain ⟨pp, qs, h1, h2, h3, rfl⟩ := inD_dp st hd he q
      rcases h2 with ⟨h2, h4⟩ | ⟨h2, h4⟩
      · exact op_notInT hu pins s σ H _ _ v u Q I rx ry ⟨pp, qs, h1, h2, h3, h4, p⟩
      · exact op_notInD hu pins s σ H _ _ v u Q I rx ry ⟨pp, qs, h1, h2, h3, h4, p⟩
/-- truth -/
theorem tru_rep {K : PySem.W.Frag} {W F : Hp} {μ : List Addr} {S : Sto} {H : Hp} (st : Stt K W F μ S H) {d : D} {x : V} {b : Bool} (hd : Rep K W μ d x) (h : truD S d = some b) : TruV K x H b := by
  cases d with
  | non => cases h; cases (show x = _ from hd); rfl
  | bl c => cases h; cases (show x = _ from hd); rfl
  | int c => cases h; cases (show x = _ from hd); rfl
  | str c =>
    cases (show x = _ from hd)
    simp only [truD] at h
    split at h
    · rename_i q; cases h; exact ⟨q, rfl⟩
    · cases h
  | ty c => cases h
  | tup ds =>
    cases h
    obtain ⟨a, vs, rfl, h1, r⟩ := hd
    exact .inr (.inl ⟨vs, st.sqT h1, by rw [r.isEmpty]⟩)
  | lst ds =>
    cases h
    obtain ⟨a, vs, rfl, h1, r⟩ := hd
    exact .inl ⟨vs, SqL.of (st.sub _ _ h1), by rw [r.isEmpty]⟩
  | flst ds =>
    cases h
    obtain ⟨a, vs, rfl, h1, r⟩ := hd
    exact .inl ⟨vs, st.sqL h1, by rw [r.isEmpty]⟩
  | ref i =>
    obtain ⟨a, hr, rfl⟩ := hd
    cases c : S[i]? with
    | none => simp only [truD, c] at h; cases h
    | some cc =>
      simp only [truD, c] at h
      cases cc with
      | lst ys =>
        cases h
        obtain ⟨vs, h1, h2⟩ := st.lst hr c
        exact .inl ⟨vs, SqL.of h1, by rw [h2.isEmpty]⟩
      | dk kvs =>
        cases h
        obtain ⟨ws, h1, h2⟩ := st.dk hr c
        refine .inr (.inr ⟨ws, h1, ?_⟩)
        have := congrArg List.length h2.1
        cases kvs <;> cases ws <;> simp_all
/-- an item -/
def rIdx (K : PySem.W.Frag) : R2 := fun x y H Q => ∃ W F μ S d e r, Stt K W F μ S H ∧ Rep K W μ d x ∧ Rep K W μ e y ∧ idxD S d e = some r ∧ Post K W F μ S r Q
theorem key_rep {K : PySem.W.Frag} {W : Hp} {μ : List Addr} {d : D} {x : V} {k : Key} (h : Rep K W μ d x) (e : keyD d = some k) : x = kV k := by
  cases d with
  | int i => cases e; exact h
  | str s => cases e; exact h
  | _ => cases e
theorem ix_dict (hu : X.A.units + 1 < cLine) : IxR X (fun x y H Q => ∃ a v, x = .ref a ∧ DGet H a y (some v) ∧ Q v H) := by
  intro value slice pins s σ H x y v u Q I rx ry h hs
  obtain ⟨a, z, rfl, g, q⟩ := h
  obtain rfl : v = Value.ref a := rx
  exact tail_any (dict_typeIs I g) PySem.F.slot_dict_getitem.lookup (d_getItem hu I g ry fun w' s3 I3 rw' => ⟨z, H, I3, rw', q⟩) hs
theorem ix_any (hu : X.A.units + 1 < cLine) : IxR X (rIdx X.K) := by
  intro value slice pins s σ H x y v u Q I rx ry h hs
  obtain ⟨W, F, μ, S, d, e, r, st, hd, he, hb, p⟩ := h
  unfold idxD at hb
  split at hb
  · cases (show y = _ from he)
    obtain ⟨a, vs, rfl, h1, r1⟩ := hd
    obtain ⟨z, h2, h3⟩ := atI_rep r1 hb
    exact ix_tup value slice pins s σ H _ _ v u Q I rx ry ⟨a, vs, _, z, rfl, rfl, st.sqT h1, h2, p.same st h3⟩ hs
  · cases (show y = _ from he)
    obtain ⟨a, vs, rfl, h1, r1⟩ := hd
    obtain ⟨z, h2, h3⟩ := atI_rep r1 hb
    exact ix_list value slice pins s σ H _ _ v u Q I rx ry ⟨a, vs, _, z, rfl, rfl, SqL.of (st.sub _ _ h1), h2, p.same st h3⟩ hs
  · cases (show y = _ from he)
    obtain ⟨a, vs, rfl, h1, r1⟩ := hd
    obtain ⟨z, h2, h3⟩ := atI_rep r1 hb
    exact ix_list value slice pins s σ H _ _ v u Q I rx ry ⟨a, vs, _, z, rfl, rfl, st.sqL h1, h2, p.same st h3⟩ hs
  · cases (show y = _ from he); cases (show x = _ from hd)
    split at hb
    · rename_i z k hz
      cases q : atI z.cps.toList k with
      | none => rw [q] at hb; cases hb
      | some c =>
        rw [q] at hb
        cases hb
        exact ix_str value slice pins s σ H _ _ v u Q I rx ry ⟨z, k, c, rfl, rfl, hz, q, p.strv st⟩ hs
    · cases hb
  · rename_i i
    obtain ⟨a, hr, rfl⟩ := hd
    cases c : S[i]? with
    | none => rw [c] at hb; cases hb
    | some cc =>
      rw [c] at hb
      cases cc with
      | lst ys =>
        obtain ⟨vs, h1, h2⟩ := st.lst hr c
        simp only at hb
        split at hb
        · cases (show y = _ from he)
          obtain ⟨z, h3, h4⟩ := atI_rep h2 hb
          exact ix_list value slice pins s σ H _ _ v u Q I rx ry ⟨a, vs, _, z, rfl, rfl, SqL.of h1, h3, p.same st h4⟩ hs
        · cases hb
      | dk kvs =>
        obtain ⟨ws, h1, h2⟩ := st.dk hr c
        simp only at hb
        cases q : keyD e with
        | none => rw [q] at hb; cases hb
        | some k =>
          rw [q] at hb
          have hb : lookK kvs k = some r := hb
          obtain ⟨z, h3, h4⟩ := h2.look hb
          have hy := key_rep he q
          subst hy
          exact ix_dict hu value slice pins s σ H _ _ v u Q I rx ry ⟨a, z, rfl, by rw [← h3]; exact DGet.k h1, p.same st h4⟩ hs
  · cases hb
/-- a slice -/
theorem sl_any : SlR X (fun x lo hi H Q => ∃ W F μ S d r, Stt X.K W F μ S H ∧ Rep X.K W μ d x ∧ slD S d lo hi = some r ∧ Post X.K W F μ S r Q) := by
  intro pins s σ H x v vl vu lo hi sl Q I rx hs pl pu h
  obtain ⟨W, F, μ, S, d, r, st, hd, hb, p⟩ := h
  have viaL : ∀ xs, lstOf S d = some xs → r = .lst (cutD xs lo hi) → ∃ T id, typeLookup (.type T) "__getitem__" = pure (some (.builtin id)) ∧ s.TypeIs v T ∧ wpAny (model X.prog X.w) X.A (getItem v (.ref sl)) (EP X pins σ Q) X.xe s := fun xs e e2 => by
    obtain ⟨a, vs, rfl, h1, h2⟩ := lst_of st hd e
    subst e2
    exact sl_list pins s σ H _ v vl vu lo hi sl Q I rx hs pl pu ⟨a, vs, rfl, h1, p.lst st (h2.cut lo hi)⟩
  unfold slD at hb
  split at hb
  · cases hb
    obtain ⟨a, vs, rfl, h1, r1⟩ := hd
    refine sl_tupA pins s σ H _ v vl vu lo hi sl Q I rx hs pl pu ⟨a, vs, rfl, st.sqT h1, fun ⟨e1, e2⟩ => ?_, fun _ => p.tup st (r1.cut lo hi)⟩
    refine p.same st ⟨a, vs, rfl, h1, ?_⟩
    have := r1.cut lo hi
    have e3 : cutV vs lo hi = vs := by
      unfold cutV
      rw [e1, e2]
      simp
    rw [e3] at this
    exact this
  · cases (show x = _ from hd)
    split at hb
    · rename_i z hz
      cases hb
      exact sl_str pins s σ H _ v vl vu lo hi sl Q I rx hs pl pu ⟨z, rfl, hz, p.strv st⟩
    · cases hb
  · cases q : lstOf S d with
    | none => rw [q] at hb; cases hb
    | some xs =>
      rw [q] at hb
      cases hb
      exact viaL xs q rfl
end
end Rw

/-! M4: the text by slots, and what it does -/
namespace Rw
open PySem L2

mutual
inductive MG where
  | name (i : Nat) | tup (ts : MGs)
inductive MGs where
  | nil | cons (t : MG) (ts : MGs)
end
/-- methods of built-in types -/
inductive MT where
  | append | pop | extend
mutual
inductive ME where
  | var (i : Nat) | int (i : Int) | str (s : Str) | bl (b : Bool) | non
  | con (g : Nat)
  | bin (op : Operator) (a b : ME) | madd (a b : ME) | neg (a : ME) | cmp (op : CmpOp) (a b : ME) | ch (op op' : CmpOp) (a b c : ME)
  | and (a b : ME) | or (a b : ME) | one (a : ME) | not (a : ME)
  | ifE (c a b : ME)
  | tup (es : MEs) | lst (es : MEs) | mlst (es : MEs)
  | dict (ps : MPs)
  | idx (a i : ME) | sl (a : ME) (lo hi : MO) | slR (a : ME) (hi : MO)
  | call (g : Nat) (es : MEs)
  | bi (b : BI) (g : Nat) (es : MEs)
  | isI (g h : Nat) (n : String) (a : ME)
  | meth (m : MT) (o : ME) (es : MEs)
  | lc (mu : Bool) (vs : List Nat) (elt : ME) (tg : MG) (it : MI) (cs : MO)
  | lc2 (mu : Bool) (vs : List Nat) (elt : ME) (tg : MG) (it : MI) (cs : MO) (vs1 : List Nat) (tg1 : MG) (it1 : MI) (cs1 : MO)
inductive MEs where
  | nil | cons (e : ME) (es : MEs)
inductive MO where
  | none | some (e : ME)
inductive MPs where
  | nil | cons (k v : ME) (ps : MPs)
inductive MI where
  | seq (e : ME) | rng (g : Nat) (es : MEs)
end
mutual
inductive MS where
  | asg (tg : MG) (e : ME)
  | par2 (i j : Nat) (a b : ME)
  | par3 (i j l : Nat) (a b c : ME)
  | aug (i : Nat) (op : Operator) (e : ME)
  | setI (o i e : ME)
  | augI (o i : ME) (op : Operator) (e : ME)
  | ifS (c : ME) (a b : MSs)
  | whl (c : ME) (b : MSs)
  | forS (tg : MG) (it : MI) (b : MSs)
  | ret (e : ME) | retN | ex (e : ME) | pass | brk | nev
inductive MSs where
  | nil | cons (s : MS) (ss : MSs)
end
structure Fn where
  np : Nat
  nl : Nat
  body : MSs
inductive GK where
  | fn (f : Fn) | blt | con (d : D)
abbrev GT := List (Str × GK)

/-! ### what it does -/
def bnd {α β : Type} (x : Rs α) (f : α → Sto → Rs β) : Rs β := match x with
  | some (a, S) => f a S
  | none => none
def lft {α β : Type} (x : Option α) (f : α → Rs β) : Rs β := match x with
  | some a => f a
  | none => none
theorem bnd_some {α β : Type} (a : α) (S : Sto) (f : α → Sto → Rs β) : bnd (some (a, S)) f = f a S := rfl
theorem bnd_none {α β : Type} (f : α → Sto → Rs β) : bnd none f = none := rfl
theorem lft_some {α β : Type} (a : α) (f : α → Rs β) : lft (some a) f = f a := rfl
theorem lft_none {α β : Type} (f : α → Rs β) : lft none f = none := rfl
theorem bnd_inv {α β : Type} {x : Rs α} {f : α → Sto → Rs β} {r : β × Sto} (h : bnd x f = some r) : ∃ a S, x = some (a, S) ∧ f a S = some r := by
  cases x with
  | none => cases h
  | some p => exact ⟨p.1, p.2, rfl, h⟩
theorem lft_inv {α β : Type} {x : Option α} {f : α → Rs β} {r : β × Sto} (h : lft x f = some r) : ∃ a, x = some a ∧ f a = some r := by
  cases x with
  | none => cases h
  | some p => exact ⟨p, rfl, h⟩

def conOf (G : GT) (g : Nat) : Option D := match G[g]? with
  | some (_, .con d) => some d
  | _ => none
mutual
/-- to a name, to names -/
def asgG : MG → D → Env → Option Env
  | .name i, d, ρ => if i < ρ.length then some (ρ.set i (some d)) else none
  | .tup ts, d, ρ => match d with
    | .tup xs => asgGs ts xs ρ
    | .lst xs => asgGs ts xs ρ
    | _ => none
def asgGs : MGs → List D → Env → Option Env
  | .nil, [], ρ => some ρ
  | .cons t ts, x :: xs, ρ => (asgG t x ρ).bind fun ρ1 => asgGs ts xs ρ1
  | _, _, _ => none
end
/-- the items walked, and the cell that they stand in -/
def itemsOf (S : Sto) : D → Option (List D × Option Nat)
  | .tup xs => some (xs, none)
  | .lst xs => some (xs, none)
  | .flst xs => some (xs, none)
  | .ref r => match S[r]? with
    | some (.lst xs) => some (xs, some r)
    | _ => none
  | _ => none
def rngD : List D → Option (List D)
  | [.int b] => if -(2 ^ 62) ≤ b ∧ b < 2 ^ 62 then some ((List.range b.toNat).map fun (i : Nat) => D.int (0 + (i : Int))) else none
  | [.int a, .int b] => if -(2 ^ 62) ≤ a ∧ a < 2 ^ 62 ∧ -(2 ^ 62) ≤ b ∧ b < 2 ^ 62 then some ((List.range (b - a).toNat).map fun (i : Nat) => D.int (a + (i : Int))) else none
  | _ => none
/-- the cell walked still holds these items -/
def okS (o : Option Nat) (xs : List D) (S : Sto) : Prop := match o with
  | none => True
  | some r => S[r]? = some (.lst xs)
open Classical in
noncomputable def compL (o : Option Nat) (all : List D) (turn : D → Sto → Rs (Option D)) : List D → Sto → List D → Rs (List D)
  | [], S, acc => if okS o all S then some (acc, S) else none
  | x :: xs, S, acc => if okS o all S then bnd (turn x S) fun r S1 => compL o all turn xs S1 (match r with
    | some y => acc ++ [y]
    | none => acc) else none
open Classical in
/-- the outer loop of a comprehension of two clauses -/
noncomputable def compA (o : Option Nat) (all : List D) (turn : D → Sto → List D → Rs (List D)) : List D → Sto → List D → Rs (List D)
  | [], S, acc => if okS o all S then some (acc, S) else none
  | x :: xs, S, acc => if okS o all S then bnd (turn x S acc) fun acc1 S1 => compA o all turn xs S1 acc1 else none
open Classical in
noncomputable def forL (o : Option Nat) (all : List D) (body : D → Env → Sto → Rs Fl) : List D → Env → Sto → Rs Fl
  | [], ρ, S => if okS o all S then some (.nx ρ, S) else none
  | x :: xs, ρ, S => if okS o all S then bnd (body x ρ S) fun fl S1 => match fl with
    | .nx ρ1 => forL o all body xs ρ1 S1
    | .bk ρ1 => some (.nx ρ1, S1)
    | .rt d => some (.rt d, S1) else none
def whF (c : Env → Sto → Rs Bool) (b : Env → Sto → Rs Fl) : Nat → Env → Sto → Rs Fl
  | 0, _, _ => none
  | n + 1, ρ, S => bnd (c ρ S) fun t S1 => if t = true then bnd (b ρ S1) fun fl S2 => match fl with
    | .nx ρ2 => whF c b n ρ2 S2
    | .bk ρ2 => some (.nx ρ2, S2)
    | .rt d => some (.rt d, S2) else some (.nx ρ, S1)
open Classical in
noncomputable def whE (c : Env → Sto → Rs Bool) (b : Env → Sto → Rs Fl) (ρ : Env) (S : Sto) : Rs Fl :=
  if h : ∃ n r, whF c b n ρ S = some r then whF c b h.choose ρ S else none
/-- the comprehension's own names forgotten -/
def wipeE (ρ : Env) : List Nat → Env
  | [] => ρ
  | v :: vs => (wipeE ρ vs).set v none
def methD (m : MT) (S : Sto) (d : D) (ds : List D) : Rs D := match m, d, ds with
  | .append, .ref r, [x] => match S[r]? with
    | some (.lst xs) => if xs.length < sizeLine then some (.non, S.set r (.lst (xs ++ [x]))) else none
    | _ => none
  | .pop, .ref r, [] => match S[r]? with
    | some (.lst xs) => match xs[xs.length - 1]? with
      | some x => some (x, S.set r (.lst xs.dropLast))
      | none => none
    | _ => none
  | .extend, .ref r, [.lst ys] => match S[r]? with
    | some (.lst xs) => if xs.length + ys.length ≤ sizeLine then some (.non, S.set r (.lst (xs ++ ys))) else none
    | _ => none
  | _, _, _ => none
def putI (S : Sto) (o i v : D) : Option Sto := match o with
  | .ref r => match S[r]? with
    | some (.lst xs) => match i with
      | .int k => (ixN xs.length k).map fun j => S.set r (.lst (xs.set j v))
      | _ => none
    | some (.dk kvs) => (keyD i).bind fun k => if kvs.length < sizeLine then some (S.set r (.dk (storeK kvs k v))) else none
    | none => none
  | _ => none
instance (a b : Int) : Decidable (CMul a b) := inferInstanceAs (Decidable (_ ∨ _))
def augGet (S : Sto) (d k : D) : Option D := match d with
  | .ref r => match S[r]? with
    | some (.dk kvs) => (keyD k).bind fun q => lookK kvs q
    | _ => none
  | _ => none
def augD (op : Operator) (d e : D) : Option D := match op, d, e with
  | .Add, .int a, .int b => some (.int (a + b))
  | .Sub, .int a, .int b => some (.int (a - b))
  | .Mult, .int a, .int b => if CMul a b then some (.int (a * b)) else none
  | .Add, .str a, .str b => if a.length + b.length ≤ sizeLine then some (.str (a ++ b)) else none
  | _, _, _ => none
def mergeKD (kvs more : List (Key × D)) : List (Key × D) := more.foldl (fun acc kv => storeK acc kv.1 kv.2) kvs
/-- the pairs of a display -/
def keysD : List (D × D) → Option (List (Key × D))
  | [] => some []
  | (k, v) :: r => match keyD k, keysD r with
    | some q, some s => some ((q, v) :: s)
    | _, _ => none

section
variable (G : GT) (cl : Nat → List D → Sto → Rs D)
mutual
noncomputable def evE : ME → Env → Sto → Rs D
  | .var i, ρ, S => match ρ[i]? with
    | some (some d) => some (d, S)
    | _ => none
  | .int i, _, S => some (.int i, S)
  | .str s, _, S => some (.str s, S)
  | .bl b, _, S => some (.bl b, S)
  | .non, _, S => some (.non, S)
  | .con g, _, S => lft (conOf G g) fun d => some (d, S)
  | .bin op a b, ρ, S => bnd (evE a ρ S) fun d S1 => bnd (evE b ρ S1) fun e S2 => lft (binD op d e) fun r => some (r, S2)
  | .madd a b, ρ, S => bnd (evE a ρ S) fun d S1 => bnd (evE b ρ S1) fun e S2 => match d, e with
    | .lst xs, .lst ys => if xs.length + ys.length ≤ sizeLine then some (.ref S2.length, S2 ++ [.lst (xs ++ ys)]) else none
    | _, _ => none
  | .neg a, ρ, S => bnd (evE a ρ S) fun d S1 => match d with
    | .int i => some (.int (-i), S1)
    | _ => none
  | .cmp op a b, ρ, S => bnd (evE a ρ S) fun d S1 => bnd (evE b ρ S1) fun e S2 => lft (cmpD S2 op d e) fun r => some (.bl r, S2)
  | .ch op op' a b c, ρ, S => bnd (evE a ρ S) fun d S1 => bnd (evE b ρ S1) fun e S2 => lft (cmpD S2 op d e) fun r => if r = true then bnd (evE c ρ S2) fun f S3 => lft (cmpD S3 op' e f) fun q => some (.bl q, S3) else some (.bl false, S2)
  | .and a b, ρ, S => bnd (evE a ρ S) fun d S1 => lft (truD S1 d) fun t => if t = true then evE b ρ S1 else some (d, S1)
  | .or a b, ρ, S => bnd (evE a ρ S) fun d S1 => lft (truD S1 d) fun t => if t = true then some (d, S1) else evE b ρ S1
  | .one a, ρ, S => evE a ρ S
  | .not a, ρ, S => bnd (evE a ρ S) fun d S1 => lft (truD S1 d) fun t => some (.bl (!t), S1)
  | .ifE c a b, ρ, S => bnd (evE c ρ S) fun d S1 => lft (truD S1 d) fun t => if t = true then evE a ρ S1 else evE b ρ S1
  | .tup es, ρ, S => bnd (evEs es ρ S) fun ds S1 => if ds.length ≤ sizeLine then some (.tup ds, S1) else none
  | .lst es, ρ, S => bnd (evEs es ρ S) fun ds S1 => if ds.length ≤ sizeLine then some (.lst ds, S1) else none
  | .mlst es, ρ, S => bnd (evEs es ρ S) fun ds S1 => if ds.length ≤ sizeLine then some (.ref S1.length, S1 ++ [.lst ds]) else none
  | .dict ps, ρ, S => bnd (evPs ps ρ S) fun ps S1 => lft (keysD ps) fun kvs => if kvs.length ≤ 15 then some (.ref S1.length, S1 ++ [.dk (mergeKD [] kvs)]) else none
  | .idx a i, ρ, S => bnd (evE a ρ S) fun d S1 => bnd (evE i ρ S1) fun e S2 => lft (idxD S2 d e) fun r => some (r, S2)
  | .sl a lo hi, ρ, S => bnd (evE a ρ S) fun d S1 => bnd (evO lo ρ S1) fun l S2 => bnd (evO hi ρ S2) fun h S3 => lft (slD S3 d l h) fun r => some (r, S3)
  | .slR a hi, ρ, S => bnd (evE a ρ S) fun d S1 => bnd (evO hi ρ S1) fun h S2 => lft (slRD S2 d h) fun r => some (r, S2)
  | .call g es, ρ, S => bnd (evEs es ρ S) fun ds S1 => cl g ds S1
  | .bi b _ es, ρ, S => bnd (evEs es ρ S) fun ds S1 => lft (biD S1 b ds) fun r => some (r, S1)
  | .isI _ _ n a, ρ, S => bnd (evE a ρ S) fun d S1 => lft (tyName S1 d) fun t => lft (kitB t n) fun b => some (.bl b, S1)
  | .meth m o es, ρ, S => bnd (evE o ρ S) fun d S1 => lft (lstOf S1 d) fun _ => bnd (evEs es ρ S1) fun ds S2 => methD m S2 d ds
  | .lc mu vs elt tg it cs, ρ, S => bnd (evI it ρ S) fun w S1 => if w.1.length ≤ sizeLine then
      bnd (compL w.2 w.1 (fun x S2 => lft (asgG tg x (wipeE ρ vs)) fun ρ1 => bnd (evC cs ρ1 S2) fun t S3 => if t = true then bnd (evE elt ρ1 S3) fun y S4 => some (some y, S4) else some (none, S3)) w.1 S1 [])
        fun acc S5 => if mu = true then some (.ref S5.length, S5 ++ [.lst acc]) else some (.lst acc, S5) else none
  | .lc2 mu vs elt tg it cs vs1 tg1 it1 cs1, ρ, S => bnd (evI it ρ S) fun w S1 => bnd (compA w.2 w.1 (fun x S2 acc => lft (asgG tg x (wipeE ρ vs)) fun ρ1 => bnd (evC cs ρ1 S2) fun t S3 => if t = true then
      bnd (evI it1 ρ1 S3) fun w1 S4 => if acc.length + w1.1.length ≤ sizeLine then compL w1.2 w1.1 (fun y S5 => lft (asgG tg1 y (wipeE ρ1 vs1)) fun ρ2 => bnd (evC cs1 ρ2 S5) fun t1 S6 => if t1 = true then bnd (evE elt ρ2 S6) fun z S7 => some (some z, S7) else some (none, S6)) w1.1 S4 acc else none
      else some (acc, S3)) w.1 S1 []) fun acc S8 => if mu = true then some (.ref S8.length, S8 ++ [.lst acc]) else some (.lst acc, S8)
noncomputable def evEs : MEs → Env → Sto → Rs (List D)
  | .nil, _, S => some ([], S)
  | .cons e es, ρ, S => bnd (evE e ρ S) fun d S1 => bnd (evEs es ρ S1) fun ds S2 => some (d :: ds, S2)
noncomputable def evO : MO → Env → Sto → Rs (Option Int)
  | .none, _, S => some (none, S)
  | .some e, ρ, S => bnd (evE e ρ S) fun d S1 => match d with
    | .int i => some (some i, S1)
    | _ => none
/-- a comprehension's test -/
noncomputable def evC : MO → Env → Sto → Rs Bool
  | .none, _, S => some (true, S)
  | .some e, ρ, S => bnd (evE e ρ S) fun d S1 => lft (truD S1 d) fun t => some (t, S1)
noncomputable def evPs : MPs → Env → Sto → Rs (List (D × D))
  | .nil, _, S => some ([], S)
  | .cons k v ps, ρ, S => bnd (evE k ρ S) fun a S1 => bnd (evE v ρ S1) fun b S2 => bnd (evPs ps ρ S2) fun r S3 => some ((a, b) :: r, S3)
noncomputable def evI : MI → Env → Sto → Rs (List D × Option Nat)
  | .seq e, ρ, S => bnd (evE e ρ S) fun d S1 => lft (itemsOf S1 d) fun w => some (w, S1)
  | .rng _ es, ρ, S => bnd (evEs es ρ S) fun ds S1 => lft (rngD ds) fun xs => some ((xs, none), S1)
end
noncomputable def evT (e : ME) (ρ : Env) (S : Sto) : Rs Bool := bnd (evE G cl e ρ S) fun d S1 => lft (truD S1 d) fun t => some (t, S1)
mutual
noncomputable def evS : MS → Env → Sto → Rs Fl
  | .asg tg e, ρ, S => bnd (evE G cl e ρ S) fun d S1 => lft (asgG tg d ρ) fun ρ1 => some (.nx ρ1, S1)
  | .par2 i j a b, ρ, S => bnd (evE G cl a ρ S) fun d S1 => bnd (evE G cl b ρ S1) fun e S2 => some (.nx ((ρ.set i (some d)).set j (some e)), S2)
  | .par3 i j l a b c, ρ, S => bnd (evE G cl a ρ S) fun d S1 => bnd (evE G cl b ρ S1) fun e S2 => bnd (evE G cl c ρ S2) fun f S3 => some (.nx (((ρ.set i (some d)).set j (some e)).set l (some f)), S3)
  | .aug i op e, ρ, S => match ρ[i]? with
    | some (some d) => bnd (evE G cl e ρ S) fun y S1 => lft (augD op d y) fun r => some (.nx (ρ.set i (some r)), S1)
    | _ => none
  | .setI o i e, ρ, S => bnd (evE G cl e ρ S) fun v S1 => bnd (evE G cl o ρ S1) fun d S2 => bnd (evE G cl i ρ S2) fun k S3 => lft (putI S3 d k v) fun S4 => some (.nx ρ, S4)
  | .augI o i op e, ρ, S => bnd (evE G cl o ρ S) fun d S1 => bnd (evE G cl i ρ S1) fun k S2 => lft (augGet S2 d k) fun x => bnd (evE G cl e ρ S2) fun y S3 => lft (augD op x y) fun r => lft (putI S3 d k r) fun S4 => some (.nx ρ, S4)
  | .ifS c a b, ρ, S => bnd (evT G cl c ρ S) fun t S1 => if t = true then evSs a ρ S1 else evSs b ρ S1
  | .whl c b, ρ, S => whE (evT G cl c) (evSs b) ρ S
  | .forS tg it b, ρ, S => bnd (evI G cl it ρ S) fun w S1 => forL w.2 w.1 (fun x ρ1 S2 => lft (asgG tg x ρ1) fun ρ2 => evSs b ρ2 S2) w.1 ρ S1
  | .ret e, ρ, S => bnd (evE G cl e ρ S) fun d S1 => some (.rt d, S1)
  | .retN, ρ, S => some (.rt .non, S)
  | .ex e, ρ, S => bnd (evE G cl e ρ S) fun _ S1 => some (.nx ρ, S1)
  | .pass, ρ, S => some (.nx ρ, S)
  | .brk, ρ, S => some (.bk ρ, S)
  | .nev, _, _ => none
noncomputable def evSs : MSs → Env → Sto → Rs Fl
  | .nil, ρ, S => some (.nx ρ, S)
  | .cons s ss, ρ, S => bnd (evS s ρ S) fun fl S1 => match fl with
    | .nx ρ1 => evSs ss ρ1 S1
    | .bk ρ1 => some (.bk ρ1, S1)
    | .rt d => some (.rt d, S1)
end
end
open Classical in
/-- what a call leaves: new cells are forgotten where nothing points at them -/
noncomputable def prune (S : Sto) (d : D) (S' : Sto) : D × Sto := if S'.take S.length = S ∧ below S.length d = true then (d, S) else (d, S')
noncomputable def callK (G : GT) : Nat → Nat → List D → Sto → Rs D
  | 0, _, _, _ => none
  | k + 1, g, ds, S => match G[g]? with
    | some (_, .fn f) => if ds.length = f.np then bnd (evSs G (callK G k) f.body (ds.map some ++ List.replicate (f.nl - ds.length) none) S) fun fl S1 => match fl with
      | .nx _ => some (prune S .non S1)
      | .rt d => some (prune S d S1)
      | .bk _ => none else none
    | _ => none
end Rw

/-! M5: whether a text by slots is the text as it stands -/
namespace Rw
open PySem L2

structure Syn where
  N : List Str
  sc : Scope
  fn : Str → Bool
def Syn.blk (Γ : Syn) (scope : Scope) : Syn := ⟨Γ.N, relS scope Γ.sc, fun x => scope.names.lookup x == some .cell⟩
def visB (Γ : Syn) (i : Nat) (x : Str) : Bool := decide (Γ.N[i]? = some x) && ((match Γ.sc.names.lookup x with
  | some .local => true
  | some .cell => true
  | some .free => true
  | _ => false) && (!(x == "__debug__") && !(x == "__classdict__")))
def locB (Γ : Syn) (i : Nat) (x : Str) : Bool := decide (Γ.N[i]? = some x) && (match Γ.sc.names.lookup x with
  | some .local => true
  | some .cell => Γ.fn x
  | _ => false)
def lclB (Γ : Syn) (i : Nat) (x : Str) : Bool := decide (Γ.N[i]? = some x) && decide (Γ.sc.names.lookup x = some .local)
/-- a global name, the g-th of the table -/
def glB (G : GT) (Γ : Syn) (g : Nat) (x : Str) : Bool := (match G[g]? with
  | some (y, _) => decide (y = x)
  | none => false) && (decide (Γ.sc.names.lookup x = some .globalImplicit) && (!(x == "__debug__") && decide (x ≠ "__name__")))
def isFnB (G : GT) (g : Nat) : Bool := match G[g]? with
  | some (_, .fn _) => true
  | _ => false
def isBlt (G : GT) (g : Nat) : Bool := match G[g]? with
  | some (_, .blt) => true
  | _ => false
/-- no star, no slice, no set -/
def okX : Expr → Bool
  | .Starred .. => false
  | .Slice .. => false
  | .Set .. => false
  | _ => true
def notLc : Expr → Bool
  | .ListComp .. => false
  | .SetComp .. => false
  | .DictComp .. => false
  | _ => true
def noCall : Expr → Bool
  | .Call .. => false
  | _ => true
def biName : BI → Str
  | .len => "len" | .abs => "abs" | .max => "max" | .min => "min" | .int => "int" | .str => "str" | .tuple => "tuple" | .list => "list"
def mtName : MT → Str
  | .append => "append" | .pop => "pop" | .extend => "extend"
def ownOf (N : List Str) (vs : List Nat) : List (Str × Nat) := vs.map fun i => ((N[i]?).getD "", i)
mutual
def slG : MG → List Nat
  | .name i => [i]
  | .tup ts => slGs ts
def slGs : MGs → List Nat
  | .nil => []
  | .cons t ts => slG t ++ slGs ts
end
mutual
def chkG : MG → Syn → Expr → Bool
  | .name i, Γ, .Name x _ => locB Γ i x
  | .tup ts, Γ, .Tuple es _ _ => chkGs ts Γ es
  | _, _, _ => false
def chkGs : MGs → Syn → List Expr → Bool
  | .nil, _, [] => true
  | .cons t ts, Γ, e :: es => okX e && (chkG t Γ e && chkGs ts Γ es)
  | _, _, _ => false
end
section
variable (G : GT)
mutual
def chkE : ME → Syn → Expr → Bool
  | .var i, Γ, .Name x _ => visB Γ i x
  | .int i, _, .Constant (.int j) _ _ => decide (i = j)
  | .str s, _, .Constant (.str t) _ _ => decide (s = t)
  | .bl b, _, .Constant (.bool c) _ _ => b == c
  | .non, _, .Constant .none _ _ => true
  | .con g, Γ, .Name x _ => glB G Γ g x && (match conOf G g with
    | some _ => true
    | none => false)
  | .bin op a b, Γ, .BinOp x op' y _ => decide (op = op') && (chkE a Γ x && chkE b Γ y)
  | .madd a b, Γ, .BinOp x op y _ => decide (op = .Add) && (chkE a Γ x && chkE b Γ y)
  | .neg a, Γ, .UnaryOp .USub x _ => chkE a Γ x
  | .cmp op a b, Γ, .Compare x [op'] [y] _ => decide (op = op') && (okX y && (chkE a Γ x && chkE b Γ y))
  | .ch op op' a b c, Γ, .Compare x [p, q] [y, z] _ => decide (op = p) && (decide (op' = q) && (okX z && (chkE a Γ x && (chkE b Γ y && chkE c Γ z))))
  | .and a b, Γ, .BoolOp .And (x :: y :: r) p => chkE a Γ x && chkE b Γ (.BoolOp .And (y :: r) p)
  | .or a b, Γ, .BoolOp .Or (x :: y :: r) p => chkE a Γ x && chkE b Γ (.BoolOp .Or (y :: r) p)
  | .one a, Γ, .BoolOp _ [x] _ => chkE a Γ x
  | .not a, Γ, .UnaryOp .Not x _ => chkE a Γ x
  | .ifE c a b, Γ, .IfExp t x y _ => chkE c Γ t && (chkE a Γ x && chkE b Γ y)
  | .tup es, Γ, .Tuple xs _ _ => chkEs es Γ xs
  | .lst es, Γ, .List xs _ => chkEs es Γ xs
  | .mlst es, Γ, .List xs _ => chkEs es Γ xs
  | .dict ps, Γ, .Dict ks vs _ => decide (ks.length ≤ 15) && (decide (ks.length = vs.length) && (!ks.isEmpty && chkPs ps Γ ks vs))
  | .idx a i, Γ, .Subscript x y _ => okX y && (chkE a Γ x && chkE i Γ y)
  | .sl a lo hi, Γ, .Subscript x (.Slice l h none _) _ => chkE a Γ x && (chkO lo Γ l && chkO hi Γ h)
  | .slR a hi, Γ, .Subscript x (.Slice none h (some (.UnaryOp .USub (.Constant (.int i) _ _) _)) _) _ => decide (i = 1) && (chkE a Γ x && chkO hi Γ h)
  | .call g es, Γ, .Call (.Name x _) xs [] _ => glB G Γ g x && (isFnB G g && chkEs es Γ xs)
  | .bi b g es, Γ, .Call (.Name x _) xs [] _ => glB G Γ g x && (isBlt G g && (decide (x = biName b) && (!xs.isEmpty && chkEs es Γ xs)))
  | .isI g h n a, Γ, .Call (.Name x _) [y, .Name t _] [] _ => glB G Γ g x && (isBlt G g && (decide (x = "isinstance") && (glB G Γ h t && (isBlt G h && (decide (bootBuiltins t = some (.type n)) && (okX y && chkE a Γ y))))))
  | .meth m o es, Γ, .Call (.Attribute y nm ap) xs [] cp => decide (nm = mtName m) && (noCall y && ((ap.endLine == cp.line) && (decide (xs.length < 30) && (chkE o Γ y && chkEs es Γ xs))))
  | .lc _ vs elt tg it cs, Γ, .ListComp y [⟨t, i, ifs, a⟩] scope _ => decide (a = 0) && (okX i && (blkC Γ.N Γ.sc scope (ownOf Γ.N vs) && ((slG tg).all (fun j => decide (j ∈ vs)) &&
      (chkG tg (Γ.blk scope) t && (chkI it Γ i && (chkCs cs (Γ.blk scope) ifs && chkE elt (Γ.blk scope) y))))))
  | .lc2 _ vs elt tg it cs vs1 tg1 it1 cs1, Γ, .ListComp y [⟨t, i, ifs, a⟩, ⟨t1, i1, ifs1, a1⟩] scope _ => decide (a = 0) && (decide (a1 = 0) && (okX i && (okX i1 && (blkC Γ.N Γ.sc scope (ownOf Γ.N vs) && (vs1.all (fun j => decide (j ∈ vs)) && ((slG tg).all (fun j => decide (j ∈ vs)) && ((slG tg1).all (fun j => decide (j ∈ vs1)) &&
      (chkG tg (Γ.blk scope) t && (chkI it Γ i && (chkCs cs (Γ.blk scope) ifs && (chkG tg1 (Γ.blk scope) t1 && (chkI it1 (Γ.blk scope) i1 && (chkCs cs1 (Γ.blk scope) ifs1 && chkE elt (Γ.blk scope) y)))))))))))))
  | _, _, _ => false
def chkEs : MEs → Syn → List Expr → Bool
  | .nil, _, [] => true
  | .cons e es, Γ, x :: xs => okX x && (chkE e Γ x && chkEs es Γ xs)
  | _, _, _ => false
def chkO : MO → Syn → Option Expr → Bool
  | .none, _, none => true
  | .some e, Γ, some x => chkE e Γ x
  | _, _, _ => false
def chkCs : MO → Syn → List Expr → Bool
  | .none, _, [] => true
  | .some e, Γ, [x] => chkE e Γ x
  | _, _, _ => false
def chkPs : MPs → Syn → List (Option Expr) → List Expr → Bool
  | .nil, _, [], [] => true
  | .cons k v ps, Γ, some x :: ks, y :: vs => chkE k Γ x && (chkE v Γ y && chkPs ps Γ ks vs)
  | _, _, _, _ => false
def chkI : MI → Syn → Expr → Bool
  | .seq e, Γ, x => chkE e Γ x
  | .rng g es, Γ, .Call (.Name x _) xs [] _ => glB G Γ g x && (isBlt G g && (decide (x = "range") && ((decide (xs.length = 1) || decide (xs.length = 2)) && chkEs es Γ xs)))
  | _, _, _ => false
end
/-- both names on one line, and not all that stands there is folded: the pair is stored from the right -/
def swB (ls : List Pos) (vs : List Expr) : Bool := (match ls with
  | [] => true
  | p :: r => r.all fun q => q.line == p.line) && (!vs.all (foldedForSure 8) && !vs.all (constantsAlone 8))
/-- stored from the left -/
def noSw (Γ : Syn) (ts vs : List Expr) : Bool :=
  (!(ts.length == 2 || ts.length == 3) || vs.length != ts.length) ||
    (((ts.filterMap fun
      | .Name id pos => if Γ.sc.names.lookup id == some .local && pos.line == (ts.head?.map (·.pos.line)).getD 0 then some id else none
      | _ => none).length != ts.length) || vs.all (foldedForSure 8))
def asgB (Γ : Syn) (t v : Expr) : Bool := match t, v with
  | .Name y py, .ListComp e _ s p => (decide (Γ.sc.names.lookup y = some .local) && ((py.line == p.line) && !(s.names.any fun (n, k) => n == y && (k == .local || k == .cell)))) || decide (Γ.sc.names.lookup y = some .cell)
  | .Tuple ts _ _, .Tuple vs _ _ => noSw Γ ts vs
  | _, v => notLc v
mutual
def chkS : MS → Syn → Stmt → Bool
  | .asg tg e, Γ, st => (match st with
    | .Assign [t] v _ => asgB Γ t v && (chkG tg Γ t && chkE G e Γ v)
    | _ => false)
  | .par2 i j a b, Γ, st => (match st with
    | .Assign [.Tuple [.Name x px, .Name y py] _ _] (.Tuple [u, v] _ _) _ => swB [px, py] [u, v] && (lclB Γ i x && (lclB Γ j y && (decide (i ≠ j) && (decide (x ≠ y) && (okX u && (okX v && (chkE G a Γ u && chkE G b Γ v)))))))
    | _ => false)
  | .par3 i j l a b c, Γ, st => (match st with
    | .Assign [.Tuple [.Name x px, .Name y py, .Name z pz] _ _] (.Tuple [u, v, w] _ _) _ => swB [px, py, pz] [u, v, w] && (lclB Γ i x && (lclB Γ j y && (lclB Γ l z && (decide (i ≠ j ∧ i ≠ l ∧ j ≠ l) && (decide (x ≠ y ∧ x ≠ z ∧ y ≠ z) && (okX u && (okX v && (okX w && (chkE G a Γ u && (chkE G b Γ v && chkE G c Γ w))))))))))
    | _ => false)
  | .aug i op e, Γ, st => (match st with
    | .AugAssign (.Name x _) op' v _ => locB Γ i x && (decide (op = op') && chkE G e Γ v)
    | _ => false)
  | .setI o i e, Γ, st => (match st with
    | .Assign [.Subscript p q _] v _ => okX q && (notLc v && (chkE G e Γ v && (chkE G o Γ p && chkE G i Γ q)))
    | _ => false)
  | .augI o i op e, Γ, st => (match st with
    | .AugAssign (.Subscript p q _) op' v _ => okX q && (decide (op = op') && (chkE G e Γ v && (chkE G o Γ p && chkE G i Γ q)))
    | _ => false)
  | .ifS c a b, Γ, st => (match st with
    | .If t x y _ => chkE G c Γ t && (chkSs a Γ x && chkSs b Γ y)
    | _ => false)
  | .whl c b, Γ, st => (match st with
    | .While t x [] _ => chkE G c Γ t && chkSs b Γ x
    | _ => false)
  | .forS tg it b, Γ, st => (match st with
    | .For t i x [] _ => okX i && (chkG tg Γ t && (chkI G it Γ i && chkSs b Γ x))
    | _ => false)
  | .ret e, Γ, st => (match st with
    | .Return (some v) _ => chkE G e Γ v
    | _ => false)
  | .retN, _, st => (match st with
    | .Return none _ => true
    | _ => false)
  | .ex e, Γ, st => (match st with
    | .Expr v _ => notLc v && chkE G e Γ v
    | _ => false)
  | .pass, _, st => (match st with
    | .Pass _ => true
    | _ => false)
  | .brk, _, st => (match st with
    | .Break _ => true
    | _ => false)
  | .nev, _, _ => true
def chkSs : MSs → Syn → List Stmt → Bool
  | .nil, _, [] => true
  | .cons s ss, Γ, x :: xs => chkS s Γ x && chkSs ss Γ xs
  | _, _, _ => false
end
end
end Rw

/-! M6: the text does what is said: the parts -/
namespace Rw
open PySem PySem.Spec PyProof.Rows L2

/-! ### the syntax's own facts -/
theorem max_fold : ∀ (ns : List Int) (n : Int), (∀ m ∈ n :: ns, m ≤ ns.foldl max n) ∧ ns.foldl max n ∈ n :: ns
  | [], n => by simp
  | k :: ns, n => by
    obtain ⟨h1, h2⟩ := max_fold ns (max n k)
    have h3 := h1 (max n k) List.mem_cons_self
    refine ⟨?_, ?_⟩
    · intro m hm
      rw [List.foldl_cons]
      rcases List.mem_cons.mp hm with rfl | hm
      · omega
      · rcases List.mem_cons.mp hm with rfl | hm
        · omega
        · exact h1 m (List.mem_cons_of_mem _ hm)
    · rw [List.foldl_cons]
      rcases List.mem_cons.mp h2 with e | e
      · rw [e]
        rcases Int.le_total n k with q | q
        · rw [Int.max_eq_right q]; simp
        · rw [Int.max_eq_left q]; simp
      · exact List.mem_cons_of_mem _ (List.mem_cons_of_mem _ e)
theorem star_ok {e : Expr} (h : okX e = true) (es : List Expr) (env : PySem.Env) : starEach (e :: es) env = (false, eval e env) :: starEach es env := by
  cases e <;> first | rfl | cases h
theorem asgEach_ok {e : Expr} (h : okX e = true) (es : List Expr) (env : PySem.Env) : assignEach (e :: es) env = (false, assign e env) :: assignEach es env := by
  cases e <;> first | rfl | cases h
theorem fold_ok {e : Expr} (h : okX e = true) (env : PySem.Env) (x : Value) : foldedSetIterable e env x = pure x := by
  cases e <;> first | rfl | cases h
theorem mark_ok {e : Expr} (h : okX e = true) (op : CmpOp) : behindInMarks op e = false := by
  cases e <;> first | rfl | cases h
theorem sub_ok {e : Expr} (h : okX e = true) (o i : Value) : subscripted e false o i = operate [o, i] (getItem o i) := by
  cases e <;> first | rfl | cases h
theorem aug_ok {e : Expr} (h : okX e = true) (ov iv new : Value) : augStore e ov iv new = (do holding [new, ov, iv] (setItem ov iv new); release [new, ov, iv] []; pure .next) := by
  cases e <;> first | rfl | cases h
theorem asgsub_ok {i : Expr} (h : okX i = true) (o : Expr) (pos : Pos) (env : PySem.Env) (v : Value) : assign (.Subscript o i pos) env v = (do
      let ov ← holding [v] (eval o env)
      let iv ← holding [v, ov] (eval i env)
      standAt pos
      holding [v, ov, iv] (setItem ov iv v)
      release [v, ov, iv] []) := by
  cases i <;> first | rfl | cases h
theorem swaps_ok {e : Expr} (h : notLc e = true) (t : Option Expr) (n : Nat) (env : PySem.Env) : swapsWith e t n env = pure false := by
  cases e <;> first | rfl | cases h
theorem base_ok {o : Expr} (h : noCall o = true) (nm : Str) (env : PySem.Env) (w : Sem Value) : attributeBase o nm env w = w := by
  cases o <;> first | rfl | cases h
theorem bk {a b : Bool} (h : (a && b) = true) : a = true ∧ b = true := Bool.and_eq_true_iff.mp h
theorem dec {p : Prop} [Decidable p] (h : decide p = true) : p := of_decide_eq_true h

/-! ### built-in functions -/
def rBi (K : PySem.W.Frag) (b : BI) : List V → Hp → VK → Prop := fun vs H Q => ∃ W F μ S ds r, Stt K W F μ S H ∧ Reps K W μ ds vs ∧ biD S b ds = some r ∧ Post K W F μ S r Q
def biVal : BI → Value
  | .len => .builtin "len" | .abs => .builtin "abs" | .max => .builtin "max" | .min => .builtin "min" | .int => .type "int" | .str => .type "str" | .tuple => .type "tuple" | .list => .type "list"
theorem bi_boot (b : BI) : bootBuiltins (biName b) = some (biVal b) := by
  cases b <;> decide +kernel
section
variable {X : Cx} {K : PySem.W.Frag} {W F : Hp} {μ : List Addr} {S : Sto} {H : Hp}
theorem cell_lst (st : Stt K W F μ S H) {i : Nat} {v : V} {r : D} {f : List D → D} (hv : Rep K W μ (.ref i) v) (h : (match S[i]? with
    | some (.lst xs) => some (f xs)
    | _ => none) = some r) : ∃ a vs xs, v = .ref a ∧ H a = some (.lst vs) ∧ Reps K W μ xs vs ∧ r = f xs := by
  obtain ⟨a, hr, rfl⟩ := hv
  cases c : S[i]? with
  | none => rw [c] at h; cases h
  | some cc =>
    rw [c] at h
    cases cc with
    | lst ys =>
      cases h
      obtain ⟨vs, h1, h2⟩ := st.lst hr c
      exact ⟨a, vs, ys, rfl, h1, h2, rfl⟩
    | dk _ => cases h
theorem bi_call (hc : X.calm = true) (b : BI) : CallR X (biVal b) (rBi X.K b) := by
  intro pins s σ H vs us Q I rs h
  obtain ⟨W, F, μ, S, ds, r, st, rd, hb, p⟩ := h
  cases b with
  | len =>
    have hb : biLen S ds = some r := hb
    unfold biLen at hb
    split at hb
    · cases hb
      obtain ⟨v, rfl, a, ws, rfl, h1, r1⟩ := rd.inv1
      exact call_len pins s σ H _ us Q I rs ⟨_, _, rfl, .inr ⟨ws, st.sqT h1, r1.length.symm⟩, p.int st⟩
    · split at hb
      · rename_i q
        cases hb
        obtain ⟨v, rfl, r1⟩ := rd.inv1
        cases (show v = _ from r1)
        exact call_len pins s σ H _ us Q I rs ⟨_, _, rfl, ⟨q, rfl⟩, p.int st⟩
      · cases hb
    · cases hb
      obtain ⟨v, rfl, a, ws, rfl, h1, r1⟩ := rd.inv1
      exact call_len pins s σ H _ us Q I rs ⟨_, _, rfl, .inl ⟨ws, SqL.of (st.sub _ _ h1), r1.length.symm⟩, p.int st⟩
    · cases hb
      obtain ⟨v, rfl, a, ws, rfl, h1, r1⟩ := rd.inv1
      exact call_len pins s σ H _ us Q I rs ⟨_, _, rfl, .inl ⟨ws, st.sqL h1, r1.length.symm⟩, p.int st⟩
    · obtain ⟨v, rfl, r1⟩ := rd.inv1
      obtain ⟨a, ws, xs, rfl, h1, h2, rfl⟩ := cell_lst st (f := fun xs => .int xs.length) r1 hb
      exact call_len pins s σ H _ us Q I rs ⟨_, _, rfl, .inl ⟨ws, SqL.of h1, h2.length.symm⟩, p.int st⟩
    · cases hb
  | abs =>
    have hb : biAbs ds = some r := hb
    unfold biAbs at hb
    split at hb
    · cases hb
      obtain ⟨v, rfl, r1⟩ := rd.inv1
      cases (show v = _ from r1)
      exact call_abs pins s σ H _ us Q I rs ⟨_, rfl, p.int st⟩
    · cases hb
  | max =>
    have hb : biMax ds = some r := hb
    unfold biMax at hb
    split at hb
    · cases hb
      obtain ⟨v, u, rfl, r1, r2⟩ := rd.inv2
      cases (show v = _ from r1)
      cases (show u = _ from r2)
      exact call_max2 hc pins s σ H _ us Q I rs ⟨_, _, rfl, p.int st⟩
    · rename_i xs
      split at hb
      · rename_i n ns hn
        cases hb
        obtain ⟨v, rfl, r1⟩ := rd.inv1
        obtain ⟨a, vs, rfl, h1, h2⟩ := r1
        have hv := h2.ints hn
        subst hv
        refine cr_max hc pins s σ H _ us Q I rs ⟨a, n :: ns, rfl, SqL.of (st.sub _ _ h1), Nat.succ_pos _, fun m hm hy => ?_⟩
        have : m = ns.foldl max n := by
          have f1 := max_fold ns n
          exact Int.le_antisymm (f1.1 m hm) (hy _ f1.2)
        rw [this]
        exact p.int st
      · cases hb
    · cases hb
  | min =>
    have hb : biMin ds = some r := hb
    unfold biMin at hb
    split at hb
    · cases hb
      obtain ⟨v, u, rfl, r1, r2⟩ := rd.inv2
      cases (show v = _ from r1)
      cases (show u = _ from r2)
      exact call_min2 hc pins s σ H _ us Q I rs ⟨_, _, rfl, p.int st⟩
    · cases hb
  | int =>
    have hb : biInt ds = some r := hb
    unfold biInt at hb
    split at hb
    · cases hb
      obtain ⟨v, rfl, r1⟩ := rd.inv1
      cases (show v = _ from r1)
      exact call_int1 pins s σ H _ us Q I rs (.inl ⟨_, rfl, p.int st⟩)
    · cases hb
      obtain ⟨v, rfl, r1⟩ := rd.inv1
      cases (show v = _ from r1)
      exact call_int1 pins s σ H _ us Q I rs (.inr ⟨_, rfl, p.int st⟩)
    · cases hb
  | str =>
    have hb : biStr ds = some r := hb
    unfold biStr at hb
    split at hb
    · split at hb
      · rename_i c
        cases hb
        obtain ⟨v, rfl, r1⟩ := rd.inv1
        cases (show v = _ from r1)
        exact call_str_int pins s σ H _ us Q I rs ⟨_, rfl, c, p.strv st⟩
      · cases hb
    · cases hb
  | tuple =>
    have hb : biTup S ds = some r := hb
    unfold biTup at hb
    split at hb
    · cases hb
      obtain ⟨v, rfl, r1⟩ := rd.inv1
      obtain ⟨a, vs, rfl, h1, r2⟩ := r1
      exact call_tuple_of pins s σ H _ us Q I rs ⟨a, vs, rfl, .inr ⟨st.sqT h1, p.same st ⟨a, vs, rfl, h1, r2⟩⟩⟩
    · cases hb
      obtain ⟨v, rfl, r1⟩ := rd.inv1
      obtain ⟨a, vs, rfl, h1, r2⟩ := r1
      exact call_tuple_of pins s σ H _ us Q I rs ⟨a, vs, rfl, .inl ⟨SqL.of (st.sub _ _ h1), p.tup st r2⟩⟩
    · cases hb
      obtain ⟨v, rfl, r1⟩ := rd.inv1
      obtain ⟨a, vs, rfl, h1, r2⟩ := r1
      exact call_tuple_of pins s σ H _ us Q I rs ⟨a, vs, rfl, .inl ⟨st.sqL h1, p.tup st r2⟩⟩
    · obtain ⟨v, rfl, r1⟩ := rd.inv1
      obtain ⟨a, ws, xs, rfl, h1, h2, rfl⟩ := cell_lst st (f := fun xs => .tup xs) r1 hb
      exact call_tuple_of pins s σ H _ us Q I rs ⟨a, ws, rfl, .inl ⟨SqL.of h1, p.tup st h2⟩⟩
    · cases hb
  | list =>
    have hb : biLst S ds = some r := hb
    unfold biLst at hb
    split at hb
    · cases hb
      obtain ⟨v, rfl, r1⟩ := rd.inv1
      obtain ⟨a, vs, rfl, h1, r2⟩ := r1
      exact call_list_of pins s σ H _ us Q I rs ⟨a, vs, rfl, .inr (st.sqT h1), p.lst st r2⟩
    · cases hb
      obtain ⟨v, rfl, r1⟩ := rd.inv1
      obtain ⟨a, vs, rfl, h1, r2⟩ := r1
      exact call_list_of pins s σ H _ us Q I rs ⟨a, vs, rfl, .inl (SqL.of (st.sub _ _ h1)), p.lst st r2⟩
    · cases hb
      obtain ⟨v, rfl, r1⟩ := rd.inv1
      obtain ⟨a, vs, rfl, h1, r2⟩ := r1
      exact call_list_of pins s σ H _ us Q I rs ⟨a, vs, rfl, .inl (st.sqL h1), p.lst st r2⟩
    · obtain ⟨v, rfl, r1⟩ := rd.inv1
      obtain ⟨a, ws, xs, rfl, h1, h2, rfl⟩ := cell_lst st (f := fun xs => .lst xs) r1 hb
      exact call_list_of pins s σ H _ us Q I rs ⟨a, ws, rfl, .inl (SqL.of h1), p.lst st h2⟩
    · cases hb
end

/-! ### isinstance -/
theorem ty_rep {K : PySem.W.Frag} {W F : Hp} {μ : List Addr} {S : Sto} {H : Hp} (st : Stt K W F μ S H) {d : D} {v : V} {n : String} (r : Rep K W μ d v) (h : tyName S d = some n) : TyX K H v (.type n) := by
  have tupX : ∀ {a : Addr} {xs : List V}, SqT K H a xs → TyX K H (.ref a) (.type "tuple") := fun {a xs} q => by
    rcases q with (q | ⟨o, q⟩) | ⟨o, its, n, hk, hc, _⟩
    · exact .base (.tup q)
    · exact .fTuple q
    · exact .kTuple hk hc
  have lstX : ∀ {a : Addr} {xs : List V}, SqL K H a xs → TyX K H (.ref a) (.type "list") := fun {a xs} q => by
    rcases q with (q | ⟨o, q⟩) | ⟨o, its, n, hk, hc, _⟩
    · exact .base (.lst q)
    · exact .base (.frz q)
    · exact .kList hk hc
  cases d with
  | non => cases h; cases (show v = _ from r); exact .base .non
  | bl b => cases h; cases (show v = _ from r); exact .base (.bl b)
  | int b => cases h; cases (show v = _ from r); exact .base (.int b)
  | str b => cases h; cases (show v = _ from r); exact .base (.str b)
  | tup xs => cases h; obtain ⟨a, vs, rfl, h1, _⟩ := r; exact tupX (st.sqT h1)
  | lst xs => cases h; obtain ⟨a, vs, rfl, h1, _⟩ := r; exact lstX (SqL.of (st.sub _ _ h1))
  | flst xs => cases h; obtain ⟨a, vs, rfl, h1, _⟩ := r; exact lstX (st.sqL h1)
  | ref i =>
    obtain ⟨a, hr, rfl⟩ := r
    cases c : S[i]? with
    | none => simp only [tyName, c] at h; cases h
    | some cc =>
      cases cc with
      | lst ys =>
        simp only [tyName, c] at h
        cases h
        obtain ⟨vs, h1, _⟩ := st.lst hr c
        exact .base (.lst h1)
      | dk kvs =>
        simp only [tyName, c] at h
        cases h
        obtain ⟨vs, h1, _⟩ := st.dk hr c
        exact .base (.dK h1)
  | ty n => cases h

/-! ### methods -/
def rMt (K : PySem.W.Frag) (m : MT) : V → List V → Hp → VK → Prop := fun x vs H Q => ∃ W F μ S d ds r S', Stt K W F μ S H ∧ Rep K W μ d x ∧ Reps K W μ ds vs ∧ methD m S d ds = some (r, S') ∧ Post K W F μ S' r Q
def mtId : MT → String
  | .append => "list.append" | .pop => "list.pop" | .extend => "list.extend"
section
variable {X : Cx}
theorem mt_call (m : MT) : MtR X (mtId m) (rMt X.K m) := by
  intro pins s σ H x vs u us Q I rx rs h
  obtain ⟨W, F, μ, S, d, ds, r, S', st, hd, hds, hm, p⟩ := h
  unfold methD at hm
  split at hm
  · rename_i i y
    obtain ⟨a, hr, rfl⟩ := hd
    obtain ⟨v, rfl, r1⟩ := hds.inv1
    cases c : S[i]? with
    | none => rw [c] at hm; cases hm
    | some cc =>
      rw [c] at hm
      cases cc with
      | dk _ => cases hm
      | lst xs =>
        obtain ⟨ws, h1, h2⟩ := st.lst hr c
        simp only at hm
        split at hm
        · rename_i hl
          cases hm
          refine mt_append pins s σ H _ _ u us Q I rx rs ⟨a, ws, v, rfl, rfl, h1, by rw [h2.length]; exact hl, ?_⟩
          have hc : CellAt X.K W μ (upd H a (.lst (ws ++ [v]))) a (.lst (xs ++ [y])) := ⟨_, upd_same, h2.app (Reps.one r1)⟩
          exact p _ _ W μ Ext.refl (st.put _ _ hr hc) rfl
        · cases hm
  · rename_i i
    obtain ⟨a, hr, rfl⟩ := hd
    cases (show vs = [] from hds)
    cases c : S[i]? with
    | none => rw [c] at hm; cases hm
    | some cc =>
      rw [c] at hm
      cases cc with
      | dk _ => cases hm
      | lst xs =>
        obtain ⟨ws, h1, h2⟩ := st.lst hr c
        simp only at hm
        split at hm
        · rename_i y hy
          cases hm
          obtain ⟨v, e1, e2⟩ := h2.get hy
          refine mt_pop pins s σ H _ _ u us Q I rx rs ⟨a, ws, v, rfl, rfl, h1, by rw [h2.length]; exact e1, ?_⟩
          have hc : CellAt X.K W μ (upd H a (.lst ws.dropLast)) a (.lst xs.dropLast) := ⟨_, upd_same, h2.dropLast⟩
          exact p _ _ W μ Ext.refl (st.put _ _ hr hc) e2
        · cases hm
  · rename_i i ys
    obtain ⟨a, hr, rfl⟩ := hd
    obtain ⟨v, rfl, b, zs, rfl, h3, h4⟩ := hds.inv1
    cases c : S[i]? with
    | none => rw [c] at hm; cases hm
    | some cc =>
      rw [c] at hm
      cases cc with
      | dk _ => cases hm
      | lst xs =>
        obtain ⟨ws, h1, h2⟩ := st.lst hr c
        simp only at hm
        split at hm
        · rename_i hl
          cases hm
          refine mt_extend pins s σ H _ _ u us Q I rx rs ⟨a, b, ws, zs, rfl, rfl, h1, st.sub _ _ h3, by rw [h2.length, h4.length]; exact hl, ?_⟩
          have hc : CellAt X.K W μ (upd H a (.lst (ws ++ zs))) a (.lst (xs ++ ys)) := ⟨_, upd_same, h2.app h4⟩
          exact p _ _ W μ Ext.refl (st.put _ _ hr hc) rfl
        · cases hm
  · cases hm
end
end Rw

/-! M7: loops -/
namespace Rw
open PySem PySem.Spec PyProof.Rows L2

/-! ### what is walked -/
/-- the iterator J yields the items xs, as long as the cell o holds them -/
def WkOk (K : PySem.W.Frag) (W : Hp) (μ : List Addr) (xs : List D) (o : Option Nat) (J : It) : Prop :=
  ∀ (i : Nat) W' F' μ' S' H', Ext W μ W' μ' → Stt K W' F' μ' S' H' → okS o xs S' →
    (i < xs.length → J.go i H' ∧ ∀ x H'', J.yld i H' x H'' → H'' = H' ∧ ∃ d, xs[i]? = some d ∧ Rep K W' μ' d x) ∧ (xs.length ≤ i → J.stop i H')
def TIR (K : PySem.W.Frag) (ev : Env → Sto → Rs (List D × Option Nat)) : TI := fun σ H R => ∃ W F μ ρ S w S', Stt K W F μ S H ∧ EnvR K W μ ρ σ ∧ ev ρ S = some (w, S') ∧
  ∀ J H' W' μ', Ext W μ W' μ' → Stt K W' F μ' S' H' → WkOk K W' μ' w.1 w.2 J → R J H'
theorem _root_.L2.PI.weak {X : Cx} {tg e : Expr} {t t' : TI} (h : PI X tg e t) (w : ∀ σ H R, t' σ H R → t σ H R) : PI X tg e t' := ⟨fun pins s σ H R I q => h.run pins s σ H R I (w σ H R q)⟩
theorem wk_list {K : PySem.W.Frag} {W : Hp} {μ : List Addr} {xs : List D} {o : Option Nat} {a : Addr}
    (h : ∀ W' F' μ' S' H', Ext W μ W' μ' → Stt K W' F' μ' S' H' → okS o xs S' → ∃ vs, SqL K H' a vs ∧ Reps K W' μ' xs vs) : WkOk K W μ xs o (Itl K a) := by
  intro i W' F' μ' S' H' x st ok
  obtain ⟨vs, h1, h2⟩ := h W' F' μ' S' H' x st ok
  refine ⟨fun hi => ⟨⟨vs, vs[i]'(by rw [h2.length]; exact hi), h1, by simp⟩, fun y H'' hy => ?_⟩, fun hi => ⟨vs, h1, by rw [h2.length]; exact hi⟩⟩
  obtain ⟨e, q⟩ := hy
  exact ⟨e, h2.get2 (q vs h1)⟩
theorem wk_tup {K : PySem.W.Frag} {W : Hp} {μ : List Addr} {xs : List D} {a : Addr} {vs : List V} (h : SqT K W a vs) (r : Reps K W μ xs vs) : WkOk K W μ xs none (Itt K a) := by
  intro i W' F' μ' S' H' x st _
  have h1 : SqT K H' a vs := st.sqT (sqT_le x.w h)
  have h2 := r.m x
  refine ⟨fun hi => ⟨⟨vs, vs[i]'(by rw [h2.length]; exact hi), h1, by simp⟩, fun y H'' hy => ?_⟩, fun hi => ⟨vs, h1, by rw [h2.length]; exact hi⟩⟩
  obtain ⟨e, q⟩ := hy
  exact ⟨e, h2.get2 (q vs h1)⟩
theorem wk_rng {K : PySem.W.Frag} {W : Hp} {μ : List Addr} {lo : Int} {n : Nat} : WkOk K W μ ((List.range n).map fun (i : Nat) => D.int (lo + (i : Int))) none (Itr lo n) := by
  intro i W' F' μ' S' H' x st _
  have hl : ((List.range n).map fun (i : Nat) => D.int (lo + (i : Int))).length = n := by simp
  rw [hl]
  refine ⟨fun hi => ⟨hi, fun y H'' hy => ?_⟩, fun hi => hi⟩
  obtain ⟨e, q⟩ := hy
  exact ⟨e, .int (lo + i), by simp [hi], q⟩
/-- over a list or a tuple -/
def iSeq (K : PySem.W.Frag) (tl : TE) : TI := fun σ H R => tl σ H fun x H1 => ∃ a, x = .ref a ∧ (((∃ xs, SqL K H1 a xs) ∧ R (Itl K a) H1) ∨ ((∃ xs, SqT K H1 a xs) ∧ R (Itt K a) H1))
theorem pi_seq {X : Cx} {tg l : Expr} {tl : TE} (hl : PE X l tl) : PI X tg l (iSeq X.K tl) := by
  refine ⟨fun pins s σ H R I h => ?_⟩
  refine thn (hl.run pins s σ H _ I h) fun v s1 ⟨x, H1, I1, r1, q1⟩ => ?_
  obtain ⟨a, e, ⟨⟨xs, hq⟩, q⟩ | ⟨⟨xs, hq⟩, q⟩⟩ := q1
  · subst e
    cases r1
    obtain ⟨its, rv, p, hz⟩ := I1.list hq
    refine wpAny_pyIter_list p.isList ?_
    refine ⟨s1.heap.objs.size, [s1.heap.objs.size], _, _, H1, rfl, I1.kept (t' := s1.toks) fun b o e => Heap.get?_push_of_some _ e, turn_list a _, ⟨_, Heap.get?_push_size _ rfl, rfl, rfl⟩, fun b hb => ?_, q⟩
    have e : b = s1.heap.objs.size := by simpa using hb
    subst e
    exact I1.fpOk (Nat.le_refl _) (I1.hok.fresh (Nat.le_refl _))
  · subst e
    cases r1
    obtain ⟨its, rv, p, hz⟩ := I1.tuple hq
    refine wpAny_pyIter_tuple (show s1.heap.IsTuple a its.toArray from p) ?_
    refine ⟨s1.heap.objs.size, [s1.heap.objs.size], _, _, H1, rfl, I1.kept (t' := s1.toks) fun b o e => Heap.get?_push_of_some _ e, turn_tuple a _, ⟨_, Heap.get?_push_size _ rfl, rfl, rfl⟩, fun b hb => ?_, q⟩
    have e : b = s1.heap.objs.size := by simpa using hb
    subst e
    exact I1.fpOk (Nat.le_refl _) (I1.hok.fresh (Nat.le_refl _))
section
variable {K : PySem.W.Frag} {W F : Hp} {μ : List Addr} {S : Sto} {H : Hp}
/-- what is walked, by the value -/
theorem items_rep (st : Stt K W F μ S H) {d : D} {v : V} {w : List D × Option Nat} (r : Rep K W μ d v) (h : itemsOf S d = some w) :
    ∃ a, v = .ref a ∧ (((∃ xs, SqL K H a xs) ∧ WkOk K W μ w.1 w.2 (Itl K a)) ∨ ((∃ xs, SqT K H a xs) ∧ WkOk K W μ w.1 w.2 (Itt K a))) := by
  cases d with
  | tup xs =>
    cases h
    obtain ⟨a, vs, rfl, h1, r1⟩ := r
    exact ⟨a, rfl, .inr ⟨⟨vs, st.sqT h1⟩, wk_tup h1 r1⟩⟩
  | lst xs =>
    cases h
    obtain ⟨a, vs, rfl, h1, r1⟩ := r
    exact ⟨a, rfl, .inl ⟨⟨vs, SqL.of (st.sub _ _ h1)⟩, wk_list fun W' F' μ' S' H' x st' _ => ⟨vs, SqL.of (st'.sub _ _ (x.w _ _ h1)), r1.m x⟩⟩⟩
  | flst xs =>
    cases h
    obtain ⟨a, vs, rfl, h1, r1⟩ := r
    exact ⟨a, rfl, .inl ⟨⟨vs, st.sqL h1⟩, wk_list fun W' F' μ' S' H' x st' _ => ⟨vs, st'.sqL (sqL_le x.w h1), r1.m x⟩⟩⟩
  | ref i =>
    obtain ⟨a, hr, rfl⟩ := r
    cases c : S[i]? with
    | none => simp only [itemsOf, c] at h; cases h
    | some cc =>
      cases cc with
      | lst ys =>
        simp only [itemsOf, c] at h
        cases h
        obtain ⟨vs, h1, _⟩ := st.lst hr c
        refine ⟨a, rfl, .inl ⟨⟨vs, SqL.of h1⟩, wk_list fun W' F' μ' S' H' x st' ok => ?_⟩⟩
        obtain ⟨vs', h2, h3⟩ := st'.lst (x.m _ _ hr) (show S'[i]? = _ from ok)
        exact ⟨vs', SqL.of h2, h3⟩
      | dk kvs => simp only [itemsOf, c] at h; cases h
  | _ => cases h

/-! ### targets -/
end
def TGR (K : PySem.W.Frag) (sl : List Nat) (f : D → Env → Option Env) : TG := fun v σ H Q => ∃ W F μ ρ S d ρ', Stt K W F μ S H ∧ EnvR K W μ ρ σ ∧ Rep K W μ d v ∧ f d ρ = some ρ' ∧
  ∀ σ', EnvR K W μ ρ' σ' → σ'.length = σ.length → (∀ i, i ∉ sl → σ'[i]? = σ[i]?) → Q σ' H
def TGRs (K : PySem.W.Frag) (sl : List Nat) (f : List D → Env → Option Env) : TGs := fun vs σ H Q => ∃ W F μ ρ S ds ρ', Stt K W F μ S H ∧ EnvR K W μ ρ σ ∧ Reps K W μ ds vs ∧ f ds ρ = some ρ' ∧
  ∀ σ', EnvR K W μ ρ' σ' → σ'.length = σ.length → (∀ i, i ∉ sl → σ'[i]? = σ[i]?) → Q σ' H
theorem _root_.L2.PG.weak {X : Cx} {e : Expr} {t t' : TG} (h : PG X e t) (w : ∀ v σ H Q, t' v σ H Q → t v σ H Q) : PG X e t' := ⟨fun pins s σ H v u Q I r q => h.run pins s σ H v u Q I r (w v σ H Q q)⟩
theorem _root_.L2.PGs.weak {X : Cx} {es : List Expr} {t t' : TGs} (h : PGs X es t) (w : ∀ v σ H Q, t' v σ H Q → t v σ H Q) : PGs X es t' := ⟨fun pins s σ H v u Q I r q => h.run pins s σ H v u Q I r (w v σ H Q q)⟩
theorem _root_.L2.PG.or {X : Cx} {e : Expr} {t t' : TG} (h : PG X e t) (h' : PG X e t') : PG X e (fun v σ H Q => t v σ H Q ∨ t' v σ H Q) := ⟨fun pins s σ H v u Q I r q => by
  rcases q with q | q
  · exact h.run pins s σ H v u Q I r q
  · exact h'.run pins s σ H v u Q I r q⟩
/-- what the text's checker knows of a context -/
structure Sy (Γ : Syn) (X : Cx) : Prop where
  N : X.N = Γ.N
  nd : X.N.Nodup
  sc : X.env.scope = Γ.sc
  fn : X.fn = Γ.fn
  calm : X.calm = true
theorem loc_ok {Γ : Syn} {X : Cx} (y : Sy Γ X) {i : Nat} {x : Str} (h : locB Γ i x = true) : X.N[i]? = some x ∧ L2.Loc X.env.scope x ∧ (X.fn x = true ∨ X.env.scope.names.lookup x = some .local) := by
  obtain ⟨h1, h2⟩ := bk h
  refine ⟨by rw [y.N]; exact dec h1, ?_⟩
  unfold L2.Loc
  rw [y.sc, y.fn]
  split at h2
  · rename_i e; exact ⟨.inl e, .inr e⟩
  · rename_i e; exact ⟨.inr e, .inl h2⟩
  · cases h2
theorem asgE_len : ∀ {ts : MGs} {es : List Expr} {Γ : Syn} {env : PySem.Env}, chkGs ts Γ es = true → (assignEach es env).length = es.length ∧ (assignEach es env).findIdx? (·.1) = none ∧ ∀ (ds : List D) (ρ ρ' : Env), asgGs ts ds ρ = some ρ' → ds.length = es.length
  | .nil, [], _, _, _ => ⟨rfl, rfl, fun ds ρ ρ' h => by
    cases ds with
    | nil => rfl
    | cons _ _ => cases h⟩
  | .nil, _ :: _, _, _, h => by cases h
  | .cons t ts, [], _, _, h => by cases h
  | .cons t ts, e :: es, Γ, env, h => by
    obtain ⟨h1, h2⟩ := bk (show (okX e && (chkG t Γ e && chkGs ts Γ es)) = true from h)
    obtain ⟨_, h3⟩ := bk h2
    obtain ⟨a, b, c⟩ := asgE_len (env := env) h3
    rw [asgEach_ok h1]
    refine ⟨by simp [a], by rw [List.findIdx?_cons, b]; rfl, fun ds ρ ρ' q => ?_⟩
    cases ds with
    | nil => cases q
    | cons d ds =>
      have q : (asgG t d ρ).bind (fun ρ1 => asgGs ts ds ρ1) = some ρ' := q
      cases e1 : asgG t d ρ with
      | none => rw [e1] at q; cases q
      | some ρ1 =>
        rw [e1] at q
        have := c ds ρ1 ρ' q
        simp [this]
theorem asgGs_tup {ts : MGs} {d : D} {ρ ρ' : Env} (h : asgG (.tup ts) d ρ = some ρ') : (∃ xs, d = .tup xs ∧ asgGs ts xs ρ = some ρ') ∨ ∃ xs, d = .lst xs ∧ asgGs ts xs ρ = some ρ' := by
  cases d with
  | tup xs => exact .inl ⟨xs, rfl, h⟩
  | lst xs => exact .inr ⟨xs, rfl, h⟩
  | _ => cases h
mutual
theorem chkG_ok {X : Cx} {Γ : Syn} (y : Sy Γ X) : ∀ (t : MG) (e : Expr), chkG t Γ e = true → PG X e (TGR X.K (slG t) (asgG t))
  | .name i, e, h => by
    cases e with
    | Name x pos =>
      obtain ⟨h1, h2, h3⟩ := loc_ok y (show locB Γ i x = true from h)
      refine (pg_name (i := i) y.nd h1 h2 h3).weak ?_
      rintro v σ H Q ⟨W, F, μ, ρ, S, d, ρ', st, en, r, e, k⟩
      have e : (if i < ρ.length then some (ρ.set i (some d)) else none) = some ρ' := e
      split at e
      · cases e
        exact k _ (en.set r) (by simp) fun j hj => by
          rw [List.getElem?_set_ne]
          intro q
          exact hj (by simp [slG, q])
      · cases e
    | _ => cases h
  | .tup ts, e, h => by
    cases e with
    | Tuple es k pos =>
      have h : chkGs ts Γ es = true := h
      obtain ⟨a, b, c⟩ := asgE_len (env := X.env) h
      have hp := chkGs_ok y ts es h
      refine ((pg_tup (n := es.length) y.calm hp a b).or (pg_unl (n := es.length) y.calm hp a b)).weak ?_
      rintro v σ H Q ⟨W, F, μ, ρ, S, d, ρ', st, en, r, e, k⟩
      rcases asgGs_tup e with ⟨xs, rfl, e⟩ | ⟨xs, rfl, e⟩
      · obtain ⟨p, vs, rfl, h1, r1⟩ := r
        exact .inl ⟨p, vs, rfl, st.sqT h1, by rw [r1.length]; exact c xs ρ ρ' e, W, F, μ, ρ, S, xs, ρ', st, en, r1, e, k⟩
      · obtain ⟨p, vs, rfl, h1, r1⟩ := r
        exact .inr ⟨p, vs, rfl, SqL.of (st.sub _ _ h1), by rw [r1.length]; exact c xs ρ ρ' e, W, F, μ, ρ, S, xs, ρ', st, en, r1, e, k⟩
    | _ => cases h
theorem chkGs_ok {X : Cx} {Γ : Syn} (y : Sy Γ X) : ∀ (ts : MGs) (es : List Expr), chkGs ts Γ es = true → PGs X es (TGRs X.K (slGs ts) (asgGs ts))
  | .nil, [], _ => pgs_nil.weak (by
    rintro vs σ H Q ⟨W, F, μ, ρ, S, ds, ρ', st, en, r, e, k⟩
    cases ds with
    | nil =>
      cases (show vs = [] from r)
      cases e
      exact ⟨rfl, k σ en rfl fun _ _ => rfl⟩
    | cons _ _ => cases e)
  | .nil, _ :: _, h => by cases h
  | .cons t ts, [], h => by cases h
  | .cons t ts, e :: es, h => by
    obtain ⟨h1, h2⟩ := bk (show (okX e && (chkG t Γ e && chkGs ts Γ es)) = true from h)
    obtain ⟨h3, h4⟩ := bk h2
    refine (pgs_cons (chkG_ok y t e h3) (chkGs_ok y ts es h4) (by rw [asgEach_ok h1]; rfl)).weak ?_
    rintro vs σ H Q ⟨W, F, μ, ρ, S, ds, ρ', st, en, r, q, k⟩
    cases ds with
    | nil => cases q
    | cons d ds =>
      have q : (asgG t d ρ).bind (fun ρ1 => asgGs ts ds ρ1) = some ρ' := q
      obtain ⟨v, rr, rfl, r1, r2⟩ := r
      cases e1 : asgG t d ρ with
      | none => rw [e1] at q; cases q
      | some ρ1 =>
        rw [e1] at q
        refine ⟨v, rr, rfl, W, F, μ, ρ, S, d, ρ1, st, en, r1, e1, fun σ1 en1 l1 k1 => ⟨W, F, μ, ρ1, S, ds, ρ', st, en1, r2, q, fun σ2 en2 l2 k2 => ?_⟩⟩
        refine k σ2 en2 (l2.trans l1) fun i hi => ?_
        have hi : i ∉ slG t ++ slGs ts := hi
        simp only [List.mem_append, not_or] at hi
        rw [k2 i hi.2, k1 i hi.1]
end

/-! ### frames -/
section
variable {K : PySem.W.Frag} {W F : Hp} {μ : List Addr} {S : Sto} {H : Hp}
theorem Stt.noF (st : Stt K W F μ S H) {p : Addr} (h : H p = none) : F p = none ∧ W p = none ∧ ∀ (i : Nat) a, μ[i]? = some a → a ≠ p := by
  refine ⟨?_, ?_, fun i a e q => ?_⟩
  · cases c : F p with
    | none => rfl
    | some u => rw [st.frm _ _ c] at h; cases h
  · cases c : W p with
    | none => rfl
    | some u => rw [st.sub _ _ c] at h; cases h
  · obtain ⟨u, c⟩ := st.there e
    rw [q, h] at c; cases c
/-- a new object of ours -/
theorem Stt.frame (st : Stt K W F μ S H) {p : Addr} (o : HO) (h : H p = none) : Stt K W (upd F p o) μ S (upd H p o) := by
  obtain ⟨hF, hW, hμ⟩ := st.noF h
  refine ⟨fun a u e => ?_, fun a u e => ?_, fun a u e => ?_, st.len, st.nd, fun i a e => ?_, fun i a c e hc => ?_⟩
  · rw [upd_ne (ne_of_none e hW)]; exact st.sub _ _ e
  · by_cases q : a = p
    · subst q; rw [upd_same] at e; rw [upd_same]; exact e
    · rw [upd_ne q] at e; rw [upd_ne q]; exact st.frm _ _ e
  · by_cases q : a = p
    · subst q; exact hW
    · rw [upd_ne q] at e; exact st.dis _ _ e
  · rw [upd_ne (hμ i a e)]; exact st.apart i a e
  · exact (st.cel i a c e hc).mono Ext.refl (upd_ne (hμ i a e))
/-- it changes -/
theorem Stt.reframe {o o' : HO} {p : Addr} (st : Stt K W (upd F p o) μ S H) : Stt K W (upd F p o') μ S (upd H p o') := by
  have hW : W p = none := st.dis p o upd_same
  have hμ : ∀ (i : Nat) a, μ[i]? = some a → a ≠ p := fun i a e q => by
    have := (st.apart i a e).2
    rw [q, upd_same] at this; cases this
  refine ⟨fun a u e => ?_, fun a u e => ?_, fun a u e => ?_, st.len, st.nd, fun i a e => ?_, fun i a c e hc => ?_⟩
  · rw [upd_ne (ne_of_none e hW)]; exact st.sub _ _ e
  · by_cases q : a = p
    · subst q; rw [upd_same] at e; rw [upd_same]; exact e
    · rw [upd_ne q] at e; rw [upd_ne q]; exact st.frm _ _ (by rw [upd_ne q]; exact e)
  · by_cases q : a = p
    · subst q; exact hW
    · rw [upd_ne q] at e; exact st.dis _ _ (by rw [upd_ne q]; exact e)
  · have := st.apart i a e
    rw [upd_ne (hμ i a e)] at this
    rw [upd_ne (hμ i a e)]; exact this
  · exact (st.cel i a c e hc).mono Ext.refl (upd_ne (hμ i a e))
theorem Stt.inF {o : HO} {p : Addr} (st : Stt K W (upd F p o) μ S H) : H p = some o := st.frm _ _ upd_same
/-- it becomes a thing that never changes -/
theorem Stt.toImm {o : HO} {p : Addr} (st : Stt K W (upd F p o) μ S H) (hF : F p = none) : Stt K (upd W p o) F μ S H ∧ Ext W μ (upd W p o) μ := by
  have hW : W p = none := st.dis p o upd_same
  have hμ : ∀ (i : Nat) a, μ[i]? = some a → a ≠ p := fun i a e q => by
    have := (st.apart i a e).2
    rw [q, upd_same] at this; cases this
  have x : Ext W μ (upd W p o) μ := ⟨fun a u h => by rw [upd_ne (ne_of_none h hW)]; exact h, fun _ _ h => h⟩
  refine ⟨⟨fun a u e => ?_, fun a u e => ?_, fun a u e => ?_, st.len, st.nd, fun i a e => ?_, fun i a c e hc => ?_⟩, x⟩
  · by_cases q : a = p
    · subst q; rw [upd_same] at e; cases e; exact st.inF
    · rw [upd_ne q] at e; exact st.sub _ _ e
  · exact st.frm _ _ (by rw [upd_ne (ne_of_none e hF)]; exact e)
  · have q := ne_of_none e hF
    rw [upd_ne q]
    exact st.dis _ _ (by rw [upd_ne q]; exact e)
  · have h := st.apart i a e
    rw [upd_ne (hμ i a e)] at h ⊢
    exact h
  · exact (st.cel i a c e hc).mono x rfl
/-- it becomes a cell -/
theorem Stt.toCell {o : HO} {p : Addr} {c : Cell} (st : Stt K W (upd F p o) μ S H) (hF : F p = none) (hc : CellAt K W (μ ++ [p]) H p c) : Stt K W F (μ ++ [p]) (S ++ [c]) H ∧ Ext W μ W (μ ++ [p]) := by
  have hW : W p = none := st.dis p o upd_same
  have hμ : ∀ (i : Nat) a, μ[i]? = some a → a ≠ p := fun i a e q => by
    have := (st.apart i a e).2
    rw [q, upd_same] at this; cases this
  have x : Ext W μ W (μ ++ [p]) := ⟨fun _ _ h => h, fun r a h => by rw [List.getElem?_append_left (List.getElem?_eq_some_iff.mp h).1]; exact h⟩
  refine ⟨⟨st.sub, fun a u e => st.frm _ _ (by rw [upd_ne (ne_of_none e hF)]; exact e), fun a u e => st.dis _ _ (by rw [upd_ne (ne_of_none e hF)]; exact e), by simp [st.len], fun i j a h1 h2 => ?_, fun i a h => ?_, fun i a c' h hc' => ?_⟩, x⟩
  · rcases get_snoc h1 with h1 | ⟨e1, h1⟩ <;> rcases get_snoc h2 with h2 | ⟨e2, h2⟩
    · exact st.nd i j a h1 h2
    · exact absurd h2.symm (hμ i a h1)
    · exact absurd h1.symm (hμ j a h2)
    · omega
  · rcases get_snoc h with h | ⟨_, h⟩
    · have q := st.apart i a h
      rw [upd_ne (hμ i a h)] at q
      exact q
    · rw [← h]; exact ⟨hW, hF⟩
  · rcases get_snoc h with h | ⟨e, h⟩
    · have hl : i < S.length := by rw [← st.len]; exact (List.getElem?_eq_some_iff.mp h).1
      rw [List.getElem?_append_left hl] at hc'
      exact (st.cel i a c' h hc').mono x rfl
    · subst h
      rw [e, st.len, List.getElem?_append_right (Nat.le_refl _)] at hc'
      simp at hc'
      subst hc'
      exact hc
end
end Rw

/-! M8: comprehensions, for, while -/
namespace Rw
open PySem PySem.Spec PyProof.Rows L2

section
variable {K : PySem.W.Frag} {W F : Hp} {μ : List Addr}
theorem EnvR.setN {ρ : Env} {σ : L2.St} (h : EnvR K W μ ρ σ) (i : Nat) : EnvR K W μ (ρ.set i none) (σ.set i none) := by
  refine ⟨by simp [h.1], fun j e q => ?_⟩
  by_cases hj : i = j
  · subst hj
    have hl : i < ρ.length := by
      have := (List.getElem?_eq_some_iff.mp q).1
      simpa using this
    rw [List.getElem?_set_self hl] at q
    cases q
  · rw [List.getElem?_set_ne hj] at q
    obtain ⟨u, h1, h2⟩ := h.2 j e q
    exact ⟨u, by rw [List.getElem?_set_ne hj]; exact h1, h2⟩
theorem EnvR.wipe {ρ : Env} {σ : L2.St} (h : EnvR K W μ ρ σ) : ∀ vs : List Nat, EnvR K W μ (wipeE ρ vs) (L2.wipe σ vs)
  | [] => h
  | v :: vs => (h.wipe vs).setN v
theorem wipe_get (τ : L2.St) (i : Nat) : ∀ vs : List Nat, (L2.wipe τ vs)[i]? = if i ∈ vs ∧ i < τ.length then some none else τ[i]?
  | [] => by simp [L2.wipe]
  | v :: vs => by
    show ((L2.wipe τ vs).set v none)[i]? = _
    by_cases e : v = i
    · subst e
      by_cases hl : v < τ.length
      · rw [List.getElem?_set_self (by rw [L2.wipe_length]; exact hl), if_pos ⟨List.mem_cons_self, hl⟩]
      · rw [if_neg fun q => hl q.2, List.getElem?_eq_none (by simp [L2.wipe_length]; omega), List.getElem?_eq_none (by omega)]
    · rw [List.getElem?_set_ne e, wipe_get τ i vs]
      have : (i ∈ v :: vs) ↔ i ∈ vs := by simp [List.mem_cons, Ne.symm e]
      simp only [this]
theorem wipe_eq {σ τ : L2.St} {sl vs : List Nat} (hl : τ.length = (L2.wipe σ vs).length) (h : ∀ i, i ∉ sl → τ[i]? = (L2.wipe σ vs)[i]?) (hs : ∀ i ∈ sl, i ∈ vs) : L2.wipe τ vs = L2.wipe σ vs := by
  have hl2 : τ.length = σ.length := by rw [hl, L2.wipe_length]
  refine List.ext_getElem? fun i => ?_
  rw [wipe_get, wipe_get, hl2]
  by_cases c : i ∈ vs ∧ i < σ.length
  · rw [if_pos c, if_pos c]
  · rw [if_neg c, if_neg c]
    by_cases q : i ∈ vs
    · have : ¬ i < σ.length := fun z => c ⟨q, z⟩
      rw [List.getElem?_eq_none (by omega), List.getElem?_eq_none (by omega)]
    · rw [h i fun z => q (hs i z), wipe_get, if_neg c]
theorem drop_at {α : Type} {xs : List α} {i : Nat} {x : α} (h : xs[i]? = some x) : xs.drop i = x :: xs.drop (i + 1) := by
  obtain ⟨hl, e⟩ := List.getElem?_eq_some_iff.mp h
  rw [List.drop_eq_getElem_cons hl, e]

/-! ### comprehensions -/
def turnE (f : D → Env → Option Env) (c : Env → Sto → Rs Bool) (e : Env → Sto → Rs D) (ρ : Env) : D → Sto → Rs (Option D) :=
  fun x S2 => lft (f x ρ) fun ρ1 => bnd (c ρ1 S2) fun t S3 => if t = true then bnd (e ρ1 S3) fun y S4 => some (some y, S4) else some (none, S3)
theorem comp_reads {S S' : Sto} {H1 : Hp} {σ : L2.St} {ρ : Env} {J : It} {xs acc : List D} {o : Option Nat} {f : D → Env → Option Env} {c : Env → Sto → Rs Bool} {e : Env → Sto → Rs D} {vs sl : List Nat} {Q : VK} {mu : Bool}
    (st : Stt K W F μ S H1) (en : EnvR K W μ ρ σ) (wk : WkOk K W μ xs o J) (hl : xs.length ≤ sizeLine) (hs : ∀ i ∈ sl, i ∈ vs)
    (h : compL o xs (turnE f c e (wipeE ρ vs)) xs S [] = some (acc, S'))
    (p : Post K W F μ (if mu = true then S' ++ [.lst acc] else S') (if mu = true then .ref S'.length else .lst acc) Q) :
    ∀ D, H1 D = none → ∃ Wv : Nat → Nat → Hp → Prop, (∃ m, Wv 0 m (upd H1 D (.lst []))) ∧ ∀ i m H, Wv i m H →
      (J.stop i H ∧ Q (.ref D) H) ∨ (J.go i H ∧ ∃ Nx : Hp → Prop, (∀ H', Nx H' → ∃ m', m' < m ∧ Wv (i + 1) m' H') ∧ ∀ x H', J.yld i H x H' → TGR K sl f x (L2.wipe σ vs) H' fun σ2 H2 => L2.wipe σ2 vs = L2.wipe σ vs ∧ TTR K c σ2 H2 fun b H3 =>
        if b = true then TR K e σ2 H3 fun y H4 => ∃ acc, H4 D = some (.lst acc) ∧ acc.length < sizeLine ∧ Nx (upd H4 D (.lst (acc ++ [y]))) else Nx H3) := by
  intro p0 hp0
  have hF := (st.noF hp0).1
  refine ⟨fun i m H => ∃ W' μ' Si ac av, m = xs.length - i ∧ i ≤ xs.length ∧ Ext W μ W' μ' ∧ Stt K W' (upd F p0 (.lst av)) μ' Si H ∧ Reps K W' μ' ac av ∧ ac.length ≤ i ∧ compL o xs (turnE f c e (wipeE ρ vs)) (xs.drop i) Si ac = some (acc, S'),
    ⟨xs.length, W, μ, S, [], [], by simp, Nat.zero_le _, Ext.refl, st.frame _ hp0, rfl, Nat.le_refl _, by simpa using h⟩, ?_⟩
  rintro i m H ⟨W', μ', Si, ac, av, rfl, hi, x, sti, ra, la, hc⟩
  by_cases hlt : i < xs.length
  · obtain ⟨d0, hd0⟩ : ∃ d, xs[i]? = some d := ⟨xs[i], by simp [hlt]⟩
    rw [drop_at hd0] at hc
    unfold compL at hc
    split at hc
    · rename_i ok
      obtain ⟨go, yl⟩ := (wk i W' _ μ' Si H x sti ok).1 hlt
      obtain ⟨r, S1, e1, e2⟩ := bnd_inv hc
      obtain ⟨ρ1, e3, e4⟩ := lft_inv e1
      obtain ⟨t, S3, e5, e6⟩ := bnd_inv e4
      refine .inr ⟨go, fun H' => ∃ W' μ' Si ac av, i + 1 ≤ xs.length ∧ Ext W μ W' μ' ∧ Stt K W' (upd F p0 (.lst av)) μ' Si H' ∧ Reps K W' μ' ac av ∧ ac.length ≤ i + 1 ∧ compL o xs (turnE f c e (wipeE ρ vs)) (xs.drop (i + 1)) Si ac = some (acc, S'),
        fun H' ⟨W2, μ2, S2, a2, v2, q1, q2, q3, q4, q5, q6⟩ => ⟨xs.length - (i + 1), by omega, W2, μ2, S2, a2, v2, rfl, q1, q2, q3, q4, q5, q6⟩, fun y H'' hy => ?_⟩
      obtain ⟨rfl, d, hd, rd⟩ := yl y H'' hy
      rw [hd0] at hd; cases hd
      refine ⟨W', upd F p0 (.lst av), μ', wipeE ρ vs, Si, d0, ρ1, sti, (en.mono x).wipe vs, rd, e3, fun σ2 en2 l2 k2 => ⟨wipe_eq l2 k2 hs, ?_⟩⟩
      refine ⟨W', upd F p0 (.lst av), μ', ρ1, Si, t, S3, sti, en2, e5, fun H3 W3 μ3 x3 st3 => ?_⟩
      cases t with
      | false =>
        rw [if_neg Bool.false_ne_true]
        rw [if_neg Bool.false_ne_true] at e6
        cases e6
        exact ⟨W3, μ3, _, ac, av, hlt, x.trans x3, st3, ra.m x3, by omega, e2⟩
      | true =>
        rw [if_pos rfl]
        rw [if_pos rfl] at e6
        obtain ⟨y', S4, e7, e8⟩ := bnd_inv e6
        cases e8
        refine ⟨W3, upd F p0 (.lst av), μ3, ρ1, S3, y', _, st3, en2.mono x3, e7, fun v H4 W4 μ4 x4 st4 r4 => ⟨av, st4.inF, by have := ra.length; omega, W4, μ4, _, ac ++ [y'], av ++ [v], hlt, (x.trans x3).trans x4, st4.reframe, (ra.m (x3.trans x4)).app (Reps.one r4), by simp; omega, e2⟩⟩
    · cases hc
  · have : i = xs.length := by omega
    subst this
    rw [List.drop_length] at hc
    unfold compL at hc
    split at hc
    · rename_i ok
      cases hc
      refine .inl ⟨(wk _ W' _ μ' _ H x sti ok).2 (Nat.le_refl _), ?_⟩
      cases mu with
      | false =>
        obtain ⟨st2, x2⟩ := sti.toImm hF
        exact p _ _ _ _ (x.trans x2) st2 ⟨p0, av, rfl, upd_same, ra.m x2⟩
      | true =>
        have x2 : Ext W' μ' W' (μ' ++ [p0]) := ⟨fun _ _ h => h, fun r a h => by rw [List.getElem?_append_left (List.getElem?_eq_some_iff.mp h).1]; exact h⟩
        obtain ⟨st2, _⟩ := sti.toCell (c := .lst acc) hF ⟨av, sti.inF, ra.m x2⟩
        exact p _ _ _ _ (x.trans x2) st2 ⟨p0, by rw [← sti.len]; simp, rfl⟩
    · cases hc

/-- the inner loop -/
theorem comp_in {S S' : Sto} {H1 : Hp} {σ : L2.St} {ρ : Env} {J : It} {xs ac acc : List D} {o : Option Nat} {f : D → Env → Option Env} {c : Env → Sto → Rs Bool} {e : Env → Sto → Rs D} {vs sl : List Nat} {p0 : Addr} {av : List V} {Nx : Hp → Prop}
    (st : Stt K W (upd F p0 (.lst av)) μ S H1) (en : EnvR K W μ ρ σ) (ra : Reps K W μ ac av) (wk : WkOk K W μ xs o J) (hl : ac.length + xs.length ≤ sizeLine) (hs : ∀ i ∈ sl, i ∈ vs)
    (h : compL o xs (turnE f c e (wipeE ρ vs)) xs S ac = some (acc, S'))
    (p : ∀ H' W' μ' av', Ext W μ W' μ' → Stt K W' (upd F p0 (.lst av')) μ' S' H' → Reps K W' μ' acc av' → Nx H') :
    ∃ Wv : Nat → Nat → Hp → Prop, (∃ m, Wv 0 m H1) ∧ ∀ i m H, Wv i m H →
      (J.stop i H ∧ Nx H) ∨ (J.go i H ∧ ∃ Nx1 : Hp → Prop, (∀ H', Nx1 H' → ∃ m', m' < m ∧ Wv (i + 1) m' H') ∧ ∀ x H', J.yld i H x H' → TGR K sl f x (L2.wipe σ vs) H' fun σ2 H2 => L2.wipe σ2 vs = L2.wipe σ vs ∧ TTR K c σ2 H2 fun b H3 =>
        if b = true then TR K e σ2 H3 fun y H4 => ∃ acc, H4 p0 = some (.lst acc) ∧ acc.length < sizeLine ∧ Nx1 (upd H4 p0 (.lst (acc ++ [y]))) else Nx1 H3) := by
  refine ⟨fun i m H => ∃ W' μ' Si a2 av, m = xs.length - i ∧ i ≤ xs.length ∧ Ext W μ W' μ' ∧ Stt K W' (upd F p0 (.lst av)) μ' Si H ∧ Reps K W' μ' a2 av ∧ a2.length ≤ ac.length + i ∧ compL o xs (turnE f c e (wipeE ρ vs)) (xs.drop i) Si a2 = some (acc, S'),
    ⟨xs.length, W, μ, S, ac, av, by simp, Nat.zero_le _, Ext.refl, st, ra, Nat.le_refl _, by simpa using h⟩, ?_⟩
  rintro i m H ⟨W', μ', Si, a2, av, rfl, hi, x, sti, ra, la, hc⟩
  by_cases hlt : i < xs.length
  · obtain ⟨d0, hd0⟩ : ∃ d, xs[i]? = some d := ⟨xs[i], by simp [hlt]⟩
    rw [drop_at hd0] at hc
    unfold compL at hc
    split at hc
    · rename_i ok
      obtain ⟨go, yl⟩ := (wk i W' _ μ' Si H x sti ok).1 hlt
      obtain ⟨r, S1, e1, e2⟩ := bnd_inv hc
      obtain ⟨ρ1, e3, e4⟩ := lft_inv e1
      obtain ⟨t, S3, e5, e6⟩ := bnd_inv e4
      refine .inr ⟨go, fun H' => ∃ W' μ' Si a2 av, i + 1 ≤ xs.length ∧ Ext W μ W' μ' ∧ Stt K W' (upd F p0 (.lst av)) μ' Si H' ∧ Reps K W' μ' a2 av ∧ a2.length ≤ ac.length + (i + 1) ∧ compL o xs (turnE f c e (wipeE ρ vs)) (xs.drop (i + 1)) Si a2 = some (acc, S'),
        fun H' ⟨W2, μ2, S2, a2, v2, q1, q2, q3, q4, q5, q6⟩ => ⟨xs.length - (i + 1), by omega, W2, μ2, S2, a2, v2, rfl, q1, q2, q3, q4, q5, q6⟩, fun y H'' hy => ?_⟩
      obtain ⟨rfl, d, hd, rd⟩ := yl y H'' hy
      rw [hd0] at hd; cases hd
      refine ⟨W', upd F p0 (.lst av), μ', wipeE ρ vs, Si, d0, ρ1, sti, (en.mono x).wipe vs, rd, e3, fun σ2 en2 l2 k2 => ⟨wipe_eq l2 k2 hs, ?_⟩⟩
      refine ⟨W', upd F p0 (.lst av), μ', ρ1, Si, t, S3, sti, en2, e5, fun H3 W3 μ3 x3 st3 => ?_⟩
      cases t with
      | false =>
        rw [if_neg Bool.false_ne_true]
        rw [if_neg Bool.false_ne_true] at e6
        cases e6
        exact ⟨W3, μ3, _, a2, av, hlt, x.trans x3, st3, ra.m x3, by omega, e2⟩
      | true =>
        rw [if_pos rfl]
        rw [if_pos rfl] at e6
        obtain ⟨y', S4, e7, e8⟩ := bnd_inv e6
        cases e8
        refine ⟨W3, upd F p0 (.lst av), μ3, ρ1, S3, y', _, st3, en2.mono x3, e7, fun v H4 W4 μ4 x4 st4 r4 => ⟨av, st4.inF, by have := ra.length; omega, W4, μ4, _, a2 ++ [y'], av ++ [v], hlt, (x.trans x3).trans x4, st4.reframe, (ra.m (x3.trans x4)).app (Reps.one r4), by simp; omega, e2⟩⟩
    · cases hc
  · have : i = xs.length := by omega
    subst this
    rw [List.drop_length] at hc
    unfold compL at hc
    split at hc
    · rename_i ok
      cases hc
      exact .inl ⟨(wk _ W' _ μ' _ H x sti ok).2 (Nat.le_refl _), p _ _ _ _ x sti ra⟩
    · cases hc
noncomputable def turn2 (f : D → Env → Option Env) (c : Env → Sto → Rs Bool) (it : Env → Sto → Rs (List D × Option Nat)) (f1 : D → Env → Option Env) (c1 : Env → Sto → Rs Bool) (e : Env → Sto → Rs D) (vs1 : List Nat) (ρ : Env) : D → Sto → List D → Rs (List D) :=
  fun x S2 acc => lft (f x ρ) fun ρ1 => bnd (c ρ1 S2) fun t S3 => if t = true then
      bnd (it ρ1 S3) fun w1 S4 => if acc.length + w1.1.length ≤ sizeLine then compL w1.2 w1.1 (turnE f1 c1 e (wipeE ρ1 vs1)) w1.1 S4 acc else none
      else some (acc, S3)
theorem comp2_reads {S S' : Sto} {H1 : Hp} {σ : L2.St} {ρ : Env} {J : It} {xs acc : List D} {o : Option Nat} {f f1 : D → Env → Option Env} {c c1 : Env → Sto → Rs Bool} {it : Env → Sto → Rs (List D × Option Nat)} {e : Env → Sto → Rs D} {vs sl vs1 sl1 : List Nat} {Q : VK} {mu : Bool}
    (st : Stt K W F μ S H1) (en : EnvR K W μ ρ σ) (wk : WkOk K W μ xs o J) (hs : ∀ i ∈ sl, i ∈ vs) (hs1 : ∀ i ∈ sl1, i ∈ vs1)
    (h : compA o xs (turn2 f c it f1 c1 e vs1 (wipeE ρ vs)) xs S [] = some (acc, S'))
    (p : Post K W F μ (if mu = true then S' ++ [.lst acc] else S') (if mu = true then .ref S'.length else .lst acc) Q) :
    ∀ D, H1 D = none → ∃ Wv : Nat → Nat → Hp → Prop, (∃ m, Wv 0 m (upd H1 D (.lst []))) ∧ ∀ i m H, Wv i m H →
      (J.stop i H ∧ Q (.ref D) H) ∨ (J.go i H ∧ ∃ Nx : Hp → Prop, (∀ H', Nx H' → ∃ m', m' < m ∧ Wv (i + 1) m' H') ∧ ∀ x H', J.yld i H x H' → TGR K sl f x (L2.wipe σ vs) H' fun σ2 H2 => L2.wipe σ2 vs = L2.wipe σ vs ∧ TTR K c σ2 H2 fun b H3 =>
        if b = true then TIR K it σ2 H3 fun J1 H4 => ∃ W1 : Nat → Nat → Hp → Prop, (∃ m, W1 0 m H4) ∧ ∀ j k H, W1 j k H →
          (J1.stop j H ∧ Nx H) ∨ (J1.go j H ∧ ∃ Nx1 : Hp → Prop, (∀ H', Nx1 H' → ∃ k', k' < k ∧ W1 (j + 1) k' H') ∧ ∀ x H', J1.yld j H x H' → TGR K sl1 f1 x (L2.wipe σ2 vs1) H' fun σ3 H5 => L2.wipe σ3 vs1 = L2.wipe σ2 vs1 ∧ TTR K c1 σ3 H5 fun b H6 =>
            if b = true then TR K e σ3 H6 fun y H7 => ∃ acc, H7 D = some (.lst acc) ∧ acc.length < sizeLine ∧ Nx1 (upd H7 D (.lst (acc ++ [y]))) else Nx1 H6)
        else Nx H3) := by
  intro p0 hp0
  have hF := (st.noF hp0).1
  refine ⟨fun i m H => ∃ W' μ' Si ac av, m = xs.length - i ∧ i ≤ xs.length ∧ Ext W μ W' μ' ∧ Stt K W' (upd F p0 (.lst av)) μ' Si H ∧ Reps K W' μ' ac av ∧ compA o xs (turn2 f c it f1 c1 e vs1 (wipeE ρ vs)) (xs.drop i) Si ac = some (acc, S'),
    ⟨xs.length, W, μ, S, [], [], by simp, Nat.zero_le _, Ext.refl, st.frame _ hp0, rfl, by simpa using h⟩, ?_⟩
  rintro i m H ⟨W', μ', Si, ac, av, rfl, hi, x, sti, ra, hc⟩
  by_cases hlt : i < xs.length
  · obtain ⟨d0, hd0⟩ : ∃ d, xs[i]? = some d := ⟨xs[i], by simp [hlt]⟩
    rw [drop_at hd0] at hc
    unfold compA at hc
    split at hc
    · rename_i ok
      obtain ⟨go, yl⟩ := (wk i W' _ μ' Si H x sti ok).1 hlt
      obtain ⟨r, S1, e1, e2⟩ := bnd_inv hc
      obtain ⟨ρ1, e3, e4⟩ := lft_inv e1
      obtain ⟨t, S3, e5, e6⟩ := bnd_inv e4
      refine .inr ⟨go, fun H' => ∃ W' μ' Si ac av, i + 1 ≤ xs.length ∧ Ext W μ W' μ' ∧ Stt K W' (upd F p0 (.lst av)) μ' Si H' ∧ Reps K W' μ' ac av ∧ compA o xs (turn2 f c it f1 c1 e vs1 (wipeE ρ vs)) (xs.drop (i + 1)) Si ac = some (acc, S'),
        fun H' ⟨W2, μ2, S2, a2, v2, q1, q2, q3, q4, q6⟩ => ⟨xs.length - (i + 1), by omega, W2, μ2, S2, a2, v2, rfl, q1, q2, q3, q4, q6⟩, fun y H'' hy => ?_⟩
      obtain ⟨rfl, d, hd, rd⟩ := yl y H'' hy
      rw [hd0] at hd; cases hd
      refine ⟨W', upd F p0 (.lst av), μ', wipeE ρ vs, Si, d0, ρ1, sti, (en.mono x).wipe vs, rd, e3, fun σ2 en2 l2 k2 => ⟨wipe_eq l2 k2 hs, ?_⟩⟩
      refine ⟨W', upd F p0 (.lst av), μ', ρ1, Si, t, S3, sti, en2, e5, fun H3 W3 μ3 x3 st3 => ?_⟩
      cases t with
      | false =>
        rw [if_neg Bool.false_ne_true]
        rw [if_neg Bool.false_ne_true] at e6
        cases e6
        exact ⟨W3, μ3, _, ac, av, hlt, x.trans x3, st3, ra.m x3, e2⟩
      | true =>
        rw [if_pos rfl]
        rw [if_pos rfl] at e6
        obtain ⟨w1, S4, e7, e8⟩ := bnd_inv e6
        split at e8
        · rename_i hl
          refine ⟨W3, upd F p0 (.lst av), μ3, ρ1, S3, w1, S4, st3, en2.mono x3, e7, fun J1 H4 W4 μ4 x4 st4 wk4 => ?_⟩
          exact comp_in st4 (en2.mono (x3.trans x4)) (ra.m (x3.trans x4)) wk4 hl hs1 e8 fun H5 W5 μ5 av5 x5 st5 ra5 => ⟨W5, μ5, _, r, av5, hlt, ((x.trans x3).trans x4).trans x5, st5, ra5, e2⟩
        · cases e8
    · cases hc
  · have : i = xs.length := by omega
    subst this
    rw [List.drop_length] at hc
    unfold compA at hc
    split at hc
    · rename_i ok
      cases hc
      refine .inl ⟨(wk _ W' _ μ' _ H x sti ok).2 (Nat.le_refl _), ?_⟩
      cases mu with
      | false =>
        obtain ⟨st2, x2⟩ := sti.toImm hF
        exact p _ _ _ _ (x.trans x2) st2 ⟨p0, av, rfl, upd_same, ra.m x2⟩
      | true =>
        have x2 : Ext W' μ' W' (μ' ++ [p0]) := ⟨fun _ _ h => h, fun r a h => by rw [List.getElem?_append_left (List.getElem?_eq_some_iff.mp h).1]; exact h⟩
        obtain ⟨st2, _⟩ := sti.toCell (c := .lst acc) hF ⟨av, sti.inF, ra.m x2⟩
        exact p _ _ _ _ (x.trans x2) st2 ⟨p0, by rw [← sti.len]; simp, rfl⟩
    · cases hc

/-! ### for -/
theorem for_reads {S S' : Sto} {H1 : Hp} {σ : L2.St} {ρ : Env} {J : It} {xs : List D} {o : Option Nat} {f : D → Env → Option Env} {b : Env → Sto → Rs Fl} {sl : List Nat} {fl : Fl} {D : Ends}
    (st : Stt K W F μ S H1) (en : EnvR K W μ ρ σ) (wk : WkOk K W μ xs o J)
    (h : forL o xs (fun x ρ1 S2 => lft (f x ρ1) fun ρ2 => b ρ2 S2) xs ρ S = some (fl, S')) (p : PostS K W F μ S' fl D) :
    ∃ Wv : Nat → Nat → L2.St → Hp → Prop, (∃ m, Wv 0 m σ H1) ∧ ∀ i m σ H, Wv i m σ H →
      (J.stop i H ∧ D.nx σ H) ∨ (J.go i H ∧ ∃ N : L2.St → Hp → Prop, (∀ σ' H', N σ' H' → ∃ m', m' < m ∧ Wv (i + 1) m' σ' H') ∧ ∀ x H', J.yld i H x H' → TGR K sl f x σ H' fun σ2 H2 => TSR K b { D with nx := N, ct := N, bk := D.nx } σ2 H2) := by
  refine ⟨fun i m σ H => ∃ W' μ' ρi Si, m = xs.length - i ∧ i ≤ xs.length ∧ Ext W μ W' μ' ∧ Stt K W' F μ' Si H ∧ EnvR K W' μ' ρi σ ∧ forL o xs (fun x ρ1 S2 => lft (f x ρ1) fun ρ2 => b ρ2 S2) (xs.drop i) ρi Si = some (fl, S'),
    ⟨xs.length, W, μ, ρ, S, by simp, Nat.zero_le _, Ext.refl, st, en, by simpa using h⟩, ?_⟩
  rintro i m σ H ⟨W', μ', ρi, Si, rfl, hi, x, sti, eni, hc⟩
  by_cases hlt : i < xs.length
  · obtain ⟨d0, hd0⟩ : ∃ d, xs[i]? = some d := ⟨xs[i], by simp [hlt]⟩
    rw [drop_at hd0] at hc
    unfold forL at hc
    split at hc
    · rename_i ok
      obtain ⟨go, yl⟩ := (wk i W' _ μ' Si H x sti ok).1 hlt
      obtain ⟨fl1, S1, e1, e2⟩ := bnd_inv hc
      obtain ⟨ρ2, e3, e4⟩ := lft_inv e1
      refine .inr ⟨go, fun σ' H' => ∃ W' μ' ρi Si, i + 1 ≤ xs.length ∧ Ext W μ W' μ' ∧ Stt K W' F μ' Si H' ∧ EnvR K W' μ' ρi σ' ∧ forL o xs (fun x ρ1 S2 => lft (f x ρ1) fun ρ2 => b ρ2 S2) (xs.drop (i + 1)) ρi Si = some (fl, S'),
        fun σ' H' ⟨W2, μ2, r2, S2, q1, q2, q3, q4, q5⟩ => ⟨xs.length - (i + 1), by omega, W2, μ2, r2, S2, rfl, q1, q2, q3, q4, q5⟩, fun y H'' hy => ?_⟩
      obtain ⟨rfl, d, hd, rd⟩ := yl y H'' hy
      rw [hd0] at hd; cases hd
      refine ⟨W', F, μ', ρi, Si, d0, ρ2, sti, eni, rd, e3, fun σ2 en2 _ _ => ⟨W', F, μ', ρ2, Si, fl1, S1, sti, en2, e4, ?_⟩⟩
      cases fl1 with
      | nx ρ3 => exact fun σ3 H3 W3 μ3 x3 st3 en3 => ⟨W3, μ3, ρ3, S1, hlt, x.trans x3, st3, en3, e2⟩
      | bk ρ3 =>
        cases e2
        exact fun σ3 H3 W3 μ3 x3 st3 en3 => p σ3 H3 W3 μ3 (x.trans x3) st3 en3
      | rt d =>
        cases e2
        exact fun v H3 W3 μ3 x3 st3 r3 => p v H3 W3 μ3 (x.trans x3) st3 r3
    · cases hc
  · have : i = xs.length := by omega
    subst this
    rw [List.drop_length] at hc
    unfold forL at hc
    split at hc
    · rename_i ok
      cases hc
      exact .inl ⟨(wk _ W' _ μ' _ H x sti ok).2 (Nat.le_refl _), p σ H W' μ' x sti eni⟩
    · cases hc

/-! ### while -/
theorem whE_inv {c : Env → Sto → Rs Bool} {b : Env → Sto → Rs Fl} {ρ : Env} {S : Sto} {r : Fl × Sto} (h : whE c b ρ S = some r) : ∃ n, whF c b n ρ S = some r := by
  unfold whE at h
  split at h
  · exact ⟨_, h⟩
  · cases h
theorem while_reads {S S' : Sto} {H : Hp} {σ : L2.St} {ρ : Env} {c : Env → Sto → Rs Bool} {b : Env → Sto → Rs Fl} {fl : Fl} {D : Ends}
    (st : Stt K W F μ S H) (en : EnvR K W μ ρ σ) (h : whE c b ρ S = some (fl, S')) (p : PostS K W F μ S' fl D) : tWhile (TTR K c) (TSR K b) D σ H := by
  obtain ⟨n, h⟩ := whE_inv h
  refine ⟨fun m σ H => ∃ W' μ' ρi Si, Ext W μ W' μ' ∧ Stt K W' F μ' Si H ∧ EnvR K W' μ' ρi σ ∧ whF c b m ρi Si = some (fl, S'), ⟨n, W, μ, ρ, S, Ext.refl, st, en, h⟩, ?_⟩
  rintro m σ H ⟨W', μ', ρi, Si, x, sti, eni, hc⟩
  cases m with
  | zero => cases hc
  | succ m =>
    obtain ⟨t, S1, e1, e2⟩ := bnd_inv (show bnd (c ρi Si) _ = _ from hc)
    refine ⟨W', F, μ', ρi, Si, t, S1, sti, eni, e1, fun H1 W1 μ1 x1 st1 => ?_⟩
    cases t with
    | false =>
      rw [if_neg Bool.false_ne_true] at e2 ⊢
      cases e2
      exact p σ H1 W1 μ1 (x.trans x1) st1 (eni.mono x1)
    | true =>
      rw [if_pos rfl] at e2 ⊢
      obtain ⟨fl1, S2, e3, e4⟩ := bnd_inv e2
      refine ⟨fun σ' H' => ∃ W' μ' ρi Si, Ext W μ W' μ' ∧ Stt K W' F μ' Si H' ∧ EnvR K W' μ' ρi σ' ∧ whF c b m ρi Si = some (fl, S'), fun σ' H' q => ⟨m, Nat.lt_succ_self _, q⟩, ?_⟩
      refine ⟨W1, F, μ1, ρi, S1, fl1, S2, st1, eni.mono x1, e3, ?_⟩
      cases fl1 with
      | nx ρ3 => exact fun σ3 H3 W3 μ3 x3 st3 en3 => ⟨W3, μ3, ρ3, S2, (x.trans x1).trans x3, st3, en3, e4⟩
      | bk ρ3 =>
        cases e4
        exact fun σ3 H3 W3 μ3 x3 st3 en3 => p σ3 H3 W3 μ3 ((x.trans x1).trans x3) st3 en3
      | rt d =>
        cases e4
        exact fun v H3 W3 μ3 x3 st3 r3 => p v H3 W3 μ3 ((x.trans x1).trans x3) st3 r3
end
end Rw

/-! M9: the text does what is said -/
namespace Rw
open PySem PySem.Spec PyProof.Rows L2

/-- a def's promise: what the call cl gives -/
def spOf (K : PySem.W.Frag) (n : Nat) (cl : List D → Sto → Rs D) : Sp := fun vs H Q _ => vs.length = n ∧ ∃ W F μ S ds d S', Stt K W F μ S H ∧ Reps K W μ ds vs ∧ cl ds S = some (d, S') ∧ Post K W F μ S' d Q
structure GF (P : Program) (w : World) (K : PySem.W.Frag) (mg : Str → Option Value) (base : Heap) (G : GT) (k : Nat) (cl : Nat → List D → Sto → Rs D) : Prop where
  fn : ∀ g x f, G[g]? = some (x, .fn f) → ∃ a fd ps, mg x = some (.ref a) ∧ PySem.W.keepIn K (.ref a) = true ∧ Binds K fd ps [] ∧ FnOk P w K mg base CX0 k a fd ps (spOf K f.np (cl g))
  len : ∀ g x f ds S r, G[g]? = some (x, .fn f) → cl g ds S = some r → ds.length = f.np
  blt : ∀ (g : Nat) x, G[g]? = some (x, .blt) → mg x = none
  con : ∀ (g : Nat) x d, G[g]? = some (x, .con d) → ∃ u v, mg x = some u ∧ RelV v u ∧ ∀ W μ, Rep K W μ d v
structure Good (G : GT) (cl : Nat → List D → Sto → Rs D) (k : Nat) (Γ : Syn) (X : Cx) : Prop extends Sy Γ X where
  xe : X.xe = fun _ _ => False
  room : Room k X.A
  gf : GF X.prog X.w X.K X.mg X.base G k cl
section
variable {G : GT} {cl : Nat → List D → Sto → Rs D} {k : Nat} {Γ : Syn} {X : Cx}
theorem Good.hu (g : Good G cl k Γ X) : X.A.units + 65 < cLine := by have := g.room.un; omega
theorem Good.hu1 (g : Good G cl k Γ X) : X.A.units + 1 < cLine := by have := g.room.units; omega
/-- within a comprehension -/
theorem Good.blk (g : Good G cl k Γ X) {scope : Scope} (s : Shared) (H : Hp) (C : Addr) (cells : List (Str × Addr)) (fp : List Addr) : Good G cl k (Γ.blk scope) (X.blk s H scope (compEnvC scope cells C X.env) fp) :=
  ⟨⟨g.N, g.nd, by show relS scope X.env.scope = relS scope Γ.sc; rw [g.sc], rfl, g.calm⟩, rfl, g.room, g.gf⟩
theorem Good.passes (g : Good G cl k Γ X) : PassesOwn (model X.prog X.w) X.A X.env X.xe := by rw [g.xe]; exact PassesOwn.never
theorem vis_ok (y : Sy Γ X) {i : Nat} {x : Str} {pos : Pos} (h : visB Γ i x = true) : PE X (.Name x pos) (tVar i) := by
  obtain ⟨h1, h2⟩ := bk h
  obtain ⟨h3, h4⟩ := bk h2
  obtain ⟨h5, h6⟩ := bk h4
  refine pe_var (by rw [y.N]; exact dec h1) ?_ (by simpa using h5) (by simpa using h6)
  unfold Vis
  rw [y.sc]
  split at h3
  · rename_i e; exact .inl e
  · rename_i e; exact .inr (.inl e)
  · rename_i e; exact .inr (.inr e)
  · cases h3
theorem gl_ok (y : Sy Γ X) {g : Nat} {x : Str} (h : glB G Γ g x = true) : (∃ q, G[g]? = some (x, q)) ∧ Gl X x ∧ (x == ("__debug__" : Str)) = false ∧ x ≠ "__name__" := by
  obtain ⟨h1, h2⟩ := bk h
  obtain ⟨h3, h4⟩ := bk h2
  obtain ⟨h5, h6⟩ := bk h4
  refine ⟨?_, by show X.env.scope.names.lookup x = _; rw [y.sc]; exact dec h3, by simpa using h5, dec h6⟩
  cases c : G[g]? with
  | none => rw [c] at h1; cases h1
  | some p =>
    rw [c] at h1
    have e : p.1 = x := dec h1
    exact ⟨p.2, by rw [← e]⟩
theorem fn_at {g : Nat} {x : Str} {q : GK} (h : G[g]? = some (x, q)) (h2 : isFnB G g = true) : ∃ f, G[g]? = some (x, .fn f) := by
  unfold isFnB at h2
  rw [h] at h2
  cases q with
  | fn f => exact ⟨f, h⟩
  | _ => cases h2
theorem blt_at {g : Nat} {x : Str} {q : GK} (h : G[g]? = some (x, q)) (h2 : isBlt G g = true) : G[g]? = some (x, .blt) := by
  unfold isBlt at h2
  rw [h] at h2
  cases q with
  | blt => exact h
  | _ => cases h2
/-- an argument list's trees -/
theorem stars_any : ∀ {m : MEs} {xs : List Expr} {pos : Pos} {env : PySem.Env}, chkEs G m Γ xs = true → (backTo pos (starEach xs env)).any (·.1) = false ∧ (backTo pos (starEach xs env)).all (fun x => !x.1) = true
  | .nil, [], _, _, _ => ⟨rfl, rfl⟩
  | .nil, _ :: _, _, _, h => by cases h
  | .cons e es, [], _, _, h => by cases h
  | .cons e es, x :: xs, pos, env, h => by
    obtain ⟨h1, h2⟩ := bk (show (okX x && (chkE G e Γ x && chkEs G es Γ xs)) = true from h)
    obtain ⟨_, h3⟩ := bk h2
    obtain ⟨a, b⟩ := stars_any (pos := pos) (env := env) h3
    rw [star_ok h1]
    exact ⟨by show (false || (backTo pos (starEach xs env)).any (·.1)) = false; rw [a]; rfl, by show (!false && (backTo pos (starEach xs env)).all (fun x => !x.1)) = true; rw [b]; rfl⟩
theorem PE.bool {e : Expr} {ev : Env → Sto → Rs D} (h : PE X e (TR X.K ev)) (hp : ∀ whole, isTrue e X.env whole = (do let v ← whole; standAt e.pos; holding [v] (truthy v))) :
    PT X e (TTR X.K fun ρ S => bnd (ev ρ S) fun d S1 => lft (truD S1 d) fun t => some (t, S1)) := by
  refine (pt_truth h hp).weak ?_
  rintro σ H Q ⟨W, F, μ, ρ, S, b, S', st, en, e, p⟩
  obtain ⟨d, S1, e1, e2⟩ := bnd_inv e
  obtain ⟨t, e3, e4⟩ := lft_inv e2
  cases e4
  exact ⟨W, F, μ, ρ, S, d, _, st, en, e1, fun v H' W' μ' x st' r => ⟨b, tru_rep st' r e3, p H' W' μ' x st'⟩⟩
end
section
variable (G : GT) (cl : Nat → List D → Sto → Rs D) (k : Nat)
/-- an expression, as a value, as a test, as a chain of and | or -/
structure Eok (m : ME) (X : Cx) (e : Expr) : Prop where
  pe : PE X e (TR X.K (evE G cl m))
  pt : PT X e (TTR X.K (evT G cl m))
  pw : ∀ op es pos, e = .BoolOp op es pos → PW X e (TTR X.K (evT G cl m))
variable {G cl k}
theorem Eok.plain {m : ME} {X : Cx} {e : Expr} (h : PE X e (TR X.K (evE G cl m))) (hp : ∀ whole, isTrue e X.env whole = (do let v ← whole; standAt e.pos; holding [v] (truthy v))) (hb : ∀ op es pos, e ≠ .BoolOp op es pos) : Eok G cl m X e :=
  ⟨h, PE.bool h hp, fun op es pos q => absurd q (hb op es pos)⟩
variable {Γ : Syn} {X : Cx}
theorem tr_and {a b : ME} {x y : Expr} {r : List Expr} {pos : Pos} (ha : PE X x (TR X.K (evE G cl a))) (hb : PE X (.BoolOp .And (y :: r) pos) (TR X.K (evE G cl b))) : PE X (.BoolOp .And (x :: y :: r) pos) (TR X.K (evE G cl (.and a b))) := by
  refine (pe_andT ha hb).weak ?_
  rintro σ H Q ⟨W, F, μ, ρ, S, d, S', st, en, e, p⟩
  obtain ⟨d1, S1, e1, e2⟩ := bnd_inv e
  obtain ⟨t, e3, e4⟩ := lft_inv e2
  refine ⟨W, F, μ, ρ, S, d1, S1, st, en, e1, fun v H' W' μ' x st' rr => ⟨t, tru_rep st' rr e3, ?_⟩⟩
  cases t with
  | true => rw [if_pos rfl] at e4 ⊢; exact ⟨W', F, μ', ρ, S1, d, S', st', en.mono x, e4, p.ext x⟩
  | false =>
    rw [if_neg Bool.false_ne_true] at e4 ⊢
    cases e4
    exact p v H' W' μ' x st' rr
theorem tr_or {a b : ME} {x y : Expr} {r : List Expr} {pos : Pos} (ha : PE X x (TR X.K (evE G cl a))) (hb : PE X (.BoolOp .Or (y :: r) pos) (TR X.K (evE G cl b))) : PE X (.BoolOp .Or (x :: y :: r) pos) (TR X.K (evE G cl (.or a b))) := by
  refine (pe_orT ha hb).weak ?_
  rintro σ H Q ⟨W, F, μ, ρ, S, d, S', st, en, e, p⟩
  obtain ⟨d1, S1, e1, e2⟩ := bnd_inv e
  obtain ⟨t, e3, e4⟩ := lft_inv e2
  refine ⟨W, F, μ, ρ, S, d1, S1, st, en, e1, fun v H' W' μ' x st' rr => ⟨t, tru_rep st' rr e3, ?_⟩⟩
  cases t with
  | false => rw [if_neg Bool.false_ne_true] at e4 ⊢; exact ⟨W', F, μ', ρ, S1, d, S', st', en.mono x, e4, p.ext x⟩
  | true =>
    rw [if_pos rfl] at e4 ⊢
    cases e4
    exact p v H' W' μ' x st' rr
theorem tt_and {a b : ME} {x y : Expr} {r : List Expr} {pos : Pos} (ha : PT X x (TTR X.K (evT G cl a))) (hb : PW X (.BoolOp .And (y :: r) pos) (TTR X.K (evT G cl b))) : PW X (.BoolOp .And (x :: y :: r) pos) (TTR X.K (evT G cl (.and a b))) := by
  refine (pw_and ha hb).weak ?_
  rintro σ H Q ⟨W, F, μ, ρ, S, t, S', st, en, e, p⟩
  obtain ⟨d, S2, e1, e2⟩ := bnd_inv e
  obtain ⟨t', e3, e4⟩ := lft_inv e2
  cases e4
  obtain ⟨d1, S1, e5, e6⟩ := bnd_inv e1
  obtain ⟨t1, e7, e8⟩ := lft_inv e6
  refine ⟨W, F, μ, ρ, S, t1, S1, st, en, by simp only [evT, e5, bnd_some, e7, lft_some], fun H' W' μ' x st' => ?_⟩
  cases t1 with
  | true => rw [if_pos rfl] at e8 ⊢; exact ⟨W', F, μ', ρ, S1, t, _, st', en.mono x, by simp only [evT, e8, bnd_some, e3, lft_some], p.ext x⟩
  | false =>
    rw [if_neg Bool.false_ne_true] at e8 ⊢
    cases e8
    rw [e7] at e3; cases e3
    exact p H' W' μ' x st'
theorem tt_or {a b : ME} {x y : Expr} {r : List Expr} {pos : Pos} (ha : PT X x (TTR X.K (evT G cl a))) (hb : PW X (.BoolOp .Or (y :: r) pos) (TTR X.K (evT G cl b))) : PW X (.BoolOp .Or (x :: y :: r) pos) (TTR X.K (evT G cl (.or a b))) := by
  refine (pw_or ha hb).weak ?_
  rintro σ H Q ⟨W, F, μ, ρ, S, t, S', st, en, e, p⟩
  obtain ⟨d, S2, e1, e2⟩ := bnd_inv e
  obtain ⟨t', e3, e4⟩ := lft_inv e2
  cases e4
  obtain ⟨d1, S1, e5, e6⟩ := bnd_inv e1
  obtain ⟨t1, e7, e8⟩ := lft_inv e6
  refine ⟨W, F, μ, ρ, S, t1, S1, st, en, by simp only [evT, e5, bnd_some, e7, lft_some], fun H' W' μ' x st' => ?_⟩
  cases t1 with
  | false => rw [if_neg Bool.false_ne_true] at e8 ⊢; exact ⟨W', F, μ', ρ, S1, t, _, st', en.mono x, by simp only [evT, e8, bnd_some, e3, lft_some], p.ext x⟩
  | true =>
    rw [if_pos rfl] at e8 ⊢
    cases e8
    rw [e7] at e3; cases e3
    exact p H' W' μ' x st'
theorem tr_not {a : ME} {x : Expr} {pos : Pos} (ha : Eok G cl a X x) : Eok G cl (.not a) X (.UnaryOp .Not x pos) := by
  refine ⟨(pe_notT ha.pe).weak ?_, (pt_not ha.pt).weak ?_, fun op es pos q => by cases q⟩
  · rintro σ H Q ⟨W, F, μ, ρ, S, d, S', st, en, e, p⟩
    obtain ⟨d1, S1, e1, e2⟩ := bnd_inv e
    obtain ⟨t, e3, e4⟩ := lft_inv e2
    cases e4
    exact ⟨W, F, μ, ρ, S, d1, _, st, en, e1, fun v H' W' μ' x st' rr => ⟨t, tru_rep st' rr e3, (p.ext x).blv st'⟩⟩
  · rintro σ H Q ⟨W, F, μ, ρ, S, t, S', st, en, e, p⟩
    obtain ⟨d, S2, e1, e2⟩ := bnd_inv e
    obtain ⟨t', e3, e4⟩ := lft_inv e2
    cases e4
    obtain ⟨d1, S1, e5, e6⟩ := bnd_inv e1
    obtain ⟨t1, e7, e8⟩ := lft_inv e6
    cases e8
    cases e3
    exact ⟨W, F, μ, ρ, S, t1, _, st, en, by simp only [evT, e5, bnd_some, e7, lft_some], fun H' W' μ' x st' => p H' W' μ' x st'⟩
theorem tr_if {c a b : ME} {x y z : Expr} {pos : Pos} (hc : Eok G cl c X x) (ha : Eok G cl a X y) (hb : Eok G cl b X z) : Eok G cl (.ifE c a b) X (.IfExp x y z pos) := by
  refine ⟨(pe_ifExp hc.pt ha.pe hb.pe).weak ?_, ⟨fun pins s σ H Q I h => ?_⟩, fun op es pos q => by cases q⟩
  · rintro σ H Q ⟨W, F, μ, ρ, S, d, S', st, en, e, p⟩
    obtain ⟨d1, S1, e1, e2⟩ := bnd_inv e
    obtain ⟨t, e3, e4⟩ := lft_inv e2
    refine ⟨W, F, μ, ρ, S, t, S1, st, en, by simp only [evT, e1, bnd_some, e3, lft_some], fun H' W' μ' x st' => ?_⟩
    cases t with
    | true => rw [if_pos rfl] at e4 ⊢; exact ⟨W', F, μ', ρ, S1, d, S', st', en.mono x, e4, p.ext x⟩
    | false => rw [if_neg Bool.false_ne_true] at e4 ⊢; exact ⟨W', F, μ', ρ, S1, d, S', st', en.mono x, e4, p.ext x⟩
  · obtain ⟨W, F, μ, ρ, S, t, S', st, en, e, p⟩ := h
    obtain ⟨d, S2, e1, e2⟩ := bnd_inv e
    obtain ⟨t', e3, e4⟩ := lft_inv e2
    cases e4
    obtain ⟨d1, S1, e5, e6⟩ := bnd_inv e1
    obtain ⟨t1, e7, e8⟩ := lft_inv e6
    refine isTrue_IfExp (thn (hc.pt.run pins s σ H (fun b' H1 => if b' = true then TTR X.K (evT G cl a) σ H1 Q else TTR X.K (evT G cl b) σ H1 Q) I
      ⟨W, F, μ, ρ, S, t1, S1, st, en, by simp only [evT, e5, bnd_some, e7, lft_some], fun H' W' μ' x st' => ?_⟩) fun bb s1 ⟨H1, I1, q1⟩ => ?_)
    · cases t1 with
      | true => rw [if_pos rfl] at e8 ⊢; exact ⟨W', F, μ', ρ, S1, t, _, st', en.mono x, by simp only [evT, e8, bnd_some, e3, lft_some], p.ext x⟩
      | false => rw [if_neg Bool.false_ne_true] at e8 ⊢; exact ⟨W', F, μ', ρ, S1, t, _, st', en.mono x, by simp only [evT, e8, bnd_some, e3, lft_some], p.ext x⟩
    · cases bb with
      | true => exact ha.pt.run pins s1 σ H1 Q I1 q1
      | false => exact hb.pt.run pins s1 σ H1 Q I1 q1
theorem tr_bin {op : Operator} {a b : ME} {x y : Expr} {pos : Pos} (ha : PE X x (TR X.K (evE G cl a))) (hb : PE X y (TR X.K (evE G cl b))) : PE X (.BinOp x op y pos) (TR X.K (evE G cl (.bin op a b))) := by
  refine (pe_op (op_bin op) ha hb).weak ?_
  rintro σ H Q ⟨W, F, μ, ρ, S, d, S', st, en, e, p⟩
  obtain ⟨d1, S1, e1, e2⟩ := bnd_inv e
  obtain ⟨d2, S2, e3, e4⟩ := bnd_inv e2
  obtain ⟨r, e5, e6⟩ := lft_inv e4
  cases e6
  exact ⟨W, F, μ, ρ, S, d1, S1, st, en, e1, fun v1 H1 W1 μ1 x1 st1 r1 => ⟨W1, F, μ1, ρ, S1, d2, _, st1, en.mono x1, e3, fun v2 H2 W2 μ2 x2 st2 r2 => ⟨W2, F, μ2, _, d1, d2, d, st2, r1.m x2, r2, e5, p.ext (x1.trans x2)⟩⟩⟩
theorem tr_idx (hu : X.A.units + 1 < cLine) {a b : ME} {x y : Expr} {pos : Pos} (ok : okX y = true) (ha : PE X x (TR X.K (evE G cl a))) (hb : PE X y (TR X.K (evE G cl b))) : PE X (.Subscript x y pos) (TR X.K (evE G cl (.idx a b))) := by
  refine (pe_ix (ix_any hu) ha hb fun o i => sub_ok ok o i).weak ?_
  rintro σ H Q ⟨W, F, μ, ρ, S, d, S', st, en, e, p⟩
  obtain ⟨d1, S1, e1, e2⟩ := bnd_inv e
  obtain ⟨d2, S2, e3, e4⟩ := bnd_inv e2
  obtain ⟨r, e5, e6⟩ := lft_inv e4
  cases e6
  exact ⟨W, F, μ, ρ, S, d1, S1, st, en, e1, fun v1 H1 W1 μ1 x1 st1 r1 => ⟨W1, F, μ1, ρ, S1, d2, _, st1, en.mono x1, e3, fun v2 H2 W2 μ2 x2 st2 r2 => ⟨W2, F, μ2, _, d1, d2, d, st2, r1.m x2, r2, e5, p.ext (x1.trans x2)⟩⟩⟩
theorem tr_cmp (hu : X.A.units + 65 < cLine) {op : CmpOp} {a b : ME} {x y : Expr} {pos : Pos} (ok : okX y = true) (ha : PE X x (TR X.K (evE G cl a))) (hb : PE X y (TR X.K (evE G cl b))) : Eok G cl (.cmp op a b) X (.Compare x [op] [y] pos) := by
  refine ⟨(pe_cmpR (op_cmp hu op) ha hb (mark_ok ok op)).weak ?_, (pt_cmpR (op_cmp hu op) ha hb (mark_ok ok op)).weak ?_, fun op es pos q => by cases q⟩
  · rintro σ H Q ⟨W, F, μ, ρ, S, d, S', st, en, e, p⟩
    obtain ⟨d1, S1, e1, e2⟩ := bnd_inv e
    obtain ⟨d2, S2, e3, e4⟩ := bnd_inv e2
    obtain ⟨r, e5, e6⟩ := lft_inv e4
    cases e6
    exact ⟨W, F, μ, ρ, S, d1, S1, st, en, e1, fun v1 H1 W1 μ1 x1 st1 r1 => ⟨W1, F, μ1, ρ, S1, d2, _, st1, en.mono x1, e3, fun v2 H2 W2 μ2 x2 st2 r2 => ⟨W2, F, μ2, _, d1, d2, r, st2, r1.m x2, r2, e5, fun H3 W3 μ3 x3 st3 => p _ H3 W3 μ3 ((x1.trans x2).trans x3) st3 rfl⟩⟩⟩
  · rintro σ H Q ⟨W, F, μ, ρ, S, t, S', st, en, e, p⟩
    obtain ⟨d, S3, e7, e8⟩ := bnd_inv e
    obtain ⟨t', e9, e10⟩ := lft_inv e8
    cases e10
    obtain ⟨d1, S1, e1, e2⟩ := bnd_inv e7
    obtain ⟨d2, S2, e3, e4⟩ := bnd_inv e2
    obtain ⟨r, e5, e6⟩ := lft_inv e4
    cases e6
    cases e9
    exact ⟨W, F, μ, ρ, S, d1, S1, st, en, e1, fun v1 H1 W1 μ1 x1 st1 r1 => ⟨W1, F, μ1, ρ, S1, d2, _, st1, en.mono x1, e3, fun v2 H2 W2 μ2 x2 st2 r2 => ⟨W2, F, μ2, _, d1, d2, t, st2, r1.m x2, r2, e5, fun H3 W3 μ3 x3 st3 => ⟨t, rfl, p H3 W3 μ3 ((x1.trans x2).trans x3) st3⟩⟩⟩⟩
theorem tr_ch (hu : X.A.units + 65 < cLine) {op op' : CmpOp} {a b c : ME} {x y z : Expr} {pos : Pos} (ok : okX z = true) (ha : PE X x (TR X.K (evE G cl a))) (hb : PE X y (TR X.K (evE G cl b))) (hc : PE X z (TR X.K (evE G cl c))) : Eok G cl (.ch op op' a b c) X (.Compare x [op, op'] [y, z] pos) := by
  refine ⟨(pe_chain (op_cmp hu op) (op_cmp hu op') ha hb hc (mark_ok ok op')).weak ?_, (pt_chain (op_cmp hu op) (op_cmp hu op') ha hb hc (mark_ok ok op')).weak ?_, fun op es pos q => by cases q⟩
  · rintro σ H Q ⟨W, F, μ, ρ, S, d, S', st, en, e, p⟩
    obtain ⟨d1, S1, e1, e2⟩ := bnd_inv e
    obtain ⟨d2, S2, e3, e4⟩ := bnd_inv e2
    obtain ⟨r, e5, e6⟩ := lft_inv e4
    refine ⟨W, F, μ, ρ, S, d1, S1, st, en, e1, fun v1 H1 W1 μ1 x1 st1 r1 => ⟨W1, F, μ1, ρ, S1, d2, _, st1, en.mono x1, e3, fun v2 H2 W2 μ2 x2 st2 r2 => ⟨W2, F, μ2, _, d1, d2, r, st2, r1.m x2, r2, e5, fun H3 W3 μ3 x3 st3 => ⟨r, rfl, ?_⟩⟩⟩⟩
    cases r with
    | false =>
      cases e6
      exact p _ H3 W3 μ3 ((x1.trans x2).trans x3) st3 rfl
    | true =>
      obtain ⟨d3, S3, e7, e8⟩ := bnd_inv (show bnd (evE G cl c ρ S2) (fun f S3 => lft (cmpD S3 op' d2 f) fun q => some (.bl q, S3)) = some (d, S') from e6)
      obtain ⟨t, e9, e10⟩ := lft_inv e8
      cases e10
      exact ⟨W3, F, μ3, ρ, S2, d3, _, st3, en.mono ((x1.trans x2).trans x3), e7, fun v4 H4 W4 μ4 x4 st4 r4 => ⟨W4, F, μ4, _, d2, d3, t, st4, (r2.m x3).m x4, r4, e9, fun H5 W5 μ5 x5 st5 => p _ H5 W5 μ5 ((((x1.trans x2).trans x3).trans x4).trans x5) st5 rfl⟩⟩
  · rintro σ H Q ⟨W, F, μ, ρ, S, t, S', st, en, e, p⟩
    obtain ⟨d, S3, e7, e8⟩ := bnd_inv e
    obtain ⟨t', e9, e10⟩ := lft_inv e8
    cases e10
    obtain ⟨d1, S1, e1, e2⟩ := bnd_inv e7
    obtain ⟨d2, S2, e3, e4⟩ := bnd_inv e2
    obtain ⟨r, e5, e6⟩ := lft_inv e4
    refine ⟨W, F, μ, ρ, S, d1, S1, st, en, e1, fun v1 H1 W1 μ1 x1 st1 r1 => ⟨W1, F, μ1, ρ, S1, d2, _, st1, en.mono x1, e3, fun v2 H2 W2 μ2 x2 st2 r2 => ⟨W2, F, μ2, _, d1, d2, r, st2, r1.m x2, r2, e5, fun H3 W3 μ3 x3 st3 => ⟨r, rfl, ?_⟩⟩⟩⟩
    cases r with
    | false =>
      cases e6
      cases e9
      exact ⟨false, rfl, p H3 W3 μ3 ((x1.trans x2).trans x3) st3⟩
    | true =>
      obtain ⟨d3, S3', e7', e8'⟩ := bnd_inv (show bnd (evE G cl c ρ S2) (fun f S3 => lft (cmpD S3 op' d2 f) fun q => some (.bl q, S3)) = some (d, _) from e6)
      obtain ⟨t2, e9', e10'⟩ := lft_inv e8'
      cases e10'
      cases e9
      exact ⟨W3, F, μ3, ρ, S2, d3, _, st3, en.mono ((x1.trans x2).trans x3), e7', fun v4 H4 W4 μ4 x4 st4 r4 => ⟨W4, F, μ4, _, d2, d3, _, st4, (r2.m x3).m x4, r4, e9', fun H5 W5 μ5 x5 st5 => ⟨_, rfl, p H5 W5 μ5 ((((x1.trans x2).trans x3).trans x4).trans x5) st5⟩⟩⟩
end
end Rw

/-! M10: .. further -/
namespace Rw
open PySem PySem.Spec PyProof.Rows L2
section
variable {G : GT} {cl : Nat → List D → Sto → Rs D} {k : Nat} {Γ : Syn} {X : Cx}
/-- not a chain of and | or, and a plain test -/
theorem Eok.of {m : ME} {e : Expr} (h : PE X e (TR X.K (evE G cl m))) (hp : ∀ whole, isTrue e X.env whole = (do let v ← whole; standAt e.pos; holding [v] (truthy v)) := by intro _; rfl) (hb : ∀ op es pos, e ≠ .BoolOp op es pos := by intro _ _ _ q; cases q) : Eok G cl m X e := Eok.plain h hp hb
theorem PA.tr {es : MEs} {xs : List Expr} (h : PA X xs (TAR X.K (evEs G cl es))) : PA X xs (TAR X.K (evEs G cl es)) := h
theorem ta_nil : PA X [] (TAR X.K (evEs G cl .nil)) := pa_nil.weak (by
  rintro σ H Q ⟨W, F, μ, ρ, S, ds, S', st, en, e, p⟩
  cases e
  exact p [] H W μ Ext.refl st rfl)
theorem ta_cons {e : ME} {es : MEs} {x : Expr} {xs : List Expr} (ok : okX x = true) (h : PE X x (TR X.K (evE G cl e))) (hs : PA X xs (TAR X.K (evEs G cl es))) : PA X (x :: xs) (TAR X.K (evEs G cl (.cons e es))) := (pa_cons h hs (star_ok ok xs X.env)).weak (by
  rintro σ H Q ⟨W, F, μ, ρ, S, ds, S', st, en, e, p⟩
  obtain ⟨d1, S1, e1, e2⟩ := bnd_inv e
  obtain ⟨d2, S2, e3, e4⟩ := bnd_inv e2
  cases e4
  exact ⟨W, F, μ, ρ, S, d1, S1, st, en, e1, fun v1 H1 W1 μ1 x1 st1 r1 => ⟨W1, F, μ1, ρ, S1, d2, _, st1, en.mono x1, e3, fun v2 H2 W2 μ2 x2 st2 r2 => p _ H2 W2 μ2 (x1.trans x2) st2 ⟨v1, v2, rfl, r1.m x2, r2⟩⟩⟩)
theorem tr_tup {es : MEs} {xs : List Expr} {n : Nat} {pos : Pos} (h : PA X xs (TAR X.K (evEs G cl es))) : PE X (.Tuple xs n pos) (TR X.K (evE G cl (.tup es))) := (pe_tup h).weak (by
  rintro σ H Q ⟨W, F, μ, ρ, S, d, S', st, en, e, p⟩
  obtain ⟨ds, S1, e1, e2⟩ := bnd_inv e
  split at e2
  · rename_i c
    cases e2
    exact ⟨W, F, μ, ρ, S, ds, _, st, en, e1, fun vs H1 W1 μ1 x1 st1 r1 => ⟨by rw [r1.length]; exact c, (p.ext x1).tup st1 r1⟩⟩
  · cases e2)
theorem tr_lst {es : MEs} {xs : List Expr} {pos : Pos} (h : PA X xs (TAR X.K (evEs G cl es))) : PE X (.List xs pos) (TR X.K (evE G cl (.lst es))) := (pe_lst h).weak (by
  rintro σ H Q ⟨W, F, μ, ρ, S, d, S', st, en, e, p⟩
  obtain ⟨ds, S1, e1, e2⟩ := bnd_inv e
  split at e2
  · rename_i c
    cases e2
    exact ⟨W, F, μ, ρ, S, ds, _, st, en, e1, fun vs H1 W1 μ1 x1 st1 r1 => ⟨by rw [r1.length]; exact c, (p.ext x1).lst st1 r1⟩⟩
  · cases e2)
theorem tr_mlst {es : MEs} {xs : List Expr} {pos : Pos} (h : PA X xs (TAR X.K (evEs G cl es))) : PE X (.List xs pos) (TR X.K (evE G cl (.mlst es))) := (pe_lst h).weak (by
  rintro σ H Q ⟨W, F, μ, ρ, S, d, S', st, en, e, p⟩
  obtain ⟨ds, S1, e1, e2⟩ := bnd_inv e
  split at e2
  · rename_i c
    cases e2
    refine ⟨W, F, μ, ρ, S, ds, _, st, en, e1, fun vs H1 W1 μ1 x1 st1 r1 => ⟨by rw [r1.length]; exact c, fun a ha => ?_⟩⟩
    obtain ⟨st2, x2⟩ := st1.cell (.lst vs) (.lst ds) ha fun W' μ' x => ⟨vs, upd_same, r1.m x⟩
    exact p _ _ _ _ (x1.trans x2) st2 ⟨a, by rw [← st1.len]; simp, rfl⟩
  · cases e2)
theorem tr_madd {a b : ME} {x y : Expr} {pos : Pos} (ha : PE X x (TR X.K (evE G cl a))) (hb : PE X y (TR X.K (evE G cl b))) : PE X (.BinOp x .Add y pos) (TR X.K (evE G cl (.madd a b))) := by
  refine (pe_op op_cat ha hb).weak ?_
  rintro σ H Q ⟨W, F, μ, ρ, S, d, S', st, en, e, p⟩
  obtain ⟨d1, S1, e1, e2⟩ := bnd_inv e
  obtain ⟨d2, S2, e3, e4⟩ := bnd_inv e2
  split at e4
  · split at e4
    · rename_i xs ys c
      cases e4
      refine ⟨W, F, μ, ρ, S, .lst xs, S1, st, en, e1, fun v1 H1 W1 μ1 x1 st1 r1 => ⟨W1, F, μ1, ρ, S1, .lst ys, _, st1, en.mono x1, e3, fun v2 H2 W2 μ2 x2 st2 r2 => ?_⟩⟩
      obtain ⟨a, vs, rfl, h1, q1⟩ := r1.m x2
      obtain ⟨b, us, rfl, h2, q2⟩ := r2
      refine ⟨a, b, vs, us, rfl, rfl, st2.sub _ _ h1, st2.sub _ _ h2, by rw [q1.length, q2.length]; exact c, fun z hz => ?_⟩
      obtain ⟨st3, x3⟩ := st2.cell (.lst (vs ++ us)) (.lst (xs ++ ys)) hz fun W' μ' x => ⟨vs ++ us, upd_same, (q1.app q2).m x⟩
      exact p _ _ _ _ ((x1.trans x2).trans x3) st3 ⟨z, by rw [← st2.len]; simp, rfl⟩
    · cases e4
  · cases e4
theorem tr_neg {a : ME} {x : Expr} {pos : Pos} (h : PE X x (TR X.K (evE G cl a))) : PE X (.UnaryOp .USub x pos) (TR X.K (evE G cl (.neg a))) := (pe_un un_neg h).weak (by
  rintro σ H Q ⟨W, F, μ, ρ, S, d, S', st, en, e, p⟩
  obtain ⟨d1, S1, e1, e2⟩ := bnd_inv e
  cases d1 with
  | int i =>
    cases e2
    refine ⟨W, F, μ, ρ, S, .int i, _, st, en, e1, fun v H1 W1 μ1 x1 st1 r1 => ?_⟩
    cases (show v = _ from r1)
    exact ⟨i, rfl, (p.ext x1).int st1⟩
  | _ => cases e2)
theorem tr_var (y : Sy Γ X) {i : Nat} {x : Str} {pos : Pos} (h : visB Γ i x = true) : PE X (.Name x pos) (TR X.K (evE G cl (.var i))) := (vis_ok y h).weak (by
  rintro σ H Q ⟨W, F, μ, ρ, S, d, S', st, en, e, p⟩
  cases c : ρ[i]? with
  | none => simp only [evE, c] at e; cases e
  | some q =>
    cases q with
    | none => simp only [evE, c] at e; cases e
    | some d' =>
      simp only [evE, c] at e
      cases e
      obtain ⟨v, h1, h2⟩ := en.2 i _ c
      exact ⟨v, h1, p.same st h2⟩)
theorem tr_const {m : ME} {d : D} {v : V} {e : Expr} (h : PE X e (tC v)) (hd : ∀ ρ S, evE G cl m ρ S = some (d, S)) (hr : ∀ W μ, Rep X.K W μ d v) : PE X e (TR X.K (evE G cl m)) := h.weak (by
  rintro σ H Q ⟨W, F, μ, ρ, S, d', S', st, en, e, p⟩
  rw [hd] at e
  cases e
  exact p.same st (hr W μ))
/-- a part of a slice -/
def TOR (K : PySem.W.Frag) (ev : Env → Sto → Rs (Option Int)) : TO := fun σ H Q => ∃ W F μ ρ S o S', Stt K W F μ S H ∧ EnvR K W μ ρ σ ∧ ev ρ S = some (o, S') ∧ ∀ H' W' μ', Ext W μ W' μ' → Stt K W' F μ' S' H' → Q o H'
theorem _root_.L2.PO.weak {e : Option Expr} {t t' : TO} (h : PO X e t) (w : ∀ σ H Q, t' σ H Q → t σ H Q) : PO X e t' := ⟨fun pins s σ H Q I q => h.run pins s σ H Q I (w σ H Q q)⟩
theorem to_none : PO X none (TOR X.K (evO G cl .none)) := po_none.weak (by
  rintro σ H Q ⟨W, F, μ, ρ, S, d, S', st, en, e, p⟩
  cases e
  exact p H W μ Ext.refl st)
theorem to_some {a : ME} {x : Expr} (h : PE X x (TR X.K (evE G cl a))) : PO X (some x) (TOR X.K (evO G cl (.some a))) := (po_some h).weak (by
  rintro σ H Q ⟨W, F, μ, ρ, S, d, S', st, en, e, p⟩
  obtain ⟨d1, S1, e1, e2⟩ := bnd_inv e
  cases d1 with
  | int i =>
    cases e2
    refine ⟨W, F, μ, ρ, S, .int i, _, st, en, e1, fun v H1 W1 μ1 x1 st1 r1 => ?_⟩
    cases (show v = _ from r1)
    exact ⟨i, rfl, p H1 W1 μ1 x1 st1⟩
  | _ => cases e2)
theorem tr_sl {a : ME} {lo hi : MO} {x : Expr} {l h : Option Expr} {p2 pos : Pos} (ha : PE X x (TR X.K (evE G cl a))) (hl : PO X l (TOR X.K (evO G cl lo))) (hh : PO X h (TOR X.K (evO G cl hi))) :
    PE X (.Subscript x (.Slice l h none p2) pos) (TR X.K (evE G cl (.sl a lo hi))) := (pe_slice sl_any ha hl hh).weak (by
  rintro σ H Q ⟨W, F, μ, ρ, S, d, S', st, en, e, p⟩
  obtain ⟨d1, S1, e1, e2⟩ := bnd_inv e
  obtain ⟨o1, S2, e3, e4⟩ := bnd_inv e2
  obtain ⟨o2, S3, e5, e6⟩ := bnd_inv e4
  obtain ⟨r, e7, e8⟩ := lft_inv e6
  cases e8
  exact ⟨W, F, μ, ρ, S, d1, S1, st, en, e1, fun v H1 W1 μ1 x1 st1 r1 => ⟨W1, F, μ1, ρ, S1, o1, S2, st1, en.mono x1, e3, fun H2 W2 μ2 x2 st2 => ⟨W2, F, μ2, ρ, S2, o2, _, st2, en.mono (x1.trans x2), e5, fun H3 W3 μ3 x3 st3 =>
    ⟨W3, F, μ3, _, d1, d, st3, r1.m (x2.trans x3), e7, p.ext ((x1.trans x2).trans x3)⟩⟩⟩⟩)
/-! xs[:hi:-1] -/
theorem pick_back (xs : List Value) : ∀ c, c ≤ xs.length → ((List.range c).map fun k => xs.length - 1 - k).filterMap (fun j => xs[j]?) = xs.reverse.take c
  | 0, _ => by simp
  | c + 1, h => by
    have h1 : xs.length - 1 - c < xs.length := by omega
    rw [List.range_succ, List.map_append, List.filterMap_append, pick_back xs c (by omega), List.take_add_one]
    congr 1
    simp only [List.map_cons, List.map_nil, List.filterMap_cons, List.filterMap_nil]
    rw [List.getElem?_reverse (by omega), List.getElem?_eq_getElem h1]
    rfl
theorem pick_backI (items : Array Value) (i : Int) (h : 0 ≤ i) : slicePick items none (some i) (some (-1)) = (items.toList.drop (i.toNat + 1)).reverse.toArray := by
  have hs : items.size = items.toList.length := by simp
  have hb : sliceBounds none (some i) (some (-1)) items.size = ((items.size : Int) - 1, max (-1) (min i ((items.size : Int) - 1)), -1) := by
    have h0 : ¬ i < 0 := by omega
    simp [sliceBounds, h0]
  unfold slicePick
  rw [hb]
  show ((sliceRange ((items.size : Int) - 1) (max (-1) (min i ((items.size : Int) - 1))) (-1)).filterMap (items[·]?)).toArray = _
  have hr : sliceRange ((items.size : Int) - 1) (max (-1) (min i ((items.size : Int) - 1))) (-1) = (List.range (items.size - (i.toNat + 1))).map fun k => items.size - 1 - k := by
    unfold sliceRange
    have h1 : ¬ ((-1 : Int) > 0) := by decide
    by_cases c : (items.size : Int) - 1 > max (-1) (min i ((items.size : Int) - 1))
    · have e : (((items.size : Int) - 1 - max (-1) (min i ((items.size : Int) - 1)) - -1 - 1) / (- -1)) = ((items.size - (i.toNat + 1) : Nat) : Int) := by
        rw [show (- -1 : Int) = 1 by decide, Int.ediv_one]
        omega
      simp only [h1, if_false, c, if_true, e, Int.toNat_natCast]
      apply List.map_congr_left
      intro k hk
      have := List.mem_range.mp hk
      omega
    · have e : items.size - (i.toNat + 1) = 0 := by omega
      rw [e]
      simp only [h1, if_false, c]
      rfl
  rw [hr]
  have e2 : (fun j : Nat => items[j]?) = fun j : Nat => items.toList[j]? := by
    funext j
    simp
  rw [e2, hs, pick_back items.toList _ (by omega), List.take_reverse]
  by_cases c : i.toNat + 1 ≤ items.toList.length
  · rw [show items.toList.length - (items.toList.length - (i.toNat + 1)) = i.toNat + 1 by omega]
  · rw [List.drop_eq_nil_of_le (show items.toList.length ≤ i.toNat + 1 by omega), List.drop_eq_nil_of_le (show items.toList.length ≤ items.toList.length - (items.toList.length - (i.toNat + 1)) by omega)]
section
variable {prog : Program} {w : World} {A : Around} {E : Value → Shared → Prop} {s : Shared}
theorem sliceApplied_rev {sl : Addr} {vl vu vs : Value} {n : Nat} {Q : Int × Int × Nat → Shared → Prop} (hs : s.heap.IsSliceOf sl vl vu vs) (pl : IsPart vl none) (pu : IsPart vu none) (ps : IsPart vs (some (-1)))
    (h : Q ((n : Int) - 1, -1, n) s) : wpAny (model prog w) A (Builtin.Slice.sliceApplied (.ref sl) (pure (n : Int))) Q E s := by
  obtain ⟨os, hos, hcs, hds⟩ := id hs
  unfold Builtin.Slice.sliceApplied Builtin.Slice.sliceFields
  refine wpAny_bind (wpAny_bind (wpAny_field hos hds (x := vl) rfl (wpAny_bind (wpAny_field hos hds (x := vu) rfl (wpAny_bind (wpAny_field hos hds (x := vs) rfl (wpAny_pure ?_)))))))
  refine wpAny_bind (HT.slicePart_ ps ?_)
  show wpAny _ _ (if ((-1 : Int) == 0) = true then _ else _) _ _ s
  rw [if_neg (by decide)]
  refine wpAny_bind (HT.slicePart_ pl (wpAny_bind (HT.slicePart_ pu (wpAny_bind (wpAny_pure ?_)))))
  show wpAny _ _ (match Builtin.Slice.sliceAdjust none none (-1) (n : Int) with | (lo, hi) => pure (lo, (-1 : Int), Builtin.Slice.slicePlaces lo hi (-1))) _ _ s
  have e1 : Builtin.Slice.sliceAdjust none none (-1) (n : Int) = ((n : Int) - 1, -1) := rfl
  rw [e1]
  show wpAny _ _ (pure ((n : Int) - 1, (-1 : Int), Builtin.Slice.slicePlaces ((n : Int) - 1) (-1) (-1))) _ _ s
  have e2 : Builtin.Slice.slicePlaces ((n : Int) - 1) (-1) (-1) = n := by
    unfold Builtin.Slice.slicePlaces
    have h1 : ¬ ((-1 : Int) > 0) := by decide
    simp only [h1, if_false]
    rw [show (- (-1 : Int)) = 1 by decide, Int.ediv_one]
    split <;> omega
  rw [e2]
  exact wpAny_pure h
theorem pick_revT (xs : Array Value) : ((List.range xs.size).filterMap fun (k : Nat) => xs[(((xs.size : Int) - 1) + (k : Int) * (-1)).toNat]?).toArray = xs.toList.reverse.toArray := by
  have hs : xs.size = xs.toList.length := by simp
  have e : (List.range xs.size).filterMap (fun (k : Nat) => xs[(((xs.size : Int) - 1) + (k : Int) * (-1)).toNat]?) = ((List.range xs.size).map fun k => xs.toList.length - 1 - k).filterMap (fun j => xs.toList[j]?) := by
    rw [List.filterMap_map]
    congr 1
    funext k
    show _ = xs.toList[xs.toList.length - 1 - k]?
    rw [Array.getElem?_toList]
    congr 1
    rw [← hs]
    omega
  rw [e, hs, pick_back _ _ (Nat.le_refl _), List.take_of_length_le (by simp)]
theorem getItem_tuple_rev {t sl : Addr} {items : Array Value} {vl vu vs : Value} {Q : Value → Shared → Prop} (ht : IsTup s.heap t items) (hs : s.heap.IsSliceOf sl vl vu vs) (pl : IsPart vl none) (pu : IsPart vu none) (ps : IsPart vs (some (-1)))
    (h : Q (.ref s.heap.objs.size) { s with heap := s.heap.push { cls := .type "tuple", data := .seq items.toList.reverse.toArray } })
    (hsz : items.size ≤ sizeLine) : wpAny (model prog w) A (getItem (.ref t) (.ref sl)) Q E s := by
  have htake : sizeOk (.seq items.toList.reverse.toArray) := by
    show items.toList.reverse.toArray.size ≤ sizeLine
    rw [List.size_toArray, List.length_reverse, Array.length_toList]
    exact hsz
  obtain ⟨os, hos, hcs, hds⟩ := id hs
  have hTs : s.TypeIs (.ref sl) "slice" := ⟨os, hos, hcs⟩
  unfold getItem
  try with_reducible refine wpAny_holding ?_
  first | refine wpAny_bind (wpAny_pure ?_) | skip
  refine wpAny_bind (wpAny_sequenceKey ht.typeIs (by decide) ?_)
  refine wpAny_bind (wpAny_callSpecial?_slot (name := Str.ofString "__getitem__") ht.typeIs PyProof.Rows.slot_tuple_getitem
    (wpAny_call_entry PyProof.Rows.slot_tuple_getitem ht.typeIs PyProof.Rows.entry_tuple_getitem ?_ (PyProof.Rows.args_tuple_getitem _ _)))
  show wpAny _ _ (Builtin.Tuple.tupleItemsOf (.ref t) >>= _) _ _ s
  refine wpAny_bind (tupleItemsOf_ ht ?_)
  refine wpAny_bind (wpAny_typeOf hTs ?_)
  rw [if_pos (by decide)]
  refine wpAny_bind (sliceApplied_rev hs pl pu ps ?_)
  have hno : ¬ ((((items.size : Int) - 1) == 0 && (-1 : Int) == 1 && items.size == items.size) = true) := by
    intro q
    rw [Bool.and_eq_true, Bool.and_eq_true] at q
    exact absurd q.1.2 (by decide)
  show wpAny _ _ (if (((items.size : Int) - 1) == 0 && (-1 : Int) == 1 && items.size == items.size) = true then _ else _) _ _ s
  rw [if_neg hno, pick_revT]
  first
    | exact wpAny_bind (m := Builtin.Tuple.tupleExact _) (wpAny_newObj_type (wpAny_pure ⟨_, rfl, wpAny_pure h⟩) htake)
    | exact wpAny_bind (m := Builtin.Tuple.tupleExact _) (wpAny_newObj_type (wpAny_bind (wpAny_pure (wpAny_pure ⟨_, rfl, wpAny_pure h⟩))) htake)
    | exact wpAny_bind (wpAny_bind (m := Builtin.Tuple.tupleExact _) (wpAny_newObj_type (wpAny_pure (wpAny_pure ⟨_, rfl, wpAny_pure h⟩)) htake))
    | exact wpAny_bind (wpAny_bind (m := Builtin.Tuple.tupleExact _) (wpAny_newObj_type (wpAny_pure ⟨_, rfl, wpAny_pure h⟩) htake))
end
def tSlR (K : PySem.W.Frag) (te : TE) (th : TO) : TE := fun σ H Q => te σ H fun x H1 => th σ H1 fun u H2 => (∃ a xs, x = .ref a ∧ SqT K H2 a xs ∧ u = none ∧ ∀ p, H2 p = none → Q (.ref p) (upd H2 p (.tup xs.reverse))) ∨ ∃ a xs ys, x = .ref a ∧ SqL K H2 a xs ∧ ((u = none ∧ ys = xs.reverse) ∨ ∃ i, u = some i ∧ 0 ≤ i ∧ ys = (xs.drop (i.toNat + 1)).reverse) ∧ ∀ p, H2 p = none → Q (.ref p) (upd H2 p (.lst ys))
theorem pe_slR {X : Cx} {e : Expr} {hi : Option Expr} {te : TE} {th : TO} {k : Nat} {p1 p2 p3 pos : Pos} (he : PE X e te) (hu : PO X hi th) : PE X (.Subscript e (.Slice none hi (some (.UnaryOp .USub (.Constant (.int 1) k p1) p2)) p3) pos) (tSlR X.K te th) := by
  refine ⟨fun pins s σ H Q I h => ?_⟩
  refine Subscript_ (thn (he.run pins s σ H _ I h) fun v s1 ⟨x, H1, I1, r1, q1⟩ => ?_)
  have hst : PO X (some (.UnaryOp .USub (.Constant (.int 1) k p1) p2)) (tPart (tUn (rU fun i => .int (-i)) (tC (.int 1)))) := po_some (pe_un un_neg pe_int)
  refine wpAny_Slice (thn (po_none.run pins s1 σ H1 (fun o H2 => o = none ∧ H2 = H1) I1 ⟨rfl, rfl⟩) fun vl s2 ⟨l, H2, I2, pl, el, e2⟩ => ?_)
  subst el e2
  refine thn (hu.run pins s2 σ H2 _ I2 q1) fun vu s3 ⟨u, H3, I3, pu, q2⟩ => ?_
  rcases q2 with ⟨a, xs, ex, hx, eu, q⟩ | ⟨a, xs, ys, ex, hx, hy, q⟩
  · subst ex eu
    cases r1
    refine thn (hst.run pins s3 σ H3 (fun o H4 => o = some (-1) ∧ H4 = H3) I3 ⟨1, rfl, -1, rfl, rfl, rfl⟩) fun vs s4 ⟨o, H4, I4, ps, eo, e4⟩ => ?_
    subst eo e4
    have I5 : Inv X pins σ H4 { s4 with heap := s4.heap.push { cls := .type "slice", data := .fields #[vl, vu, vs] } } := I4.kept (t' := s4.toks) fun b ob q => Heap.get?_push_of_some _ q
    obtain ⟨its, r, ht, hz⟩ := I5.tuple hx
    have hlen := r.length
    show wpAny (model X.prog X.w) X.A (subscriptTail e (.Slice none hi (some (.UnaryOp .USub (.Constant (.int 1) k p1) p2)) p3) (.ref a) (.ref s4.heap.objs.size)) (EP X pins σ Q) X.xe { s4 with heap := s4.heap.push { cls := .type "slice", data := .fields #[vl, vu, vs] } }
    refine tail_any (ops := [.ref a, .ref s4.heap.objs.size]) ht.typeIs (PyProof.Rows.slot_tuple_getitem.lookup) ?_ (by with_unfolding_all rfl)
    refine getItem_tuple_rev ht (Heap.IsSliceOf.new _ vl vu vs) pl pu ps ?_ (by rw [List.size_toArray]; omega)
    refine ⟨.ref _, _, I5.laid (t' := s4.toks) (o := .tup xs.reverse) (fun b ob q => Heap.get?_push_of_some _ q) (Nat.le_refl _) ?_, rfl, q _ (I5.hok.fresh (Nat.le_refl _))⟩
    exact ⟨by rw [List.length_reverse]; exact hz, _, r.reverse, _, Heap.get?_push_size _ rfl, rfl, 0, rfl⟩
  subst ex
  cases r1
  refine thn (hst.run pins s3 σ H3 (fun o H4 => o = some (-1) ∧ H4 = H3) I3 ⟨1, rfl, -1, rfl, rfl, rfl⟩) fun vs s4 ⟨o, H4, I4, ps, eo, e4⟩ => ?_
  subst eo e4
  have I5 : Inv X pins σ H4 { s4 with heap := s4.heap.push { cls := .type "slice", data := .fields #[vl, vu, vs] } } := I4.kept (t' := s4.toks) fun b ob q => Heap.get?_push_of_some _ q
  obtain ⟨its, r, ht, hz⟩ := I5.list hx
  have hlen := r.length
  show wpAny (model X.prog X.w) X.A (subscriptTail e (.Slice none hi (some (.UnaryOp .USub (.Constant (.int 1) k p1) p2)) p3) (.ref a) (.ref s4.heap.objs.size)) (EP X pins σ Q) X.xe { s4 with heap := s4.heap.push { cls := .type "slice", data := .fields #[vl, vu, vs] } }
  refine tail_any (ops := [.ref a, .ref s4.heap.objs.size]) ht.isList.typeIs (PySem.slot_list_getitem.lookup) ?_ (by with_unfolding_all rfl)
  refine wpAny_getItem_list_slice ht.isList (Heap.IsSliceOf.new _ vl vu vs) pl pu ps (by decide) ?_ (by rw [List.size_toArray]; omega)
  rcases hy with ⟨rfl, rfl⟩ | ⟨i, rfl, h0, rfl⟩
  · rw [PySem.W.krv_pick]
    refine ⟨.ref _, _, I5.laid (t' := s4.toks) (o := .lst xs.reverse) (fun b ob q => Heap.get?_push_of_some _ q) (Nat.le_refl _) ?_, rfl, q _ (I5.hok.fresh (Nat.le_refl _))⟩
    exact ⟨by rw [List.length_reverse]; exact hz, _, 0, r.reverse, Heap.get?_push_size _ rfl⟩
  · rw [pick_backI _ _ h0]
    refine ⟨.ref _, _, I5.laid (t' := s4.toks) (o := .lst (xs.drop (i.toNat + 1)).reverse) (fun b ob q => Heap.get?_push_of_some _ q) (Nat.le_refl _) ?_, rfl, q _ (I5.hok.fresh (Nat.le_refl _))⟩
    exact ⟨by rw [List.length_reverse, List.length_drop]; omega, _, 0, (r.drop (i.toNat + 1)).reverse, Heap.get?_push_size _ rfl⟩
theorem tr_slR {a : ME} {hi : MO} {x : Expr} {h : Option Expr} {k' : Nat} {p1 p2 p3 pos : Pos} (ha : PE X x (TR X.K (evE G cl a))) (hh : PO X h (TOR X.K (evO G cl hi))) :
    PE X (.Subscript x (.Slice none h (some (.UnaryOp .USub (.Constant (.int 1) k' p1) p2)) p3) pos) (TR X.K (evE G cl (.slR a hi))) := (pe_slR ha hh).weak (by
  rintro σ H Q ⟨W, F, μ, ρ, S, d, S', st, en, e, p⟩
  obtain ⟨d1, S1, e1, e2⟩ := bnd_inv e
  obtain ⟨o2, S3, e5, e6⟩ := bnd_inv e2
  obtain ⟨r, e7, e8⟩ := lft_inv e6
  cases e8
  refine ⟨W, F, μ, ρ, S, d1, S1, st, en, e1, fun v H1 W1 μ1 x1 st1 r1 => ⟨W1, F, μ1, ρ, S1, o2, _, st1, en.mono x1, e5, fun H3 W3 μ3 x3 st3 => ?_⟩⟩
  by_cases ct : ∃ xs, d1 = .tup xs
  · obtain ⟨xs, rfl⟩ := ct
    cases o2 with
    | some _ => cases e7
    | none =>
      cases e7
      obtain ⟨a, vs, rfl, h1, h2⟩ := r1.m x3
      exact .inl ⟨a, vs, rfl, st3.sqT h1, rfl, (p.ext (x1.trans x3)).tup st3 h2.reverse⟩
  have e7 : slRL S' d1 o2 = some d := by
    cases d1 <;> first | exact e7 | exact absurd ⟨_, rfl⟩ ct
  refine .inr ?_
  cases q : lstOf S' d1 with
  | none => simp only [slRL, q] at e7; cases e7
  | some xs =>
    obtain ⟨a, vs, rfl, h1, h2⟩ := lst_of st3 (r1.m x3) q
    cases o2 with
    | none =>
      simp only [slRL, q] at e7
      cases e7
      exact ⟨a, vs, vs.reverse, rfl, h1, .inl ⟨rfl, rfl⟩, (p.ext (x1.trans x3)).lst st3 h2.reverse⟩
    | some i =>
      simp only [slRL, q, Option.bind_some] at e7
      split at e7
      · rename_i c
        cases e7
        exact ⟨a, vs, _, rfl, h1, .inr ⟨i, rfl, c, rfl⟩, (p.ext (x1.trans x3)).lst st3 (h2.drop _).reverse⟩
      · cases e7)
theorem tr_call (gd : Good G cl k Γ X) {g : Nat} {f : Fn} {es : MEs} {x : Str} {xs : List Expr} {p pos : Pos} (hg : G[g]? = some (x, .fn f)) (hgl : Gl X x) (hdb : (x == ("__debug__" : Str)) = false) (hx : chkEs G es Γ xs = true) (h : PA X xs (TAR X.K (evEs G cl es))) :
    PE X (.Call (.Name x p) xs [] pos) (TR X.K (evE G cl (.call g es))) := by
  obtain ⟨a, fd, ps, hm, hk, hb, F⟩ := gd.gf.fn g x f hg
  have w : ∀ σ H Q, TR X.K (evE G cl (.call g es)) σ H Q → tCall (spOf X.K f.np (cl g)) [] E0 (TAR X.K (evEs G cl es)) σ H Q := by
    rintro σ H Q ⟨W, F, μ, ρ, S, d, S', st, en, e, p⟩
    obtain ⟨ds, S1, e1, e2⟩ := bnd_inv e
    refine ⟨W, F, μ, ρ, S, ds, S1, st, en, e1, fun vs H1 W1 μ1 x1 st1 r1 => ?_⟩
    show spOf X.K f.np (cl g) (vs ++ []) H1 Q E0
    rw [List.append_nil]
    exact ⟨r1.length.trans (gd.gf.len g x f ds S1 _ hg e2), W1, F, μ1, S1, ds, d, S', st1, r1, e2, p.ext x1⟩
  cases xs with
  | nil =>
    cases es with
    | cons _ _ => cases hx
    | nil =>
      refine (pe_call0 F gd.room hgl hm hk hb .nil pass0 hdb).weak fun σ H Q q => ?_
      obtain ⟨W, F, μ, ρ, S, d, S', st, en, e, p⟩ := q
      have e : cl g [] S = some (d, S') := e
      show spOf X.K f.np (cl g) ([] ++ []) H Q E0
      exact ⟨(gd.gf.len g x f [] S _ hg e), W, F, μ, S, [], d, S', st, rfl, e, p⟩
  | cons y ys =>
    cases es with
    | nil => cases hx
    | cons e1 es' =>
      obtain ⟨ok, h2⟩ := bk (show (okX y && (chkE G e1 Γ y && chkEs G es' Γ ys)) = true from hx)
      exact (pe_call F gd.room hgl hm hk hb .nil pass0 h hdb (star_ok ok ys X.env) (stars_any (bk h2).2).1).weak w
theorem tr_bi (gd : Good G cl k Γ X) {g : Nat} {b : BI} {es : MEs} {xs : List Expr} {p pos : Pos} (hg : G[g]? = some (biName b, .blt)) (hgl : Gl X (biName b)) (hx : chkEs G es Γ xs = true) (hne : xs.isEmpty = false) (h : PA X xs (TAR X.K (evEs G cl es))) :
    PE X (.Call (.Name (biName b) p) xs [] pos) (TR X.K (evE G cl (.bi b g es))) := by
  have hm := gd.gf.blt g _ hg
  have w : ∀ σ H Q, TR X.K (evE G cl (.bi b g es)) σ H Q → tCB (rBi X.K b) (TAR X.K (evEs G cl es)) σ H Q := by
    rintro σ H Q ⟨W, F, μ, ρ, S, d, S', st, en, e, p⟩
    obtain ⟨ds, S1, e1, e2⟩ := bnd_inv e
    obtain ⟨r, e3, e4⟩ := lft_inv e2
    cases e4
    exact ⟨W, F, μ, ρ, S, ds, _, st, en, e1, fun vs H1 W1 μ1 x1 st1 r1 => ⟨W1, F, μ1, _, ds, d, st1, r1, e3, p.ext x1⟩⟩
  cases xs with
  | nil => cases hne
  | cons y ys =>
    cases es with
    | nil => cases hx
    | cons e1 es' =>
      obtain ⟨ok, h2⟩ := bk (show (okX y && (chkE G e1 Γ y && chkEs G es' Γ ys)) = true from hx)
      have s1 := star_ok ok ys X.env
      have s2 := (stars_any (pos := pos) (env := X.env) (bk h2).2).1
      have hv := bi_boot b
      have hc := bi_call (X := X) gd.calm b
      have go1 : ∀ id, biVal b = .builtin id → PE X (.Call (.Name (biName b) p) (y :: ys) [] pos) (tCB (rBi X.K b) (TAR X.K (evEs G cl (.cons e1 es')))) := fun id e => by
        rw [e] at hv hc
        exact pe_callB hc hgl hm hv h (by cases b <;> decide) (by cases b <;> decide) s1 s2
      have go2 : ∀ T, biVal b = .type T → PE X (.Call (.Name (biName b) p) (y :: ys) [] pos) (tCB (rBi X.K b) (TAR X.K (evEs G cl (.cons e1 es')))) := fun T e => by
        rw [e] at hv hc
        exact pe_callTy hc hgl hm hv h (by cases b <;> decide) (by cases b <;> decide) s1 s2
      refine L2.PE.weak ?_ w
      cases b <;> first | exact go1 _ rfl | exact go2 _ rfl
theorem tr_isI (gd : Good G cl k Γ X) {g h' : Nat} {n : String} {a : ME} {y : Expr} {t : Str} {p p2 pos : Pos} (hg : G[g]? = some (("isinstance" : Str), GK.blt)) (hgl : Gl X "isinstance") (hh : G[h']? = some (t, .blt)) (hhl : Gl X t) (hdb : (t == ("__debug__" : Str)) = false) (hnm : t ≠ "__name__")
    (hb : bootBuiltins t = some (.type n)) (ok : okX y = true) (h : PE X y (TR X.K (evE G cl a))) : PE X (.Call (.Name "isinstance" p) [y, .Name t p2] [] pos) (TR X.K (evE G cl (.isI g h' n a))) := by
  have hm := gd.gf.blt g _ hg
  have hm2 := gd.gf.blt h' _ hh
  refine (pe_callB (call_isi (X := X)) hgl hm (by decide +kernel) (pa_cons h (pa_cons (pe_bltn (v := .ty n) hhl hm2 hb rfl hnm hdb) pa_nil (by rfl)) (star_ok ok _ X.env)) (by decide) (by decide) (star_ok ok _ X.env) (by rfl)).weak ?_
  rintro σ H Q ⟨W, F, μ, ρ, S, d, S', st, en, e, p⟩
  obtain ⟨d1, S1, e1, e2⟩ := bnd_inv e
  obtain ⟨tn, e3, e4⟩ := lft_inv e2
  obtain ⟨b, e5, e6⟩ := lft_inv e4
  cases e6
  exact ⟨W, F, μ, ρ, S, d1, _, st, en, e1, fun v H1 W1 μ1 x1 st1 r1 => ⟨v, .ty n, .type tn, .type n, b, rfl, .ty n, ty_rep st1 r1 e3, kit_ty e5, (p.ext x1).blv st1⟩⟩
theorem tr_meth (gd : Good G cl k Γ X) {m : MT} {o : ME} {es : MEs} {y : Expr} {xs : List Expr} {ap pos : Pos} (hc : noCall y = true) (hl : (ap.endLine == pos.line) = true) (h30 : xs.length < 30) (ho : PE X y (TR X.K (evE G cl o))) (hx : chkEs G es Γ xs = true) (h : PA X xs (TAR X.K (evEs G cl es))) :
    PE X (.Call (.Attribute y (mtName m) ap) xs [] pos) (TR X.K (evE G cl (.meth m o es))) := by
  have w : ∀ σ H Q, TR X.K (evE G cl (.meth m o es)) σ H Q → tBM X.K "list" (rMt X.K m) (TR X.K (evE G cl o)) (TAR X.K (evEs G cl es)) σ H Q := by
    rintro σ H Q ⟨W, F, μ, ρ, S, d, S', st, en, e, p⟩
    obtain ⟨d1, S1, e1, e2⟩ := bnd_inv e
    obtain ⟨ys, e3, e4⟩ := lft_inv e2
    obtain ⟨ds, S2, e5, e6⟩ := bnd_inv e4
    refine ⟨W, F, μ, ρ, S, d1, S1, st, en, e1, fun v H1 W1 μ1 x1 st1 r1 => ⟨?_, W1, F, μ1, ρ, S1, ds, S2, st1, en.mono x1, e5, fun vs H2 W2 μ2 x2 st2 r2 => ⟨W2, F, μ2, S2, d1, ds, d, S', st2, r1.m x2, r2, e6, p.ext (x1.trans x2)⟩⟩⟩
    obtain ⟨a, vs, rfl, h1, _⟩ := lst_of st1 r1 e3
    exact Or.inl ⟨rfl, vs, h1⟩
  have pa := PySem.F.plainAttrs_list
  cases xs with
  | nil =>
    cases es with
    | cons _ _ => cases hx
    | nil =>
      have go : ∀ {name : Str} {id : String}, name = mtName m → id = mtId m → Slot "list" name id → typeOf (.builtin id) = pure (.type "method_descriptor") → PE X (.Call (.Attribute y (mtName m) ap) [] [] pos) (TR X.K (evE G cl (.meth m o .nil))) := fun {name id} e1 e2 sl ty => by
        subst e1 e2
        refine (pe_bm0 pa sl ty (mt_call m) ho (base_ok hc _ _ _) hl).weak fun σ H Q q => ?_
        obtain ⟨W, F, μ, ρ, S, d, S', st, en, e, p⟩ := q
        obtain ⟨d1, S1, e1, e2⟩ := bnd_inv e
        obtain ⟨ys, e3, e4⟩ := lft_inv e2
        have e6 : methD m S1 d1 [] = some (d, S') := e4
        refine ⟨W, F, μ, ρ, S, d1, S1, st, en, e1, fun v H1 W1 μ1 x1 st1 r1 => ⟨?_, W1, F, μ1, S1, d1, [], d, S', st1, r1, rfl, e6, p.ext x1⟩⟩
        obtain ⟨a, vs, rfl, h1, _⟩ := lst_of st1 r1 e3
        exact Or.inl ⟨rfl, vs, h1⟩
      cases m
      · exact go rfl rfl PySem.F.slot_list_append PySem.F.type_list_append
      · exact go rfl rfl PySem.F.slot_list_pop PySem.F.type_list_pop
      · exact go rfl rfl PySem.F.slot_list_extend PySem.F.type_list_extend
  | cons z zs =>
    cases es with
    | nil => cases hx
    | cons e1 es' =>
      obtain ⟨ok, h2⟩ := bk (show (okX z && (chkE G e1 Γ z && chkEs G es' Γ zs)) = true from hx)
      have s1 := star_ok ok zs X.env
      have s2 := (stars_any (pos := pos) (env := X.env) (bk h2).2).1
      have s3 : ((backTo pos (starEach (z :: zs) X.env)).all (fun x => !x.1) && (backToKw pos (keywordEach [] X.env)).all (fun x => x.1.isSome) && decide ((z :: zs).length + ([] : List Keyword).length + (if ([] : List Keyword).isEmpty then 0 else 1) < 30)) = true := by
        rw [(stars_any (pos := pos) (env := X.env) hx).2]
        have : decide ((z :: zs).length + ([] : List Keyword).length + (if ([] : List Keyword).isEmpty then 0 else 1) < 30) = true := decide_eq_true (by simpa using h30)
        rw [this]
        rfl
      have go : ∀ {name : Str} {id : String}, name = mtName m → id = mtId m → Slot "list" name id → typeOf (.builtin id) = pure (.type "method_descriptor") → PE X (.Call (.Attribute y (mtName m) ap) (z :: zs) [] pos) (TR X.K (evE G cl (.meth m o (.cons e1 es')))) := fun {name id} q1 q2 sl ty => by
        subst q1 q2
        exact (pe_bm pa sl ty (mt_call m) ho h (base_ok hc _ _ _) s3 hl s1 s2).weak w
      cases m
      · exact go rfl rfl PySem.F.slot_list_append PySem.F.type_list_append
      · exact go rfl rfl PySem.F.slot_list_pop PySem.F.type_list_pop
      · exact go rfl rfl PySem.F.slot_list_extend PySem.F.type_list_extend
end
end Rw

/-! M11: displays of dicts, comprehensions, all expressions -/
namespace Rw
open PySem PySem.Spec PyProof.Rows L2
section
variable {G : GT} {cl : Nat → List D → Sto → Rs D} {k : Nat} {Γ : Syn} {X : Cx}
/-! ### dicts -/
theorem RepKV.nil {K : PySem.W.Frag} {W : Hp} {μ : List Addr} : RepKV K W μ [] [] := ⟨rfl, rfl⟩
theorem RepKV.cons {K : PySem.W.Frag} {W : Hp} {μ : List Addr} {q : Key} {d : D} {v : V} {kvs : List (Key × D)} {ws : List (Key × V)} (hd : Rep K W μ d v) (h : RepKV K W μ kvs ws) : RepKV K W μ ((q, d) :: kvs) ((q, v) :: ws) :=
  ⟨by simp [h.1], ⟨v, _, rfl, hd, h.2⟩⟩
theorem RepKV.inv {K : PySem.W.Frag} {W : Hp} {μ : List Addr} {q : Key} {d : D} {kvs : List (Key × D)} {ws : List (Key × V)} (h : RepKV K W μ ((q, d) :: kvs) ws) : ∃ v r, ws = (q, v) :: r ∧ Rep K W μ d v ∧ RepKV K W μ kvs r := by
  obtain ⟨h1, v, r, e, h2, h3⟩ := h
  cases ws with
  | nil => simp at h1
  | cons p ps =>
    obtain ⟨pk, pv⟩ := p
    have e1 : q = pk ∧ kvs.map (·.1) = ps.map (·.1) := by simpa using h1
    have e2 : pv = v ∧ ps.map (·.2) = r := by simpa using e
    obtain ⟨rfl, e3⟩ := e1
    obtain ⟨rfl, rfl⟩ := e2
    exact ⟨pv, ps, rfl, h2, e3, h3⟩
theorem RepKV.store {K : PySem.W.Frag} {W : Hp} {μ : List Addr} : ∀ {kvs : List (Key × D)} {ws : List (Key × V)} {q : Key} {d : D} {v : V}, RepKV K W μ kvs ws → Rep K W μ d v → RepKV K W μ (storeK kvs q d) (putK ws q v) := by
  intro kvs ws q d v h hd
  have hany : ∀ {kvs : List (Key × D)} {ws : List (Key × V)}, RepKV K W μ kvs ws → (kvs.any fun kv => decide (kv.1 = q)) = (ws.any fun kv => decide (kv.1 = q)) := by
    intro kvs
    induction kvs with
    | nil =>
      intro ws h
      cases ws with
      | nil => rfl
      | cons p ps => have := h.1; simp at this
    | cons p ps ih =>
      intro ws h
      obtain ⟨pk, pd⟩ := p
      obtain ⟨v, r, rfl, _, h2⟩ := h.inv
      simp only [List.any_cons, ih h2]
  have hmap : ∀ {kvs : List (Key × D)} {ws : List (Key × V)}, RepKV K W μ kvs ws → RepKV K W μ (kvs.map fun kv => if kv.1 = q then (kv.1, d) else kv) (ws.map fun kv => if kv.1 = q then (kv.1, v) else kv) := by
    intro kvs
    induction kvs with
    | nil =>
      intro ws h
      cases ws with
      | nil => exact RepKV.nil
      | cons p ps => have := h.1; simp at this
    | cons p ps ih =>
      intro ws h
      obtain ⟨pk, pd⟩ := p
      obtain ⟨u, r, rfl, h1, h2⟩ := h.inv
      simp only [List.map_cons]
      by_cases c : pk = q
      · rw [if_pos c, if_pos c]; exact (ih h2).cons hd
      · rw [if_neg c, if_neg c]; exact (ih h2).cons h1
  unfold storeK putK
  rw [hany h]
  split
  · exact hmap h
  · exact ⟨by simp [h.1], by simpa using h.2.app (Reps.one hd)⟩
theorem RepKV.merge {K : PySem.W.Frag} {W : Hp} {μ : List Addr} : ∀ {more : List (Key × D)} {mw : List (Key × V)} {kvs : List (Key × D)} {ws : List (Key × V)}, RepKV K W μ kvs ws → RepKV K W μ more mw → RepKV K W μ (mergeKD kvs more) (mergeK ws mw) := by
  intro more
  induction more with
  | nil =>
    intro mw kvs ws h h2
    cases mw with
    | nil => exact h
    | cons p ps => have := h2.1; simp at this
  | cons p ps ih =>
    intro mw kvs ws h h2
    obtain ⟨pk, pd⟩ := p
    obtain ⟨u, r, rfl, h3, h4⟩ := h2.inv
    exact ih (mw := r) (kvs := storeK kvs pk pd) (ws := putK ws pk u) (h.store h3) h4
/-- the pairs of a display -/
def PPost (K : PySem.W.Frag) (W F : Hp) (μ : List Addr) (S : Sto) (ps : List (D × D)) (Q : List (V × V) → Hp → Prop) : Prop :=
  ∀ qs H' W' μ', Ext W μ W' μ' → Stt K W' F μ' S H' → Reps K W' μ' (ps.map (·.1)) (qs.map (·.1)) → Reps K W' μ' (ps.map (·.2)) (qs.map (·.2)) → Q qs H'
structure PPok (X : Cx) (pos : Pos) (keys : List (Option Expr)) (values : List Expr) (ev : Env → Sto → Rs (List (D × D))) : Prop where
  ex : ∃ trs, PPs X pos keys values trs ∧ ∀ σ H Q W F μ ρ S ps S', Stt X.K W F μ S H → EnvR X.K W μ ρ σ → ev ρ S = some (ps, S') → PPost X.K W F μ S' ps Q → tPairs trs σ H Q
theorem pp_nil {pos : Pos} : PPok X pos [] [] (evPs G cl .nil) := ⟨[], pps_nil, fun σ H Q W F μ ρ S ps S' st en e p => by
  cases e
  exact p [] H W μ Ext.refl st rfl rfl⟩
theorem pp_cons {pos : Pos} {a b : ME} {r : MPs} {x y : Expr} {ks : List (Option Expr)} {vs : List Expr} (ha : PE X x (TR X.K (evE G cl a))) (hb : PE X y (TR X.K (evE G cl b))) (hr : PPok X pos ks vs (evPs G cl r)) : PPok X pos (some x :: ks) (y :: vs) (evPs G cl (.cons a b r)) := by
  obtain ⟨trs, h1, h2⟩ := hr
  refine ⟨_, pps_cons ha hb h1, fun σ H Q W F μ ρ S ps S' st en e p => ?_⟩
  obtain ⟨d1, S1, e1, e2⟩ := bnd_inv e
  obtain ⟨d2, S2, e3, e4⟩ := bnd_inv e2
  obtain ⟨d3, S3, e5, e6⟩ := bnd_inv e4
  cases e6
  refine ⟨W, F, μ, ρ, S, d1, S1, st, en, e1, fun v1 H1 W1 μ1 x1 st1 r1 => ⟨W1, F, μ1, ρ, S1, d2, S2, st1, en.mono x1, e3, fun v2 H2 W2 μ2 x2 st2 r2 => ?_⟩⟩
  refine h2 σ H2 _ W2 F μ2 ρ S2 d3 _ st2 (en.mono (x1.trans x2)) e5 fun qs H3 W3 μ3 x3 st3 q1 q2 => ?_
  exact p ((v1, v2) :: qs) H3 W3 μ3 ((x1.trans x2).trans x3) st3 ⟨v1, _, rfl, r1.m (x2.trans x3), q1⟩ ⟨v2, _, rfl, r2.m x3, q2⟩
theorem keysD_rep {K : PySem.W.Frag} {W : Hp} {μ : List Addr} : ∀ {ps : List (D × D)} {qs : List (V × V)} {kvs : List (Key × D)}, keysD ps = some kvs → Reps K W μ (ps.map (·.1)) (qs.map (·.1)) → Reps K W μ (ps.map (·.2)) (qs.map (·.2)) →
    ∃ ws : List (Key × V), qs = ws.map (fun kv => (kV kv.1, kv.2)) ∧ RepKV K W μ kvs ws ∧ ws.length = kvs.length
  | [], qs, kvs, e, h1, h2 => by
    cases e
    cases qs with
    | nil => exact ⟨[], rfl, RepKV.nil, rfl⟩
    | cons p ps => have := h1.length; simp at this
  | (a, b) :: ps, qs, kvs, e, h1, h2 => by
    simp only [keysD] at e
    cases q1 : keyD a with
    | none => rw [q1] at e; cases e
    | some key =>
      cases q2 : keysD ps with
      | none => rw [q1, q2] at e; cases e
      | some kvs' =>
        rw [q1, q2] at e
        cases e
        cases qs with
        | nil => have := h1.length; simp at this
        | cons p qs =>
          obtain ⟨p1, p2⟩ := p
          obtain ⟨v, r, e1, r1, t1⟩ := (show ∃ v r, (p1 :: qs.map (·.1)) = v :: r ∧ Rep K W μ a v ∧ Reps K W μ (ps.map (·.1)) r from h1)
          obtain ⟨u, r', e2, r2, t2⟩ := (show ∃ v r, (p2 :: qs.map (·.2)) = v :: r ∧ Rep K W μ b v ∧ Reps K W μ (ps.map (·.2)) r from h2)
          cases e1
          cases e2
          obtain ⟨ws, e3, e4, e5⟩ := keysD_rep q2 t1 t2
          have := key_rep r1 q1
          subst this
          exact ⟨(key, p2) :: ws, by simp [e3], e4.cons r2, by simp [e5]⟩
theorem tr_dict {ps : MPs} {ks : List (Option Expr)} {vs : List Expr} {pos : Pos} (h : PPok X pos ks vs (evPs G cl ps)) (hall : ks.all (·.isSome) = true) (hl : ks.length = vs.length) (h0 : ks ≠ []) (h15 : ks.length ≤ 15) : PE X (.Dict ks vs pos) (TR X.K (evE G cl (.dict ps))) := by
  obtain ⟨trs, h1, h2⟩ := h
  refine (pe_disp h1 hall hl h0 h15).weak ?_
  rintro σ H Q ⟨W, F, μ, ρ, S, d, S', st, en, e, p⟩
  obtain ⟨qs, S1, e1, e2⟩ := bnd_inv e
  obtain ⟨kvs, e3, e4⟩ := lft_inv e2
  split at e4
  · rename_i c
    cases e4
    intro a ha
    have hF := (st.noF ha).1
    refine h2 σ _ _ W (upd F a (.dK [])) μ ρ S qs _ (st.frame (.dK []) ha) en e1 fun us H2 W2 μ2 x2 st2 q1 q2 => ?_
    obtain ⟨ws, e5, e6, e7⟩ := keysD_rep e3 q1 q2
    refine ⟨st2.inF, ws, e5, by rw [e7]; exact c, ?_⟩
    have x3 : Ext W2 μ2 W2 (μ2 ++ [a]) := ⟨fun _ _ h => h, fun r b h => by rw [List.getElem?_append_left (List.getElem?_eq_some_iff.mp h).1]; exact h⟩
    obtain ⟨st3, _⟩ := (st2.reframe (o' := .dK (mergeK [] ws))).toCell (c := .dk (mergeKD [] kvs)) hF ⟨_, upd_same, (RepKV.merge RepKV.nil e6).mono x3⟩
    exact p _ _ _ _ (x2.trans x3) st3 ⟨a, by rw [← st2.len]; simp, rfl⟩
  · cases e4

/-! ### comprehensions -/
theorem ti_seq {e : ME} {x tg : Expr} (h : PE X x (TR X.K (evE G cl e))) : PI X tg x (TIR X.K (evI G cl (.seq e))) := (pi_seq h).weak (by
  rintro σ H R ⟨W, F, μ, ρ, S, w, S', st, en, e, p⟩
  obtain ⟨d1, S1, e1, e2⟩ := bnd_inv e
  obtain ⟨w', e3, e4⟩ := lft_inv e2
  cases e4
  refine ⟨W, F, μ, ρ, S, d1, _, st, en, e1, fun v H1 W1 μ1 x1 st1 r1 => ?_⟩
  obtain ⟨a, rfl, ⟨h1, wk⟩ | ⟨h1, wk⟩⟩ := items_rep st1 r1 e3
  · exact ⟨a, rfl, .inl ⟨h1, p _ H1 W1 μ1 x1 st1 wk⟩⟩
  · exact ⟨a, rfl, .inr ⟨h1, p _ H1 W1 μ1 x1 st1 wk⟩⟩)
theorem ti_rng (gd : Good G cl k Γ X) {g : Nat} {es : MEs} {xs : List Expr} {tg : Expr} {p pos : Pos} (hg : G[g]? = some (("range" : Str), GK.blt)) (hgl : Gl X "range") (hx : chkEs G es Γ xs = true) (hn : xs.length = 1 ∨ xs.length = 2) (h : PA X xs (TAR X.K (evEs G cl es))) :
    PI X tg (.Call (.Name "range" p) xs [] pos) (TIR X.K (evI G cl (.rng g es))) := by
  have hm := gd.gf.blt g _ hg
  rcases hn with hn | hn
  · match xs, hn, es, hx, h with
    | [x], _, .nil, hx, _ => cases hx
    | [x], _, .cons e1 es', hx, h =>
      obtain ⟨ok, h2⟩ := bk (show (okX x && (chkE G e1 Γ x && chkEs G es' Γ [])) = true from hx)
      refine (pi_range1 hgl hm h (star_ok ok [] X.env)).weak ?_
      rintro σ H R ⟨W, F, μ, ρ, S, w, S', st, en, e, p⟩
      obtain ⟨ds, S1, e3, e4⟩ := bnd_inv e
      obtain ⟨ys, e5, e6⟩ := lft_inv e4
      cases e6
      refine ⟨W, F, μ, ρ, S, ds, _, st, en, e3, fun vs H1 W1 μ1 x1 st1 r1 => ?_⟩
      cases es' with
      | cons _ _ => cases (bk h2).2
      | nil =>
        obtain ⟨d, Sa, e7, e8⟩ := bnd_inv e3
        cases e8
        unfold rngD at e5
        split at e5
        · rename_i b q
          have : d = .int b := by
            have := congrArg List.head? q
            simpa using this
          subst this
          obtain ⟨v, rfl, r2⟩ := r1.inv1
          cases (show v = _ from r2)
          split at e5
          · rename_i c
            cases e5
            exact ⟨b, rfl, c.1, c.2, p _ H1 W1 μ1 x1 st1 wk_rng⟩
          · cases e5
        · rename_i q; simp at q
        · cases e5
  · match xs, hn, es, hx, h with
    | [x, y], _, .nil, hx, _ => cases hx
    | [x, y], _, .cons e1 es', hx, h =>
      obtain ⟨ok, h2⟩ := bk (show (okX x && (chkE G e1 Γ x && chkEs G es' Γ [y])) = true from hx)
      cases es' with
      | nil => cases (bk h2).2
      | cons e2 es2 =>
        obtain ⟨ok2, h3⟩ := bk (show (okX y && (chkE G e2 Γ y && chkEs G es2 Γ [])) = true from (bk h2).2)
        have s2 : starEach [y] X.env = [(false, eval y X.env)] := star_ok ok2 [] X.env
        refine (pi_range2 hgl hm h (by rw [star_ok ok [y] X.env, s2]) s2).weak ?_
        rintro σ H R ⟨W, F, μ, ρ, S, w, S', st, en, e, p⟩
        obtain ⟨ds, S1, e3, e4⟩ := bnd_inv e
        obtain ⟨ys, e5, e6⟩ := lft_inv e4
        cases e6
        refine ⟨W, F, μ, ρ, S, ds, _, st, en, e3, fun vs H1 W1 μ1 x1 st1 r1 => ?_⟩
        cases es2 with
        | cons _ _ => cases (bk h3).2
        | nil =>
          obtain ⟨d, Sa, e7, e8⟩ := bnd_inv e3
          obtain ⟨dd, Sb, e9, e10⟩ := bnd_inv e8
          cases e10
          obtain ⟨d', Sc, e11, e12⟩ := bnd_inv e9
          cases e12
          unfold rngD at e5
          split at e5
          · rename_i q; simp at q
          · rename_i a b q
            have q1 : d = .int a ∧ d' = .int b := by simpa using q
            obtain ⟨rfl, rfl⟩ := q1
            obtain ⟨v, u, rfl, r2, r3⟩ := r1.inv2
            cases (show v = _ from r2)
            cases (show u = _ from r3)
            split at e5
            · rename_i c
              cases e5
              exact ⟨a, b, rfl, c, p _ H1 W1 μ1 x1 st1 wk_rng⟩
            · cases e5
          · cases e5
theorem _root_.L2.PTs.weak {ifs : List Expr} {t t' : TT} (h : PTs X ifs t) (w : ∀ σ H Q, t' σ H Q → t σ H Q) : PTs X ifs t' := ⟨fun pins s σ H Q I q => h.run pins s σ H Q I (w σ H Q q)⟩
theorem tc_nil : PTs X [] (TTR X.K (evC G cl .none)) := pts_nil.weak (by
  rintro σ H Q ⟨W, F, μ, ρ, S, b, S', st, en, e, p⟩
  cases e
  exact p H W μ Ext.refl st)
theorem tc_one {e : ME} {x : Expr} (h : PT X x (TTR X.K (evT G cl e))) : PTs X [x] (TTR X.K (evC G cl (.some e))) := pts_one h
theorem own_snd (N : List Str) (vs : List Nat) : (ownOf N vs).map (·.2) = vs := by
  unfold ownOf
  rw [List.map_map]
  exact List.map_id vs
/-- what a comprehension's parts do, in its block -/
structure LcOk (G : GT) (cl : Nat → List D → Sto → Rs D) (X : Cx) (scope : Scope) (elt tg : Expr) (ifs : List Expr) (me : ME) (mg : MG) (mc : MO) : Prop where
  g : ∀ (s : Shared) (H : Hp) (C : Addr) (cells : List (Str × Addr)) (fp : List Addr), PG (X.blk s H scope (compEnvC scope cells C X.env) fp) tg (TGR X.K (slG mg) (asgG mg))
  t : ∀ (s : Shared) (H : Hp) (C : Addr) (cells : List (Str × Addr)) (fp : List Addr), PTs (X.blk s H scope (compEnvC scope cells C X.env) fp) ifs (TTR X.K (evC G cl mc))
  e : ∀ (s : Shared) (H : Hp) (C : Addr) (cells : List (Str × Addr)) (fp : List Addr), PE (X.blk s H scope (compEnvC scope cells C X.env) fp) elt (TR X.K (evE G cl me))
theorem lc_w {mu : Bool} {vs : List Nat} {me : ME} {mg : MG} {mi : MI} {mc : MO} (hs : ∀ i ∈ slG mg, i ∈ vs) : ∀ σ H Q, TR X.K (evE G cl (.lc mu vs me mg mi mc)) σ H Q → tLc (TIR X.K (evI G cl mi)) (TGR X.K (slG mg) (asgG mg)) (TTR X.K (evC G cl mc)) (TR X.K (evE G cl me)) vs σ H Q := by
  rintro σ H Q ⟨W, F, μ, ρ, S, d, S', st, en, e, p⟩
  obtain ⟨w, S1, e1, e2⟩ := bnd_inv e
  split at e2
  · rename_i hl
    obtain ⟨acc, S5, e3, e4⟩ := bnd_inv e2
    refine ⟨W, F, μ, ρ, S, w, S1, st, en, e1, fun J H1 W1 μ1 x1 st1 wk => ?_⟩
    refine comp_reads (mu := mu) st1 (en.mono x1) wk hl hs e3 ?_
    cases mu with
    | true => rw [if_pos rfl] at e4 ⊢; cases e4; exact p.ext x1
    | false => rw [if_neg Bool.false_ne_true] at e4 ⊢; cases e4; exact p.ext x1
  · cases e2
theorem tr_lc (gd : Good G cl k Γ X) {mu : Bool} {vs : List Nat} {me : ME} {mg : MG} {mi : MI} {mc : MO} {elt tg iter : Expr} {ifs : List Expr} {scope : Scope} {pos : Pos} (hs : ∀ i ∈ slG mg, i ∈ vs) (ok : okX iter = true) (hb : blkC Γ.N Γ.sc scope (ownOf Γ.N vs) = true)
    (hi : PI X tg iter (TIR X.K (evI G cl mi))) (L : LcOk G cl X scope elt tg ifs me mg mc) : PE X (.ListComp elt [⟨tg, iter, ifs, 0⟩] scope pos) (TR X.K (evE G cl (.lc mu vs me mg mi mc))) := by
  have B : BlkOk X.N X.env.scope scope (ownOf Γ.N vs) := by rw [gd.N, gd.sc]; exact blkOk_by hb
  have h := pe_lc (pos := pos) gd.calm gd.nd hi B L.g L.t L.e (fold_ok ok X.env)
  rw [own_snd] at h
  exact h.weak (lc_w hs)

theorem lc2_w {mu : Bool} {vs vs1 : List Nat} {me : ME} {mg mg1 : MG} {mi mi1 : MI} {mc mc1 : MO} (hs : ∀ i ∈ slG mg, i ∈ vs) (hs1 : ∀ i ∈ slG mg1, i ∈ vs1) : ∀ σ H Q, TR X.K (evE G cl (.lc2 mu vs me mg mi mc vs1 mg1 mi1 mc1)) σ H Q → tLc2 (TIR X.K (evI G cl mi)) (TGR X.K (slG mg) (asgG mg)) (TTR X.K (evC G cl mc)) (TIR X.K (evI G cl mi1)) (TGR X.K (slG mg1) (asgG mg1)) (TTR X.K (evC G cl mc1)) (TR X.K (evE G cl me)) vs vs1 σ H Q := by
  rintro σ H Q ⟨W, F, μ, ρ, S, d, S', st, en, e, p⟩
  obtain ⟨w, S1, e1, e2⟩ := bnd_inv e
  obtain ⟨acc, S5, e3, e4⟩ := bnd_inv e2
  refine ⟨W, F, μ, ρ, S, w, S1, st, en, e1, fun J H1 W1 μ1 x1 st1 wk => ?_⟩
  refine comp2_reads (mu := mu) st1 (en.mono x1) wk hs hs1 e3 ?_
  cases mu with
  | true => rw [if_pos rfl] at e4 ⊢; cases e4; exact p.ext x1
  | false => rw [if_neg Bool.false_ne_true] at e4 ⊢; cases e4; exact p.ext x1
structure Lc2Ok (G : GT) (cl : Nat → List D → Sto → Rs D) (X : Cx) (scope : Scope) (elt tg : Expr) (ifs : List Expr) (tg1 iter1 : Expr) (ifs1 : List Expr) (me : ME) (mg : MG) (mc : MO) (mg1 : MG) (mi1 : MI) (mc1 : MO) : Prop where
  g : ∀ (s : Shared) (H : Hp) (C : Addr) (cells : List (Str × Addr)) (fp : List Addr), PG (X.blk s H scope (compEnvC scope cells C X.env) fp) tg (TGR X.K (slG mg) (asgG mg))
  t : ∀ (s : Shared) (H : Hp) (C : Addr) (cells : List (Str × Addr)) (fp : List Addr), PTs (X.blk s H scope (compEnvC scope cells C X.env) fp) ifs (TTR X.K (evC G cl mc))
  g1 : ∀ (s : Shared) (H : Hp) (C : Addr) (cells : List (Str × Addr)) (fp : List Addr), PG (X.blk s H scope (compEnvC scope cells C X.env) fp) tg1 (TGR X.K (slG mg1) (asgG mg1))
  i1 : ∀ (s : Shared) (H : Hp) (C : Addr) (cells : List (Str × Addr)) (fp : List Addr), PI (X.blk s H scope (compEnvC scope cells C X.env) fp) tg1 iter1 (TIR X.K (evI G cl mi1))
  t1 : ∀ (s : Shared) (H : Hp) (C : Addr) (cells : List (Str × Addr)) (fp : List Addr), PTs (X.blk s H scope (compEnvC scope cells C X.env) fp) ifs1 (TTR X.K (evC G cl mc1))
  e : ∀ (s : Shared) (H : Hp) (C : Addr) (cells : List (Str × Addr)) (fp : List Addr), PE (X.blk s H scope (compEnvC scope cells C X.env) fp) elt (TR X.K (evE G cl me))
theorem tr_lc2 (gd : Good G cl k Γ X) {mu : Bool} {vs vs1 : List Nat} {me : ME} {mg mg1 : MG} {mi mi1 : MI} {mc mc1 : MO} {elt tg iter tg1 iter1 : Expr} {ifs ifs1 : List Expr} {scope : Scope} {pos : Pos} (hv : ∀ i ∈ vs1, i ∈ vs) (hs : ∀ i ∈ slG mg, i ∈ vs) (hs1 : ∀ i ∈ slG mg1, i ∈ vs1) (ok : okX iter = true) (ok1 : okX iter1 = true) (hb : blkC Γ.N Γ.sc scope (ownOf Γ.N vs) = true)
    (hi : PI X tg iter (TIR X.K (evI G cl mi))) (L : Lc2Ok G cl X scope elt tg ifs tg1 iter1 ifs1 me mg mc mg1 mi1 mc1) : PE X (.ListComp elt [⟨tg, iter, ifs, 0⟩, ⟨tg1, iter1, ifs1, 0⟩] scope pos) (TR X.K (evE G cl (.lc2 mu vs me mg mi mc vs1 mg1 mi1 mc1))) := by
  have B : BlkOk X.N X.env.scope scope (ownOf Γ.N vs) := by rw [gd.N, gd.sc]; exact blkOk_by hb
  have h := pe_lc2 (vs1 := vs1) (pos := pos) gd.calm gd.nd hi B (by rw [own_snd]; exact hv) L.g L.t L.i1 L.g1 L.t1 L.e (fold_ok ok X.env) (fun env x => fold_ok ok1 env x)
  rw [own_snd] at h
  exact h.weak (lc2_w hs hs1)

/-! ### all expressions -/
mutual
theorem chkE_ok {G : GT} {cl : Nat → List D → Sto → Rs D} {k : Nat} : ∀ (m : ME) {Γ : Syn} {X : Cx} (e : Expr), Good G cl k Γ X → chkE G m Γ e = true → Eok G cl m X e
  | .var i, Γ, X, e, gd, h => by
    cases e <;> try (exact absurd (show false = true from h) Bool.false_ne_true)
    exact .of (tr_var gd.toSy h)
  | .int i, Γ, X, e, gd, h => by
    cases e <;> try (exact absurd (show false = true from h) Bool.false_ne_true)
    rename_i c n pos
    cases c <;> try (exact absurd (show false = true from h) Bool.false_ne_true)
    cases (dec (show decide (i = _) = true from h))
    exact .of (tr_const pe_int (fun _ _ => rfl) fun _ _ => rfl)
  | .str i, Γ, X, e, gd, h => by
    cases e <;> try (exact absurd (show false = true from h) Bool.false_ne_true)
    rename_i c n pos
    cases c <;> try (exact absurd (show false = true from h) Bool.false_ne_true)
    cases (dec (show decide (i = _) = true from h))
    exact .of (tr_const pe_str (fun _ _ => rfl) fun _ _ => rfl)
  | .bl i, Γ, X, e, gd, h => by
    cases e <;> try (exact absurd (show false = true from h) Bool.false_ne_true)
    rename_i c n pos
    cases c <;> try (exact absurd (show false = true from h) Bool.false_ne_true)
    cases (show i = _ from by simpa using (show (i == _) = true from h))
    exact .of (tr_const pe_bl (fun _ _ => rfl) fun _ _ => rfl)
  | .non, Γ, X, e, gd, h => by
    cases e <;> try (exact absurd (show false = true from h) Bool.false_ne_true)
    rename_i c n pos
    cases c <;> try (exact absurd (show false = true from h) Bool.false_ne_true)
    exact .of (tr_const pe_non (fun _ _ => rfl) fun _ _ => rfl)
  | .con g, Γ, X, e, gd, h => by
    cases e <;> try (exact absurd (show false = true from h) Bool.false_ne_true)
    rename_i x pos
    obtain ⟨h1, h2⟩ := bk (show (glB G Γ g x && (match conOf G g with
      | some _ => true
      | none => false)) = true from h)
    obtain ⟨⟨q, hg⟩, hgl, hdb, hnm⟩ := gl_ok gd.toSy h1
    cases c : conOf G g with
    | none => rw [c] at h2; cases h2
    | some d =>
      have hq : q = .con d := by
        unfold conOf at c
        rw [hg] at c
        cases q with
        | con d' => cases c; rfl
        | _ => cases c
      subst hq
      obtain ⟨u, v, hm, hr, hrep⟩ := gd.gf.con g x d hg
      exact .of (tr_const (pe_glob hgl hm hr hdb) (fun ρ S => by simp only [evE, c, lft_some]) hrep)
  | .madd a b, Γ, X, e, gd, h => by
    cases e <;> try (exact absurd (show false = true from h) Bool.false_ne_true)
    rename_i x op' y pos
    obtain ⟨h1, h2⟩ := bk (show (decide (op' = .Add) && (chkE G a Γ x && chkE G b Γ y)) = true from h)
    obtain ⟨h3, h4⟩ := bk h2
    cases (dec h1)
    exact .of (tr_madd (chkE_ok a x gd h3).pe (chkE_ok b y gd h4).pe)
  | .bin op a b, Γ, X, e, gd, h => by
    cases e <;> try (exact absurd (show false = true from h) Bool.false_ne_true)
    rename_i x op' y pos
    obtain ⟨h1, h2⟩ := bk (show (decide (op = op') && (chkE G a Γ x && chkE G b Γ y)) = true from h)
    obtain ⟨h3, h4⟩ := bk h2
    cases (dec h1)
    exact .of (tr_bin (chkE_ok a x gd h3).pe (chkE_ok b y gd h4).pe)
  | .neg a, Γ, X, e, gd, h => by
    cases e <;> try (exact absurd (show false = true from h) Bool.false_ne_true)
    rename_i op x pos
    cases op <;> try (exact absurd (show false = true from h) Bool.false_ne_true)
    exact .of (tr_neg (chkE_ok a x gd h).pe)
  | .cmp op a b, Γ, X, e, gd, h => by
    cases e <;> try (exact absurd (show false = true from h) Bool.false_ne_true)
    rename_i x ops ys pos
    match ops, ys, h with
    | [op'], [y], h =>
      obtain ⟨h1, h2⟩ := bk (show (decide (op = op') && (okX y && (chkE G a Γ x && chkE G b Γ y))) = true from h)
      obtain ⟨h3, h4⟩ := bk h2
      obtain ⟨h5, h6⟩ := bk h4
      cases (dec h1)
      exact tr_cmp gd.hu h3 (chkE_ok a x gd h5).pe (chkE_ok b y gd h6).pe
    | [], _, h => exact nomatch h
    | _ :: _ :: _, _, h => exact nomatch h
    | [_], [], h => exact nomatch h
    | [_], _ :: _ :: _, h => exact nomatch h
  | .ch op op' a b c, Γ, X, e, gd, h => by
    cases e <;> try (exact absurd (show false = true from h) Bool.false_ne_true)
    rename_i x ops ys pos
    match ops, ys, h with
    | [p, q], [y, z], h =>
      obtain ⟨h1, h2⟩ := bk (show (decide (op = p) && (decide (op' = q) && (okX z && (chkE G a Γ x && (chkE G b Γ y && chkE G c Γ z))))) = true from h)
      obtain ⟨h3, h4⟩ := bk h2
      obtain ⟨h5, h6⟩ := bk h4
      obtain ⟨h7, h8⟩ := bk h6
      obtain ⟨h9, h10⟩ := bk h8
      cases (dec h1)
      cases (dec h3)
      exact tr_ch gd.hu h5 (chkE_ok a x gd h7).pe (chkE_ok b y gd h9).pe (chkE_ok c z gd h10).pe
    | [], _, h => exact nomatch h
    | [_], _, h => exact nomatch h
    | _ :: _ :: _ :: _, _, h => exact nomatch h
    | [_, _], [], h => exact nomatch h
    | [_, _], [_], h => exact nomatch h
    | [_, _], _ :: _ :: _ :: _, h => exact nomatch h
  | .and a b, Γ, X, e, gd, h => by
    cases e <;> try (exact absurd (show false = true from h) Bool.false_ne_true)
    rename_i op es pos
    cases op <;> try (exact absurd (show false = true from h) Bool.false_ne_true)
    match es, h with
    | x :: y :: r, h =>
      obtain ⟨h1, h2⟩ := bk (show (chkE G a Γ x && chkE G b Γ (.BoolOp .And (y :: r) pos)) = true from h)
      have A := chkE_ok a x gd h1
      have B := chkE_ok b (.BoolOp .And (y :: r) pos) gd h2
      have T := tt_and A.pt (B.pw _ _ _ rfl)
      exact ⟨tr_and A.pe B.pe, T.pt, fun op es' pos' q => by cases q; exact T⟩
    | [], h => exact nomatch h
    | [_], h => exact nomatch h
  | .or a b, Γ, X, e, gd, h => by
    cases e <;> try (exact absurd (show false = true from h) Bool.false_ne_true)
    rename_i op es pos
    cases op <;> try (exact absurd (show false = true from h) Bool.false_ne_true)
    match es, h with
    | x :: y :: r, h =>
      obtain ⟨h1, h2⟩ := bk (show (chkE G a Γ x && chkE G b Γ (.BoolOp .Or (y :: r) pos)) = true from h)
      have A := chkE_ok a x gd h1
      have B := chkE_ok b (.BoolOp .Or (y :: r) pos) gd h2
      have T := tt_or A.pt (B.pw _ _ _ rfl)
      exact ⟨tr_or A.pe B.pe, T.pt, fun op es' pos' q => by cases q; exact T⟩
    | [], h => exact nomatch h
    | [_], h => exact nomatch h
  | .one a, Γ, X, e, gd, h => by
    cases e <;> try (exact absurd (show false = true from h) Bool.false_ne_true)
    rename_i op es pos
    match es, h with
    | [x], h =>
      have A := chkE_ok a x gd (show chkE G a Γ x = true by cases op <;> exact h)
      have T : PW X (.BoolOp op [x] pos) (TTR X.K (evT G cl (.one a))) := by
        cases op
        · exact pw_and1 A.pt
        · exact pw_or1 A.pt
      exact ⟨pe_one A.pe, T.pt, fun op es' pos' q => by cases q; exact T⟩
    | [], h => cases op <;> exact nomatch h
    | _ :: _ :: _, h => cases op <;> exact nomatch h
  | .not a, Γ, X, e, gd, h => by
    cases e <;> try (exact absurd (show false = true from h) Bool.false_ne_true)
    rename_i op x pos
    cases op <;> try (exact absurd (show false = true from h) Bool.false_ne_true)
    exact tr_not (chkE_ok a x gd h)
  | .ifE c a b, Γ, X, e, gd, h => by
    cases e <;> try (exact absurd (show false = true from h) Bool.false_ne_true)
    rename_i x y z pos
    obtain ⟨h1, h2⟩ := bk (show (chkE G c Γ x && (chkE G a Γ y && chkE G b Γ z)) = true from h)
    obtain ⟨h3, h4⟩ := bk h2
    exact tr_if (chkE_ok c x gd h1) (chkE_ok a y gd h3) (chkE_ok b z gd h4)
  | .tup es, Γ, X, e, gd, h => by
    cases e <;> try (exact absurd (show false = true from h) Bool.false_ne_true)
    exact .of (tr_tup (chkEs_ok es _ gd h))
  | .lst es, Γ, X, e, gd, h => by
    cases e <;> try (exact absurd (show false = true from h) Bool.false_ne_true)
    exact .of (tr_lst (chkEs_ok es _ gd h))
  | .mlst es, Γ, X, e, gd, h => by
    cases e <;> try (exact absurd (show false = true from h) Bool.false_ne_true)
    exact .of (tr_mlst (chkEs_ok es _ gd h))
  | .dict ps, Γ, X, e, gd, h => by
    cases e <;> try (exact absurd (show false = true from h) Bool.false_ne_true)
    rename_i ks vs pos
    obtain ⟨h1, h2⟩ := bk (show (decide (ks.length ≤ 15) && (decide (ks.length = vs.length) && (!ks.isEmpty && chkPs G ps Γ ks vs))) = true from h)
    obtain ⟨h3, h4⟩ := bk h2
    obtain ⟨h5, h6⟩ := bk h4
    obtain ⟨a1, a2⟩ := chkPs_ok (pos := pos) ps ks vs gd h6
    exact .of (tr_dict a1 a2 (dec h3) (by intro q; subst q; cases h5) (dec h1))
  | .idx a i, Γ, X, e, gd, h => by
    cases e <;> try (exact absurd (show false = true from h) Bool.false_ne_true)
    rename_i x y pos
    have h' : (okX y && (chkE G a Γ x && chkE G i Γ y)) = true := h
    obtain ⟨h1, h2⟩ := bk h'
    obtain ⟨h3, h4⟩ := bk h2
    exact .of (tr_idx gd.hu1 h1 (chkE_ok a x gd h3).pe (chkE_ok i y gd h4).pe)
  | .slR a hi, Γ, X, e, gd, h => by
    cases e <;> try (exact absurd (show false = true from h) Bool.false_ne_true)
    rename_i x y pos
    cases y <;> try (exact absurd (show false = true from h) Bool.false_ne_true)
    rename_i l u st p2
    cases l <;> try (exact absurd (show false = true from h) Bool.false_ne_true)
    cases st <;> try (exact absurd (show false = true from h) Bool.false_ne_true)
    rename_i st
    cases st <;> try (exact absurd (show false = true from h) Bool.false_ne_true)
    rename_i op ee p3
    cases op <;> try (exact absurd (show false = true from h) Bool.false_ne_true)
    cases ee <;> try (exact absurd (show false = true from h) Bool.false_ne_true)
    rename_i c kk p4
    cases c <;> try (exact absurd (show false = true from h) Bool.false_ne_true)
    rename_i i
    obtain ⟨h0, h1⟩ := bk (show (decide (i = 1) && (chkE G a Γ x && chkO G hi Γ u)) = true from h)
    obtain ⟨h2, h3⟩ := bk h1
    cases (dec h0)
    exact .of (tr_slR (chkE_ok a x gd h2).pe (chkO_ok hi u gd h3))
  | .sl a lo hi, Γ, X, e, gd, h => by
    cases e <;> try (exact absurd (show false = true from h) Bool.false_ne_true)
    rename_i x y pos
    cases y <;> try (exact absurd (show false = true from h) Bool.false_ne_true)
    rename_i l u st p2
    cases st <;> try (exact absurd (show false = true from h) Bool.false_ne_true)
    obtain ⟨h1, h2⟩ := bk (show (chkE G a Γ x && (chkO G lo Γ l && chkO G hi Γ u)) = true from h)
    obtain ⟨h3, h4⟩ := bk h2
    exact .of (tr_sl (chkE_ok a x gd h1).pe (chkO_ok lo l gd h3) (chkO_ok hi u gd h4))
  | .call g es, Γ, X, e, gd, h => by
    cases e <;> try (exact absurd (show false = true from h) Bool.false_ne_true)
    rename_i f xs kw pos
    cases f <;> try (exact absurd (show false = true from h) Bool.false_ne_true)
    cases kw <;> try (exact absurd (show false = true from h) Bool.false_ne_true)
    rename_i x p
    obtain ⟨h1, h2⟩ := bk (show (glB G Γ g x && (isFnB G g && chkEs G es Γ xs)) = true from h)
    obtain ⟨h3, h4⟩ := bk h2
    obtain ⟨⟨q, hg⟩, hgl, hdb, hnm⟩ := gl_ok gd.toSy h1
    obtain ⟨f, hf⟩ := fn_at hg h3
    exact .of (tr_call gd hf hgl hdb h4 (chkEs_ok es xs gd h4))
  | .bi b g es, Γ, X, e, gd, h => by
    cases e <;> try (exact absurd (show false = true from h) Bool.false_ne_true)
    rename_i f xs kw pos
    cases f <;> try (exact absurd (show false = true from h) Bool.false_ne_true)
    cases kw <;> try (exact absurd (show false = true from h) Bool.false_ne_true)
    rename_i x p
    obtain ⟨h1, h2⟩ := bk (show (glB G Γ g x && (isBlt G g && (decide (x = biName b) && (!xs.isEmpty && chkEs G es Γ xs)))) = true from h)
    obtain ⟨h3, h4⟩ := bk h2
    obtain ⟨h5, h6⟩ := bk h4
    obtain ⟨h7, h8⟩ := bk h6
    cases (dec h5)
    obtain ⟨⟨q, hg⟩, hgl, hdb, hnm⟩ := gl_ok gd.toSy h1
    exact .of (tr_bi gd (blt_at hg h3) hgl h8 (by simpa using h7) (chkEs_ok es xs gd h8))
  | .isI g hh n a, Γ, X, e, gd, h => by
    cases e <;> try (exact absurd (show false = true from h) Bool.false_ne_true)
    rename_i f xs kw pos
    cases f <;> try (exact absurd (show false = true from h) Bool.false_ne_true)
    rcases kw with _ | ⟨kw1, kws⟩
    rotate_left
    · simp [chkE] at h
    rename_i x p
    match xs, h with
    | [y, .Name t p2], h =>
      obtain ⟨h1, h2⟩ := bk (show (glB G Γ g x && (isBlt G g && (decide (x = "isinstance") && (glB G Γ hh t && (isBlt G hh && (decide (bootBuiltins t = some (.type n)) && (okX y && chkE G a Γ y))))))) = true from h)
      obtain ⟨h3, h4⟩ := bk h2
      obtain ⟨h5, h6⟩ := bk h4
      obtain ⟨h7, h8⟩ := bk h6
      obtain ⟨h9, h10⟩ := bk h8
      obtain ⟨h11, h12⟩ := bk h10
      obtain ⟨h13, h14⟩ := bk h12
      cases (dec h5)
      obtain ⟨⟨q, hg⟩, hgl, hdb, hnm⟩ := gl_ok gd.toSy h1
      obtain ⟨⟨q2, hg2⟩, hgl2, hdb2, hnm2⟩ := gl_ok gd.toSy h7
      exact .of (tr_isI gd (blt_at hg h3) hgl (blt_at hg2 h9) hgl2 hdb2 hnm2 (dec h11) h13 (chkE_ok a y gd h14).pe)
    | [], h => exact nomatch h
    | [_], h => exact nomatch h
    | _ :: _ :: _ :: _, h => simp [chkE] at h
    | [y, .BoolOp .. ], h => exact nomatch h
    | [y, .NamedExpr .. ], h => exact nomatch h
    | [y, .BinOp .. ], h => exact nomatch h
    | [y, .UnaryOp .. ], h => exact nomatch h
    | [y, .Lambda .. ], h => exact nomatch h
    | [y, .IfExp .. ], h => exact nomatch h
    | [y, .Dict .. ], h => exact nomatch h
    | [y, .Set .. ], h => exact nomatch h
    | [y, .ListComp .. ], h => exact nomatch h
    | [y, .SetComp .. ], h => exact nomatch h
    | [y, .DictComp .. ], h => exact nomatch h
    | [y, .GeneratorExp .. ], h => exact nomatch h
    | [y, .Await .. ], h => exact nomatch h
    | [y, .Yield .. ], h => exact nomatch h
    | [y, .YieldFrom .. ], h => exact nomatch h
    | [y, .Compare .. ], h => exact nomatch h
    | [y, .Call .. ], h => exact nomatch h
    | [y, .FormattedValue .. ], h => exact nomatch h
    | [y, .JoinedStr .. ], h => exact nomatch h
    | [y, .Constant .. ], h => exact nomatch h
    | [y, .Attribute .. ], h => exact nomatch h
    | [y, .Subscript .. ], h => exact nomatch h
    | [y, .Starred .. ], h => exact nomatch h
    | [y, .List .. ], h => exact nomatch h
    | [y, .Tuple .. ], h => exact nomatch h
    | [y, .Slice .. ], h => exact nomatch h
  | .meth m o es, Γ, X, e, gd, h => by
    cases e <;> try (exact absurd (show false = true from h) Bool.false_ne_true)
    rename_i f xs kw pos
    cases f <;> try (exact absurd (show false = true from h) Bool.false_ne_true)
    cases kw <;> try (exact absurd (show false = true from h) Bool.false_ne_true)
    rename_i y nm ap
    obtain ⟨h1, h2⟩ := bk (show (decide (nm = mtName m) && (noCall y && ((ap.endLine == pos.line) && (decide (xs.length < 30) && (chkE G o Γ y && chkEs G es Γ xs))))) = true from h)
    obtain ⟨h3, h4⟩ := bk h2
    obtain ⟨h5, h6⟩ := bk h4
    obtain ⟨h7, h8⟩ := bk h6
    obtain ⟨h9, h10⟩ := bk h8
    cases (dec h1)
    exact .of (tr_meth gd h3 h5 (dec h7) (chkE_ok o y gd h9).pe h10 (chkEs_ok es xs gd h10))
  | .lc mu vs elt tg it cs, Γ, X, e, gd, h => by
    cases e <;> try (exact absurd (show false = true from h) Bool.false_ne_true)
    rename_i y gs scope pos
    match gs, h with
    | [⟨t, i, ifs, a⟩], h =>
      obtain ⟨h1, h2⟩ := bk (show (decide (a = 0) && (okX i && (blkC Γ.N Γ.sc scope (ownOf Γ.N vs) && ((slG tg).all (fun j => decide (j ∈ vs)) &&
        (chkG tg (Γ.blk scope) t && (chkI G it Γ i && (chkCs G cs (Γ.blk scope) ifs && chkE G elt (Γ.blk scope) y))))))) = true from h)
      obtain ⟨h3, h4⟩ := bk h2
      obtain ⟨h5, h6⟩ := bk h4
      obtain ⟨h7, h8⟩ := bk h6
      obtain ⟨h9, h10⟩ := bk h8
      obtain ⟨h11, h12⟩ := bk h10
      obtain ⟨h13, h14⟩ := bk h12
      cases (dec h1)
      exact .of (tr_lc gd (fun j hj => dec (List.all_eq_true.mp h7 j hj)) h3 h5 (chkI_ok it i gd h11)
        ⟨fun s H C cells fp => chkG_ok (gd.blk s H C cells fp).toSy tg t h9, fun s H C cells fp => chkCs_ok cs ifs (gd.blk s H C cells fp) h13, fun s H C cells fp => (chkE_ok elt y (gd.blk s H C cells fp) h14).pe⟩)
    | [], h => exact nomatch h
    | ⟨_, _, _, _⟩ :: _ :: _, h => exact nomatch h
  | .lc2 mu vs elt tg it cs vs1 tg1 it1 cs1, Γ, X, e, gd, h => by
    cases e <;> try (exact absurd (show false = true from h) Bool.false_ne_true)
    rename_i y gs scope pos
    match gs, h with
    | [⟨t, i, ifs, a⟩, ⟨t1, i1, ifs1, a1⟩], h =>
      obtain ⟨h1, h2⟩ := bk (show (decide (a = 0) && (decide (a1 = 0) && (okX i && (okX i1 && (blkC Γ.N Γ.sc scope (ownOf Γ.N vs) && (vs1.all (fun j => decide (j ∈ vs)) && ((slG tg).all (fun j => decide (j ∈ vs)) && ((slG tg1).all (fun j => decide (j ∈ vs1)) &&
      (chkG tg (Γ.blk scope) t && (chkI G it Γ i && (chkCs G cs (Γ.blk scope) ifs && (chkG tg1 (Γ.blk scope) t1 && (chkI G it1 (Γ.blk scope) i1 && (chkCs G cs1 (Γ.blk scope) ifs1 && chkE G elt (Γ.blk scope) y)))))))))))))) = true from h)
      obtain ⟨h3, h4⟩ := bk h2
      obtain ⟨h5, h6⟩ := bk h4
      obtain ⟨h7, h8⟩ := bk h6
      obtain ⟨h9, h10⟩ := bk h8
      obtain ⟨h11, h12⟩ := bk h10
      obtain ⟨h13, h14⟩ := bk h12
      obtain ⟨h15, h16⟩ := bk h14
      obtain ⟨h17, h18⟩ := bk h16
      obtain ⟨h19, h20⟩ := bk h18
      obtain ⟨h21, h22⟩ := bk h20
      obtain ⟨h23, h24⟩ := bk h22
      obtain ⟨h25, h26⟩ := bk h24
      obtain ⟨h27, h28⟩ := bk h26
      cases (dec h1)
      cases (dec h3)
      exact .of (tr_lc2 gd (fun j hj => dec (List.all_eq_true.mp h11 j hj)) (fun j hj => dec (List.all_eq_true.mp h13 j hj)) (fun j hj => dec (List.all_eq_true.mp h15 j hj)) h5 h7 h9 (chkI_ok it i gd h19)
        ⟨fun s H C cells fp => chkG_ok (gd.blk s H C cells fp).toSy tg t h17, fun s H C cells fp => chkCs_ok cs ifs (gd.blk s H C cells fp) h21, fun s H C cells fp => chkG_ok (gd.blk s H C cells fp).toSy tg1 t1 h23, fun s H C cells fp => chkI_ok it1 i1 (gd.blk s H C cells fp) h25, fun s H C cells fp => chkCs_ok cs1 ifs1 (gd.blk s H C cells fp) h27, fun s H C cells fp => (chkE_ok elt y (gd.blk s H C cells fp) h28).pe⟩)
    | [], h => exact nomatch h
    | [⟨_, _, _, _⟩], h => exact nomatch h
    | ⟨_, _, _, _⟩ :: ⟨_, _, _, _⟩ :: _ :: _, h => exact nomatch h
theorem chkEs_ok {G : GT} {cl : Nat → List D → Sto → Rs D} {k : Nat} : ∀ (ms : MEs) {Γ : Syn} {X : Cx} (es : List Expr), Good G cl k Γ X → chkEs G ms Γ es = true → PA X es (TAR X.K (evEs G cl ms))
  | .nil, Γ, X, es, gd, h => by
    cases es with
    | nil => exact ta_nil
    | cons _ _ => exact nomatch h
  | .cons m ms, Γ, X, es, gd, h => by
    cases es with
    | nil => exact nomatch h
    | cons e es =>
      obtain ⟨h1, h2⟩ := bk (show (okX e && (chkE G m Γ e && chkEs G ms Γ es)) = true from h)
      obtain ⟨h3, h4⟩ := bk h2
      exact ta_cons h1 (chkE_ok m e gd h3).pe (chkEs_ok ms es gd h4)
theorem chkO_ok {G : GT} {cl : Nat → List D → Sto → Rs D} {k : Nat} : ∀ (m : MO) {Γ : Syn} {X : Cx} (o : Option Expr), Good G cl k Γ X → chkO G m Γ o = true → PO X o (TOR X.K (evO G cl m))
  | .none, Γ, X, o, gd, h => by
    cases o with
    | none => exact to_none
    | some _ => exact nomatch h
  | .some m, Γ, X, o, gd, h => by
    cases o with
    | none => exact nomatch h
    | some e => exact to_some (chkE_ok m e gd h).pe
theorem chkCs_ok {G : GT} {cl : Nat → List D → Sto → Rs D} {k : Nat} : ∀ (m : MO) {Γ : Syn} {X : Cx} (es : List Expr), Good G cl k Γ X → chkCs G m Γ es = true → PTs X es (TTR X.K (evC G cl m))
  | .none, Γ, X, es, gd, h => by
    cases es with
    | nil => exact tc_nil
    | cons _ _ => exact nomatch h
  | .some m, Γ, X, es, gd, h => by
    match es, h with
    | [e], h => exact tc_one (chkE_ok m e gd h).pt
    | [], h => exact nomatch h
    | _ :: _ :: _, h => exact nomatch h
theorem chkPs_ok {G : GT} {cl : Nat → List D → Sto → Rs D} {k : Nat} {pos : Pos} : ∀ (ps : MPs) {Γ : Syn} {X : Cx} (ks : List (Option Expr)) (vs : List Expr), Good G cl k Γ X → chkPs G ps Γ ks vs = true → PPok X pos ks vs (evPs G cl ps) ∧ ks.all (·.isSome) = true
  | .nil, Γ, X, ks, vs, gd, h => by
    match ks, vs, h with
    | [], [], _ => exact ⟨pp_nil, rfl⟩
    | [], _ :: _, h => exact nomatch h
    | _ :: _, _, h => exact nomatch h
  | .cons a b ps, Γ, X, ks, vs, gd, h => by
    match ks, vs, h with
    | some x :: ks, y :: vs, h =>
      obtain ⟨h1, h2⟩ := bk (show (chkE G a Γ x && (chkE G b Γ y && chkPs G ps Γ ks vs)) = true from h)
      obtain ⟨h3, h4⟩ := bk h2
      obtain ⟨a1, a2⟩ := chkPs_ok (pos := pos) ps ks vs gd h4
      exact ⟨pp_cons (chkE_ok a x gd h1).pe (chkE_ok b y gd h3).pe a1, by simpa using a2⟩
    | [], _, h => exact nomatch h
    | none :: _, _, h => exact nomatch h
    | some _ :: _, [], h => exact nomatch h
theorem chkI_ok {G : GT} {cl : Nat → List D → Sto → Rs D} {k : Nat} : ∀ (m : MI) {Γ : Syn} {X : Cx} (e : Expr) {tg : Expr}, Good G cl k Γ X → chkI G m Γ e = true → PI X tg e (TIR X.K (evI G cl m))
  | .seq m, Γ, X, e, tg, gd, h => ti_seq (chkE_ok m e gd h).pe
  | .rng g es, Γ, X, e, tg, gd, h => by
    cases e <;> try (exact absurd (show false = true from h) Bool.false_ne_true)
    rename_i f xs kw pos
    cases f <;> try (exact absurd (show false = true from h) Bool.false_ne_true)
    cases kw <;> try (exact absurd (show false = true from h) Bool.false_ne_true)
    rename_i x p
    obtain ⟨h1, h2⟩ := bk (show (glB G Γ g x && (isBlt G g && (decide (x = "range") && ((decide (xs.length = 1) || decide (xs.length = 2)) && chkEs G es Γ xs)))) = true from h)
    obtain ⟨h3, h4⟩ := bk h2
    obtain ⟨h5, h6⟩ := bk h4
    obtain ⟨h7, h8⟩ := bk h6
    cases (dec h5)
    obtain ⟨⟨q, hg⟩, hgl, hdb, hnm⟩ := gl_ok gd.toSy h1
    exact ti_rng gd (blt_at hg h3) hgl h8 (by simpa using h7) (chkEs_ok es xs gd h8)
end
end
end Rw

/-! M12: statements, defs -/
namespace Rw
open PySem PySem.Spec PyProof.Rows L2
section
variable {G : GT} {cl : Nat → List D → Sto → Rs D} {k : Nat} {Γ : Syn} {X : Cx}
def rAug (K : PySem.W.Frag) (op : Operator) : TIp := fun x y H Q => ∃ W F μ S d e r, Stt K W F μ S H ∧ Rep K W μ d x ∧ Rep K W μ e y ∧ augD op d e = some r ∧ Post K W F μ S r Q
theorem ip_any (op : Operator) : PIp X op (rAug X.K op) := by
  intro pins s σ H x y v u Q I rx ry h
  obtain ⟨W, F, μ, S, d, e, r, st, hd, he, hb, p⟩ := h
  unfold augD at hb
  split at hb
  · cases hb; cases (show x = _ from hd); cases (show y = _ from he)
    exact iop_add pins s σ H _ _ v u Q I rx ry ⟨_, _, rfl, rfl, p.int st⟩
  · cases hb; cases (show x = _ from hd); cases (show y = _ from he)
    exact iop_sub pins s σ H _ _ v u Q I rx ry ⟨_, _, rfl, rfl, p.int st⟩
  · split at hb
    · rename_i c
      cases hb; cases (show x = _ from hd); cases (show y = _ from he)
      exact iop_mul pins s σ H _ _ v u Q I rx ry ⟨_, _, rfl, rfl, c, p.int st⟩
    · cases hb
  · split at hb
    · rename_i c
      cases hb; cases (show x = _ from hd); cases (show y = _ from he)
      exact iop_add_str pins s σ H _ _ v u Q I rx ry ⟨_, _, rfl, rfl, c, p.strv st⟩
    · cases hb
  · cases hb
def rPut (K : PySem.W.Frag) : TSet := fun o i v H Q => ∃ W F μ S d e r S', Stt K W F μ S H ∧ Rep K W μ d o ∧ Rep K W μ e i ∧ Rep K W μ r v ∧ putI S d e r = some S' ∧ ∀ H' W' μ', Ext W μ W' μ' → Stt K W' F μ' S' H' → Q H'
theorem set_any (hu : X.A.units + 1 < cLine) : PSet X (rPut X.K) := by
  intro pins s σ H o i v ov iv u Q I ro ri rv h
  obtain ⟨W, F, μ, S, d, e, r, S', st, hd, he, hr, hb, p⟩ := h
  unfold putI at hb
  split at hb
  · rename_i j
    obtain ⟨a, hj, rfl⟩ := hd
    cases c : S[j]? with
    | none => rw [c] at hb; cases hb
    | some cc =>
      rw [c] at hb
      cases cc with
      | lst xs =>
        obtain ⟨ws, h1, h2⟩ := st.lst hj c
        simp only at hb
        split at hb
        · rename_i q
          cases (show i = _ from he)
          cases z : ixN xs.length q with
          | none => rw [z] at hb; cases hb
          | some n =>
            rw [z] at hb
            cases hb
            refine set_list pins s σ H _ _ _ ov iv u Q I ro ri rv ⟨a, ws, q, n, rfl, rfl, h1, by rw [h2.length]; exact z, ?_⟩
            exact p _ W μ Ext.refl (st.put _ _ hj ⟨_, upd_same, Reps.set n hr h2⟩)
        · cases hb
      | dk kvs =>
        obtain ⟨ws, h1, h2⟩ := st.dk hj c
        simp only at hb
        cases z : keyD e with
        | none => rw [z] at hb; cases hb
        | some q =>
          rw [z] at hb
          have hb : (if kvs.length < sizeLine then some (S.set j (.dk (storeK kvs q r))) else none) = some S' := hb
          split at hb
          · rename_i hl
            cases hb
            have hk := key_rep he z
            subst hk
            have hl2 : ws.length = kvs.length := by have := congrArg List.length h2.1; simpa using this.symm
            have e2 : ov = Value.ref a := ro
            subst e2
            refine d_setItem hu I (DPut.k (k := q) (v := v) h1 (by rw [hl2]; exact hl)) ri rv fun s' I' => ⟨_, I', ?_⟩
            exact p _ W μ Ext.refl (st.put _ _ hj ⟨_, upd_same, h2.store hr⟩)
          · cases hb
  · cases hb
def rGetK (K : PySem.W.Frag) : V → V → Hp → VK → Prop := fun o i H Q => ∃ W F μ S d e r, Stt K W F μ S H ∧ Rep K W μ d o ∧ Rep K W μ e i ∧ augGet S d e = some r ∧ Post K W F μ S r Q
theorem get_any (hu : X.A.units + 1 < cLine) : PGet X (rGetK X.K) := by
  intro pins s σ H o i ov iv Q I ro ri h
  obtain ⟨W, F, μ, S, d, e, r, st, hd, he, hb, p⟩ := h
  unfold augGet at hb
  split at hb
  · rename_i j
    obtain ⟨a, hj, rfl⟩ := hd
    cases c : S[j]? with
    | none => rw [c] at hb; cases hb
    | some cc =>
      rw [c] at hb
      cases cc with
      | lst xs => cases hb
      | dk kvs =>
        obtain ⟨ws, h1, h2⟩ := st.dk hj c
        simp only at hb
        cases z : keyD e with
        | none => rw [z] at hb; cases hb
        | some q =>
          rw [z] at hb
          obtain ⟨v, h3, h4⟩ := h2.look (show lookK kvs q = some r from hb)
          have hk := key_rep he z
          subst hk
          have e2 : ov = Value.ref a := ro
          subst e2
          exact d_getItem hu I (by rw [← h3]; exact DGet.k h1) ri fun w' s3 I3 rw' => ⟨v, H, I3, rw', p.same st h4⟩
  · cases hb

/-! ### stores -/
structure GoodS (G : GT) (cl : Nat → List D → Sto → Rs D) (k : Nat) (Γ : Syn) (X : Cx) : Prop extends Good G cl k Γ X where
  kd : Γ.sc.kind = .function
theorem GoodS.bk (g : GoodS G cl k Γ X) : X.env.blockKind = .function := by
  unfold PySem.Env.blockKind
  rw [g.sc, g.kd]
  rfl
theorem asg_none_name {x : Str} {p : Pos} {v : Expr} {env : PySem.Env} : swappedStores [.Name x p] v env = pure none := by
  cases v <;> rfl
theorem asg_none_val {ts : List Expr} {n : Nat} {p : Pos} {v : Expr} {env : PySem.Env} (h : ∀ vs m q, v ≠ .Tuple vs m q) : swappedStores [.Tuple ts n p] v env = pure none := by
  cases v <;> first | rfl | exact absurd rfl (h _ _ _)
theorem asg_none_sub {o i : Expr} {p : Pos} {v : Expr} {env : PySem.Env} : swappedStores [.Subscript o i p] v env = pure none := by
  cases v <;> rfl
theorem noSw_ok (g : GoodS G cl k Γ X) {ts vs : List Expr} {n m : Nat} {p q : Pos} (h : noSw Γ ts vs = true) : swappedStores [.Tuple ts n p] (.Tuple vs m q) X.env = pure none := by
  unfold swappedStores
  simp only [pure_bind]
  unfold noSw at h
  by_cases c1 : (!(ts.length == 2 || ts.length == 3) || vs.length != ts.length) = true
  · have : (!(ts.length == 2 || ts.length == 3) || vs.length != ts.length || X.env.blockKind != ScopeKind.function) = true := by rw [c1]; rfl
    rw [if_pos this]
  · rw [Bool.not_eq_true] at c1
    rw [c1, Bool.false_or] at h
    have hbk : (X.env.blockKind != ScopeKind.function) = false := by rw [g.bk]; rfl
    have : (!(ts.length == 2 || ts.length == 3) || vs.length != ts.length || X.env.blockKind != ScopeKind.function) = false := by rw [c1, hbk]; rfl
    rw [if_neg (by rw [this]; exact Bool.false_ne_true)]
    split
    · rfl
    · have hk : ∀ id, X.env.kindOf id = Γ.sc.names.lookup id := fun id => by show X.env.scope.names.lookup id = _; rw [g.sc]
      simp only [hk]
      rcases Bool.or_eq_true_iff.mp h with h | h
      · split
        · rfl
        · rename_i hh
          exact absurd (Bool.or_eq_true_iff.mpr (Or.inl h)) hh
      · split
        · rfl
        · first | rfl | rw [if_pos h]
theorem sw2_ok (g : GoodS G cl k Γ X) {x y : Str} {px py p q : Pos} {a b : Expr} {n m : Nat} (hs : swB [px, py] [a, b] = true) (hx : X.env.scope.names.lookup x = some .local) (hy : X.env.scope.names.lookup y = some .local) (hxy : x ≠ y) (oa : okX a = true) (ob : okX b = true) :
    swappedStores [.Tuple [.Name x px, .Name y py] n p] (.Tuple [a, b] m q) X.env = pure (some [x, y]) := by
  obtain ⟨h1, h2⟩ := Rw.bk hs
  obtain ⟨h3, h4⟩ := Rw.bk h2
  have hl : (py.line == px.line) = true := by simpa using h1
  have kx : (X.env.kindOf x == some NameKind.local) = true := by show (X.env.scope.names.lookup x == some NameKind.local) = true; rw [hx]; rfl
  have ky : (X.env.kindOf y == some NameKind.local) = true := by show (X.env.scope.names.lookup y == some NameKind.local) = true; rw [hy]; rfl
  have hbk : (X.env.blockKind != ScopeKind.function) = false := by rw [g.bk]; rfl
  have hst : ([a, b].any fun
    | .Starred .. => true
    | _ => false) = false := by
    cases a <;> first | (cases oa; done) | skip
    all_goals (cases b <;> first | rfl | cases ob)
  have hlx : (px.line == px.line) = true := by simp
  have hf1 : [a, b].all (foldedForSure 8) = false := by
    cases q : [a, b].all (foldedForSure 8) with
    | true => rw [q] at h3; cases h3
    | false => rfl
  have hf2 : [a, b].all (constantsAlone 8) = false := by
    cases q : [a, b].all (constantsAlone 8) with
    | true => rw [q] at h4; cases h4
    | false => rfl
  have hd : ([x, y] : List Str).eraseDups.length = 2 := by
    have e1 : (y == x) = false := by rw [beq_eq_false_iff_ne]; exact Ne.symm hxy
    simp [List.eraseDups_cons, e1]
  unfold swappedStores
  simp only [pure_bind]
  split
  · rename_i hh
    rw [hbk] at hh
    simp at hh
  · split
    · rename_i hh
      exact absurd (hst.symm.trans hh) Bool.false_ne_true
    · simp only [List.head?_cons, Option.map_some, Option.getD_some, List.filterMap_cons, kx, ky, Bool.true_and, Expr.pos, hl, hlx, if_true, List.filterMap_nil, List.length_cons, List.length_nil, Nat.zero_add, hd, hf1, hf2]
      rfl
theorem sw3_ok (g : GoodS G cl k Γ X) {x y z : Str} {px py pz p q : Pos} {a b c : Expr} {n m : Nat} (hs : swB [px, py, pz] [a, b, c] = true) (hx : X.env.scope.names.lookup x = some .local) (hy : X.env.scope.names.lookup y = some .local) (hz : X.env.scope.names.lookup z = some .local) (hne : x ≠ y ∧ x ≠ z ∧ y ≠ z) (oa : okX a = true) (ob : okX b = true) (oc : okX c = true) :
    swappedStores [.Tuple [.Name x px, .Name y py, .Name z pz] n p] (.Tuple [a, b, c] m q) X.env = pure (some [x, y, z]) := by
  obtain ⟨h1, h2⟩ := Rw.bk hs
  obtain ⟨h3, h4⟩ := Rw.bk h2
  have hl2 : (py.line == px.line) = true ∧ (pz.line == px.line) = true := by simpa using h1
  have hl := hl2.1
  have hlz := hl2.2
  have kx : (X.env.kindOf x == some NameKind.local) = true := by show (X.env.scope.names.lookup x == some NameKind.local) = true; rw [hx]; rfl
  have ky : (X.env.kindOf y == some NameKind.local) = true := by show (X.env.scope.names.lookup y == some NameKind.local) = true; rw [hy]; rfl
  have kz : (X.env.kindOf z == some NameKind.local) = true := by show (X.env.scope.names.lookup z == some NameKind.local) = true; rw [hz]; rfl
  have hbk : (X.env.blockKind != ScopeKind.function) = false := by rw [g.bk]; rfl
  have hP : ∀ e : Expr, okX e = true → ((fun
    | .Starred .. => true
    | _ => false : Expr → Bool) e) = false := by
    intro e he
    cases e <;> first | rfl | cases he
  have hst : ([a, b, c].any fun
    | .Starred .. => true
    | _ => false) = false := by
    rw [List.any_eq_false]
    intro e he w
    refine Bool.false_ne_true ((hP e ?_).symm.trans w)
    simp only [List.mem_cons, List.not_mem_nil, or_false] at he
    rcases he with rfl | rfl | rfl <;> assumption
  have hlx : (px.line == px.line) = true := by simp
  have hf1 : [a, b, c].all (foldedForSure 8) = false := by
    cases q : [a, b, c].all (foldedForSure 8) with
    | true => rw [q] at h3; cases h3
    | false => rfl
  have hf2 : [a, b, c].all (constantsAlone 8) = false := by
    cases q : [a, b, c].all (constantsAlone 8) with
    | true => rw [q] at h4; cases h4
    | false => rfl
  have hd : ([x, y, z] : List Str).eraseDups.length = 3 := by
    have e1 : (y == x) = false := by rw [beq_eq_false_iff_ne]; exact Ne.symm hne.1
    have e2 : (z == x) = false := by rw [beq_eq_false_iff_ne]; exact Ne.symm hne.2.1
    have e3 : (z == y) = false := by rw [beq_eq_false_iff_ne]; exact Ne.symm hne.2.2
    simp [List.eraseDups_cons, e1, e2, e3]
  unfold swappedStores
  simp only [pure_bind]
  split
  · rename_i hh
    rw [hbk] at hh
    simp at hh
  · split
    · rename_i hh
      exact absurd (hst.symm.trans hh) Bool.false_ne_true
    · simp only [List.head?_cons, Option.map_some, Option.getD_some, List.filterMap_cons, kx, ky, kz, Bool.true_and, Expr.pos, hl, hlz, hlx, if_true, List.filterMap_nil, List.length_cons, List.length_nil, Nat.zero_add, hd, hf1, hf2]
      rfl
theorem ts_asg (g : GoodS G cl k Γ X) {tg : MG} {e : ME} {t v : Expr} {pos : Pos} (hn : notLc v = true) (hw : swappedStores [t] v X.env = pure none) (ht : chkG tg Γ t = true) (hv : PE X v (TR X.K (evE G cl e))) : PS X (.Assign [t] v pos) (TSR X.K (evS G cl (.asg tg e))) := by
  have ot : okX t = true := by
    cases tg <;> cases t <;> first | rfl | exact absurd (show false = true from ht) Bool.false_ne_true
  refine (ps_asg hv (chkG_ok g.toSy tg t ht) (swaps_ok hn _ _ _) hw (by rw [asgEach_ok ot]; rfl)).weak ?_
  rintro D σ H ⟨W, F, μ, ρ, S, fl, S', st, en, e1, p⟩
  obtain ⟨d, S1, e2, e3⟩ := bnd_inv e1
  obtain ⟨ρ1, e4, e5⟩ := lft_inv e3
  cases e5
  exact ⟨W, F, μ, ρ, S, d, _, st, en, e2, fun x H1 W1 μ1 x1 st1 r1 => ⟨W1, F, μ1, ρ, _, d, ρ1, st1, en.mono x1, r1, e4, fun σ1 en1 _ _ => p σ1 H1 W1 μ1 x1 st1 en1⟩⟩
theorem sw_cell {y : Str} {py : Pos} {elt : Expr} {gs : List Comprehension} {scope : Scope} {pos : Pos} {l : Nat} (h : X.env.scope.names.lookup y = some .cell) : swapsWithSole [.Name y py] (.ListComp elt gs scope pos) l X.env = pure false := by
  show (pure (X.env.blockKind == .function && X.env.kindOf y == some .local && py.line == pos.line && !(scope.names.any fun (n, k) => n == y && (k == .local || k == .cell))) : Sem Bool) = pure false
  have e : (X.env.kindOf y == some NameKind.local) = false := by show (X.env.scope.names.lookup y == some NameKind.local) = false; rw [h]; rfl
  rw [e]
  simp
theorem ts_asgC (g : GoodS G cl k Γ X) {tg : MG} {e : ME} {t v : Expr} {pos : Pos} (hn : swapsWithSole [t] v pos.line X.env = pure false) (hw : swappedStores [t] v X.env = pure none) (ht : chkG tg Γ t = true) (hv : PE X v (TR X.K (evE G cl e))) : PS X (.Assign [t] v pos) (TSR X.K (evS G cl (.asg tg e))) := by
  have ot : okX t = true := by
    cases tg <;> cases t <;> first | rfl | exact absurd (show false = true from ht) Bool.false_ne_true
  refine (ps_asg hv (chkG_ok g.toSy tg t ht) hn hw (by rw [asgEach_ok ot]; rfl)).weak ?_
  rintro D σ H ⟨W, F, μ, ρ, S, fl, S', st, en, e1, p⟩
  obtain ⟨d, S1, e2, e3⟩ := bnd_inv e1
  obtain ⟨ρ1, e4, e5⟩ := lft_inv e3
  cases e5
  exact ⟨W, F, μ, ρ, S, d, _, st, en, e2, fun x H1 W1 μ1 x1 st1 r1 => ⟨W1, F, μ1, ρ, _, d, ρ1, st1, en.mono x1, r1, e4, fun σ1 en1 _ _ => p σ1 H1 W1 μ1 x1 st1 en1⟩⟩
theorem ts_lc (g : GoodS G cl k Γ X) {i : Nat} {y : Str} {py : Pos} {mu : Bool} {vs : List Nat} {me : ME} {mg : MG} {mi : MI} {mc : MO} {elt tg iter : Expr} {ifs : List Expr} {scope : Scope} {pos spos : Pos} (hy : locB Γ i y = true) (hyl : Γ.sc.names.lookup y = some .local) (hln : (py.line == pos.line) = true)
    (hany : (scope.names.any fun (n, k) => n == y && (k == .local || k == .cell)) = false) (hs : ∀ i ∈ slG mg, i ∈ vs) (ok : okX iter = true) (hb : blkC Γ.N Γ.sc scope (ownOf Γ.N vs) = true)
    (hi : PI X tg iter (TIR X.K (evI G cl mi))) (L : LcOk G cl X scope elt tg ifs me mg mc) : PS X (.Assign [.Name y py] (.ListComp elt [⟨tg, iter, ifs, 0⟩] scope pos) spos) (TSR X.K (evS G cl (.asg (.name i) (.lc mu vs me mg mi mc)))) := by
  have B : BlkOk X.N X.env.scope scope (ownOf Γ.N vs) := by rw [g.N, g.sc]; exact blkOk_by hb
  obtain ⟨h1, h2, h3⟩ := loc_ok g.toSy hy
  have hl' : X.env.scope.names.lookup y = some .local := by rw [g.sc]; exact hyl
  have h := ps_setLc (py := py) (pos := pos) (spos := spos) g.calm g.nd h1 hl' (sw_true (by rw [g.sc]; exact g.kd) hl' hln hany) hi B L.g L.t L.e (fold_ok ok X.env)
  rw [own_snd] at h
  refine h.weak ?_
  rintro D σ H ⟨W, F, μ, ρ, S, fl, S', st, en, e1, p⟩
  obtain ⟨d, S1, e2, e3⟩ := bnd_inv e1
  obtain ⟨ρ1, e4, e5⟩ := lft_inv e3
  cases e5
  refine lc_w hs σ H _ ⟨W, F, μ, ρ, S, d, _, st, en, e2, fun x H1 W1 μ1 x1 st1 r1 => ?_⟩
  have e4 : (if i < ρ.length then some (ρ.set i (some d)) else none) = some ρ1 := e4
  split at e4
  · cases e4
    exact p _ H1 W1 μ1 x1 st1 ((en.mono x1).set r1)
  · cases e4
theorem ts_lc2 (g : GoodS G cl k Γ X) {i : Nat} {y : Str} {py : Pos} {mu : Bool} {vs vs1 : List Nat} {me : ME} {mg mg1 : MG} {mi mi1 : MI} {mc mc1 : MO} {elt tg iter tg1 iter1 : Expr} {ifs ifs1 : List Expr} {scope : Scope} {pos spos : Pos} (hy : locB Γ i y = true) (hyl : Γ.sc.names.lookup y = some .local) (hln : (py.line == pos.line) = true)
    (hany : (scope.names.any fun (n, k) => n == y && (k == .local || k == .cell)) = false) (hv : ∀ i ∈ vs1, i ∈ vs) (hs : ∀ i ∈ slG mg, i ∈ vs) (hs1 : ∀ i ∈ slG mg1, i ∈ vs1) (ok : okX iter = true) (ok1 : okX iter1 = true) (hb : blkC Γ.N Γ.sc scope (ownOf Γ.N vs) = true)
    (hi : PI X tg iter (TIR X.K (evI G cl mi))) (L : Lc2Ok G cl X scope elt tg ifs tg1 iter1 ifs1 me mg mc mg1 mi1 mc1) : PS X (.Assign [.Name y py] (.ListComp elt [⟨tg, iter, ifs, 0⟩, ⟨tg1, iter1, ifs1, 0⟩] scope pos) spos) (TSR X.K (evS G cl (.asg (.name i) (.lc2 mu vs me mg mi mc vs1 mg1 mi1 mc1)))) := by
  have B : BlkOk X.N X.env.scope scope (ownOf Γ.N vs) := by rw [g.N, g.sc]; exact blkOk_by hb
  obtain ⟨h1, h2, h3⟩ := loc_ok g.toSy hy
  have hl' : X.env.scope.names.lookup y = some .local := by rw [g.sc]; exact hyl
  have h := ps_setLc2 (vs1 := vs1) (py := py) (pos := pos) (spos := spos) g.calm g.nd h1 hl' (sw_true (by rw [g.sc]; exact g.kd) hl' hln hany) hi B (by rw [own_snd]; exact hv) L.g L.t L.i1 L.g1 L.t1 L.e (fold_ok ok X.env) (fun env x => fold_ok ok1 env x)
  rw [own_snd] at h
  refine h.weak ?_
  rintro D σ H ⟨W, F, μ, ρ, S, fl, S', st, en, e1, p⟩
  obtain ⟨d, S1, e2, e3⟩ := bnd_inv e1
  obtain ⟨ρ1, e4, e5⟩ := lft_inv e3
  cases e5
  refine lc2_w hs hs1 σ H _ ⟨W, F, μ, ρ, S, d, _, st, en, e2, fun x H1 W1 μ1 x1 st1 r1 => ?_⟩
  have e4 : (if i < ρ.length then some (ρ.set i (some d)) else none) = some ρ1 := e4
  split at e4
  · cases e4
    exact p _ H1 W1 μ1 x1 st1 ((en.mono x1).set r1)
  · cases e4
theorem lcl_ok (y : Sy Γ X) {i : Nat} {x : Str} (h : lclB Γ i x = true) : X.N[i]? = some x ∧ X.env.scope.names.lookup x = some .local := by
  obtain ⟨h1, h2⟩ := bk h
  exact ⟨by rw [y.N]; exact dec h1, by rw [y.sc]; exact dec h2⟩
theorem ts_par2 (g : GoodS G cl k Γ X) {i j : Nat} {a b : ME} {x y : Str} {u v : Expr} {px py p q pos : Pos} {n m : Nat} (hs : swB [px, py] [u, v] = true) (hx : lclB Γ i x = true) (hy : lclB Γ j y = true) (hij : i ≠ j) (hxy : x ≠ y) (ou : okX u = true) (ov : okX v = true)
    (ha : PE X u (TR X.K (evE G cl a))) (hb : PE X v (TR X.K (evE G cl b))) : PS X (.Assign [.Tuple [.Name x px, .Name y py] n p] (.Tuple [u, v] m q) pos) (TSR X.K (evS G cl (.par2 i j a b))) := by
  obtain ⟨h1, h2⟩ := lcl_ok g.toSy hx
  obtain ⟨h3, h4⟩ := lcl_ok g.toSy hy
  refine (ps_par g.calm g.nd h1 h3 hij h2 h4 (pa_cons ha (pa_cons hb pa_nil (star_ok ov _ _)) (star_ok ou _ _)) (sw2_ok g hs h2 h4 hxy ou ov)).weak ?_
  rintro D σ H ⟨W, F, μ, ρ, S, fl, S', st, en, e1, p⟩
  obtain ⟨d, S1, e2, e3⟩ := bnd_inv e1
  obtain ⟨e, S2, e4, e5⟩ := bnd_inv e3
  cases e5
  exact ⟨W, F, μ, ρ, S, d, S1, st, en, e2, fun v1 H1 W1 μ1 x1 st1 r1 => ⟨W1, F, μ1, ρ, S1, e, _, st1, en.mono x1, e4, fun v2 H2 W2 μ2 x2 st2 r2 => ⟨v1, v2, rfl, p _ H2 W2 μ2 (x1.trans x2) st2 (((en.mono (x1.trans x2)).set (r1.m x2)).set r2)⟩⟩⟩
theorem ts_par3 (g : GoodS G cl k Γ X) {i j l : Nat} {a b c : ME} {x y z : Str} {u v w : Expr} {px py pz p q pos : Pos} {n m : Nat} (hs : swB [px, py, pz] [u, v, w] = true) (hx : lclB Γ i x = true) (hy : lclB Γ j y = true) (hz : lclB Γ l z = true) (hij : i ≠ j ∧ i ≠ l ∧ j ≠ l) (hxy : x ≠ y ∧ x ≠ z ∧ y ≠ z) (ou : okX u = true) (ov : okX v = true) (ow : okX w = true)
    (ha : PE X u (TR X.K (evE G cl a))) (hb : PE X v (TR X.K (evE G cl b))) (hc : PE X w (TR X.K (evE G cl c))) : PS X (.Assign [.Tuple [.Name x px, .Name y py, .Name z pz] n p] (.Tuple [u, v, w] m q) pos) (TSR X.K (evS G cl (.par3 i j l a b c))) := by
  obtain ⟨h1, h2⟩ := lcl_ok g.toSy hx
  obtain ⟨h3, h4⟩ := lcl_ok g.toSy hy
  obtain ⟨h5, h6⟩ := lcl_ok g.toSy hz
  refine (ps_par3 g.calm g.nd h1 h3 h5 hij.1 hij.2.1 hij.2.2 h2 h4 h6 (pa_cons ha (pa_cons hb (pa_cons hc pa_nil (star_ok ow _ _)) (star_ok ov _ _)) (star_ok ou _ _)) (sw3_ok g hs h2 h4 h6 hxy ou ov ow)).weak ?_
  rintro D σ H ⟨W, F, μ, ρ, S, fl, S', st, en, e1, p⟩
  obtain ⟨d, S1, e2, e3⟩ := bnd_inv e1
  obtain ⟨e, S2, e4, e5⟩ := bnd_inv e3
  obtain ⟨f, S3, e6, e7⟩ := bnd_inv e5
  cases e7
  exact ⟨W, F, μ, ρ, S, d, S1, st, en, e2, fun v1 H1 W1 μ1 x1 st1 r1 => ⟨W1, F, μ1, ρ, S1, e, S2, st1, en.mono x1, e4, fun v2 H2 W2 μ2 x2 st2 r2 => ⟨W2, F, μ2, ρ, S2, f, _, st2, en.mono (x1.trans x2), e6, fun v3 H3 W3 μ3 x3 st3 r3 => ⟨v1, v2, v3, rfl, p _ H3 W3 μ3 ((x1.trans x2).trans x3) st3 ((((en.mono ((x1.trans x2).trans x3)).set (r1.m (x2.trans x3))).set (r2.m x3)).set r3)⟩⟩⟩⟩
theorem ts_aug (g : GoodS G cl k Γ X) {i : Nat} {op : Operator} {e : ME} {x : Str} {v : Expr} {p pos : Pos} (hx : locB Γ i x = true) (hv : PE X v (TR X.K (evE G cl e))) : PS X (.AugAssign (.Name x p) op v pos) (TSR X.K (evS G cl (.aug i op e))) := by
  obtain ⟨h1, h2, h3⟩ := loc_ok g.toSy hx
  refine (ps_aug g.nd h1 h2 hv (ip_any op) h3).weak ?_
  rintro D σ H ⟨W, F, μ, ρ, S, fl, S', st, en, e1, p⟩
  cases c : ρ[i]? with
  | none => simp only [evS, c] at e1; cases e1
  | some q =>
    cases q with
    | none => simp only [evS, c] at e1; cases e1
    | some d =>
      simp only [evS, c] at e1
      obtain ⟨y, S1, e2, e3⟩ := bnd_inv e1
      obtain ⟨r, e4, e5⟩ := lft_inv e3
      cases e5
      obtain ⟨u, hu, ru⟩ := en.2 i d c
      exact ⟨u, hu, W, F, μ, ρ, S, y, _, st, en, e2, fun v1 H1 W1 μ1 x1 st1 r1 => ⟨W1, F, μ1, _, d, y, r, st1, ru.m x1, r1, e4, fun v2 H2 W2 μ2 x2 st2 r2 => p _ H2 W2 μ2 (x1.trans x2) st2 ((en.mono (x1.trans x2)).set r2)⟩⟩
theorem ts_setI (g : GoodS G cl k Γ X) {o i e : ME} {p q v : Expr} {tp pos : Pos} (ok : okX q = true) (hn : notLc v = true) (hv : PE X v (TR X.K (evE G cl e))) (ho : PE X p (TR X.K (evE G cl o))) (hi : PE X q (TR X.K (evE G cl i))) : PS X (.Assign [.Subscript p q tp] v pos) (TSR X.K (evS G cl (.setI o i e))) := by
  refine (ps_asg hv (pg_sub ho hi (set_any g.hu1) fun w => asgsub_ok ok p tp X.env w) (show swapsWithSole [.Subscript p q tp] v pos.line X.env = pure false from swaps_ok hn (some (.Subscript p q tp)) pos.line X.env) asg_none_sub (by rfl)).weak ?_
  rintro D σ H ⟨W, F, μ, ρ, S, fl, S', st, en, e1, p⟩
  obtain ⟨d1, S1, e2, e3⟩ := bnd_inv e1
  obtain ⟨d2, S2, e4, e5⟩ := bnd_inv e3
  obtain ⟨d3, S3, e6, e7⟩ := bnd_inv e5
  obtain ⟨S4, e8, e9⟩ := lft_inv e7
  cases e9
  exact ⟨W, F, μ, ρ, S, d1, S1, st, en, e2, fun v1 H1 W1 μ1 x1 st1 r1 => ⟨W1, F, μ1, ρ, S1, d2, S2, st1, en.mono x1, e4, fun v2 H2 W2 μ2 x2 st2 r2 => ⟨W2, F, μ2, ρ, S2, d3, S3, st2, en.mono (x1.trans x2), e6, fun v3 H3 W3 μ3 x3 st3 r3 =>
    ⟨W3, F, μ3, S3, d2, d3, d1, _, st3, r2.m x3, r3, r1.m (x2.trans x3), e8, fun H4 W4 μ4 x4 st4 => p σ H4 W4 μ4 (((x1.trans x2).trans x3).trans x4) st4 (en.mono (((x1.trans x2).trans x3).trans x4))⟩⟩⟩⟩
theorem ts_augI (g : GoodS G cl k Γ X) {o i e : ME} {op : Operator} {p q v : Expr} {tp pos : Pos} (ok : okX q = true) (hv : PE X v (TR X.K (evE G cl e))) (ho : PE X p (TR X.K (evE G cl o))) (hi : PE X q (TR X.K (evE G cl i))) : PS X (.AugAssign (.Subscript p q tp) op v pos) (TSR X.K (evS G cl (.augI o i op e))) := by
  refine (ps_augS ho hi (get_any g.hu1) hv (ip_any op) (set_any g.hu1) fun ov iv new => aug_ok ok ov iv new).weak ?_
  rintro D σ H ⟨W, F, μ, ρ, S, fl, S', st, en, e1, p⟩
  obtain ⟨d1, S1, e2, e3⟩ := bnd_inv e1
  obtain ⟨d2, S2, e4, e5⟩ := bnd_inv e3
  obtain ⟨dx, e6, e7⟩ := lft_inv e5
  obtain ⟨d3, S3, e8, e9⟩ := bnd_inv e7
  obtain ⟨r, e10, e11⟩ := lft_inv e9
  obtain ⟨S4, e12, e13⟩ := lft_inv e11
  cases e13
  refine ⟨W, F, μ, ρ, S, d1, S1, st, en, e2, fun v1 H1 W1 μ1 x1 st1 r1 => ⟨W1, F, μ1, ρ, S1, d2, S2, st1, en.mono x1, e4, fun v2 H2 W2 μ2 x2 st2 r2 => ⟨W2, F, μ2, S2, d1, d2, dx, st2, r1.m x2, r2, e6, fun v3 H3 W3 μ3 x3 st3 r3 => ?_⟩⟩⟩
  refine ⟨W3, F, μ3, ρ, S2, d3, S3, st3, en.mono ((x1.trans x2).trans x3), e8, fun v4 H4 W4 μ4 x4 st4 r4 => ⟨W4, F, μ4, S3, dx, d3, r, st4, r3.m x4, r4, e10, fun v5 H5 W5 μ5 x5 st5 r5 => ?_⟩⟩
  exact ⟨W5, F, μ5, S3, d1, d2, r, _, st5, r1.m (((x2.trans x3).trans x4).trans x5), r2.m ((x3.trans x4).trans x5), r5, e12, fun H6 W6 μ6 x6 st6 => p σ H6 W6 μ6 (((((x1.trans x2).trans x3).trans x4).trans x5).trans x6) st6 (en.mono (((((x1.trans x2).trans x3).trans x4).trans x5).trans x6))⟩
theorem ts_if {c : ME} {a b : MSs} {t : Expr} {x y : List Stmt} {pos : Pos} (hc : PT X t (TTR X.K (evT G cl c))) (ha : PSs X x (TSR X.K (evSs G cl a))) (hb : PSs X y (TSR X.K (evSs G cl b))) : PS X (.If t x y pos) (TSR X.K (evS G cl (.ifS c a b))) := by
  refine (ps_if hc ha hb).weak ?_
  rintro D σ H ⟨W, F, μ, ρ, S, fl, S', st, en, e1, p⟩
  obtain ⟨t, S1, e2, e3⟩ := bnd_inv e1
  refine ⟨W, F, μ, ρ, S, t, S1, st, en, e2, fun H1 W1 μ1 x1 st1 => ?_⟩
  cases t with
  | true => rw [if_pos rfl] at e3 ⊢; exact ⟨W1, F, μ1, ρ, S1, fl, S', st1, en.mono x1, e3, p.ext x1⟩
  | false => rw [if_neg Bool.false_ne_true] at e3 ⊢; exact ⟨W1, F, μ1, ρ, S1, fl, S', st1, en.mono x1, e3, p.ext x1⟩
theorem ts_whl (g : GoodS G cl k Γ X) {c : ME} {b : MSs} {t : Expr} {x : List Stmt} {pos : Pos} (hc : PT X t (TTR X.K (evT G cl c))) (hb : PSs X x (TSR X.K (evSs G cl b))) : PS X (.While t x [] pos) (TSR X.K (evS G cl (.whl c b))) := by
  refine (ps_while g.passes hc hb).weak ?_
  rintro D σ H ⟨W, F, μ, ρ, S, fl, S', st, en, e1, p⟩
  exact while_reads st en e1 p
theorem ts_for (g : GoodS G cl k Γ X) {tg : MG} {it : MI} {b : MSs} {t i : Expr} {x : List Stmt} {pos : Pos} (ok : okX i = true) (ht : chkG tg Γ t = true) (hi : PI X t i (TIR X.K (evI G cl it))) (hb : PSs X x (TSR X.K (evSs G cl b))) : PS X (.For t i x [] pos) (TSR X.K (evS G cl (.forS tg it b))) := by
  refine (ps_for g.passes g.calm hi (chkG_ok g.toSy tg t ht) hb (fold_ok ok X.env)).weak ?_
  rintro D σ H ⟨W, F, μ, ρ, S, fl, S', st, en, e1, p⟩
  obtain ⟨w, S1, e2, e3⟩ := bnd_inv e1
  exact ⟨W, F, μ, ρ, S, w, S1, st, en, e2, fun J H1 W1 μ1 x1 st1 wk => for_reads st1 (en.mono x1) wk e3 (p.ext x1)⟩
theorem ts_ret {e : ME} {v : Expr} {pos : Pos} (hv : PE X v (TR X.K (evE G cl e))) : PS X (.Return (some v) pos) (TSR X.K (evS G cl (.ret e))) := by
  refine (ps_ret hv).weak ?_
  rintro D σ H ⟨W, F, μ, ρ, S, fl, S', st, en, e1, p⟩
  obtain ⟨d, S1, e2, e3⟩ := bnd_inv e1
  cases e3
  exact ⟨W, F, μ, ρ, S, d, _, st, en, e2, p⟩
theorem ts_ex {e : ME} {v : Expr} {pos : Pos} (hn : notLc v = true) (hv : PE X v (TR X.K (evE G cl e))) : PS X (.Expr v pos) (TSR X.K (evS G cl (.ex e))) := by
  refine (ps_expr hv (swaps_ok hn _ _ _)).weak ?_
  rintro D σ H ⟨W, F, μ, ρ, S, fl, S', st, en, e1, p⟩
  obtain ⟨d, S1, e2, e3⟩ := bnd_inv e1
  cases e3
  exact ⟨W, F, μ, ρ, S, d, _, st, en, e2, fun v H1 W1 μ1 x1 st1 _ => p σ H1 W1 μ1 x1 st1 (en.mono x1)⟩
theorem tss_cons {s : MS} {ss : MSs} {x : Stmt} {xs : List Stmt} (h : PS X x (TSR X.K (evS G cl s))) (hs : PSs X xs (TSR X.K (evSs G cl ss))) : PSs X (x :: xs) (TSR X.K (evSs G cl (.cons s ss))) := by
  refine (pss_cons h hs).weak ?_
  rintro D σ H ⟨W, F, μ, ρ, S, fl, S', st, en, e1, p⟩
  obtain ⟨fl1, S1, e2, e3⟩ := bnd_inv e1
  refine ⟨W, F, μ, ρ, S, fl1, S1, st, en, e2, ?_⟩
  cases fl1 with
  | nx ρ1 => exact fun σ1 H1 W1 μ1 x1 st1 en1 => ⟨W1, F, μ1, ρ1, S1, fl, S', st1, en1, e3, p.ext x1⟩
  | bk ρ1 => cases e3; exact p
  | rt d => cases e3; exact p
theorem tss_nil : PSs X [] (TSR X.K (evSs G cl .nil)) := pss_nil.weak (by
  rintro D σ H ⟨W, F, μ, ρ, S, fl, S', st, en, e1, p⟩
  cases e1
  exact p σ H W μ Ext.refl st en)
/-- a comprehension's text is a comprehension -/
theorem lc_only {m : ME} {Γ : Syn} {elt : Expr} {gs : List Comprehension} {scope : Scope} {pos : Pos} (h : chkE G m Γ (.ListComp elt gs scope pos) = true) : (∃ mu vs me mg mi mc, m = .lc mu vs me mg mi mc) ∨ ∃ mu vs me mg mi mc vs1 mg1 mi1 mc1, m = .lc2 mu vs me mg mi mc vs1 mg1 mi1 mc1 := by
  cases m <;> first | exact .inl ⟨_, _, _, _, _, _, rfl⟩ | exact .inr ⟨_, _, _, _, _, _, _, _, _, _, rfl⟩ | exact absurd (show false = true from h) Bool.false_ne_true
end
theorem asgB_other {Γ : Syn} {t v : Expr} (h1 : ∀ y py e gs s p, ¬ (t = .Name y py ∧ v = .ListComp e gs s p)) (h2 : ∀ ts n p vs m q, ¬ (t = .Tuple ts n p ∧ v = .Tuple vs m q)) (h : asgB Γ t v = true) : notLc v = true := by
  unfold asgB at h
  split at h
  · exact absurd ⟨rfl, rfl⟩ (h1 _ _ _ _ _ _)
  · exact absurd ⟨rfl, rfl⟩ (h2 _ _ _ _ _ _)
  · exact h
mutual
theorem chkS_ok {G : GT} {cl : Nat → List D → Sto → Rs D} {k : Nat} {Γ : Syn} {X : Cx} (g : GoodS G cl k Γ X) : ∀ (m : MS) (st : Stmt), chkS G m Γ st = true → PS X st (TSR X.K (evS G cl m))
  | .asg tg e, st, h => by
    cases st <;> try (exact absurd (show false = true from h) Bool.false_ne_true)
    rename_i ts v pos
    match ts, h with
    | [t], h =>
      obtain ⟨h1, h2⟩ := bk (show (asgB Γ t v && (chkG tg Γ t && chkE G e Γ v)) = true from h)
      obtain ⟨h3, h4⟩ := bk h2
      by_cases c1 : ∃ y py e gs s p, t = .Name y py ∧ v = .ListComp e gs s p
      · obtain ⟨y, py, e', gs, s, p, rfl, rfl⟩ := c1
        by_cases qc : Γ.sc.names.lookup y = some .cell
        · exact ts_asgC g (sw_cell (by rw [g.sc]; exact qc)) asg_none_name h3 (chkE_ok e _ g.toGood h4).pe
        obtain ⟨q1, q2⟩ := bk (show (decide (Γ.sc.names.lookup y = some .local) && ((py.line == p.line) && !(s.names.any fun (n, k) => n == y && (k == .local || k == .cell)))) = true by
          have h1 : ((decide (Γ.sc.names.lookup y = some .local) && ((py.line == p.line) && !(s.names.any fun (n, k) => n == y && (k == .local || k == .cell)))) || decide (Γ.sc.names.lookup y = some .cell)) = true := h1
          rw [decide_eq_false qc, Bool.or_false] at h1
          exact h1)
        obtain ⟨q3, q4⟩ := bk q2
        cases tg with
        | tup _ => exact absurd (show false = true from h3) Bool.false_ne_true
        | name i =>
         rcases lc_only h4 with ⟨mu, vs, me, mg, mi, mc, rfl⟩ | ⟨mu, vs, me, mg, mi, mc, vs1, mg1, mi1, mc1, rfl⟩
         · match gs, h4 with
          | [⟨t', it', ifs, a⟩], h4 =>
            obtain ⟨a1, a2⟩ := bk (show (decide (a = 0) && (okX it' && (blkC Γ.N Γ.sc s (ownOf Γ.N vs) && ((slG mg).all (fun j => decide (j ∈ vs)) &&
              (chkG mg (Γ.blk s) t' && (chkI G mi Γ it' && (chkCs G mc (Γ.blk s) ifs && chkE G me (Γ.blk s) e'))))))) = true from h4)
            obtain ⟨a3, a4⟩ := bk a2
            obtain ⟨a5, a6⟩ := bk a4
            obtain ⟨a7, a8⟩ := bk a6
            obtain ⟨a9, a10⟩ := bk a8
            obtain ⟨a11, a12⟩ := bk a10
            obtain ⟨a13, a14⟩ := bk a12
            cases (dec a1)
            exact ts_lc g h3 (dec q1) q3 (by simpa using q4) (fun j hj => dec (List.all_eq_true.mp a7 j hj)) a3 a5 (chkI_ok mi it' g.toGood a11)
              ⟨fun s H C cells fp => chkG_ok (g.toGood.blk s H C cells fp).toSy mg t' a9, fun s H C cells fp => chkCs_ok mc ifs (g.toGood.blk s H C cells fp) a13, fun s H C cells fp => (chkE_ok me e' (g.toGood.blk s H C cells fp) a14).pe⟩
          | [], h4 => exact absurd (show false = true from h4) Bool.false_ne_true
          | ⟨_, _, _, _⟩ :: _ :: _, h4 => exact absurd (show false = true from h4) Bool.false_ne_true
         · match gs, h4 with
          | [⟨t', it', ifs, a⟩, ⟨t1, i1, ifs1, a1⟩], h4 =>
            obtain ⟨h1, h2⟩ := bk (show (decide (a = 0) && (decide (a1 = 0) && (okX it' && (okX i1 && (blkC Γ.N Γ.sc s (ownOf Γ.N vs) && (vs1.all (fun j => decide (j ∈ vs)) && ((slG mg).all (fun j => decide (j ∈ vs)) && ((slG mg1).all (fun j => decide (j ∈ vs1)) &&
              (chkG mg (Γ.blk s) t' && (chkI G mi Γ it' && (chkCs G mc (Γ.blk s) ifs && (chkG mg1 (Γ.blk s) t1 && (chkI G mi1 (Γ.blk s) i1 && (chkCs G mc1 (Γ.blk s) ifs1 && chkE G me (Γ.blk s) e')))))))))))))) = true from h4)
            obtain ⟨h3', h4⟩ := bk h2
            obtain ⟨h5, h6⟩ := bk h4
            obtain ⟨h7, h8⟩ := bk h6
            obtain ⟨h9, h10⟩ := bk h8
            obtain ⟨h11, h12⟩ := bk h10
            obtain ⟨h13, h14⟩ := bk h12
            obtain ⟨h15, h16⟩ := bk h14
            obtain ⟨h17, h18⟩ := bk h16
            obtain ⟨h19, h20⟩ := bk h18
            obtain ⟨h21, h22⟩ := bk h20
            obtain ⟨h23, h24⟩ := bk h22
            obtain ⟨h25, h26⟩ := bk h24
            obtain ⟨h27, h28⟩ := bk h26
            cases (dec h1)
            cases (dec h3')
            exact ts_lc2 g h3 (dec q1) q3 (by simpa using q4) (fun j hj => dec (List.all_eq_true.mp h11 j hj)) (fun j hj => dec (List.all_eq_true.mp h13 j hj)) (fun j hj => dec (List.all_eq_true.mp h15 j hj)) h5 h7 h9 (chkI_ok mi it' g.toGood h19)
              ⟨fun s H C cells fp => chkG_ok (g.toGood.blk s H C cells fp).toSy mg t' h17, fun s H C cells fp => chkCs_ok mc ifs (g.toGood.blk s H C cells fp) h21, fun s H C cells fp => chkG_ok (g.toGood.blk s H C cells fp).toSy mg1 t1 h23, fun s H C cells fp => chkI_ok mi1 i1 (g.toGood.blk s H C cells fp) h25, fun s H C cells fp => chkCs_ok mc1 ifs1 (g.toGood.blk s H C cells fp) h27, fun s H C cells fp => (chkE_ok me e' (g.toGood.blk s H C cells fp) h28).pe⟩
          | [], h4 => exact absurd (show false = true from h4) Bool.false_ne_true
          | [⟨_, _, _, _⟩], h4 => exact absurd (show false = true from h4) Bool.false_ne_true
          | ⟨_, _, _, _⟩ :: ⟨_, _, _, _⟩ :: _ :: _, h4 => exact absurd (show false = true from h4) Bool.false_ne_true
      · by_cases c2 : ∃ ts n p vs m q, t = .Tuple ts n p ∧ v = .Tuple vs m q
        · obtain ⟨ts, n, p, vs, m, q, rfl, rfl⟩ := c2
          exact ts_asg g rfl (noSw_ok g h1) h3 (chkE_ok e _ g.toGood h4).pe
        · have hn := asgB_other (fun y py e gs s p z => c1 ⟨y, py, e, gs, s, p, z⟩) (fun ts n p vs m q z => c2 ⟨ts, n, p, vs, m, q, z⟩) h1
          have hw : swappedStores [t] v X.env = pure none := by
            cases t <;> try (cases tg <;> exact absurd (show false = true from h3) Bool.false_ne_true)
            · exact asg_none_name
            · exact asg_none_val fun vs m q e => c2 ⟨_, _, _, vs, m, q, rfl, e⟩
          exact ts_asg g hn hw h3 (chkE_ok e _ g.toGood h4).pe
    | [], h => exact absurd (show false = true from h) Bool.false_ne_true
    | _ :: _ :: _, h => exact absurd (show false = true from h) Bool.false_ne_true
  | .par2 i j a b, st, h => by
    unfold chkS at h
    split at h
    · rename_i x px y py _ _ u v _ _ _
      obtain ⟨h1, h2⟩ := bk h
      obtain ⟨h3, h4⟩ := bk h2
      obtain ⟨h5, h6⟩ := bk h4
      obtain ⟨h7, h8⟩ := bk h6
      obtain ⟨h9, h10⟩ := bk h8
      obtain ⟨h11, h12⟩ := bk h10
      obtain ⟨h13, h14⟩ := bk h12
      obtain ⟨h15, h16⟩ := bk h14
      exact ts_par2 g h1 h3 h5 (dec h7) (dec h9) h11 h13 (chkE_ok a _ g.toGood h15).pe (chkE_ok b _ g.toGood h16).pe
    · cases h
  | .par3 i j l a b c, st, h => by
    unfold chkS at h
    split at h
    · obtain ⟨h1, h2⟩ := bk h
      obtain ⟨h3, h4⟩ := bk h2
      obtain ⟨h5, h6⟩ := bk h4
      obtain ⟨h7, h8⟩ := bk h6
      obtain ⟨h9, h10⟩ := bk h8
      obtain ⟨h11, h12⟩ := bk h10
      obtain ⟨h13, h14⟩ := bk h12
      obtain ⟨h15, h16⟩ := bk h14
      obtain ⟨h17, h18⟩ := bk h16
      obtain ⟨h19, h20⟩ := bk h18
      obtain ⟨h21, h22⟩ := bk h20
      exact ts_par3 g h1 h3 h5 h7 (dec h9) (dec h11) h13 h15 h17 (chkE_ok a _ g.toGood h19).pe (chkE_ok b _ g.toGood h21).pe (chkE_ok c _ g.toGood h22).pe
    · cases h
  | .aug i op e, st, h => by
    unfold chkS at h
    split at h
    · obtain ⟨h1, h2⟩ := bk h
      obtain ⟨h3, h4⟩ := bk h2
      cases (dec h3)
      exact ts_aug g h1 (chkE_ok e _ g.toGood h4).pe
    · cases h
  | .setI o i e, st, h => by
    unfold chkS at h
    split at h
    · obtain ⟨h1, h2⟩ := bk h
      obtain ⟨h3, h4⟩ := bk h2
      obtain ⟨h5, h6⟩ := bk h4
      obtain ⟨h7, h8⟩ := bk h6
      exact ts_setI g h1 h3 (chkE_ok e _ g.toGood h5).pe (chkE_ok o _ g.toGood h7).pe (chkE_ok i _ g.toGood h8).pe
    · cases h
  | .augI o i op e, st, h => by
    unfold chkS at h
    split at h
    · obtain ⟨h1, h2⟩ := bk h
      obtain ⟨h3, h4⟩ := bk h2
      obtain ⟨h5, h6⟩ := bk h4
      obtain ⟨h7, h8⟩ := bk h6
      cases (dec h3)
      exact ts_augI g h1 (chkE_ok e _ g.toGood h5).pe (chkE_ok o _ g.toGood h7).pe (chkE_ok i _ g.toGood h8).pe
    · cases h
  | .ifS c a b, st, h => by
    unfold chkS at h
    split at h
    · obtain ⟨h1, h2⟩ := bk h
      obtain ⟨h3, h4⟩ := bk h2
      exact ts_if (chkE_ok c _ g.toGood h1).pt (chkSs_ok g a _ h3) (chkSs_ok g b _ h4)
    · cases h
  | .whl c b, st, h => by
    unfold chkS at h
    split at h
    · obtain ⟨h1, h2⟩ := bk h
      exact ts_whl g (chkE_ok c _ g.toGood h1).pt (chkSs_ok g b _ h2)
    · cases h
  | .forS tg it b, st, h => by
    unfold chkS at h
    split at h
    · obtain ⟨h1, h2⟩ := bk h
      obtain ⟨h3, h4⟩ := bk h2
      obtain ⟨h5, h6⟩ := bk h4
      exact ts_for g h1 h3 (chkI_ok it _ g.toGood h5) (chkSs_ok g b _ h6)
    · cases h
  | .ret e, st, h => by
    unfold chkS at h
    split at h
    · exact ts_ret (chkE_ok e _ g.toGood h).pe
    · cases h
  | .retN, st, h => by
    unfold chkS at h
    split at h
    · refine ps_retN.weak ?_
      rintro D σ H ⟨W, F, μ, ρ, S, fl, S', st, en, e1, p⟩
      cases e1
      exact p _ H W μ Ext.refl st rfl
    · cases h
  | .ex e, st, h => by
    unfold chkS at h
    split at h
    · obtain ⟨h1, h2⟩ := bk h
      exact ts_ex h1 (chkE_ok e _ g.toGood h2).pe
    · cases h
  | .pass, st, h => by
    unfold chkS at h
    split at h
    · refine ps_pass.weak ?_
      rintro D σ H ⟨W, F, μ, ρ, S, fl, S', st, en, e1, p⟩
      cases e1
      exact p σ H W μ Ext.refl st en
    · cases h
  | .brk, st, h => by
    unfold chkS at h
    split at h
    · refine ps_break.weak ?_
      rintro D σ H ⟨W, F, μ, ρ, S, fl, S', st, en, e1, p⟩
      cases e1
      exact p σ H W μ Ext.refl st en
    · cases h
  | .nev, st, h => ps_never.weak (by
    rintro D σ H ⟨W, F, μ, ρ, S, fl, S', st, en, e1, p⟩
    cases e1)
theorem chkSs_ok {G : GT} {cl : Nat → List D → Sto → Rs D} {k : Nat} {Γ : Syn} {X : Cx} (g : GoodS G cl k Γ X) : ∀ (ms : MSs) (sts : List Stmt), chkSs G ms Γ sts = true → PSs X sts (TSR X.K (evSs G cl ms))
  | .nil, sts, h => by
    cases sts with
    | nil => exact tss_nil
    | cons _ _ => exact absurd (show false = true from h) Bool.false_ne_true
  | .cons m ms, sts, h => by
    cases sts with
    | nil => exact absurd (show false = true from h) Bool.false_ne_true
    | cons x xs =>
      obtain ⟨h1, h2⟩ := bk (show (chkS G m Γ x && chkSs G ms Γ xs) = true from h)
      exact tss_cons (chkS_ok g m x h1) (chkSs_ok g ms xs h2)
end
end Rw

/-! M13: defs, the program, the law's end -/
namespace Rw
open PySem PySem.Spec PyProof.Rows L2

/-! ### parameters -/
theorem zip_look : ∀ {ps : List Str} {us : List Value} {n : Str}, n ∈ ps → us.length = ps.length → ((ps.zip us).lookup n).isSome = true
  | p :: ps, u :: us, n, h, hl => by
    show (List.lookup n ((p, u) :: ps.zip us)).isSome = true
    rw [List.lookup_cons]
    cases c : n == p with
    | true => rfl
    | false =>
      rcases List.mem_cons.mp h with rfl | h
      · simp at c
      · exact zip_look h (by simpa using hl)
  | p :: ps, [], n, h, hl => by simp at hl
theorem fm_congr {α β : Type} {f g : α → Option β} : ∀ {l : List α}, (∀ x ∈ l, f x = g x) → l.filterMap f = l.filterMap g
  | [], _ => rfl
  | a :: l, h => by
    rw [List.filterMap_cons, List.filterMap_cons, h a List.mem_cons_self, fm_congr fun x hx => h x (List.mem_cons_of_mem _ hx)]
theorem zip_fm : ∀ {ps : List Str} {us : List Value}, ps.Nodup → us.length = ps.length → (ps.filterMap fun n => ((ps.zip us).lookup n).map fun v => (n, v)) = ps.zip us
  | [], _, _, _ => rfl
  | p :: ps, [], _, hl => by simp at hl
  | p :: ps, u :: us, nd, hl => by
    obtain ⟨h1, h2⟩ := List.nodup_cons.mp nd
    have ih := zip_fm h2 (show us.length = ps.length by simpa using hl)
    have e1 : List.lookup p ((p, u) :: ps.zip us) = some u := by simp [List.lookup_cons]
    have e2 : (ps.filterMap fun n => (((p, u) :: ps.zip us).lookup n).map fun v => (n, v)) = ps.filterMap fun n => ((ps.zip us).lookup n).map fun v => (n, v) := by
      refine fm_congr fun n hn => ?_
      have : (n == p) = false := by
        rw [beq_eq_false_iff_ne]
        rintro rfl
        exact h1 hn
      simp only [List.lookup_cons, this]
    show ((p :: ps).filterMap fun n => (List.lookup n ((p, u) :: ps.zip us)).map fun v => (n, v)) = (p, u) :: ps.zip us
    rw [List.filterMap_cons, e1]
    simp only [Option.map_some]
    rw [e2, ih]
theorem bind_ok {x qual : Str} {as : List Arg} {body : List Stmt} {scope : Scope} {kV doc pm : Value} {an : Option Addr} {cdv ct : Value} {us : List Value} (nd : (as.map (·.arg)).Nodup) (hl : us.length = (as.map (·.arg)).length) :
    bindArgs (PySem.W.fnOf x qual ⟨[], as, none, [], [], none, []⟩ body scope .none kV doc pm an cdv ct) ⟨us, []⟩ = pure ((as.map (·.arg)).zip us) := by
  have hm : ((as.map (·.arg)).filter fun n => ((as.map (·.arg)).zip us |>.lookup n).isNone) = [] := by
    rw [List.filter_eq_nil_iff]
    intro n hn
    have := zip_look hn hl
    cases c : ((as.map (·.arg)).zip us).lookup n with
    | none => rw [c] at this; cases this
    | some _ => simp
  have hsi : seqItems? Value.none = pure none := rfl
  have hf := zip_fm nd hl
  have hn0 : (as.map (·.arg)).take (as.map (·.arg)).length = as.map (·.arg) := List.take_of_length_le (Nat.le_refl _)
  have hg : ¬ us.length > (as.map (·.arg)).length := by omega
  unfold bindArgs
  simp only [PySem.W.fnOf, List.map_nil, List.nil_append, List.append_nil, List.forIn_nil, pure_bind, hsi, Option.getD_none]
  generalize hps : as.map (·.arg) = ps at hm hf hn0 hg hl nd ⊢
  have hg' : decide (us.length > ps.length) = false := decide_eq_false hg
  have e0 : (#[] : Array Value).toList = [] := rfl
  simp only [hg', Bool.false_and, Bool.false_eq_true, if_false, e0, List.drop_nil, List.length_nil, Nat.sub_zero, hn0, hm, List.isEmpty_nil, Bool.not_true, List.zip_nil_right, List.forIn_nil, pure_bind, hf]
theorem binds_of {K : PySem.W.Frag} {x qual : Str} {as : List Arg} {body : List Stmt} {scope : Scope} {kws : List (Str × V)} {f : Addr} {fd : FuncData} (F : FunD K x qual ⟨[], as, none, [], [], none, []⟩ body scope [] kws f fd) (nd : (as.map (·.arg)).Nodup) : Binds K fd (as.map (·.arg)) [] :=
  F.bindsN fun _ _ _ _ _ _ us hl => bind_ok nd hl

/-! ### what a call leaves -/
section
variable {K : PySem.W.Frag} {W W' F : Hp} {μ μ' : List Addr} {S S1 : Sto} {H H0 : Hp}
mutual
theorem Rep.down (x : Ext W μ W' μ') : ∀ (d : D) (v0 v : V), Rep K W μ d v0 → Rep K W' μ' d v → Rep K W' μ d v
  | .non, _, _, _, h => h
  | .bl _, _, _, _, h => h
  | .int _, _, _, _, h => h
  | .str _, _, _, _, h => h
  | .ty _, _, _, _, h => h
  | .ref r, _, _, ⟨a0, h0, _⟩, ⟨a, h, e⟩ => by
    have q := x.m r a0 h0
    have q2 : a = a0 := Option.some.inj (h.symm.trans q)
    exact ⟨a, by rw [q2]; exact h0, e⟩
  | .tup ds, _, _, ⟨_, vs0, _, _, r0⟩, ⟨a, vs, e, h, r⟩ => ⟨a, vs, e, h, Reps.down x ds vs0 vs r0 r⟩
  | .lst ds, _, _, ⟨_, vs0, _, _, r0⟩, ⟨a, vs, e, h, r⟩ => ⟨a, vs, e, h, Reps.down x ds vs0 vs r0 r⟩
  | .flst ds, _, _, ⟨_, vs0, _, _, r0⟩, ⟨a, vs, e, h, r⟩ => ⟨a, vs, e, h, Reps.down x ds vs0 vs r0 r⟩
theorem Reps.down (x : Ext W μ W' μ') : ∀ (ds : List D) (vs0 vs : List V), Reps K W μ ds vs0 → Reps K W' μ' ds vs → Reps K W' μ ds vs
  | [], _, _, _, h => h
  | d :: ds, _, _, ⟨v0, r0, _, h0, q0⟩, ⟨v, r, e, h, q⟩ => ⟨v, r, e, Rep.down x d v0 v h0 h, Reps.down x ds r0 r q0 q⟩
end
mutual
theorem Rep.below (x : Ext W μ W' μ') : ∀ (d : D) (v : V), below μ.length d = true → Rep K W' μ' d v → Rep K W' μ d v
  | .non, _, _, h => h
  | .bl _, _, _, h => h
  | .int _, _, _, h => h
  | .str _, _, _, h => h
  | .ty _, _, _, h => h
  | .ref r, _, b, ⟨a, h, e⟩ => by
    have hl : r < μ.length := of_decide_eq_true b
    have h0 : μ[r]? = some μ[r] := by simp [hl]
    have q := x.m r _ h0
    have q2 : a = μ[r] := Option.some.inj (h.symm.trans q)
    exact ⟨a, by rw [q2]; exact h0, e⟩
  | .tup ds, _, b, ⟨a, vs, e, h, r⟩ => ⟨a, vs, e, h, Reps.below x ds vs b r⟩
  | .lst ds, _, b, ⟨a, vs, e, h, r⟩ => ⟨a, vs, e, h, Reps.below x ds vs b r⟩
  | .flst ds, _, b, ⟨a, vs, e, h, r⟩ => ⟨a, vs, e, h, Reps.below x ds vs b r⟩
theorem Reps.below (x : Ext W μ W' μ') : ∀ (ds : List D) (vs : List V), belows μ.length ds = true → Reps K W' μ' ds vs → Reps K W' μ ds vs
  | [], _, _, h => h
  | d :: ds, _, b, ⟨v, r, e, h, q⟩ => by
    obtain ⟨b1, b2⟩ := bk (show (Rw.below μ.length d && belows μ.length ds) = true from b)
    exact ⟨v, r, e, Rep.below x d v b1 h, Reps.below x ds r b2 q⟩
end
theorem CellAt.down (x : Ext W μ W' μ') {a : Addr} : ∀ {c : Cell}, CellAt K W μ H0 a c → CellAt K W' μ' H a c → CellAt K W' μ H a c
  | .lst ds, ⟨vs0, _, r0⟩, ⟨vs, h, r⟩ => ⟨vs, h, Reps.down x ds vs0 vs r0 r⟩
  | .dk kvs, ⟨ws0, _, r0⟩, ⟨ws, h, r⟩ => ⟨ws, h, r.1, Reps.down x _ _ _ r0.2 r.2⟩
theorem prune_ok (st0 : Stt K W F μ S H0) (x : Ext W μ W' μ') (st : Stt K W' F μ' S1 H) {d : D} {v : V} (r : Rep K W' μ' d v) : (prune S d S1).1 = d ∧ ∃ μ2, Ext W μ W' μ2 ∧ Stt K W' F μ2 (prune S d S1).2 H ∧ Rep K W' μ2 d v := by
  unfold prune
  split
  · rename_i c
    refine ⟨rfl, μ, ⟨x.w, fun _ _ h => h⟩, ⟨st.sub, st.frm, st.dis, st0.len, st0.nd, fun i a h => st.apart i a (x.m i a h), fun i a cc h hc => ?_⟩, Rep.below x d v (by rw [st0.len]; exact c.2) r⟩
    have h1 : S1[i]? = some cc := by
      have hl : i < S.length := by rw [← st0.len]; exact (List.getElem?_eq_some_iff.mp h).1
      have := congrArg (·[i]?) c.1
      simp only [List.getElem?_take_of_lt hl] at this
      rw [this]; exact hc
    exact (st0.cel i a cc h hc).down x (st.cel i a cc (x.m i a h) h1)
  · exact ⟨rfl, μ', x, st, r⟩
end

/-! ### defs -/
def chkD (G : GT) (f : Fn) (N : List Str) (pa : Arguments) (scope : Scope) (body : List Stmt) : Bool :=
  (match pa with
    | ⟨[], as, none, [], [], none, []⟩ => decide (N.take (as.map (·.arg)).length = as.map (·.arg)) && ((as.map (·.arg)).all (fun x => decide (scope.names.lookup x = some .local) || decide (scope.names.lookup x = some .cell)) && (decide (as.map (·.arg)).Nodup && decide (f.np = as.length)))
    | _ => false) && (decide (scope.kind = .function) && (!scope.isCoroutine && (!scope.isGenerator && (decide N.Nodup && (scope.names.all (fun y => decide (y.2 ≠ .free)) && (decide (f.nl = N.length) && chkSs G f.body ⟨N, scope, fun _ => true⟩ body))))))
theorem env_start {K : PySem.W.Frag} {W : Hp} {μ : List Addr} {ds : List D} {vs : List V} (r : Reps K W μ ds vs) (N : List Str) (n : Nat) (hn : n = N.length) : EnvR K W μ (ds.map some ++ List.replicate (n - ds.length) none) (L2.start N vs) := by
  subst hn
  have hl := r.length
  unfold L2.start
  refine ⟨by simp [hl], fun i d e => ?_⟩
  by_cases hi : i < ds.length
  · rw [List.getElem?_append_left (by simpa using hi), List.getElem?_map] at e
    cases c : ds[i]? with
    | none => rw [c] at e; cases e
    | some d' =>
      rw [c] at e
      cases e
      obtain ⟨v, h1, h2⟩ := r.get c
      exact ⟨v, by rw [List.getElem?_append_left (by simp; omega), List.getElem?_map, h1]; rfl, h2⟩
  · rw [List.getElem?_append_right (by simp; omega), List.getElem?_replicate] at e
    split at e <;> cases e
theorem fn_ok {P : Program} {w : World} {K : PySem.W.Frag} {mg : Str → Option Value} {base : Heap} {G : GT} {k g : Nat} {x qual : Str} {f : Fn} {a : Addr} {fd : FuncData} {as : List Arg} {N : List Str} {scope : Scope} {body : List Stmt}
    (gf : GF P w K mg base G k (callK G k)) (hg : G[g]? = some (x, .fn f)) (FD : FunD K x qual ⟨[], as, none, [], [], none, []⟩ body scope [] [] a fd) (h : chkD G f N ⟨[], as, none, [], [], none, []⟩ scope body = true) :
    FnOk P w K mg base CX0 (k + 1) a fd (as.map (·.arg)) (spOf K f.np (callK G (k + 1) g)) := by
  obtain ⟨h1, h2⟩ := bk h
  obtain ⟨a1, a2⟩ := bk (show (decide (N.take (as.map (·.arg)).length = as.map (·.arg)) && ((as.map (·.arg)).all (fun x => decide (scope.names.lookup x = some .local) || decide (scope.names.lookup x = some .cell)) && (decide (as.map (·.arg)).Nodup && decide (f.np = as.length)))) = true from h1)
  obtain ⟨a3, a4⟩ := bk a2
  obtain ⟨a5, a6⟩ := bk a4
  obtain ⟨b1, b2⟩ := bk h2
  obtain ⟨b3, b4⟩ := bk b2
  obtain ⟨b5, b6⟩ := bk b4
  obtain ⟨b7, b8⟩ := bk b6
  obtain ⟨b9, b10⟩ := bk b8
  obtain ⟨b11, b12⟩ := bk b10
  have S : FnScope N (as.map (·.arg)) scope := ⟨dec b1, by simpa using b3, by simpa using b5, dec b7, dec a1, fun x hx => by
    have := List.all_eq_true.mp a3 x hx
    rcases Bool.or_eq_true_iff.mp this with q | q
    · exact .inl (dec q)
    · exact .inr (dec q), fun y hy => dec (List.all_eq_true.mp b9 y hy)⟩
  refine FD.ok S (fun vs H Q E q => by rw [q.1, dec a6, List.length_map]) fun cdv A outer s H vs Q E hr q => ?_
  have gd : GoodS G (callK G k) k ⟨N, scope, fun _ => true⟩ (cxOf CX0 P w K mg base N qual scope a cdv A outer s H E).nox :=
    ⟨⟨⟨rfl, S.nd, rfl, rfl, rfl⟩, rfl, hr, gf⟩, dec b1⟩
  refine ⟨_, PSs.nox (chkSs_ok gd f.body body b12), ?_⟩
  obtain ⟨hl, W, F, μ, S0, ds, d, S', st, rd, e, p⟩ := q
  simp only [callK, hg] at e
  split at e
  · obtain ⟨fl, S1, e1, e2⟩ := bnd_inv e
    refine ⟨W, F, μ, _, S0, fl, S1, st, env_start rd N f.nl (dec b11), e1, ?_⟩
    cases fl with
    | nx ρ =>
      have e3 := Option.some.inj e2
      intro σ H1 W1 μ1 x1 st1 _
      obtain ⟨q1, μ2, q2, q3, q4⟩ := prune_ok (d := .non) (v := .non) st x1 st1 rfl
      rw [e3] at q1 q3
      cases q1
      exact p _ H1 W1 μ2 q2 q3 q4
    | bk ρ => cases e2
    | rt d' =>
      have e3 := Option.some.inj e2
      intro v H1 W1 μ1 x1 st1 r1
      obtain ⟨q1, μ2, q2, q3, q4⟩ := prune_ok st x1 st1 r1
      rw [e3] at q1 q3
      cases q1
      exact p _ H1 W1 μ2 q2 q3 q4
  · cases e

/-! ### the program -/
inductive TK where
  | fn (i : Nat) (N : List Str) (f : Fn) | blt | con (d : D)
abbrev Tab := List (Str × TK)
def TK.gk : TK → GK
  | .fn _ _ f => .fn f
  | .blt => .blt
  | .con d => .con d
def gtOf (T : Tab) : GT := T.map fun e => (e.1, e.2.gk)
mutual
def repB (K : PySem.W.Frag) : D → Value → Bool
  | .int i, .int j _ => decide (i = j)
  | .bl b, .bool c => decide (b = c)
  | .str s, .str t _ => decide (s = t)
  | .non, .none => true
  | .tup ds, .ref a => (match K.lookup a with
    | some ⟨.type c, _, .seq its _, _⟩ => decide (c = "tuple") && (decide (its.size ≤ sizeLine) && repsB K ds its.toList)
    | _ => false)
  | _, _ => false
def repsB (K : PySem.W.Frag) : List D → List Value → Bool
  | [], [] => true
  | d :: ds, u :: us => repB K d u && repsB K ds us
  | _, _ => false
end
mutual
theorem repB_ok {K : PySem.W.Frag} : ∀ (d : D) (u : Value), repB K d u = true → ∃ v, RelV v u ∧ ∀ W μ, Rep K W μ d v
  | .int i, u, h => by
    cases u <;> first | exact absurd (show false = true from h) Bool.false_ne_true | skip
    cases (dec (show decide (i = _) = true from h))
    exact ⟨.int i, ⟨_, rfl⟩, fun _ _ => rfl⟩
  | .bl i, u, h => by
    cases u <;> first | exact absurd (show false = true from h) Bool.false_ne_true | skip
    cases (dec (show decide (i = _) = true from h))
    exact ⟨.bl i, rfl, fun _ _ => rfl⟩
  | .str i, u, h => by
    cases u <;> first | exact absurd (show false = true from h) Bool.false_ne_true | skip
    cases (dec (show decide (i = _) = true from h))
    exact ⟨.str i, ⟨_, rfl⟩, fun _ _ => rfl⟩
  | .non, u, h => by
    cases u <;> first | exact absurd (show false = true from h) Bool.false_ne_true | skip
    exact ⟨.non, rfl, fun _ _ => rfl⟩
  | .tup ds, u, h => by
    cases u <;> first | exact absurd (show false = true from h) Bool.false_ne_true | skip
    rename_i a
    have h : (match K.lookup a with
      | some ⟨.type c, _, .seq its _, _⟩ => decide (c = "tuple") && (decide (its.size ≤ sizeLine) && repsB K ds its.toList)
      | _ => false) = true := h
    cases q : K.lookup a with
    | none => rw [q] at h; cases h
    | some o =>
      obtain ⟨oc, od, dt, osl⟩ := o
      rw [q] at h
      cases oc <;> try (exact absurd (show false = true from h) Bool.false_ne_true)
      rename_i c
      cases dt <;> try (exact absurd (show false = true from h) Bool.false_ne_true)
      rename_i its n
      obtain ⟨h1, h2⟩ := bk (show (decide (c = "tuple") && (decide (its.size ≤ sizeLine) && repsB K ds its.toList)) = true from h)
      obtain ⟨h3, h4⟩ := bk h2
      obtain ⟨vs, r1, r2⟩ := repsB_ok ds its.toList h4
      exact ⟨.ref a, rfl, fun W μ => ⟨a, vs, rfl, .inr ⟨_, its, n, q, congrArg Value.type (dec h1), rfl, dec h3, r1⟩, r2 W μ⟩⟩
  | .lst _, u, h => absurd (show false = true by cases u <;> exact h) Bool.false_ne_true
  | .flst _, u, h => absurd (show false = true by cases u <;> exact h) Bool.false_ne_true
  | .ref _, u, h => absurd (show false = true by cases u <;> exact h) Bool.false_ne_true
  | .ty _, u, h => absurd (show false = true by cases u <;> exact h) Bool.false_ne_true
theorem repsB_ok {K : PySem.W.Frag} : ∀ (ds : List D) (us : List Value), repsB K ds us = true → ∃ vs, Vals vs us ∧ ∀ W μ, Reps K W μ ds vs
  | [], [], _ => ⟨[], .nil, fun _ _ => rfl⟩
  | [], _ :: _, h => absurd (show false = true from h) Bool.false_ne_true
  | _ :: _, [], h => absurd (show false = true from h) Bool.false_ne_true
  | d :: ds, u :: us, h => by
    obtain ⟨h1, h2⟩ := bk (show (repB K d u && repsB K ds us) = true from h)
    obtain ⟨v, r1, r2⟩ := repB_ok d u h1
    obtain ⟨vs, r3, r4⟩ := repsB_ok ds us h2
    exact ⟨v :: vs, .cons r1 r3, fun W μ => ⟨v, vs, rfl, r2 W μ, r4 W μ⟩⟩
end
def conB (K : PySem.W.Frag) (x : Str) (d : D) : Bool := match PySem.W.nsIn K mainGlobals x with
  | some (some u) => repB K d u
  | _ => false
def ddOf (top : Nat → Stmt) (x : Str) (i : Nat) : He.DefD := ⟨(x, none), x, x, defArgs (top i), defBody (top i), defScope (top i), [], []⟩
def faOf (T : Tab) : List He.Fa := T.filterMap fun e => match e.2 with
  | .fn _ _ _ => some (.glo e.1)
  | .blt => some (.free e.1)
  | .con _ => none
def fnOf' (top : Nat → Stmt) (T : Tab) : List He.DefD := T.filterMap fun e => match e.2 with
  | .fn i _ _ => some (ddOf top e.1 i)
  | _ => none
def exOf (T : Tab) (K : PySem.W.Frag) : Bool := T.all fun e => match e.2 with
  | .con d => conB K e.1 d
  | _ => true
def chkT (top : Nat → Stmt) (T : Tab) : Bool := T.all fun e => match e.2 with
  | .fn i N f => chkD (gtOf T) f N (defArgs (top i)) (defScope (top i)) (defBody (top i))
  | _ => true
/-- the head's look -/
def hookR (n : Nat) (fa : List He.Fa) (fn : List He.DefD) (ex : PySem.W.Frag → Bool) : PySem.W.Hook where
  α := He.AlD × Bool
  obs := fun s => (He.obsDG n fa fn s.heap.get?, ex (He.frG s.heap.get? (He.asD s.heap.get? n)))
  val := fun _ => (He.valD fn, true)
  says := fun _ h => ∃ K : PySem.W.Frag, K.In h ∧ He.SaysD fa fn K ∧ ex K = true
  of := fun _ _ e => ⟨_, He.frG_in, congrArg (fun z : He.AlD × Bool => z.1) e, congrArg (fun z : He.AlD × Bool => z.2) e⟩
  keeps := fun _ _ _ ⟨K, hK, c⟩ k => ⟨K, PySem.W.Frag.In.keeps hK k, c⟩
theorem facts_mem {fa : List He.Fa} {fn : List He.DefD} {K : PySem.W.Frag} (c : He.SaysD fa fn K) {f : He.Fa} (h : f ∈ fa) : f.ok K = true := by
  obtain ⟨i, hi, e⟩ := List.mem_iff_getElem.mp h
  exact c.fact i (f := f) (by rw [List.getElem?_eq_getElem hi, e])
theorem defs_mem {fa : List He.Fa} {fn : List He.DefD} {K : PySem.W.Frag} (c : He.SaysD fa fn K) {d : He.DefD} (h : d ∈ fn) : ∃ fd, FunD K d.name d.qual d.params d.body d.scope (d.dvs K) (d.kws K) (He.fAd K d.at_) fd := by
  obtain ⟨i, hi, e⟩ := List.mem_iff_getElem.mp h
  exact c.def_ i (d := d) (by rw [List.getElem?_eq_getElem hi, e])
theorem tab_at {T : Tab} {g : Nat} {x : Str} {q : GK} (h : (gtOf T)[g]? = some (x, q)) : ∃ t, (x, t) ∈ T ∧ t.gk = q := by
  unfold gtOf at h
  rw [List.getElem?_map] at h
  cases c : T[g]? with
  | none => rw [c] at h; cases h
  | some e =>
    rw [c] at h
    cases h
    exact ⟨e.2, List.mem_of_getElem? c, rfl⟩
theorem gf_ok {P : Program} {w : World} {K : PySem.W.Frag} {mg : Str → Option Value} {base h : Heap} {top : Nat → Stmt} {T : Tab} (X : K.In h) (NS : h.Ns mainGlobals mg) (c : He.SaysD (faOf T) (fnOf' top T) K) (ex : exOf T K = true) (ck : chkT top T = true) : ∀ k, GF P w K mg base (gtOf T) k (callK (gtOf T) k) := by
  have fnAt : ∀ {g : Nat} {x : Str} {f : Fn}, (gtOf T)[g]? = some (x, GK.fn f) → ∃ (N : List Str) (as : List Arg) (body : List Stmt) (scope : Scope) (fd : FuncData), mg x = some (.ref (He.ga K x)) ∧ FunD K x x ⟨[], as, none, [], [], none, []⟩ body scope [] [] (He.ga K x) fd ∧ chkD (gtOf T) f N ⟨[], as, none, [], [], none, []⟩ scope body = true := fun {g x f} hg => by
    obtain ⟨t, ht, e⟩ := tab_at hg
    cases t with
    | blt => cases e
    | con d => cases e
    | fn i N f' =>
      cases e
      have hf : He.Fa.glo x ∈ faOf T := List.mem_filterMap.mpr ⟨(x, TK.fn i N f), ht, rfl⟩
      have hd : ddOf top x i ∈ fnOf' top T := List.mem_filterMap.mpr ⟨(x, TK.fn i N f), ht, rfl⟩
      have hm := He.glo_ok X NS (facts_mem c hf)
      obtain ⟨fd, FD⟩ := defs_mem c hd
      have hc : chkD (gtOf T) f N (defArgs (top i)) (defScope (top i)) (defBody (top i)) = true := List.all_eq_true.mp ck (x, TK.fn i N f) ht
      have FD : FunD K x x (defArgs (top i)) (defBody (top i)) (defScope (top i)) [] [] (He.ga K x) fd := FD
      generalize defArgs (top i) = pa at hc FD
      match pa, hc, FD with
      | ⟨[], as, none, [], [], none, []⟩, hc, FD => exact ⟨N, as, _, _, fd, hm, FD, hc⟩
      | ⟨_ :: _, _, _, _, _, _, _⟩, hc, _ => exact absurd (bk hc).1 Bool.false_ne_true
      | ⟨[], _, some _, _, _, _, _⟩, hc, _ => exact absurd (bk hc).1 Bool.false_ne_true
      | ⟨[], _, none, _ :: _, _, _, _⟩, hc, _ => exact absurd (bk hc).1 Bool.false_ne_true
      | ⟨[], _, none, [], _ :: _, _, _⟩, hc, _ => exact absurd (bk hc).1 Bool.false_ne_true
      | ⟨[], _, none, [], [], some _, _⟩, hc, _ => exact absurd (bk hc).1 Bool.false_ne_true
      | ⟨[], _, none, [], [], none, _ :: _⟩, hc, _ => exact absurd (bk hc).1 Bool.false_ne_true
  have bltAt : ∀ (g : Nat) x, (gtOf T)[g]? = some (x, GK.blt) → mg x = none := fun g x hg => by
    obtain ⟨t, ht, e⟩ := tab_at hg
    cases t with
    | fn _ _ _ => cases e
    | con d => cases e
    | blt => exact He.free_ok X NS (facts_mem c (List.mem_filterMap.mpr ⟨(x, TK.blt), ht, rfl⟩))
  have conAt : ∀ (g : Nat) x d, (gtOf T)[g]? = some (x, GK.con d) → ∃ u v, mg x = some u ∧ RelV v u ∧ ∀ W μ, Rep K W μ d v := fun g x d hg => by
    obtain ⟨t, ht, e⟩ := tab_at hg
    cases t with
    | fn _ _ _ => cases e
    | blt => cases e
    | con d' =>
      cases e
      have h1 : conB K x d = true := List.all_eq_true.mp ex (x, TK.con d) ht
      unfold conB at h1
      cases q : PySem.W.nsIn K mainGlobals x with
      | none => rw [q] at h1; cases h1
      | some o =>
        rw [q] at h1
        cases o with
        | none => cases h1
        | some u =>
          obtain ⟨v, r1, r2⟩ := repB_ok d u h1
          exact ⟨u, v, PySem.W.mg_of X NS q, r1, r2⟩
  have mk : ∀ k, (∀ g x f, (gtOf T)[g]? = some (x, GK.fn f) → ∃ a fd ps, mg x = some (.ref a) ∧ PySem.W.keepIn K (.ref a) = true ∧ Binds K fd ps [] ∧ FnOk P w K mg base CX0 k a fd ps (spOf K f.np (callK (gtOf T) k g))) → GF P w K mg base (gtOf T) k (callK (gtOf T) k) := fun k h =>
    ⟨h, (fun g x f ds S r hg e => by
      cases k with
      | zero => cases e
      | succ k =>
        simp only [callK, hg] at e
        split at e
        · assumption
        · cases e), bltAt, conAt⟩
  intro k
  induction k with
  | zero =>
    refine mk 0 fun g x f hg => ?_
    obtain ⟨N, as, body, scope, fd, hm, FD, hc⟩ := fnAt hg
    have hnd : (as.map (·.arg)).Nodup := by
      have := (bk hc).1
      exact dec (bk (bk (bk this).2).2).1
    refine ⟨_, fd, _, hm, FD.kp, binds_of FD hnd, ⟨fun vs H Q E q => ?_, fun A outer s H args us vs Q E _ _ _ _ q => ?_⟩⟩
    · obtain ⟨_, W, F, μ, S, ds, d, S', _, _, e, _⟩ := q
      cases e
    · obtain ⟨_, W, F, μ, S, ds, d, S', _, _, e, _⟩ := q
      cases e
  | succ k ih =>
    refine mk (k + 1) fun g x f hg => ?_
    obtain ⟨N, as, body, scope, fd, hm, FD, hc⟩ := fnAt hg
    have hnd : (as.map (·.arg)).Nodup := by
      have := (bk hc).1
      exact dec (bk (bk (bk this).2).2).1
    exact ⟨_, fd, _, hm, FD.kp, binds_of FD hnd, fn_ok ih hg FD hc⟩

/-! ### the law -/
theorem reps_ints {K : PySem.W.Frag} {W : Hp} {μ : List Addr} : ∀ ns : List Int, Reps K W μ (ns.map D.int) (ns.map V.int)
  | [] => rfl
  | n :: ns => ⟨.int n, _, rfl, rfl, reps_ints ns⟩
theorem law_sp {K : PySem.W.Frag} {G : GT} {k g : Nat} {H : Hp} {a : Addr} {ns : List Int} (hS : SqL K H a (ns.map V.int)) (h : ∃ S', callK G k g [.flst (ns.map D.int)] [] = some (.bl true, S')) {E : XK} :
    spOf K 1 (callK G k g) [.ref a] H (fun v _ => v = .bl true) E := by
  obtain ⟨S', h⟩ := h
  refine ⟨rfl, H, fun _ => none, [], [], [.flst (ns.map D.int)], .bl true, S', ⟨fun _ _ e => e, fun _ _ e => (by cases e), fun _ _ e => (by cases e), rfl, fun i j a e => by simp at e, fun i a e => by simp at e, fun i a c e => by simp at e⟩, ⟨.ref a, [], rfl, ⟨a, _, rfl, hS, reps_ints ns⟩, rfl⟩, h, fun v H' W' μ' _ _ r => r⟩
theorem law_walk {l : PySem.W.OpenLaw} {q : Program} {loose : List Str} {XP : (Str → Option Value) → Heap → Prop} {d : DefRec} {top : Nat → Stmt} {T : Tab} {n : Nat} {g k i : Nat} {N : List Str} {f : Fn} (hn : l.most = some 63) (hdf : d.params.defaults = []) (hr : Room k callerA) (hname : d.name = ("law" : Str))
    (ck : chkT top T = true) (hg : T[g]? = some (("law" : Str), .fn i N f)) (hp : defArgs (top i) = ⟨[], [⟨"script", none, (match (defArgs (top i)).args with
      | a :: _ => a.pos
      | [] => ⟨0, 0, 0, 0⟩)⟩], none, [], [], none, []⟩)
    (h : ∀ ns : List Int, ns.length ≤ 63 → ∃ S', callK (gtOf T) k g [.flst (ns.map D.int)] [] = some (.bl true, S')) :
    PySem.W.WalkO q loose XP (hookR n (faOf T) (fnOf' top T) (exOf T)).says l.row.toRowW d [] (fun f vs => PySem.call f vs) := by
  refine L2.walk_ofE (l := l) (n := 63) (k := k) (x := "script") (CX := L2.CX0) hn (by decide) hdf hr ?F (fun _ _ _ _ z => z)
  intro w mg fa h0 Y NS hmg
  obtain ⟨K, KX, c, ex⟩ := Y
  rw [hname] at hmg
  have GFk : ∀ base, GF l.prog w K mg base (gtOf T) k (callK (gtOf T) k) := fun base => gf_ok KX NS c ex ck k
  have hgt : (gtOf T)[g]? = some (("law" : Str), .fn f) := by
    unfold gtOf
    rw [List.getElem?_map, hg]
    rfl
  have ht : (("law" : Str), TK.fn i N f) ∈ T := List.mem_of_getElem? hg
  have hd : ddOf top "law" i ∈ fnOf' top T := List.mem_filterMap.mpr ⟨_, ht, rfl⟩
  obtain ⟨fd0, FD⟩ := defs_mem c hd
  have hm := He.glo_ok KX NS (facts_mem c (show He.Fa.glo "law" ∈ faOf T from List.mem_filterMap.mpr ⟨_, ht, rfl⟩))
  have e := hmg.symm.trans hm
  cases e
  have FD : FunD K "law" "law" (defArgs (top i)) (defBody (top i)) (defScope (top i)) [] [] (He.ga K "law") fd0 := FD
  have hc : chkD (gtOf T) f N (defArgs (top i)) (defScope (top i)) (defBody (top i)) = true := List.all_eq_true.mp ck _ ht
  rw [hp] at FD hc
  have hnd : ([⟨"script", none, (match (defArgs (top i)).args with
      | a :: _ => a.pos
      | [] => ⟨0, 0, 0, 0⟩)⟩] : List Arg).map (·.arg) = (["script"] : List Str) := rfl
  have hnp : f.np = 1 := dec (bk (bk (bk (bk hc).1).2).2).2
  refine ⟨K, fd0, spOf K 1 (callK (gtOf T) k g), KX, fun s u => FD.bindsA (ps := (["script"] : List Str)) (fun _ _ _ _ _ _ us hl => bind_ok (as := [⟨"script", none, _⟩]) (by simp) hl) s [u] rfl, fun H a ns hl _ hS => law_sp hS (h ns hl), fun base KB NB => ?_⟩
  cases k with
  | zero =>
    obtain ⟨S', e⟩ := h [] (by decide)
    cases e
  | succ k =>
    have := fn_ok (P := l.prog) (w := w) (mg := mg) (base := base) (gf_ok KX NS c ex ck k) hgt FD hc
    rw [hnp] at this
    exact this
end Rw

/-! M14: how the evaluator is used -/
namespace Rw
open PySem L2

theorem whF_mono {c : Env → Sto → Rs Bool} {b : Env → Sto → Rs Fl} : ∀ {n : Nat} {ρ : Env} {S : Sto} {r : Fl × Sto}, whF c b n ρ S = some r → whF c b (n + 1) ρ S = some r
  | 0, _, _, _, h => by cases h
  | n + 1, ρ, S, r, h => by
    simp only [whF] at h ⊢
    obtain ⟨t, S1, h1, h2⟩ := bnd_inv h
    rw [h1]
    cases t with
    | false => exact h2
    | true =>
      simp only [if_true, bnd_some] at h2 ⊢
      obtain ⟨fl, S2, h3, h4⟩ := bnd_inv h2
      rw [h3]
      cases fl with
      | nx ρ2 => exact whF_mono (n := n) h4
      | bk ρ2 => exact h4
      | rt d => exact h4
theorem whF_le {c : Env → Sto → Rs Bool} {b : Env → Sto → Rs Fl} {n m : Nat} (hl : n ≤ m) {ρ : Env} {S : Sto} {r : Fl × Sto} (h : whF c b n ρ S = some r) : whF c b m ρ S = some r := by
  induction hl with
  | refl => exact h
  | step _ ih => exact whF_mono ih
theorem whE_of {c : Env → Sto → Rs Bool} {b : Env → Sto → Rs Fl} {n : Nat} {ρ : Env} {S : Sto} {r : Fl × Sto} (h : whF c b n ρ S = some r) : whE c b ρ S = some r := by
  unfold whE
  have hx : ∃ n r, whF c b n ρ S = some r := ⟨n, r, h⟩
  rw [dif_pos hx]
  obtain ⟨r', hr⟩ := hx.choose_spec
  rw [hr]
  have h1 := whF_le (Nat.le_max_left n hx.choose) h
  have h2 := whF_le (Nat.le_max_right n hx.choose) hr
  rw [h1] at h2
  exact h2.symm
/-- one turn more -/
theorem whE_turn {c : Env → Sto → Rs Bool} {b : Env → Sto → Rs Fl} {ρ ρ2 : Env} {S S1 S2 : Sto} {r : Fl × Sto} (h1 : c ρ S = some (true, S1)) (h2 : b ρ S1 = some (.nx ρ2, S2)) (h3 : whE c b ρ2 S2 = some r) : whE c b ρ S = some r := by
  obtain ⟨n, h⟩ := whE_inv h3
  refine whE_of (n := n + 1) ?_
  simp only [whF, h1, bnd_some, if_true, h2]
  exact h
theorem whE_end {c : Env → Sto → Rs Bool} {b : Env → Sto → Rs Fl} {ρ : Env} {S S1 : Sto} (h1 : c ρ S = some (false, S1)) : whE c b ρ S = some (.nx ρ, S1) :=
  whE_of (n := 1) (by simp only [whF, h1, bnd_some, Bool.false_eq_true, if_false])
theorem whE_ret {c : Env → Sto → Rs Bool} {b : Env → Sto → Rs Fl} {ρ : Env} {S S1 S2 : Sto} {d : D} (h1 : c ρ S = some (true, S1)) (h2 : b ρ S1 = some (.rt d, S2)) : whE c b ρ S = some (.rt d, S2) :=
  whE_of (n := 1) (by simp only [whF, h1, bnd_some, if_true, h2])
theorem prune_same {S : Sto} {d : D} : prune S d S = (d, S) := by
  unfold prune
  split <;> rfl
theorem prune_new {S T : Sto} {d : D} (h : below S.length d = true) : prune S d (S ++ T) = (d, S) := by
  unfold prune
  rw [if_pos ⟨by simp, h⟩]
/-- a call -/
theorem callK_fn {G : GT} {k g : Nat} {x : Str} {f : Fn} {ds : List D} {S : Sto} (hg : G[g]? = some (x, .fn f)) (hn : ds.length = f.np) : callK G (k + 1) g ds S = bnd (evSs G (callK G k) f.body (ds.map some ++ List.replicate (f.nl - ds.length) none) S) fun fl S1 => match fl with
      | .nx _ => some (prune S .non S1)
      | .rt d => some (prune S d S1)
      | .bk _ => none := by
  simp only [callK, hg, hn, if_true]
  try rfl
theorem bnd_bnd {α β γ : Type} (x : Rs α) (f : α → Sto → Rs β) (g : β → Sto → Rs γ) : bnd (bnd x f) g = bnd x fun a S => bnd (f a S) g := by
  cases x <;> rfl
theorem bnd_ite {α β : Type} {p : Prop} [Decidable p] (x y : Rs α) (f : α → Sto → Rs β) : bnd (if p then x else y) f = if p then bnd x f else bnd y f := by
  split <;> rfl
end Rw

/-! M15: the evaluator, step by step -/
namespace Rw
open PySem L2

theorem bnd_congr {α β : Type} {x y : Rs α} (h : x = y) (f : α → Sto → Rs β) : bnd x f = bnd y f := by rw [h]
theorem lft_congr {α β : Type} {x y : Option α} (h : x = y) (f : α → Rs β) : lft x f = lft y f := by rw [h]

theorem nrfl {α : Sort _} {a b : α} (h : a = b) : a = b := h
theorem bnd_s {α β : Type} (a : α) (S : Sto) (f : α → Sto → Rs β) : bnd (some (a, S)) f = f a S := nrfl rfl
theorem bnd_n {α β : Type} (f : α → Sto → Rs β) : bnd none f = none := nrfl rfl
theorem lft_s {α β : Type} (a : α) (f : α → Rs β) : lft (some a) f = f a := nrfl rfl
theorem lft_n {α β : Type} (f : α → Rs β) : lft none f = none := nrfl rfl
/-- and then -/
noncomputable def sq (G : GT) (cl : Nat → List D → Sto → Rs D) (ss : MSs) (x : Rs Fl) : Rs Fl := bnd x fun fl S1 => match fl with
    | .nx ρ1 => evSs G cl ss ρ1 S1
    | .bk ρ1 => some (.bk ρ1, S1)
    | .rt d => some (.rt d, S1)
/-- the end of a call -/
noncomputable def fin (S : Sto) (x : Rs Fl) : Rs D := bnd x fun fl S1 => match fl with
      | .nx _ => some (prune S .non S1)
      | .rt d => some (prune S d S1)
      | .bk _ => none
noncomputable def fbd (G : GT) (cl : Nat → List D → Sto → Rs D) (tg : MG) (b : MSs) (x : D) (ρ1 : Env) (S2 : Sto) : Rs Fl := lft (asgG tg x ρ1) fun ρ2 => evSs G cl b ρ2 S2
noncomputable def ctn (G : GT) (cl : Nat → List D → Sto → Rs D) (elt : ME) (tg : MG) (cs : MO) (ρ : Env) (x : D) (S2 : Sto) : Rs (Option D) := lft (asgG tg x ρ) fun ρ1 => bnd (evC G cl cs ρ1 S2) fun t S3 => if t = true then bnd (evE G cl elt ρ1 S3) fun y S4 => some (some y, S4) else some (none, S3)
/-- a turn of a comprehension of two clauses -/
noncomputable def ctn2 (G : GT) (cl : Nat → List D → Sto → Rs D) (elt : ME) (tg : MG) (cs : MO) (vs1 : List Nat) (tg1 : MG) (it1 : MI) (cs1 : MO) (ρ : Env) (x : D) (S2 : Sto) (acc : List D) : Rs (List D) := lft (asgG tg x ρ) fun ρ1 => bnd (evC G cl cs ρ1 S2) fun t S3 => if t = true then
      bnd (evI G cl it1 ρ1 S3) fun w1 S4 => if acc.length + w1.1.length ≤ sizeLine then compL w1.2 w1.1 (ctn G cl elt tg1 cs1 (wipeE ρ1 vs1)) w1.1 S4 acc else none
      else some (acc, S3)
/-- a comprehension's list -/
noncomputable def cls (mu : Bool) (x : Rs (List D)) : Rs D := bnd x fun acc S5 => if mu = true then some (.ref S5.length, S5 ++ [.lst acc]) else some (.lst acc, S5)
section
variable {G : GT} {cl : Nat → List D → Sto → Rs D} {ρ ρ1 : Env} {S S1 : Sto} {d : D}
theorem sq_nx {ss : MSs} : sq G cl ss (some (.nx ρ, S)) = evSs G cl ss ρ S := nrfl rfl
theorem sq_bk {ss : MSs} : sq G cl ss (some (.bk ρ, S)) = some (.bk ρ, S) := nrfl rfl
theorem sq_rt {ss : MSs} : sq G cl ss (some (.rt d, S)) = some (.rt d, S) := nrfl rfl
theorem fin_nx : fin S (some (.nx ρ, S1)) = some (prune S .non S1) := nrfl rfl
theorem fin_rt : fin S (some (.rt d, S1)) = some (prune S d S1) := nrfl rfl
theorem cls_f {acc : List D} : cls false (some (acc, S)) = some (.lst acc, S) := nrfl rfl
theorem cls_t {acc : List D} : cls true (some (acc, S)) = some (.ref S.length, S ++ [.lst acc]) := nrfl rfl
theorem sq_ite {ss : MSs} {p : Prop} [Decidable p] {x y : Rs Fl} : sq G cl ss (if p then x else y) = if p then sq G cl ss x else sq G cl ss y := by
  split <;> rfl
theorem fin_ite {p : Prop} [Decidable p] {x y : Rs Fl} : fin S (if p then x else y) = if p then fin S x else fin S y := by
  split <;> rfl
theorem call_fn {k g : Nat} {x : Str} {f : Fn} {ds : List D} (hg : G[g]? = some (x, .fn f)) (hn : ds.length = f.np) : callK G (k + 1) g ds S = fin S (evSs G (callK G k) f.body (ds.map some ++ List.replicate (f.nl - ds.length) none) S) := callK_fn hg hn
theorem ev_var {i : Nat} : evE G cl (.var i) ρ S = (match ρ[i]? with
    | some (some d) => some (d, S)
    | _ => none) := nrfl rfl
theorem ev_int {i : Int} : evE G cl (.int i) ρ S = some (.int i, S) := nrfl rfl
theorem ev_str {i : Str} : evE G cl (.str i) ρ S = some (.str i, S) := nrfl rfl
theorem ev_bl {i : Bool} : evE G cl (.bl i) ρ S = some (.bl i, S) := nrfl rfl
theorem ev_non : evE G cl .non ρ S = some (.non, S) := nrfl rfl
theorem ev_con {g : Nat} : evE G cl (.con g) ρ S = lft (conOf G g) fun d => some (d, S) := nrfl rfl
theorem ev_bin {op : Operator} {a b : ME} : evE G cl (.bin op a b) ρ S = bnd (evE G cl a ρ S) fun d S1 => bnd (evE G cl b ρ S1) fun e S2 => lft (binD op d e) fun r => some (r, S2) := nrfl rfl
theorem ev_madd {a b : ME} : evE G cl (.madd a b) ρ S = bnd (evE G cl a ρ S) fun d S1 => bnd (evE G cl b ρ S1) fun e S2 => match d, e with
    | .lst xs, .lst ys => if xs.length + ys.length ≤ sizeLine then some (.ref S2.length, S2 ++ [.lst (xs ++ ys)]) else none
    | _, _ => none := nrfl rfl
theorem ev_neg {a : ME} : evE G cl (.neg a) ρ S = bnd (evE G cl a ρ S) fun d S1 => match d with
    | .int i => some (.int (-i), S1)
    | _ => none := nrfl rfl
theorem ev_cmp {op : CmpOp} {a b : ME} : evE G cl (.cmp op a b) ρ S = bnd (evE G cl a ρ S) fun d S1 => bnd (evE G cl b ρ S1) fun e S2 => lft (cmpD S2 op d e) fun r => some (.bl r, S2) := nrfl rfl
theorem ev_ch {op op' : CmpOp} {a b c : ME} : evE G cl (.ch op op' a b c) ρ S = bnd (evE G cl a ρ S) fun d S1 => bnd (evE G cl b ρ S1) fun e S2 => lft (cmpD S2 op d e) fun r => if r = true then bnd (evE G cl c ρ S2) fun f S3 => lft (cmpD S3 op' e f) fun q => some (.bl q, S3) else some (.bl false, S2) := nrfl rfl
theorem ev_and {a b : ME} : evE G cl (.and a b) ρ S = bnd (evE G cl a ρ S) fun d S1 => lft (truD S1 d) fun t => if t = true then evE G cl b ρ S1 else some (d, S1) := nrfl rfl
theorem ev_or {a b : ME} : evE G cl (.or a b) ρ S = bnd (evE G cl a ρ S) fun d S1 => lft (truD S1 d) fun t => if t = true then some (d, S1) else evE G cl b ρ S1 := nrfl rfl
theorem ev_one {a : ME} : evE G cl (.one a) ρ S = evE G cl a ρ S := nrfl rfl
theorem ev_not {a : ME} : evE G cl (.not a) ρ S = bnd (evE G cl a ρ S) fun d S1 => lft (truD S1 d) fun t => some (.bl (!t), S1) := nrfl rfl
theorem ev_ifE {c a b : ME} : evE G cl (.ifE c a b) ρ S = bnd (evE G cl c ρ S) fun d S1 => lft (truD S1 d) fun t => if t = true then evE G cl a ρ S1 else evE G cl b ρ S1 := nrfl rfl
theorem ev_tup {es : MEs} : evE G cl (.tup es) ρ S = bnd (evEs G cl es ρ S) fun ds S1 => if ds.length ≤ sizeLine then some (.tup ds, S1) else none := nrfl rfl
theorem ev_lst {es : MEs} : evE G cl (.lst es) ρ S = bnd (evEs G cl es ρ S) fun ds S1 => if ds.length ≤ sizeLine then some (.lst ds, S1) else none := nrfl rfl
theorem ev_mlst {es : MEs} : evE G cl (.mlst es) ρ S = bnd (evEs G cl es ρ S) fun ds S1 => if ds.length ≤ sizeLine then some (.ref S1.length, S1 ++ [.lst ds]) else none := nrfl rfl
theorem ev_dict {ps : MPs} : evE G cl (.dict ps) ρ S = bnd (evPs G cl ps ρ S) fun ps S1 => lft (keysD ps) fun kvs => if kvs.length ≤ 15 then some (.ref S1.length, S1 ++ [.dk (mergeKD [] kvs)]) else none := nrfl rfl
theorem ev_idx {a i : ME} : evE G cl (.idx a i) ρ S = bnd (evE G cl a ρ S) fun d S1 => bnd (evE G cl i ρ S1) fun e S2 => lft (idxD S2 d e) fun r => some (r, S2) := nrfl rfl
theorem ev_sl {a : ME} {lo hi : MO} : evE G cl (.sl a lo hi) ρ S = bnd (evE G cl a ρ S) fun d S1 => bnd (evO G cl lo ρ S1) fun l S2 => bnd (evO G cl hi ρ S2) fun h S3 => lft (slD S3 d l h) fun r => some (r, S3) := nrfl rfl
theorem ev_slR {a : ME} {hi : MO} : evE G cl (.slR a hi) ρ S = bnd (evE G cl a ρ S) fun d S1 => bnd (evO G cl hi ρ S1) fun h S2 => lft (slRD S2 d h) fun r => some (r, S2) := nrfl rfl
theorem ev_call {g : Nat} {es : MEs} : evE G cl (.call g es) ρ S = bnd (evEs G cl es ρ S) fun ds S1 => cl g ds S1 := nrfl rfl
theorem ev_bi {b : BI} {g : Nat} {es : MEs} : evE G cl (.bi b g es) ρ S = bnd (evEs G cl es ρ S) fun ds S1 => lft (biD S1 b ds) fun r => some (r, S1) := nrfl rfl
theorem ev_isI {g h : Nat} {n : String} {a : ME} : evE G cl (.isI g h n a) ρ S = bnd (evE G cl a ρ S) fun d S1 => lft (tyName S1 d) fun t => lft (kitB t n) fun b => some (.bl b, S1) := nrfl rfl
theorem ev_meth {m : MT} {o : ME} {es : MEs} : evE G cl (.meth m o es) ρ S = bnd (evE G cl o ρ S) fun d S1 => lft (lstOf S1 d) fun _ => bnd (evEs G cl es ρ S1) fun ds S2 => methD m S2 d ds := nrfl rfl
theorem ev_lc {mu : Bool} {vs : List Nat} {elt : ME} {tg : MG} {it : MI} {cs : MO} : evE G cl (.lc mu vs elt tg it cs) ρ S = bnd (evI G cl it ρ S) fun w S1 => if w.1.length ≤ sizeLine then cls mu (compL w.2 w.1 (ctn G cl elt tg cs (wipeE ρ vs)) w.1 S1 []) else none := nrfl rfl
theorem ev_lc2 {mu : Bool} {vs vs1 : List Nat} {elt : ME} {tg tg1 : MG} {it it1 : MI} {cs cs1 : MO} : evE G cl (.lc2 mu vs elt tg it cs vs1 tg1 it1 cs1) ρ S = bnd (evI G cl it ρ S) fun w S1 => cls mu (compA w.2 w.1 (ctn2 G cl elt tg cs vs1 tg1 it1 cs1 (wipeE ρ vs)) w.1 S1 []) := nrfl rfl
theorem ev_nil : evEs G cl .nil ρ S = some ([], S) := nrfl rfl
theorem ev_cons {e : ME} {es : MEs} : evEs G cl (.cons e es) ρ S = bnd (evE G cl e ρ S) fun d S1 => bnd (evEs G cl es ρ S1) fun ds S2 => some (d :: ds, S2) := nrfl rfl
theorem ev_oN : evO G cl .none ρ S = some (none, S) := nrfl rfl
theorem ev_oS {e : ME} : evO G cl (.some e) ρ S = bnd (evE G cl e ρ S) fun d S1 => match d with
    | .int i => some (some i, S1)
    | _ => none := nrfl rfl
theorem ev_cN : evC G cl .none ρ S = some (true, S) := nrfl rfl
theorem ev_cS {e : ME} : evC G cl (.some e) ρ S = bnd (evE G cl e ρ S) fun d S1 => lft (truD S1 d) fun t => some (t, S1) := nrfl rfl
theorem ev_pN : evPs G cl .nil ρ S = some ([], S) := nrfl rfl
theorem ev_pC {k v : ME} {ps : MPs} : evPs G cl (.cons k v ps) ρ S = bnd (evE G cl k ρ S) fun a S1 => bnd (evE G cl v ρ S1) fun b S2 => bnd (evPs G cl ps ρ S2) fun r S3 => some ((a, b) :: r, S3) := nrfl rfl
theorem ev_seq {e : ME} : evI G cl (.seq e) ρ S = bnd (evE G cl e ρ S) fun d S1 => lft (itemsOf S1 d) fun w => some (w, S1) := nrfl rfl
theorem ev_rng {g : Nat} {es : MEs} : evI G cl (.rng g es) ρ S = bnd (evEs G cl es ρ S) fun ds S1 => lft (rngD ds) fun xs => some ((xs, none), S1) := nrfl rfl
theorem ev_T {e : ME} : evT G cl e ρ S = bnd (evE G cl e ρ S) fun d S1 => lft (truD S1 d) fun t => some (t, S1) := nrfl rfl
theorem ev_asg {tg : MG} {e : ME} : evS G cl (.asg tg e) ρ S = bnd (evE G cl e ρ S) fun d S1 => lft (asgG tg d ρ) fun ρ1 => some (.nx ρ1, S1) := nrfl rfl
theorem ev_par2 {i j : Nat} {a b : ME} : evS G cl (.par2 i j a b) ρ S = bnd (evE G cl a ρ S) fun d S1 => bnd (evE G cl b ρ S1) fun e S2 => some (.nx ((ρ.set i (some d)).set j (some e)), S2) := nrfl rfl
theorem ev_par3 {i j l : Nat} {a b c : ME} : evS G cl (.par3 i j l a b c) ρ S = bnd (evE G cl a ρ S) fun d S1 => bnd (evE G cl b ρ S1) fun e S2 => bnd (evE G cl c ρ S2) fun f S3 => some (.nx (((ρ.set i (some d)).set j (some e)).set l (some f)), S3) := nrfl rfl
theorem ev_aug {i : Nat} {op : Operator} {e : ME} : evS G cl (.aug i op e) ρ S = (match ρ[i]? with
    | some (some d) => bnd (evE G cl e ρ S) fun y S1 => lft (augD op d y) fun r => some (.nx (ρ.set i (some r)), S1)
    | _ => none) := nrfl rfl
theorem ev_setI {o i e : ME} : evS G cl (.setI o i e) ρ S = bnd (evE G cl e ρ S) fun v S1 => bnd (evE G cl o ρ S1) fun d S2 => bnd (evE G cl i ρ S2) fun k S3 => lft (putI S3 d k v) fun S4 => some (.nx ρ, S4) := nrfl rfl
theorem ev_augI {o i e : ME} {op : Operator} : evS G cl (.augI o i op e) ρ S = bnd (evE G cl o ρ S) fun d S1 => bnd (evE G cl i ρ S1) fun k S2 => lft (augGet S2 d k) fun x => bnd (evE G cl e ρ S2) fun y S3 => lft (augD op x y) fun r => lft (putI S3 d k r) fun S4 => some (.nx ρ, S4) := nrfl rfl
theorem ev_ifS {c : ME} {a b : MSs} : evS G cl (.ifS c a b) ρ S = bnd (evT G cl c ρ S) fun t S1 => if t = true then evSs G cl a ρ S1 else evSs G cl b ρ S1 := nrfl rfl
theorem ev_whl {c : ME} {b : MSs} : evS G cl (.whl c b) ρ S = whE (evT G cl c) (evSs G cl b) ρ S := nrfl rfl
theorem ev_for {tg : MG} {it : MI} {b : MSs} : evS G cl (.forS tg it b) ρ S = bnd (evI G cl it ρ S) fun w S1 => forL w.2 w.1 (fbd G cl tg b) w.1 ρ S1 := nrfl rfl
theorem ev_ret {e : ME} : evS G cl (.ret e) ρ S = bnd (evE G cl e ρ S) fun d S1 => some (.rt d, S1) := nrfl rfl
theorem ev_retN : evS G cl .retN ρ S = some (.rt .non, S) := nrfl rfl
theorem ev_ex {e : ME} : evS G cl (.ex e) ρ S = bnd (evE G cl e ρ S) fun _ S1 => some (.nx ρ, S1) := nrfl rfl
theorem ev_pass : evS G cl .pass ρ S = some (.nx ρ, S) := nrfl rfl
theorem ev_brk : evS G cl .brk ρ S = some (.bk ρ, S) := nrfl rfl
theorem ev_sN : evSs G cl .nil ρ S = some (.nx ρ, S) := nrfl rfl
theorem ev_sC {s : MS} {ss : MSs} : evSs G cl (.cons s ss) ρ S = sq G cl ss (evS G cl s ρ S) := nrfl rfl
theorem asg_name {i : Nat} {d : D} (h : i < ρ.length) : asgG (.name i) d ρ = some (ρ.set i (some d)) := by
  simp only [asgG, h, if_true]
theorem asg_tup {ts : MGs} {xs : List D} : asgG (.tup ts) (.tup xs) ρ = asgGs ts xs ρ := nrfl rfl
theorem asg_lst {ts : MGs} {xs : List D} : asgG (.tup ts) (.lst xs) ρ = asgGs ts xs ρ := nrfl rfl
theorem asg_nil : asgGs .nil [] ρ = some ρ := nrfl rfl
theorem asg_cons {t : MG} {ts : MGs} {x : D} {xs : List D} : asgGs (.cons t ts) (x :: xs) ρ = (asgG t x ρ).bind fun ρ1 => asgGs ts xs ρ1 := nrfl rfl
end
/-! operations -/
section
variable {S : Sto} {a b : Int}
theorem add_i : binD .Add (.int a) (.int b) = some (.int (a + b)) := nrfl rfl
theorem add_t {xs ys : List D} : binD .Add (.tup xs) (.tup ys) = if xs.length + ys.length ≤ sizeLine then some (.tup (xs ++ ys)) else none := nrfl rfl
theorem add_s {xs ys : Str} : binD .Add (.str xs) (.str ys) = if xs.length + ys.length ≤ sizeLine then some (.str (xs ++ ys)) else none := nrfl rfl
theorem add_l {xs ys : List D} : binD .Add (.lst xs) (.lst ys) = if xs.length + ys.length ≤ sizeLine then some (.lst (xs ++ ys)) else none := nrfl rfl
theorem sub_i : binD .Sub (.int a) (.int b) = some (.int (a - b)) := nrfl rfl
theorem sub_b {a b : Bool} : binD .Sub (.bl a) (.bl b) = some (.int (b2i a - b2i b)) := nrfl rfl
theorem mul_i : binD .Mult (.int a) (.int b) = if mulOk a b then some (.int (a * b)) else none := nrfl rfl
theorem div_i : binD .FloorDiv (.int a) (.int b) = if divOk b then some (.int (a.fdiv b)) else none := nrfl rfl
theorem mod_i : binD .Mod (.int a) (.int b) = if b ≠ 0 then some (.int (a.fmod b)) else none := nrfl rfl
theorem pow_i : binD .Pow (.int a) (.int b) = if powOk a b then some (.int (a ^ b.toNat)) else none := nrfl rfl
theorem shl_i : binD .LShift (.int a) (.int b) = if shlOk a b then some (.int (a * 2 ^ b.toNat)) else none := nrfl rfl
theorem shr_i : binD .RShift (.int a) (.int b) = if 0 ≤ b then some (.int (a / 2 ^ b.toNat)) else none := nrfl rfl
theorem lt_i : cmpD S .Lt (.int a) (.int b) = some (decide (a < b)) := nrfl rfl
theorem le_i : cmpD S .LtE (.int a) (.int b) = some (decide (a ≤ b)) := nrfl rfl
theorem gt_i : cmpD S .Gt (.int a) (.int b) = some (decide (b < a)) := nrfl rfl
theorem ge_i : cmpD S .GtE (.int a) (.int b) = some (decide (b ≤ a)) := nrfl rfl
theorem eq_i : cmpD S .Eq (.int a) (.int b) = some (decide (a = b)) := nrfl rfl
theorem ne_i : cmpD S .NotEq (.int a) (.int b) = some (!decide (a = b)) := nrfl rfl
theorem eq_b {a b : Bool} : cmpD S .Eq (.bl a) (.bl b) = some (decide (a = b)) := nrfl rfl
theorem ne_b {a b : Bool} : cmpD S .NotEq (.bl a) (.bl b) = some (!decide (a = b)) := nrfl rfl
theorem eq_s {a b : Str} : cmpD S .Eq (.str a) (.str b) = some (decide (a = b)) := nrfl rfl
theorem ne_s {a b : Str} : cmpD S .NotEq (.str a) (.str b) = some (!decide (a = b)) := nrfl rfl
theorem eq_n : cmpD S .Eq .non .non = some true := nrfl rfl
theorem ne_n : cmpD S .NotEq .non .non = some false := nrfl rfl
theorem is_n {d : D} : cmpD S .Is d .non = some (isNone d) := nrfl rfl
theorem is_bl {a b : Bool} : cmpD S .Is (.bl a) (.bl b) = some (decide (a = b)) := nrfl rfl
theorem isnt_bl {a b : Bool} : cmpD S .IsNot (.bl a) (.bl b) = some (!decide (a = b)) := nrfl rfl
theorem isnt_n {d : D} : cmpD S .IsNot d .non = some (!isNone d) := nrfl rfl
theorem tru_b {b : Bool} : truD S (.bl b) = some b := nrfl rfl
theorem tru_i : truD S (.int a) = some (a != 0) := nrfl rfl
theorem tru_n : truD S .non = some false := nrfl rfl
theorem idx_t {xs : List D} : idxD S (.tup xs) (.int a) = atI xs a := nrfl rfl
theorem idx_l {xs : List D} : idxD S (.lst xs) (.int a) = atI xs a := nrfl rfl
theorem idx_f {xs : List D} : idxD S (.flst xs) (.int a) = atI xs a := nrfl rfl
theorem at_0 {α : Type} {x : α} {xs : List α} : atI (x :: xs) 0 = some x := by
  simp [atI, ixN]
theorem at_1 {α : Type} {x y : α} {xs : List α} : atI (x :: y :: xs) 1 = some y := by
  have : (1 : Int) < ((x :: y :: xs).length : Int) := by simp; omega
  simp only [atI, ixN, this, if_true]; rfl
theorem at_2 {α : Type} {x y z : α} {xs : List α} : atI (x :: y :: z :: xs) 2 = some z := by
  have : (2 : Int) < ((x :: y :: z :: xs).length : Int) := by simp; omega
  simp only [atI, ixN, this, if_true]; rfl
theorem at_nat {α : Type} {xs : List α} {n : Nat} (h : n < xs.length) : atI xs (n : Int) = some xs[n] := by
  simp [atI, ixN, h]
theorem abs_i : biD S .abs [.int a] = some (.int (if a < 0 then -a else a)) := nrfl rfl
theorem max_i : biD S .max [.int a, .int b] = some (.int (if b > a then b else a)) := nrfl rfl
theorem min_i : biD S .min [.int a, .int b] = some (.int (if b < a then b else a)) := nrfl rfl
theorem int_i : biD S .int [.int a] = some (.int a) := nrfl rfl
theorem int_b {a : Bool} : biD S .int [.bl a] = some (.int (b2i a)) := nrfl rfl
theorem str_i : biD S .str [.int a] = if a.natAbs.log2 < 1920 then some (.str (toString a)) else none := nrfl rfl
theorem len_t {xs : List D} : biD S .len [.tup xs] = some (.int xs.length) := nrfl rfl
theorem len_l {xs : List D} : biD S .len [.lst xs] = some (.int xs.length) := nrfl rfl
theorem len_f {xs : List D} : biD S .len [.flst xs] = some (.int xs.length) := nrfl rfl
theorem aug_addI : augD .Add (.int a) (.int b) = some (.int (a + b)) := nrfl rfl
theorem aug_subI : augD .Sub (.int a) (.int b) = some (.int (a - b)) := nrfl rfl
theorem ty_i : tyName S (.int a) = some "int" := nrfl rfl
theorem ty_b {b : Bool} : tyName S (.bl b) = some "bool" := nrfl rfl
theorem ty_n : tyName S .non = some "NoneType" := nrfl rfl
theorem ty_s {b : Str} : tyName S (.str b) = some "str" := nrfl rfl
theorem ty_t {xs : List D} : tyName S (.tup xs) = some "tuple" := nrfl rfl
theorem ty_l {xs : List D} : tyName S (.lst xs) = some "list" := nrfl rfl
theorem it_t {xs : List D} : itemsOf S (.tup xs) = some (xs, none) := nrfl rfl
theorem it_l {xs : List D} : itemsOf S (.lst xs) = some (xs, none) := nrfl rfl
theorem it_f {xs : List D} : itemsOf S (.flst xs) = some (xs, none) := nrfl rfl
end
theorem size_eq : sizeLine = 16777216 := nrfl rfl
theorem sz_0 : (0 ≤ sizeLine) = True := eq_true (by rw [size_eq]; decide)
theorem sz_1 : (1 ≤ sizeLine) = True := eq_true (by rw [size_eq]; decide)
theorem sz_2 : (2 ≤ sizeLine) = True := eq_true (by rw [size_eq]; decide)
theorem sz_3 : (3 ≤ sizeLine) = True := eq_true (by rw [size_eq]; decide)
theorem sz_4 : (4 ≤ sizeLine) = True := eq_true (by rw [size_eq]; decide)
theorem sz_5 : (5 ≤ sizeLine) = True := eq_true (by rw [size_eq]; decide)
theorem sz_6 : (6 ≤ sizeLine) = True := eq_true (by rw [size_eq]; decide)
theorem sz_7 : (7 ≤ sizeLine) = True := eq_true (by rw [size_eq]; decide)
theorem sz_8 : (8 ≤ sizeLine) = True := eq_true (by rw [size_eq]; decide)
theorem sz_9 : (9 ≤ sizeLine) = True := eq_true (by rw [size_eq]; decide)
theorem sz_10 : (10 ≤ sizeLine) = True := eq_true (by rw [size_eq]; decide)
theorem sz_11 : (11 ≤ sizeLine) = True := eq_true (by rw [size_eq]; decide)
theorem sz_12 : (12 ≤ sizeLine) = True := eq_true (by rw [size_eq]; decide)
theorem sz_13 : (13 ≤ sizeLine) = True := eq_true (by rw [size_eq]; decide)
theorem sz_14 : (14 ≤ sizeLine) = True := eq_true (by rw [size_eq]; decide)
theorem sz_15 : (15 ≤ sizeLine) = True := eq_true (by rw [size_eq]; decide)
theorem sz_16 : (16 ≤ sizeLine) = True := eq_true (by rw [size_eq]; decide)
theorem sz_17 : (17 ≤ sizeLine) = True := eq_true (by rw [size_eq]; decide)
theorem sz_18 : (18 ≤ sizeLine) = True := eq_true (by rw [size_eq]; decide)
theorem sz_19 : (19 ≤ sizeLine) = True := eq_true (by rw [size_eq]; decide)
theorem sz_20 : (20 ≤ sizeLine) = True := eq_true (by rw [size_eq]; decide)
theorem sz_21 : (21 ≤ sizeLine) = True := eq_true (by rw [size_eq]; decide)
theorem sz_22 : (22 ≤ sizeLine) = True := eq_true (by rw [size_eq]; decide)
theorem sz_23 : (23 ≤ sizeLine) = True := eq_true (by rw [size_eq]; decide)
theorem sz_24 : (24 ≤ sizeLine) = True := eq_true (by rw [size_eq]; decide)
theorem sz_25 : (25 ≤ sizeLine) = True := eq_true (by rw [size_eq]; decide)
theorem sz_26 : (26 ≤ sizeLine) = True := eq_true (by rw [size_eq]; decide)
theorem sz_27 : (27 ≤ sizeLine) = True := eq_true (by rw [size_eq]; decide)
theorem sz_28 : (28 ≤ sizeLine) = True := eq_true (by rw [size_eq]; decide)
theorem sz_29 : (29 ≤ sizeLine) = True := eq_true (by rw [size_eq]; decide)
theorem sz_30 : (30 ≤ sizeLine) = True := eq_true (by rw [size_eq]; decide)
theorem sz_31 : (31 ≤ sizeLine) = True := eq_true (by rw [size_eq]; decide)
theorem sz_32 : (32 ≤ sizeLine) = True := eq_true (by rw [size_eq]; decide)
theorem sz_33 : (33 ≤ sizeLine) = True := eq_true (by rw [size_eq]; decide)
theorem sz_34 : (34 ≤ sizeLine) = True := eq_true (by rw [size_eq]; decide)
theorem sz_35 : (35 ≤ sizeLine) = True := eq_true (by rw [size_eq]; decide)
theorem sz_36 : (36 ≤ sizeLine) = True := eq_true (by rw [size_eq]; decide)
theorem sz_37 : (37 ≤ sizeLine) = True := eq_true (by rw [size_eq]; decide)
theorem sz_38 : (38 ≤ sizeLine) = True := eq_true (by rw [size_eq]; decide)
theorem sz_39 : (39 ≤ sizeLine) = True := eq_true (by rw [size_eq]; decide)
theorem sz_40 : (40 ≤ sizeLine) = True := eq_true (by rw [size_eq]; decide)
theorem le_size {n : Nat} (h : n ≤ 1000000) : n ≤ sizeLine := by rw [size_eq]; omega
theorem kb_int_int : kitB "int" "int" = some true := by decide +kernel
theorem kb_int_bool : kitB "int" "bool" = some false := by decide +kernel
theorem kb_int_str : kitB "int" "str" = some false := by decide +kernel
theorem kb_int_tuple : kitB "int" "tuple" = some false := by decide +kernel
theorem kb_int_list : kitB "int" "list" = some false := by decide +kernel
theorem kb_int_dict : kitB "int" "dict" = some false := by decide +kernel
theorem kb_bool_int : kitB "bool" "int" = some true := by decide +kernel
theorem kb_bool_bool : kitB "bool" "bool" = some true := by decide +kernel
theorem kb_bool_str : kitB "bool" "str" = some false := by decide +kernel
theorem kb_bool_tuple : kitB "bool" "tuple" = some false := by decide +kernel
theorem kb_bool_list : kitB "bool" "list" = some false := by decide +kernel
theorem kb_bool_dict : kitB "bool" "dict" = some false := by decide +kernel
theorem kb_str_int : kitB "str" "int" = some false := by decide +kernel
theorem kb_str_bool : kitB "str" "bool" = some false := by decide +kernel
theorem kb_str_str : kitB "str" "str" = some true := by decide +kernel
theorem kb_str_tuple : kitB "str" "tuple" = some false := by decide +kernel
theorem kb_str_list : kitB "str" "list" = some false := by decide +kernel
theorem kb_str_dict : kitB "str" "dict" = some false := by decide +kernel
theorem kb_tuple_int : kitB "tuple" "int" = some false := by decide +kernel
theorem kb_tuple_bool : kitB "tuple" "bool" = some false := by decide +kernel
theorem kb_tuple_str : kitB "tuple" "str" = some false := by decide +kernel
theorem kb_tuple_tuple : kitB "tuple" "tuple" = some true := by decide +kernel
theorem kb_tuple_list : kitB "tuple" "list" = some false := by decide +kernel
theorem kb_tuple_dict : kitB "tuple" "dict" = some false := by decide +kernel
theorem kb_list_int : kitB "list" "int" = some false := by decide +kernel
theorem kb_list_bool : kitB "list" "bool" = some false := by decide +kernel
theorem kb_list_str : kitB "list" "str" = some false := by decide +kernel
theorem kb_list_tuple : kitB "list" "tuple" = some false := by decide +kernel
theorem kb_list_list : kitB "list" "list" = some true := by decide +kernel
theorem kb_list_dict : kitB "list" "dict" = some false := by decide +kernel
theorem kb_dict_int : kitB "dict" "int" = some false := by decide +kernel
theorem kb_dict_bool : kitB "dict" "bool" = some false := by decide +kernel
theorem kb_dict_str : kitB "dict" "str" = some false := by decide +kernel
theorem kb_dict_tuple : kitB "dict" "tuple" = some false := by decide +kernel
theorem kb_dict_list : kitB "dict" "list" = some false := by decide +kernel
theorem kb_dict_dict : kitB "dict" "dict" = some true := by decide +kernel
theorem kb_NoneType_int : kitB "NoneType" "int" = some false := by decide +kernel
theorem kb_NoneType_bool : kitB "NoneType" "bool" = some false := by decide +kernel
theorem kb_NoneType_str : kitB "NoneType" "str" = some false := by decide +kernel
theorem kb_NoneType_tuple : kitB "NoneType" "tuple" = some false := by decide +kernel
theorem kb_NoneType_list : kitB "NoneType" "list" = some false := by decide +kernel
theorem kb_NoneType_dict : kitB "NoneType" "dict" = some false := by decide +kernel
theorem obind_some {α β : Type} (a : α) (f : α → Option β) : (some a).bind f = f a := nrfl rfl
theorem pow_succ_eq (n : Nat) : (2 : Int) ^ n > 0 := Int.pow_pos (by decide)
def E1 := And.intro @bnd_s (And.intro @lft_s (And.intro @lft_n (And.intro @bnd_n (And.intro @obind_some (And.intro @ev_var (And.intro @ev_int (And.intro @ev_str (And.intro @ev_bl (And.intro @ev_non (And.intro @ev_con (And.intro @ev_bin (And.intro @ev_neg (And.intro @ev_cmp (And.intro @ev_ch (And.intro @ev_and (And.intro @ev_or (And.intro @ev_one (And.intro @ev_not (And.intro @ev_ifE (And.intro @ev_tup (And.intro @ev_lst (And.intro @ev_mlst (And.intro @ev_dict (And.intro @ev_idx (@ev_sl)))))))))))))))))))))))))
def E2 := And.intro @ev_madd (And.intro @ev_slR (And.intro @ev_call (And.intro @ev_bi (And.intro @ev_isI (And.intro @ev_meth (And.intro @ev_lc (And.intro @ev_lc2 (And.intro @ev_nil (And.intro @ev_cons (And.intro @ev_oN (And.intro @ev_oS (And.intro @ev_cN (And.intro @ev_cS (And.intro @ev_pN (And.intro @ev_pC (And.intro @ev_seq (And.intro @ev_rng (And.intro @ev_T (And.intro @ev_asg (And.intro @ev_par2 (And.intro @ev_par3 (And.intro @ev_aug (And.intro @ev_setI (And.intro @ev_augI (And.intro @ev_ifS (And.intro @ev_whl (And.intro @ev_for (@ev_ret))))))))))))))))))))))))))))
def E3 := And.intro @ev_retN (And.intro @ev_ex (And.intro @ev_pass (And.intro @ev_brk (And.intro @ev_sN (And.intro @ev_sC (And.intro @sq_nx (And.intro @sq_rt (And.intro @sq_bk (And.intro @fin_nx (And.intro @fin_rt (And.intro @cls_f (And.intro @cls_t (And.intro @sz_0 (And.intro @sz_1 (And.intro @sz_2 (And.intro @sz_3 (And.intro @sz_4 (And.intro @sz_5 (And.intro @sz_6 (And.intro @sz_7 (And.intro @sz_8 (And.intro @sz_9 (And.intro @sz_10 (@sz_11))))))))))))))))))))))))
def E4 := And.intro @sz_12 (And.intro @sz_13 (And.intro @sz_14 (And.intro @sz_15 (And.intro @sz_16 (And.intro @sz_17 (And.intro @sz_18 (And.intro @sz_19 (And.intro @sz_20 (And.intro @sz_21 (And.intro @sz_22 (And.intro @sz_23 (And.intro @sz_24 (And.intro @sz_25 (And.intro @sz_26 (And.intro @sz_27 (And.intro @sz_28 (And.intro @sz_29 (And.intro @sz_30 (And.intro @sz_31 (And.intro @sz_32 (And.intro @sz_33 (And.intro @sz_34 (And.intro @sz_35 (@sz_36))))))))))))))))))))))))
def E5 := And.intro @sz_37 (And.intro @sz_38 (And.intro @sz_39 (And.intro @sz_40 (And.intro @kb_int_int (And.intro @kb_int_bool (And.intro @kb_int_str (And.intro @kb_int_tuple (And.intro @kb_int_list (And.intro @kb_int_dict (And.intro @kb_bool_int (And.intro @kb_bool_bool (And.intro @kb_bool_str (And.intro @kb_bool_tuple (And.intro @kb_bool_list (And.intro @kb_bool_dict (And.intro @kb_str_int (And.intro @kb_str_bool (And.intro @kb_str_str (And.intro @kb_str_tuple (And.intro @kb_str_list (And.intro @kb_str_dict (And.intro @kb_tuple_int (And.intro @kb_tuple_bool (@kb_tuple_str))))))))))))))))))))))))
def E6 := And.intro @kb_tuple_tuple (And.intro @kb_tuple_list (And.intro @kb_tuple_dict (And.intro @kb_list_int (And.intro @kb_list_bool (And.intro @kb_list_str (And.intro @kb_list_tuple (And.intro @kb_list_list (And.intro @kb_list_dict (And.intro @kb_dict_int (And.intro @kb_dict_bool (And.intro @kb_dict_str (And.intro @kb_dict_tuple (And.intro @kb_dict_list (And.intro @kb_dict_dict (And.intro @kb_NoneType_int (And.intro @kb_NoneType_bool (And.intro @kb_NoneType_str (And.intro @kb_NoneType_tuple (And.intro @kb_NoneType_list (And.intro @kb_NoneType_dict (And.intro @asg_name (And.intro @asg_tup (And.intro @asg_lst (@asg_nil))))))))))))))))))))))))
def E7 := And.intro @asg_cons (And.intro @add_i (And.intro @add_t (And.intro @add_s (And.intro @add_l (And.intro @sub_i (And.intro @sub_b (And.intro @mul_i (And.intro @div_i (And.intro @mod_i (And.intro @pow_i (And.intro @shl_i (And.intro @shr_i (And.intro @lt_i (And.intro @le_i (And.intro @gt_i (And.intro @ge_i (And.intro @eq_i (And.intro @ne_i (And.intro @eq_b (And.intro @ne_b (And.intro @eq_s (And.intro @ne_s (And.intro @eq_n (@ne_n))))))))))))))))))))))))
def E8 := And.intro @is_bl (And.intro @isnt_bl (And.intro @is_n (And.intro @isnt_n (And.intro @tru_b (And.intro @tru_i (And.intro @tru_n (And.intro @idx_t (And.intro @idx_l (And.intro @idx_f (And.intro @at_0 (And.intro @at_1 (And.intro @at_2 (And.intro @abs_i (And.intro @max_i (And.intro @min_i (And.intro @int_i (And.intro @int_b (And.intro @str_i (And.intro @len_t (And.intro @len_l (And.intro @len_f (And.intro @aug_addI (And.intro @aug_subI (And.intro @ty_i (And.intro @ty_b (@ty_n))))))))))))))))))))))))))
def E9 := And.intro @ty_s (And.intro @ty_t (And.intro @ty_l (And.intro @it_t (And.intro @it_l (And.intro @it_f (@prune_same))))))
end Rw

/-! M16: fractions -/
namespace Rw
open PySem L2

def fr (q : Rat) : D := .tup [.int q.num, .int (q.den : Int)]
/-- of at most n bits -/
def Bd (n : Nat) (a : Int) : Prop := a.natAbs < 2 ^ n
def Sm (n : Nat) (q : Rat) : Prop := q.num.natAbs < 2 ^ n ∧ q.den < 2 ^ n
theorem log_lt {a n : Nat} (h : a < 2 ^ n) (hn : 0 < n) : a.log2 < n := by
  by_cases e : a = 0
  · subst e
    simpa using hn
  · exact (Nat.log2_lt e).mpr h
theorem Bd.mono {n m : Nat} {a : Int} (h : Bd n a) (l : n ≤ m) : Bd m a := Nat.lt_of_lt_of_le h (Nat.pow_le_pow_right (by decide) l)
theorem Sm.mono {n m : Nat} {q : Rat} (h : Sm n q) (l : n ≤ m) : Sm m q := ⟨Nat.lt_of_lt_of_le h.1 (Nat.pow_le_pow_right (by decide) l), Nat.lt_of_lt_of_le h.2 (Nat.pow_le_pow_right (by decide) l)⟩
theorem Bd.mulOk {n m : Nat} {a b : Int} (h : Bd n a) (g : Bd m b) (l : n + m < 500000) : mulOk a b := by
  have h1 := log_lt (h.mono (Nat.le_succ n)) (Nat.succ_pos n)
  have h2 := log_lt (g.mono (Nat.le_succ m)) (Nat.succ_pos m)
  unfold Rw.mulOk
  omega
theorem Bd.divOk {n : Nat} {a : Int} (h : Bd n a) (z : a ≠ 0) (l : n < 9000) : divOk a := ⟨z, Nat.lt_of_lt_of_le (log_lt (h.mono (Nat.le_succ n)) (Nat.succ_pos n)) l⟩
theorem Bd.mul {n m : Nat} {a b : Int} (h : Bd n a) (g : Bd m b) : Bd (n + m) (a * b) := by
  unfold Bd at *
  rw [Int.natAbs_mul, Nat.pow_add]
  exact Nat.mul_lt_mul'' h g
theorem Bd.add {n m : Nat} {a b : Int} (h : Bd n a) (g : Bd m b) : Bd (max n m + 1) (a + b) := by
  have h' := h.mono (Nat.le_max_left n m)
  have g' := g.mono (Nat.le_max_right n m)
  unfold Bd at *
  have := Int.natAbs_add_le a b
  rw [Nat.pow_succ]
  omega
theorem Bd.neg {n : Nat} {a : Int} (h : Bd n a) : Bd n (-a) := by
  unfold Bd at *
  rwa [Int.natAbs_neg]
theorem Bd.sub {n m : Nat} {a b : Int} (h : Bd n a) (g : Bd m b) : Bd (max n m + 1) (a - b) := by
  rw [Int.sub_eq_add_neg]
  exact h.add g.neg
theorem Bd.of_le {n : Nat} {a b : Int} (h : Bd n a) (l : b.natAbs ≤ a.natAbs) : Bd n b := Nat.lt_of_le_of_lt l h
theorem Sm.nm {n : Nat} {q : Rat} (h : Sm n q) : Bd n q.num := h.1
theorem Sm.dn {n : Nat} {q : Rat} (h : Sm n q) : Bd n (q.den : Int) := by simpa [Bd] using h.2
theorem den_ne {q : Rat} : (q.den : Int) ≠ 0 := by
  have := q.den_nz
  omega
theorem den_pos {q : Rat} : (0 : Int) < (q.den : Int) := by
  have := q.den_pos
  omega
theorem num_le {a b : Int} : (Rat.divInt a b).num.natAbs ≤ a.natAbs := by
  rw [Rat.num_divInt]
  refine Nat.le_trans (Int.natAbs_ediv_le_natAbs _ _) ?_
  rw [Int.natAbs_mul]
  have : b.sign.natAbs ≤ 1 := by
    rcases Int.lt_trichotomy b 0 with h | h | h
    · rw [Int.sign_eq_neg_one_of_neg h]; decide
    · rw [h]; decide
    · rw [Int.sign_eq_one_of_pos h]; decide
  calc _ ≤ 1 * a.natAbs := Nat.mul_le_mul_right _ this
    _ = _ := Nat.one_mul _
theorem den_le {a b : Int} (h : b ≠ 0) : (Rat.divInt a b).den ≤ b.natAbs := by
  rw [Rat.den_divInt, if_neg h]
  exact Nat.div_le_self _ _
theorem Sm.div {n m : Nat} {a b : Int} (h : Bd n a) (g : Bd m b) (z : b ≠ 0) : Sm (max n m) (Rat.divInt a b) :=
  ⟨Nat.lt_of_le_of_lt num_le (h.mono (Nat.le_max_left n m)), Nat.lt_of_le_of_lt (den_le z) (g.mono (Nat.le_max_right n m))⟩
theorem add_eq (p q : Rat) : p + q = Rat.divInt (p.num * q.den + q.num * p.den) (p.den * q.den) := by
  conv => lhs; rw [← Rat.num_divInt_den p, ← Rat.num_divInt_den q]
  exact Rat.divInt_add_divInt _ _ den_ne den_ne
theorem mul_eq (p q : Rat) : p * q = Rat.divInt (p.num * q.num) (p.den * q.den) := by
  conv => lhs; rw [← Rat.num_divInt_den p, ← Rat.num_divInt_den q]
  exact Rat.divInt_mul_divInt _ _
theorem div_eq (p q : Rat) : p / q = Rat.divInt (p.num * q.den) (p.den * q.num) := by
  conv => lhs; rw [← Rat.num_divInt_den p, ← Rat.num_divInt_den q]
  rw [Rat.div_def, Rat.inv_divInt, Rat.divInt_mul_divInt]
theorem Sm.add {n m : Nat} {p q : Rat} (h : Sm n p) (g : Sm m q) : Sm (n + m + 1) (p + q) := by
  rw [add_eq]
  have h1 := (h.nm.mul g.dn).add (g.nm.mul h.dn)
  have h2 := h.dn.mul g.dn
  have := Sm.div h1 h2 (Int.mul_ne_zero den_ne den_ne)
  exact this.mono (by omega)
theorem Sm.mul {n m : Nat} {p q : Rat} (h : Sm n p) (g : Sm m q) : Sm (n + m) (p * q) := by
  rw [mul_eq]
  have := Sm.div (h.nm.mul g.nm) (h.dn.mul g.dn) (Int.mul_ne_zero den_ne den_ne)
  exact this.mono (by omega)
theorem Sm.neg {n : Nat} {p : Rat} (h : Sm n p) : Sm n (-p) := by
  refine ⟨?_, h.2⟩
  show (-p.num).natAbs < _
  rw [Int.natAbs_neg]
  exact h.1
theorem num_ne {q : Rat} (h : q ≠ 0) : q.num ≠ 0 := fun e => h (Rat.num_eq_zero.mp e)
theorem Sm.quo {n m : Nat} {p q : Rat} (h : Sm n p) (g : Sm m q) (z : q ≠ 0) : Sm (n + m) (p / q) := by
  rw [div_eq]
  have := Sm.div (h.nm.mul g.dn) (h.dn.mul g.nm) (Int.mul_ne_zero den_ne (num_ne z))
  exact this.mono (by omega)
theorem fr_neg {p : Rat} : fr (-p) = .tup [.int (-p.num), .int (p.den : Int)] := rfl
theorem fr_abs {p : Rat} : fr p.abs = .tup [.int (if p.num < 0 then -p.num else p.num), .int (p.den : Int)] := by
  unfold Rat.abs
  by_cases h : 0 ≤ p
  · have : ¬ p.num < 0 := by
      have := Rat.num_nonneg.mpr h
      omega
    simp only [h, this, if_true, if_false]
    rfl
  · have : p.num < 0 := by
      have : ¬ 0 ≤ p.num := fun q => h (Rat.num_nonneg.mp q)
      omega
    simp only [h, this, if_true, if_false]
    rfl
/-- least terms -/
theorem fr_div {u l : Int} (h : l ≠ 0) : fr (Rat.divInt u l) = .tup [.int (u.fdiv (if 0 < l then (Int.gcd u l : Int) else -(Int.gcd u l : Int))), .int (l.fdiv (if 0 < l then (Int.gcd u l : Int) else -(Int.gcd u l : Int)))] := by
  have hg : (Int.gcd u l : Int) ≠ 0 := by
    have : Int.gcd u l ≠ 0 := fun e => h (Int.gcd_eq_zero_iff.mp e).2
    omega
  have d1 : (Int.gcd u l : Int) ∣ u := Int.gcd_dvd_left ..
  have d2 : (Int.gcd u l : Int) ∣ l := Int.gcd_dvd_right ..
  unfold fr
  rw [Rat.num_divInt, Rat.den_divInt, if_neg h, Int.gcd_comm l u]
  by_cases c : 0 < l
  · rw [if_pos c, Int.fdiv_eq_ediv_of_dvd d1, Int.fdiv_eq_ediv_of_dvd d2, Int.sign_eq_one_of_pos c, Int.one_mul]
    congr
    rw [Int.natCast_ediv]
    congr
    omega
  · have cl : l < 0 := by omega
    rw [if_neg c, Int.fdiv_eq_ediv_of_dvd (Int.neg_dvd.mpr d1), Int.fdiv_eq_ediv_of_dvd (Int.neg_dvd.mpr d2), Int.sign_eq_neg_one_of_neg cl, Int.ediv_neg, Int.ediv_neg]
    have e1 : -1 * u / (Int.gcd u l : Int) = -(u / (Int.gcd u l : Int)) := by
      rw [Int.neg_one_mul, Int.neg_ediv_of_dvd d1]
    have e2 : ((l.natAbs / Int.gcd u l : Nat) : Int) = -(l / (Int.gcd u l : Int)) := by
      rw [Int.natCast_ediv, ← Int.neg_ediv_of_dvd d2]
      congr
      omega
    rw [e1, e2]
theorem gcd_bd {n : Nat} {u l : Int} (h : l ≠ 0) (g : Bd n l) : Bd n (Int.gcd u l : Int) := by
  refine Nat.lt_of_le_of_lt ?_ g
  show Int.gcd u l ≤ l.natAbs
  exact Nat.le_of_dvd (by omega) (Nat.gcd_dvd_right _ _)
theorem gcd_ne {u l : Int} (h : l ≠ 0) : (Int.gcd u l : Int) ≠ 0 := by
  have : Int.gcd u l ≠ 0 := fun e => h (Int.gcd_eq_zero_iff.mp e).2
  omega
theorem lt_eq {p q : Rat} : decide (p.num * (q.den : Int) < q.num * (p.den : Int)) = decide (p < q) := by
  rw [decide_eq_decide, Rat.lt_iff]
theorem le_eq {p q : Rat} : decide (p.num * (q.den : Int) ≤ q.num * (p.den : Int)) = decide (p ≤ q) := by
  rw [decide_eq_decide, Rat.le_iff]
theorem fmod_nat (m n : Nat) : Int.fmod (m : Int) (n : Int) = ((m % n : Nat) : Int) := by
  rw [Int.fmod_eq_emod_of_nonneg _ (by omega)]
  rfl
theorem abs_nat (a : Int) : (if a < 0 then -a else a) = (a.natAbs : Int) := by
  split <;> omega
/-! powers of two -/
theorem shl_one {b : Int} (h : 0 ≤ b) (g : b ≤ 10000) : shlOk 1 b := by
  refine ⟨h, ?_⟩
  have : Builtin.Int.intBits 1 = 1 := by decide +kernel
  rw [this]
  omega
/-- how many bits -/
def bln (m : Nat) : Nat := if m = 0 then 0 else m.log2 + 1
theorem bln_lt (m i : Nat) : i < bln m ↔ 2 ^ i ≤ m := by
  unfold bln
  split
  · rename_i h
    subst h
    have := Nat.two_pow_pos i
    omega
  · rename_i h
    rw [← Nat.le_log2 h]
    omega
theorem bln_shr {m i : Nat} : (0 : Int) < (m : Int) / 2 ^ (i : Int).toNat ↔ i < bln m := by
  rw [bln_lt]
  have e : ((m : Int) / 2 ^ (i : Int).toNat) = ((m / 2 ^ i : Nat) : Int) := by
    rw [Int.toNat_natCast, Int.natCast_ediv, Int.natCast_pow]
    rfl
  rw [e]
  have := Nat.div_pos_iff (a := m) (b := 2 ^ i)
  have := Nat.two_pow_pos i
  constructor
  · intro h
    have : 0 < m / 2 ^ i := by omega
    omega
  · intro h
    have : 0 < m / 2 ^ i := by omega
    omega
theorem two_nat (n : Nat) : (2 : Rat) ^ n = Rat.divInt ((2 ^ n : Nat) : Int) 1 := by
  induction n with
  | zero => rfl
  | succ n ih =>
    rw [Rat.pow_succ, ih, show (2 : Rat) = Rat.divInt 2 1 from rfl, Rat.divInt_mul_divInt]
    congr 1
theorem two_num (n : Nat) : ((2 : Rat) ^ n).num = (2 : Int) ^ n ∧ ((2 : Rat) ^ n).den = 1 := by
  rw [two_nat]
  refine ⟨?_, ?_⟩
  · rw [Rat.num_divInt]
    simp
  · rw [Rat.den_divInt]
    simp
theorem two_neg (n : Nat) : ((2 : Rat) ^ (-(n : Int))).num = 1 ∧ ((2 : Rat) ^ (-(n : Int))).den = 2 ^ n := by
  have e : (2 : Rat) ^ (-(n : Int)) = Rat.divInt 1 ((2 ^ n : Nat) : Int) := by
    rw [Rat.zpow_neg, Rat.zpow_natCast, two_nat, Rat.inv_divInt]
  have h : ((2 ^ n : Nat) : Int) ≠ 0 := by
    have := Nat.two_pow_pos n
    omega
  rw [e]
  refine ⟨?_, ?_⟩
  · rw [Rat.num_divInt, Int.sign_eq_one_of_pos (by have := Nat.two_pow_pos n; omega)]
    simp
  · rw [Rat.den_divInt, if_neg h]
    simp
theorem fr_two {b : Int} : fr ((2 : Rat) ^ b) = if 0 ≤ b then .tup [.int (2 ^ b.toNat), .int 1] else .tup [.int 1, .int (2 ^ (-b).toNat)] := by
  unfold fr
  split
  · rename_i h
    obtain ⟨n, rfl⟩ := Int.eq_ofNat_of_zero_le h
    rw [Rat.zpow_natCast, (two_num n).1, (two_num n).2]
    rfl
  · rename_i h
    obtain ⟨n, e⟩ := Int.eq_ofNat_of_zero_le (show 0 ≤ -b by omega)
    have : b = -(n : Int) := by omega
    subst this
    rw [(two_neg n).1, (two_neg n).2, Int.neg_neg, Int.toNat_natCast, Int.natCast_pow]
    rfl
theorem sm_two {b : Int} {m : Nat} (h : b.natAbs ≤ m) : Sm (m + 1) ((2 : Rat) ^ b) := by
  by_cases c : 0 ≤ b
  · obtain ⟨n, rfl⟩ := Int.eq_ofNat_of_zero_le c
    rw [Rat.zpow_natCast]
    unfold Sm
    rw [(two_num n).1, (two_num n).2]
    refine ⟨?_, Nat.one_lt_two_pow (by omega)⟩
    rw [Int.natAbs_pow]
    exact Nat.pow_lt_pow_right (by decide) (by omega)
  · obtain ⟨n, e⟩ := Int.eq_ofNat_of_zero_le (show 0 ≤ -b by omega)
    have : b = -(n : Int) := by omega
    subst this
    unfold Sm
    rw [(two_neg n).1, (two_neg n).2]
    exact ⟨Nat.one_lt_two_pow (by omega), Nat.pow_lt_pow_right (by decide) (by omega)⟩
end Rw

/-! M17: loops, data alike -/
namespace Rw
open PySem L2

/-! ### loops -/
section
variable {all : List D} {body : D → Env → Sto → Rs Fl} {ρ ρ1 : Env} {S S1 : Sto} {x d : D} {xs : List D}
theorem forL_nil : forL none all body [] ρ S = some (.nx ρ, S) := by
  simp only [forL, okS, if_true, reduceIte]
theorem forL_cons (h : body x ρ S = some (.nx ρ1, S1)) : forL none all body (x :: xs) ρ S = forL none all body xs ρ1 S1 := by
  simp only [forL, okS, if_true, h, bnd_some]
theorem forL_ret (h : body x ρ S = some (.rt d, S1)) : forL none all body (x :: xs) ρ S = some (.rt d, S1) := by
  simp only [forL, okS, if_true, h, bnd_some]
theorem forL_brk (h : body x ρ S = some (.bk ρ1, S1)) : forL none all body (x :: xs) ρ S = some (.nx ρ1, S1) := by
  simp only [forL, okS, if_true, h, bnd_some]
theorem forL_run {I : Nat → Env → Sto → Prop} (step : ∀ (i : Nat) (x : D) (ρ : Env) (S : Sto), xs[i]? = some x → I i ρ S → ∃ ρ1 S1, body x ρ S = some (.nx ρ1, S1) ∧ I (i + 1) ρ1 S1) (h0 : I 0 ρ S) :
    ∃ ρ1 S1, forL none all body xs ρ S = some (.nx ρ1, S1) ∧ I xs.length ρ1 S1 := by
  induction xs generalizing ρ S I with
  | nil => exact ⟨ρ, S, forL_nil, h0⟩
  | cons x xs ih =>
    obtain ⟨ρ1, S1, h1, h2⟩ := step 0 x ρ S rfl h0
    obtain ⟨ρ2, S2, h3, h4⟩ := ih (I := fun i => I (i + 1)) (fun i y ρ S e h => step (i + 1) y ρ S e h) h2
    exact ⟨ρ2, S2, (forL_cons h1).trans h3, h4⟩
variable {turn : D → Sto → Rs (Option D)} {acc : List D} {y : D}
theorem compL_nil : compL none all turn [] S acc = some (acc, S) := by
  simp only [compL, okS, if_true, reduceIte]
theorem compL_some (h : turn x S = some (some y, S1)) : compL none all turn (x :: xs) S acc = compL none all turn xs S1 (acc ++ [y]) := by
  simp only [compL, okS, if_true, h, bnd_some]
theorem compL_none (h : turn x S = some (none, S1)) : compL none all turn (x :: xs) S acc = compL none all turn xs S1 acc := by
  simp only [compL, okS, if_true, h, bnd_some]
theorem compL_fm {f : D → Option D} (h : ∀ x ∈ xs, turn x S = some (f x, S)) : compL none all turn xs S acc = some (acc ++ xs.filterMap f, S) := by
  induction xs generalizing acc with
  | nil => rw [compL_nil]; simp
  | cons x xs ih =>
    have h1 := h x List.mem_cons_self
    have h2 := fun acc => ih (acc := acc) fun z hz => h z (List.mem_cons_of_mem _ hz)
    cases c : f x with
    | none => rw [compL_none (by rw [h1, c]), h2, List.filterMap_cons, c]
    | some y => rw [compL_some (by rw [h1, c]), h2, List.filterMap_cons, c]; simp
theorem compL_map {f : D → D} (h : ∀ x ∈ xs, turn x S = some (some (f x), S)) : compL none all turn xs S acc = some (acc ++ xs.map f, S) := by
  rw [compL_fm (f := fun x => some (f x)) h]
  congr
  induction xs with
  | nil => rfl
  | cons x xs ih => simp only [List.filterMap_cons, List.map_cons, ih fun z hz => h z (List.mem_cons_of_mem _ hz)]
end
section
variable {all : List D} {turn : D → Sto → List D → Rs (List D)} {x : D} {xs acc acc1 : List D} {S S1 : Sto}
theorem compA_nil : compA none all turn [] S acc = some (acc, S) := by
  simp only [compA, okS, if_true, reduceIte]
theorem compA_cons (h : turn x S acc = some (acc1, S1)) : compA none all turn (x :: xs) S acc = compA none all turn xs S1 acc1 := by
  simp only [compA, okS, if_true, reduceIte, h, bnd_some]
/-- all turns add their lists -/
theorem compA_app {f : D → List D} (h : ∀ x ∈ xs, ∀ acc, turn x S acc = some (acc ++ f x, S)) : compA none all turn xs S acc = some (acc ++ xs.flatMap f, S) := by
  induction xs generalizing acc with
  | nil => rw [compA_nil]; simp
  | cons x xs ih =>
    rw [compA_cons (h x List.mem_cons_self acc), ih fun y hy => h y (List.mem_cons_of_mem _ hy), List.flatMap_cons, List.append_assoc]
end
/-! ### the store -/
section
variable {S T : Sto} {c c' : Cell} {d : D}
theorem at_new : (S ++ [c])[S.length]? = some c := by simp
theorem set_new : (S ++ [c]).set S.length c' = S ++ [c'] := by simp
theorem prune_len {S' : Sto} (h : S'.length = S.length) : prune S d S' = (d, S') := by
  unfold prune
  split
  · rename_i c
    have : S'.take S.length = S' := List.take_of_length_le (by omega)
    rw [this] at c
    rw [← c.1]
  · rfl
theorem prune_one (h : below S.length d = true) : prune S d (S ++ [c]) = (d, S) := prune_new h
theorem prune_ap (h : below S.length d = true) : prune S d (S ++ T) = (d, S) := prune_new h
theorem getRef : lstOf (S ++ [.lst xs]) (.ref S.length) = some xs := by
  simp only [lstOf, at_new]
theorem bl_int {n : Nat} {i : Int} : below n (.int i) = true := rfl
theorem bl_bl {n : Nat} {i : Bool} : below n (.bl i) = true := rfl
theorem bl_str {n : Nat} {i : Str} : below n (.str i) = true := rfl
theorem bl_non {n : Nat} : below n .non = true := rfl
theorem bls_map {n : Nat} {α : Type} {f : α → D} (h : ∀ x, below n (f x) = true) : ∀ xs : List α, belows n (xs.map f) = true
  | [] => rfl
  | x :: xs => by
    show (below n (f x) && belows n (xs.map f)) = true
    rw [h x, bls_map h xs]
    rfl
theorem bl_fr {n : Nat} {q : Rat} : below n (fr q) = true := rfl
end
/-! ### data alike -/
mutual
/-- plain data: no references, of limited depth -/
def okD : Nat → D → Bool
  | _, .non => true
  | _, .bl _ => true
  | _, .int _ => true
  | _, .str s => PyData.strOk s
  | 0, .tup _ => false
  | 0, .lst _ => false
  | n + 1, .tup xs => okDs n xs && decide (xs.length ≤ sizeLine)
  | n + 1, .lst xs => okDs n xs && decide (xs.length ≤ sizeLine)
  | _, _ => false
def okDs : Nat → List D → Bool
  | _, [] => true
  | n, x :: xs => okD n x && okDs n xs
end
mutual
def pdD : D → PyData
  | .bl b => .bool b
  | .int i => .int i
  | .str s => .str s
  | .tup xs => .tuple (pdDs xs)
  | .lst xs => .list (pdDs xs)
  | _ => .none
def pdDs : List D → List PyData
  | [] => []
  | x :: xs => pdD x :: pdDs xs
end
mutual
theorem pd_ok {S : Sto} : ∀ (n : Nat) (d : D), okD n d = true → pd S d = some (pdD d) ∧ (pdD d).canLay0 = true ∧ (pdD d).depth ≤ n
  | _, .non, _ => ⟨rfl, rfl, Nat.zero_le _⟩
  | _, .bl _, _ => ⟨rfl, rfl, Nat.zero_le _⟩
  | _, .int _, _ => ⟨rfl, rfl, Nat.zero_le _⟩
  | n, .str s, h => ⟨rfl, by
    have : PyData.strOk s = true := by cases n <;> exact h
    simpa [pdD, PyData.canLay0] using this, by simp [pdD, PyData.depth]⟩
  | 0, .tup xs, h => absurd (show false = true from h) Bool.false_ne_true
  | 0, .lst xs, h => absurd (show false = true from h) Bool.false_ne_true
  | n + 1, .tup xs, h => by
    obtain ⟨h1, _⟩ := bk (show (okDs n xs && decide (xs.length ≤ sizeLine)) = true from h)
    obtain ⟨a, b, c⟩ := pds_ok n xs h1
    refine ⟨?_, ?_, ?_⟩
    · show (pds S xs).map PyData.tuple = _
      rw [a]
      rfl
    · simpa [pdD, PyData.canLay0] using b
    · simp only [pdD, PyData.depth]
      omega
  | n + 1, .lst xs, h => by
    obtain ⟨h1, _⟩ := bk (show (okDs n xs && decide (xs.length ≤ sizeLine)) = true from h)
    obtain ⟨a, b, c⟩ := pds_ok n xs h1
    refine ⟨?_, ?_, ?_⟩
    · show (pds S xs).map PyData.list = _
      rw [a]
      rfl
    · simpa [pdD, PyData.canLay0] using b
    · simp only [pdD, PyData.depth]
      omega
  | n, .flst _, h => by cases n <;> exact absurd (show false = true from h) Bool.false_ne_true
  | n, .ref _, h => by cases n <;> exact absurd (show false = true from h) Bool.false_ne_true
  | n, .ty _, h => by cases n <;> exact absurd (show false = true from h) Bool.false_ne_true
theorem pds_ok {S : Sto} : ∀ (n : Nat) (ds : List D), okDs n ds = true → pds S ds = some (pdDs ds) ∧ PyData.canLayAll0 (pdDs ds) = true ∧ PyData.depthAll (pdDs ds) ≤ n
  | n, [], _ => ⟨rfl, rfl, Nat.zero_le _⟩
  | n, x :: xs, h => by
    obtain ⟨h1, h2⟩ := bk (show (okD n x && okDs n xs) = true from h)
    obtain ⟨a, b, c⟩ := pd_ok (S := S) n x h1
    obtain ⟨a', b', c'⟩ := pds_ok (S := S) n xs h2
    refine ⟨by simp only [pds, a, a', pdDs], ?_, ?_⟩
    · simp [pdDs, PyData.canLayAll0, b, b']
    · simp only [pdDs, PyData.depthAll]
      omega
end
def dup (d : D) : D := .tup [d, d]
theorem dup_ok {n : Nat} : ∀ {ds : List D}, okDs n ds = true → okDs (n + 1) (ds.map dup) = true
  | [], _ => rfl
  | d :: ds, h => by
    obtain ⟨h1, h2⟩ := bk (show (okD n d && okDs n ds) = true from h)
    show (okD (n + 1) (dup d) && okDs (n + 1) (ds.map dup)) = true
    rw [dup_ok h2]
    show ((okDs n [d, d] && decide ([d, d].length ≤ sizeLine)) && true) = true
    have : okDs n [d, d] = true := by
      show (okD n d && (okD n d && true)) = true
      rw [h1]
      rfl
    rw [this]
    rfl
/-- a list of the store told from the empty one -/
theorem ne_nil {S : Sto} {ds : List D} {n : Nat} (h : okDs n ds = true) (hn : n ≤ 63) : cmpD (S ++ [.lst ds]) .NotEq (.ref S.length) (.lst []) = some (!ds.isEmpty) := by
  obtain ⟨a, b, c⟩ := pds_ok (S := S ++ [.lst ds]) n ds h
  have e1 : pdT (S ++ [.lst ds]) (.ref S.length) = some (.list (pdDs ds)) := by
    simp only [pdT, at_new, a]
    rfl
  have s1 : SeqAt.shaped (.list (pdDs ds)) = true := by
    have h1 : (PyData.list (pdDs ds)).canLay0 = true := by simpa [PyData.canLay0] using b
    have h2 : (PyData.list (pdDs ds)).depth ≤ 64 := by
      simp only [PyData.depth]
      omega
    unfold SeqAt.shaped
    rw [h1, decide_eq_true h2]
    rfl
  show (eqD _ _ _).map _ = _
  have e2 : eqD (S ++ [.lst ds]) (.ref S.length) (.lst []) = some ds.isEmpty := by
    show (match pdT (S ++ [.lst ds]) (.ref S.length), pdT (S ++ [.lst ds]) (.lst []) with
    | some p, some q => if SeqAt.shaped p = true ∧ SeqAt.shaped q = true then some (PyData.eqv p q) else none
    | _, _ => none) = _
    rw [e1]
    show (if SeqAt.shaped (.list (pdDs ds)) = true ∧ SeqAt.shaped (.list []) = true then some (PyData.eqv (.list (pdDs ds)) (.list [])) else none) = _
    rw [if_pos ⟨s1, rfl⟩]
    cases ds <;> rfl
  rw [e2]
  rfl
theorem okDs_ap {n : Nat} : ∀ {a b : List D}, okDs n (a ++ b) = (okDs n a && okDs n b)
  | [], _ => rfl
  | x :: a, b => by
    show (okD n x && okDs n (a ++ b)) = ((okD n x && okDs n a) && okDs n b)
    rw [okDs_ap, Bool.and_assoc]
mutual
theorem okD_mono {m : Nat} : ∀ {n : Nat} {d : D}, n ≤ m → okD n d = true → okD m d = true
  | _, .non, _, _ => by cases m <;> rfl
  | _, .bl _, _, _ => by cases m <;> rfl
  | _, .int _, _, _ => by cases m <;> rfl
  | n, .str s, _, h => by
    have : PyData.strOk s = true := by cases n <;> exact h
    cases m <;> exact this
  | 0, .tup xs, _, h => absurd (show false = true from h) Bool.false_ne_true
  | 0, .lst xs, _, h => absurd (show false = true from h) Bool.false_ne_true
  | n + 1, .tup xs, l, h => by
    obtain ⟨h1, h2⟩ := bk (show (okDs n xs && decide (xs.length ≤ sizeLine)) = true from h)
    cases m with
    | zero => omega
    | succ m =>
      show (okDs m xs && decide (xs.length ≤ sizeLine)) = true
      rw [okDs_mono (by omega) h1, h2]
      rfl
  | n + 1, .lst xs, l, h => by
    obtain ⟨h1, h2⟩ := bk (show (okDs n xs && decide (xs.length ≤ sizeLine)) = true from h)
    cases m with
    | zero => omega
    | succ m =>
      show (okDs m xs && decide (xs.length ≤ sizeLine)) = true
      rw [okDs_mono (by omega) h1, h2]
      rfl
  | n, .flst _, _, h => by cases n <;> exact absurd (show false = true from h) Bool.false_ne_true
  | n, .ref _, _, h => by cases n <;> exact absurd (show false = true from h) Bool.false_ne_true
  | n, .ty _, _, h => by cases n <;> exact absurd (show false = true from h) Bool.false_ne_true
theorem okDs_mono {m : Nat} : ∀ {n : Nat} {ds : List D}, n ≤ m → okDs n ds = true → okDs m ds = true
  | _, [], _, _ => rfl
  | n, d :: ds, l, h => by
    obtain ⟨h1, h2⟩ := bk (show (okD n d && okDs n ds) = true from h)
    show (okD m d && okDs m ds) = true
    rw [okD_mono l h1, okDs_mono l h2]
    rfl
end
mutual
def szD : D → Nat
  | .tup xs => 1 + szDs xs
  | .lst xs => 1 + szDs xs
  | _ => 1
def szDs : List D → Nat
  | [] => 0
  | x :: xs => szD x + szDs xs
end
theorem szDs_ap : ∀ {a b : List D}, szDs (a ++ b) = szDs a + szDs b
  | [], _ => by simp [szDs]
  | x :: a, b => by
    show szD x + szDs (a ++ b) = szD x + szDs a + szDs b
    rw [szDs_ap]
    omega
theorem okDs_mem {n : Nat} : ∀ {ds : List D} {d : D}, okDs n ds = true → d ∈ ds → okD n d = true
  | x :: xs, d, h, hm => by
    obtain ⟨h1, h2⟩ := bk (show (okD n x && okDs n xs) = true from h)
    rcases List.mem_cons.mp hm with rfl | hm
    · exact h1
    · exact okDs_mem h2 hm
/-! methods on the newest cell -/
section
variable {S : Sto} {xs ys : List D} {x : D}
theorem ap_new : methD .append (S ++ [.lst xs]) (.ref S.length) [x] = if xs.length < sizeLine then some (.non, S ++ [.lst (xs ++ [x])]) else none := by
  simp only [methD, at_new, set_new]
theorem pop_new : methD .pop (S ++ [.lst (xs ++ [x])]) (.ref S.length) [] = some (x, S ++ [.lst xs]) := by
  simp only [methD, at_new, set_new]
  simp
theorem ext_new : methD .extend (S ++ [.lst xs]) (.ref S.length) [.lst ys] = if xs.length + ys.length ≤ sizeLine then some (.non, S ++ [.lst (xs ++ ys)]) else none := by
  simp only [methD, at_new, set_new]
theorem len_new : biD (S ++ [.lst xs]) .len [.ref S.length] = some (.int xs.length) := by
  simp only [biD, biLen, at_new]
theorem wipe_nil {ρ : Env} : wipeE ρ [] = ρ := nrfl rfl
theorem wipe_cons {ρ : Env} {v : Nat} {vs : List Nat} : wipeE ρ (v :: vs) = (wipeE ρ vs).set v none := nrfl rfl
theorem rng_nat {n : Nat} (h : n < 2 ^ 62) : rngD [.int (n : Int)] = some ((List.range n).map fun (i : Nat) => D.int (i : Int)) := by
  have h1 : -(2 ^ 62) ≤ (n : Int) ∧ (n : Int) < 2 ^ 62 := by omega
  simp only [rngD, h1, and_self, if_true, Int.toNat_natCast, Int.zero_add]
theorem rng_two {a b : Int} (h : -(2 ^ 62) ≤ a ∧ a < 2 ^ 62 ∧ -(2 ^ 62) ≤ b ∧ b < 2 ^ 62) : rngD [.int a, .int b] = some ((List.range (b - a).toNat).map fun (i : Nat) => D.int (a + (i : Int))) := by
  simp only [rngD, h, and_self, if_true]
/-- the items by their places -/
theorem by_place {α : Type} (f : D → D) (g : α → D) (xs : List α) (h : ∀ (i : Nat) (hi : i < xs.length), f (.int i) = g xs[i]) : ((List.range xs.length).map fun (i : Nat) => D.int (i : Int)).map f = xs.map g := by
  refine List.ext_getElem (by simp) fun i h1 h2 => ?_
  simp only [List.getElem_map, List.getElem_range]
  exact h i (by simpa using h2)
end
end Rw

/-! M18: exponents, texts of fractions, sums -/
namespace Rw
open PySem L2

theorem idx_fr0 {S : Sto} {p : Rat} : idxD S (fr p) (.int 0) = some (.int p.num) := at_0
theorem idx_fr1 {S : Sto} {p : Rat} : idxD S (fr p) (.int 1) = some (.int (p.den : Int)) := at_1
theorem ty_fr {S : Sto} {p : Rat} : tyName S (fr p) = some "tuple" := nrfl rfl
theorem fr_one : fr 1 = .tup [.int 1, .int 1] := nrfl rfl
theorem fr_zero : fr 0 = .tup [.int 0, .int 1] := nrfl rfl
theorem fr_abs' {p : Rat} : fr p.abs = .tup [.int (p.num.natAbs : Int), .int (p.den : Int)] := by
  rw [fr_abs, abs_nat]
theorem abs_num {p : Rat} : p.abs.num = (p.num.natAbs : Int) := by
  have := fr_abs' (p := p)
  unfold fr at this
  injection this with h
  injection h with h1 _
  injection h1
theorem abs_den {p : Rat} : p.abs.den = p.den := by
  unfold Rat.abs
  split <;> rfl
theorem Sm.abs {n : Nat} {p : Rat} (h : Sm n p) : Sm n p.abs := by
  unfold Sm
  rw [abs_num, abs_den]
  exact h
/-- the exponent as the program finds it -/
def expF (p : Rat) : Int := (bln p.num.natAbs : Int) - (bln p.den : Int)
def expo (p : Rat) : Int := if (2 : Rat) ^ expF p ≤ p.abs then expF p else expF p - 1
theorem bln_le {n m : Nat} (h : m < 2 ^ n) : bln m ≤ n := by
  have := mt (bln_lt m n).mp (by omega)
  omega
theorem expF_le {n : Nat} {p : Rat} (h : Sm n p) : (expF p).natAbs ≤ n := by
  have h1 := bln_le h.1
  have h2 := bln_le h.2
  unfold expF
  omega
theorem expo_le {n : Nat} {p : Rat} (h : Sm n p) : (expo p).natAbs ≤ n + 1 := by
  have := expF_le h
  unfold expo
  split <;> omega
theorem mul_den (q : Rat) : q * (q.den : Rat) = (q.num : Rat) := by
  have h := Rat.num_divInt_den q
  rw [Rat.divInt_eq_div, Rat.intCast_natCast] at h
  have hz : (q.den : Rat) ≠ 0 := by
    have := Rat.natCast_pos.mpr q.den_pos
    intro e
    rw [e] at this
    exact absurd this (by decide)
  conv => lhs; arg 1; rw [← h]
  exact Rat.div_mul_cancel hz
theorem two_pos (b : Int) : (0 : Rat) < (2 : Rat) ^ b := Rat.zpow_pos (by decide)
theorem two_add (a b : Int) : (2 : Rat) ^ (a + b) = (2 : Rat) ^ a * (2 : Rat) ^ b := Rat.zpow_add (by decide) a b
theorem two_cast (n : Nat) : (((2 ^ n : Nat) : Nat) : Rat) = (2 : Rat) ^ (n : Int) := by
  rw [Rat.zpow_natCast, Rat.natCast_pow]
  rfl
theorem abs_mul (p : Rat) : p.abs * (p.den : Rat) = (p.num.natAbs : Rat) := by
  have := mul_den p.abs
  rw [abs_den, abs_num] at this
  exact this
theorem expF_lo {p : Rat} (h : p ≠ 0) : (2 : Rat) ^ (expF p - 1) ≤ p.abs := by
  have hn : p.num.natAbs ≠ 0 := by
    have := num_ne h
    omega
  have h1 : 2 ^ (bln p.num.natAbs - 1) ≤ p.num.natAbs := (bln_lt _ _).mp (by unfold bln; rw [if_neg hn]; omega)
  have h2 : p.den < 2 ^ bln p.den := by
    have := mt (bln_lt p.den (bln p.den)).mpr (by omega)
    omega
  have hb : bln p.num.natAbs ≠ 0 := by unfold bln; rw [if_neg hn]; omega
  refine Rat.le_of_mul_le_mul_right (c := (p.den : Rat)) ?_ (Rat.natCast_pos.mpr p.den_pos)
  rw [abs_mul]
  have a1 : (p.den : Rat) ≤ (2 : Rat) ^ (bln p.den : Int) := by
    rw [← two_cast]
    exact Rat.natCast_le_natCast.mpr (by omega)
  have a2 : (2 : Rat) ^ (((bln p.num.natAbs - 1 : Nat)) : Int) ≤ (p.num.natAbs : Rat) := by
    rw [← two_cast]
    exact Rat.natCast_le_natCast.mpr h1
  have a3 := Rat.mul_le_mul_of_nonneg_left a1 (Rat.le_of_lt (two_pos (expF p - 1)))
  rw [← two_add] at a3
  have e : expF p - 1 + (bln p.den : Int) = ((bln p.num.natAbs - 1 : Nat) : Int) := by
    unfold expF
    omega
  rw [e] at a3
  exact Rat.le_trans a3 a2
theorem expF_hi {p : Rat} : ¬ (2 : Rat) ^ (expF p + 1) ≤ p.abs := by
  have hd : p.den ≠ 0 := p.den_nz
  have h1 : p.num.natAbs < 2 ^ bln p.num.natAbs := by
    have := mt (bln_lt p.num.natAbs (bln p.num.natAbs)).mpr (by omega)
    omega
  have hb : bln p.den ≠ 0 := by unfold bln; rw [if_neg hd]; omega
  have h2 : 2 ^ (bln p.den - 1) ≤ p.den := (bln_lt _ _).mp (by omega)
  intro c
  have a1 : (2 : Rat) ^ (((bln p.den - 1 : Nat)) : Int) ≤ (p.den : Rat) := by
    rw [← two_cast]
    exact Rat.natCast_le_natCast.mpr h2
  have a2 : (p.num.natAbs : Rat) < (2 : Rat) ^ ((bln p.num.natAbs : Nat) : Int) := by
    rw [← two_cast]
    exact Rat.natCast_lt_natCast.mpr h1
  have a3 := Rat.mul_le_mul_of_nonneg_left a1 (Rat.le_of_lt (two_pos (expF p + 1)))
  rw [← two_add] at a3
  have e : expF p + 1 + ((bln p.den - 1 : Nat) : Int) = ((bln p.num.natAbs : Nat) : Int) := by
    unfold expF
    omega
  rw [e] at a3
  have a4 : (2 : Rat) ^ (expF p + 1) * (p.den : Rat) ≤ p.abs * (p.den : Rat) := by
    have := Rat.mul_le_mul_of_nonneg_left c (Rat.le_of_lt (Rat.natCast_pos.mpr p.den_pos))
    rw [Rat.mul_comm _ ((2 : Rat) ^ (expF p + 1)), Rat.mul_comm _ p.abs] at this
    exact this
  rw [abs_mul] at a4
  exact absurd (Rat.le_trans a3 a4) (Rat.not_le.mpr a2)
theorem expo_spec {p : Rat} (h : p ≠ 0) : (2 : Rat) ^ expo p ≤ p.abs ∧ ¬ (2 : Rat) ^ (expo p + 1) ≤ p.abs := by
  unfold expo
  split
  · rename_i c
    exact ⟨c, expF_hi⟩
  · rename_i c
    refine ⟨expF_lo h, ?_⟩
    rw [show expF p - 1 + 1 = expF p by omega]
    exact c
/-- its text -/
def prF (p : Rat) : Str := (toString p.num : Str) ++ (if (p.den : Int) = 1 then ("" : Str) else ("/" : Str) ++ (toString (p.den : Int) : Str))
def prOk (a b : Int) : Bool := decide (a.natAbs.log2 < 1920) && (decide (b.natAbs.log2 < 1920) && (decide ((("/" : Str)).length + ((toString b : Str)).length ≤ sizeLine) && (decide (((toString a : Str)).length + ((if b = 1 then ("" : Str) else ("/" : Str) ++ (toString b : Str))).length ≤ sizeLine) && PyData.strOk ((toString a : Str) ++ (if b = 1 then ("" : Str) else ("/" : Str) ++ (toString b : Str))))))
def frSum (qs : List Rat) : Rat := qs.foldl (· + ·) 0
end Rw

/-! M19: plain data told alike, among others -/
namespace Rw
open PySem L2

theorem pdDs_map : ∀ xs : List D, pdDs xs = xs.map pdD
  | [] => rfl
  | x :: xs => by rw [List.map_cons, ← pdDs_map xs]; rfl
theorem pdT_ok {S : Sto} {n : Nat} {d : D} (h : okD n d = true) : pdT S d = some (pdD d) := by
  have := (pd_ok (S := S) n d h).1
  cases d with
  | ref r => cases n <;> exact absurd (show false = true from h) Bool.false_ne_true
  | _ => exact this
theorem shaped_ok {n : Nat} {d : D} (h : okD n d = true) (hn : n ≤ 64) : SeqAt.shaped (pdD d) = true := by
  obtain ⟨_, b, c⟩ := pd_ok (S := []) n d h
  unfold SeqAt.shaped
  rw [b, decide_eq_true (show (pdD d).depth ≤ 64 by omega)]
  rfl
theorem okD_tup {n : Nat} {xs : List D} (h : okDs n xs = true) (hl : xs.length ≤ sizeLine) : okD (n + 1) (.tup xs) = true := by
  show (okDs n xs && decide (xs.length ≤ sizeLine)) = true
  rw [h, decide_eq_true hl]
  rfl
theorem okD_lst {n : Nat} {xs : List D} (h : okDs n xs = true) (hl : xs.length ≤ sizeLine) : okD (n + 1) (.lst xs) = true := by
  show (okDs n xs && decide (xs.length ≤ sizeLine)) = true
  rw [h, decide_eq_true hl]
  rfl
theorem in_t {S : Sto} {n m : Nat} {d : D} {xs : List D} (h : okD n d = true) (hn : n ≤ 64) (g : okD m (.tup xs) = true) (hm : m ≤ 64) : inD S d (.tup xs) = some (xs.any fun z => PyData.eqv (pdD z) (pdD d)) := by
  have e1 := pdT_ok (S := S) h
  have e2 := pdT_ok (S := S) g
  have s1 := shaped_ok h hn
  have s2 := shaped_ok g hm
  unfold inD
  rw [e1, e2]
  show (if SeqAt.shaped (pdD d) = true ∧ SeqAt.shaped (.tuple (pdDs xs)) = true then some ((pdDs xs).any fun z => PyData.eqv z (pdD d)) else none) = _
  rw [if_pos ⟨s1, s2⟩, pdDs_map, List.any_map]
  rfl
theorem in_l {S : Sto} {n m : Nat} {d : D} {xs : List D} (h : okD n d = true) (hn : n ≤ 64) (g : okD m (.lst xs) = true) (hm : m ≤ 64) : inD S d (.lst xs) = some (xs.any fun z => PyData.eqv (pdD z) (pdD d)) := by
  have e1 := pdT_ok (S := S) h
  have e2 := pdT_ok (S := S) g
  have s1 := shaped_ok h hn
  have s2 := shaped_ok g hm
  unfold inD
  rw [e1, e2]
  show (if SeqAt.shaped (pdD d) = true ∧ SeqAt.shaped (.list (pdDs xs)) = true then some ((pdDs xs).any fun z => PyData.eqv z (pdD d)) else none) = _
  rw [if_pos ⟨s1, s2⟩, pdDs_map, List.any_map]
  rfl
theorem eq_tt {S : Sto} {n m : Nat} {xs ys : List D} (h : okD n (.tup xs) = true) (hn : n ≤ 64) (g : okD m (.tup ys) = true) (hm : m ≤ 64) : eqD S (.tup xs) (.tup ys) = some (PyData.eqvAll (pdDs xs) (pdDs ys)) := by
  have e1 := pdT_ok (S := S) h
  have e2 := pdT_ok (S := S) g
  have s1 := shaped_ok h hn
  have s2 := shaped_ok g hm
  show (match pdT S (.tup xs), pdT S (.tup ys) with
    | some p, some q => if SeqAt.shaped p = true ∧ SeqAt.shaped q = true then some (PyData.eqv p q) else none
    | _, _ => none) = _
  rw [e1, e2]
  show (if SeqAt.shaped (pdD (.tup xs)) = true ∧ SeqAt.shaped (pdD (.tup ys)) = true then some (PyData.eqv (pdD (.tup xs)) (pdD (.tup ys))) else none) = _
  rw [if_pos ⟨s1, s2⟩]
  simp only [pdD, PyData.eqv]
theorem eq_ll {S : Sto} {n m : Nat} {xs ys : List D} (h : okD n (.lst xs) = true) (hn : n ≤ 64) (g : okD m (.lst ys) = true) (hm : m ≤ 64) : eqD S (.lst xs) (.lst ys) = some (PyData.eqvAll (pdDs xs) (pdDs ys)) := by
  have e1 := pdT_ok (S := S) h
  have e2 := pdT_ok (S := S) g
  have s1 := shaped_ok h hn
  have s2 := shaped_ok g hm
  show (match pdT S (.lst xs), pdT S (.lst ys) with
    | some p, some q => if SeqAt.shaped p = true ∧ SeqAt.shaped q = true then some (PyData.eqv p q) else none
    | _, _ => none) = _
  rw [e1, e2]
  show (if SeqAt.shaped (pdD (.lst xs)) = true ∧ SeqAt.shaped (pdD (.lst ys)) = true then some (PyData.eqv (pdD (.lst xs)) (pdD (.lst ys))) else none) = _
  rw [if_pos ⟨s1, s2⟩]
  simp only [pdD, PyData.eqv]
/-- a list told from the empty one -/
theorem ne_l {S : Sto} {n : Nat} {xs : List D} (h : okD n (.lst xs) = true) (hn : n ≤ 64) : cmpD S .NotEq (.lst xs) (.lst []) = some (!xs.isEmpty) := by
  show (eqD S (.lst xs) (.lst [])).map (!·) = _
  rw [eq_ll (m := 1) h hn rfl (by decide)]
  cases xs <;> rfl
theorem ne_l0 {S : Sto} : cmpD S .NotEq (.lst []) (.lst []) = some false := ne_l (n := 1) rfl (by decide)
theorem okD_fr {n : Nat} {p : Rat} : okD (n + 1) (fr p) = true := by
  show (okDs n [.int p.num, .int (p.den : Int)] && decide ([D.int p.num, .int (p.den : Int)].length ≤ sizeLine)) = true
  cases n <;> rfl
theorem eqv_fr {p q : Rat} : PyData.eqv (pdD (fr p)) (pdD (fr q)) = decide (p = q) := by
  simp only [pdD, fr, pdDs, PyData.eqv, PyData.eqvAll, Bool.and_true]
  by_cases h : p = q
  · subst h; simp
  · rw [decide_eq_false h]
    by_cases h1 : p.num = q.num
    · by_cases h2 : p.den = q.den
      · exact absurd (Rat.ext h1 h2) h
      · simp [h1]; omega
    · simp [h1]
theorem eq_fr {S : Sto} {p q : Rat} : cmpD S .Eq (fr p) (fr q) = some (decide (p = q)) := by
  rw [← eqv_fr]
  have := eq_tt (S := S) (n := 1) (m := 1) (xs := [.int p.num, .int (p.den : Int)]) (ys := [.int q.num, .int (q.den : Int)]) (okD_fr (n := 0) (p := p)) (by decide) (okD_fr (n := 0) (p := q)) (by decide)
  show eqD S (fr p) (fr q) = _
  rw [show fr p = .tup [.int p.num, .int (p.den : Int)] from rfl, show fr q = .tup [.int q.num, .int (q.den : Int)] from rfl, this]
  simp only [pdD, PyData.eqv]
theorem ne_fr {S : Sto} {p q : Rat} : cmpD S .NotEq (fr p) (fr q) = some (!decide (p = q)) := by
  have := eq_fr (S := S) (p := p) (q := q)
  show (eqD S (fr p) (fr q)).map (!·) = _
  rw [show eqD S (fr p) (fr q) = _ from this]
  rfl
theorem okDs_all {n : Nat} : ∀ {xs : List D}, (∀ x ∈ xs, okD n x = true) → okDs n xs = true
  | [], _ => rfl
  | x :: xs, h => by
    show (okD n x && okDs n xs) = true
    rw [h x List.mem_cons_self, okDs_all fun y hy => h y (List.mem_cons_of_mem _ hy)]
    rfl
/-- a text among texts -/
theorem eqv_str {a b : Str} : PyData.eqv (.str a) (.str b) = (a == b) := by simp only [PyData.eqv]
theorem rep_l {xs : List D} {k : Int} : binD .Mult (.lst xs) (.int k) = if repOk xs.length k then some (.lst (List.replicate k.toNat xs).flatten) else none := nrfl rfl
theorem cut_1 {S : Sto} {x : D} {xs : List D} : slD S (.lst (x :: xs)) (some 1) none = some (.lst xs) := by
  have h1 : HT.sIx (x :: xs).length 0 (some 1) = 1 := by
    show min (1 : Int).toNat (x :: xs).length = 1
    simp
  have h2 : HT.sIx (x :: xs).length (x :: xs).length none = xs.length + 1 := rfl
  simp only [slD, lstOf, cutD, h1, h2, Option.map_some]
  simp
theorem inN {S : Sto} {d e : D} : cmpD S .In d e = inD S d e := nrfl rfl
theorem inN' {S : Sto} {d e : D} : cmpD S .NotIn d e = (inD S d e).map (!·) := nrfl rfl
end Rw
namespace Rw
section
variable {α : Type} {all : List D} {turn : D → Sto → Rs (Option D)} {S : Sto}
theorem compL_mapT {g f : α → D} : ∀ {xs : List α} {acc : List D}, (∀ x ∈ xs, turn (g x) S = some (some (f x), S)) → compL none all turn (xs.map g) S acc = some (acc ++ xs.map f, S)
  | [], acc, _ => by rw [List.map_nil, compL_nil]; simp
  | x :: xs, acc, h => by
    rw [List.map_cons, compL_some (h x List.mem_cons_self), compL_mapT fun y hy => h y (List.mem_cons_of_mem _ hy)]
    simp
theorem compL_fmT {g : α → D} {f : α → Option D} : ∀ {xs : List α} {acc : List D}, (∀ x ∈ xs, turn (g x) S = some (f x, S)) → compL none all turn (xs.map g) S acc = some (acc ++ xs.filterMap f, S)
  | [], acc, _ => by rw [List.map_nil, compL_nil]; simp
  | x :: xs, acc, h => by
    have h1 := h x List.mem_cons_self
    have ih := fun acc => compL_fmT (acc := acc) fun y hy => h y (List.mem_cons_of_mem x hy)
    cases c : f x with
    | none => rw [List.map_cons, compL_none (by rw [h1, c]), ih, List.filterMap_cons, c]
    | some y => rw [List.map_cons, compL_some (by rw [h1, c]), ih, List.filterMap_cons, c]; simp
theorem compL_noneT {g : α → D} : ∀ {xs : List α} {acc : List D}, (∀ x ∈ xs, turn (g x) S = some (none, S)) → compL none all turn (xs.map g) S acc = some (acc, S)
  | [], acc, _ => by rw [List.map_nil, compL_nil]
  | x :: xs, acc, h => by
    rw [List.map_cons, compL_none (h x List.mem_cons_self), compL_noneT fun y hy => h y (List.mem_cons_of_mem x hy)]
end
end Rw
namespace Rw
open PySem L2
theorem in_strs {S : Sto} {a : Str} {xs : List Str} (h : (PyData.strOk a && xs.all PyData.strOk) = true) (hl : xs.length ≤ 1000) : cmpD S .In (.str a) (.tup (xs.map D.str)) = some (xs.any fun z => z == a) := by
  obtain ⟨h1, h2⟩ := bk h
  rw [inN, in_t (n := 0) (m := 1) (show okD 0 (.str a) = true from h1) (by decide) (okD_tup (okDs_all (by
    intro x hx
    obtain ⟨y, hy, rfl⟩ := List.mem_map.mp hx
    exact List.all_eq_true.mp h2 y hy)) (le_size (by simp; omega))) (by decide), List.any_map]
  congr 1
theorem in_strT {S : Sto} {a : Str} {xs : List Str} {b : Bool} (h : (PyData.strOk a && xs.all PyData.strOk) = true) (hl : xs.length ≤ 1000) (e : (xs.any fun z => z == a) = b) : cmpD S .In (.str a) (.tup (xs.map D.str)) = some b := by
  rw [in_strs h hl, e]
end Rw

namespace Rw
/-! hulls -/
def lo2 (a b : Rat) : Rat := if b < a then b else a
def hi2 (a b : Rat) : Rat := if a < b then b else a
def hullF (x : Rat) (xs : List Rat) : Rat × Rat := (xs.foldl lo2 x, xs.foldl hi2 x)
theorem lo_fold : ∀ (xs : List Rat) (x : Rat), (∀ y ∈ x :: xs, xs.foldl lo2 x ≤ y) ∧ xs.foldl lo2 x ∈ x :: xs
  | [], x => by simp
  | z :: xs, x => by
    obtain ⟨h1, h2⟩ := lo_fold xs (lo2 x z)
    have h3 := h1 (lo2 x z) List.mem_cons_self
    refine ⟨?_, ?_⟩
    · intro y hy
      rw [List.foldl_cons]
      rcases List.mem_cons.mp hy with rfl | hy
      · unfold lo2 at h3 ⊢; grind
      · rcases List.mem_cons.mp hy with rfl | hy
        · unfold lo2 at h3 ⊢; grind
        · exact h1 y (List.mem_cons_of_mem _ hy)
    · rw [List.foldl_cons]
      rcases List.mem_cons.mp h2 with e | e
      · rw [e]; unfold lo2; split <;> simp
      · simp [e]
theorem hi_fold : ∀ (xs : List Rat) (x : Rat), (∀ y ∈ x :: xs, y ≤ xs.foldl hi2 x) ∧ xs.foldl hi2 x ∈ x :: xs
  | [], x => by simp
  | z :: xs, x => by
    obtain ⟨h1, h2⟩ := hi_fold xs (hi2 x z)
    have h3 := h1 (hi2 x z) List.mem_cons_self
    refine ⟨?_, ?_⟩
    · intro y hy
      rw [List.foldl_cons]
      rcases List.mem_cons.mp hy with rfl | hy
      · unfold hi2 at h3 ⊢; grind
      · rcases List.mem_cons.mp hy with rfl | hy
        · unfold hi2 at h3 ⊢; grind
        · exact h1 y (List.mem_cons_of_mem _ hy)
    · rw [List.foldl_cons]
      rcases List.mem_cons.mp h2 with e | e
      · rw [e]; unfold hi2; split <;> simp
      · simp [e]
theorem hull_eq {x l h : Rat} {xs : List Rat} (hb : ∀ y ∈ x :: xs, l ≤ y ∧ y ≤ h) (hl : l ∈ x :: xs) (hh : h ∈ x :: xs) : hullF x xs = (l, h) := by
  obtain ⟨h1, h2⟩ := lo_fold xs x
  obtain ⟨h3, h4⟩ := hi_fold xs x
  unfold hullF
  rw [Rat.le_antisymm (h1 l hl) (hb _ h2).1, Rat.le_antisymm (hb _ h4).2 (h3 h hh)]
/-- the first one twice changes nothing -/
theorem hull_self {x : Rat} {xs : List Rat} : hullF x (x :: xs) = hullF x xs := by
  unfold hullF
  have h1 : lo2 x x = x := by unfold lo2; split <;> rfl
  have h2 : hi2 x x = x := by unfold hi2; split <;> rfl
  rw [List.foldl_cons, List.foldl_cons, h1, h2]
theorem inv_le {t s : Rat} (h : t ≤ s) (p : 0 < t ∨ s < 0) : s⁻¹ ≤ t⁻¹ := by
  have hs : s ≠ 0 := by grind
  have ht : t ≠ 0 := by grind
  have e1 := Rat.mul_inv_cancel s hs
  have e2 := Rat.mul_inv_cancel t ht
  have hst : 0 ≤ s * t := by
    rcases p with p | p
    · exact Rat.mul_nonneg (by grind) (by grind)
    · have := Rat.mul_nonneg (a := -s) (b := -t) (by grind) (by grind)
      grind
  have h0 : 0 ≤ s⁻¹ * t⁻¹ := by
    have h2 : 0 ≤ (s⁻¹ * t⁻¹) * (s⁻¹ * t⁻¹) := by
      rcases Rat.le_total (a := 0) (b := s⁻¹ * t⁻¹) with q | q
      · exact Rat.mul_nonneg q q
      · have := Rat.mul_nonneg (a := -(s⁻¹ * t⁻¹)) (b := -(s⁻¹ * t⁻¹)) (by grind) (by grind)
        grind
    have h3 := Rat.mul_nonneg hst h2
    have h4 : s * t * (s⁻¹ * t⁻¹ * (s⁻¹ * t⁻¹)) = s⁻¹ * t⁻¹ := by grind
    rwa [h4] at h3
  have h5 := Rat.mul_nonneg (a := s - t) (b := s⁻¹ * t⁻¹) (by grind) h0
  have h6 : (s - t) * (s⁻¹ * t⁻¹) = t⁻¹ - s⁻¹ := by grind
  rw [h6] at h5
  grind
/-- between -/
theorem mul_betw {a t s r l h : Rat} (h1 : t ≤ s) (h2 : s ≤ r) (l1 : l ≤ a * t) (l2 : l ≤ a * r) (u1 : a * t ≤ h) (u2 : a * r ≤ h) : l ≤ a * s ∧ a * s ≤ h := by
  rcases Rat.le_total (a := 0) (b := a) with q | q
  · have := Rat.mul_le_mul_of_nonneg_left h1 q
    have := Rat.mul_le_mul_of_nonneg_left h2 q
    grind
  · have := Rat.mul_le_mul_of_nonneg_left h1 (c := -a) (by grind)
    have := Rat.mul_le_mul_of_nonneg_left h2 (c := -a) (by grind)
    grind
def mid (a b : Rat) : Rat := (a + b) * (1 / 2)
def pts (a b : Rat) (c d : Rat) : List (Rat × Rat) := [(a, c), (a, d), (a, mid c d), (b, c), (b, d), (b, mid c d), (mid a b, c), (mid a b, d), (mid a b, mid c d)]
theorem mid_ge {a b : Rat} (h : a ≤ b) : a ≤ mid a b ∧ mid a b ≤ b := by unfold mid; grind
section
variable {a b c d : Rat}
theorem hull9 {f : Rat → Rat → Rat} {l h : Rat} (hb : ∀ p ∈ pts a b c d, l ≤ f p.1 p.2 ∧ f p.1 p.2 ≤ h) (hl : ∃ p ∈ pts a b c d, f p.1 p.2 = l) (hh : ∃ p ∈ pts a b c d, f p.1 p.2 = h) :
    hullF (f a c) ((pts a b c d).map fun p => f p.1 p.2) = (l, h) := by
  have : (pts a b c d).map (fun p => f p.1 p.2) = f a c :: [f a d, f a (mid c d), f b c, f b d, f b (mid c d), f (mid a b) c, f (mid a b) d, f (mid a b) (mid c d)] := rfl
  rw [this, hull_self]
  refine hull_eq ?_ ?_ ?_
  · rw [← this]
    intro y hy
    obtain ⟨p, hp, rfl⟩ := List.mem_map.mp hy
    exact hb p hp
  · rw [← this]
    obtain ⟨p, hp, e⟩ := hl
    exact List.mem_map.mpr ⟨p, hp, e⟩
  · rw [← this]
    obtain ⟨p, hp, e⟩ := hh
    exact List.mem_map.mpr ⟨p, hp, e⟩
theorem pts_in (h1 : a ≤ b) (h2 : c ≤ d) : ∀ p ∈ pts a b c d, a ≤ p.1 ∧ p.1 ≤ b ∧ c ≤ p.2 ∧ p.2 ≤ d := by
  have := mid_ge h1
  have := mid_ge h2
  intro p hp
  simp only [pts, List.mem_cons, List.not_mem_nil, or_false] at hp
  rcases hp with rfl | rfl | rfl | rfl | rfl | rfl | rfl | rfl | rfl <;> grind
theorem m_ac : (a, c) ∈ pts a b c d := by simp [pts]
theorem m_ad : (a, d) ∈ pts a b c d := by simp [pts]
theorem m_bc : (b, c) ∈ pts a b c d := by simp [pts]
theorem m_bd : (b, d) ∈ pts a b c d := by simp [pts]
theorem pts_all {P : Rat × Rat → Prop} (h1 : P (a, c)) (h2 : P (a, d)) (h3 : P (a, mid c d)) (h4 : P (b, c)) (h5 : P (b, d)) (h6 : P (b, mid c d)) (h7 : P (mid a b, c)) (h8 : P (mid a b, d)) (h9 : P (mid a b, mid c d)) : ∀ p ∈ pts a b c d, P p := by
  intro p hp
  simp only [pts, List.mem_cons, List.not_mem_nil, or_false] at hp
  rcases hp with rfl | rfl | rfl | rfl | rfl | rfl | rfl | rfl | rfl <;> assumption
/-- what the program finds of four ends -/
def hull4 (f : Rat → Rat → Rat) (a b c d : Rat) : Rat × Rat := hullF (f a c) [f a d, f b c, f b d]
theorem hull4_in {f : Rat → Rat → Rat} : (∀ y ∈ [f a c, f a d, f b c, f b d], (hull4 f a b c d).1 ≤ y ∧ y ≤ (hull4 f a b c d).2) ∧ (∃ p ∈ pts a b c d, f p.1 p.2 = (hull4 f a b c d).1) ∧ ∃ p ∈ pts a b c d, f p.1 p.2 = (hull4 f a b c d).2 := by
  obtain ⟨h1, h2⟩ := lo_fold [f a d, f b c, f b d] (f a c)
  obtain ⟨h3, h4⟩ := hi_fold [f a d, f b c, f b d] (f a c)
  refine ⟨fun y hy => ⟨h1 y hy, h3 y hy⟩, ?_, ?_⟩
  · simp only [List.mem_cons, List.not_mem_nil, or_false] at h2
    rcases h2 with e | e | e | e
    · exact ⟨_, m_ac, e.symm⟩
    · exact ⟨_, m_ad, e.symm⟩
    · exact ⟨_, m_bc, e.symm⟩
    · exact ⟨_, m_bd, e.symm⟩
  · simp only [List.mem_cons, List.not_mem_nil, or_false] at h4
    rcases h4 with e | e | e | e
    · exact ⟨_, m_ac, e.symm⟩
    · exact ⟨_, m_ad, e.symm⟩
    · exact ⟨_, m_bc, e.symm⟩
    · exact ⟨_, m_bd, e.symm⟩
/-- what a step's span is: all values in it, the ends among them -/
def IsHull (f : Rat → Rat → Rat) (a b c d l h : Rat) : Prop := (∀ p ∈ pts a b c d, l ≤ f p.1 p.2 ∧ f p.1 p.2 ≤ h) ∧ (∃ p ∈ pts a b c d, f p.1 p.2 = l) ∧ ∃ p ∈ pts a b c d, f p.1 p.2 = h
theorem is_add (h1 : a ≤ b) (h2 : c ≤ d) : IsHull (· + ·) a b c d (a + c) (b + d) :=
  ⟨fun p hp => by have := pts_in h1 h2 p hp; grind, ⟨_, m_ac, rfl⟩, ⟨_, m_bd, rfl⟩⟩
theorem is_less (h1 : a ≤ b) (h2 : c ≤ d) : IsHull (· - ·) a b c d (a - d) (b - c) :=
  ⟨fun p hp => by have := pts_in h1 h2 p hp; grind, ⟨_, m_ad, rfl⟩, ⟨_, m_bc, rfl⟩⟩
theorem is_least (h1 : a ≤ b) (h2 : c ≤ d) : IsHull lo2 a b c d (lo2 a c) (lo2 b d) :=
  ⟨fun p hp => by have := pts_in h1 h2 p hp; unfold lo2; grind, ⟨_, m_ac, rfl⟩, ⟨_, m_bd, rfl⟩⟩
theorem is_most (h1 : a ≤ b) (h2 : c ≤ d) : IsHull hi2 a b c d (hi2 a c) (hi2 b d) :=
  ⟨fun p hp => by have := pts_in h1 h2 p hp; unfold hi2; grind, ⟨_, m_ac, rfl⟩, ⟨_, m_bd, rfl⟩⟩
theorem is_times : IsHull (· * ·) a b c d (hull4 (· * ·) a b c d).1 (hull4 (· * ·) a b c d).2 := by
  obtain ⟨h1, h2, h3⟩ := hull4_in (f := (· * ·)) (a := a) (b := b) (c := c) (d := d)
  refine ⟨?_, h2, h3⟩
  have e1 := h1 (a * c) (by simp)
  have e2 := h1 (a * d) (by simp)
  have e3 := h1 (b * c) (by simp)
  have e4 := h1 (b * d) (by simp)
  generalize (hull4 (· * ·) a b c d).1 = l at *
  generalize (hull4 (· * ·) a b c d).2 = h at *
  refine pts_all ?_ ?_ ?_ ?_ ?_ ?_ ?_ ?_ ?_ <;> simp only [mid] <;> grind
theorem is_over (hcd : c ≤ d) (hz : 0 < c ∨ d < 0) : IsHull (· / ·) a b c d (hull4 (· / ·) a b c d).1 (hull4 (· / ·) a b c d).2 := by
  obtain ⟨h1, h2, h3⟩ := hull4_in (f := (· / ·)) (a := a) (b := b) (c := c) (d := d)
  refine ⟨?_, h2, h3⟩
  have e1 := h1 (a / c) (by simp)
  have e2 := h1 (a / d) (by simp)
  have e3 := h1 (b / c) (by simp)
  have e4 := h1 (b / d) (by simp)
  have hm := mid_ge hcd
  have i1 := inv_le hm.1 (by grind)
  have i2 := inv_le hm.2 (by grind)
  generalize (hull4 (· / ·) a b c d).1 = l at *
  generalize (hull4 (· / ·) a b c d).2 = h at *
  simp only [Rat.div_def] at *
  have m1 := mul_betw i2 i1 e2.1 e1.1 e2.2 e1.2
  have m2 := mul_betw i2 i1 e4.1 e3.1 e4.2 e3.2
  clear h1 h2 h3 i1 i2 hm hz
  refine pts_all e1 e2 m1 e3 e4 m2 ?_ ?_ ?_
  all_goals
    simp only []
    rw [show mid a b = (a + b) * (1 / 2) from rfl]
    generalize (mid c d)⁻¹ = t at *
    generalize c⁻¹ = c' at *
    generalize d⁻¹ = d' at *
    grind
/-- sure comparisons -/
theorem all_lt (h1 : a ≤ b) (h2 : c ≤ d) : (∀ p ∈ pts a b c d, p.1 < p.2) ↔ b < c :=
  ⟨fun h => h _ m_bc, fun h p hp => by have := pts_in h1 h2 p hp; grind⟩
theorem all_le (h1 : a ≤ b) (h2 : c ≤ d) : (∀ p ∈ pts a b c d, p.1 ≤ p.2) ↔ b ≤ c :=
  ⟨fun h => h _ m_bc, fun h p hp => by have := pts_in h1 h2 p hp; grind⟩
theorem no_lt (h1 : a ≤ b) (h2 : c ≤ d) : (∀ p ∈ pts a b c d, ¬ p.1 < p.2) ↔ d ≤ a :=
  ⟨fun h => by have := h _ m_ad; grind, fun h p hp => by have := pts_in h1 h2 p hp; grind⟩
theorem no_le (h1 : a ≤ b) (h2 : c ≤ d) : (∀ p ∈ pts a b c d, ¬ p.1 ≤ p.2) ↔ d < a :=
  ⟨fun h => by have := h _ m_ad; grind, fun h p hp => by have := pts_in h1 h2 p hp; grind⟩
/-- sizes -/
theorem abs_eq (a : Rat) : a.abs = if a < 0 then -a else a := by unfold Rat.abs; grind
theorem size_none (h : a ≤ b) (hz : 0 < a ∨ b < 0) : hullF a.abs [a.abs, b.abs] = hullF a.abs [b.abs] := hull_self
theorem size_zero (h1 : a ≤ 0) (h2 : 0 ≤ b) : hullF a.abs [a.abs, b.abs, 0] = (0, hi2 a.abs b.abs) := by
  rw [hull_self]
  have e1 := abs_eq a
  have e2 := abs_eq b
  unfold hullF
  simp only [List.foldl_cons, List.foldl_nil]
  refine Prod.ext ?_ ?_
  · show lo2 (lo2 a.abs b.abs) 0 = 0
    unfold lo2; grind
  · show hi2 (hi2 a.abs b.abs) 0 = hi2 a.abs b.abs
    unfold hi2; grind
end
section
open PySem L2
variable {n m : Nat} {p q a b : Rat}
theorem Sm.lo (h : Sm n p) (g : Sm n q) : Sm n (lo2 p q) := by unfold lo2; split <;> assumption
theorem Sm.hi (h : Sm n p) (g : Sm n q) : Sm n (hi2 p q) := by unfold hi2; split <;> assumption
theorem fr_half : fr (1 / 2) = .tup [.int 1, .int 2] := by
  have h1 : (1 / 2 : Rat).num = 1 := by decide +kernel
  have h2 : (1 / 2 : Rat).den = 2 := by decide +kernel
  unfold fr
  rw [h1, h2]
  rfl
theorem sm_half : Sm 2 (1 / 2) := by
  have h1 : (1 / 2 : Rat).num = 1 := by decide +kernel
  have h2 : (1 / 2 : Rat).den = 2 := by decide +kernel
  unfold Sm
  rw [h1, h2]
  decide
theorem Sm.mid (ha : Sm n a) (hb : Sm n b) : Sm (n + n + 3) (mid a b) := ((ha.add hb).mul sm_half).mono (by omega)
theorem Sm.sub (h : Sm n p) (g : Sm m q) : Sm (n + m + 1) (p - q) := by
  rw [Rat.sub_eq_add_neg]
  exact h.add g.neg
end
end Rw

namespace Rw
/-! formats: the numbers in order, and where a fraction stands among them -/
theorem lt_le {a b c : Rat} (h : a < b) (g : b ≤ c) : a < c := by grind
theorem le_lt {a b c : Rat} (h : a ≤ b) (g : b < c) : a < c := by grind
def fh (d : Nat) : Nat := 2 ^ (d - 1)
def cnt (d : Nat) (m M : Int) : Nat := 2 * fh d + (M - m).toNat * fh d
def rW (d k : Nat) : Nat := if k < 2 * fh d then k else fh d + k % fh d
def rP (d : Nat) (m : Int) (k : Nat) : Int := if k < 2 * fh d then m else m + ((k / fh d : Nat) : Int) - 1
def vl (d : Nat) (m : Int) (k : Nat) : Rat := (rW d k : Rat) * (2 : Rat) ^ rP d m k
section
variable {d k : Nat} {m M : Int}
theorem fh_pos : 0 < fh d := Nat.two_pow_pos _
theorem fh_two (hd : 1 ≤ d) : 2 * fh d = 2 ^ d := by
  unfold fh
  obtain ⟨n, rfl⟩ : ∃ n, d = n + 1 := ⟨d - 1, by omega⟩
  rw [Nat.pow_succ, Nat.add_sub_cancel, Nat.mul_comm]
theorem two_succ (p : Int) : (2 : Rat) ^ (p + 1) = 2 * (2 : Rat) ^ p := by
  rw [two_add, Rat.mul_comm]
  rfl
theorem vl_succ : vl d m (k + 1) = ((rW d k : Rat) + 1) * (2 : Rat) ^ rP d m k := by
  have hp := fh_pos (d := d)
  unfold vl rW rP
  by_cases c : k + 1 < 2 * fh d
  · rw [if_pos c, if_pos c, if_pos (show k < 2 * fh d by omega), if_pos (show k < 2 * fh d by omega), Rat.natCast_add]
    rfl
  · rw [if_neg c, if_neg c]
    by_cases c2 : k < 2 * fh d
    · have e : k + 1 = 2 * fh d := by omega
      rw [if_pos c2, if_pos c2, e]
      have e1 : 2 * fh d % fh d = 0 := by simp
      have e2 : 2 * fh d / fh d = 2 := Nat.mul_div_cancel _ hp
      rw [e1, e2, show m + ((2 : Nat) : Int) - 1 = m + 1 by omega, two_succ]
      have e3 : (k : Rat) + 1 = 2 * (fh d : Rat) := by
        have := congrArg (fun n : Nat => (n : Rat)) e
        simp only [Rat.natCast_add, Rat.natCast_mul] at this
        exact this
      rw [e3, Nat.add_zero]
      grind
    · rw [if_neg c2, if_neg c2]
      by_cases c3 : (k + 1) % fh d = 0
      · have e1 : (k + 1) / fh d = k / fh d + 1 := by rw [Nat.succ_div, if_pos (Nat.dvd_of_mod_eq_zero c3)]
        have e0 : k % fh d + 1 = fh d := by
          have := Nat.div_add_mod k (fh d)
          have h2 := Nat.div_add_mod (k + 1) (fh d)
          rw [c3, e1, Nat.mul_add] at h2
          omega
        rw [c3, e1, Nat.add_zero, show m + ((k / fh d + 1 : Nat) : Int) - 1 = (m + ((k / fh d : Nat) : Int) - 1) + 1 by omega, two_succ]
        have e3 : ((fh d + k % fh d : Nat) : Rat) + 1 = 2 * (fh d : Rat) := by
          have : fh d + k % fh d + 1 = 2 * fh d := by omega
          have := congrArg (fun n : Nat => (n : Rat)) this
          simp only [Rat.natCast_add, Rat.natCast_mul] at this ⊢
          exact this
        rw [e3]
        grind
      · have e1 : (k + 1) / fh d = k / fh d := by rw [Nat.succ_div, if_neg (fun q => c3 (Nat.mod_eq_zero_of_dvd q))]; rfl
        have e0 : (k + 1) % fh d = k % fh d + 1 := by
          have := Nat.div_add_mod k (fh d)
          have h2 := Nat.div_add_mod (k + 1) (fh d)
          rw [e1] at h2
          omega
        rw [e0, e1, ← Nat.add_assoc, Rat.natCast_add]
        rfl
theorem vl_lt_succ : vl d m k < vl d m (k + 1) := by
  rw [vl_succ]
  unfold vl
  have := two_pos (rP d m k)
  grind
theorem vl_lt {i j : Nat} (h : i < j) : vl d m i < vl d m j := by
  induction h with
  | refl => exact vl_lt_succ
  | step _ ih => exact lt_le ih (Rat.le_of_lt vl_lt_succ)
theorem vl_le {i j : Nat} (h : i ≤ j) : vl d m i ≤ vl d m j := by
  rcases Nat.lt_or_eq_of_le h with h | h
  · exact Rat.le_of_lt (vl_lt h)
  · rw [h]; exact Rat.le_refl
theorem vl_lt_iff {i j : Nat} : vl d m i < vl d m j ↔ i < j := by
  refine ⟨fun h => ?_, vl_lt⟩
  rcases Nat.lt_or_ge i j with q | q
  · exact q
  · have := vl_le (d := d) (m := m) q
    grind
theorem vl_le_iff {i j : Nat} : vl d m i ≤ vl d m j ↔ i ≤ j := by
  refine ⟨fun h => ?_, vl_le⟩
  rcases Nat.lt_or_ge j i with q | q
  · have := vl_lt (d := d) (m := m) q
    grind
  · exact q
theorem vl_zero : vl d m 0 = 0 := by
  have hp := fh_pos (d := d)
  unfold vl rW
  rw [if_pos (by omega)]
  exact Rat.zero_mul _
theorem fh_cast (hd : 1 ≤ d) : (fh d : Rat) = (2 : Rat) ^ ((d : Int) - 1) := by
  unfold fh
  rw [two_cast]
  congr 1
  omega
theorem vl_cnt (hd : 1 ≤ d) (hm : m ≤ M) : vl d m (cnt d m M) = (2 : Rat) ^ ((d : Int) + M) := by
  have hp := fh_pos (d := d)
  unfold vl rW rP cnt
  have c : ¬ (2 * fh d + (M - m).toNat * fh d < 2 * fh d) := by omega
  have e1 : (2 * fh d + (M - m).toNat * fh d) = (2 + (M - m).toNat) * fh d := by rw [Nat.add_mul]
  rw [if_neg c, if_neg c, e1, Nat.mul_mod_left, Nat.mul_div_cancel _ hp, Nat.add_zero, fh_cast hd, ← two_add]
  congr 1
  omega
/-- the place of a whole part and a power -/
def ixF (d : Nat) (m : Int) (w : Nat) (p : Int) : Nat := w + (p - m).toNat * fh d
theorem ix_rW {w : Nat} {p : Int} (hp : m ≤ p) (hw : w < 2 * fh d) (h : p = m ∨ fh d ≤ w) : rW d (ixF d m w p) = w ∧ rP d m (ixF d m w p) = p := by
  have h0 := fh_pos (d := d)
  unfold rW rP ixF
  by_cases c : p = m
  · subst c
    have e : w + (p - p).toNat * fh d = w := by simp
    rw [e, if_pos hw, if_pos hw]
    exact ⟨rfl, rfl⟩
  · have hw2 : fh d ≤ w := by rcases h with h | h; exact absurd h c; exact h
    obtain ⟨t, ht⟩ : ∃ t : Nat, (p - m).toNat = t + 1 := ⟨(p - m).toNat - 1, by omega⟩
    obtain ⟨r, hr⟩ : ∃ r : Nat, w = fh d + r := ⟨w - fh d, by omega⟩
    have e : w + (p - m).toNat * fh d = r + (t + 2) * fh d := by rw [ht, hr, Nat.add_mul, Nat.add_mul]; omega
    have hr2 : r < fh d := by omega
    have n1 : ¬ (r + (t + 2) * fh d < 2 * fh d) := by rw [Nat.add_mul]; omega
    rw [e, if_neg n1, if_neg n1, Nat.add_mul_mod_self_right, Nat.add_mul_div_right _ _ h0, Nat.mod_eq_of_lt hr2, Nat.div_eq_of_lt hr2]
    exact ⟨by omega, by omega⟩
theorem ix_lt {w : Nat} {p : Int} (hp : m ≤ p) (hM : p ≤ M) (hw : w < 2 * fh d) : ixF d m w p < cnt d m M := by
  unfold ixF cnt
  have : (p - m).toNat * fh d ≤ (M - m).toNat * fh d := Nat.mul_le_mul_right _ (by omega)
  omega
/-- the greatest one not above -/
def IsLow (d : Nat) (m M : Int) (a : Rat) (k : Nat) : Prop := k < cnt d m M ∧ vl d m k ≤ a ∧ ∀ j, j < cnt d m M → vl d m j ≤ a → j ≤ k
theorem IsLow.uniq {a : Rat} {i j : Nat} (h : IsLow d m M a i) (g : IsLow d m M a j) : i = j := Nat.le_antisymm (g.2.2 i h.1 h.2.1) (h.2.2 j g.1 g.2.1)
theorem low_of {a : Rat} {w : Nat} {p : Int} (hp : m ≤ p) (hM : p ≤ M) (hw : w < 2 * fh d) (h : p = m ∨ fh d ≤ w) (h1 : (w : Rat) * (2 : Rat) ^ p ≤ a) (h2 : a < ((w : Rat) + 1) * (2 : Rat) ^ p) : IsLow d m M a (ixF d m w p) := by
  obtain ⟨e1, e2⟩ := ix_rW hp hw h
  refine ⟨ix_lt hp hM hw, ?_, fun j hj hv => ?_⟩
  · unfold vl
    rw [e1, e2]
    exact h1
  · have e3 := vl_succ (d := d) (m := m) (k := ixF d m w p)
    rw [e1, e2] at e3
    have : vl d m j < vl d m (ixF d m w p + 1) := by rw [e3]; grind
    have := vl_lt_iff.mp this
    omega
theorem low_top {a : Rat} (hd : 1 ≤ d) (hm : m ≤ M) (h : (2 : Rat) ^ ((d : Int) + M) ≤ a) : IsLow d m M a (cnt d m M - 1) := by
  have hp := fh_pos (d := d)
  have hc : 0 < cnt d m M := by unfold cnt; omega
  rw [← vl_cnt hd hm] at h
  refine ⟨by omega, Rat.le_trans (vl_le (Nat.sub_le _ _)) h, fun j hj _ => by omega⟩
theorem top_rW (hd : 1 ≤ d) (hm : m ≤ M) : rW d (cnt d m M - 1) = 2 ^ d - 1 ∧ rP d m (cnt d m M - 1) = M := by
  have hp := fh_pos (d := d)
  have := ix_rW (d := d) (m := m) (w := 2 * fh d - 1) (p := M) hm (by omega) (.inr (by omega))
  have e : ixF d m (2 * fh d - 1) M = cnt d m M - 1 := by unfold ixF cnt; omega
  rw [e, fh_two hd] at this
  exact this
end
/-! a fraction's own power and whole part -/
def pw (d : Nat) (m : Int) (q : Rat) : Int := if q.num = 0 then m else (if expo q - (d : Int) + 1 > m then expo q - (d : Int) + 1 else m)
def xq (p : Int) (q : Rat) : Rat := q.abs * (2 : Rat) ^ (-p)
def wh (d : Nat) (m : Int) (q : Rat) : Nat := (xq (pw d m q) q).num.natAbs / (xq (pw d m q) q).den
def rs (d : Nat) (m : Int) (q : Rat) : Nat := (xq (pw d m q) q).num.natAbs % (xq (pw d m q) q).den
section
variable {d : Nat} {m M : Int} {q a : Rat}
theorem two_cancel (p : Int) : (2 : Rat) ^ (-p) * (2 : Rat) ^ p = 1 := by
  rw [← two_add, Int.add_left_neg]
  rfl
theorem xq_mul (p : Int) : xq p q * (2 : Rat) ^ p = q.abs := by
  unfold xq
  rw [Rat.mul_assoc, two_cancel, Rat.mul_one]
theorem abs_nonneg : 0 ≤ q.abs := by
  unfold Rat.abs
  split <;> grind
theorem xq_nonneg (p : Int) : 0 ≤ xq p q := Rat.mul_nonneg abs_nonneg (Rat.le_of_lt (two_pos _))
/-- floor and rest -/
theorem floor_le {x : Rat} (h : 0 ≤ x) : ((x.num.natAbs / x.den : Nat) : Rat) ≤ x ∧ x < ((x.num.natAbs / x.den : Nat) : Rat) + 1 := by
  have hp := Rat.natCast_pos.mpr x.den_pos
  have hn : (x.num.natAbs : Rat) = x * (x.den : Rat) := by
    rw [mul_den]
    have : ((x.num.natAbs : Nat) : Int) = x.num := by have := Rat.num_nonneg.mpr h; omega
    rw [← Rat.intCast_natCast, this]
  have h1 : x.den * (x.num.natAbs / x.den) ≤ x.num.natAbs := Nat.mul_div_le _ _
  have h2 : x.num.natAbs < x.den * (x.num.natAbs / x.den + 1) := Nat.lt_mul_div_succ _ x.den_pos
  have h1' := Rat.natCast_le_natCast.mpr h1
  have h2' := Rat.natCast_lt_natCast.mpr h2
  rw [Rat.natCast_mul, hn] at h1'
  rw [Rat.natCast_mul, hn, Rat.natCast_add] at h2'
  refine ⟨?_, ?_⟩
  · refine Rat.le_of_mul_le_mul_right (c := (x.den : Rat)) ?_ hp
    rw [Rat.mul_comm]
    exact h1'
  · refine Rat.lt_of_mul_lt_mul_right (c := (x.den : Rat)) ?_ (Rat.le_of_lt hp)
    rw [Rat.mul_comm (_ + 1)]
    exact h2'
theorem rest_eq {x : Rat} (h : 0 ≤ x) : x = ((x.num.natAbs / x.den : Nat) : Rat) + ((x.num.natAbs % x.den : Nat) : Rat) / (x.den : Rat) := by
  have hp := Rat.natCast_pos.mpr x.den_pos
  have hz : (x.den : Rat) ≠ 0 := by grind
  have hn : (x.num.natAbs : Rat) = x * (x.den : Rat) := by
    rw [mul_den]
    have : ((x.num.natAbs : Nat) : Int) = x.num := by have := Rat.num_nonneg.mpr h; omega
    rw [← Rat.intCast_natCast, this]
  have h1 := congrArg (fun n : Nat => (n : Rat)) (Nat.div_add_mod x.num.natAbs x.den)
  simp only [Rat.natCast_add, Rat.natCast_mul] at h1
  rw [hn] at h1
  have h2 : x = (x * (x.den : Rat)) / (x.den : Rat) := by rw [Rat.div_def, Rat.mul_assoc, Rat.mul_inv_cancel _ hz, Rat.mul_one]
  rw [h2]
  conv => lhs; rw [← h1]
  rw [← h2, Rat.div_def, Rat.add_mul, Rat.div_def, Rat.mul_comm (x.den : Rat), Rat.mul_assoc, Rat.mul_inv_cancel _ hz, Rat.mul_one]
theorem wh_lo : (wh d m q : Rat) * (2 : Rat) ^ pw d m q ≤ q.abs := by
  have h := (floor_le (xq_nonneg (q := q) (pw d m q))).1
  have := Rat.mul_le_mul_of_nonneg_right h (Rat.le_of_lt (two_pos (pw d m q)))
  rw [xq_mul] at this
  exact this
theorem wh_hi : q.abs < ((wh d m q : Rat) + 1) * (2 : Rat) ^ pw d m q := by
  have h := (floor_le (xq_nonneg (q := q) (pw d m q))).2
  have := Rat.mul_lt_mul_of_pos_right h (two_pos (pw d m q))
  rw [xq_mul] at this
  exact this
theorem pw_ge : m ≤ pw d m q := by
  unfold pw
  split
  · exact Int.le_refl _
  · split <;> omega
theorem two_lt {i j : Int} : (2 : Rat) ^ i < (2 : Rat) ^ j ↔ i < j := by
  have key : ∀ {i j : Int}, i ≤ j → (2 : Rat) ^ i ≤ (2 : Rat) ^ j := by
    intro i j h
    obtain ⟨n, rfl⟩ : ∃ n : Nat, j = i + n := ⟨(j - i).toNat, by omega⟩
    rw [two_add, ← two_cast]
    have h1 : (1 : Rat) ≤ ((2 ^ n : Nat) : Rat) := Rat.natCast_le_natCast.mpr (show 1 ≤ 2 ^ n from Nat.one_le_two_pow)
    have := Rat.mul_le_mul_of_nonneg_left h1 (Rat.le_of_lt (two_pos i))
    rwa [Rat.mul_one] at this
  refine ⟨fun h => ?_, fun h => ?_⟩
  · rcases Int.lt_or_le i j with q | q
    · exact q
    · have := key q
      grind
  · have h1 := key (show i + 1 ≤ j by omega)
    rw [two_succ] at h1
    have := two_pos i
    grind
theorem two_le {i j : Int} : (2 : Rat) ^ i ≤ (2 : Rat) ^ j ↔ i ≤ j := by
  rw [← Rat.not_lt, two_lt, Int.not_lt]
theorem wh_range (hd : 1 ≤ d) (hz : q ≠ 0) : wh d m q < 2 * fh d ∧ (pw d m q = m ∨ fh d ≤ wh d m q) := by
  obtain ⟨c1, c2⟩ := expo_spec hz
  have hn := num_ne hz
  have lo := wh_lo (d := d) (m := m) (q := q)
  have hi := wh_hi (d := d) (m := m) (q := q)
  have hp := two_pos (pw d m q)
  have hpe : expo q + 1 ≤ pw d m q + (d : Int) := by
    unfold pw
    rw [if_neg hn]
    split <;> omega
  have h1 : q.abs < (2 : Rat) ^ (pw d m q + (d : Int)) := lt_le (Rat.not_le.mp c2) (two_le.mpr hpe)
  have e1 : (2 : Rat) ^ (pw d m q + (d : Int)) = ((2 * fh d : Nat) : Rat) * (2 : Rat) ^ pw d m q := by
    rw [fh_two hd, two_cast, ← two_add, Int.add_comm]
  refine ⟨?_, ?_⟩
  · rw [e1] at h1
    have h2 : (wh d m q : Rat) * (2 : Rat) ^ pw d m q < ((2 * fh d : Nat) : Rat) * (2 : Rat) ^ pw d m q := le_lt lo h1
    exact Rat.natCast_lt_natCast.mp (Rat.lt_of_mul_lt_mul_right h2 (Rat.le_of_lt hp))
  · by_cases c : pw d m q = m
    · exact .inl c
    · right
      have e : expo q = pw d m q + ((d : Int) - 1) := by
        have := c
        unfold pw at this ⊢
        rw [if_neg hn] at this ⊢
        split
        · omega
        · rename_i g; rw [if_neg g] at this; exact absurd rfl this
      rw [e, two_add, ← fh_cast hd] at c1
      have h2 : (fh d : Rat) * (2 : Rat) ^ pw d m q < ((wh d m q : Rat) + 1) * (2 : Rat) ^ pw d m q := by
        rw [Rat.mul_comm]
        exact le_lt c1 hi
      have h3 := Rat.lt_of_mul_lt_mul_right h2 (Rat.le_of_lt hp)
      have h4 : ((fh d : Nat) : Rat) < ((wh d m q + 1 : Nat) : Rat) := by rw [Rat.natCast_add]; exact h3
      have := Rat.natCast_lt_natCast.mp h4
      omega
/-- where it is among the numbers -/
theorem q_low (hd : 1 ≤ d) (hz : q ≠ 0) (hM : pw d m q ≤ M) : IsLow d m M q.abs (ixF d m (wh d m q) (pw d m q)) := low_of pw_ge hM (wh_range hd hz).1 (wh_range hd hz).2 wh_lo wh_hi
theorem q_top (hd : 1 ≤ d) (hz : q ≠ 0) (hm : m ≤ M) (hM : M < pw d m q) : (2 : Rat) ^ ((d : Int) + M) ≤ q.abs := by
  obtain ⟨c1, c2⟩ := expo_spec hz
  have hn := num_ne hz
  refine Rat.le_trans (two_le.mpr ?_) c1
  unfold pw at hM
  rw [if_neg hn] at hM
  split at hM <;> omega
end
/-! numbers as data -/
section
open PySem L2
def fmD (d : Nat) (m M : Int) : D := .tup [.int (d : Int), .int m, .int M]
def nothD (s : Int) : D := .tup [.str "nothing", .int s]
def endD (s : Int) : D := .tup [.str "endless", .int s]
def noneD : D := .tup [.str "none"]
def numD (s : Int) (w : Nat) (p : Int) : D := .tup [.str "number", .int s, .int (w : Int), .int p]
def mkN (s : Int) (w : Nat) (p : Int) : D := if w = 0 then nothD s else numD s w p
def rowD (d : Nat) (m : Int) (k : Nat) : D := mkN 0 (rW d k) (rP d m k)
structure Fm (d : Nat) (m M : Int) : Prop where
  d1 : 2 ≤ d
  d2 : d ≤ 12
  m1 : m.natAbs ≤ 200
  M1 : M.natAbs ≤ 200
  le : m ≤ M
def ownQ (q : Rat) : Int := b2i (decide (q.num < 0))
def smallQ (d : Nat) (m : Int) (q : Rat) : Bool := decide (q.abs < (2 : Rat) ^ ((d : Int) - 1 + m))
def mrk (d : Nat) (m : Int) (q : Rat) (r : Nat) : D := if r = 0 then .tup [] else if smallQ d m q = true then .tup [.str "inexact", .str "underflow"] else .tup [.str "inexact"]
def ovf : D := .tup [.str "inexact", .str "overflow"]
def raiseB (way : Str) (own : Int) (w r l : Nat) : Bool := if way = "cut" then false else if way = "up" then decide (own = 0) else if way = "down" then decide (own = 1) else
  if 2 * r = l then (decide (way = "away") || decide (w % 2 = 1)) else decide (l < 2 * r)
def upQ (d : Nat) (m : Int) (way : Str) (q : Rat) : Bool := decide (0 < rs d m q) && raiseB way (ownQ q) (wh d m q) (rs d m q) (xq (pw d m q) q).den
def dirB (way : Str) (own : Int) : Bool := if way = "even" then true else if way = "away" then true else if way = "up" then decide (own = 0) else if way = "down" then decide (own = 1) else false
def beyD (d : Nat) (M : Int) (way : Str) (own : Int) : D := if dirB way own = true then endD own else numD own (2 ^ d - 1) M
def W1 (d : Nat) (m : Int) (way : Str) (q : Rat) : Nat := if upQ d m way q = true then wh d m q + 1 else wh d m q
def W2 (d : Nat) (m : Int) (way : Str) (q : Rat) : Nat := if W1 d m way q = 2 ^ d then W1 d m way q / 2 else W1 d m way q
def P2 (d : Nat) (m : Int) (way : Str) (q : Rat) : Int := if W1 d m way q = 2 ^ d then pw d m q + 1 else pw d m q
/-- a fraction rounded, by the program's own way -/
def outN (d : Nat) (m M : Int) (way : Str) (q : Rat) (s : Int) : D := if q.num = 0 then nothD s else if P2 d m way q > M then beyD d M way (ownQ q) else mkN (ownQ q) (W2 d m way q) (P2 d m way q)
def outM (d : Nat) (m M : Int) (way : Str) (q : Rat) : D := if q.num = 0 then .tup [] else if P2 d m way q > M then ovf else mrk d m q (rs d m q)
def outQ (d : Nat) (m M : Int) (way : Str) (q : Rat) (s : Int) : D := .tup [outN d m M way q s, outM d m M way q]
def ways : List Str := ["even", "away", "up", "down", "cut"]
theorem w_cases {way : Str} (h : way ∈ ways) : way = "even" ∨ way = "away" ∨ way = "up" ∨ way = "down" ∨ way = "cut" := by
  simpa [ways] using h
theorem fdiv_nat (m n : Nat) : Int.fdiv (m : Int) (n : Int) = ((m / n : Nat) : Int) := by
  rw [Int.fdiv_eq_ediv_of_nonneg _ (by omega)]
  rfl
theorem asg_fr {ts : MGs} {p : Rat} {ρ : Env} : asgG (.tup ts) (fr p) ρ = asgGs ts [.int p.num, .int (p.den : Int)] ρ := nrfl rfl
theorem asg_fm {ts : MGs} {d : Nat} {m M : Int} {ρ : Env} : asgG (.tup ts) (fmD d m M) ρ = asgGs ts [.int (d : Int), .int m, .int M] ρ := nrfl rfl
theorem idx_fm0 {S : Sto} {d : Nat} {m M : Int} : idxD S (fmD d m M) (.int 0) = some (.int (d : Int)) := at_0
theorem idx_fm1 {S : Sto} {d : Nat} {m M : Int} : idxD S (fmD d m M) (.int 1) = some (.int m) := at_1
theorem idx_fm2 {S : Sto} {d : Nat} {m M : Int} : idxD S (fmD d m M) (.int 2) = some (.int M) := at_2
theorem at_3 {α : Type} {x y z u : α} {xs : List α} : atI (x :: y :: z :: u :: xs) 3 = some u := by
  have : (3 : Int) < ((x :: y :: z :: u :: xs).length : Int) := by simp; omega
  simp only [atI, ixN, this, if_true]; rfl
theorem idx_n0 {S : Sto} {s p : Int} {w : Nat} : idxD S (numD s w p) (.int 0) = some (.str "number") := at_0
theorem idx_n1 {S : Sto} {s p : Int} {w : Nat} : idxD S (numD s w p) (.int 1) = some (.int s) := at_1
theorem idx_n2 {S : Sto} {s p : Int} {w : Nat} : idxD S (numD s w p) (.int 2) = some (.int (w : Int)) := at_2
theorem idx_n3 {S : Sto} {s p : Int} {w : Nat} : idxD S (numD s w p) (.int 3) = some (.int p) := at_3
theorem idx_z0 {S : Sto} {s : Int} : idxD S (nothD s) (.int 0) = some (.str "nothing") := at_0
theorem idx_z1 {S : Sto} {s : Int} : idxD S (nothD s) (.int 1) = some (.int s) := at_1
theorem idx_e0 {S : Sto} {s : Int} : idxD S (endD s) (.int 0) = some (.str "endless") := at_0
theorem idx_e1 {S : Sto} {s : Int} : idxD S (endD s) (.int 1) = some (.int s) := at_1
theorem idx_o0 {S : Sto} : idxD S noneD (.int 0) = some (.str "none") := at_0
theorem q_nn : (("nothing" : Str) = ("nothing" : Str)) = True := eq_true rfl
theorem q_num_noth : (("number" : Str) = ("nothing" : Str)) = False := eq_false (by decide +kernel)
theorem q_noth_num : (("nothing" : Str) = ("number" : Str)) = False := eq_false (by decide +kernel)
theorem q_num_end : (("number" : Str) = ("endless" : Str)) = False := eq_false (by decide +kernel)
theorem q_noth_end : (("nothing" : Str) = ("endless" : Str)) = False := eq_false (by decide +kernel)
theorem q_end_noth : (("endless" : Str) = ("nothing" : Str)) = False := eq_false (by decide +kernel)
theorem q_end_num : (("endless" : Str) = ("number" : Str)) = False := eq_false (by decide +kernel)
theorem q_none_noth : (("none" : Str) = ("nothing" : Str)) = False := eq_false (by decide +kernel)
theorem q_none_num : (("none" : Str) = ("number" : Str)) = False := eq_false (by decide +kernel)
theorem q_none_end : (("none" : Str) = ("endless" : Str)) = False := eq_false (by decide +kernel)
theorem q_noth_none : (("nothing" : Str) = ("none" : Str)) = False := eq_false (by decide +kernel)
theorem q_num_none : (("number" : Str) = ("none" : Str)) = False := eq_false (by decide +kernel)
theorem q_end_none : (("endless" : Str) = ("none" : Str)) = False := eq_false (by decide +kernel)
theorem y_even_away : (("even" : Str) = ("away" : Str)) = False := eq_false (by decide +kernel)
theorem y_even_up : (("even" : Str) = ("up" : Str)) = False := eq_false (by decide +kernel)
theorem y_even_down : (("even" : Str) = ("down" : Str)) = False := eq_false (by decide +kernel)
theorem y_even_cut : (("even" : Str) = ("cut" : Str)) = False := eq_false (by decide +kernel)
theorem y_away_even : (("away" : Str) = ("even" : Str)) = False := eq_false (by decide +kernel)
theorem y_away_up : (("away" : Str) = ("up" : Str)) = False := eq_false (by decide +kernel)
theorem y_away_down : (("away" : Str) = ("down" : Str)) = False := eq_false (by decide +kernel)
theorem y_away_cut : (("away" : Str) = ("cut" : Str)) = False := eq_false (by decide +kernel)
theorem y_up_even : (("up" : Str) = ("even" : Str)) = False := eq_false (by decide +kernel)
theorem y_up_away : (("up" : Str) = ("away" : Str)) = False := eq_false (by decide +kernel)
theorem y_up_down : (("up" : Str) = ("down" : Str)) = False := eq_false (by decide +kernel)
theorem y_up_cut : (("up" : Str) = ("cut" : Str)) = False := eq_false (by decide +kernel)
theorem y_down_even : (("down" : Str) = ("even" : Str)) = False := eq_false (by decide +kernel)
theorem y_down_away : (("down" : Str) = ("away" : Str)) = False := eq_false (by decide +kernel)
theorem y_down_up : (("down" : Str) = ("up" : Str)) = False := eq_false (by decide +kernel)
theorem y_down_cut : (("down" : Str) = ("cut" : Str)) = False := eq_false (by decide +kernel)
theorem y_cut_even : (("cut" : Str) = ("even" : Str)) = False := eq_false (by decide +kernel)
theorem y_cut_away : (("cut" : Str) = ("away" : Str)) = False := eq_false (by decide +kernel)
theorem y_cut_up : (("cut" : Str) = ("up" : Str)) = False := eq_false (by decide +kernel)
theorem y_cut_down : (("cut" : Str) = ("down" : Str)) = False := eq_false (by decide +kernel)
def YW := And.intro @y_even_away (And.intro @y_even_up (And.intro @y_even_down (And.intro @y_even_cut (And.intro @y_away_even (And.intro @y_away_up (And.intro @y_away_down (And.intro @y_away_cut (And.intro @y_up_even (And.intro @y_up_away (And.intro @y_up_down (And.intro @y_up_cut (And.intro @y_down_even (And.intro @y_down_away (And.intro @y_down_up (And.intro @y_down_cut (And.intro @y_cut_even (And.intro @y_cut_away (And.intro @y_cut_up @y_cut_down))))))))))))))))))
def YN := And.intro @q_num_noth (And.intro @q_noth_num (And.intro @q_num_end (And.intro @q_noth_end (And.intro @q_end_noth (And.intro @q_end_num (And.intro @q_none_noth (And.intro @q_none_num (And.intro @q_none_end (And.intro @q_noth_none (And.intro @q_num_none @q_end_none))))))))))
/-- the first, and from the third on -/
theorem sl_01 {S : Sto} {x : D} {xs : List D} : slD S (.tup (x :: xs)) none (some 1) = some (.tup [x]) := by
  have h1 : HT.sIx (x :: xs).length 0 none = 0 := rfl
  have h2 : HT.sIx (x :: xs).length (x :: xs).length (some 1) = 1 := by
    show min (1 : Int).toNat (x :: xs).length = 1
    simp
  simp only [slD, cutD, h1, h2]
  simp
theorem sl_2 {S : Sto} {x y : D} {xs : List D} : slD S (.tup (x :: y :: xs)) (some 2) none = some (.tup xs) := by
  have h1 : HT.sIx (x :: y :: xs).length 0 (some 2) = 2 := by
    show min (2 : Int).toNat (x :: y :: xs).length = 2
    simp
  have h2 : HT.sIx (x :: y :: xs).length (x :: y :: xs).length none = (x :: y :: xs).length := rfl
  simp only [slD, cutD, h1, h2]
  simp
theorem sl_2n {S : Sto} {x : D} : slD S (.tup [x]) (some 2) none = some (.tup []) := by
  rfl
end
end Rw

/-! the text by slots of roundedwithin_k01_formats_and_their_numb, written by gen.py -/
namespace Rw.Pk01
open PySem L2 Rw
def f_is_number : Fn := ⟨1, 1, (.cons (.ret (.and (.isI 4 3 "int" (.var 0)) (.one (.not (.isI 4 1 "bool" (.var 0)))))) .nil)⟩
def f_is_from : Fn := ⟨2, 2, (.cons (.ret (.and (.call 12 (.cons (.var 0) .nil)) (.one (.cmp .GtE (.var 0) (.var 1))))) .nil)⟩
def f_is_tuple_of : Fn := ⟨2, 2, (.cons (.ret (.and (.isI 4 10 "tuple" (.var 0)) (.one (.cmp .Eq (.bi .len 5 (.cons (.var 0) .nil)) (.var 1))))) .nil)⟩
def c_bits_of_0 : ME := (.cmp .Gt (.bin .RShift (.var 0) (.var 1)) (.int 0))
def b_bits_of_0 : MSs := (.cons (.aug 1 .Add (.int 1)) .nil)
def f_bits_of : Fn := ⟨1, 2, (.cons (.asg (.name 1) (.int 0)) (.cons (.whl c_bits_of_0 b_bits_of_0) (.cons (.ret (.var 1)) .nil)))⟩
def c_common_0 : ME := (.cmp .Gt (.var 1) (.int 0))
def b_common_0 : MSs := (.cons (.par2 0 1 (.var 1) (.bin .Mod (.var 0) (.var 1))) .nil)
def f_common : Fn := ⟨2, 2, (.cons (.par2 0 1 (.bi .abs 0 (.cons (.var 0) .nil)) (.bi .abs 0 (.cons (.var 1) .nil))) (.cons (.whl c_common_0 b_common_0) (.cons (.ret (.var 0)) .nil)))⟩
def f_fraction : Fn := ⟨2, 3, (.cons (.asg (.name 2) (.ifE (.cmp .Gt (.var 1) (.int 0)) (.call 16 (.cons (.var 0) (.cons (.var 1) .nil))) (.neg (.call 16 (.cons (.var 0) (.cons (.var 1) .nil)))))) (.cons (.ret (.tup (.cons (.bin .FloorDiv (.var 0) (.var 2)) (.cons (.bin .FloorDiv (.var 1) (.var 2)) .nil)))) .nil))⟩
def f_times : Fn := ⟨2, 2, (.cons (.ret (.call 17 (.cons (.bin .Mult (.idx (.var 0) (.int 0)) (.idx (.var 1) (.int 0))) (.cons (.bin .Mult (.idx (.var 0) (.int 1)) (.idx (.var 1) (.int 1))) .nil)))) .nil)⟩
def f_is_most : Fn := ⟨2, 2, (.cons (.ret (.cmp .LtE (.bin .Mult (.idx (.var 0) (.int 0)) (.idx (.var 1) (.int 1))) (.bin .Mult (.idx (.var 1) (.int 0)) (.idx (.var 0) (.int 1))))) .nil)⟩
def f_two_to : Fn := ⟨1, 1, (.cons (.ret (.ifE (.cmp .GtE (.var 0) (.int 0)) (.tup (.cons (.bin .LShift (.int 1) (.var 0)) (.cons (.int 1) .nil))) (.tup (.cons (.int 1) (.cons (.bin .LShift (.int 1) (.neg (.var 0))) .nil))))) .nil)⟩
def f_shifted : Fn := ⟨2, 2, (.cons (.ret (.call 18 (.cons (.var 0) (.cons (.call 20 (.cons (.var 1) .nil)) .nil)))) .nil)⟩
def f_exponent_of : Fn := ⟨1, 4, (.cons (.par2 1 2 (.bi .abs 0 (.cons (.idx (.var 0) (.int 0)) .nil)) (.idx (.var 0) (.int 1))) (.cons (.asg (.name 3) (.bin .Sub (.call 15 (.cons (.var 1) .nil)) (.call 15 (.cons (.var 2) .nil)))) (.cons (.ret (.ifE (.call 19 (.cons (.call 20 (.cons (.var 3) .nil)) (.cons (.tup (.cons (.var 1) (.cons (.var 2) .nil))) .nil))) (.var 3) (.bin .Sub (.var 3) (.int 1)))) .nil)))⟩
def f_is_format : Fn := ⟨1, 1, (.cons (.ifS (.or (.not (.call 14 (.cons (.var 0) (.cons (.int 3) .nil)))) (.or (.not (.call 13 (.cons (.idx (.var 0) (.int 0)) (.cons (.int 2) .nil)))) (.or (.not (.call 12 (.cons (.idx (.var 0) (.int 1)) .nil))) (.one (.not (.call 12 (.cons (.idx (.var 0) (.int 2)) .nil))))))) (.cons (.ret (.bl false)) .nil) .nil) (.cons (.ret (.cmp .Lt (.idx (.var 0) (.int 1)) (.idx (.var 0) (.int 2)))) .nil))⟩
def s_is_of_0_0 : MS := (.ifS (.or (.not (.isI 4 10 "tuple" (.var 1))) (.or (.cmp .Eq (.var 1) (.tup .nil)) (.one (.not (.isI 4 9 "str" (.idx (.var 1) (.int 0))))))) (.cons (.ret (.bl false)) .nil) .nil) -- if not isinstance(thing, tuple) or thing == () or (not isinstance(thing[0], str)):
def s_is_of_0_1 : MS := (.ifS (.cmp .Eq (.idx (.var 1) (.int 0)) (.str "none")) (.cons (.ret (.cmp .Eq (.bi .len 5 (.cons (.var 1) .nil)) (.int 1))) .nil) .nil) -- if thing[0] == 'none':
def s_is_of_0_2 : MS := (.ifS (.cmp .In (.idx (.var 1) (.int 0)) (.tup (.cons (.str "nothing") (.cons (.str "endless") .nil)))) (.cons (.ret (.and (.cmp .Eq (.bi .len 5 (.cons (.var 1) .nil)) (.int 2)) (.one (.call 25 (.cons (.idx (.var 1) (.int 1)) .nil))))) .nil) .nil) -- if thing[0] in ('nothing', 'endless'):
def s_is_of_0_3 : MS := (.ifS (.or (.cmp .NotEq (.idx (.var 1) (.int 0)) (.str "number")) (.or (.cmp .NotEq (.bi .len 5 (.cons (.var 1) .nil)) (.int 4)) (.one (.not (.call 25 (.cons (.idx (.var 1) (.int 1)) .nil)))))) (.cons (.ret (.bl false)) .nil) .nil) -- if thing[0] != 'number' or len(thing) != 4 or (not is_sign(thing[1])):
def s_is_of_0_4 : MS := (.asg (.tup (.cons (.name 2) (.cons (.name 3) (.cons (.name 4) .nil)))) (.var 0)) -- digits, least, greatest = form
def s_is_of_0_5 : MS := (.ifS (.or (.not (.call 13 (.cons (.idx (.var 1) (.int 2)) (.cons (.int 1) .nil)))) (.or (.not (.call 12 (.cons (.idx (.var 1) (.int 3)) .nil))) (.one (.not (.ch .LtE .LtE (.var 3) (.idx (.var 1) (.int 3)) (.var 4)))))) (.cons (.ret (.bl false)) .nil) .nil) -- if not is_from(thing[2], 1) or not is_number(thing[3]) or (not least <= thing[3] <= greatest):
def s_is_of_0_6 : MS := (.ret (.and (.cmp .Lt (.idx (.var 1) (.int 2)) (.bin .LShift (.int 1) (.var 2))) (.one (.or (.cmp .GtE (.idx (.var 1) (.int 2)) (.bin .LShift (.int 1) (.bin .Sub (.var 2) (.int 1)))) (.one (.cmp .Eq (.idx (.var 1) (.int 3)) (.var 3))))))) -- return thing[2] < 1 << digits and (thing[2] >= 1 << digits - 1 or thing[3] == least)
def f_is_of : Fn := ⟨2, 5, (.cons s_is_of_0_0 (.cons s_is_of_0_1 (.cons s_is_of_0_2 (.cons s_is_of_0_3 (.cons s_is_of_0_4 (.cons s_is_of_0_5 (.cons s_is_of_0_6 .nil)))))))⟩
def f_is_sign : Fn := ⟨1, 1, (.cons (.ret (.and (.call 12 (.cons (.var 0) .nil)) (.one (.cmp .In (.var 0) (.tup (.cons (.int 0) (.cons (.int 1) .nil))))))) .nil)⟩
def f_value_of : Fn := ⟨1, 2, (.cons (.ifS (.cmp .Eq (.idx (.var 0) (.int 0)) (.str "nothing")) (.cons (.ret (.con 11)) .nil) .nil) (.cons (.asg (.name 1) (.call 21 (.cons (.tup (.cons (.idx (.var 0) (.int 2)) (.cons (.int 1) .nil))) (.cons (.idx (.var 0) (.int 3)) .nil)))) (.cons (.ret (.ifE (.cmp .Eq (.idx (.var 0) (.int 1)) (.int 1)) (.tup (.cons (.neg (.idx (.var 1) (.int 0))) (.cons (.idx (.var 1) (.int 1)) .nil))) (.var 1))) .nil)))⟩
def f_is_finite : Fn := ⟨1, 1, (.cons (.ret (.cmp .In (.idx (.var 0) (.int 0)) (.tup (.cons (.str "number") (.cons (.str "nothing") .nil))))) .nil)⟩
def f_greatest_of : Fn := ⟨1, 1, (.cons (.ret (.tup (.cons (.str "number") (.cons (.int 0) (.cons (.bin .Sub (.bin .LShift (.int 1) (.idx (.var 0) (.int 0))) (.int 1)) (.cons (.idx (.var 0) (.int 2)) .nil)))))) .nil)⟩
def f_least_of : Fn := ⟨1, 1, (.cons (.ret (.tup (.cons (.str "number") (.cons (.int 0) (.cons (.int 1) (.cons (.idx (.var 0) (.int 1)) .nil)))))) .nil)⟩
def f_least_full : Fn := ⟨1, 1, (.cons (.ret (.tup (.cons (.str "number") (.cons (.int 0) (.cons (.bin .LShift (.int 1) (.bin .Sub (.idx (.var 0) (.int 0)) (.int 1))) (.cons (.idx (.var 0) (.int 1)) .nil)))))) .nil)⟩
def e_all_finite_0 : ME := (.tup (.cons (.str "number") (.cons (.int 0) (.cons (.var 6) (.cons (.var 2) .nil)))))
def e_all_finite_2 : ME := (.tup (.cons (.str "number") (.cons (.int 0) (.cons (.var 6) (.cons (.var 5) .nil)))))
def b_all_finite_1 : MSs := (.cons (.ex (.meth .extend (.var 4) (.cons (.lc false [6] e_all_finite_2 (.name 6) (.rng 8 (.cons (.bin .LShift (.int 1) (.bin .Sub (.var 1) (.int 1))) (.cons (.bin .LShift (.int 1) (.var 1)) .nil))) .none) .nil))) .nil)
def f_all_finite : Fn := ⟨1, 7, (.cons (.asg (.tup (.cons (.name 1) (.cons (.name 2) (.cons (.name 3) .nil)))) (.var 0)) (.cons (.asg (.name 4) (.madd (.lst (.cons (.tup (.cons (.str "nothing") (.cons (.int 0) .nil))) .nil)) (.lc false [6] e_all_finite_0 (.name 6) (.rng 8 (.cons (.int 1) (.cons (.bin .LShift (.int 1) (.var 1)) .nil))) .none))) (.cons (.forS (.name 5) (.rng 8 (.cons (.bin .Add (.var 2) (.int 1)) (.cons (.bin .Add (.var 3) (.int 1)) .nil))) b_all_finite_1) (.cons (.ret (.bi .tuple 10 (.cons (.var 4) .nil))) .nil))))⟩
def e_all_numbers_0 : ME := (.call 33 (.cons (.var 3) .nil))
def f_all_numbers : Fn := ⟨1, 4, (.cons (.asg (.name 1) (.call 31 (.cons (.var 0) .nil))) (.cons (.asg (.name 2) (.bin .Add (.lc false [3] e_all_numbers_0 (.name 3) (.seq (.slR (.var 1) .none)) .none) (.bi .list 6 (.cons (.var 1) .nil)))) (.cons (.ret (.bi .tuple 10 (.cons (.bin .Add (.bin .Add (.lst (.cons (.tup (.cons (.str "endless") (.cons (.int 1) .nil))) .nil)) (.var 2)) (.lst (.cons (.tup (.cons (.str "endless") (.cons (.int 0) .nil))) (.cons (.tup (.cons (.str "none") .nil)) .nil)))) .nil))) .nil)))⟩
def f_turned : Fn := ⟨1, 1, (.cons (.ifS (.cmp .Eq (.idx (.var 0) (.int 0)) (.str "none")) (.cons (.ret (.var 0)) .nil) .nil) (.cons (.ret (.bin .Add (.bin .Add (.sl (.var 0) .none (.some (.int 1))) (.tup (.cons (.bin .Sub (.int 1) (.idx (.var 0) (.int 1))) .nil))) (.sl (.var 0) (.some (.int 2)) .none))) .nil))⟩
def f_sized : Fn := ⟨1, 1, (.cons (.ret (.ifE (.cmp .Eq (.idx (.var 0) (.int 0)) (.str "none")) (.var 0) (.bin .Add (.bin .Add (.sl (.var 0) .none (.some (.int 1))) (.tup (.cons (.int 0) .nil))) (.sl (.var 0) (.some (.int 2)) .none)))) .nil)⟩
def f_unit_at : Fn := ⟨2, 2, (.cons (.ret (.ifE (.cmp .NotEq (.idx (.var 1) (.int 0)) (.int 0)) (.bi .max 7 (.cons (.idx (.var 0) (.int 1)) (.cons (.bin .Add (.bin .Sub (.call 22 (.cons (.var 1) .nil)) (.idx (.var 0) (.int 0))) (.int 1)) .nil))) (.idx (.var 0) (.int 1)))) .nil)⟩
def f_is_representable : Fn := ⟨2, 4, (.cons (.ifS (.cmp .Eq (.idx (.var 1) (.int 0)) (.int 0)) (.cons (.ret (.bl true)) .nil) .nil) (.cons (.asg (.name 2) (.call 35 (.cons (.var 0) (.cons (.var 1) .nil)))) (.cons (.asg (.name 3) (.call 21 (.cons (.var 1) (.cons (.neg (.var 2)) .nil)))) (.cons (.ret (.and (.cmp .Eq (.idx (.var 3) (.int 1)) (.int 1)) (.one (.cmp .LtE (.var 2) (.idx (.var 0) (.int 2)))))) .nil))))⟩
def f_number_of : Fn := ⟨2, 3, (.cons (.ifS (.cmp .Eq (.idx (.var 1) (.int 0)) (.int 0)) (.cons (.ret (.tup (.cons (.str "nothing") (.cons (.int 0) .nil)))) .nil) .nil) (.cons (.asg (.name 2) (.call 35 (.cons (.var 0) (.cons (.var 1) .nil)))) (.cons (.ret (.tup (.cons (.str "number") (.cons (.bi .int 3 (.cons (.cmp .Lt (.idx (.var 1) (.int 0)) (.int 0)) .nil)) (.cons (.bi .abs 0 (.cons (.idx (.call 21 (.cons (.var 1) (.cons (.neg (.var 2)) .nil))) (.int 0)) .nil)) (.cons (.var 2) .nil)))))) .nil)))⟩
def f_count_of : Fn := ⟨1, 4, (.cons (.asg (.tup (.cons (.name 1) (.cons (.name 2) (.cons (.name 3) .nil)))) (.var 0)) (.cons (.ret (.bin .Mult (.int 2) (.bin .Add (.bin .LShift (.int 1) (.var 1)) (.bin .Mult (.bin .Sub (.var 3) (.var 2)) (.bin .LShift (.int 1) (.bin .Sub (.var 1) (.int 1))))))) .nil))⟩
def f_is_within : Fn := ⟨2, 3, (.cons (.asg (.name 2) (.call 26 (.cons (.call 28 (.cons (.var 0) .nil)) .nil))) (.cons (.ret (.and (.cmp .LtE (.idx (.var 0) (.int 0)) (.idx (.var 1) (.int 0))) (.and (.cmp .GtE (.idx (.var 0) (.int 1)) (.idx (.var 1) (.int 1))) (.one (.call 36 (.cons (.var 1) (.cons (.var 2) .nil))))))) .nil))⟩
def b__law_draws_1 : MSs := (.cons (.ifS (.cmp .Gt (.var 6) (.int 0)) (.cons (.ex (.meth .append (.var 2) (.cons (.bin .Mod (.bi .int 3 (.cons (.var 6) .nil)) (.int 997)) .nil))) (.cons (.asg (.name 6) (.bin .FloorDiv (.var 6) (.int 997))) .nil)) .nil) .nil)
def b__law_draws_0 : MSs := (.cons (.asg (.name 5) (.bi .abs 0 (.cons (.bi .int 3 (.cons (.idx (.var 0) (.var 4)) .nil)) .nil))) (.cons (.asg (.name 3) (.bin .Mod (.bi .int 3 (.cons (.bin .Add (.bin .Add (.bin .Mult (.var 3) (.int 48271)) (.bin .Mod (.var 5) (.int 1000003))) (.var 4)) .nil)) (.int 65537))) (.cons (.asg (.name 6) (.int 0)) (.cons (.ifS (.cmp .GtE (.var 5) (.bin .Pow (.int 10) (.int 18))) (.cons (.asg (.name 6) (.var 5)) .nil) (.cons (.ex (.meth .append (.var 2) (.cons (.bin .Mod (.bi .int 3 (.cons (.var 5) .nil)) (.int 997)) .nil))) (.cons (.ex (.meth .append (.var 2) (.cons (.bin .Mod (.bin .Mod (.bi .int 3 (.cons (.bin .Add (.bin .Mult (.var 3) (.int 69621)) (.int 5)) .nil)) (.int 65521)) (.int 997)) .nil))) .nil))) (.cons (.forS (.name 7) (.rng 8 (.cons (.int 60) .nil)) b__law_draws_1) .nil)))))
def b__law_draws_2 : MSs := (.cons (.asg (.name 3) (.bin .Mod (.bi .int 3 (.cons (.bin .Add (.bin .Add (.bin .Mult (.var 3) (.int 16807)) (.var 4)) (.int 1)) .nil)) (.int 65537))) (.cons (.ex (.meth .append (.var 2) (.cons (.bin .Mod (.bi .int 3 (.cons (.var 3) .nil)) (.int 997)) .nil))) .nil))
def f__law_draws : Fn := ⟨2, 8, (.cons (.asg (.name 2) (.mlst .nil)) (.cons (.asg (.name 3) (.int 7)) (.cons (.forS (.name 4) (.rng 8 (.cons (.bi .len 5 (.cons (.var 0) .nil)) .nil)) b__law_draws_0) (.cons (.forS (.name 4) (.rng 8 (.cons (.var 1) .nil)) b__law_draws_2) (.cons (.ret (.sl (.var 2) .none (.some (.var 1)))) .nil)))))⟩
def f__law_next : Fn := ⟨2, 2, (.cons (.augI (.var 0) (.str "at") .Add (.int 1)) (.cons (.ifS (.cmp .Gt (.idx (.var 0) (.str "at")) (.bi .len 5 (.cons (.idx (.var 0) (.str "draws")) .nil))) (.cons (.ret (.int 0)) .nil) .nil) (.cons (.ret (.bin .Mod (.bi .int 3 (.cons (.idx (.idx (.var 0) (.str "draws")) (.bin .Sub (.idx (.var 0) (.str "at")) (.int 1))) .nil)) (.var 1))) .nil)))⟩
def f__law_pick : Fn := ⟨2, 2, (.cons (.ret (.idx (.var 1) (.call 41 (.cons (.var 0) (.cons (.bi .len 5 (.cons (.var 1) .nil)) .nil))))) .nil)⟩
def e__law_same_1 : ME := (.var 6)
def k__law_same_1 : MO := (.some (.cmp .NotIn (.var 6) (.var 3)))
def e__law_same_2 : ME := (.tup (.cons (.idx (.var 3) (.var 6)) (.cons (.idx (.var 4) (.var 6)) .nil)))
def e__law_same_3 : ME := (.tup (.cons (.idx (.var 5) (.var 6)) (.cons (.var 6) .nil)))
def e__law_same_4 : ME := (.tup (.cons (.idx (.var 3) (.var 7)) (.cons (.idx (.var 4) (.var 7)) .nil)))
def c__law_same_0 : ME := (.cmp .NotEq (.var 2) (.lst .nil))
def b__law_same_0 : MSs := (.cons (.asg (.tup (.cons (.name 3) (.cons (.name 4) .nil))) (.meth .pop (.var 2) .nil)) (.cons (.ifS (.isI 4 2 "dict" (.var 4)) (.cons (.ifS (.or (.not (.isI 4 2 "dict" (.var 3))) (.or (.cmp .NotEq (.bi .len 5 (.cons (.var 3) .nil)) (.bi .len 5 (.cons (.var 4) .nil))) (.one (.cmp .NotEq (.lc false [6] e__law_same_1 (.name 6) (.seq (.var 4)) k__law_same_1) (.lst .nil))))) (.cons (.ret (.bl false)) .nil) .nil) (.cons .nev (.cons (.ex (.meth .extend (.var 2) (.cons (.bin .Add (.lc false [6] e__law_same_2 (.name 6) (.seq (.var 4)) .none) (.lc false [6] e__law_same_3 (.name 6) (.seq (.var 4)) .none)) .nil))) .nil))) (.cons (.ifS (.or (.isI 4 10 "tuple" (.var 4)) (.one (.isI 4 6 "list" (.var 4)))) (.cons (.ifS (.or (.cmp .NotEq (.isI 4 10 "tuple" (.var 3)) (.isI 4 10 "tuple" (.var 4))) (.or (.cmp .NotEq (.isI 4 6 "list" (.var 3)) (.isI 4 6 "list" (.var 4))) (.one (.cmp .NotEq (.bi .len 5 (.cons (.var 3) .nil)) (.bi .len 5 (.cons (.var 4) .nil)))))) (.cons (.ret (.bl false)) .nil) .nil) (.cons (.ex (.meth .extend (.var 2) (.cons (.lc false [7] e__law_same_4 (.name 7) (.rng 8 (.cons (.bi .len 5 (.cons (.var 4) .nil)) .nil)) .none) .nil))) .nil)) (.cons (.ifS (.or (.cmp .NotEq (.isI 4 1 "bool" (.var 3)) (.isI 4 1 "bool" (.var 4))) (.or (.cmp .NotEq (.isI 4 3 "int" (.var 3)) (.isI 4 3 "int" (.var 4))) (.or (.cmp .NotEq (.isI 4 9 "str" (.var 3)) (.isI 4 9 "str" (.var 4))) (.one (.cmp .NotEq (.var 3) (.var 4)))))) (.cons (.ret (.bl false)) .nil) .nil) .nil)) .nil)) .nil))
def f__law_same : Fn := ⟨2, 8, (.cons (.asg (.name 2) (.mlst (.cons (.tup (.cons (.var 0) (.cons (.var 1) .nil))) .nil))) (.cons (.whl c__law_same_0 b__law_same_0) (.cons (.ret (.bl true)) .nil)))⟩
def c__law_least_0 : ME := (.cmp .Gt (.var 3) (.int 0))
def b__law_least_0 : MSs := (.cons (.par2 2 3 (.var 3) (.bin .Mod (.bi .int 3 (.cons (.var 2) .nil)) (.var 3))) .nil)
def f__law_least : Fn := ⟨2, 4, (.cons (.par2 2 3 (.bi .abs 0 (.cons (.var 0) .nil)) (.bi .abs 0 (.cons (.var 1) .nil))) (.cons (.whl c__law_least_0 b__law_least_0) (.cons (.asg (.name 2) (.ifE (.cmp .Gt (.var 1) (.int 0)) (.var 2) (.bin .Sub (.int 0) (.var 2)))) (.cons (.ret (.tup (.cons (.bin .FloorDiv (.var 0) (.var 2)) (.cons (.bin .FloorDiv (.var 1) (.var 2)) .nil)))) .nil))))⟩
def e__law_fin_0 : ME := (.tup (.cons (.str "number") (.cons (.int 0) (.cons (.var 6) (.cons (.var 2) .nil)))))
def e__law_fin_2 : ME := (.tup (.cons (.str "number") (.cons (.int 0) (.cons (.var 6) (.cons (.var 5) .nil)))))
def b__law_fin_1 : MSs := (.cons (.asg (.name 4) (.bin .Add (.var 4) (.lc false [6] e__law_fin_2 (.name 6) (.rng 8 (.cons (.bin .LShift (.int 1) (.bin .Sub (.var 1) (.int 1))) (.cons (.bin .LShift (.int 1) (.var 1)) .nil))) .none))) .nil)
def f__law_fin : Fn := ⟨1, 7, (.cons (.asg (.tup (.cons (.name 1) (.cons (.name 2) (.cons (.name 3) .nil)))) (.var 0)) (.cons (.asg (.name 4) (.bin .Add (.lst (.cons (.tup (.cons (.str "nothing") (.cons (.int 0) .nil))) .nil)) (.lc false [6] e__law_fin_0 (.name 6) (.rng 8 (.cons (.int 1) (.cons (.bin .LShift (.int 1) (.var 1)) .nil))) .none))) (.cons (.forS (.name 5) (.rng 8 (.cons (.bin .Add (.var 2) (.int 1)) (.cons (.bin .Add (.var 3) (.int 1)) .nil))) b__law_fin_1) (.cons (.ret (.var 4)) .nil))))⟩
def f__law_val : Fn := ⟨1, 2, (.cons (.ifS (.cmp .Eq (.idx (.var 0) (.int 0)) (.str "nothing")) (.cons (.ret (.tup (.cons (.int 0) (.cons (.int 1) .nil)))) .nil) .nil) (.cons (.asg (.name 1) (.bin .Sub (.int 1) (.bin .Mult (.int 2) (.idx (.var 0) (.int 1))))) (.cons (.ret (.ifE (.cmp .GtE (.idx (.var 0) (.int 3)) (.int 0)) (.call 44 (.cons (.bin .LShift (.bin .Mult (.var 1) (.idx (.var 0) (.int 2))) (.idx (.var 0) (.int 3))) (.cons (.int 1) .nil))) (.call 44 (.cons (.bin .Mult (.var 1) (.idx (.var 0) (.int 2))) (.cons (.bin .LShift (.int 1) (.bin .Sub (.int 0) (.idx (.var 0) (.int 3)))) .nil))))) .nil)))⟩
def f__law_flip : Fn := ⟨1, 1, (.cons (.ret (.ifE (.cmp .Eq (.idx (.var 0) (.int 0)) (.str "none")) (.var 0) (.bin .Add (.bin .Add (.sl (.var 0) .none (.some (.int 1))) (.tup (.cons (.bin .Sub (.int 1) (.idx (.var 0) (.int 1))) .nil))) (.sl (.var 0) (.some (.int 2)) .none)))) .nil)⟩
def f__law_form : Fn := ⟨1, 3, (.cons (.asg (.name 1) (.bin .Add (.int 2) (.call 41 (.cons (.var 0) (.cons (.int 3) .nil))))) (.cons (.asg (.name 2) (.bin .Sub (.call 41 (.cons (.var 0) (.cons (.int 4) .nil))) (.int 5))) (.cons (.ret (.tup (.cons (.var 1) (.cons (.var 2) (.cons (.bin .Add (.bin .Add (.var 2) (.int 1)) (.call 41 (.cons (.var 0) (.cons (.int 4) .nil)))) .nil))))) .nil)))⟩
def s_law_0_0 : MS := (.asg (.name 1) (.dict (.cons (.str "draws") (.call 40 (.cons (.var 0) (.cons (.int 60) .nil))) (.cons (.str "at") (.int 0) .nil)))) -- w = {'draws': _law_draws(script, 60), 'at': 0}
def b_law_1 : MSs := (.cons (.ifS (.not (.call 43 (.cons (.call 23 (.cons (.var 2) .nil)) (.cons (.var 3) .nil)))) (.cons (.ret (.bl false)) .nil) .nil) .nil)
def s_law_0_1 : MS := (.forS (.tup (.cons (.name 2) (.cons (.name 3) .nil))) (.seq (.tup (.cons (.tup (.cons (.tup (.cons (.int 2) (.cons (.neg (.int 1)) (.cons (.int 0) .nil)))) (.cons (.bl true) .nil))) (.cons (.tup (.cons (.tup (.cons (.int 5) (.cons (.int 3) (.cons (.int 9) .nil)))) (.cons (.bl true) .nil))) (.cons (.tup (.cons (.tup (.cons (.int 1) (.cons (.int 0) (.cons (.int 3) .nil)))) (.cons (.bl false) .nil))) (.cons (.tup (.cons (.tup (.cons (.int 2) (.cons (.int 0) (.cons (.int 0) .nil)))) (.cons (.bl false) .nil))) (.cons (.tup (.cons (.tup (.cons (.int 2) (.cons (.int 1) (.cons (.int 0) .nil)))) (.cons (.bl false) .nil))) (.cons (.tup (.cons (.lst (.cons (.int 2) (.cons (.int 0) (.cons (.int 1) .nil)))) (.cons (.bl false) .nil))) (.cons (.tup (.cons (.tup (.cons (.bl true) (.cons (.int 0) (.cons (.int 1) .nil)))) (.cons (.bl false) .nil))) (.cons (.tup (.cons (.tup (.cons (.int 2) (.cons (.int 0) .nil))) (.cons (.bl false) .nil))) (.cons (.tup (.cons .non (.cons (.bl false) .nil))) .nil))))))))))) b_law_1) -- for thing, due in (((2, -1, 0), True), ((5, 3, 9), True), ((1, 0, 3), False), ((2, 0, 0), False), ((2, 1, 0), False), ([2, 0, 1], False), ((True, 0, 1), False), ((2, 0), False), (None, False)):
def s_law_0_2 : MS := (.par2 4 5 (.call 48 (.cons (.var 1) .nil)) (.call 48 (.cons (.var 1) .nil))) -- form, other = (_law_form(w), _law_form(w))
def s_law_0_3 : MS := (.asg (.tup (.cons (.name 6) (.cons (.name 7) (.cons (.name 8) .nil)))) (.var 4)) -- digits, least, greatest = form
def s_law_0_4 : MS := (.asg (.name 9) (.call 45 (.cons (.var 4) .nil))) -- rows = _law_fin(form)
def e_law_2 : ME := (.call 46 (.cons (.var 12) .nil))
def s_law_0_5 : MS := (.asg (.name 10) (.lc false [12] e_law_2 (.name 12) (.seq (.var 9)) .none)) -- values = [_law_val(number) for number in rows]
def e_law_3 : ME := (.var 20)
def k_law_3 : MO := (.some (.cmp .LtE (.bin .Mult (.idx (.idx (.var 10) (.var 20)) (.int 0)) (.idx (.idx (.var 10) (.bin .Sub (.var 20) (.int 1))) (.int 1))) (.bin .Mult (.idx (.idx (.var 10) (.bin .Sub (.var 20) (.int 1))) (.int 0)) (.idx (.idx (.var 10) (.var 20)) (.int 1)))))
def s_law_0_6 : MS := (.ifS (.cmp .NotEq (.lc false [20] e_law_3 (.name 20) (.rng 8 (.cons (.int 1) (.cons (.bi .len 5 (.cons (.var 9) .nil)) .nil))) k_law_3) (.lst .nil)) (.cons (.ret (.bl false)) .nil) .nil) -- if [k for k in range(1, len(rows)) if values[k][0] * values[k - 1][1] <= values[k - 1][0] * values[k][1]] != []:
def e_law_4 : ME := (.call 47 (.cons (.var 12) .nil))
def s_law_0_7 : MS := (.asg (.name 11) (.bin .Add (.bin .Add (.bin .Add (.lst (.cons (.tup (.cons (.str "endless") (.cons (.int 1) .nil))) .nil)) (.lc false [12] e_law_4 (.name 12) (.seq (.slR (.var 9) .none)) .none)) (.var 9)) (.lst (.cons (.tup (.cons (.str "endless") (.cons (.int 0) .nil))) (.cons (.tup (.cons (.str "none") .nil)) .nil))))) -- every = [('endless', 1)] + [_law_flip(number) for number in rows[::-1]] + rows + [('endless', 0), ('none',)]
def s_law_0_8 : MS := (.ifS (.or (.not (.call 43 (.cons (.call 31 (.cons (.var 4) .nil)) (.cons (.bi .tuple 10 (.cons (.var 9) .nil)) .nil)))) (.or (.not (.call 43 (.cons (.call 32 (.cons (.var 4) .nil)) (.cons (.bi .tuple 10 (.cons (.var 11) .nil)) .nil)))) (.one (.not (.call 43 (.cons (.call 38 (.cons (.var 4) .nil)) (.cons (.bin .Mult (.int 2) (.bi .len 5 (.cons (.var 9) .nil))) .nil))))))) (.cons (.ret (.bl false)) .nil) .nil) -- if not _law_same(all_finite(form), tuple(rows)) or not _law_same(all_numbers(form), tuple(every)) or (not _law_same(count_of(form), 2 * len(rows))):
def b_law_5 : MSs := (.cons (.ifS (.or (.not (.call 43 (.cons (.call 24 (.cons (.var 4) (.cons (.var 12) .nil))) (.cons (.bl true) .nil)))) (.or (.not (.call 43 (.cons (.call 33 (.cons (.var 12) .nil)) (.cons (.call 47 (.cons (.var 12) .nil)) .nil)))) (.one (.not (.call 43 (.cons (.call 27 (.cons (.var 12) .nil)) (.cons (.cmp .In (.idx (.var 12) (.int 0)) (.tup (.cons (.str "number") (.cons (.str "nothing") .nil)))) .nil))))))) (.cons (.ret (.bl false)) .nil) .nil) (.cons (.ifS (.not (.call 43 (.cons (.call 34 (.cons (.var 12) .nil)) (.cons (.ifE (.cmp .Eq (.idx (.var 12) (.int 0)) (.str "none")) (.var 12) (.bin .Add (.bin .Add (.sl (.var 12) .none (.some (.int 1))) (.tup (.cons (.int 0) .nil))) (.sl (.var 12) (.some (.int 2)) .none))) .nil)))) (.cons (.ret (.bl false)) .nil) .nil) (.cons (.ifS (.and (.call 27 (.cons (.var 12) .nil)) (.one (.not (.call 43 (.cons (.call 26 (.cons (.var 12) .nil)) (.cons (.call 46 (.cons (.var 12) .nil)) .nil)))))) (.cons (.ret (.bl false)) .nil) .nil) .nil)))
def s_law_0_9 : MS := (.forS (.name 12) (.seq (.var 11)) b_law_5) -- for number in every:
def s_law_0_10 : MS := (.asg (.name 13) (.lst (.cons (.tup (.cons (.str "number") (.cons (.int 0) (.cons (.int 0) (.cons (.var 7) .nil))))) (.cons (.tup (.cons (.str "number") (.cons (.int 0) (.cons (.bin .LShift (.int 1) (.var 6)) (.cons (.var 7) .nil))))) (.cons (.tup (.cons (.str "number") (.cons (.int 0) (.cons (.int 1) (.cons (.var 8) .nil))))) (.cons (.tup (.cons (.str "number") (.cons (.int 2) (.cons (.int 1) (.cons (.var 7) .nil))))) .nil)))))) -- wrong = [('number', 0, 0, least), ('number', 0, 1 << digits, least), ('number', 0, 1, greatest), ('number', 2, 1, least)]
def s_law_0_11 : MS := (.asg (.name 13) (.bin .Add (.var 13) (.lst (.cons (.tup (.cons (.str "nothing") .nil)) (.cons (.tup (.cons (.str "nothing") (.cons (.bl true) .nil))) (.cons (.tup (.cons (.str "endless") (.cons (.int 2) .nil))) (.cons (.tup (.cons (.str "none") (.cons (.int 0) .nil))) (.cons (.tup (.cons (.str "some") (.cons (.int 0) .nil))) (.cons .non (.cons (.tup .nil) (.cons (.int 3) .nil))))))))))) -- wrong = wrong + [('nothing',), ('nothing', True), ('endless', 2), ('none', 0), ('some', 0), None, (), 3]
def b_law_6 : MSs := (.cons (.ifS (.not (.call 43 (.cons (.call 24 (.cons (.var 4) (.cons (.var 2) .nil))) (.cons (.bl false) .nil)))) (.cons (.ret (.bl false)) .nil) .nil) .nil)
def s_law_0_12 : MS := (.forS (.name 2) (.seq (.bin .Add (.var 13) (.lst (.cons (.tup (.cons (.str "number") (.cons (.int 0) (.cons (.int 1) (.cons (.bin .Sub (.var 7) (.int 1)) .nil))))) (.cons (.tup (.cons (.str "number") (.cons (.int 0) (.cons (.bin .Sub (.bin .LShift (.int 1) (.var 6)) (.int 1)) (.cons (.bin .Add (.var 8) (.int 1)) .nil))))) (.cons (.lst (.cons (.str "nothing") (.cons (.int 0) .nil))) (.cons (.tup (.cons (.str "number") (.cons (.int 0) (.cons (.bl true) (.cons (.var 7) .nil))))) .nil))))))) b_law_6) -- for thing in wrong + [('number', 0, 1, least - 1), ('number', 0, (1 << digits) - 1, greatest + 1), ['nothing', 0], ('number', 0, True, least)]:
def s_law_0_13 : MS := (.ifS (.or (.not (.call 43 (.cons (.call 28 (.cons (.var 4) .nil)) (.cons (.idx (.var 9) (.neg (.int 1))) .nil)))) (.or (.not (.call 43 (.cons (.call 29 (.cons (.var 4) .nil)) (.cons (.idx (.var 9) (.int 1)) .nil)))) (.one (.not (.call 43 (.cons (.call 30 (.cons (.var 4) .nil)) (.cons (.idx (.var 9) (.bin .LShift (.int 1) (.bin .Sub (.var 6) (.int 1)))) .nil))))))) (.cons (.ret (.bl false)) .nil) .nil) -- if not _law_same(greatest_of(form), rows[-1]) or not _law_same(least_of(form), rows[1]) or (not _law_same(least_full(form), rows[1 << digits - 1])):
def s_law_8_0 : MS := (.asg (.name 15) (.call 42 (.cons (.var 1) (.cons (.lst (.cons (.call 42 (.cons (.var 1) (.cons (.var 10) .nil))) (.cons (.call 44 (.cons (.bin .Sub (.call 41 (.cons (.var 1) (.cons (.int 40) .nil))) (.int 20)) (.cons (.bin .LShift (.int 1) (.call 41 (.cons (.var 1) (.cons (.int 6) .nil)))) .nil))) (.cons (.call 44 (.cons (.call 41 (.cons (.var 1) (.cons (.int 20) .nil))) (.cons (.int 3) .nil))) .nil)))) .nil)))) -- one = _law_pick(w, [_law_pick(w, values), _law_least(_law_next(w, 40) - 20, 1 << _law_next(w, 6)), _law_least(_law_next(w, 20), 3)])
def s_law_8_1 : MS := (.asg (.name 15) (.ifE (.cmp .Eq (.call 41 (.cons (.var 1) (.cons (.int 2) .nil))) (.int 0)) (.tup (.cons (.bin .Sub (.int 0) (.idx (.var 15) (.int 0))) (.cons (.idx (.var 15) (.int 1)) .nil))) (.var 15))) -- one = (0 - one[0], one[1]) if _law_next(w, 2) == 0 else one
def s_law_8_2 : MS := (.asg (.name 16) (.tup (.cons (.bi .max 7 (.cons (.idx (.var 15) (.int 0)) (.cons (.bin .Sub (.int 0) (.idx (.var 15) (.int 0))) .nil))) (.cons (.idx (.var 15) (.int 1)) .nil)))) -- size = (max(one[0], 0 - one[0]), one[1])
def e_law_9 : ME := (.var 20)
def k_law_9 : MO := (.some (.cmp .Eq (.idx (.var 10) (.var 20)) (.var 16)))
def s_law_8_3 : MS := (.asg (.name 17) (.lc false [20] e_law_9 (.name 20) (.rng 8 (.cons (.bi .len 5 (.cons (.var 9) .nil)) .nil)) k_law_9)) -- there = [k for k in range(len(rows)) if values[k] == size]
def s_law_8_4 : MS := (.ifS (.not (.call 43 (.cons (.call 36 (.cons (.var 4) (.cons (.var 15) .nil))) (.cons (.cmp .NotEq (.var 17) (.lst .nil)) .nil)))) (.cons (.ret (.bl false)) .nil) .nil) -- if not _law_same(is_representable(form, one), there != []):
def s_law_8_5 : MS := (.ifS (.cmp .NotEq (.var 17) (.lst .nil)) (.cons (.asg (.name 12) (.idx (.var 9) (.idx (.var 17) (.int 0)))) (.cons (.ifS (.not (.call 43 (.cons (.call 37 (.cons (.var 4) (.cons (.var 15) .nil))) (.cons (.ifE (.cmp .GtE (.idx (.var 15) (.int 0)) (.int 0)) (.var 12) (.call 47 (.cons (.var 12) .nil))) .nil)))) (.cons (.ret (.bl false)) .nil) .nil) .nil)) .nil) -- if there != []:
def s_law_8_6 : MS := (.par2 18 19 (.call 35 (.cons (.var 4) (.cons (.var 15) .nil))) (.var 7)) -- power, unit = (unit_at(form, one), least)
def b_law_10 : MSs := (.cons (.asg (.name 21) (.call 44 (.cons (.bin .LShift (.int 1) (.bi .max 7 (.cons (.int 0) (.cons (.bin .Add (.var 6) (.var 20)) .nil)))) (.cons (.bin .LShift (.int 1) (.bi .max 7 (.cons (.int 0) (.cons (.bin .Sub (.bin .Sub (.int 0) (.var 6)) (.var 20)) .nil)))) .nil)))) (.cons (.ifS (.cmp .GtE (.bin .Mult (.idx (.var 16) (.int 0)) (.idx (.var 21) (.int 1))) (.bin .Mult (.idx (.var 21) (.int 0)) (.idx (.var 16) (.int 1)))) (.cons (.asg (.name 19) (.bin .Add (.var 20) (.int 1))) .nil) .nil) .nil))
def s_law_8_7 : MS := (.forS (.name 20) (.rng 8 (.cons (.var 7) (.cons (.int 30) .nil))) b_law_10) -- for k in range(least, 30):
def s_law_8_8 : MS := (.ifS (.not (.call 43 (.cons (.var 18) (.cons (.var 19) .nil)))) (.cons (.ret (.bl false)) .nil) .nil) -- if not _law_same(power, unit):
def b_law_7 : MSs := (.cons s_law_8_0 (.cons s_law_8_1 (.cons s_law_8_2 (.cons s_law_8_3 (.cons s_law_8_4 (.cons s_law_8_5 (.cons s_law_8_6 (.cons s_law_8_7 (.cons s_law_8_8 .nil)))))))))
def s_law_0_14 : MS := (.forS (.name 14) (.rng 8 (.cons (.int 12) .nil)) b_law_7) -- for time in range(12):
def e_law_11 : ME := (.call 46 (.cons (.var 12) .nil))
def s_law_0_15 : MS := (.asg (.name 22) (.lc false [12] e_law_11 (.name 12) (.seq (.call 45 (.cons (.var 5) .nil))) .none)) -- more = [_law_val(number) for number in _law_fin(other)]
def e_law_12 : ME := (.var 23)
def k_law_12 : MO := (.some (.cmp .NotIn (.var 23) (.var 22)))
def s_law_0_16 : MS := (.ret (.and (.call 43 (.cons (.call 39 (.cons (.var 4) (.cons (.var 5) .nil))) (.cons (.cmp .Eq (.lc false [23] e_law_12 (.name 23) (.seq (.var 10)) k_law_12) (.lst .nil)) .nil))) (.one (.call 43 (.cons (.call 39 (.cons (.var 4) (.cons (.var 4) .nil))) (.cons (.bl true) .nil)))))) -- return _law_same(is_within(form, other), [own for own in values if own not in more] == []) and _law_same(is_within(form, form), True)
def f_law : Fn := ⟨1, 24, (.cons s_law_0_0 (.cons s_law_0_1 (.cons s_law_0_2 (.cons s_law_0_3 (.cons s_law_0_4 (.cons s_law_0_5 (.cons s_law_0_6 (.cons s_law_0_7 (.cons s_law_0_8 (.cons s_law_0_9 (.cons s_law_0_10 (.cons s_law_0_11 (.cons s_law_0_12 (.cons s_law_0_13 (.cons s_law_0_14 (.cons s_law_0_15 (.cons s_law_0_16 .nil)))))))))))))))))⟩
def T : Tab := [
  (("abs" : Str), TK.blt),
  (("bool" : Str), TK.blt),
  (("dict" : Str), TK.blt),
  (("int" : Str), TK.blt),
  (("isinstance" : Str), TK.blt),
  (("len" : Str), TK.blt),
  (("list" : Str), TK.blt),
  (("max" : Str), TK.blt),
  (("range" : Str), TK.blt),
  (("str" : Str), TK.blt),
  (("tuple" : Str), TK.blt),
  (("NOTHING" : Str), TK.con (.tup [(.int 0), (.int 1)])),
  (("is_number" : Str), TK.fn 1 ["thing"] f_is_number),
  (("is_from" : Str), TK.fn 2 ["thing", "least"] f_is_from),
  (("is_tuple_of" : Str), TK.fn 3 ["thing", "many"] f_is_tuple_of),
  (("bits_of" : Str), TK.fn 4 ["number", "found"] f_bits_of),
  (("common" : Str), TK.fn 7 ["a", "b"] f_common),
  (("fraction" : Str), TK.fn 8 ["upper", "lower", "d"] f_fraction),
  (("times" : Str), TK.fn 9 ["one", "other"] f_times),
  (("is_most" : Str), TK.fn 10 ["one", "other"] f_is_most),
  (("two_to" : Str), TK.fn 11 ["by"] f_two_to),
  (("shifted" : Str), TK.fn 12 ["one", "by"] f_shifted),
  (("exponent_of" : Str), TK.fn 13 ["one", "upper", "lower", "found"] f_exponent_of),
  (("is_format" : Str), TK.fn 15 ["thing"] f_is_format),
  (("is_of" : Str), TK.fn 16 ["form", "thing", "digits", "least", "greatest"] f_is_of),
  (("is_sign" : Str), TK.fn 17 ["thing"] f_is_sign),
  (("value_of" : Str), TK.fn 18 ["number", "own"] f_value_of),
  (("is_finite" : Str), TK.fn 19 ["number"] f_is_finite),
  (("greatest_of" : Str), TK.fn 20 ["form"] f_greatest_of),
  (("least_of" : Str), TK.fn 21 ["form"] f_least_of),
  (("least_full" : Str), TK.fn 22 ["form"] f_least_full),
  (("all_finite" : Str), TK.fn 23 ["form", "digits", "least", "greatest", "found", "power", "own"] f_all_finite),
  (("all_numbers" : Str), TK.fn 24 ["form", "half", "rows", "own"] f_all_numbers),
  (("turned" : Str), TK.fn 25 ["number"] f_turned),
  (("sized" : Str), TK.fn 26 ["number"] f_sized),
  (("unit_at" : Str), TK.fn 27 ["form", "one"] f_unit_at),
  (("is_representable" : Str), TK.fn 28 ["form", "one", "power", "own"] f_is_representable),
  (("number_of" : Str), TK.fn 29 ["form", "one", "power"] f_number_of),
  (("count_of" : Str), TK.fn 30 ["form", "digits", "least", "greatest"] f_count_of),
  (("is_within" : Str), TK.fn 31 ["form", "other", "top"] f_is_within),
  (("_law_draws" : Str), TK.fn 33 ["script", "many", "draws", "mixed", "k", "cell", "rest", "turn"] f__law_draws),
  (("_law_next" : Str), TK.fn 34 ["w", "many"] f__law_next),
  (("_law_pick" : Str), TK.fn 35 ["w", "rows"] f__law_pick),
  (("_law_same" : Str), TK.fn 36 ["seen", "due", "waiting", "one", "other", "keys", "key", "k"] f__law_same),
  (("_law_least" : Str), TK.fn 37 ["a", "b", "one", "other"] f__law_least),
  (("_law_fin" : Str), TK.fn 38 ["form", "digits", "first", "last", "rows", "power", "own"] f__law_fin),
  (("_law_val" : Str), TK.fn 39 ["number", "sign"] f__law_val),
  (("_law_flip" : Str), TK.fn 40 ["number"] f__law_flip),
  (("_law_form" : Str), TK.fn 41 ["w", "digits", "low"] f__law_form),
  (("law" : Str), TK.fn 42 ["script", "w", "thing", "due", "form", "other", "digits", "least", "greatest", "rows", "values", "every", "number", "wrong", "time", "one", "size", "there", "power", "unit", "k", "top", "more", "own"] f_law)]
abbrev G : GT := gtOf T
abbrev i_NOTHING : Nat := 11
theorem c_NOTHING : conOf G 11 = some (.tup [(.int 0), (.int 1)]) := rfl
abbrev i_is_number : Nat := 12
theorem g_is_number : G[i_is_number]? = some (("is_number" : Str), GK.fn f_is_number) := rfl
abbrev i_is_from : Nat := 13
theorem g_is_from : G[i_is_from]? = some (("is_from" : Str), GK.fn f_is_from) := rfl
abbrev i_is_tuple_of : Nat := 14
theorem g_is_tuple_of : G[i_is_tuple_of]? = some (("is_tuple_of" : Str), GK.fn f_is_tuple_of) := rfl
abbrev i_bits_of : Nat := 15
theorem g_bits_of : G[i_bits_of]? = some (("bits_of" : Str), GK.fn f_bits_of) := rfl
abbrev i_common : Nat := 16
theorem g_common : G[i_common]? = some (("common" : Str), GK.fn f_common) := rfl
abbrev i_fraction : Nat := 17
theorem g_fraction : G[i_fraction]? = some (("fraction" : Str), GK.fn f_fraction) := rfl
abbrev i_times : Nat := 18
theorem g_times : G[i_times]? = some (("times" : Str), GK.fn f_times) := rfl
abbrev i_is_most : Nat := 19
theorem g_is_most : G[i_is_most]? = some (("is_most" : Str), GK.fn f_is_most) := rfl
abbrev i_two_to : Nat := 20
theorem g_two_to : G[i_two_to]? = some (("two_to" : Str), GK.fn f_two_to) := rfl
abbrev i_shifted : Nat := 21
theorem g_shifted : G[i_shifted]? = some (("shifted" : Str), GK.fn f_shifted) := rfl
abbrev i_exponent_of : Nat := 22
theorem g_exponent_of : G[i_exponent_of]? = some (("exponent_of" : Str), GK.fn f_exponent_of) := rfl
abbrev i_is_format : Nat := 23
theorem g_is_format : G[i_is_format]? = some (("is_format" : Str), GK.fn f_is_format) := rfl
abbrev i_is_of : Nat := 24
theorem g_is_of : G[i_is_of]? = some (("is_of" : Str), GK.fn f_is_of) := rfl
abbrev i_is_sign : Nat := 25
theorem g_is_sign : G[i_is_sign]? = some (("is_sign" : Str), GK.fn f_is_sign) := rfl
abbrev i_value_of : Nat := 26
theorem g_value_of : G[i_value_of]? = some (("value_of" : Str), GK.fn f_value_of) := rfl
abbrev i_is_finite : Nat := 27
theorem g_is_finite : G[i_is_finite]? = some (("is_finite" : Str), GK.fn f_is_finite) := rfl
abbrev i_greatest_of : Nat := 28
theorem g_greatest_of : G[i_greatest_of]? = some (("greatest_of" : Str), GK.fn f_greatest_of) := rfl
abbrev i_least_of : Nat := 29
theorem g_least_of : G[i_least_of]? = some (("least_of" : Str), GK.fn f_least_of) := rfl
abbrev i_least_full : Nat := 30
theorem g_least_full : G[i_least_full]? = some (("least_full" : Str), GK.fn f_least_full) := rfl
abbrev i_all_finite : Nat := 31
theorem g_all_finite : G[i_all_finite]? = some (("all_finite" : Str), GK.fn f_all_finite) := rfl
abbrev i_all_numbers : Nat := 32
theorem g_all_numbers : G[i_all_numbers]? = some (("all_numbers" : Str), GK.fn f_all_numbers) := rfl
abbrev i_turned : Nat := 33
theorem g_turned : G[i_turned]? = some (("turned" : Str), GK.fn f_turned) := rfl
abbrev i_sized : Nat := 34
theorem g_sized : G[i_sized]? = some (("sized" : Str), GK.fn f_sized) := rfl
abbrev i_unit_at : Nat := 35
theorem g_unit_at : G[i_unit_at]? = some (("unit_at" : Str), GK.fn f_unit_at) := rfl
abbrev i_is_representable : Nat := 36
theorem g_is_representable : G[i_is_representable]? = some (("is_representable" : Str), GK.fn f_is_representable) := rfl
abbrev i_number_of : Nat := 37
theorem g_number_of : G[i_number_of]? = some (("number_of" : Str), GK.fn f_number_of) := rfl
abbrev i_count_of : Nat := 38
theorem g_count_of : G[i_count_of]? = some (("count_of" : Str), GK.fn f_count_of) := rfl
abbrev i_is_within : Nat := 39
theorem g_is_within : G[i_is_within]? = some (("is_within" : Str), GK.fn f_is_within) := rfl
abbrev i__law_draws : Nat := 40
theorem g__law_draws : G[i__law_draws]? = some (("_law_draws" : Str), GK.fn f__law_draws) := rfl
abbrev i__law_next : Nat := 41
theorem g__law_next : G[i__law_next]? = some (("_law_next" : Str), GK.fn f__law_next) := rfl
abbrev i__law_pick : Nat := 42
theorem g__law_pick : G[i__law_pick]? = some (("_law_pick" : Str), GK.fn f__law_pick) := rfl
abbrev i__law_same : Nat := 43
theorem g__law_same : G[i__law_same]? = some (("_law_same" : Str), GK.fn f__law_same) := rfl
abbrev i__law_least : Nat := 44
theorem g__law_least : G[i__law_least]? = some (("_law_least" : Str), GK.fn f__law_least) := rfl
abbrev i__law_fin : Nat := 45
theorem g__law_fin : G[i__law_fin]? = some (("_law_fin" : Str), GK.fn f__law_fin) := rfl
abbrev i__law_val : Nat := 46
theorem g__law_val : G[i__law_val]? = some (("_law_val" : Str), GK.fn f__law_val) := rfl
abbrev i__law_flip : Nat := 47
theorem g__law_flip : G[i__law_flip]? = some (("_law_flip" : Str), GK.fn f__law_flip) := rfl
abbrev i__law_form : Nat := 48
theorem g__law_form : G[i__law_form]? = some (("_law_form" : Str), GK.fn f__law_form) := rfl
abbrev i_law : Nat := 49
theorem g_law : G[i_law]? = some (("law" : Str), GK.fn f_law) := rfl
end Rw.Pk01

set_option exponentiation.threshold 300
namespace Rw.Pk01
open PySem L2 Rw
section
variable {k : Nat} {S : Sto} {p q : Rat} {n : Nat}
theorem common_loop {cl : Nat → List D → Sto → Rs D} : ∀ n m : Nat, whE (evT G cl c_common_0) (evSs G cl b_common_0) [some (.int m), some (.int n)] S = some (.nx [some (.int (Nat.gcd m n : Nat)), some (.int 0)], S) := by
  intro n
  induction n using Nat.strongRecOn with
  | ind n ih =>
    intro m
    by_cases e : n = 0
    · subst e
      refine (whE_end (S1 := S) ?_).trans ?_
      · simp only [E1, E2, E3, E4, E5, E6, E7, E8, E9, List.map_cons, List.map_nil, List.cons_append, List.nil_append, List.append_nil, List.length_cons, List.length_nil, List.replicate_zero, List.replicate_succ, Nat.sub_self, Nat.zero_add, List.getElem?_cons_zero, List.getElem?_cons_succ, List.set_cons_zero, List.set_cons_succ, if_true, if_false, Bool.false_eq_true, decide_true, decide_false, Bool.not_true, Bool.not_false, decide_eq_true_eq, eq_self, Int.cast_ofNat_Int, Int.natCast_zero, Int.natCast_one, Nat.reduceLeDiff, Nat.reduceSub, Nat.reduceAdd, Nat.reduceLT, reduceIte, reduceCtorEq, Int.reduceEq, Int.reduceLT, Int.reduceLE, Int.reduceNeg, Int.reduceAdd, Int.reduceSub, Int.reduceMul, Int.reduceNe, Int.reduceBNe, Int.reduceBEq, c_common_0]
      · rw [Nat.gcd_zero_right]
        rfl
    · refine whE_turn (S1 := S) (ρ2 := [some (.int n), some (.int ((m % n : Nat) : Int))]) (S2 := S) ?_ ?_ ((ih (m % n) (Nat.mod_lt _ (by omega)) n).trans ?_)
      · have : (0 : Int) < (n : Int) := by omega
        simp only [E1, E2, E3, E4, E5, E6, E7, E8, E9, List.map_cons, List.map_nil, List.cons_append, List.nil_append, List.append_nil, List.length_cons, List.length_nil, List.replicate_zero, List.replicate_succ, Nat.sub_self, Nat.zero_add, List.getElem?_cons_zero, List.getElem?_cons_succ, List.set_cons_zero, List.set_cons_succ, if_true, if_false, Bool.false_eq_true, decide_true, decide_false, Bool.not_true, Bool.not_false, decide_eq_true_eq, eq_self, Int.cast_ofNat_Int, Int.natCast_zero, Int.natCast_one, Nat.reduceLeDiff, Nat.reduceSub, Nat.reduceAdd, Nat.reduceLT, reduceIte, reduceCtorEq, Int.reduceEq, Int.reduceLT, Int.reduceLE, Int.reduceNeg, Int.reduceAdd, Int.reduceSub, Int.reduceMul, Int.reduceNe, Int.reduceBNe, Int.reduceBEq, c_common_0, this]
      · have : (n : Int) ≠ 0 := by omega
        simp only [E1, E2, E3, E4, E5, E6, E7, E8, E9, List.map_cons, List.map_nil, List.cons_append, List.nil_append, List.append_nil, List.length_cons, List.length_nil, List.replicate_zero, List.replicate_succ, Nat.sub_self, Nat.zero_add, List.getElem?_cons_zero, List.getElem?_cons_succ, List.set_cons_zero, List.set_cons_succ, if_true, if_false, Bool.false_eq_true, decide_true, decide_false, Bool.not_true, Bool.not_false, decide_eq_true_eq, eq_self, Int.cast_ofNat_Int, Int.natCast_zero, Int.natCast_one, Nat.reduceLeDiff, Nat.reduceSub, Nat.reduceAdd, Nat.reduceLT, reduceIte, reduceCtorEq, Int.reduceEq, Int.reduceLT, Int.reduceLE, Int.reduceNeg, Int.reduceAdd, Int.reduceSub, Int.reduceMul, Int.reduceNe, Int.reduceBNe, Int.reduceBEq, b_common_0, this, fmod_nat, ne_eq, not_false_eq_true]
      · rw [Nat.gcd_comm m n, Nat.gcd_rec n m, Nat.gcd_comm]
theorem common_ok {a b : Int} : callK G (k + 1) i_common [.int a, .int b] S = some (.int (Int.gcd a b : Int), S) := by
  rw [call_fn g_common rfl]
  simp only [E1, E2, E3, E4, E5, E6, E7, E8, E9, List.map_cons, List.map_nil, List.cons_append, List.nil_append, List.append_nil, List.length_cons, List.length_nil, List.replicate_zero, List.replicate_succ, Nat.sub_self, Nat.zero_add, List.getElem?_cons_zero, List.getElem?_cons_succ, List.set_cons_zero, List.set_cons_succ, if_true, if_false, Bool.false_eq_true, decide_true, decide_false, Bool.not_true, Bool.not_false, decide_eq_true_eq, eq_self, Int.cast_ofNat_Int, Int.natCast_zero, Int.natCast_one, Nat.reduceLeDiff, Nat.reduceSub, Nat.reduceAdd, Nat.reduceLT, reduceIte, reduceCtorEq, Int.reduceEq, Int.reduceLT, Int.reduceLE, Int.reduceNeg, Int.reduceAdd, Int.reduceSub, Int.reduceMul, Int.reduceNe, Int.reduceBNe, Int.reduceBEq, f_common, abs_nat, common_loop]
  rfl
theorem fraction_ok {u l : Int} (h : l ≠ 0) (b : Bd 8999 l) : callK G (k + 2) i_fraction [.int u, .int l] S = some (fr (Rat.divInt u l), S) := by
  have hd : divOk (if 0 < l then (Int.gcd u l : Int) else -(Int.gcd u l : Int)) := by
    split
    · exact (gcd_bd h b).divOk (gcd_ne h) (by omega)
    · exact (gcd_bd h b).neg.divOk (by have := gcd_ne (u := u) h; omega) (by omega)
  rw [call_fn g_fraction rfl, fr_div h]
  by_cases c : 0 < l
  · simp only [c, if_true] at hd ⊢
    simp only [E1, E2, E3, E4, E5, E6, E7, E8, E9, List.map_cons, List.map_nil, List.cons_append, List.nil_append, List.append_nil, List.length_cons, List.length_nil, List.replicate_zero, List.replicate_succ, Nat.sub_self, Nat.zero_add, List.getElem?_cons_zero, List.getElem?_cons_succ, List.set_cons_zero, List.set_cons_succ, if_true, if_false, Bool.false_eq_true, decide_true, decide_false, Bool.not_true, Bool.not_false, decide_eq_true_eq, eq_self, Int.cast_ofNat_Int, Int.natCast_zero, Int.natCast_one, Nat.reduceLeDiff, Nat.reduceSub, Nat.reduceAdd, Nat.reduceLT, reduceIte, reduceCtorEq, Int.reduceEq, Int.reduceLT, Int.reduceLE, Int.reduceNeg, Int.reduceAdd, Int.reduceSub, Int.reduceMul, Int.reduceNe, Int.reduceBNe, Int.reduceBEq, f_fraction, c, common_ok, hd]
  · simp only [c, if_false] at hd ⊢
    simp only [E1, E2, E3, E4, E5, E6, E7, E8, E9, List.map_cons, List.map_nil, List.cons_append, List.nil_append, List.append_nil, List.length_cons, List.length_nil, List.replicate_zero, List.replicate_succ, Nat.sub_self, Nat.zero_add, List.getElem?_cons_zero, List.getElem?_cons_succ, List.set_cons_zero, List.set_cons_succ, if_true, if_false, Bool.false_eq_true, decide_true, decide_false, Bool.not_true, Bool.not_false, decide_eq_true_eq, eq_self, Int.cast_ofNat_Int, Int.natCast_zero, Int.natCast_one, Nat.reduceLeDiff, Nat.reduceSub, Nat.reduceAdd, Nat.reduceLT, reduceIte, reduceCtorEq, Int.reduceEq, Int.reduceLT, Int.reduceLE, Int.reduceNeg, Int.reduceAdd, Int.reduceSub, Int.reduceMul, Int.reduceNe, Int.reduceBNe, Int.reduceBEq, f_fraction, c, common_ok, hd]
theorem is_number_int {a : Int} : callK G (k + 1) i_is_number [.int a] S = some (.bl true, S) := by
  rw [call_fn g_is_number rfl]
  simp only [E1, E2, E3, E4, E5, E6, E7, E8, E9, List.map_cons, List.map_nil, List.cons_append, List.nil_append, List.append_nil, List.length_cons, List.length_nil, List.replicate_zero, List.replicate_succ, Nat.sub_self, Nat.zero_add, List.getElem?_cons_zero, List.getElem?_cons_succ, List.set_cons_zero, List.set_cons_succ, if_true, if_false, Bool.false_eq_true, decide_true, decide_false, Bool.not_true, Bool.not_false, decide_eq_true_eq, eq_self, Int.cast_ofNat_Int, Int.natCast_zero, Int.natCast_one, Nat.reduceLeDiff, Nat.reduceSub, Nat.reduceAdd, Nat.reduceLT, reduceIte, reduceCtorEq, Int.reduceEq, Int.reduceLT, Int.reduceLE, Int.reduceNeg, Int.reduceAdd, Int.reduceSub, Int.reduceMul, Int.reduceNe, Int.reduceBNe, Int.reduceBEq, f_is_number]
theorem is_number_bl {a : Bool} : callK G (k + 1) i_is_number [.bl a] S = some (.bl false, S) := by
  rw [call_fn g_is_number rfl]
  simp only [E1, E2, E3, E4, E5, E6, E7, E8, E9, List.map_cons, List.map_nil, List.cons_append, List.nil_append, List.append_nil, List.length_cons, List.length_nil, List.replicate_zero, List.replicate_succ, Nat.sub_self, Nat.zero_add, List.getElem?_cons_zero, List.getElem?_cons_succ, List.set_cons_zero, List.set_cons_succ, if_true, if_false, Bool.false_eq_true, decide_true, decide_false, Bool.not_true, Bool.not_false, decide_eq_true_eq, eq_self, Int.cast_ofNat_Int, Int.natCast_zero, Int.natCast_one, Nat.reduceLeDiff, Nat.reduceSub, Nat.reduceAdd, Nat.reduceLT, reduceIte, reduceCtorEq, Int.reduceEq, Int.reduceLT, Int.reduceLE, Int.reduceNeg, Int.reduceAdd, Int.reduceSub, Int.reduceMul, Int.reduceNe, Int.reduceBNe, Int.reduceBEq, f_is_number]
theorem is_number_non : callK G (k + 1) i_is_number [.non] S = some (.bl false, S) := by
  rw [call_fn g_is_number rfl]
  simp only [E1, E2, E3, E4, E5, E6, E7, E8, E9, List.map_cons, List.map_nil, List.cons_append, List.nil_append, List.append_nil, List.length_cons, List.length_nil, List.replicate_zero, List.replicate_succ, Nat.sub_self, Nat.zero_add, List.getElem?_cons_zero, List.getElem?_cons_succ, List.set_cons_zero, List.set_cons_succ, if_true, if_false, Bool.false_eq_true, decide_true, decide_false, Bool.not_true, Bool.not_false, decide_eq_true_eq, eq_self, Int.cast_ofNat_Int, Int.natCast_zero, Int.natCast_one, Nat.reduceLeDiff, Nat.reduceSub, Nat.reduceAdd, Nat.reduceLT, reduceIte, reduceCtorEq, Int.reduceEq, Int.reduceLT, Int.reduceLE, Int.reduceNeg, Int.reduceAdd, Int.reduceSub, Int.reduceMul, Int.reduceNe, Int.reduceBNe, Int.reduceBEq, f_is_number]
theorem is_number_str {a : Str} : callK G (k + 1) i_is_number [.str a] S = some (.bl false, S) := by
  rw [call_fn g_is_number rfl]
  simp only [E1, E2, E3, E4, E5, E6, E7, E8, E9, List.map_cons, List.map_nil, List.cons_append, List.nil_append, List.append_nil, List.length_cons, List.length_nil, List.replicate_zero, List.replicate_succ, Nat.sub_self, Nat.zero_add, List.getElem?_cons_zero, List.getElem?_cons_succ, List.set_cons_zero, List.set_cons_succ, if_true, if_false, Bool.false_eq_true, decide_true, decide_false, Bool.not_true, Bool.not_false, decide_eq_true_eq, eq_self, Int.cast_ofNat_Int, Int.natCast_zero, Int.natCast_one, Nat.reduceLeDiff, Nat.reduceSub, Nat.reduceAdd, Nat.reduceLT, reduceIte, reduceCtorEq, Int.reduceEq, Int.reduceLT, Int.reduceLE, Int.reduceNeg, Int.reduceAdd, Int.reduceSub, Int.reduceMul, Int.reduceNe, Int.reduceBNe, Int.reduceBEq, f_is_number]
theorem is_number_tup {a : List D} : callK G (k + 1) i_is_number [.tup a] S = some (.bl false, S) := by
  rw [call_fn g_is_number rfl]
  simp only [E1, E2, E3, E4, E5, E6, E7, E8, E9, List.map_cons, List.map_nil, List.cons_append, List.nil_append, List.append_nil, List.length_cons, List.length_nil, List.replicate_zero, List.replicate_succ, Nat.sub_self, Nat.zero_add, List.getElem?_cons_zero, List.getElem?_cons_succ, List.set_cons_zero, List.set_cons_succ, if_true, if_false, Bool.false_eq_true, decide_true, decide_false, Bool.not_true, Bool.not_false, decide_eq_true_eq, eq_self, Int.cast_ofNat_Int, Int.natCast_zero, Int.natCast_one, Nat.reduceLeDiff, Nat.reduceSub, Nat.reduceAdd, Nat.reduceLT, reduceIte, reduceCtorEq, Int.reduceEq, Int.reduceLT, Int.reduceLE, Int.reduceNeg, Int.reduceAdd, Int.reduceSub, Int.reduceMul, Int.reduceNe, Int.reduceBNe, Int.reduceBEq, f_is_number]
theorem is_number_lst {a : List D} : callK G (k + 1) i_is_number [.lst a] S = some (.bl false, S) := by
  rw [call_fn g_is_number rfl]
  simp only [E1, E2, E3, E4, E5, E6, E7, E8, E9, List.map_cons, List.map_nil, List.cons_append, List.nil_append, List.append_nil, List.length_cons, List.length_nil, List.replicate_zero, List.replicate_succ, Nat.sub_self, Nat.zero_add, List.getElem?_cons_zero, List.getElem?_cons_succ, List.set_cons_zero, List.set_cons_succ, if_true, if_false, Bool.false_eq_true, decide_true, decide_false, Bool.not_true, Bool.not_false, decide_eq_true_eq, eq_self, Int.cast_ofNat_Int, Int.natCast_zero, Int.natCast_one, Nat.reduceLeDiff, Nat.reduceSub, Nat.reduceAdd, Nat.reduceLT, reduceIte, reduceCtorEq, Int.reduceEq, Int.reduceLT, Int.reduceLE, Int.reduceNeg, Int.reduceAdd, Int.reduceSub, Int.reduceMul, Int.reduceNe, Int.reduceBNe, Int.reduceBEq, f_is_number]
theorem is_from_int {a b : Int} : callK G (k + 2) i_is_from [.int a, .int b] S = some (.bl (decide (b ≤ a)), S) := by
  rw [call_fn g_is_from rfl]
  simp only [E1, E2, E3, E4, E5, E6, E7, E8, E9, List.map_cons, List.map_nil, List.cons_append, List.nil_append, List.append_nil, List.length_cons, List.length_nil, List.replicate_zero, List.replicate_succ, Nat.sub_self, Nat.zero_add, List.getElem?_cons_zero, List.getElem?_cons_succ, List.set_cons_zero, List.set_cons_succ, if_true, if_false, Bool.false_eq_true, decide_true, decide_false, Bool.not_true, Bool.not_false, decide_eq_true_eq, eq_self, Int.cast_ofNat_Int, Int.natCast_zero, Int.natCast_one, Nat.reduceLeDiff, Nat.reduceSub, Nat.reduceAdd, Nat.reduceLT, reduceIte, reduceCtorEq, Int.reduceEq, Int.reduceLT, Int.reduceLE, Int.reduceNeg, Int.reduceAdd, Int.reduceSub, Int.reduceMul, Int.reduceNe, Int.reduceBNe, Int.reduceBEq, f_is_from, is_number_int]
theorem is_tuple_of_tup {a : List D} {m : Int} : callK G (k + 1) i_is_tuple_of [.tup a, .int m] S = some (.bl (decide ((a.length : Int) = m)), S) := by
  rw [call_fn g_is_tuple_of rfl]
  simp only [E1, E2, E3, E4, E5, E6, E7, E8, E9, List.map_cons, List.map_nil, List.cons_append, List.nil_append, List.append_nil, List.length_cons, List.length_nil, List.replicate_zero, List.replicate_succ, Nat.sub_self, Nat.zero_add, List.getElem?_cons_zero, List.getElem?_cons_succ, List.set_cons_zero, List.set_cons_succ, if_true, if_false, Bool.false_eq_true, decide_true, decide_false, Bool.not_true, Bool.not_false, decide_eq_true_eq, eq_self, Int.cast_ofNat_Int, Int.natCast_zero, Int.natCast_one, Nat.reduceLeDiff, Nat.reduceSub, Nat.reduceAdd, Nat.reduceLT, reduceIte, reduceCtorEq, Int.reduceEq, Int.reduceLT, Int.reduceLE, Int.reduceNeg, Int.reduceAdd, Int.reduceSub, Int.reduceMul, Int.reduceNe, Int.reduceBNe, Int.reduceBEq, f_is_tuple_of]
theorem is_tuple_of_lst {a : List D} {m : Int} : callK G (k + 1) i_is_tuple_of [.lst a, .int m] S = some (.bl false, S) := by
  rw [call_fn g_is_tuple_of rfl]
  simp only [E1, E2, E3, E4, E5, E6, E7, E8, E9, List.map_cons, List.map_nil, List.cons_append, List.nil_append, List.append_nil, List.length_cons, List.length_nil, List.replicate_zero, List.replicate_succ, Nat.sub_self, Nat.zero_add, List.getElem?_cons_zero, List.getElem?_cons_succ, List.set_cons_zero, List.set_cons_succ, if_true, if_false, Bool.false_eq_true, decide_true, decide_false, Bool.not_true, Bool.not_false, decide_eq_true_eq, eq_self, Int.cast_ofNat_Int, Int.natCast_zero, Int.natCast_one, Nat.reduceLeDiff, Nat.reduceSub, Nat.reduceAdd, Nat.reduceLT, reduceIte, reduceCtorEq, Int.reduceEq, Int.reduceLT, Int.reduceLE, Int.reduceNeg, Int.reduceAdd, Int.reduceSub, Int.reduceMul, Int.reduceNe, Int.reduceBNe, Int.reduceBEq, f_is_tuple_of]
theorem is_tuple_of_non {m : Int} : callK G (k + 1) i_is_tuple_of [.non, .int m] S = some (.bl false, S) := by
  rw [call_fn g_is_tuple_of rfl]
  simp only [E1, E2, E3, E4, E5, E6, E7, E8, E9, List.map_cons, List.map_nil, List.cons_append, List.nil_append, List.append_nil, List.length_cons, List.length_nil, List.replicate_zero, List.replicate_succ, Nat.sub_self, Nat.zero_add, List.getElem?_cons_zero, List.getElem?_cons_succ, List.set_cons_zero, List.set_cons_succ, if_true, if_false, Bool.false_eq_true, decide_true, decide_false, Bool.not_true, Bool.not_false, decide_eq_true_eq, eq_self, Int.cast_ofNat_Int, Int.natCast_zero, Int.natCast_one, Nat.reduceLeDiff, Nat.reduceSub, Nat.reduceAdd, Nat.reduceLT, reduceIte, reduceCtorEq, Int.reduceEq, Int.reduceLT, Int.reduceLE, Int.reduceNeg, Int.reduceAdd, Int.reduceSub, Int.reduceMul, Int.reduceNe, Int.reduceBNe, Int.reduceBEq, f_is_tuple_of]
theorem times_ok (h : Sm 4000 p) (g : Sm 4000 q) : callK G (k + 3) i_times [fr p, fr q] S = some (fr (p * q), S) := by
  rw [call_fn g_times rfl, mul_eq]
  have h1 := h.nm.mulOk g.nm (by decide)
  have h3 := h.dn.mulOk g.dn (by decide)
  have hf := fun u => fraction_ok (k := k) (S := S) (u := u) (Int.mul_ne_zero (den_ne (q := p)) (den_ne (q := q))) ((h.dn.mul g.dn).mono (by decide))
  simp only [E1, E2, E3, E4, E5, E6, E7, E8, E9, List.map_cons, List.map_nil, List.cons_append, List.nil_append, List.append_nil, List.length_cons, List.length_nil, List.replicate_zero, List.replicate_succ, Nat.sub_self, Nat.zero_add, List.getElem?_cons_zero, List.getElem?_cons_succ, List.set_cons_zero, List.set_cons_succ, if_true, if_false, Bool.false_eq_true, decide_true, decide_false, Bool.not_true, Bool.not_false, decide_eq_true_eq, eq_self, Int.cast_ofNat_Int, Int.natCast_zero, Int.natCast_one, Nat.reduceLeDiff, Nat.reduceSub, Nat.reduceAdd, Nat.reduceLT, reduceIte, reduceCtorEq, Int.reduceEq, Int.reduceLT, Int.reduceLE, Int.reduceNeg, Int.reduceAdd, Int.reduceSub, Int.reduceMul, Int.reduceNe, Int.reduceBNe, Int.reduceBEq, f_times, fr, h1, h3, hf]
theorem is_most_ok (h : Sm 4000 p) (g : Sm 4000 q) : callK G (k + 1) i_is_most [fr p, fr q] S = some (.bl (decide (p ≤ q)), S) := by
  rw [call_fn g_is_most rfl, ← le_eq]
  have h1 := h.nm.mulOk g.dn (by decide)
  have h2 := g.nm.mulOk h.dn (by decide)
  simp only [E1, E2, E3, E4, E5, E6, E7, E8, E9, List.map_cons, List.map_nil, List.cons_append, List.nil_append, List.append_nil, List.length_cons, List.length_nil, List.replicate_zero, List.replicate_succ, Nat.sub_self, Nat.zero_add, List.getElem?_cons_zero, List.getElem?_cons_succ, List.set_cons_zero, List.set_cons_succ, if_true, if_false, Bool.false_eq_true, decide_true, decide_false, Bool.not_true, Bool.not_false, decide_eq_true_eq, eq_self, Int.cast_ofNat_Int, Int.natCast_zero, Int.natCast_one, Nat.reduceLeDiff, Nat.reduceSub, Nat.reduceAdd, Nat.reduceLT, reduceIte, reduceCtorEq, Int.reduceEq, Int.reduceLT, Int.reduceLE, Int.reduceNeg, Int.reduceAdd, Int.reduceSub, Int.reduceMul, Int.reduceNe, Int.reduceBNe, Int.reduceBEq, f_is_most, fr, h1, h2]
theorem two_to_ok {b : Int} (h : b.natAbs ≤ 10000) : callK G (k + 1) i_two_to [.int b] S = some (fr ((2 : Rat) ^ b), S) := by
  rw [call_fn g_two_to rfl, fr_two]
  by_cases c : 0 ≤ b
  · have := shl_one (b := b) c (by omega)
    simp only [E1, E2, E3, E4, E5, E6, E7, E8, E9, List.map_cons, List.map_nil, List.cons_append, List.nil_append, List.append_nil, List.length_cons, List.length_nil, List.replicate_zero, List.replicate_succ, Nat.sub_self, Nat.zero_add, List.getElem?_cons_zero, List.getElem?_cons_succ, List.set_cons_zero, List.set_cons_succ, if_true, if_false, Bool.false_eq_true, decide_true, decide_false, Bool.not_true, Bool.not_false, decide_eq_true_eq, eq_self, Int.cast_ofNat_Int, Int.natCast_zero, Int.natCast_one, Nat.reduceLeDiff, Nat.reduceSub, Nat.reduceAdd, Nat.reduceLT, reduceIte, reduceCtorEq, Int.reduceEq, Int.reduceLT, Int.reduceLE, Int.reduceNeg, Int.reduceAdd, Int.reduceSub, Int.reduceMul, Int.reduceNe, Int.reduceBNe, Int.reduceBEq, f_two_to, c, this, Int.one_mul]
  · have := shl_one (b := -b) (by omega) (by omega)
    simp only [E1, E2, E3, E4, E5, E6, E7, E8, E9, List.map_cons, List.map_nil, List.cons_append, List.nil_append, List.append_nil, List.length_cons, List.length_nil, List.replicate_zero, List.replicate_succ, Nat.sub_self, Nat.zero_add, List.getElem?_cons_zero, List.getElem?_cons_succ, List.set_cons_zero, List.set_cons_succ, if_true, if_false, Bool.false_eq_true, decide_true, decide_false, Bool.not_true, Bool.not_false, decide_eq_true_eq, eq_self, Int.cast_ofNat_Int, Int.natCast_zero, Int.natCast_one, Nat.reduceLeDiff, Nat.reduceSub, Nat.reduceAdd, Nat.reduceLT, reduceIte, reduceCtorEq, Int.reduceEq, Int.reduceLT, Int.reduceLE, Int.reduceNeg, Int.reduceAdd, Int.reduceSub, Int.reduceMul, Int.reduceNe, Int.reduceBNe, Int.reduceBEq, f_two_to, c, this, Int.one_mul]
theorem shifted_ok {b : Int} (h : Sm 4000 p) (g : b.natAbs ≤ 3999) : callK G (k + 4) i_shifted [fr p, .int b] S = some (fr (p * (2 : Rat) ^ b), S) := by
  rw [call_fn g_shifted rfl]
  simp only [E1, E2, E3, E4, E5, E6, E7, E8, E9, List.map_cons, List.map_nil, List.cons_append, List.nil_append, List.append_nil, List.length_cons, List.length_nil, List.replicate_zero, List.replicate_succ, Nat.sub_self, Nat.zero_add, List.getElem?_cons_zero, List.getElem?_cons_succ, List.set_cons_zero, List.set_cons_succ, if_true, if_false, Bool.false_eq_true, decide_true, decide_false, Bool.not_true, Bool.not_false, decide_eq_true_eq, eq_self, Int.cast_ofNat_Int, Int.natCast_zero, Int.natCast_one, Nat.reduceLeDiff, Nat.reduceSub, Nat.reduceAdd, Nat.reduceLT, reduceIte, reduceCtorEq, Int.reduceEq, Int.reduceLT, Int.reduceLE, Int.reduceNeg, Int.reduceAdd, Int.reduceSub, Int.reduceMul, Int.reduceNe, Int.reduceBNe, Int.reduceBEq, f_shifted, two_to_ok (b := b) (by omega), times_ok h (sm_two g)]
theorem bits_loop {cl : Nat → List D → Sto → Rs D} {m : Nat} (d : Nat) : ∀ i : Nat, i + d = bln m → whE (evT G cl c_bits_of_0) (evSs G cl b_bits_of_0) [some (.int m), some (.int i)] S = some (.nx [some (.int m), some (.int (bln m : Nat))], S) := by
  induction d with
  | zero =>
    intro i e
    refine (whE_end (S1 := S) ?_).trans ?_
    · have h0 : (0 : Int) ≤ (i : Int) := by omega
      have h1 : ¬ (0 : Int) < ((m : Int) / 2 ^ (i : Int).toNat) := by
        rw [bln_shr]
        omega
      simp only [E1, E2, E3, E4, E5, E6, E7, E8, E9, List.map_cons, List.map_nil, List.cons_append, List.nil_append, List.append_nil, List.length_cons, List.length_nil, List.replicate_zero, List.replicate_succ, Nat.sub_self, Nat.zero_add, List.getElem?_cons_zero, List.getElem?_cons_succ, List.set_cons_zero, List.set_cons_succ, if_true, if_false, Bool.false_eq_true, decide_true, decide_false, Bool.not_true, Bool.not_false, decide_eq_true_eq, eq_self, Int.cast_ofNat_Int, Int.natCast_zero, Int.natCast_one, Nat.reduceLeDiff, Nat.reduceSub, Nat.reduceAdd, Nat.reduceLT, reduceIte, reduceCtorEq, Int.reduceEq, Int.reduceLT, Int.reduceLE, Int.reduceNeg, Int.reduceAdd, Int.reduceSub, Int.reduceMul, Int.reduceNe, Int.reduceBNe, Int.reduceBEq, c_bits_of_0, h0, h1]
    · rw [← e]
      rfl
  | succ d ih =>
    intro i e
    refine whE_turn (S1 := S) (ρ2 := [some (.int m), some (.int ((i + 1 : Nat) : Int))]) (S2 := S) ?_ ?_ (ih (i + 1) (by omega))
    · have h0 : (0 : Int) ≤ (i : Int) := by omega
      have h1 : (0 : Int) < ((m : Int) / 2 ^ (i : Int).toNat) := by
        rw [bln_shr]
        omega
      simp only [E1, E2, E3, E4, E5, E6, E7, E8, E9, List.map_cons, List.map_nil, List.cons_append, List.nil_append, List.append_nil, List.length_cons, List.length_nil, List.replicate_zero, List.replicate_succ, Nat.sub_self, Nat.zero_add, List.getElem?_cons_zero, List.getElem?_cons_succ, List.set_cons_zero, List.set_cons_succ, if_true, if_false, Bool.false_eq_true, decide_true, decide_false, Bool.not_true, Bool.not_false, decide_eq_true_eq, eq_self, Int.cast_ofNat_Int, Int.natCast_zero, Int.natCast_one, Nat.reduceLeDiff, Nat.reduceSub, Nat.reduceAdd, Nat.reduceLT, reduceIte, reduceCtorEq, Int.reduceEq, Int.reduceLT, Int.reduceLE, Int.reduceNeg, Int.reduceAdd, Int.reduceSub, Int.reduceMul, Int.reduceNe, Int.reduceBNe, Int.reduceBEq, c_bits_of_0, h0, h1]
    · simp only [E1, E2, E3, E4, E5, E6, E7, E8, E9, List.map_cons, List.map_nil, List.cons_append, List.nil_append, List.append_nil, List.length_cons, List.length_nil, List.replicate_zero, List.replicate_succ, Nat.sub_self, Nat.zero_add, List.getElem?_cons_zero, List.getElem?_cons_succ, List.set_cons_zero, List.set_cons_succ, if_true, if_false, Bool.false_eq_true, decide_true, decide_false, Bool.not_true, Bool.not_false, decide_eq_true_eq, eq_self, Int.cast_ofNat_Int, Int.natCast_zero, Int.natCast_one, Nat.reduceLeDiff, Nat.reduceSub, Nat.reduceAdd, Nat.reduceLT, reduceIte, reduceCtorEq, Int.reduceEq, Int.reduceLT, Int.reduceLE, Int.reduceNeg, Int.reduceAdd, Int.reduceSub, Int.reduceMul, Int.reduceNe, Int.reduceBNe, Int.reduceBEq, b_bits_of_0]
      rfl
theorem bits_ok {m : Nat} : callK G (k + 1) i_bits_of [.int m] S = some (.int (bln m : Nat), S) := by
  rw [call_fn g_bits_of rfl]
  simp only [E1, E2, E3, E4, E5, E6, E7, E8, E9, List.map_cons, List.map_nil, List.cons_append, List.nil_append, List.append_nil, List.length_cons, List.length_nil, List.replicate_zero, List.replicate_succ, Nat.sub_self, Nat.zero_add, List.getElem?_cons_zero, List.getElem?_cons_succ, List.set_cons_zero, List.set_cons_succ, if_true, if_false, Bool.false_eq_true, decide_true, decide_false, Bool.not_true, Bool.not_false, decide_eq_true_eq, eq_self, Int.cast_ofNat_Int, Int.natCast_zero, Int.natCast_one, Nat.reduceLeDiff, Nat.reduceSub, Nat.reduceAdd, Nat.reduceLT, reduceIte, reduceCtorEq, Int.reduceEq, Int.reduceLT, Int.reduceLE, Int.reduceNeg, Int.reduceAdd, Int.reduceSub, Int.reduceMul, Int.reduceNe, Int.reduceBNe, Int.reduceBEq, f_bits_of]
  have := bits_loop (S := S) (cl := callK G k) (m := m) (bln m) 0 (by omega)
  rw [show ((0 : Nat) : Int) = 0 from rfl] at this
  rw [this]
  simp only [E1, E2, E3, E4, E5, E6, E7, E8, E9, List.map_cons, List.map_nil, List.cons_append, List.nil_append, List.append_nil, List.length_cons, List.length_nil, List.replicate_zero, List.replicate_succ, Nat.sub_self, Nat.zero_add, List.getElem?_cons_zero, List.getElem?_cons_succ, List.set_cons_zero, List.set_cons_succ, if_true, if_false, Bool.false_eq_true, decide_true, decide_false, Bool.not_true, Bool.not_false, decide_eq_true_eq, eq_self, Int.cast_ofNat_Int, Int.natCast_zero, Int.natCast_one, Nat.reduceLeDiff, Nat.reduceSub, Nat.reduceAdd, Nat.reduceLT, reduceIte, reduceCtorEq, Int.reduceEq, Int.reduceLT, Int.reduceLE, Int.reduceNeg, Int.reduceAdd, Int.reduceSub, Int.reduceMul, Int.reduceNe, Int.reduceBNe, Int.reduceBEq]
end

end Rw.Pk01

set_option exponentiation.threshold 300
namespace Rw.Pk01
open PySem L2 Rw
section
variable {k : Nat} {S : Sto}
/-- alike data are found alike -/
theorem same_turn {cl : Nat → List D → Sto → Rs D} {d : D} {ds : List D} {n : Nat} {a0 a1 a3 a4 a5 a6 a7 : Option D} (hd : okD n d = true) (hn : n ≤ 60) (hl : szD d + szDs ds ≤ 1000000) :
    ∃ (b3 b4 b5 b6 b7 : Option D) (es : List D) , evSs G cl b__law_same_0 [a0, a1, some (.ref S.length), a3, a4, a5, a6, a7] (S ++ [.lst ((ds ++ [d]).map dup)]) = some (.nx [a0, a1, some (.ref S.length), b3, b4, b5, b6, b7], S ++ [.lst ((ds ++ es).map dup)]) ∧ okDs n es = true ∧ szDs es < szD d := by
  have hlen : ∀ xs : List D, xs.length ≤ szDs xs := by
    intro xs
    induction xs with
    | nil => exact Nat.le_refl _
    | cons x xs ih =>
      show xs.length + 1 ≤ szD x + szDs xs
      have : 1 ≤ szD x := by cases x <;> simp [szD]
      omega
  have hds := hlen ds
  have he : (ds ++ [d]).map dup = ds.map dup ++ [dup d] := by simp
  rw [he]
  cases d with
  | non =>
    refine ⟨some .non, some .non, a5, a6, a7, [], ?_, rfl, Nat.zero_lt_one⟩
    simp only [E1, E2, E3, E4, E5, E6, E7, E8, E9, List.map_cons, List.map_nil, List.cons_append, List.nil_append, List.append_nil, List.length_cons, List.length_nil, List.replicate_zero, List.replicate_succ, Nat.sub_self, Nat.zero_add, List.getElem?_cons_zero, List.getElem?_cons_succ, List.set_cons_zero, List.set_cons_succ, if_true, if_false, Bool.false_eq_true, decide_true, decide_false, Bool.not_true, Bool.not_false, decide_eq_true_eq, eq_self, Int.cast_ofNat_Int, Int.natCast_zero, Int.natCast_one, Nat.reduceLeDiff, Nat.reduceSub, Nat.reduceAdd, Nat.reduceLT, reduceIte, reduceCtorEq, Int.reduceEq, Int.reduceLT, Int.reduceLE, Int.reduceNeg, Int.reduceAdd, Int.reduceSub, Int.reduceMul, Int.reduceNe, Int.reduceBNe, Int.reduceBEq, b__law_same_0, getRef, pop_new, dup]
  | bl b =>
    refine ⟨some (.bl b), some (.bl b), a5, a6, a7, [], ?_, rfl, Nat.zero_lt_one⟩
    simp only [E1, E2, E3, E4, E5, E6, E7, E8, E9, List.map_cons, List.map_nil, List.cons_append, List.nil_append, List.append_nil, List.length_cons, List.length_nil, List.replicate_zero, List.replicate_succ, Nat.sub_self, Nat.zero_add, List.getElem?_cons_zero, List.getElem?_cons_succ, List.set_cons_zero, List.set_cons_succ, if_true, if_false, Bool.false_eq_true, decide_true, decide_false, Bool.not_true, Bool.not_false, decide_eq_true_eq, eq_self, Int.cast_ofNat_Int, Int.natCast_zero, Int.natCast_one, Nat.reduceLeDiff, Nat.reduceSub, Nat.reduceAdd, Nat.reduceLT, reduceIte, reduceCtorEq, Int.reduceEq, Int.reduceLT, Int.reduceLE, Int.reduceNeg, Int.reduceAdd, Int.reduceSub, Int.reduceMul, Int.reduceNe, Int.reduceBNe, Int.reduceBEq, b__law_same_0, getRef, pop_new, dup]
  | int b =>
    refine ⟨some (.int b), some (.int b), a5, a6, a7, [], ?_, rfl, Nat.zero_lt_one⟩
    simp only [E1, E2, E3, E4, E5, E6, E7, E8, E9, List.map_cons, List.map_nil, List.cons_append, List.nil_append, List.append_nil, List.length_cons, List.length_nil, List.replicate_zero, List.replicate_succ, Nat.sub_self, Nat.zero_add, List.getElem?_cons_zero, List.getElem?_cons_succ, List.set_cons_zero, List.set_cons_succ, if_true, if_false, Bool.false_eq_true, decide_true, decide_false, Bool.not_true, Bool.not_false, decide_eq_true_eq, eq_self, Int.cast_ofNat_Int, Int.natCast_zero, Int.natCast_one, Nat.reduceLeDiff, Nat.reduceSub, Nat.reduceAdd, Nat.reduceLT, reduceIte, reduceCtorEq, Int.reduceEq, Int.reduceLT, Int.reduceLE, Int.reduceNeg, Int.reduceAdd, Int.reduceSub, Int.reduceMul, Int.reduceNe, Int.reduceBNe, Int.reduceBEq, b__law_same_0, getRef, pop_new, dup]
  | str b =>
    refine ⟨some (.str b), some (.str b), a5, a6, a7, [], ?_, rfl, Nat.zero_lt_one⟩
    simp only [E1, E2, E3, E4, E5, E6, E7, E8, E9, List.map_cons, List.map_nil, List.cons_append, List.nil_append, List.append_nil, List.length_cons, List.length_nil, List.replicate_zero, List.replicate_succ, Nat.sub_self, Nat.zero_add, List.getElem?_cons_zero, List.getElem?_cons_succ, List.set_cons_zero, List.set_cons_succ, if_true, if_false, Bool.false_eq_true, decide_true, decide_false, Bool.not_true, Bool.not_false, decide_eq_true_eq, eq_self, Int.cast_ofNat_Int, Int.natCast_zero, Int.natCast_one, Nat.reduceLeDiff, Nat.reduceSub, Nat.reduceAdd, Nat.reduceLT, reduceIte, reduceCtorEq, Int.reduceEq, Int.reduceLT, Int.reduceLE, Int.reduceNeg, Int.reduceAdd, Int.reduceSub, Int.reduceMul, Int.reduceNe, Int.reduceBNe, Int.reduceBEq, b__law_same_0, getRef, pop_new, dup]
  | tup xs =>
    cases n with
    | zero => exact absurd (show false = true from hd) Bool.false_ne_true
    | succ n =>
      obtain ⟨h1, h2⟩ := bk (show (okDs n xs && decide (xs.length ≤ sizeLine)) = true from hd)
      have hx := hlen xs
      have hz : szD (.tup xs) = 1 + szDs xs := rfl
      refine ⟨some (.tup xs), some (.tup xs), a5, a6, a7, xs, ?_, okDs_mono (Nat.le_succ n) h1, by omega⟩
      have hr := rng_nat (n := xs.length) (by omega)
      have hc : compL none ((List.range xs.length).map fun (i : Nat) => D.int (i : Int)) (ctn G cl e__law_same_4 (.name 7) .none [a0, a1, some (.ref S.length), some (.tup xs), some (.tup xs), a5, a6, none]) ((List.range xs.length).map fun (i : Nat) => D.int (i : Int)) (S ++ [.lst (ds.map dup)]) [] = some (xs.map dup, S ++ [.lst (ds.map dup)]) := by
        rw [compL_map (f := fun x => match x with
          | .int i => dup (xs[i.toNat]?.getD .non)
          | _ => .non), by_place _ dup]
        · simp
        · intro i hi
          simp [hi]
        · intro x hx
          obtain ⟨i, hi, rfl⟩ := List.mem_map.mp hx
          have hi := List.mem_range.mp hi
          have hat := at_nat hi
          unfold ctn
          simp only [E1, E2, E3, E4, E5, E6, E7, E8, E9, List.map_cons, List.map_nil, List.cons_append, List.nil_append, List.append_nil, List.length_cons, List.length_nil, List.replicate_zero, List.replicate_succ, Nat.sub_self, Nat.zero_add, List.getElem?_cons_zero, List.getElem?_cons_succ, List.set_cons_zero, List.set_cons_succ, if_true, if_false, Bool.false_eq_true, decide_true, decide_false, Bool.not_true, Bool.not_false, decide_eq_true_eq, eq_self, Int.cast_ofNat_Int, Int.natCast_zero, Int.natCast_one, Nat.reduceLeDiff, Nat.reduceSub, Nat.reduceAdd, Nat.reduceLT, reduceIte, reduceCtorEq, Int.reduceEq, Int.reduceLT, Int.reduceLE, Int.reduceNeg, Int.reduceAdd, Int.reduceSub, Int.reduceMul, Int.reduceNe, Int.reduceBNe, Int.reduceBEq, e__law_same_4, hat]
          simp [hi, dup]
      have hL : (ds.map dup).length + (xs.map dup).length ≤ sizeLine := le_size (by simp; omega)
      have hL2 : xs.length ≤ sizeLine := le_size (by omega)
      simp only [E1, E2, E3, E4, E5, E6, E7, E8, E9, List.map_cons, List.map_nil, List.cons_append, List.nil_append, List.append_nil, List.length_cons, List.length_nil, List.replicate_zero, List.replicate_succ, Nat.sub_self, Nat.zero_add, List.getElem?_cons_zero, List.getElem?_cons_succ, List.set_cons_zero, List.set_cons_succ, if_true, if_false, Bool.false_eq_true, decide_true, decide_false, Bool.not_true, Bool.not_false, decide_eq_true_eq, eq_self, Int.cast_ofNat_Int, Int.natCast_zero, Int.natCast_one, Nat.reduceLeDiff, Nat.reduceSub, Nat.reduceAdd, Nat.reduceLT, reduceIte, reduceCtorEq, Int.reduceEq, Int.reduceLT, Int.reduceLE, Int.reduceNeg, Int.reduceAdd, Int.reduceSub, Int.reduceMul, Int.reduceNe, Int.reduceBNe, Int.reduceBEq, b__law_same_0, getRef, pop_new, dup, hr, wipe_nil, wipe_cons, hc, List.length_range, List.length_map, hL2]
      simp only [E1, E2, E3, E4, E5, E6, E7, E8, E9, List.map_cons, List.map_nil, List.cons_append, List.nil_append, List.append_nil, List.length_cons, List.length_nil, List.replicate_zero, List.replicate_succ, Nat.sub_self, Nat.zero_add, List.getElem?_cons_zero, List.getElem?_cons_succ, List.set_cons_zero, List.set_cons_succ, if_true, if_false, Bool.false_eq_true, decide_true, decide_false, Bool.not_true, Bool.not_false, decide_eq_true_eq, eq_self, Int.cast_ofNat_Int, Int.natCast_zero, Int.natCast_one, Nat.reduceLeDiff, Nat.reduceSub, Nat.reduceAdd, Nat.reduceLT, reduceIte, reduceCtorEq, Int.reduceEq, Int.reduceLT, Int.reduceLE, Int.reduceNeg, Int.reduceAdd, Int.reduceSub, Int.reduceMul, Int.reduceNe, Int.reduceBNe, Int.reduceBEq, ext_new, hL, List.map_append]
  | lst xs =>
    cases n with
    | zero => exact absurd (show false = true from hd) Bool.false_ne_true
    | succ n =>
      obtain ⟨h1, h2⟩ := bk (show (okDs n xs && decide (xs.length ≤ sizeLine)) = true from hd)
      have hx := hlen xs
      have hz : szD (.lst xs) = 1 + szDs xs := rfl
      refine ⟨some (.lst xs), some (.lst xs), a5, a6, a7, xs, ?_, okDs_mono (Nat.le_succ n) h1, by omega⟩
      have hr := rng_nat (n := xs.length) (by omega)
      have hc : compL none ((List.range xs.length).map fun (i : Nat) => D.int (i : Int)) (ctn G cl e__law_same_4 (.name 7) .none [a0, a1, some (.ref S.length), some (.lst xs), some (.lst xs), a5, a6, none]) ((List.range xs.length).map fun (i : Nat) => D.int (i : Int)) (S ++ [.lst (ds.map dup)]) [] = some (xs.map dup, S ++ [.lst (ds.map dup)]) := by
        rw [compL_map (f := fun x => match x with
          | .int i => dup (xs[i.toNat]?.getD .non)
          | _ => .non), by_place _ dup]
        · simp
        · intro i hi
          simp [hi]
        · intro x hx
          obtain ⟨i, hi, rfl⟩ := List.mem_map.mp hx
          have hi := List.mem_range.mp hi
          have hat := at_nat hi
          unfold ctn
          simp only [E1, E2, E3, E4, E5, E6, E7, E8, E9, List.map_cons, List.map_nil, List.cons_append, List.nil_append, List.append_nil, List.length_cons, List.length_nil, List.replicate_zero, List.replicate_succ, Nat.sub_self, Nat.zero_add, List.getElem?_cons_zero, List.getElem?_cons_succ, List.set_cons_zero, List.set_cons_succ, if_true, if_false, Bool.false_eq_true, decide_true, decide_false, Bool.not_true, Bool.not_false, decide_eq_true_eq, eq_self, Int.cast_ofNat_Int, Int.natCast_zero, Int.natCast_one, Nat.reduceLeDiff, Nat.reduceSub, Nat.reduceAdd, Nat.reduceLT, reduceIte, reduceCtorEq, Int.reduceEq, Int.reduceLT, Int.reduceLE, Int.reduceNeg, Int.reduceAdd, Int.reduceSub, Int.reduceMul, Int.reduceNe, Int.reduceBNe, Int.reduceBEq, e__law_same_4, hat]
          simp [hi, dup]
      have hL : (ds.map dup).length + (xs.map dup).length ≤ sizeLine := le_size (by simp; omega)
      have hL2 : xs.length ≤ sizeLine := le_size (by omega)
      simp only [E1, E2, E3, E4, E5, E6, E7, E8, E9, List.map_cons, List.map_nil, List.cons_append, List.nil_append, List.append_nil, List.length_cons, List.length_nil, List.replicate_zero, List.replicate_succ, Nat.sub_self, Nat.zero_add, List.getElem?_cons_zero, List.getElem?_cons_succ, List.set_cons_zero, List.set_cons_succ, if_true, if_false, Bool.false_eq_true, decide_true, decide_false, Bool.not_true, Bool.not_false, decide_eq_true_eq, eq_self, Int.cast_ofNat_Int, Int.natCast_zero, Int.natCast_one, Nat.reduceLeDiff, Nat.reduceSub, Nat.reduceAdd, Nat.reduceLT, reduceIte, reduceCtorEq, Int.reduceEq, Int.reduceLT, Int.reduceLE, Int.reduceNeg, Int.reduceAdd, Int.reduceSub, Int.reduceMul, Int.reduceNe, Int.reduceBNe, Int.reduceBEq, b__law_same_0, getRef, pop_new, dup, hr, wipe_nil, wipe_cons, hc, List.length_range, List.length_map, hL2]
      simp only [E1, E2, E3, E4, E5, E6, E7, E8, E9, List.map_cons, List.map_nil, List.cons_append, List.nil_append, List.append_nil, List.length_cons, List.length_nil, List.replicate_zero, List.replicate_succ, Nat.sub_self, Nat.zero_add, List.getElem?_cons_zero, List.getElem?_cons_succ, List.set_cons_zero, List.set_cons_succ, if_true, if_false, Bool.false_eq_true, decide_true, decide_false, Bool.not_true, Bool.not_false, decide_eq_true_eq, eq_self, Int.cast_ofNat_Int, Int.natCast_zero, Int.natCast_one, Nat.reduceLeDiff, Nat.reduceSub, Nat.reduceAdd, Nat.reduceLT, reduceIte, reduceCtorEq, Int.reduceEq, Int.reduceLT, Int.reduceLE, Int.reduceNeg, Int.reduceAdd, Int.reduceSub, Int.reduceMul, Int.reduceNe, Int.reduceBNe, Int.reduceBEq, ext_new, hL, List.map_append]
  | flst _ => cases n <;> exact absurd (show false = true from hd) Bool.false_ne_true
  | ref _ => cases n <;> exact absurd (show false = true from hd) Bool.false_ne_true
  | ty _ => cases n <;> exact absurd (show false = true from hd) Bool.false_ne_true
theorem same_loop {cl : Nat → List D → Sto → Rs D} {n : Nat} (hn : n ≤ 60) (m : Nat) : ∀ (ds : List D) (a0 a1 a3 a4 a5 a6 a7 : Option D), szDs ds ≤ m → szDs ds ≤ 1000000 → okDs n ds = true →
    ∃ (b3 b4 b5 b6 b7 : Option D), whE (evT G cl c__law_same_0) (evSs G cl b__law_same_0) [a0, a1, some (.ref S.length), a3, a4, a5, a6, a7] (S ++ [.lst (ds.map dup)]) = some (.nx [a0, a1, some (.ref S.length), b3, b4, b5, b6, b7], S ++ [.lst []]) := by
  induction m with
  | zero =>
    intro ds a0 a1 a3 a4 a5 a6 a7 hm h1 ho
    cases ds with
    | nil =>
      refine ⟨a3, a4, a5, a6, a7, whE_end ?_⟩
      have := ne_nil (S := S) (ds := []) (n := 0) rfl (by decide)
      simp only [E1, E2, E3, E4, E5, E6, E7, E8, E9, List.map_cons, List.map_nil, List.cons_append, List.nil_append, List.append_nil, List.length_cons, List.length_nil, List.replicate_zero, List.replicate_succ, Nat.sub_self, Nat.zero_add, List.getElem?_cons_zero, List.getElem?_cons_succ, List.set_cons_zero, List.set_cons_succ, if_true, if_false, Bool.false_eq_true, decide_true, decide_false, Bool.not_true, Bool.not_false, decide_eq_true_eq, eq_self, Int.cast_ofNat_Int, Int.natCast_zero, Int.natCast_one, Nat.reduceLeDiff, Nat.reduceSub, Nat.reduceAdd, Nat.reduceLT, reduceIte, reduceCtorEq, Int.reduceEq, Int.reduceLT, Int.reduceLE, Int.reduceNeg, Int.reduceAdd, Int.reduceSub, Int.reduceMul, Int.reduceNe, Int.reduceBNe, Int.reduceBEq, c__law_same_0, this, List.isEmpty_nil]
    | cons d ds =>
      have : szDs (d :: ds) = szD d + szDs ds := rfl
      have : 1 ≤ szD d := by cases d <;> simp [szD]
      omega
  | succ m ih =>
    intro ds a0 a1 a3 a4 a5 a6 a7 hm h1 ho
    rcases List.eq_nil_or_concat ds with rfl | ⟨es, d, rfl⟩
    · exact ih [] a0 a1 a3 a4 a5 a6 a7 (Nat.zero_le _) (Nat.zero_le _) rfl
    · rw [List.concat_eq_append] at *
      rw [szDs_ap] at hm h1
      have ho' := ho
      rw [okDs_ap] at ho
      obtain ⟨o1, o2⟩ := bk ho
      have o3 : okD n d = true := (bk (show (okD n d && true) = true from o2)).1
      have e1 : szDs [d] = szD d := by simp [szDs]
      obtain ⟨b3, b4, b5, b6, b7, fs, hb, hf, hs⟩ := same_turn (S := S) (cl := cl) (d := d) (ds := es) (a0 := a0) (a1 := a1) (a3 := a3) (a4 := a4) (a5 := a5) (a6 := a6) (a7 := a7) o3 hn (by omega)
      obtain ⟨c3, c4, c5, c6, c7, h⟩ := ih (es ++ fs) a0 a1 b3 b4 b5 b6 b7 (by rw [szDs_ap]; omega) (by rw [szDs_ap]; omega) (by rw [okDs_ap, o1, hf]; rfl)
      refine ⟨c3, c4, c5, c6, c7, whE_turn ?_ hb h⟩
      have hok : okDs (n + 1) ((es ++ [d]).map dup) = true := dup_ok ho'
      have := ne_nil (S := S) hok (by omega)
      simp only [E1, E2, E3, E4, E5, E6, E7, E8, E9, List.map_cons, List.map_nil, List.cons_append, List.nil_append, List.append_nil, List.length_cons, List.length_nil, List.replicate_zero, List.replicate_succ, Nat.sub_self, Nat.zero_add, List.getElem?_cons_zero, List.getElem?_cons_succ, List.set_cons_zero, List.set_cons_succ, if_true, if_false, Bool.false_eq_true, decide_true, decide_false, Bool.not_true, Bool.not_false, decide_eq_true_eq, eq_self, Int.cast_ofNat_Int, Int.natCast_zero, Int.natCast_one, Nat.reduceLeDiff, Nat.reduceSub, Nat.reduceAdd, Nat.reduceLT, reduceIte, reduceCtorEq, Int.reduceEq, Int.reduceLT, Int.reduceLE, Int.reduceNeg, Int.reduceAdd, Int.reduceSub, Int.reduceMul, Int.reduceNe, Int.reduceBNe, Int.reduceBEq, c__law_same_0, this]
      simp
theorem same_ok {d : D} {n : Nat} (h : okD n d = true) (hn : n ≤ 60) (hz : szD d ≤ 1000000) : callK G (k + 1) i__law_same [d, d] S = some (.bl true, S) := by
  rw [call_fn g__law_same rfl]
  have hd : okDs n [d] = true := by
    show (okD n d && true) = true
    rw [h]
    rfl
  obtain ⟨b3, b4, b5, b6, b7, hl⟩ := same_loop (S := S) (cl := callK G k) hn (szD d) [d] (some d) (some d) none none none none none (by simp [szDs]) (by simp [szDs]; omega) hd
  have hl' : whE (evT G (callK G k) c__law_same_0) (evSs G (callK G k) b__law_same_0) [some d, some d, some (.ref S.length), none, none, none, none, none] (S ++ [.lst [.tup [d, d]]]) = some (.nx [some d, some d, some (.ref S.length), b3, b4, b5, b6, b7], S ++ [.lst []]) := hl
  simp only [E1, E2, E3, E4, E5, E6, E7, E8, E9, List.map_cons, List.map_nil, List.cons_append, List.nil_append, List.append_nil, List.length_cons, List.length_nil, List.replicate_zero, List.replicate_succ, Nat.sub_self, Nat.zero_add, List.getElem?_cons_zero, List.getElem?_cons_succ, List.set_cons_zero, List.set_cons_succ, if_true, if_false, Bool.false_eq_true, decide_true, decide_false, Bool.not_true, Bool.not_false, decide_eq_true_eq, eq_self, Int.cast_ofNat_Int, Int.natCast_zero, Int.natCast_one, Nat.reduceLeDiff, Nat.reduceSub, Nat.reduceAdd, Nat.reduceLT, reduceIte, reduceCtorEq, Int.reduceEq, Int.reduceLT, Int.reduceLE, Int.reduceNeg, Int.reduceAdd, Int.reduceSub, Int.reduceMul, Int.reduceNe, Int.reduceBNe, Int.reduceBEq, f__law_same, hl', prune_one bl_bl]
end

section
variable {k : Nat} {S T : Sto}
def wC (L : List D) (a : Int) : Cell := .dk [(.inr "draws", .lst L), (.inr "at", .int a)]
theorem w_at0 {L : List D} {a : Int} : (wC L a :: T)[0]? = some (wC L a) := rfl
/-- the next draw -/
theorem next_ok {L : List D} {a m : Int} (hL : ∀ d ∈ L, ∃ x : Int, d = .int x) (hm : 0 < m) (ha : 0 ≤ a) : ∃ v : Int, 0 ≤ v ∧ v < m ∧ callK G (k + 1) i__law_next [.ref 0, .int m] (wC L a :: T) = some (.int v, wC L (a + 1) :: T) := by
  rw [call_fn g__law_next rfl]
  have hs : ¬ (("draws" : Str) = ("at" : Str)) := by decide +kernel
  have hz : 2 < sizeLine := by rw [size_eq]; decide
  have e1 : augGet (wC L a :: T) (.ref 0) (.str "at") = some (.int a) := by
    simp [augGet, wC, keyD, lookK, hs]
  have e2 : putI (wC L a :: T) (.ref 0) (.str "at") (.int (a + 1)) = some (wC L (a + 1) :: T) := by
    simp [putI, wC, keyD, storeK, hz, hs]
  have e3 : idxD (wC L (a + 1) :: T) (.ref 0) (.str "at") = some (.int (a + 1)) := by
    simp [idxD, wC, keyD, lookK, hs]
  have e4 : idxD (wC L (a + 1) :: T) (.ref 0) (.str "draws") = some (.lst L) := by
    simp [idxD, wC, keyD, lookK, hs]
  have pl : ∀ d, prune (wC L a :: T) d (wC L (a + 1) :: T) = (d, wC L (a + 1) :: T) := fun d => prune_len rfl
  by_cases c : (L.length : Int) < a + 1
  · refine ⟨0, Int.le_refl _, hm, ?_⟩
    simp only [E1, E2, E3, E4, E5, E6, E7, E8, E9, List.map_cons, List.map_nil, List.cons_append, List.nil_append, List.append_nil, List.length_cons, List.length_nil, List.replicate_zero, List.replicate_succ, Nat.sub_self, Nat.zero_add, List.getElem?_cons_zero, List.getElem?_cons_succ, List.set_cons_zero, List.set_cons_succ, if_true, if_false, Bool.false_eq_true, decide_true, decide_false, Bool.not_true, Bool.not_false, decide_eq_true_eq, eq_self, Int.cast_ofNat_Int, Int.natCast_zero, Int.natCast_one, Nat.reduceLeDiff, Nat.reduceSub, Nat.reduceAdd, Nat.reduceLT, reduceIte, reduceCtorEq, Int.reduceEq, Int.reduceLT, Int.reduceLE, Int.reduceNeg, Int.reduceAdd, Int.reduceSub, Int.reduceMul, Int.reduceNe, Int.reduceBNe, Int.reduceBEq, f__law_next, e1, e2, e3, e4, c, pl]
  · have hi : (a.toNat) < L.length := by omega
    have hat : atI L (a + 1 - 1) = some L[a.toNat] := by
      have := at_nat hi
      rw [show a + 1 - 1 = ((a.toNat : Nat) : Int) by omega]
      exact this
    obtain ⟨x, hx⟩ := hL _ (List.getElem_mem hi)
    refine ⟨x.fmod m, Int.fmod_nonneg_of_pos _ hm, Int.fmod_lt_of_pos _ hm, ?_⟩
    have hm' : m ≠ 0 := by omega
    simp only [E1, E2, E3, E4, E5, E6, E7, E8, E9, List.map_cons, List.map_nil, List.cons_append, List.nil_append, List.append_nil, List.length_cons, List.length_nil, List.replicate_zero, List.replicate_succ, Nat.sub_self, Nat.zero_add, List.getElem?_cons_zero, List.getElem?_cons_succ, List.set_cons_zero, List.set_cons_succ, if_true, if_false, Bool.false_eq_true, decide_true, decide_false, Bool.not_true, Bool.not_false, decide_eq_true_eq, eq_self, Int.cast_ofNat_Int, Int.natCast_zero, Int.natCast_one, Nat.reduceLeDiff, Nat.reduceSub, Nat.reduceAdd, Nat.reduceLT, reduceIte, reduceCtorEq, Int.reduceEq, Int.reduceLT, Int.reduceLE, Int.reduceNeg, Int.reduceAdd, Int.reduceSub, Int.reduceMul, Int.reduceNe, Int.reduceBNe, Int.reduceBEq, f__law_next, e1, e2, e3, e4, c, pl, hat, hx, hm', ne_eq, not_false_eq_true]
theorem pick_ok {L : List D} {a : Int} {xs : List D} (hL : ∀ d ∈ L, ∃ x : Int, d = .int x) (hx : xs ≠ []) (ha : 0 ≤ a) : ∃ d ∈ xs, callK G (k + 2) i__law_pick [.ref 0, .lst xs] (wC L a :: T) = some (d, wC L (a + 1) :: T) := by
  have hp : 0 < xs.length := List.length_pos_iff.mpr hx
  obtain ⟨v, h1, h2, h3⟩ := next_ok (k := k) (T := T) (m := (xs.length : Int)) hL (by omega) ha
  have hi : v.toNat < xs.length := by omega
  refine ⟨xs[v.toNat], List.getElem_mem hi, ?_⟩
  rw [call_fn g__law_pick rfl]
  have hat : atI xs v = some xs[v.toNat] := by
    have := at_nat hi
    rw [show ((v.toNat : Nat) : Int) = v by omega] at this
    exact this
  have pl : ∀ d, prune (wC L a :: T) d (wC L (a + 1) :: T) = (d, wC L (a + 1) :: T) := fun d => prune_len rfl
  simp only [E1, E2, E3, E4, E5, E6, E7, E8, E9, List.map_cons, List.map_nil, List.cons_append, List.nil_append, List.append_nil, List.length_cons, List.length_nil, List.replicate_zero, List.replicate_succ, Nat.sub_self, Nat.zero_add, List.getElem?_cons_zero, List.getElem?_cons_succ, List.set_cons_zero, List.set_cons_succ, if_true, if_false, Bool.false_eq_true, decide_true, decide_false, Bool.not_true, Bool.not_false, decide_eq_true_eq, eq_self, Int.cast_ofNat_Int, Int.natCast_zero, Int.natCast_one, Nat.reduceLeDiff, Nat.reduceSub, Nat.reduceAdd, Nat.reduceLT, reduceIte, reduceCtorEq, Int.reduceEq, Int.reduceLT, Int.reduceLE, Int.reduceNeg, Int.reduceAdd, Int.reduceSub, Int.reduceMul, Int.reduceNe, Int.reduceBNe, Int.reduceBEq, f__law_pick, h3, hat, pl]
/-! the draws -/
theorem p18 : powOk 10 18 := by
  refine ⟨by decide, by decide, ?_⟩
  show (10 : Nat) < 2 ^ 64
  decide
theorem d997 : divOk 997 := ⟨by decide, by decide +kernel⟩
theorem draws_rest {cl : Nat → List D → Sto → Rs D} {a0 a1 a3 a4 a5 a7 : Option D} {c : Int} {xs : List Int} (hc : 0 ≤ c) (hl : xs.length ≤ 100000) :
    ∃ (c' : Int) (b7 : Option D) (ys : List Int), forL none ((List.range 60).map fun (i : Nat) => D.int (i : Int)) (fbd G cl (.name 7) b__law_draws_1) ((List.range 60).map fun (i : Nat) => D.int (i : Int)) [a0, a1, some (.ref S.length), a3, a4, a5, some (.int c), a7] (S ++ [.lst (xs.map D.int)]) = some (.nx [a0, a1, some (.ref S.length), a3, a4, a5, some (.int c'), b7], S ++ [.lst (ys.map D.int)]) ∧ ys.length ≤ xs.length + 60 := by
  have := forL_run (all := (List.range 60).map fun (i : Nat) => D.int (i : Int)) (body := fbd G cl (.name 7) b__law_draws_1) (xs := (List.range 60).map fun (i : Nat) => D.int (i : Int)) (ρ := [a0, a1, some (.ref S.length), a3, a4, a5, some (.int c), a7]) (S := S ++ [.lst (xs.map D.int)])
    (I := fun i ρ S' => ∃ (c' : Int) (b7 : Option D) (ys : List Int), ρ = [a0, a1, some (.ref S.length), a3, a4, a5, some (.int c'), b7] ∧ S' = S ++ [.lst (ys.map D.int)] ∧ ys.length ≤ xs.length + i) ?_ ⟨c, a7, xs, rfl, rfl, Nat.le_refl _⟩
  · obtain ⟨ρ1, S1, h, c', b7, ys, rfl, rfl, hy⟩ := this
    exact ⟨c', b7, ys, h, by simpa using hy⟩
  · rintro i x ρ S' hx ⟨c', b7, ys, rfl, rfl, hy⟩
    have hi : i < 60 := by
      have := (List.getElem?_eq_some_iff.mp hx).1
      simpa using this
    by_cases hp : 0 < c'
    · have hl' : (ys.map D.int).length < sizeLine := by
        have : (ys.map D.int).length + 1 ≤ sizeLine := le_size (by simp; omega)
        omega
      refine ⟨[a0, a1, some (.ref S.length), a3, a4, a5, some (.int (c'.fdiv 997)), some x], S ++ [.lst ((ys ++ [c'.fmod 997]).map D.int)], ?_, c'.fdiv 997, some x, _, rfl, rfl, by simp; omega⟩
      unfold fbd
      simp only [E1, E2, E3, E4, E5, E6, E7, E8, E9, List.map_cons, List.map_nil, List.cons_append, List.nil_append, List.append_nil, List.length_cons, List.length_nil, List.replicate_zero, List.replicate_succ, Nat.sub_self, Nat.zero_add, List.getElem?_cons_zero, List.getElem?_cons_succ, List.set_cons_zero, List.set_cons_succ, if_true, if_false, Bool.false_eq_true, decide_true, decide_false, Bool.not_true, Bool.not_false, decide_eq_true_eq, eq_self, Int.cast_ofNat_Int, Int.natCast_zero, Int.natCast_one, Nat.reduceLeDiff, Nat.reduceSub, Nat.reduceAdd, Nat.reduceLT, reduceIte, reduceCtorEq, Int.reduceEq, Int.reduceLT, Int.reduceLE, Int.reduceNeg, Int.reduceAdd, Int.reduceSub, Int.reduceMul, Int.reduceNe, Int.reduceBNe, Int.reduceBEq, b__law_draws_1, hp, getRef, ap_new, hl', d997, ne_eq, not_false_eq_true, List.map_append]
    · refine ⟨_, _, ?_, c', some x, ys, rfl, rfl, by omega⟩
      unfold fbd
      simp only [E1, E2, E3, E4, E5, E6, E7, E8, E9, List.map_cons, List.map_nil, List.cons_append, List.nil_append, List.append_nil, List.length_cons, List.length_nil, List.replicate_zero, List.replicate_succ, Nat.sub_self, Nat.zero_add, List.getElem?_cons_zero, List.getElem?_cons_succ, List.set_cons_zero, List.set_cons_succ, if_true, if_false, Bool.false_eq_true, decide_true, decide_false, Bool.not_true, Bool.not_false, decide_eq_true_eq, eq_self, Int.cast_ofNat_Int, Int.natCast_zero, Int.natCast_one, Nat.reduceLeDiff, Nat.reduceSub, Nat.reduceAdd, Nat.reduceLT, reduceIte, reduceCtorEq, Int.reduceEq, Int.reduceLT, Int.reduceLE, Int.reduceNeg, Int.reduceAdd, Int.reduceSub, Int.reduceMul, Int.reduceNe, Int.reduceBNe, Int.reduceBEq, b__law_draws_1, hp]
theorem draws_ok {ns : List Int} {m : Nat} (hn : ns.length ≤ 63) (hm : m ≤ 30000) : ∃ L : List Int, callK G (k + 1) i__law_draws [.flst (ns.map D.int), .int (m : Int)] S = some (.lst (L.map D.int), S) := by
  rw [call_fn g__law_draws rfl]
  have r1 := rng_nat (n := ns.length) (by omega)
  have r2 := rng_nat (n := m) (by omega)
  have r3 := rng_nat (n := 60) (by omega)
  obtain ⟨ρ1, S1, h1, x4, x5, x6, x7, mx, ys, rfl, rfl, hmx, hys⟩ := forL_run (all := (List.range ns.length).map fun (i : Nat) => D.int (i : Int)) (body := fbd G (callK G k) (.name 4) b__law_draws_0) (xs := (List.range ns.length).map fun (i : Nat) => D.int (i : Int)) (ρ := [some (.flst (ns.map D.int)), some (.int (m : Int)), some (.ref S.length), some (.int 7), none, none, none, none]) (S := S ++ [.lst []])
    (I := fun i ρ S' => ∃ (x4 x5 x6 x7 : Option D) (mx : Int) (ys : List Int), ρ = [some (.flst (ns.map D.int)), some (.int (m : Int)), some (.ref S.length), some (.int mx), x4, x5, x6, x7] ∧ S' = S ++ [.lst (ys.map D.int)] ∧ Bd 17 mx ∧ ys.length ≤ 62 * i)
    (by
      rintro i x ρ S' hx ⟨x4, x5, x6, x7, mx, ys, rfl, rfl, hmx, hys⟩
      have hi : i < ns.length := by
        have := (List.getElem?_eq_some_iff.mp hx).1
        simpa using this
      have hxi : x = .int (i : Int) := by
        have := (List.getElem?_eq_some_iff.mp hx).2
        simpa using this.symm
      subst hxi
      have hat := at_nat (xs := ns.map D.int) (n := i) (by simpa using hi)
      simp only [List.getElem_map] at hat
      have m1 := hmx.mulOk (n := 17) (m := 16) (b := 48271) (show (48271 : Nat) < 2 ^ 16 by decide) (by decide)
      have hp : (10 : Int) ^ (18 : Int).toNat = 1000000000000000000 := by decide
      have z1 : (1000003 : Int) ≠ 0 := by decide
      have z2 : (65537 : Int) ≠ 0 := by decide
      have b2 : ∀ z : Int, Bd 17 (z.fmod 65537) := fun z => by
        have h1 := Int.fmod_nonneg_of_pos z (b := 65537) (by decide)
        have h2 := Int.fmod_lt_of_pos z (b := 65537) (by decide)
        show (z.fmod 65537).natAbs < 131072
        omega
      by_cases c : (1000000000000000000 : Int) ≤ (ns[i].natAbs : Int)
      · obtain ⟨c', b7, zs, h, hz⟩ := draws_rest (S := S) (cl := callK G k) (a0 := some (.flst (ns.map D.int))) (a1 := some (.int (m : Int))) (a3 := some (.int ((mx * 48271 + ((ns[i].natAbs : Int)).fmod 1000003 + i).fmod 65537))) (a4 := some (.int (i : Int))) (a5 := some (.int (ns[i].natAbs : Int))) (a7 := x7) (c := (ns[i].natAbs : Int)) (xs := ys) (by omega) (by omega)
        refine ⟨_, _, ?_, some (.int (i : Int)), some (.int (ns[i].natAbs : Int)), some (.int c'), b7, (mx * 48271 + ((ns[i].natAbs : Int)).fmod 1000003 + i).fmod 65537, zs, rfl, rfl, b2 _, by omega⟩
        unfold fbd
        simp only [E1, E2, E3, E4, E5, E6, E7, E8, E9, List.map_cons, List.map_nil, List.cons_append, List.nil_append, List.append_nil, List.length_cons, List.length_nil, List.replicate_zero, List.replicate_succ, Nat.sub_self, Nat.zero_add, List.getElem?_cons_zero, List.getElem?_cons_succ, List.set_cons_zero, List.set_cons_succ, if_true, if_false, Bool.false_eq_true, decide_true, decide_false, Bool.not_true, Bool.not_false, decide_eq_true_eq, eq_self, Int.cast_ofNat_Int, Int.natCast_zero, Int.natCast_one, Nat.reduceLeDiff, Nat.reduceSub, Nat.reduceAdd, Nat.reduceLT, reduceIte, reduceCtorEq, Int.reduceEq, Int.reduceLT, Int.reduceLE, Int.reduceNeg, Int.reduceAdd, Int.reduceSub, Int.reduceMul, Int.reduceNe, Int.reduceBNe, Int.reduceBEq, b__law_draws_0, hat, abs_nat, m1, p18, hp, c, ne_eq, not_false_eq_true]
        rw [show (60 : Int) = ((60 : Nat) : Int) from rfl, r3]
        simp only [E1, E2, E3, E4, E5, E6, E7, E8, E9, List.map_cons, List.map_nil, List.cons_append, List.nil_append, List.append_nil, List.length_cons, List.length_nil, List.replicate_zero, List.replicate_succ, Nat.sub_self, Nat.zero_add, List.getElem?_cons_zero, List.getElem?_cons_succ, List.set_cons_zero, List.set_cons_succ, if_true, if_false, Bool.false_eq_true, decide_true, decide_false, Bool.not_true, Bool.not_false, decide_eq_true_eq, eq_self, Int.cast_ofNat_Int, Int.natCast_zero, Int.natCast_one, Nat.reduceLeDiff, Nat.reduceSub, Nat.reduceAdd, Nat.reduceLT, reduceIte, reduceCtorEq, Int.reduceEq, Int.reduceLT, Int.reduceLE, Int.reduceNeg, Int.reduceAdd, Int.reduceSub, Int.reduceMul, Int.reduceNe, Int.reduceBNe, Int.reduceBEq, List.length_map, List.length_range]
        rw [h]
        simp only [E1, E2, E3, E4, E5, E6, E7, E8, E9, List.map_cons, List.map_nil, List.cons_append, List.nil_append, List.append_nil, List.length_cons, List.length_nil, List.replicate_zero, List.replicate_succ, Nat.sub_self, Nat.zero_add, List.getElem?_cons_zero, List.getElem?_cons_succ, List.set_cons_zero, List.set_cons_succ, if_true, if_false, Bool.false_eq_true, decide_true, decide_false, Bool.not_true, Bool.not_false, decide_eq_true_eq, eq_self, Int.cast_ofNat_Int, Int.natCast_zero, Int.natCast_one, Nat.reduceLeDiff, Nat.reduceSub, Nat.reduceAdd, Nat.reduceLT, reduceIte, reduceCtorEq, Int.reduceEq, Int.reduceLT, Int.reduceLE, Int.reduceNeg, Int.reduceAdd, Int.reduceSub, Int.reduceMul, Int.reduceNe, Int.reduceBNe, Int.reduceBEq]
      · have hl1 : (ys.map D.int).length < sizeLine := by
          have : (ys.map D.int).length + 1 ≤ sizeLine := le_size (by simp; omega)
          omega
        have hl2 : (ys.map D.int).length + 1 < sizeLine := by
          have : (ys.map D.int).length + 1 + 1 ≤ sizeLine := le_size (by simp; omega)
          omega
        have m2 := (b2 (mx * 48271 + ((ns[i].natAbs : Int)).fmod 1000003 + i)).mulOk (n := 17) (m := 17) (b := 69621) (show (69621 : Nat) < 2 ^ 17 by decide) (by decide)
        obtain ⟨c', b7, zs, h, hz⟩ := draws_rest (S := S) (cl := callK G k) (a0 := some (.flst (ns.map D.int))) (a1 := some (.int (m : Int))) (a3 := some (.int ((mx * 48271 + ((ns[i].natAbs : Int)).fmod 1000003 + i).fmod 65537))) (a4 := some (.int (i : Int))) (a5 := some (.int (ns[i].natAbs : Int))) (a7 := x7) (c := 0) (xs := ys ++ [((ns[i].natAbs : Int)).fmod 997, (((mx * 48271 + ((ns[i].natAbs : Int)).fmod 1000003 + i).fmod 65537 * 69621 + 5).fmod 65521).fmod 997]) (by omega) (by simp; omega)
        refine ⟨_, _, ?_, some (.int (i : Int)), some (.int (ns[i].natAbs : Int)), some (.int c'), b7, (mx * 48271 + ((ns[i].natAbs : Int)).fmod 1000003 + i).fmod 65537, zs, rfl, rfl, b2 _, by simp at hz; omega⟩
        unfold fbd
        simp only [E1, E2, E3, E4, E5, E6, E7, E8, E9, List.map_cons, List.map_nil, List.cons_append, List.nil_append, List.append_nil, List.length_cons, List.length_nil, List.replicate_zero, List.replicate_succ, Nat.sub_self, Nat.zero_add, List.getElem?_cons_zero, List.getElem?_cons_succ, List.set_cons_zero, List.set_cons_succ, if_true, if_false, Bool.false_eq_true, decide_true, decide_false, Bool.not_true, Bool.not_false, decide_eq_true_eq, eq_self, Int.cast_ofNat_Int, Int.natCast_zero, Int.natCast_one, Nat.reduceLeDiff, Nat.reduceSub, Nat.reduceAdd, Nat.reduceLT, reduceIte, reduceCtorEq, Int.reduceEq, Int.reduceLT, Int.reduceLE, Int.reduceNeg, Int.reduceAdd, Int.reduceSub, Int.reduceMul, Int.reduceNe, Int.reduceBNe, Int.reduceBEq, b__law_draws_0, hat, abs_nat, m1, m2, p18, hp, c, ne_eq, not_false_eq_true, getRef, ap_new, hl1, hl2, List.length_append]
        rw [show (60 : Int) = ((60 : Nat) : Int) from rfl, r3]
        simp only [List.map_append, List.map_cons, List.map_nil] at h
        simp only [E1, E2, E3, E4, E5, E6, E7, E8, E9, List.map_cons, List.map_nil, List.cons_append, List.nil_append, List.append_nil, List.length_cons, List.length_nil, List.replicate_zero, List.replicate_succ, Nat.sub_self, Nat.zero_add, List.getElem?_cons_zero, List.getElem?_cons_succ, List.set_cons_zero, List.set_cons_succ, if_true, if_false, Bool.false_eq_true, decide_true, decide_false, Bool.not_true, Bool.not_false, decide_eq_true_eq, eq_self, Int.cast_ofNat_Int, Int.natCast_zero, Int.natCast_one, Nat.reduceLeDiff, Nat.reduceSub, Nat.reduceAdd, Nat.reduceLT, reduceIte, reduceCtorEq, Int.reduceEq, Int.reduceLT, Int.reduceLE, Int.reduceNeg, Int.reduceAdd, Int.reduceSub, Int.reduceMul, Int.reduceNe, Int.reduceBNe, Int.reduceBEq, List.append_assoc, h])
    ⟨none, none, none, none, 7, [], rfl, rfl, (by show (7 : Nat) < 2 ^ 17; decide), Nat.le_refl _⟩
  obtain ⟨ρ2, S2, h2, y4, y5, y6, y7, my, zs, rfl, rfl, hmy, hzs⟩ := forL_run (all := (List.range m).map fun (i : Nat) => D.int (i : Int)) (body := fbd G (callK G k) (.name 4) b__law_draws_2) (xs := (List.range m).map fun (i : Nat) => D.int (i : Int)) (ρ := [some (.flst (ns.map D.int)), some (.int (m : Int)), some (.ref S.length), some (.int mx), x4, x5, x6, x7]) (S := S ++ [.lst (ys.map D.int)])
    (I := fun i ρ S' => ∃ (x4 x5 x6 x7 : Option D) (mx : Int) (zs : List Int), ρ = [some (.flst (ns.map D.int)), some (.int (m : Int)), some (.ref S.length), some (.int mx), x4, x5, x6, x7] ∧ S' = S ++ [.lst (zs.map D.int)] ∧ Bd 17 mx ∧ zs.length ≤ 62 * 63 + i)
    (by
      rintro i x ρ S' hx ⟨x4, x5, x6, x7, mx, zs, rfl, rfl, hmx, hzs⟩
      have hi : i < m := by
        have := (List.getElem?_eq_some_iff.mp hx).1
        simpa using this
      have hxi : x = .int (i : Int) := by
        have := (List.getElem?_eq_some_iff.mp hx).2
        simpa using this.symm
      subst hxi
      have m1 := hmx.mulOk (n := 17) (m := 15) (b := 16807) (show (16807 : Nat) < 2 ^ 15 by decide) (by decide)
      have hl1 : (zs.map D.int).length < sizeLine := by
        have : (zs.map D.int).length + 1 ≤ sizeLine := le_size (by simp; omega)
        omega
      refine ⟨_, _, ?_, some (.int (i : Int)), x5, x6, x7, (mx * 16807 + i + 1).fmod 65537, zs ++ [((mx * 16807 + i + 1).fmod 65537).fmod 997], rfl, rfl, ?_, by simp; omega⟩
      · unfold fbd
        simp only [E1, E2, E3, E4, E5, E6, E7, E8, E9, List.map_cons, List.map_nil, List.cons_append, List.nil_append, List.append_nil, List.length_cons, List.length_nil, List.replicate_zero, List.replicate_succ, Nat.sub_self, Nat.zero_add, List.getElem?_cons_zero, List.getElem?_cons_succ, List.set_cons_zero, List.set_cons_succ, if_true, if_false, Bool.false_eq_true, decide_true, decide_false, Bool.not_true, Bool.not_false, decide_eq_true_eq, eq_self, Int.cast_ofNat_Int, Int.natCast_zero, Int.natCast_one, Nat.reduceLeDiff, Nat.reduceSub, Nat.reduceAdd, Nat.reduceLT, reduceIte, reduceCtorEq, Int.reduceEq, Int.reduceLT, Int.reduceLE, Int.reduceNeg, Int.reduceAdd, Int.reduceSub, Int.reduceMul, Int.reduceNe, Int.reduceBNe, Int.reduceBEq, b__law_draws_2, m1, ne_eq, not_false_eq_true, getRef, ap_new, hl1, List.map_append]
      · have h1 := Int.fmod_nonneg_of_pos (mx * 16807 + i + 1) (b := 65537) (by decide)
        have h2 := Int.fmod_lt_of_pos (mx * 16807 + i + 1) (b := 65537) (by decide)
        show ((mx * 16807 + i + 1).fmod 65537).natAbs < 131072
        omega)
    ⟨x4, x5, x6, x7, mx, ys, rfl, rfl, hmx, by simp at hys; omega⟩
  refine ⟨cutD zs none (some (m : Int)), ?_⟩
  have hcut : slD (S ++ [.lst (zs.map D.int)]) (.ref S.length) none (some (m : Int)) = some (.lst ((cutD zs none (some (m : Int))).map D.int)) := by
    show (lstOf (S ++ [.lst (zs.map D.int)]) (.ref S.length)).map _ = _
    rw [getRef]
    simp [cutD, List.map_take, List.map_drop]
  have hb : below S.length (.lst ((cutD zs none (some (m : Int))).map D.int)) = true := bls_map (f := D.int) (fun _ => rfl) _
  simp only [E1, E2, E3, E4, E5, E6, E7, E8, E9, List.map_cons, List.map_nil, List.cons_append, List.nil_append, List.append_nil, List.length_cons, List.length_nil, List.replicate_zero, List.replicate_succ, Nat.sub_self, Nat.zero_add, List.getElem?_cons_zero, List.getElem?_cons_succ, List.set_cons_zero, List.set_cons_succ, if_true, if_false, Bool.false_eq_true, decide_true, decide_false, Bool.not_true, Bool.not_false, decide_eq_true_eq, eq_self, Int.cast_ofNat_Int, Int.natCast_zero, Int.natCast_one, Nat.reduceLeDiff, Nat.reduceSub, Nat.reduceAdd, Nat.reduceLT, reduceIte, reduceCtorEq, Int.reduceEq, Int.reduceLT, Int.reduceLE, Int.reduceNeg, Int.reduceAdd, Int.reduceSub, Int.reduceMul, Int.reduceNe, Int.reduceBNe, Int.reduceBEq, f__law_draws, r1, r2, len_f, List.length_map, h1, h2, hcut, prune_one hb]
end

end Rw.Pk01

set_option exponentiation.threshold 300
namespace Rw.Pk01
open PySem L2 Rw
section
variable {k : Nat} {S : Sto} {p q r : Rat} {n : Nat}
theorem least_loop {cl : Nat → List D → Sto → Rs D} {x y : Option D} : ∀ n m : Nat, whE (evT G cl c__law_least_0) (evSs G cl b__law_least_0) [x, y, some (.int m), some (.int n)] S = some (.nx [x, y, some (.int (Nat.gcd m n : Nat)), some (.int 0)], S) := by
  intro n
  induction n using Nat.strongRecOn with
  | ind n ih =>
    intro m
    by_cases e : n = 0
    · subst e
      refine (whE_end (S1 := S) ?_).trans ?_
      · simp only [E1, E2, E3, E4, E5, E6, E7, E8, E9, List.map_cons, List.map_nil, List.cons_append, List.nil_append, List.append_nil, List.length_cons, List.length_nil, List.replicate_zero, List.replicate_succ, Nat.sub_self, Nat.zero_add, List.getElem?_cons_zero, List.getElem?_cons_succ, List.set_cons_zero, List.set_cons_succ, if_true, if_false, Bool.false_eq_true, decide_true, decide_false, Bool.not_true, Bool.not_false, decide_eq_true_eq, eq_self, Int.cast_ofNat_Int, Int.natCast_zero, Int.natCast_one, Nat.reduceLeDiff, Nat.reduceSub, Nat.reduceAdd, Nat.reduceLT, reduceIte, reduceCtorEq, Int.reduceEq, Int.reduceLT, Int.reduceLE, Int.reduceNeg, Int.reduceAdd, Int.reduceSub, Int.reduceMul, Int.reduceNe, Int.reduceBNe, Int.reduceBEq, c__law_least_0]
      · rw [Nat.gcd_zero_right]
        rfl
    · refine whE_turn (S1 := S) (ρ2 := [x, y, some (.int n), some (.int ((m % n : Nat) : Int))]) (S2 := S) ?_ ?_ ((ih (m % n) (Nat.mod_lt _ (by omega)) n).trans ?_)
      · have : (0 : Int) < (n : Int) := by omega
        simp only [E1, E2, E3, E4, E5, E6, E7, E8, E9, List.map_cons, List.map_nil, List.cons_append, List.nil_append, List.append_nil, List.length_cons, List.length_nil, List.replicate_zero, List.replicate_succ, Nat.sub_self, Nat.zero_add, List.getElem?_cons_zero, List.getElem?_cons_succ, List.set_cons_zero, List.set_cons_succ, if_true, if_false, Bool.false_eq_true, decide_true, decide_false, Bool.not_true, Bool.not_false, decide_eq_true_eq, eq_self, Int.cast_ofNat_Int, Int.natCast_zero, Int.natCast_one, Nat.reduceLeDiff, Nat.reduceSub, Nat.reduceAdd, Nat.reduceLT, reduceIte, reduceCtorEq, Int.reduceEq, Int.reduceLT, Int.reduceLE, Int.reduceNeg, Int.reduceAdd, Int.reduceSub, Int.reduceMul, Int.reduceNe, Int.reduceBNe, Int.reduceBEq, c__law_least_0, this]
      · have : (n : Int) ≠ 0 := by omega
        simp only [E1, E2, E3, E4, E5, E6, E7, E8, E9, List.map_cons, List.map_nil, List.cons_append, List.nil_append, List.append_nil, List.length_cons, List.length_nil, List.replicate_zero, List.replicate_succ, Nat.sub_self, Nat.zero_add, List.getElem?_cons_zero, List.getElem?_cons_succ, List.set_cons_zero, List.set_cons_succ, if_true, if_false, Bool.false_eq_true, decide_true, decide_false, Bool.not_true, Bool.not_false, decide_eq_true_eq, eq_self, Int.cast_ofNat_Int, Int.natCast_zero, Int.natCast_one, Nat.reduceLeDiff, Nat.reduceSub, Nat.reduceAdd, Nat.reduceLT, reduceIte, reduceCtorEq, Int.reduceEq, Int.reduceLT, Int.reduceLE, Int.reduceNeg, Int.reduceAdd, Int.reduceSub, Int.reduceMul, Int.reduceNe, Int.reduceBNe, Int.reduceBEq, b__law_least_0, this, fmod_nat, ne_eq, not_false_eq_true]
      · rw [Nat.gcd_comm m n, Nat.gcd_rec n m, Nat.gcd_comm]
theorem least_ok {u l : Int} (h : l ≠ 0) (b : Bd 8999 l) : callK G (k + 1) i__law_least [.int u, .int l] S = some (fr (Rat.divInt u l), S) := by
  have hd : divOk (if 0 < l then (Int.gcd u l : Int) else -(Int.gcd u l : Int)) := by
    split
    · exact (gcd_bd h b).divOk (gcd_ne h) (by omega)
    · exact (gcd_bd h b).neg.divOk (by have := gcd_ne (u := u) h; omega) (by omega)
  have hg : ((Nat.gcd u.natAbs l.natAbs : Nat) : Int) = (Int.gcd u l : Int) := rfl
  rw [call_fn g__law_least rfl, fr_div h]
  by_cases c : 0 < l
  · simp only [c, if_true] at hd ⊢
    simp only [E1, E2, E3, E4, E5, E6, E7, E8, E9, List.map_cons, List.map_nil, List.cons_append, List.nil_append, List.append_nil, List.length_cons, List.length_nil, List.replicate_zero, List.replicate_succ, Nat.sub_self, Nat.zero_add, List.getElem?_cons_zero, List.getElem?_cons_succ, List.set_cons_zero, List.set_cons_succ, if_true, if_false, Bool.false_eq_true, decide_true, decide_false, Bool.not_true, Bool.not_false, decide_eq_true_eq, eq_self, Int.cast_ofNat_Int, Int.natCast_zero, Int.natCast_one, Nat.reduceLeDiff, Nat.reduceSub, Nat.reduceAdd, Nat.reduceLT, reduceIte, reduceCtorEq, Int.reduceEq, Int.reduceLT, Int.reduceLE, Int.reduceNeg, Int.reduceAdd, Int.reduceSub, Int.reduceMul, Int.reduceNe, Int.reduceBNe, Int.reduceBEq, f__law_least, c, abs_nat, least_loop, hg, hd]
  · simp only [c, if_false] at hd ⊢
    simp only [E1, E2, E3, E4, E5, E6, E7, E8, E9, List.map_cons, List.map_nil, List.cons_append, List.nil_append, List.append_nil, List.length_cons, List.length_nil, List.replicate_zero, List.replicate_succ, Nat.sub_self, Nat.zero_add, List.getElem?_cons_zero, List.getElem?_cons_succ, List.set_cons_zero, List.set_cons_succ, if_true, if_false, Bool.false_eq_true, decide_true, decide_false, Bool.not_true, Bool.not_false, decide_eq_true_eq, eq_self, Int.cast_ofNat_Int, Int.natCast_zero, Int.natCast_one, Nat.reduceLeDiff, Nat.reduceSub, Nat.reduceAdd, Nat.reduceLT, reduceIte, reduceCtorEq, Int.reduceEq, Int.reduceLT, Int.reduceLE, Int.reduceNeg, Int.reduceAdd, Int.reduceSub, Int.reduceMul, Int.reduceNe, Int.reduceBNe, Int.reduceBEq, f__law_least, c, abs_nat, least_loop, hg, Int.zero_sub, hd]
theorem least_mul (h : Sm 4000 p) (g : Sm 4000 q) : callK G (k + 1) i__law_least [.int (p.num * q.num), .int ((p.den : Int) * (q.den : Int))] S = some (fr (p * q), S) := by
  rw [mul_eq]
  exact least_ok (Int.mul_ne_zero den_ne den_ne) ((h.dn.mul g.dn).mono (by decide))
theorem least_quo (h : Sm 4000 p) (g : Sm 4000 q) (z : q.num ≠ 0) : callK G (k + 1) i__law_least [.int (p.num * (q.den : Int)), .int ((p.den : Int) * q.num)] S = some (fr (p / q), S) := by
  rw [div_eq]
  exact least_ok (Int.mul_ne_zero den_ne z) ((h.dn.mul g.nm).mono (by decide))
theorem least_add (h : Sm 4000 p) (g : Sm 4000 q) : callK G (k + 1) i__law_least [.int (p.num * (q.den : Int) + q.num * (p.den : Int)), .int ((p.den : Int) * (q.den : Int))] S = some (fr (p + q), S) := by
  rw [add_eq]
  exact least_ok (Int.mul_ne_zero den_ne den_ne) ((h.dn.mul g.dn).mono (by decide))
theorem exponent_ok (h : Sm 3000 p) : callK G (k + 2) i_exponent_of [fr p] S = some (.int (expo p), S) := by
  rw [call_fn g_exponent_of rfl]
  have h1 := expF_le h
  have h2 := two_to_ok (k := k) (S := S) (b := expF p) (by omega)
  have h3 := is_most_ok (k := k) (S := S) (p := (2 : Rat) ^ expF p) (q := p.abs) ((sm_two (b := expF p) h1).mono (by decide)) (h.abs.mono (by decide))
  rw [fr_abs'] at h3
  have e : (bln p.num.natAbs : Int) - (bln p.den : Int) = expF p := rfl
  unfold expo
  by_cases c : (2 : Rat) ^ expF p ≤ p.abs
  · simp only [E1, E2, E3, E4, E5, E6, E7, E8, E9, List.map_cons, List.map_nil, List.cons_append, List.nil_append, List.append_nil, List.length_cons, List.length_nil, List.replicate_zero, List.replicate_succ, Nat.sub_self, Nat.zero_add, List.getElem?_cons_zero, List.getElem?_cons_succ, List.set_cons_zero, List.set_cons_succ, if_true, if_false, Bool.false_eq_true, decide_true, decide_false, Bool.not_true, Bool.not_false, decide_eq_true_eq, eq_self, Int.cast_ofNat_Int, Int.natCast_zero, Int.natCast_one, Nat.reduceLeDiff, Nat.reduceSub, Nat.reduceAdd, Nat.reduceLT, reduceIte, reduceCtorEq, Int.reduceEq, Int.reduceLT, Int.reduceLE, Int.reduceNeg, Int.reduceAdd, Int.reduceSub, Int.reduceMul, Int.reduceNe, Int.reduceBNe, Int.reduceBEq, f_exponent_of, idx_fr0, idx_fr1, abs_nat, bits_ok, e, h2, h3, c]
  · simp only [E1, E2, E3, E4, E5, E6, E7, E8, E9, List.map_cons, List.map_nil, List.cons_append, List.nil_append, List.append_nil, List.length_cons, List.length_nil, List.replicate_zero, List.replicate_succ, Nat.sub_self, Nat.zero_add, List.getElem?_cons_zero, List.getElem?_cons_succ, List.set_cons_zero, List.set_cons_succ, if_true, if_false, Bool.false_eq_true, decide_true, decide_false, Bool.not_true, Bool.not_false, decide_eq_true_eq, eq_self, Int.cast_ofNat_Int, Int.natCast_zero, Int.natCast_one, Nat.reduceLeDiff, Nat.reduceSub, Nat.reduceAdd, Nat.reduceLT, reduceIte, reduceCtorEq, Int.reduceEq, Int.reduceLT, Int.reduceLE, Int.reduceNeg, Int.reduceAdd, Int.reduceSub, Int.reduceMul, Int.reduceNe, Int.reduceBNe, Int.reduceBEq, f_exponent_of, idx_fr0, idx_fr1, abs_nat, bits_ok, e, h2, h3, c]
end

end Rw.Pk01

set_option exponentiation.threshold 300
namespace Rw.Pk01
open PySem L2 Rw
section
variable {k : Nat} {S : Sto} {d : Nat} {m M : Int} {q : Rat} {p : Int} {n : Nat} {way : Str} {s : Int}
theorem shl_d (h : Fm d m M) : shlOk 1 (d : Int) := shl_one (by omega) (by have := h.d2; omega)
theorem shl_d1 (h : Fm d m M) : shlOk 1 ((d : Int) - 1) := shl_one (by have := h.d1; omega) (by have := h.d2; omega)
theorem pow_d : (1 : Int) * 2 ^ (d : Int).toNat = ((2 ^ d : Nat) : Int) := by
  rw [Int.one_mul, Int.toNat_natCast, Int.natCast_pow]
  rfl
theorem pow_d1 (h : Fm d m M) : (1 : Int) * 2 ^ ((d : Int) - 1).toNat = ((fh d : Nat) : Int) := by
  have := h.d1
  rw [Int.one_mul, show ((d : Int) - 1).toNat = d - 1 by omega]
  unfold fh
  rw [Int.natCast_pow]
  rfl
/-- values of numbers -/
def sgQ (s : Int) (x : Rat) : Rat := if s = 1 then -x else x
theorem val_num {w : Nat} (hw : Bd 100 (w : Int)) (hp : p.natAbs ≤ 1000) : callK G (k + 5) i_value_of [numD s w p] S = some (fr (sgQ s ((w : Rat) * (2 : Rat) ^ p)), S) := by
  have e0 : D.tup [.int (w : Int), .int 1] = fr (w : Rat) := rfl
  have sm : Sm 4000 (w : Rat) := ⟨(Bd.mono hw (by decide) : Bd 4000 (w : Int)), Nat.one_lt_two_pow (by decide)⟩
  have e1 := shifted_ok (k := k) (S := S) (p := (w : Rat)) (b := p) sm (by omega)
  rw [call_fn g_value_of rfl]
  unfold sgQ
  by_cases c : s = 1
  · simp only [E1, E2, E3, E4, E5, E6, E7, E8, E9, List.map_cons, List.map_nil, List.cons_append, List.nil_append, List.append_nil, List.length_cons, List.length_nil, List.replicate_zero, List.replicate_succ, Nat.sub_self, Nat.zero_add, List.getElem?_cons_zero, List.getElem?_cons_succ, List.set_cons_zero, List.set_cons_succ, if_true, if_false, Bool.false_eq_true, decide_true, decide_false, Bool.not_true, Bool.not_false, decide_eq_true_eq, eq_self, Int.cast_ofNat_Int, Int.natCast_zero, Int.natCast_one, Nat.reduceLeDiff, Nat.reduceSub, Nat.reduceAdd, Nat.reduceLT, reduceIte, reduceCtorEq, Int.reduceEq, Int.reduceLT, Int.reduceLE, Int.reduceNeg, Int.reduceAdd, Int.reduceSub, Int.reduceMul, Int.reduceNe, Int.reduceBNe, Int.reduceBEq, f_value_of, idx_n0, idx_n1, idx_n2, idx_n3, YN, e0, e1, idx_fr0, idx_fr1, c]
    rfl
  · simp only [E1, E2, E3, E4, E5, E6, E7, E8, E9, List.map_cons, List.map_nil, List.cons_append, List.nil_append, List.append_nil, List.length_cons, List.length_nil, List.replicate_zero, List.replicate_succ, Nat.sub_self, Nat.zero_add, List.getElem?_cons_zero, List.getElem?_cons_succ, List.set_cons_zero, List.set_cons_succ, if_true, if_false, Bool.false_eq_true, decide_true, decide_false, Bool.not_true, Bool.not_false, decide_eq_true_eq, eq_self, Int.cast_ofNat_Int, Int.natCast_zero, Int.natCast_one, Nat.reduceLeDiff, Nat.reduceSub, Nat.reduceAdd, Nat.reduceLT, reduceIte, reduceCtorEq, Int.reduceEq, Int.reduceLT, Int.reduceLE, Int.reduceNeg, Int.reduceAdd, Int.reduceSub, Int.reduceMul, Int.reduceNe, Int.reduceBNe, Int.reduceBEq, f_value_of, idx_n0, idx_n1, idx_n2, idx_n3, YN, e0, e1, idx_fr0, idx_fr1, c]
theorem val_noth : callK G (k + 5) i_value_of [nothD s] S = some (fr 0, S) := by
  rw [call_fn g_value_of rfl]
  simp only [E1, E2, E3, E4, E5, E6, E7, E8, E9, List.map_cons, List.map_nil, List.cons_append, List.nil_append, List.append_nil, List.length_cons, List.length_nil, List.replicate_zero, List.replicate_succ, Nat.sub_self, Nat.zero_add, List.getElem?_cons_zero, List.getElem?_cons_succ, List.set_cons_zero, List.set_cons_succ, if_true, if_false, Bool.false_eq_true, decide_true, decide_false, Bool.not_true, Bool.not_false, decide_eq_true_eq, eq_self, Int.cast_ofNat_Int, Int.natCast_zero, Int.natCast_one, Nat.reduceLeDiff, Nat.reduceSub, Nat.reduceAdd, Nat.reduceLT, reduceIte, reduceCtorEq, Int.reduceEq, Int.reduceLT, Int.reduceLE, Int.reduceNeg, Int.reduceAdd, Int.reduceSub, Int.reduceMul, Int.reduceNe, Int.reduceBNe, Int.reduceBEq, f_value_of, idx_z0, c_NOTHING]
  rfl
theorem xq_sm (h : Fm d m M) (hq : Sm 1000 q) : (pw d m q).natAbs ≤ 1300 := by
  have h1 := expo_le hq
  have := h.d2
  have := h.m1
  unfold pw
  split
  · omega
  · split <;> omega
theorem unit_ok (h : Fm d m M) (hq : Sm 1000 q) : callK G (k + 3) i_unit_at [fmD d m M, fr q] S = some (.int (pw d m q), S) := by
  rw [call_fn g_unit_at rfl]
  unfold pw
  by_cases c : q.num = 0
  · simp only [E1, E2, E3, E4, E5, E6, E7, E8, E9, List.map_cons, List.map_nil, List.cons_append, List.nil_append, List.append_nil, List.length_cons, List.length_nil, List.replicate_zero, List.replicate_succ, Nat.sub_self, Nat.zero_add, List.getElem?_cons_zero, List.getElem?_cons_succ, List.set_cons_zero, List.set_cons_succ, if_true, if_false, Bool.false_eq_true, decide_true, decide_false, Bool.not_true, Bool.not_false, decide_eq_true_eq, eq_self, Int.cast_ofNat_Int, Int.natCast_zero, Int.natCast_one, Nat.reduceLeDiff, Nat.reduceSub, Nat.reduceAdd, Nat.reduceLT, reduceIte, reduceCtorEq, Int.reduceEq, Int.reduceLT, Int.reduceLE, Int.reduceNeg, Int.reduceAdd, Int.reduceSub, Int.reduceMul, Int.reduceNe, Int.reduceBNe, Int.reduceBEq, f_unit_at, idx_fm0, idx_fm1, idx_fr0, c]
  · simp only [E1, E2, E3, E4, E5, E6, E7, E8, E9, List.map_cons, List.map_nil, List.cons_append, List.nil_append, List.append_nil, List.length_cons, List.length_nil, List.replicate_zero, List.replicate_succ, Nat.sub_self, Nat.zero_add, List.getElem?_cons_zero, List.getElem?_cons_succ, List.set_cons_zero, List.set_cons_succ, if_true, if_false, Bool.false_eq_true, decide_true, decide_false, Bool.not_true, Bool.not_false, decide_eq_true_eq, eq_self, Int.cast_ofNat_Int, Int.natCast_zero, Int.natCast_one, Nat.reduceLeDiff, Nat.reduceSub, Nat.reduceAdd, Nat.reduceLT, reduceIte, reduceCtorEq, Int.reduceEq, Int.reduceLT, Int.reduceLE, Int.reduceNeg, Int.reduceAdd, Int.reduceSub, Int.reduceMul, Int.reduceNe, Int.reduceBNe, Int.reduceBEq, f_unit_at, idx_fm0, idx_fm1, idx_fr0, c, exponent_ok (hq.mono (by decide))]
theorem least_full_ok (h : Fm d m M) : callK G (k + 1) i_least_full [fmD d m M] S = some (numD 0 (fh d) m, S) := by
  rw [call_fn g_least_full rfl]
  simp only [E1, E2, E3, E4, E5, E6, E7, E8, E9, List.map_cons, List.map_nil, List.cons_append, List.nil_append, List.append_nil, List.length_cons, List.length_nil, List.replicate_zero, List.replicate_succ, Nat.sub_self, Nat.zero_add, List.getElem?_cons_zero, List.getElem?_cons_succ, List.set_cons_zero, List.set_cons_succ, if_true, if_false, Bool.false_eq_true, decide_true, decide_false, Bool.not_true, Bool.not_false, decide_eq_true_eq, eq_self, Int.cast_ofNat_Int, Int.natCast_zero, Int.natCast_one, Nat.reduceLeDiff, Nat.reduceSub, Nat.reduceAdd, Nat.reduceLT, reduceIte, reduceCtorEq, Int.reduceEq, Int.reduceLT, Int.reduceLE, Int.reduceNeg, Int.reduceAdd, Int.reduceSub, Int.reduceMul, Int.reduceNe, Int.reduceBNe, Int.reduceBEq, f_least_full, idx_fm0, idx_fm1, shl_d1 h, pow_d1 h]
  rfl
theorem greatest_ok (h : Fm d m M) : callK G (k + 1) i_greatest_of [fmD d m M] S = some (numD 0 (2 ^ d - 1) M, S) := by
  have e : (((2 ^ d : Nat) : Int) - 1) = ((2 ^ d - 1 : Nat) : Int) := by
    have := Nat.two_pow_pos d
    omega
  rw [call_fn g_greatest_of rfl]
  simp only [E1, E2, E3, E4, E5, E6, E7, E8, E9, List.map_cons, List.map_nil, List.cons_append, List.nil_append, List.append_nil, List.length_cons, List.length_nil, List.replicate_zero, List.replicate_succ, Nat.sub_self, Nat.zero_add, List.getElem?_cons_zero, List.getElem?_cons_succ, List.set_cons_zero, List.set_cons_succ, if_true, if_false, Bool.false_eq_true, decide_true, decide_false, Bool.not_true, Bool.not_false, decide_eq_true_eq, eq_self, Int.cast_ofNat_Int, Int.natCast_zero, Int.natCast_one, Nat.reduceLeDiff, Nat.reduceSub, Nat.reduceAdd, Nat.reduceLT, reduceIte, reduceCtorEq, Int.reduceEq, Int.reduceLT, Int.reduceLE, Int.reduceNeg, Int.reduceAdd, Int.reduceSub, Int.reduceMul, Int.reduceNe, Int.reduceBNe, Int.reduceBEq, f_greatest_of, idx_fm0, idx_fm2, shl_d h, pow_d, e]
  rfl
theorem fh_bd (h : Fm d m M) : Bd 100 ((fh d : Nat) : Int) := by
  have := h.d2
  show (fh d) < 2 ^ 100
  exact Nat.lt_of_le_of_lt (Nat.pow_le_pow_right (by decide) (show d - 1 ≤ 11 by omega)) (by decide)
theorem small_sm (h : Fm d m M) : Sm 4000 ((2 : Rat) ^ ((d : Int) - 1 + m)) := (sm_two (m := 300) (by have := h.d2; have := h.m1; omega)).mono (by decide)
theorem in_ea_even : cmpD S .In (.str "even") (.tup [.str "even", .str "away"]) = some true := in_strT (xs := ["even", "away"]) (by decide +kernel) (by decide) (by decide +kernel)
theorem in_ea_away : cmpD S .In (.str "away") (.tup [.str "even", .str "away"]) = some true := in_strT (xs := ["even", "away"]) (by decide +kernel) (by decide) (by decide +kernel)
theorem in_ea_up : cmpD S .In (.str "up") (.tup [.str "even", .str "away"]) = some false := in_strT (xs := ["even", "away"]) (by decide +kernel) (by decide) (by decide +kernel)
theorem in_ea_down : cmpD S .In (.str "down") (.tup [.str "even", .str "away"]) = some false := in_strT (xs := ["even", "away"]) (by decide +kernel) (by decide) (by decide +kernel)
theorem in_ea_cut : cmpD S .In (.str "cut") (.tup [.str "even", .str "away"]) = some false := in_strT (xs := ["even", "away"]) (by decide +kernel) (by decide) (by decide +kernel)
theorem num_tup {w : Nat} {p : Int} : binD .Add (.tup [.str "number", .int s]) (.tup [.int (w : Int), .int p]) = some (numD s w p) := by
  rw [add_t]
  rfl
theorem sl1_num {w : Nat} {p : Int} : slD S (numD s w p) none (some 1) = some (.tup [.str "number"]) := sl_01
theorem sl2_num {w : Nat} {p : Int} : slD S (numD s w p) (some 2) none = some (.tup [.int (w : Int), .int p]) := sl_2
theorem sl1_noth : slD S (nothD s) none (some 1) = some (.tup [.str "nothing"]) := sl_01
theorem sl2_noth : slD S (nothD s) (some 2) none = some (.tup []) := sl_2
theorem mk_num {w : Nat} {p : Int} : D.tup [.str "number", .int s, .int (w : Int), .int p] = numD s w p := nrfl rfl
theorem mk_noth : D.tup [.str "nothing", .int s] = nothD s := nrfl rfl
theorem mk_end : D.tup [.str "endless", .int s] = endD s := nrfl rfl
theorem abs_two (b : Int) : (q * (2 : Rat) ^ b).abs = q.abs * (2 : Rat) ^ b := by
  have h := two_pos b
  rw [abs_eq, abs_eq]
  by_cases c : q < 0
  · have : q * (2 : Rat) ^ b < 0 := by
      have := Rat.mul_lt_mul_of_pos_right c h
      rwa [Rat.zero_mul] at this
    rw [if_pos c, if_pos this]
    grind
  · have : ¬ q * (2 : Rat) ^ b < 0 := by
      have := Rat.mul_nonneg (Rat.not_lt.mp c) (Rat.le_of_lt h)
      grind
    rw [if_neg c, if_neg this]
theorem xq_num : (xq (pw d m q) q).num = ((xq (pw d m q) q).num.natAbs : Int) := by
  have := Rat.num_nonneg.mpr (xq_nonneg (q := q) (pw d m q))
  omega
theorem xq_sm2 (h : Fm d m M) (hq : Sm 1000 q) : Sm 2400 (xq (pw d m q) q) := ((hq.abs).mul (sm_two (m := 1300) (b := -(pw d m q)) (by have := xq_sm h hq; omega))).mono (by decide)
theorem W1_le (h : Fm d m M) (hz : q.num ≠ 0) : W1 d m way q ≤ 2 ^ d := by
  have hq : q ≠ 0 := fun e => hz (by rw [e]; rfl)
  have := (wh_range (d := d) (m := m) (by have := h.d1; omega) hq).1
  rw [fh_two (d := d) (by have := h.d1; omega)] at this
  unfold W1
  split <;> omega
end
end Rw.Pk01

set_option exponentiation.threshold 300
namespace Rw.Pk01
open PySem L2 Rw
section
variable {k : Nat} {S : Sto} {d : Nat} {m M : Int} {q : Rat} {p : Int} {n : Nat} {way : Str} {s : Int}
theorem shl_bd {a b : Int} (h : Bd 200 a) (hb : 0 ≤ b) (hb2 : b ≤ 10000) : shlOk a b := by
  refine ⟨hb, ?_⟩
  have : Builtin.Int.intBits a ≤ 200 := by
    unfold Builtin.Int.intBits
    split
    · omega
    · have := log_lt h (by decide)
      omega
  omega
theorem val_pos {a : Int} (hp : 0 ≤ p) : Rat.divInt (a * 2 ^ p.toNat) 1 = (a : Rat) * (2 : Rat) ^ p := by
  obtain ⟨n, rfl⟩ := Int.eq_ofNat_of_zero_le hp
  rw [Rat.divInt_eq_div, Int.toNat_natCast, Rat.zpow_natCast, Rat.intCast_mul, Rat.intCast_pow]
  show _ / ((1 : Int) : Rat) = _
  rw [show ((1 : Int) : Rat) = 1 from rfl, Rat.div_def, show (1 : Rat)⁻¹ = 1 by decide +kernel, Rat.mul_one]
  rfl
theorem val_neg {a : Int} (hp : p < 0) : Rat.divInt a (2 ^ (-p).toNat) = (a : Rat) * (2 : Rat) ^ p := by
  obtain ⟨n, e⟩ := Int.eq_ofNat_of_zero_le (show 0 ≤ -p by omega)
  have : p = -(n : Int) := by omega
  subst this
  rw [Int.neg_neg, Int.toNat_natCast, Rat.divInt_eq_div, Rat.zpow_neg, Rat.zpow_natCast, Rat.intCast_pow, Rat.div_def]
  rfl
theorem sg_cast {w : Nat} (hs : s = 0 ∨ s = 1) : (((1 - 2 * s) * (w : Int) : Int) : Rat) * (2 : Rat) ^ p = sgQ s ((w : Rat) * (2 : Rat) ^ p) := by
  unfold sgQ
  rcases hs with rfl | rfl
  · rw [if_neg (by decide), show ((1 - 2 * 0 : Int)) = 1 by decide, Int.one_mul, Rat.intCast_natCast]
  · rw [if_pos rfl, show ((1 - 2 * 1 : Int)) = -1 by decide, Int.neg_one_mul, Rat.intCast_neg, Rat.intCast_natCast, Rat.neg_mul]
theorem lval_num {w : Nat} (hw : Bd 100 (w : Int)) (hp : p.natAbs ≤ 1000) (hs : s = 0 ∨ s = 1) : callK G (k + 2) i__law_val [numD s w p] S = some (fr (sgQ s ((w : Rat) * (2 : Rat) ^ p)), S) := by
  rw [call_fn g__law_val rfl, ← sg_cast hs]
  have hsb : Bd 2 s := by
    show s.natAbs < 2 ^ 2
    omega
  have o1 := Bd.mulOk (n := 2) (a := 2) (show (2 : Nat) < 2 ^ 2 by decide) hsb (by decide)
  have b1 : Bd 2 (1 - 2 * s) := by
    show (1 - 2 * s).natAbs < 2 ^ 2
    omega
  have o2 := b1.mulOk hw (by decide)
  have b2 : Bd 200 ((1 - 2 * s) * (w : Int)) := (b1.mul hw).mono (by decide)
  by_cases c : 0 ≤ p
  · have o3 := shl_bd b2 c (by omega)
    have e := least_ok (k := k) (S := S) (u := (1 - 2 * s) * (w : Int) * 2 ^ p.toNat) (l := 1) (by decide) (Nat.one_lt_two_pow (by decide))
    rw [val_pos c] at e
    simp only [E1, E2, E3, E4, E5, E6, E7, E8, E9, List.map_cons, List.map_nil, List.cons_append, List.nil_append, List.append_nil, List.length_cons, List.length_nil, List.replicate_zero, List.replicate_succ, Nat.sub_self, Nat.zero_add, List.getElem?_cons_zero, List.getElem?_cons_succ, List.set_cons_zero, List.set_cons_succ, if_true, if_false, Bool.false_eq_true, decide_true, decide_false, Bool.not_true, Bool.not_false, decide_eq_true_eq, eq_self, Int.cast_ofNat_Int, Int.natCast_zero, Int.natCast_one, Nat.reduceLeDiff, Nat.reduceSub, Nat.reduceAdd, Nat.reduceLT, reduceIte, reduceCtorEq, Int.reduceEq, Int.reduceLT, Int.reduceLE, Int.reduceNeg, Int.reduceAdd, Int.reduceSub, Int.reduceMul, Int.reduceNe, Int.reduceBNe, Int.reduceBEq, f__law_val, idx_n0, idx_n1, idx_n2, idx_n3, YN, o1, o2, o3, c, e]
  · have o3 := shl_one (b := 0 - p) (by omega) (by omega)
    have hb : Bd 8999 (2 ^ (-p).toNat) := by
      show ((2 : Int) ^ (-p).toNat).natAbs < 2 ^ 8999
      rw [Int.natAbs_pow]
      exact Nat.pow_lt_pow_right (by decide) (by omega)
    have hne : (2 : Int) ^ (-p).toNat ≠ 0 := by
      have := pow_succ_eq (-p).toNat
      omega
    have e := least_ok (k := k) (S := S) (u := (1 - 2 * s) * (w : Int)) (l := 2 ^ (-p).toNat) hne hb
    rw [val_neg (by omega)] at e
    have z : (1 : Int) * 2 ^ (0 - p).toNat = 2 ^ (-p).toNat := by rw [Int.one_mul, Int.zero_sub]
    simp only [E1, E2, E3, E4, E5, E6, E7, E8, E9, List.map_cons, List.map_nil, List.cons_append, List.nil_append, List.append_nil, List.length_cons, List.length_nil, List.replicate_zero, List.replicate_succ, Nat.sub_self, Nat.zero_add, List.getElem?_cons_zero, List.getElem?_cons_succ, List.set_cons_zero, List.set_cons_succ, if_true, if_false, Bool.false_eq_true, decide_true, decide_false, Bool.not_true, Bool.not_false, decide_eq_true_eq, eq_self, Int.cast_ofNat_Int, Int.natCast_zero, Int.natCast_one, Nat.reduceLeDiff, Nat.reduceSub, Nat.reduceAdd, Nat.reduceLT, reduceIte, reduceCtorEq, Int.reduceEq, Int.reduceLT, Int.reduceLE, Int.reduceNeg, Int.reduceAdd, Int.reduceSub, Int.reduceMul, Int.reduceNe, Int.reduceBNe, Int.reduceBEq, f__law_val, idx_n0, idx_n1, idx_n2, idx_n3, YN, o1, o2, o3, c, z, e]
theorem lval_noth : callK G (k + 2) i__law_val [nothD s] S = some (fr 0, S) := by
  rw [call_fn g__law_val rfl]
  simp only [E1, E2, E3, E4, E5, E6, E7, E8, E9, List.map_cons, List.map_nil, List.cons_append, List.nil_append, List.append_nil, List.length_cons, List.length_nil, List.replicate_zero, List.replicate_succ, Nat.sub_self, Nat.zero_add, List.getElem?_cons_zero, List.getElem?_cons_succ, List.set_cons_zero, List.set_cons_succ, if_true, if_false, Bool.false_eq_true, decide_true, decide_false, Bool.not_true, Bool.not_false, decide_eq_true_eq, eq_self, Int.cast_ofNat_Int, Int.natCast_zero, Int.natCast_one, Nat.reduceLeDiff, Nat.reduceSub, Nat.reduceAdd, Nat.reduceLT, reduceIte, reduceCtorEq, Int.reduceEq, Int.reduceLT, Int.reduceLE, Int.reduceNeg, Int.reduceAdd, Int.reduceSub, Int.reduceMul, Int.reduceNe, Int.reduceBNe, Int.reduceBEq, f__law_val, idx_z0]
  rfl
/-- the numbers in order -/
def rowsL (d : Nat) (m : Int) (n : Nat) : List D := (List.range n).map (rowD d m)
def vlsL (d : Nat) (m : Int) (n : Nat) : List D := (List.range n).map fun k => fr (vl d m k)
theorem row_in (h : Fm d m M) {j : Nat} (hj : j < cnt d m M) : rW d j < 2 * fh d ∧ m ≤ rP d m j ∧ rP d m j ≤ M := by
  have hp := fh_pos (d := d)
  have hle := h.le
  unfold cnt at hj
  unfold rW rP
  by_cases c : j < 2 * fh d
  · rw [if_pos c, if_pos c]
    exact ⟨c, Int.le_refl _, hle⟩
  · rw [if_neg c, if_neg c]
    have h1 : j % fh d < fh d := Nat.mod_lt _ hp
    have h2 : 2 ≤ j / fh d := (Nat.le_div_iff_mul_le hp).mpr (by omega)
    have h3 : j / fh d < 2 + (M - m).toNat := (Nat.div_lt_iff_lt_mul hp).mpr (by rw [Nat.add_mul]; exact hj)
    exact ⟨by omega, by omega, by omega⟩
theorem fh_le (h : Fm d m M) : 2 * fh d ≤ 4096 := by
  rw [fh_two (by have := h.d1; omega)]
  exact Nat.le_trans (Nat.pow_le_pow_right (by decide) h.d2) (by decide)
theorem cnt_le (h : Fm d m M) : cnt d m M ≤ 1000000 := by
  have h1 := fh_le h
  have h2 : (M - m).toNat ≤ 400 := by have := h.m1; have := h.M1; omega
  have := Nat.mul_le_mul h2 (show fh d ≤ 2048 by omega)
  unfold cnt
  omega
theorem cnt_pos : 0 < cnt d m M := by
  have hp := fh_pos (d := d)
  unfold cnt
  omega
theorem vl_sm (h : Fm d m M) {j : Nat} (hj : j < cnt d m M) : Sm 400 (vl d m j) := by
  obtain ⟨h1, h2, h3⟩ := row_in h hj
  have h4 := fh_le h
  have s1 : Sm 13 ((rW d j : Nat) : Rat) := ⟨Nat.lt_of_lt_of_le h1 (Nat.le_trans h4 (by decide)), by show 1 < 2 ^ 13; decide⟩
  have s2 := sm_two (b := rP d m j) (m := 200) (by have := h.m1; have := h.M1; omega)
  exact (s1.mul s2).mono (by decide)
theorem lval_row (h : Fm d m M) {j : Nat} (hj : j < cnt d m M) : callK G (k + 2) i__law_val [rowD d m j] S = some (fr (vl d m j), S) := by
  obtain ⟨h1, h2, h3⟩ := row_in h hj
  have h4 := fh_le h
  unfold rowD mkN vl
  by_cases c : rW d j = 0
  · rw [if_pos c, c]
    rw [show ((0 : Nat) : Rat) * (2 : Rat) ^ rP d m j = 0 from Rat.zero_mul _]
    exact lval_noth
  · rw [if_neg c]
    exact lval_num (s := 0) (show rW d j < 2 ^ 100 from Nat.lt_of_lt_of_le h1 (Nat.le_trans h4 (by decide))) (by have := h.m1; have := h.M1; omega) (.inl rfl)
theorem rows_first (hd : 1 ≤ d) : nothD 0 :: ((List.range (2 ^ d - 1)).map fun (i : Nat) => numD 0 (1 + i) m) = rowsL d m (2 * fh d) := by
  have hp := fh_pos (d := d)
  unfold rowsL
  rw [fh_two hd]
  obtain ⟨n, hn⟩ : ∃ n, 2 ^ d = n + 1 := ⟨2 ^ d - 1, by have := Nat.two_pow_pos d; omega⟩
  rw [hn, List.range_succ_eq_map, List.map_cons, List.map_map, Nat.add_sub_cancel]
  have e0 : rowD d m 0 = nothD 0 := by
    unfold rowD rW mkN
    rw [if_pos (show 0 < 2 * fh d by omega)]
    rfl
  rw [e0]
  congr 1
  refine List.map_congr_left fun i hi => ?_
  have hi := List.mem_range.mp hi
  show _ = rowD d m (i + 1)
  unfold rowD rW rP mkN
  rw [if_pos (show i + 1 < 2 * fh d by rw [fh_two hd]; omega), if_pos (show i + 1 < 2 * fh d by rw [fh_two hd]; omega), if_neg (by omega), Nat.add_comm]
theorem rows_next (i : Nat) : rowsL d m (2 * fh d + i * fh d) ++ ((List.range (fh d)).map fun (j : Nat) => numD 0 (fh d + j) (m + 1 + (i : Int))) = rowsL d m (2 * fh d + (i + 1) * fh d) := by
  have hp := fh_pos (d := d)
  unfold rowsL
  rw [show 2 * fh d + (i + 1) * fh d = (2 * fh d + i * fh d) + fh d by rw [Nat.add_mul]; omega, show List.range ((2 * fh d + i * fh d) + fh d) = List.range (2 * fh d + i * fh d) ++ (List.range (fh d)).map ((2 * fh d + i * fh d) + ·) from List.range_add .., List.map_append, List.map_map]
  congr 1
  refine List.map_congr_left fun j hj => ?_
  have hj := List.mem_range.mp hj
  show _ = rowD d m (2 * fh d + i * fh d + j)
  have := ix_rW (d := d) (m := m) (w := fh d + j) (p := m + 1 + (i : Int)) (by omega) (by omega) (.inr (by omega))
  have e : ixF d m (fh d + j) (m + 1 + (i : Int)) = 2 * fh d + i * fh d + j := by
    unfold ixF
    rw [show (m + 1 + (i : Int) - m).toNat = i + 1 by omega, Nat.add_mul]
    omega
  rw [e] at this
  unfold rowD mkN
  rw [this.1, this.2, if_neg (by omega)]
theorem rows_len {n : Nat} : (rowsL d m n).length = n := by simp [rowsL]
theorem fin_ok (h : Fm d m M) : callK G (k + 1) i__law_fin [fmD d m M] S = some (.lst (rowsL d m (cnt d m M)), S) := by
  rw [call_fn g__law_fin rfl]
  have hp := fh_pos (d := d)
  have hd : 1 ≤ d := by have := h.d1; omega
  have h4 := fh_le h
  have h2d := fh_two hd
  have b1 : ((2 ^ d : Nat) : Int) < 2 ^ 62 := by omega
  have r1 := rng_two (a := 1) (b := ((2 ^ d : Nat) : Int)) ⟨by decide, by decide, by omega, b1⟩
  rw [show (((2 ^ d : Nat) : Int) - 1).toNat = 2 ^ d - 1 by omega] at r1
  have r2 := rng_two (a := m + 1) (b := M + 1) ⟨by have := h.m1; omega, by have := h.m1; omega, by have := h.M1; omega, by have := h.M1; omega⟩
  rw [show (M + 1 - (m + 1)).toNat = (M - m).toNat by omega] at r2
  have r3 := rng_two (a := ((fh d : Nat) : Int)) (b := ((2 ^ d : Nat) : Int)) ⟨by omega, by omega, by omega, b1⟩
  rw [show (((2 ^ d : Nat) : Int) - ((fh d : Nat) : Int)).toNat = fh d by omega] at r3
  have c1 : ∀ all x4 x5, compL none all (ctn G (callK G k) e__law_fin_0 (.name 6) .none [some (fmD d m M), some (.int (d : Int)), some (.int m), some (.int M), x4, x5, none]) ((List.range (2 ^ d - 1)).map fun (i : Nat) => D.int (1 + (i : Int))) S [] = some ((List.range (2 ^ d - 1)).map fun (i : Nat) => numD 0 (1 + i) m, S) := fun all x4 x5 => by
    have := compL_mapT (all := all) (turn := ctn G (callK G k) e__law_fin_0 (.name 6) .none [some (fmD d m M), some (.int (d : Int)), some (.int m), some (.int M), x4, x5, none]) (S := S) (g := fun (i : Nat) => D.int (1 + (i : Int))) (f := fun (i : Nat) => numD 0 (1 + i) m) (xs := List.range (2 ^ d - 1)) (acc := []) fun x hx => by
      unfold ctn
      simp only [E1, E2, E3, E4, E5, E6, E7, E8, E9, List.map_cons, List.map_nil, List.cons_append, List.nil_append, List.append_nil, List.length_cons, List.length_nil, List.replicate_zero, List.replicate_succ, Nat.sub_self, Nat.zero_add, List.getElem?_cons_zero, List.getElem?_cons_succ, List.set_cons_zero, List.set_cons_succ, if_true, if_false, Bool.false_eq_true, decide_true, decide_false, Bool.not_true, Bool.not_false, decide_eq_true_eq, eq_self, Int.cast_ofNat_Int, Int.natCast_zero, Int.natCast_one, Nat.reduceLeDiff, Nat.reduceSub, Nat.reduceAdd, Nat.reduceLT, reduceIte, reduceCtorEq, Int.reduceEq, Int.reduceLT, Int.reduceLE, Int.reduceNeg, Int.reduceAdd, Int.reduceSub, Int.reduceMul, Int.reduceNe, Int.reduceBNe, Int.reduceBEq, e__law_fin_0]
      rfl
    rw [List.nil_append] at this
    exact this
  have l1 : 1 + (2 ^ d - 1) ≤ sizeLine := le_size (by omega)
  have l0 : 2 ^ d - 1 ≤ sizeLine := le_size (by omega)
  have l5 : fh d ≤ sizeLine := le_size (by omega)
  have f1 := rows_first (m := m) hd
  obtain ⟨ρ1, S1, hl, x5, x6, rfl, rfl⟩ := forL_run (all := (List.range (M - m).toNat).map fun (i : Nat) => D.int (m + 1 + (i : Int))) (body := fbd G (callK G k) (.name 5) b__law_fin_1) (xs := (List.range (M - m).toNat).map fun (i : Nat) => D.int (m + 1 + (i : Int))) (ρ := [some (fmD d m M), some (.int (d : Int)), some (.int m), some (.int M), some (.lst (rowsL d m (2 * fh d))), none, none]) (S := S)
    (I := fun i ρ S' => ∃ (x5 x6 : Option D), ρ = [some (fmD d m M), some (.int (d : Int)), some (.int m), some (.int M), some (.lst (rowsL d m (2 * fh d + i * fh d))), x5, x6] ∧ S' = S)
    (by
      rintro i x ρ S' hx ⟨x5, x6, rfl, rfl⟩
      have hi : i < (M - m).toNat := by
        have := (List.getElem?_eq_some_iff.mp hx).1
        simpa using this
      have hxi : x = .int (m + 1 + (i : Int)) := by
        have := (List.getElem?_eq_some_iff.mp hx).2
        simpa using this.symm
      subst hxi
      have c2 : ∀ all x4, compL none all (ctn G (callK G k) e__law_fin_2 (.name 6) .none [some (fmD d m M), some (.int (d : Int)), some (.int m), some (.int M), x4, some (.int (m + 1 + (i : Int))), none]) ((List.range (fh d)).map fun (j : Nat) => D.int (((fh d : Nat) : Int) + (j : Int))) S' [] = some ((List.range (fh d)).map fun (j : Nat) => numD 0 (fh d + j) (m + 1 + (i : Int)), S') := fun all x4 => by
        have := compL_mapT (all := all) (turn := ctn G (callK G k) e__law_fin_2 (.name 6) .none [some (fmD d m M), some (.int (d : Int)), some (.int m), some (.int M), x4, some (.int (m + 1 + (i : Int))), none]) (S := S') (g := fun (j : Nat) => D.int (((fh d : Nat) : Int) + (j : Int))) (f := fun (j : Nat) => numD 0 (fh d + j) (m + 1 + (i : Int))) (xs := List.range (fh d)) (acc := []) fun x hx => by
          unfold ctn
          simp only [E1, E2, E3, E4, E5, E6, E7, E8, E9, List.map_cons, List.map_nil, List.cons_append, List.nil_append, List.append_nil, List.length_cons, List.length_nil, List.replicate_zero, List.replicate_succ, Nat.sub_self, Nat.zero_add, List.getElem?_cons_zero, List.getElem?_cons_succ, List.set_cons_zero, List.set_cons_succ, if_true, if_false, Bool.false_eq_true, decide_true, decide_false, Bool.not_true, Bool.not_false, decide_eq_true_eq, eq_self, Int.cast_ofNat_Int, Int.natCast_zero, Int.natCast_one, Nat.reduceLeDiff, Nat.reduceSub, Nat.reduceAdd, Nat.reduceLT, reduceIte, reduceCtorEq, Int.reduceEq, Int.reduceLT, Int.reduceLE, Int.reduceNeg, Int.reduceAdd, Int.reduceSub, Int.reduceMul, Int.reduceNe, Int.reduceBNe, Int.reduceBEq, e__law_fin_2]
          rfl
        rw [List.nil_append] at this
        exact this
      have ll : 2 * fh d + i * fh d + fh d ≤ sizeLine := le_size (by
        have h5 := cnt_le h
        unfold cnt at h5
        have : (i + 1) * fh d ≤ (M - m).toNat * fh d := Nat.mul_le_mul_right _ hi
        rw [Nat.add_mul] at this
        omega)
      refine ⟨_, _, ?_, some (.int (m + 1 + (i : Int))), x6, rfl, rfl⟩
      unfold fbd
      simp only [E1, E2, E3, E4, E5, E6, E7, E8, E9, List.map_cons, List.map_nil, List.cons_append, List.nil_append, List.append_nil, List.length_cons, List.length_nil, List.replicate_zero, List.replicate_succ, Nat.sub_self, Nat.zero_add, List.getElem?_cons_zero, List.getElem?_cons_succ, List.set_cons_zero, List.set_cons_succ, if_true, if_false, Bool.false_eq_true, decide_true, decide_false, Bool.not_true, Bool.not_false, decide_eq_true_eq, eq_self, Int.cast_ofNat_Int, Int.natCast_zero, Int.natCast_one, Nat.reduceLeDiff, Nat.reduceSub, Nat.reduceAdd, Nat.reduceLT, reduceIte, reduceCtorEq, Int.reduceEq, Int.reduceLT, Int.reduceLE, Int.reduceNeg, Int.reduceAdd, Int.reduceSub, Int.reduceMul, Int.reduceNe, Int.reduceBNe, Int.reduceBEq, b__law_fin_1, shl_d h, shl_d1 h, pow_d, pow_d1 h, r3, List.length_map, List.length_range, l5, wipe_nil, wipe_cons, c2, rows_len, ll, rows_next])
    ⟨none, none, by rw [Nat.zero_mul, Nat.add_zero], rfl⟩
  simp only [List.length_map, List.length_range] at hl
  have hmk : D.tup [.str "nothing", .int 0] = nothD 0 := rfl
  simp only [E1, E2, E3, E4, E5, E6, E7, E8, E9, List.map_cons, List.map_nil, List.cons_append, List.nil_append, List.append_nil, List.length_cons, List.length_nil, List.replicate_zero, List.replicate_succ, Nat.sub_self, Nat.zero_add, List.getElem?_cons_zero, List.getElem?_cons_succ, List.set_cons_zero, List.set_cons_succ, if_true, if_false, Bool.false_eq_true, decide_true, decide_false, Bool.not_true, Bool.not_false, decide_eq_true_eq, eq_self, Int.cast_ofNat_Int, Int.natCast_zero, Int.natCast_one, Nat.reduceLeDiff, Nat.reduceSub, Nat.reduceAdd, Nat.reduceLT, reduceIte, reduceCtorEq, Int.reduceEq, Int.reduceLT, Int.reduceLE, Int.reduceNeg, Int.reduceAdd, Int.reduceSub, Int.reduceMul, Int.reduceNe, Int.reduceBNe, Int.reduceBEq, f__law_fin, asg_fm, shl_d h, pow_d, r1, List.length_map, List.length_range, l0, wipe_nil, wipe_cons, c1, l1, hmk, f1, r2, hl]
  rfl
end

end Rw.Pk01

set_option exponentiation.threshold 300
namespace Rw.Pk01
open PySem L2 Rw
section
variable {k : Nat} {S T : Sto} {d j : Nat} {m M i : Int} {way : Str} {s t p : Int} {v w : Nat} {q o A P : Rat} {L : List D} {K : Int}
def rowS (d : Nat) (m : Int) (s : Int) (j : Nat) : D := mkN s (rW d j) (rP d m j)
theorem ix_row (hd : 1 ≤ d) : ixF d m (rW d j) (rP d m j) = j := by
  have hp := fh_pos (d := d)
  unfold ixF rW rP
  by_cases c : j < 2 * fh d
  · rw [if_pos c, if_pos c]
    simp
  · rw [if_neg c, if_neg c]
    have h2 : 2 ≤ j / fh d := (Nat.le_div_iff_mul_le hp).mpr (by omega)
    have h3 := Nat.div_add_mod j (fh d)
    rw [show (m + ((j / fh d : Nat) : Int) - 1 - m).toNat = j / fh d - 1 by omega, Nat.sub_mul, Nat.one_mul, Nat.mul_comm (j / fh d)]
    have : fh d ≤ fh d * (j / fh d) := Nat.le_mul_of_pos_right _ (by omega)
    omega
theorem row_rng (h : Fm d m M) (hj : j < cnt d m M) : rP d m j = m ∨ fh d ≤ rW d j := by
  unfold rW rP
  by_cases c : j < 2 * fh d
  · rw [if_pos c]; exact .inl rfl
  · rw [if_neg c, if_neg c]; exact .inr (Nat.le_add_right _ _)
theorem row_nz (h : Fm d m M) (hj : 0 < j) : rW d j ≠ 0 := by
  have hp := fh_pos (d := d)
  unfold rW
  split <;> omega
theorem rowS_num (h : Fm d m M) (hj : 0 < j) : rowS d m s j = numD s (rW d j) (rP d m j) := by
  unfold rowS mkN
  rw [if_neg (row_nz h hj)]
theorem rowS_0 : rowS d m s 0 = nothD s := by
  have hp := fh_pos (d := d)
  unfold rowS mkN rW
  rw [if_pos (show 0 < 2 * fh d by omega), if_pos rfl]
/-- with the other sign -/
def flD (z : D) : D := match z with
  | .tup (x :: .int s :: r) => .tup (x :: .int (1 - s) :: r)
  | z => z
theorem fl_n : flD (numD s v p) = numD (1 - s) v p := rfl
theorem fl_z : flD (nothD s) = nothD (1 - s) := rfl
theorem fl_e : flD (endD s) = endD (1 - s) := rfl
theorem fl_row : flD (rowS d m s j) = rowS d m (1 - s) j := by
  unfold rowS mkN
  split <;> rfl
def IsNm (z : D) : Prop := (∃ (s : Int) (v : Nat) (p : Int), z = numD s v p) ∨ (∃ s : Int, z = nothD s) ∨ ∃ s : Int, z = endD s
theorem isNm_row : IsNm (rowS d m s j) := by
  unfold rowS mkN
  split
  · exact .inr (.inl ⟨s, rfl⟩)
  · exact .inl ⟨s, _, _, rfl⟩
theorem so_number : PyData.strOk ("number" : Str) = true := by decide +kernel
theorem so_nothing : PyData.strOk ("nothing" : Str) = true := by decide +kernel
theorem so_endless : PyData.strOk ("endless" : Str) = true := by decide +kernel
theorem so_none : PyData.strOk ("none" : Str) = true := by decide +kernel
theorem so_invalid : PyData.strOk ("invalid" : Str) = true := by decide +kernel
theorem so_division : PyData.strOk ("division" : Str) = true := by decide +kernel
theorem so_inexact : PyData.strOk ("inexact" : Str) = true := by decide +kernel
theorem so_underflow : PyData.strOk ("underflow" : Str) = true := by decide +kernel
theorem so_overflow : PyData.strOk ("overflow" : Str) = true := by decide +kernel
theorem okD_n : okD 1 (numD s w p) = true := by
  simp only [numD, okD, okDs, so_number, Bool.and_true, Bool.true_and, List.length_cons, List.length_nil, decide_eq_true_eq]
  exact le_size (by decide)
theorem okD_z : okD 1 (nothD s) = true := by
  simp only [nothD, okD, okDs, so_nothing, Bool.and_true, Bool.true_and, List.length_cons, List.length_nil, decide_eq_true_eq]
  exact le_size (by decide)
theorem okD_e : okD 1 (endD s) = true := by
  simp only [endD, okD, okDs, so_endless, Bool.and_true, Bool.true_and, List.length_cons, List.length_nil, decide_eq_true_eq]
  exact le_size (by decide)
theorem okD_o : okD 1 noneD = true := by
  simp only [noneD, okD, okDs, so_none, Bool.and_true, Bool.true_and, List.length_cons, List.length_nil, decide_eq_true_eq]
  exact le_size (by decide)
theorem sl1_end : slD S (endD s) none (some 1) = some (.tup [.str "endless"]) := sl_01
theorem sl2_end : slD S (endD s) (some 2) none = some (.tup []) := sl_2
theorem flip_ok {z : D} (hz : IsNm z) : callK G (k + 1) i__law_flip [z] S = some (flD z, S) := by
  rw [call_fn g__law_flip rfl]
  rcases hz with ⟨s, v, p, rfl⟩ | ⟨s, rfl⟩ | ⟨s, rfl⟩
  · rw [fl_n]
    simp only [E1, E2, E3, E4, E5, E6, E7, E8, E9, List.map_cons, List.map_nil, List.cons_append, List.nil_append, List.append_nil, List.length_cons, List.length_nil, List.replicate_zero, List.replicate_succ, Nat.sub_self, Nat.zero_add, List.getElem?_cons_zero, List.getElem?_cons_succ, List.set_cons_zero, List.set_cons_succ, if_true, if_false, Bool.false_eq_true, decide_true, decide_false, Bool.not_true, Bool.not_false, decide_eq_true_eq, eq_self, Int.cast_ofNat_Int, Int.natCast_zero, Int.natCast_one, Nat.reduceLeDiff, Nat.reduceSub, Nat.reduceAdd, Nat.reduceLT, reduceIte, reduceCtorEq, Int.reduceEq, Int.reduceLT, Int.reduceLE, Int.reduceNeg, Int.reduceAdd, Int.reduceSub, Int.reduceMul, Int.reduceNe, Int.reduceBNe, Int.reduceBEq, f__law_flip, idx_n0, idx_n1, YN, sl1_num, sl2_num, mk_num]
  · rw [fl_z]
    simp only [E1, E2, E3, E4, E5, E6, E7, E8, E9, List.map_cons, List.map_nil, List.cons_append, List.nil_append, List.append_nil, List.length_cons, List.length_nil, List.replicate_zero, List.replicate_succ, Nat.sub_self, Nat.zero_add, List.getElem?_cons_zero, List.getElem?_cons_succ, List.set_cons_zero, List.set_cons_succ, if_true, if_false, Bool.false_eq_true, decide_true, decide_false, Bool.not_true, Bool.not_false, decide_eq_true_eq, eq_self, Int.cast_ofNat_Int, Int.natCast_zero, Int.natCast_one, Nat.reduceLeDiff, Nat.reduceSub, Nat.reduceAdd, Nat.reduceLT, reduceIte, reduceCtorEq, Int.reduceEq, Int.reduceLT, Int.reduceLE, Int.reduceNeg, Int.reduceAdd, Int.reduceSub, Int.reduceMul, Int.reduceNe, Int.reduceBNe, Int.reduceBEq, f__law_flip, idx_z0, idx_z1, YN, sl1_noth, sl2_noth]
    rfl
  · rw [fl_e]
    simp only [E1, E2, E3, E4, E5, E6, E7, E8, E9, List.map_cons, List.map_nil, List.cons_append, List.nil_append, List.append_nil, List.length_cons, List.length_nil, List.replicate_zero, List.replicate_succ, Nat.sub_self, Nat.zero_add, List.getElem?_cons_zero, List.getElem?_cons_succ, List.set_cons_zero, List.set_cons_succ, if_true, if_false, Bool.false_eq_true, decide_true, decide_false, Bool.not_true, Bool.not_false, decide_eq_true_eq, eq_self, Int.cast_ofNat_Int, Int.natCast_zero, Int.natCast_one, Nat.reduceLeDiff, Nat.reduceSub, Nat.reduceAdd, Nat.reduceLT, reduceIte, reduceCtorEq, Int.reduceEq, Int.reduceLT, Int.reduceLE, Int.reduceNeg, Int.reduceAdd, Int.reduceSub, Int.reduceMul, Int.reduceNe, Int.reduceBNe, Int.reduceBEq, f__law_flip, idx_e0, idx_e1, YN, sl1_end, sl2_end]
    rfl
theorem turned_ok {z : D} (hz : IsNm z) : callK G (k + 1) i_turned [z] S = some (flD z, S) := by
  rw [call_fn g_turned rfl]
  rcases hz with ⟨s, v, p, rfl⟩ | ⟨s, rfl⟩ | ⟨s, rfl⟩
  · rw [fl_n]
    simp only [E1, E2, E3, E4, E5, E6, E7, E8, E9, List.map_cons, List.map_nil, List.cons_append, List.nil_append, List.append_nil, List.length_cons, List.length_nil, List.replicate_zero, List.replicate_succ, Nat.sub_self, Nat.zero_add, List.getElem?_cons_zero, List.getElem?_cons_succ, List.set_cons_zero, List.set_cons_succ, if_true, if_false, Bool.false_eq_true, decide_true, decide_false, Bool.not_true, Bool.not_false, decide_eq_true_eq, eq_self, Int.cast_ofNat_Int, Int.natCast_zero, Int.natCast_one, Nat.reduceLeDiff, Nat.reduceSub, Nat.reduceAdd, Nat.reduceLT, reduceIte, reduceCtorEq, Int.reduceEq, Int.reduceLT, Int.reduceLE, Int.reduceNeg, Int.reduceAdd, Int.reduceSub, Int.reduceMul, Int.reduceNe, Int.reduceBNe, Int.reduceBEq, f_turned, idx_n0, idx_n1, YN, sl1_num, sl2_num, mk_num]
  · rw [fl_z]
    simp only [E1, E2, E3, E4, E5, E6, E7, E8, E9, List.map_cons, List.map_nil, List.cons_append, List.nil_append, List.append_nil, List.length_cons, List.length_nil, List.replicate_zero, List.replicate_succ, Nat.sub_self, Nat.zero_add, List.getElem?_cons_zero, List.getElem?_cons_succ, List.set_cons_zero, List.set_cons_succ, if_true, if_false, Bool.false_eq_true, decide_true, decide_false, Bool.not_true, Bool.not_false, decide_eq_true_eq, eq_self, Int.cast_ofNat_Int, Int.natCast_zero, Int.natCast_one, Nat.reduceLeDiff, Nat.reduceSub, Nat.reduceAdd, Nat.reduceLT, reduceIte, reduceCtorEq, Int.reduceEq, Int.reduceLT, Int.reduceLE, Int.reduceNeg, Int.reduceAdd, Int.reduceSub, Int.reduceMul, Int.reduceNe, Int.reduceBNe, Int.reduceBEq, f_turned, idx_z0, idx_z1, YN, sl1_noth, sl2_noth]
    rfl
  · rw [fl_e]
    simp only [E1, E2, E3, E4, E5, E6, E7, E8, E9, List.map_cons, List.map_nil, List.cons_append, List.nil_append, List.append_nil, List.length_cons, List.length_nil, List.replicate_zero, List.replicate_succ, Nat.sub_self, Nat.zero_add, List.getElem?_cons_zero, List.getElem?_cons_succ, List.set_cons_zero, List.set_cons_succ, if_true, if_false, Bool.false_eq_true, decide_true, decide_false, Bool.not_true, Bool.not_false, decide_eq_true_eq, eq_self, Int.cast_ofNat_Int, Int.natCast_zero, Int.natCast_one, Nat.reduceLeDiff, Nat.reduceSub, Nat.reduceAdd, Nat.reduceLT, reduceIte, reduceCtorEq, Int.reduceEq, Int.reduceLT, Int.reduceLE, Int.reduceNeg, Int.reduceAdd, Int.reduceSub, Int.reduceMul, Int.reduceNe, Int.reduceBNe, Int.reduceBEq, f_turned, idx_e0, idx_e1, YN, sl1_end, sl2_end]
    rfl
theorem flip_o : callK G (k + 1) i__law_flip [noneD] S = some (noneD, S) := by
  rw [call_fn g__law_flip rfl]
  simp only [E1, E2, E3, E4, E5, E6, E7, E8, E9, List.map_cons, List.map_nil, List.cons_append, List.nil_append, List.append_nil, List.length_cons, List.length_nil, List.replicate_zero, List.replicate_succ, Nat.sub_self, Nat.zero_add, List.getElem?_cons_zero, List.getElem?_cons_succ, List.set_cons_zero, List.set_cons_succ, if_true, if_false, Bool.false_eq_true, decide_true, decide_false, Bool.not_true, Bool.not_false, decide_eq_true_eq, eq_self, Int.cast_ofNat_Int, Int.natCast_zero, Int.natCast_one, Nat.reduceLeDiff, Nat.reduceSub, Nat.reduceAdd, Nat.reduceLT, reduceIte, reduceCtorEq, Int.reduceEq, Int.reduceLT, Int.reduceLE, Int.reduceNeg, Int.reduceAdd, Int.reduceSub, Int.reduceMul, Int.reduceNe, Int.reduceBNe, Int.reduceBEq, f__law_flip, idx_o0]
theorem turned_o : callK G (k + 1) i_turned [noneD] S = some (noneD, S) := by
  rw [call_fn g_turned rfl]
  simp only [E1, E2, E3, E4, E5, E6, E7, E8, E9, List.map_cons, List.map_nil, List.cons_append, List.nil_append, List.append_nil, List.length_cons, List.length_nil, List.replicate_zero, List.replicate_succ, Nat.sub_self, Nat.zero_add, List.getElem?_cons_zero, List.getElem?_cons_succ, List.set_cons_zero, List.set_cons_succ, if_true, if_false, Bool.false_eq_true, decide_true, decide_false, Bool.not_true, Bool.not_false, decide_eq_true_eq, eq_self, Int.cast_ofNat_Int, Int.natCast_zero, Int.natCast_one, Nat.reduceLeDiff, Nat.reduceSub, Nat.reduceAdd, Nat.reduceLT, reduceIte, reduceCtorEq, Int.reduceEq, Int.reduceLT, Int.reduceLE, Int.reduceNeg, Int.reduceAdd, Int.reduceSub, Int.reduceMul, Int.reduceNe, Int.reduceBNe, Int.reduceBEq, f_turned, idx_o0]
def szO (z : D) : D := match z with
  | .tup (x :: .int _ :: r) => .tup (x :: .int 0 :: r)
  | z => z
theorem so_n : szO (numD s v p) = numD 0 v p := rfl
theorem so_z : szO (nothD s) = nothD 0 := rfl
theorem so_e : szO (endD s) = endD 0 := rfl
theorem sized_ok {z : D} (hz : IsNm z) : callK G (k + 1) i_sized [z] S = some (szO z, S) := by
  rw [call_fn g_sized rfl]
  rcases hz with ⟨s, v, p, rfl⟩ | ⟨s, rfl⟩ | ⟨s, rfl⟩
  · rw [so_n]
    simp only [E1, E2, E3, E4, E5, E6, E7, E8, E9, List.map_cons, List.map_nil, List.cons_append, List.nil_append, List.append_nil, List.length_cons, List.length_nil, List.replicate_zero, List.replicate_succ, Nat.sub_self, Nat.zero_add, List.getElem?_cons_zero, List.getElem?_cons_succ, List.set_cons_zero, List.set_cons_succ, if_true, if_false, Bool.false_eq_true, decide_true, decide_false, Bool.not_true, Bool.not_false, decide_eq_true_eq, eq_self, Int.cast_ofNat_Int, Int.natCast_zero, Int.natCast_one, Nat.reduceLeDiff, Nat.reduceSub, Nat.reduceAdd, Nat.reduceLT, reduceIte, reduceCtorEq, Int.reduceEq, Int.reduceLT, Int.reduceLE, Int.reduceNeg, Int.reduceAdd, Int.reduceSub, Int.reduceMul, Int.reduceNe, Int.reduceBNe, Int.reduceBEq, f_sized, idx_n0, idx_n1, YN, sl1_num, sl2_num, mk_num]
  · rw [so_z]
    simp only [E1, E2, E3, E4, E5, E6, E7, E8, E9, List.map_cons, List.map_nil, List.cons_append, List.nil_append, List.append_nil, List.length_cons, List.length_nil, List.replicate_zero, List.replicate_succ, Nat.sub_self, Nat.zero_add, List.getElem?_cons_zero, List.getElem?_cons_succ, List.set_cons_zero, List.set_cons_succ, if_true, if_false, Bool.false_eq_true, decide_true, decide_false, Bool.not_true, Bool.not_false, decide_eq_true_eq, eq_self, Int.cast_ofNat_Int, Int.natCast_zero, Int.natCast_one, Nat.reduceLeDiff, Nat.reduceSub, Nat.reduceAdd, Nat.reduceLT, reduceIte, reduceCtorEq, Int.reduceEq, Int.reduceLT, Int.reduceLE, Int.reduceNeg, Int.reduceAdd, Int.reduceSub, Int.reduceMul, Int.reduceNe, Int.reduceBNe, Int.reduceBEq, f_sized, idx_z0, idx_z1, YN, sl1_noth, sl2_noth]
    rfl
  · rw [so_e]
    simp only [E1, E2, E3, E4, E5, E6, E7, E8, E9, List.map_cons, List.map_nil, List.cons_append, List.nil_append, List.append_nil, List.length_cons, List.length_nil, List.replicate_zero, List.replicate_succ, Nat.sub_self, Nat.zero_add, List.getElem?_cons_zero, List.getElem?_cons_succ, List.set_cons_zero, List.set_cons_succ, if_true, if_false, Bool.false_eq_true, decide_true, decide_false, Bool.not_true, Bool.not_false, decide_eq_true_eq, eq_self, Int.cast_ofNat_Int, Int.natCast_zero, Int.natCast_one, Nat.reduceLeDiff, Nat.reduceSub, Nat.reduceAdd, Nat.reduceLT, reduceIte, reduceCtorEq, Int.reduceEq, Int.reduceLT, Int.reduceLE, Int.reduceNeg, Int.reduceAdd, Int.reduceSub, Int.reduceMul, Int.reduceNe, Int.reduceBNe, Int.reduceBEq, f_sized, idx_e0, idx_e1, YN, sl1_end, sl2_end]
    rfl
theorem sized_o : callK G (k + 1) i_sized [noneD] S = some (noneD, S) := by
  rw [call_fn g_sized rfl]
  simp only [E1, E2, E3, E4, E5, E6, E7, E8, E9, List.map_cons, List.map_nil, List.cons_append, List.nil_append, List.append_nil, List.length_cons, List.length_nil, List.replicate_zero, List.replicate_succ, Nat.sub_self, Nat.zero_add, List.getElem?_cons_zero, List.getElem?_cons_succ, List.set_cons_zero, List.set_cons_succ, if_true, if_false, Bool.false_eq_true, decide_true, decide_false, Bool.not_true, Bool.not_false, decide_eq_true_eq, eq_self, Int.cast_ofNat_Int, Int.natCast_zero, Int.natCast_one, Nat.reduceLeDiff, Nat.reduceSub, Nat.reduceAdd, Nat.reduceLT, reduceIte, reduceCtorEq, Int.reduceEq, Int.reduceLT, Int.reduceLE, Int.reduceNeg, Int.reduceAdd, Int.reduceSub, Int.reduceMul, Int.reduceNe, Int.reduceBNe, Int.reduceBEq, f_sized, idx_o0]
theorem in_nn_num : cmpD S .In (.str "number") (.tup [.str "number", .str "nothing"]) = some true := in_strT (xs := ["number", "nothing"]) (by decide +kernel) (by decide) (by decide +kernel)
theorem in_nn_noth : cmpD S .In (.str "nothing") (.tup [.str "number", .str "nothing"]) = some true := in_strT (xs := ["number", "nothing"]) (by decide +kernel) (by decide) (by decide +kernel)
theorem in_nn_end : cmpD S .In (.str "endless") (.tup [.str "number", .str "nothing"]) = some false := in_strT (xs := ["number", "nothing"]) (by decide +kernel) (by decide) (by decide +kernel)
theorem in_nn_none : cmpD S .In (.str "none") (.tup [.str "number", .str "nothing"]) = some false := in_strT (xs := ["number", "nothing"]) (by decide +kernel) (by decide) (by decide +kernel)
theorem in_ne_num : cmpD S .In (.str "number") (.tup [.str "nothing", .str "endless"]) = some false := in_strT (xs := ["nothing", "endless"]) (by decide +kernel) (by decide) (by decide +kernel)
theorem in_ne_noth : cmpD S .In (.str "nothing") (.tup [.str "nothing", .str "endless"]) = some true := in_strT (xs := ["nothing", "endless"]) (by decide +kernel) (by decide) (by decide +kernel)
theorem in_ne_end : cmpD S .In (.str "endless") (.tup [.str "nothing", .str "endless"]) = some true := in_strT (xs := ["nothing", "endless"]) (by decide +kernel) (by decide) (by decide +kernel)
theorem in_ne_some : cmpD S .In (.str "some") (.tup [.str "nothing", .str "endless"]) = some false := in_strT (xs := ["nothing", "endless"]) (by decide +kernel) (by decide) (by decide +kernel)
theorem fin_n : callK G (k + 1) i_is_finite [numD s v p] S = some (.bl true, S) := by
  rw [call_fn g_is_finite rfl]
  simp only [E1, E2, E3, E4, E5, E6, E7, E8, E9, List.map_cons, List.map_nil, List.cons_append, List.nil_append, List.append_nil, List.length_cons, List.length_nil, List.replicate_zero, List.replicate_succ, Nat.sub_self, Nat.zero_add, List.getElem?_cons_zero, List.getElem?_cons_succ, List.set_cons_zero, List.set_cons_succ, if_true, if_false, Bool.false_eq_true, decide_true, decide_false, Bool.not_true, Bool.not_false, decide_eq_true_eq, eq_self, Int.cast_ofNat_Int, Int.natCast_zero, Int.natCast_one, Nat.reduceLeDiff, Nat.reduceSub, Nat.reduceAdd, Nat.reduceLT, reduceIte, reduceCtorEq, Int.reduceEq, Int.reduceLT, Int.reduceLE, Int.reduceNeg, Int.reduceAdd, Int.reduceSub, Int.reduceMul, Int.reduceNe, Int.reduceBNe, Int.reduceBEq, f_is_finite, idx_n0, in_nn_num]
theorem fin_z : callK G (k + 1) i_is_finite [nothD s] S = some (.bl true, S) := by
  rw [call_fn g_is_finite rfl]
  simp only [E1, E2, E3, E4, E5, E6, E7, E8, E9, List.map_cons, List.map_nil, List.cons_append, List.nil_append, List.append_nil, List.length_cons, List.length_nil, List.replicate_zero, List.replicate_succ, Nat.sub_self, Nat.zero_add, List.getElem?_cons_zero, List.getElem?_cons_succ, List.set_cons_zero, List.set_cons_succ, if_true, if_false, Bool.false_eq_true, decide_true, decide_false, Bool.not_true, Bool.not_false, decide_eq_true_eq, eq_self, Int.cast_ofNat_Int, Int.natCast_zero, Int.natCast_one, Nat.reduceLeDiff, Nat.reduceSub, Nat.reduceAdd, Nat.reduceLT, reduceIte, reduceCtorEq, Int.reduceEq, Int.reduceLT, Int.reduceLE, Int.reduceNeg, Int.reduceAdd, Int.reduceSub, Int.reduceMul, Int.reduceNe, Int.reduceBNe, Int.reduceBEq, f_is_finite, idx_z0, in_nn_noth]
theorem fin_e : callK G (k + 1) i_is_finite [endD s] S = some (.bl false, S) := by
  rw [call_fn g_is_finite rfl]
  simp only [E1, E2, E3, E4, E5, E6, E7, E8, E9, List.map_cons, List.map_nil, List.cons_append, List.nil_append, List.append_nil, List.length_cons, List.length_nil, List.replicate_zero, List.replicate_succ, Nat.sub_self, Nat.zero_add, List.getElem?_cons_zero, List.getElem?_cons_succ, List.set_cons_zero, List.set_cons_succ, if_true, if_false, Bool.false_eq_true, decide_true, decide_false, Bool.not_true, Bool.not_false, decide_eq_true_eq, eq_self, Int.cast_ofNat_Int, Int.natCast_zero, Int.natCast_one, Nat.reduceLeDiff, Nat.reduceSub, Nat.reduceAdd, Nat.reduceLT, reduceIte, reduceCtorEq, Int.reduceEq, Int.reduceLT, Int.reduceLE, Int.reduceNeg, Int.reduceAdd, Int.reduceSub, Int.reduceMul, Int.reduceNe, Int.reduceBNe, Int.reduceBEq, f_is_finite, idx_e0, in_nn_end]
theorem fin_o : callK G (k + 1) i_is_finite [noneD] S = some (.bl false, S) := by
  rw [call_fn g_is_finite rfl]
  simp only [E1, E2, E3, E4, E5, E6, E7, E8, E9, List.map_cons, List.map_nil, List.cons_append, List.nil_append, List.append_nil, List.length_cons, List.length_nil, List.replicate_zero, List.replicate_succ, Nat.sub_self, Nat.zero_add, List.getElem?_cons_zero, List.getElem?_cons_succ, List.set_cons_zero, List.set_cons_succ, if_true, if_false, Bool.false_eq_true, decide_true, decide_false, Bool.not_true, Bool.not_false, decide_eq_true_eq, eq_self, Int.cast_ofNat_Int, Int.natCast_zero, Int.natCast_one, Nat.reduceLeDiff, Nat.reduceSub, Nat.reduceAdd, Nat.reduceLT, reduceIte, reduceCtorEq, Int.reduceEq, Int.reduceLT, Int.reduceLE, Int.reduceNeg, Int.reduceAdd, Int.reduceSub, Int.reduceMul, Int.reduceNe, Int.reduceBNe, Int.reduceBEq, f_is_finite, idx_o0, in_nn_none]
theorem in_01 {a : Int} : cmpD S .In (.int a) (.tup [.int 0, .int 1]) = some (decide (a = 0) || decide (a = 1)) := by
  rw [inN, in_t (n := 0) (m := 1) rfl (by decide) rfl (by decide)]
  have e1 : ((0 : Int) == a) = decide (a = 0) := by
    by_cases c : a = 0
    · subst c; rfl
    · rw [decide_eq_false c]; exact beq_false_of_ne fun g => c g.symm
  have e2 : ((1 : Int) == a) = decide (a = 1) := by
    by_cases c : a = 1
    · subst c; rfl
    · rw [decide_eq_false c]; exact beq_false_of_ne fun g => c g.symm
  simp only [List.any_cons, List.any_nil, pdD, PyData.eqv, Bool.or_false, e1, e2]
theorem sign_i {a : Int} : callK G (k + 2) i_is_sign [.int a] S = some (.bl (decide (a = 0) || decide (a = 1)), S) := by
  rw [call_fn g_is_sign rfl]
  simp only [E1, E2, E3, E4, E5, E6, E7, E8, E9, List.map_cons, List.map_nil, List.cons_append, List.nil_append, List.append_nil, List.length_cons, List.length_nil, List.replicate_zero, List.replicate_succ, Nat.sub_self, Nat.zero_add, List.getElem?_cons_zero, List.getElem?_cons_succ, List.set_cons_zero, List.set_cons_succ, if_true, if_false, Bool.false_eq_true, decide_true, decide_false, Bool.not_true, Bool.not_false, decide_eq_true_eq, eq_self, Int.cast_ofNat_Int, Int.natCast_zero, Int.natCast_one, Nat.reduceLeDiff, Nat.reduceSub, Nat.reduceAdd, Nat.reduceLT, reduceIte, reduceCtorEq, Int.reduceEq, Int.reduceLT, Int.reduceLE, Int.reduceNeg, Int.reduceAdd, Int.reduceSub, Int.reduceMul, Int.reduceNe, Int.reduceBNe, Int.reduceBEq, f_is_sign, is_number_int, in_01]
theorem sign_b {a : Bool} : callK G (k + 2) i_is_sign [.bl a] S = some (.bl false, S) := by
  rw [call_fn g_is_sign rfl]
  simp only [E1, E2, E3, E4, E5, E6, E7, E8, E9, List.map_cons, List.map_nil, List.cons_append, List.nil_append, List.append_nil, List.length_cons, List.length_nil, List.replicate_zero, List.replicate_succ, Nat.sub_self, Nat.zero_add, List.getElem?_cons_zero, List.getElem?_cons_succ, List.set_cons_zero, List.set_cons_succ, if_true, if_false, Bool.false_eq_true, decide_true, decide_false, Bool.not_true, Bool.not_false, decide_eq_true_eq, eq_self, Int.cast_ofNat_Int, Int.natCast_zero, Int.natCast_one, Nat.reduceLeDiff, Nat.reduceSub, Nat.reduceAdd, Nat.reduceLT, reduceIte, reduceCtorEq, Int.reduceEq, Int.reduceLT, Int.reduceLE, Int.reduceNeg, Int.reduceAdd, Int.reduceSub, Int.reduceMul, Int.reduceNe, Int.reduceBNe, Int.reduceBEq, f_is_sign, is_number_bl]
theorem sign_s {a : Int} (h : a = 0 ∨ a = 1) : callK G (k + 2) i_is_sign [.int a] S = some (.bl true, S) := by
  rw [sign_i]
  rcases h with rfl | rfl <;> rfl
theorem len_n : biD S .len [numD s v p] = some (.int 4) := nrfl rfl
theorem len_z : biD S .len [nothD s] = some (.int 2) := nrfl rfl
theorem len_e : biD S .len [endD s] = some (.int 2) := nrfl rfl
theorem len_o : biD S .len [noneD] = some (.int 1) := nrfl rfl
theorem ty_nm : tyName S (numD s v p) = some "tuple" := nrfl rfl
theorem ty_nz : tyName S (nothD s) = some "tuple" := nrfl rfl
theorem ty_ne : tyName S (endD s) = some "tuple" := nrfl rfl
theorem ty_no : tyName S noneD = some "tuple" := nrfl rfl
theorem eqE_t {x : D} {xs : List D} {n : Nat} (h : okD n (.tup (x :: xs)) = true) (hn : n ≤ 64) : cmpD S .Eq (.tup (x :: xs)) (.tup []) = some false := by
  show eqD S (.tup (x :: xs)) (.tup []) = _
  rw [eq_tt (m := 1) h hn rfl (by decide)]
  rfl
theorem eqE_n : cmpD S .Eq (numD s v p) (.tup []) = some false := eqE_t (n := 1) okD_n (by decide)
theorem eqE_z : cmpD S .Eq (nothD s) (.tup []) = some false := eqE_t (n := 1) okD_z (by decide)
theorem eqE_e : cmpD S .Eq (endD s) (.tup []) = some false := eqE_t (n := 1) okD_e (by decide)
theorem eqE_o : cmpD S .Eq noneD (.tup []) = some false := eqE_t (n := 1) okD_o (by decide)
theorem of_o : callK G (k + 4) i_is_of [fmD d m M, noneD] S = some (.bl true, S) := by
  rw [call_fn g_is_of rfl]
  simp only [E1, E2, E3, E4, E5, E6, E7, E8, E9, List.map_cons, List.map_nil, List.cons_append, List.nil_append, List.append_nil, List.length_cons, List.length_nil, List.replicate_zero, List.replicate_succ, Nat.sub_self, Nat.zero_add, List.getElem?_cons_zero, List.getElem?_cons_succ, List.set_cons_zero, List.set_cons_succ, if_true, if_false, Bool.false_eq_true, decide_true, decide_false, Bool.not_true, Bool.not_false, decide_eq_true_eq, eq_self, Int.cast_ofNat_Int, Int.natCast_zero, Int.natCast_one, Nat.reduceLeDiff, Nat.reduceSub, Nat.reduceAdd, Nat.reduceLT, reduceIte, reduceCtorEq, Int.reduceEq, Int.reduceLT, Int.reduceLE, Int.reduceNeg, Int.reduceAdd, Int.reduceSub, Int.reduceMul, Int.reduceNe, Int.reduceBNe, Int.reduceBEq, f_is_of, s_is_of_0_0, s_is_of_0_1, ty_no, eqE_o, idx_o0, len_o]
theorem of_z (h : s = 0 ∨ s = 1) : callK G (k + 4) i_is_of [fmD d m M, nothD s] S = some (.bl true, S) := by
  rw [call_fn g_is_of rfl]
  simp only [E1, E2, E3, E4, E5, E6, E7, E8, E9, List.map_cons, List.map_nil, List.cons_append, List.nil_append, List.append_nil, List.length_cons, List.length_nil, List.replicate_zero, List.replicate_succ, Nat.sub_self, Nat.zero_add, List.getElem?_cons_zero, List.getElem?_cons_succ, List.set_cons_zero, List.set_cons_succ, if_true, if_false, Bool.false_eq_true, decide_true, decide_false, Bool.not_true, Bool.not_false, decide_eq_true_eq, eq_self, Int.cast_ofNat_Int, Int.natCast_zero, Int.natCast_one, Nat.reduceLeDiff, Nat.reduceSub, Nat.reduceAdd, Nat.reduceLT, reduceIte, reduceCtorEq, Int.reduceEq, Int.reduceLT, Int.reduceLE, Int.reduceNeg, Int.reduceAdd, Int.reduceSub, Int.reduceMul, Int.reduceNe, Int.reduceBNe, Int.reduceBEq, f_is_of, s_is_of_0_0, s_is_of_0_1, s_is_of_0_2, ty_nz, eqE_z, idx_z0, idx_z1, len_z, YN, in_ne_noth, sign_s h]
theorem of_e (h : s = 0 ∨ s = 1) : callK G (k + 4) i_is_of [fmD d m M, endD s] S = some (.bl true, S) := by
  rw [call_fn g_is_of rfl]
  simp only [E1, E2, E3, E4, E5, E6, E7, E8, E9, List.map_cons, List.map_nil, List.cons_append, List.nil_append, List.append_nil, List.length_cons, List.length_nil, List.replicate_zero, List.replicate_succ, Nat.sub_self, Nat.zero_add, List.getElem?_cons_zero, List.getElem?_cons_succ, List.set_cons_zero, List.set_cons_succ, if_true, if_false, Bool.false_eq_true, decide_true, decide_false, Bool.not_true, Bool.not_false, decide_eq_true_eq, eq_self, Int.cast_ofNat_Int, Int.natCast_zero, Int.natCast_one, Nat.reduceLeDiff, Nat.reduceSub, Nat.reduceAdd, Nat.reduceLT, reduceIte, reduceCtorEq, Int.reduceEq, Int.reduceLT, Int.reduceLE, Int.reduceNeg, Int.reduceAdd, Int.reduceSub, Int.reduceMul, Int.reduceNe, Int.reduceBNe, Int.reduceBEq, f_is_of, s_is_of_0_0, s_is_of_0_1, s_is_of_0_2, ty_ne, eqE_e, idx_e0, idx_e1, len_e, YN, in_ne_end, sign_s h]
theorem of_n (h : Fm d m M) (hs : s = 0 ∨ s = 1) (x5 : Int) : callK G (k + 4) i_is_of [fmD d m M, numD s v p] S = some (.bl ((decide (1 ≤ v) && (decide (m ≤ p) && decide (p ≤ M))) && (decide (v < 2 ^ d) && (decide (fh d ≤ v) || decide (p = m)))), S) := by
  have e1 : decide ((v : Int) < ((2 ^ d : Nat) : Int)) = decide (v < 2 ^ d) := by rw [decide_eq_decide]; omega
  have e2 : decide (((fh d : Nat) : Int) ≤ (v : Int)) = decide (fh d ≤ v) := by rw [decide_eq_decide]; omega
  have e3 : decide ((1 : Int) ≤ (v : Int)) = decide (1 ≤ v) := by rw [decide_eq_decide]; omega
  have f1 := is_from_int (k := k + 1) (S := S) (a := (v : Int)) (b := 1)
  have f2 := is_number_int (k := k + 2) (S := S) (a := p)
  have f3 := sign_s (k := k + 1) (S := S) hs
  rw [e3] at f1
  rw [call_fn g_is_of rfl]
  by_cases c1 : 1 ≤ v
  · rw [decide_eq_true c1] at f1 ⊢
    by_cases c2 : m ≤ p
    · by_cases c3 : p ≤ M
      · by_cases c4 : v < 2 ^ d
        · by_cases c5 : fh d ≤ v
          · simp only [E1, E2, E3, E4, E5, E6, E7, E8, E9, List.map_cons, List.map_nil, List.cons_append, List.nil_append, List.append_nil, List.length_cons, List.length_nil, List.replicate_zero, List.replicate_succ, Nat.sub_self, Nat.zero_add, List.getElem?_cons_zero, List.getElem?_cons_succ, List.set_cons_zero, List.set_cons_succ, if_true, if_false, Bool.false_eq_true, decide_true, decide_false, Bool.not_true, Bool.not_false, decide_eq_true_eq, eq_self, Int.cast_ofNat_Int, Int.natCast_zero, Int.natCast_one, Nat.reduceLeDiff, Nat.reduceSub, Nat.reduceAdd, Nat.reduceLT, reduceIte, reduceCtorEq, Int.reduceEq, Int.reduceLT, Int.reduceLE, Int.reduceNeg, Int.reduceAdd, Int.reduceSub, Int.reduceMul, Int.reduceNe, Int.reduceBNe, Int.reduceBEq, f_is_of, s_is_of_0_0, s_is_of_0_1, s_is_of_0_2, s_is_of_0_3, s_is_of_0_4, s_is_of_0_5, s_is_of_0_6, ty_nm, eqE_n, idx_n0, idx_n1, idx_n2, idx_n3, len_n, YN, in_ne_num, f1, f2, f3, asg_fm, c2, c3, shl_d h, shl_d1 h, pow_d, pow_d1 h, e1, e2, c4, c5, Bool.true_and, Bool.true_or]
          · simp only [E1, E2, E3, E4, E5, E6, E7, E8, E9, List.map_cons, List.map_nil, List.cons_append, List.nil_append, List.append_nil, List.length_cons, List.length_nil, List.replicate_zero, List.replicate_succ, Nat.sub_self, Nat.zero_add, List.getElem?_cons_zero, List.getElem?_cons_succ, List.set_cons_zero, List.set_cons_succ, if_true, if_false, Bool.false_eq_true, decide_true, decide_false, Bool.not_true, Bool.not_false, decide_eq_true_eq, eq_self, Int.cast_ofNat_Int, Int.natCast_zero, Int.natCast_one, Nat.reduceLeDiff, Nat.reduceSub, Nat.reduceAdd, Nat.reduceLT, reduceIte, reduceCtorEq, Int.reduceEq, Int.reduceLT, Int.reduceLE, Int.reduceNeg, Int.reduceAdd, Int.reduceSub, Int.reduceMul, Int.reduceNe, Int.reduceBNe, Int.reduceBEq, f_is_of, s_is_of_0_0, s_is_of_0_1, s_is_of_0_2, s_is_of_0_3, s_is_of_0_4, s_is_of_0_5, s_is_of_0_6, ty_nm, eqE_n, idx_n0, idx_n1, idx_n2, idx_n3, len_n, YN, in_ne_num, f1, f2, f3, asg_fm, c2, c3, shl_d h, shl_d1 h, pow_d, pow_d1 h, e1, e2, c4, c5, Bool.true_and, Bool.false_or]
        · simp only [E1, E2, E3, E4, E5, E6, E7, E8, E9, List.map_cons, List.map_nil, List.cons_append, List.nil_append, List.append_nil, List.length_cons, List.length_nil, List.replicate_zero, List.replicate_succ, Nat.sub_self, Nat.zero_add, List.getElem?_cons_zero, List.getElem?_cons_succ, List.set_cons_zero, List.set_cons_succ, if_true, if_false, Bool.false_eq_true, decide_true, decide_false, Bool.not_true, Bool.not_false, decide_eq_true_eq, eq_self, Int.cast_ofNat_Int, Int.natCast_zero, Int.natCast_one, Nat.reduceLeDiff, Nat.reduceSub, Nat.reduceAdd, Nat.reduceLT, reduceIte, reduceCtorEq, Int.reduceEq, Int.reduceLT, Int.reduceLE, Int.reduceNeg, Int.reduceAdd, Int.reduceSub, Int.reduceMul, Int.reduceNe, Int.reduceBNe, Int.reduceBEq, f_is_of, s_is_of_0_0, s_is_of_0_1, s_is_of_0_2, s_is_of_0_3, s_is_of_0_4, s_is_of_0_5, s_is_of_0_6, ty_nm, eqE_n, idx_n0, idx_n1, idx_n2, idx_n3, len_n, YN, in_ne_num, f1, f2, f3, asg_fm, c2, c3, shl_d h, shl_d1 h, pow_d, pow_d1 h, e1, e2, c4, Bool.true_and, Bool.false_and]
      · simp only [E1, E2, E3, E4, E5, E6, E7, E8, E9, List.map_cons, List.map_nil, List.cons_append, List.nil_append, List.append_nil, List.length_cons, List.length_nil, List.replicate_zero, List.replicate_succ, Nat.sub_self, Nat.zero_add, List.getElem?_cons_zero, List.getElem?_cons_succ, List.set_cons_zero, List.set_cons_succ, if_true, if_false, Bool.false_eq_true, decide_true, decide_false, Bool.not_true, Bool.not_false, decide_eq_true_eq, eq_self, Int.cast_ofNat_Int, Int.natCast_zero, Int.natCast_one, Nat.reduceLeDiff, Nat.reduceSub, Nat.reduceAdd, Nat.reduceLT, reduceIte, reduceCtorEq, Int.reduceEq, Int.reduceLT, Int.reduceLE, Int.reduceNeg, Int.reduceAdd, Int.reduceSub, Int.reduceMul, Int.reduceNe, Int.reduceBNe, Int.reduceBEq, f_is_of, s_is_of_0_0, s_is_of_0_1, s_is_of_0_2, s_is_of_0_3, s_is_of_0_4, s_is_of_0_5, s_is_of_0_6, ty_nm, eqE_n, idx_n0, idx_n1, idx_n2, idx_n3, len_n, YN, in_ne_num, f1, f2, f3, asg_fm, c2, c3, Bool.and_false, Bool.false_and]
    · simp only [E1, E2, E3, E4, E5, E6, E7, E8, E9, List.map_cons, List.map_nil, List.cons_append, List.nil_append, List.append_nil, List.length_cons, List.length_nil, List.replicate_zero, List.replicate_succ, Nat.sub_self, Nat.zero_add, List.getElem?_cons_zero, List.getElem?_cons_succ, List.set_cons_zero, List.set_cons_succ, if_true, if_false, Bool.false_eq_true, decide_true, decide_false, Bool.not_true, Bool.not_false, decide_eq_true_eq, eq_self, Int.cast_ofNat_Int, Int.natCast_zero, Int.natCast_one, Nat.reduceLeDiff, Nat.reduceSub, Nat.reduceAdd, Nat.reduceLT, reduceIte, reduceCtorEq, Int.reduceEq, Int.reduceLT, Int.reduceLE, Int.reduceNeg, Int.reduceAdd, Int.reduceSub, Int.reduceMul, Int.reduceNe, Int.reduceBNe, Int.reduceBEq, f_is_of, s_is_of_0_0, s_is_of_0_1, s_is_of_0_2, s_is_of_0_3, s_is_of_0_4, s_is_of_0_5, s_is_of_0_6, ty_nm, eqE_n, idx_n0, idx_n1, idx_n2, idx_n3, len_n, YN, in_ne_num, f1, f2, f3, asg_fm, c2, Bool.and_false, Bool.false_and]
  · rw [decide_eq_false c1] at f1 ⊢
    simp only [E1, E2, E3, E4, E5, E6, E7, E8, E9, List.map_cons, List.map_nil, List.cons_append, List.nil_append, List.append_nil, List.length_cons, List.length_nil, List.replicate_zero, List.replicate_succ, Nat.sub_self, Nat.zero_add, List.getElem?_cons_zero, List.getElem?_cons_succ, List.set_cons_zero, List.set_cons_succ, if_true, if_false, Bool.false_eq_true, decide_true, decide_false, Bool.not_true, Bool.not_false, decide_eq_true_eq, eq_self, Int.cast_ofNat_Int, Int.natCast_zero, Int.natCast_one, Nat.reduceLeDiff, Nat.reduceSub, Nat.reduceAdd, Nat.reduceLT, reduceIte, reduceCtorEq, Int.reduceEq, Int.reduceLT, Int.reduceLE, Int.reduceNeg, Int.reduceAdd, Int.reduceSub, Int.reduceMul, Int.reduceNe, Int.reduceBNe, Int.reduceBEq, f_is_of, s_is_of_0_0, s_is_of_0_1, s_is_of_0_2, s_is_of_0_3, s_is_of_0_4, s_is_of_0_5, s_is_of_0_6, ty_nm, eqE_n, idx_n0, idx_n1, idx_n2, idx_n3, len_n, YN, in_ne_num, f1, f2, f3, asg_fm, Bool.false_and]
theorem of_row (h : Fm d m M) (hs : s = 0 ∨ s = 1) (hj : j < cnt d m M) : callK G (k + 4) i_is_of [fmD d m M, rowS d m s j] S = some (.bl true, S) := by
  obtain ⟨r1, r2, r3⟩ := row_in h hj
  have rr := row_rng h hj
  have h2 := fh_two (d := d) (by have := h.d1; omega)
  unfold rowS mkN
  by_cases c : rW d j = 0
  · rw [if_pos c]
    exact of_z hs
  · rw [if_neg c, of_n h hs 0]
    have a1 : decide (1 ≤ rW d j) = true := decide_eq_true (by omega)
    have a2 : decide (m ≤ rP d m j) = true := decide_eq_true r2
    have a3 : decide (rP d m j ≤ M) = true := decide_eq_true r3
    have a4 : decide (rW d j < 2 ^ d) = true := decide_eq_true (by omega)
    have a5 : (decide (fh d ≤ rW d j) || decide (rP d m j = m)) = true := by
      rcases rr with g | g
      · rw [decide_eq_true g, Bool.or_true]
      · rw [decide_eq_true g, Bool.true_or]
    rw [a1, a2, a3, a4, a5]
    rfl
theorem least_ok1 (h : Fm d m M) : callK G (k + 1) i_least_of [fmD d m M] S = some (numD 0 1 m, S) := by
  rw [call_fn g_least_of rfl]
  simp only [E1, E2, E3, E4, E5, E6, E7, E8, E9, List.map_cons, List.map_nil, List.cons_append, List.nil_append, List.append_nil, List.length_cons, List.length_nil, List.replicate_zero, List.replicate_succ, Nat.sub_self, Nat.zero_add, List.getElem?_cons_zero, List.getElem?_cons_succ, List.set_cons_zero, List.set_cons_succ, if_true, if_false, Bool.false_eq_true, decide_true, decide_false, Bool.not_true, Bool.not_false, decide_eq_true_eq, eq_self, Int.cast_ofNat_Int, Int.natCast_zero, Int.natCast_one, Nat.reduceLeDiff, Nat.reduceSub, Nat.reduceAdd, Nat.reduceLT, reduceIte, reduceCtorEq, Int.reduceEq, Int.reduceLT, Int.reduceLE, Int.reduceNeg, Int.reduceAdd, Int.reduceSub, Int.reduceMul, Int.reduceNe, Int.reduceBNe, Int.reduceBEq, f_least_of, idx_fm1]
  rfl
theorem count_ok (h : Fm d m M) : callK G (k + 1) i_count_of [fmD d m M] S = some (.int (2 * (cnt d m M : Int)), S) := by
  have h1 := h.m1
  have h3 := h.M1
  have h4 := fh_le h
  have b1 : Bd 20 (M - m) := by show (M - m).natAbs < 2 ^ 20; omega
  have b2 : Bd 20 ((fh d : Nat) : Int) := by show fh d < 2 ^ 20; omega
  have o1 := b1.mulOk b2 (by decide)
  have e : ((2 ^ d : Nat) : Int) + (M - m) * ((fh d : Nat) : Int) = (cnt d m M : Int) := by
    have h2 := fh_two (d := d) (by have := h.d1; omega)
    have hle := h.le
    unfold cnt
    have e3 : (((M - m).toNat : Nat) : Int) = M - m := Int.toNat_of_nonneg (by omega)
    rw [Int.natCast_add, Int.natCast_mul (M - m).toNat, e3, ← h2]
  have hc := cnt_le h
  have o2 := Bd.mulOk (n := 2) (a := 2) (show (2 : Nat) < 2 ^ 2 by decide) (show Bd 30 (cnt d m M : Int) from Nat.lt_of_le_of_lt hc (by decide)) (by decide)
  rw [call_fn g_count_of rfl]
  simp only [E1, E2, E3, E4, E5, E6, E7, E8, E9, List.map_cons, List.map_nil, List.cons_append, List.nil_append, List.append_nil, List.length_cons, List.length_nil, List.replicate_zero, List.replicate_succ, Nat.sub_self, Nat.zero_add, List.getElem?_cons_zero, List.getElem?_cons_succ, List.set_cons_zero, List.set_cons_succ, if_true, if_false, Bool.false_eq_true, decide_true, decide_false, Bool.not_true, Bool.not_false, decide_eq_true_eq, eq_self, Int.cast_ofNat_Int, Int.natCast_zero, Int.natCast_one, Nat.reduceLeDiff, Nat.reduceSub, Nat.reduceAdd, Nat.reduceLT, reduceIte, reduceCtorEq, Int.reduceEq, Int.reduceLT, Int.reduceLE, Int.reduceNeg, Int.reduceAdd, Int.reduceSub, Int.reduceMul, Int.reduceNe, Int.reduceBNe, Int.reduceBEq, f_count_of, asg_fm, shl_d h, shl_d1 h, pow_d, pow_d1 h, o1, e, o2]
theorem row_bl {n : Nat} : below n (rowD d m j) = true := by
  unfold rowD mkN
  split <;> rfl
theorem tup_new {xs : List D} : biD (S ++ [.lst xs]) .tuple [.ref S.length] = some (.tup xs) := by
  show biTup (S ++ [.lst xs]) [.ref S.length] = _
  unfold biTup
  simp
theorem madd_a {a b : List D} : (a ++ b).length = a.length + b.length := List.length_append
theorem bls_rows {n c : Nat} : below n (.tup (rowsL d m c)) = true := bls_map (fun j => row_bl) _
theorem all_finite_ok (h : Fm d m M) : callK G (k + 1) i_all_finite [fmD d m M] S = some (.tup (rowsL d m (cnt d m M)), S) := by
  rw [call_fn g_all_finite rfl]
  have hp := fh_pos (d := d)
  have hd : 1 ≤ d := by have := h.d1; omega
  have h4 := fh_le h
  have h2d := fh_two hd
  have b1 : ((2 ^ d : Nat) : Int) < 2 ^ 62 := by omega
  have r1 := rng_two (a := 1) (b := ((2 ^ d : Nat) : Int)) ⟨by decide, by decide, by omega, b1⟩
  rw [show (((2 ^ d : Nat) : Int) - 1).toNat = 2 ^ d - 1 by omega] at r1
  have r2 := rng_two (a := m + 1) (b := M + 1) ⟨by have := h.m1; omega, by have := h.m1; omega, by have := h.M1; omega, by have := h.M1; omega⟩
  rw [show (M + 1 - (m + 1)).toNat = (M - m).toNat by omega] at r2
  have r3 := rng_two (a := ((fh d : Nat) : Int)) (b := ((2 ^ d : Nat) : Int)) ⟨by omega, by omega, by omega, b1⟩
  rw [show (((2 ^ d : Nat) : Int) - ((fh d : Nat) : Int)).toNat = fh d by omega] at r3
  have c1 : ∀ all x4 x5, compL none all (ctn G (callK G k) e_all_finite_0 (.name 6) .none [some (fmD d m M), some (.int (d : Int)), some (.int m), some (.int M), x4, x5, none]) ((List.range (2 ^ d - 1)).map fun (i : Nat) => D.int (1 + (i : Int))) S [] = some ((List.range (2 ^ d - 1)).map fun (i : Nat) => numD 0 (1 + i) m, S) := fun all x4 x5 => by
    have := compL_mapT (all := all) (turn := ctn G (callK G k) e_all_finite_0 (.name 6) .none [some (fmD d m M), some (.int (d : Int)), some (.int m), some (.int M), x4, x5, none]) (S := S) (g := fun (i : Nat) => D.int (1 + (i : Int))) (f := fun (i : Nat) => numD 0 (1 + i) m) (xs := List.range (2 ^ d - 1)) (acc := []) fun x hx => by
      unfold ctn
      simp only [E1, E2, E3, E4, E5, E6, E7, E8, E9, List.map_cons, List.map_nil, List.cons_append, List.nil_append, List.append_nil, List.length_cons, List.length_nil, List.replicate_zero, List.replicate_succ, Nat.sub_self, Nat.zero_add, List.getElem?_cons_zero, List.getElem?_cons_succ, List.set_cons_zero, List.set_cons_succ, if_true, if_false, Bool.false_eq_true, decide_true, decide_false, Bool.not_true, Bool.not_false, decide_eq_true_eq, eq_self, Int.cast_ofNat_Int, Int.natCast_zero, Int.natCast_one, Nat.reduceLeDiff, Nat.reduceSub, Nat.reduceAdd, Nat.reduceLT, reduceIte, reduceCtorEq, Int.reduceEq, Int.reduceLT, Int.reduceLE, Int.reduceNeg, Int.reduceAdd, Int.reduceSub, Int.reduceMul, Int.reduceNe, Int.reduceBNe, Int.reduceBEq, e_all_finite_0]
      rfl
    rw [List.nil_append] at this
    exact this
  have l1 : 1 + (2 ^ d - 1) ≤ sizeLine := le_size (by omega)
  have l0 : 2 ^ d - 1 ≤ sizeLine := le_size (by omega)
  have l5 : fh d ≤ sizeLine := le_size (by omega)
  have f1 := rows_first (m := m) hd
  obtain ⟨ρ1, S1, hl, x5, x6, rfl, rfl⟩ := forL_run (all := (List.range (M - m).toNat).map fun (i : Nat) => D.int (m + 1 + (i : Int))) (body := fbd G (callK G k) (.name 5) b_all_finite_1) (xs := (List.range (M - m).toNat).map fun (i : Nat) => D.int (m + 1 + (i : Int))) (ρ := [some (fmD d m M), some (.int (d : Int)), some (.int m), some (.int M), some (.ref S.length), none, none]) (S := S ++ [.lst (rowsL d m (2 * fh d))])
    (I := fun i ρ S' => ∃ (x5 x6 : Option D), ρ = [some (fmD d m M), some (.int (d : Int)), some (.int m), some (.int M), some (.ref S.length), x5, x6] ∧ S' = S ++ [.lst (rowsL d m (2 * fh d + i * fh d))])
    (by
      rintro i x ρ S' hx ⟨x5, x6, rfl, rfl⟩
      have hi : i < (M - m).toNat := by
        have := (List.getElem?_eq_some_iff.mp hx).1
        simpa using this
      have hxi : x = .int (m + 1 + (i : Int)) := by
        have := (List.getElem?_eq_some_iff.mp hx).2
        simpa using this.symm
      subst hxi
      have c2 : ∀ all x4, compL none all (ctn G (callK G k) e_all_finite_2 (.name 6) .none [some (fmD d m M), some (.int (d : Int)), some (.int m), some (.int M), x4, some (.int (m + 1 + (i : Int))), none]) ((List.range (fh d)).map fun (j : Nat) => D.int (((fh d : Nat) : Int) + (j : Int))) (S ++ [.lst (rowsL d m (2 * fh d + i * fh d))]) [] = some ((List.range (fh d)).map fun (j : Nat) => numD 0 (fh d + j) (m + 1 + (i : Int)), S ++ [.lst (rowsL d m (2 * fh d + i * fh d))]) := fun all x4 => by
        have := compL_mapT (all := all) (turn := ctn G (callK G k) e_all_finite_2 (.name 6) .none [some (fmD d m M), some (.int (d : Int)), some (.int m), some (.int M), x4, some (.int (m + 1 + (i : Int))), none]) (S := S ++ [.lst (rowsL d m (2 * fh d + i * fh d))]) (g := fun (j : Nat) => D.int (((fh d : Nat) : Int) + (j : Int))) (f := fun (j : Nat) => numD 0 (fh d + j) (m + 1 + (i : Int))) (xs := List.range (fh d)) (acc := []) fun x hx => by
          unfold ctn
          simp only [E1, E2, E3, E4, E5, E6, E7, E8, E9, List.map_cons, List.map_nil, List.cons_append, List.nil_append, List.append_nil, List.length_cons, List.length_nil, List.replicate_zero, List.replicate_succ, Nat.sub_self, Nat.zero_add, List.getElem?_cons_zero, List.getElem?_cons_succ, List.set_cons_zero, List.set_cons_succ, if_true, if_false, Bool.false_eq_true, decide_true, decide_false, Bool.not_true, Bool.not_false, decide_eq_true_eq, eq_self, Int.cast_ofNat_Int, Int.natCast_zero, Int.natCast_one, Nat.reduceLeDiff, Nat.reduceSub, Nat.reduceAdd, Nat.reduceLT, reduceIte, reduceCtorEq, Int.reduceEq, Int.reduceLT, Int.reduceLE, Int.reduceNeg, Int.reduceAdd, Int.reduceSub, Int.reduceMul, Int.reduceNe, Int.reduceBNe, Int.reduceBEq, e_all_finite_2]
          rfl
        rw [List.nil_append] at this
        exact this
      have ll : 2 * fh d + i * fh d + fh d ≤ sizeLine := le_size (by
        have h5 := cnt_le h
        unfold cnt at h5
        have : (i + 1) * fh d ≤ (M - m).toNat * fh d := Nat.mul_le_mul_right _ hi
        rw [Nat.add_mul] at this
        omega)
      refine ⟨_, _, ?_, some (.int (m + 1 + (i : Int))), x6, rfl, rfl⟩
      unfold fbd
      simp only [E1, E2, E3, E4, E5, E6, E7, E8, E9, List.map_cons, List.map_nil, List.cons_append, List.nil_append, List.append_nil, List.length_cons, List.length_nil, List.replicate_zero, List.replicate_succ, Nat.sub_self, Nat.zero_add, List.getElem?_cons_zero, List.getElem?_cons_succ, List.set_cons_zero, List.set_cons_succ, if_true, if_false, Bool.false_eq_true, decide_true, decide_false, Bool.not_true, Bool.not_false, decide_eq_true_eq, eq_self, Int.cast_ofNat_Int, Int.natCast_zero, Int.natCast_one, Nat.reduceLeDiff, Nat.reduceSub, Nat.reduceAdd, Nat.reduceLT, reduceIte, reduceCtorEq, Int.reduceEq, Int.reduceLT, Int.reduceLE, Int.reduceNeg, Int.reduceAdd, Int.reduceSub, Int.reduceMul, Int.reduceNe, Int.reduceBNe, Int.reduceBEq, b_all_finite_1, shl_d h, shl_d1 h, pow_d, pow_d1 h, r3, List.length_map, List.length_range, l5, wipe_nil, wipe_cons, c2, getRef, ext_new, rows_len, ll, rows_next])
    ⟨none, none, rfl, by rw [Nat.zero_mul, Nat.add_zero]⟩
  simp only [List.length_map, List.length_range] at hl
  have hmk : D.tup [.str "nothing", .int 0] = nothD 0 := rfl
  simp only [E1, E2, E3, E4, E5, E6, E7, E8, E9, List.map_cons, List.map_nil, List.cons_append, List.nil_append, List.append_nil, List.length_cons, List.length_nil, List.replicate_zero, List.replicate_succ, Nat.sub_self, Nat.zero_add, List.getElem?_cons_zero, List.getElem?_cons_succ, List.set_cons_zero, List.set_cons_succ, if_true, if_false, Bool.false_eq_true, decide_true, decide_false, Bool.not_true, Bool.not_false, decide_eq_true_eq, eq_self, Int.cast_ofNat_Int, Int.natCast_zero, Int.natCast_one, Nat.reduceLeDiff, Nat.reduceSub, Nat.reduceAdd, Nat.reduceLT, reduceIte, reduceCtorEq, Int.reduceEq, Int.reduceLT, Int.reduceLE, Int.reduceNeg, Int.reduceAdd, Int.reduceSub, Int.reduceMul, Int.reduceNe, Int.reduceBNe, Int.reduceBEq, f_all_finite, asg_fm, shl_d h, pow_d, r1, List.length_map, List.length_range, l0, wipe_nil, wipe_cons, c1, l1, hmk, f1, r2, hl, tup_new, prune_one (bls_rows (n := S.length))]
  rfl
end
end Rw.Pk01

set_option exponentiation.threshold 300
namespace Rw.Pk01
open PySem L2 Rw
section
variable {k : Nat} {S T : Sto} {d d' j : Nat} {m M m' M' i : Int} {s t p : Int} {v w : Nat} {q o A P : Rat} {L : List D} {z : D} {b : Bool} {x0 x1 x2 x3 x4 x5 x6 x7 x8 x9 x10 x11 x12 x13 x14 x15 x16 x17 x18 x19 x20 x21 x22 x23 : Option D}
theorem same_bl {b : Bool} : callK G (k + 1) i__law_same [.bl b, .bl b] S = some (.bl true, S) := same_ok (n := 1) rfl (by decide) (by show (1 : Nat) ≤ 1000000; decide)
theorem same_int {b : Int} : callK G (k + 1) i__law_same [.int b, .int b] S = some (.bl true, S) := same_ok (n := 1) rfl (by decide) (by show (1 : Nat) ≤ 1000000; decide)
theorem same_fr : callK G (k + 1) i__law_same [fr q, fr q] S = some (.bl true, S) := same_ok (n := 1) rfl (by decide) (by show (1 + (1 + (1 + 0))) ≤ 1000000; decide)
theorem nm_good {z : D} (h : IsNm z) : okD 1 z = true ∧ szD z ≤ 10 := by
  rcases h with ⟨s, v, p, rfl⟩ | ⟨s, rfl⟩ | ⟨s, rfl⟩
  · exact ⟨okD_n, by show 5 ≤ 10; decide⟩
  · exact ⟨okD_z, by show 3 ≤ 10; decide⟩
  · exact ⟨okD_e, by show 3 ≤ 10; decide⟩
theorem same_nm {z : D} (h : IsNm z) : callK G (k + 1) i__law_same [z, z] S = some (.bl true, S) := same_ok (n := 1) (nm_good h).1 (by decide) (Nat.le_trans (nm_good h).2 (by decide))
theorem same_o : callK G (k + 1) i__law_same [noneD, noneD] S = some (.bl true, S) := same_ok (n := 1) okD_o (by decide) (by show 2 ≤ 1000000; decide)
/-! formats told -/
theorem is_from_bl {a : Bool} {b : Int} : callK G (k + 2) i_is_from [.bl a, .int b] S = some (.bl false, S) := by
  rw [call_fn g_is_from rfl]
  simp only [E1, E2, E3, E4, E5, E6, E7, E8, E9, List.map_cons, List.map_nil, List.cons_append, List.nil_append, List.append_nil, List.length_cons, List.length_nil, List.replicate_zero, List.replicate_succ, Nat.sub_self, Nat.zero_add, List.getElem?_cons_zero, List.getElem?_cons_succ, List.set_cons_zero, List.set_cons_succ, if_true, if_false, Bool.false_eq_true, decide_true, decide_false, Bool.not_true, Bool.not_false, decide_eq_true_eq, eq_self, Int.cast_ofNat_Int, Int.natCast_zero, Int.natCast_one, Nat.reduceLeDiff, Nat.reduceSub, Nat.reduceAdd, Nat.reduceLT, reduceIte, reduceCtorEq, Int.reduceEq, Int.reduceLT, Int.reduceLE, Int.reduceNeg, Int.reduceAdd, Int.reduceSub, Int.reduceMul, Int.reduceNe, Int.reduceBNe, Int.reduceBEq, f_is_from, is_number_bl]
theorem fmt_i {a b c : Int} : callK G (k + 3) i_is_format [.tup [.int a, .int b, .int c]] S = some (.bl (decide (2 ≤ a) && decide (b < c)), S) := by
  have e1 := is_tuple_of_tup (k := k + 1) (S := S) (a := [.int a, .int b, .int c]) (m := 3)
  rw [show decide ((([.int a, .int b, .int c] : List D).length : Int) = 3) = true from rfl] at e1
  rw [call_fn g_is_format rfl]
  by_cases c1 : 2 ≤ a
  · simp only [E1, E2, E3, E4, E5, E6, E7, E8, E9, List.map_cons, List.map_nil, List.cons_append, List.nil_append, List.append_nil, List.length_cons, List.length_nil, List.replicate_zero, List.replicate_succ, Nat.sub_self, Nat.zero_add, List.getElem?_cons_zero, List.getElem?_cons_succ, List.set_cons_zero, List.set_cons_succ, if_true, if_false, Bool.false_eq_true, decide_true, decide_false, Bool.not_true, Bool.not_false, decide_eq_true_eq, eq_self, Int.cast_ofNat_Int, Int.natCast_zero, Int.natCast_one, Nat.reduceLeDiff, Nat.reduceSub, Nat.reduceAdd, Nat.reduceLT, reduceIte, reduceCtorEq, Int.reduceEq, Int.reduceLT, Int.reduceLE, Int.reduceNeg, Int.reduceAdd, Int.reduceSub, Int.reduceMul, Int.reduceNe, Int.reduceBNe, Int.reduceBEq, f_is_format, e1, is_from_int, is_number_int, c1]
    simp
  · simp only [E1, E2, E3, E4, E5, E6, E7, E8, E9, List.map_cons, List.map_nil, List.cons_append, List.nil_append, List.append_nil, List.length_cons, List.length_nil, List.replicate_zero, List.replicate_succ, Nat.sub_self, Nat.zero_add, List.getElem?_cons_zero, List.getElem?_cons_succ, List.set_cons_zero, List.set_cons_succ, if_true, if_false, Bool.false_eq_true, decide_true, decide_false, Bool.not_true, Bool.not_false, decide_eq_true_eq, eq_self, Int.cast_ofNat_Int, Int.natCast_zero, Int.natCast_one, Nat.reduceLeDiff, Nat.reduceSub, Nat.reduceAdd, Nat.reduceLT, reduceIte, reduceCtorEq, Int.reduceEq, Int.reduceLT, Int.reduceLE, Int.reduceNeg, Int.reduceAdd, Int.reduceSub, Int.reduceMul, Int.reduceNe, Int.reduceBNe, Int.reduceBEq, f_is_format, e1, is_from_int, is_number_int, c1]
    simp
theorem fmt_l {xs : List D} : callK G (k + 3) i_is_format [.lst xs] S = some (.bl false, S) := by
  rw [call_fn g_is_format rfl]
  simp only [E1, E2, E3, E4, E5, E6, E7, E8, E9, List.map_cons, List.map_nil, List.cons_append, List.nil_append, List.append_nil, List.length_cons, List.length_nil, List.replicate_zero, List.replicate_succ, Nat.sub_self, Nat.zero_add, List.getElem?_cons_zero, List.getElem?_cons_succ, List.set_cons_zero, List.set_cons_succ, if_true, if_false, Bool.false_eq_true, decide_true, decide_false, Bool.not_true, Bool.not_false, decide_eq_true_eq, eq_self, Int.cast_ofNat_Int, Int.natCast_zero, Int.natCast_one, Nat.reduceLeDiff, Nat.reduceSub, Nat.reduceAdd, Nat.reduceLT, reduceIte, reduceCtorEq, Int.reduceEq, Int.reduceLT, Int.reduceLE, Int.reduceNeg, Int.reduceAdd, Int.reduceSub, Int.reduceMul, Int.reduceNe, Int.reduceBNe, Int.reduceBEq, f_is_format, is_tuple_of_lst]
theorem fmt_n : callK G (k + 3) i_is_format [.non] S = some (.bl false, S) := by
  rw [call_fn g_is_format rfl]
  simp only [E1, E2, E3, E4, E5, E6, E7, E8, E9, List.map_cons, List.map_nil, List.cons_append, List.nil_append, List.append_nil, List.length_cons, List.length_nil, List.replicate_zero, List.replicate_succ, Nat.sub_self, Nat.zero_add, List.getElem?_cons_zero, List.getElem?_cons_succ, List.set_cons_zero, List.set_cons_succ, if_true, if_false, Bool.false_eq_true, decide_true, decide_false, Bool.not_true, Bool.not_false, decide_eq_true_eq, eq_self, Int.cast_ofNat_Int, Int.natCast_zero, Int.natCast_one, Nat.reduceLeDiff, Nat.reduceSub, Nat.reduceAdd, Nat.reduceLT, reduceIte, reduceCtorEq, Int.reduceEq, Int.reduceLT, Int.reduceLE, Int.reduceNeg, Int.reduceAdd, Int.reduceSub, Int.reduceMul, Int.reduceNe, Int.reduceBNe, Int.reduceBEq, f_is_format, is_tuple_of_non]
theorem fmt_2 {a b : D} : callK G (k + 3) i_is_format [.tup [a, b]] S = some (.bl false, S) := by
  have e1 := is_tuple_of_tup (k := k + 1) (S := S) (a := [a, b]) (m := 3)
  rw [show decide ((([a, b] : List D).length : Int) = 3) = false from rfl] at e1
  rw [call_fn g_is_format rfl]
  simp only [E1, E2, E3, E4, E5, E6, E7, E8, E9, List.map_cons, List.map_nil, List.cons_append, List.nil_append, List.append_nil, List.length_cons, List.length_nil, List.replicate_zero, List.replicate_succ, Nat.sub_self, Nat.zero_add, List.getElem?_cons_zero, List.getElem?_cons_succ, List.set_cons_zero, List.set_cons_succ, if_true, if_false, Bool.false_eq_true, decide_true, decide_false, Bool.not_true, Bool.not_false, decide_eq_true_eq, eq_self, Int.cast_ofNat_Int, Int.natCast_zero, Int.natCast_one, Nat.reduceLeDiff, Nat.reduceSub, Nat.reduceAdd, Nat.reduceLT, reduceIte, reduceCtorEq, Int.reduceEq, Int.reduceLT, Int.reduceLE, Int.reduceNeg, Int.reduceAdd, Int.reduceSub, Int.reduceMul, Int.reduceNe, Int.reduceBNe, Int.reduceBEq, f_is_format, e1]
theorem fmt_b {a b : D} {x : Bool} : callK G (k + 3) i_is_format [.tup [.bl x, a, b]] S = some (.bl false, S) := by
  have e1 := is_tuple_of_tup (k := k + 1) (S := S) (a := [.bl x, a, b]) (m := 3)
  rw [show decide ((([.bl x, a, b] : List D).length : Int) = 3) = true from rfl] at e1
  rw [call_fn g_is_format rfl]
  simp only [E1, E2, E3, E4, E5, E6, E7, E8, E9, List.map_cons, List.map_nil, List.cons_append, List.nil_append, List.append_nil, List.length_cons, List.length_nil, List.replicate_zero, List.replicate_succ, Nat.sub_self, Nat.zero_add, List.getElem?_cons_zero, List.getElem?_cons_succ, List.set_cons_zero, List.set_cons_succ, if_true, if_false, Bool.false_eq_true, decide_true, decide_false, Bool.not_true, Bool.not_false, decide_eq_true_eq, eq_self, Int.cast_ofNat_Int, Int.natCast_zero, Int.natCast_one, Nat.reduceLeDiff, Nat.reduceSub, Nat.reduceAdd, Nat.reduceLT, reduceIte, reduceCtorEq, Int.reduceEq, Int.reduceLT, Int.reduceLE, Int.reduceNeg, Int.reduceAdd, Int.reduceSub, Int.reduceMul, Int.reduceNe, Int.reduceBNe, Int.reduceBEq, f_is_format, e1, is_from_bl]
theorem b1_ok (e : callK G (k + 15) i_is_format [z] S = some (.bl b, S)) : fbd G (callK G (k + 15)) (.tup (.cons (.name 2) (.cons (.name 3) .nil))) b_law_1 (.tup [z, .bl b]) [x0, x1, x2, x3, x4, x5, x6, x7, x8, x9, x10, x11, x12, x13, x14, x15, x16, x17, x18, x19, x20, x21, x22, x23] S = some (.nx [x0, x1, some (z), some (.bl b), x4, x5, x6, x7, x8, x9, x10, x11, x12, x13, x14, x15, x16, x17, x18, x19, x20, x21, x22, x23], S) := by
  unfold fbd
  simp only [E1, E2, E3, E4, E5, E6, E7, E8, E9, List.map_cons, List.map_nil, List.cons_append, List.nil_append, List.append_nil, List.length_cons, List.length_nil, List.replicate_zero, List.replicate_succ, Nat.sub_self, Nat.zero_add, List.getElem?_cons_zero, List.getElem?_cons_succ, List.set_cons_zero, List.set_cons_succ, if_true, if_false, Bool.false_eq_true, decide_true, decide_false, Bool.not_true, Bool.not_false, decide_eq_true_eq, eq_self, Int.cast_ofNat_Int, Int.natCast_zero, Int.natCast_one, Nat.reduceLeDiff, Nat.reduceSub, Nat.reduceAdd, Nat.reduceLT, reduceIte, reduceCtorEq, Int.reduceEq, Int.reduceLT, Int.reduceLE, Int.reduceNeg, Int.reduceAdd, Int.reduceSub, Int.reduceMul, Int.reduceNe, Int.reduceBNe, Int.reduceBEq, b_law_1, e, same_bl]
theorem s1_ok : evS G (callK G (k + 15)) s_law_0_1 [x0, x1, x2, x3, x4, x5, x6, x7, x8, x9, x10, x11, x12, x13, x14, x15, x16, x17, x18, x19, x20, x21, x22, x23] S = some (.nx [x0, x1, some (.non), some (.bl false), x4, x5, x6, x7, x8, x9, x10, x11, x12, x13, x14, x15, x16, x17, x18, x19, x20, x21, x22, x23], S) := by
  have f1 := fmt_i (k := k + 12) (S := S) (a := 2) (b := -1) (c := 0)
  have f2 := fmt_i (k := k + 12) (S := S) (a := 5) (b := 3) (c := 9)
  have f3 := fmt_i (k := k + 12) (S := S) (a := 1) (b := 0) (c := 3)
  have f4 := fmt_i (k := k + 12) (S := S) (a := 2) (b := 0) (c := 0)
  have f5 := fmt_i (k := k + 12) (S := S) (a := 2) (b := 1) (c := 0)
  rw [show (decide ((2 : Int) ≤ 2) && decide ((-1 : Int) < 0)) = true by decide] at f1
  rw [show (decide ((2 : Int) ≤ 5) && decide ((3 : Int) < 9)) = true by decide] at f2
  rw [show (decide ((2 : Int) ≤ 1) && decide ((0 : Int) < 3)) = false by decide] at f3
  rw [show (decide ((2 : Int) ≤ 2) && decide ((0 : Int) < 0)) = false by decide] at f4
  rw [show (decide ((2 : Int) ≤ 2) && decide ((1 : Int) < 0)) = false by decide] at f5
  have hf : ∀ all, forL none all (fbd G (callK G (k + 15)) (.tup (.cons (.name 2) (.cons (.name 3) .nil))) b_law_1) [.tup [.tup [.int 2, .int (-1), .int 0], .bl true], .tup [.tup [.int 5, .int 3, .int 9], .bl true], .tup [.tup [.int 1, .int 0, .int 3], .bl false], .tup [.tup [.int 2, .int 0, .int 0], .bl false], .tup [.tup [.int 2, .int 1, .int 0], .bl false], .tup [.lst [.int 2, .int 0, .int 1], .bl false], .tup [.tup [.bl true, .int 0, .int 1], .bl false], .tup [.tup [.int 2, .int 0], .bl false], .tup [.non, .bl false]] [x0, x1, x2, x3, x4, x5, x6, x7, x8, x9, x10, x11, x12, x13, x14, x15, x16, x17, x18, x19, x20, x21, x22, x23] S = some (.nx [x0, x1, some (.non), some (.bl false), x4, x5, x6, x7, x8, x9, x10, x11, x12, x13, x14, x15, x16, x17, x18, x19, x20, x21, x22, x23], S) := fun all => by
    rw [forL_cons (b1_ok f1), forL_cons (b1_ok f2), forL_cons (b1_ok f3), forL_cons (b1_ok f4), forL_cons (b1_ok f5), forL_cons (b1_ok fmt_l), forL_cons (b1_ok fmt_b), forL_cons (b1_ok fmt_2), forL_cons (b1_ok fmt_n), forL_nil]
  simp only [E1, E2, E3, E4, E5, E6, E7, E8, E9, List.map_cons, List.map_nil, List.cons_append, List.nil_append, List.append_nil, List.length_cons, List.length_nil, List.replicate_zero, List.replicate_succ, Nat.sub_self, Nat.zero_add, List.getElem?_cons_zero, List.getElem?_cons_succ, List.set_cons_zero, List.set_cons_succ, if_true, if_false, Bool.false_eq_true, decide_true, decide_false, Bool.not_true, Bool.not_false, decide_eq_true_eq, eq_self, Int.cast_ofNat_Int, Int.natCast_zero, Int.natCast_one, Nat.reduceLeDiff, Nat.reduceSub, Nat.reduceAdd, Nat.reduceLT, reduceIte, reduceCtorEq, Int.reduceEq, Int.reduceLT, Int.reduceLE, Int.reduceNeg, Int.reduceAdd, Int.reduceSub, Int.reduceMul, Int.reduceNe, Int.reduceBNe, Int.reduceBEq, s_law_0_1, hf]
def IntL (L : List D) : Prop := ∀ d ∈ L, ∃ x : Int, d = .int x
structure FF (d : Nat) (m M : Int) : Prop where
  f : Fm d m M
  d4 : d ≤ 4
  m5 : -5 ≤ m
  mM : m < M
  M2 : M ≤ 2
theorem form_ok (hL : IntL L) (ha : 0 ≤ i) : ∃ d m M, FF d m M ∧ callK G (k + 15) i__law_form [.ref 0] (wC L i :: T) = some (fmD d m M, wC L (i + 3) :: T) := by
  obtain ⟨v1, h1, h2, h3⟩ := next_ok (k := k + 13) (T := T) (m := 3) hL (by decide) ha
  obtain ⟨v2, h4, h5, h6⟩ := next_ok (k := k + 13) (T := T) (a := i + 1) (m := 4) hL (by decide) (by omega)
  obtain ⟨v3, h7, h8, h9⟩ := next_ok (k := k + 13) (T := T) (a := i + 1 + 1) (m := 4) hL (by decide) (by omega)
  have e : ((2 + v1).toNat : Int) = 2 + v1 := by omega
  refine ⟨(2 + v1).toNat, v2 - 5, v2 - 5 + 1 + v3, ⟨⟨by omega, by omega, by omega, by omega, by omega⟩, by omega, by omega, by omega, by omega⟩, ?_⟩
  have pl : ∀ d, prune (wC L i :: T) d (wC L (i + 1 + 1 + 1) :: T) = (d, wC L (i + 1 + 1 + 1) :: T) := fun d => prune_len rfl
  rw [call_fn g__law_form rfl]
  unfold fmD
  rw [e]
  simp only [E1, E2, E3, E4, E5, E6, E7, E8, E9, List.map_cons, List.map_nil, List.cons_append, List.nil_append, List.append_nil, List.length_cons, List.length_nil, List.replicate_zero, List.replicate_succ, Nat.sub_self, Nat.zero_add, List.getElem?_cons_zero, List.getElem?_cons_succ, List.set_cons_zero, List.set_cons_succ, if_true, if_false, Bool.false_eq_true, decide_true, decide_false, Bool.not_true, Bool.not_false, decide_eq_true_eq, eq_self, Int.cast_ofNat_Int, Int.natCast_zero, Int.natCast_one, Nat.reduceLeDiff, Nat.reduceSub, Nat.reduceAdd, Nat.reduceLT, reduceIte, reduceCtorEq, Int.reduceEq, Int.reduceLT, Int.reduceLE, Int.reduceNeg, Int.reduceAdd, Int.reduceSub, Int.reduceMul, Int.reduceNe, Int.reduceBNe, Int.reduceBEq, f__law_form, h3, h6, h9, pl]
  rw [show i + 1 + 1 + 1 = i + 3 by omega]
theorem vls_at {n j : Nat} (h : j < n) : atI (vlsL d m n) (j : Int) = some (fr (vl d m j)) := by
  have := at_nat (xs := vlsL d m n) (n := j) (by simpa [vlsL] using h)
  rw [this]
  simp [vlsL]
theorem rows_at {n j : Nat} (h : j < n) : atI (rowsL d m n) (j : Int) = some (rowD d m j) := by
  have := at_nat (xs := rowsL d m n) (n := j) (by simpa [rowsL] using h)
  rw [this]
  simp [rowsL]
theorem vls_len {n : Nat} : (vlsL d m n).length = n := by simp [vlsL]
theorem vls_ati {n : Nat} {x : Int} (h0 : 0 ≤ x) (h1 : x < (n : Int)) : atI (vlsL d m n) x = some (fr (vl d m x.toNat)) := by
  have := vls_at (d := d) (m := m) (n := n) (j := x.toNat) (by omega)
  rwa [show ((x.toNat : Nat) : Int) = x by omega] at this
/-! all numbers -/
def revL (d : Nat) (m M : Int) (s : Int) : List D := (List.range (cnt d m M)).map fun i => rowS d m s (cnt d m M - 1 - i)
def eL (d : Nat) (m M : Int) : List D := endD 1 :: (revL d m M 1 ++ (rowsL d m (cnt d m M) ++ [endD 0, noneD]))
theorem rows_rev : (rowsL d m (cnt d m M)).reverse = revL d m M 0 := by
  unfold rowsL revL
  refine List.ext_getElem (by simp) fun i h1 h2 => ?_
  simp only [List.length_map, List.length_range] at h2
  simp only [List.getElem_reverse, List.getElem_map, List.getElem_range, List.length_map, List.length_range]
  rfl
theorem slR_t {xs : List D} : slRD S (.tup xs) none = some (.tup xs.reverse) := nrfl rfl
theorem slR_l {xs : List D} : slRD S (.lst xs) none = some (.lst xs.reverse) := nrfl rfl
theorem lst_t {xs : List D} : biD S .list [.tup xs] = some (.lst xs) := nrfl rfl
theorem tup_t {xs : List D} : biD S .tuple [.lst xs] = some (.tup xs) := nrfl rfl
theorem rev_len : (revL d m M s).length = cnt d m M := by simp [revL]
theorem all_numbers_ok (h : Fm d m M) : callK G (k + 3) i_all_numbers [fmD d m M] S = some (.tup (eL d m M), S) := by
  have hl := cnt_le h
  have me : ∀ s : Int, D.tup [.str "endless", .int s] = endD s := fun _ => rfl
  have mo : D.tup [.str "none"] = noneD := rfl
  have sz : ∀ n : Nat, n ≤ 3000000 → n ≤ sizeLine := fun n hn => by rw [size_eq]; omega
  have c1 : ∀ all x2, compL none all (ctn G (callK G (k + 2)) e_all_numbers_0 (.name 3) .none [some (fmD d m M), some (.tup (rowsL d m (cnt d m M))), x2, none]) (revL d m M 0) S [] = some (revL d m M 1, S) := fun all x2 => by
    have := compL_mapT (all := all) (turn := ctn G (callK G (k + 2)) e_all_numbers_0 (.name 3) .none [some (fmD d m M), some (.tup (rowsL d m (cnt d m M))), x2, none]) (S := S) (g := fun i => rowS d m 0 (cnt d m M - 1 - i)) (f := fun i => rowS d m 1 (cnt d m M - 1 - i)) (xs := List.range (cnt d m M)) (acc := []) fun i hi => by
      have e := turned_ok (k := k + 1) (S := S) (z := rowS d m 0 (cnt d m M - 1 - i)) isNm_row
      rw [fl_row, show (1 : Int) - 0 = 1 from rfl] at e
      unfold ctn
      simp only [E1, E2, E3, E4, E5, E6, E7, E8, E9, List.map_cons, List.map_nil, List.cons_append, List.nil_append, List.append_nil, List.length_cons, List.length_nil, List.replicate_zero, List.replicate_succ, Nat.sub_self, Nat.zero_add, List.getElem?_cons_zero, List.getElem?_cons_succ, List.set_cons_zero, List.set_cons_succ, if_true, if_false, Bool.false_eq_true, decide_true, decide_false, Bool.not_true, Bool.not_false, decide_eq_true_eq, eq_self, Int.cast_ofNat_Int, Int.natCast_zero, Int.natCast_one, Nat.reduceLeDiff, Nat.reduceSub, Nat.reduceAdd, Nat.reduceLT, reduceIte, reduceCtorEq, Int.reduceEq, Int.reduceLT, Int.reduceLE, Int.reduceNeg, Int.reduceAdd, Int.reduceSub, Int.reduceMul, Int.reduceNe, Int.reduceBNe, Int.reduceBEq, e_all_numbers_0, e]
    rw [List.nil_append] at this
    exact this
  rw [call_fn g_all_numbers rfl]
  unfold eL
  simp only [E1, E2, E3, E4, E5, E6, E7, E8, E9, List.map_cons, List.map_nil, List.cons_append, List.nil_append, List.append_nil, List.length_cons, List.length_nil, List.replicate_zero, List.replicate_succ, Nat.sub_self, Nat.zero_add, List.getElem?_cons_zero, List.getElem?_cons_succ, List.set_cons_zero, List.set_cons_succ, if_true, if_false, Bool.false_eq_true, decide_true, decide_false, Bool.not_true, Bool.not_false, decide_eq_true_eq, eq_self, Int.cast_ofNat_Int, Int.natCast_zero, Int.natCast_one, Nat.reduceLeDiff, Nat.reduceSub, Nat.reduceAdd, Nat.reduceLT, reduceIte, reduceCtorEq, Int.reduceEq, Int.reduceLT, Int.reduceLE, Int.reduceNeg, Int.reduceAdd, Int.reduceSub, Int.reduceMul, Int.reduceNe, Int.reduceBNe, Int.reduceBEq, f_all_numbers, all_finite_ok h, slR_t, rows_rev, rev_len, sz _ (show cnt d m M ≤ 3000000 by omega), wipe_nil, wipe_cons, c1, lst_t, tup_t, me, mo, rows_len, List.length_append, sz _ (show cnt d m M + cnt d m M ≤ 3000000 by omega), sz _ (show cnt d m M + cnt d m M + 1 ≤ 3000000 by omega), sz _ (show 1 + (cnt d m M + cnt d m M) ≤ 3000000 by omega), sz _ (show cnt d m M + cnt d m M + 1 + 1 ≤ 3000000 by omega), sz _ (show cnt d m M + cnt d m M + 1 + (1 + 1) ≤ 3000000 by omega), sz _ (show cnt d m M + cnt d m M + 1 + 1 + 1 ≤ 3000000 by omega), List.append_assoc]
theorem s7_ok (h : Fm d m M) : evS G (callK G (k + 15)) s_law_0_7 [x0, x1, x2, x3, some (fmD d m M), x5, x6, x7, x8, some (.lst (rowsL d m (cnt d m M))), x10, x11, x12, x13, x14, x15, x16, x17, x18, x19, x20, x21, x22, x23] S = some (.nx [x0, x1, x2, x3, some (fmD d m M), x5, x6, x7, x8, some (.lst (rowsL d m (cnt d m M))), x10, some (.lst (eL d m M)), x12, x13, x14, x15, x16, x17, x18, x19, x20, x21, x22, x23], S) := by
  have hl := cnt_le h
  have me : ∀ s : Int, D.tup [.str "endless", .int s] = endD s := fun _ => rfl
  have mo : D.tup [.str "none"] = noneD := rfl
  have sz : ∀ n : Nat, n ≤ 3000000 → n ≤ sizeLine := fun n hn => by rw [size_eq]; omega
  have c1 : ∀ all, compL none all (ctn G (callK G (k + 15)) e_law_4 (.name 12) .none [x0, x1, x2, x3, some (fmD d m M), x5, x6, x7, x8, some (.lst (rowsL d m (cnt d m M))), x10, x11, none, x13, x14, x15, x16, x17, x18, x19, x20, x21, x22, x23]) (revL d m M 0) S [] = some (revL d m M 1, S) := fun all => by
    have := compL_mapT (all := all) (turn := ctn G (callK G (k + 15)) e_law_4 (.name 12) .none [x0, x1, x2, x3, some (fmD d m M), x5, x6, x7, x8, some (.lst (rowsL d m (cnt d m M))), x10, x11, none, x13, x14, x15, x16, x17, x18, x19, x20, x21, x22, x23]) (S := S) (g := fun i => rowS d m 0 (cnt d m M - 1 - i)) (f := fun i => rowS d m 1 (cnt d m M - 1 - i)) (xs := List.range (cnt d m M)) (acc := []) fun i hi => by
      have e := flip_ok (k := k + 14) (S := S) (z := rowS d m 0 (cnt d m M - 1 - i)) isNm_row
      rw [fl_row, show (1 : Int) - 0 = 1 from rfl] at e
      unfold ctn
      simp only [E1, E2, E3, E4, E5, E6, E7, E8, E9, List.map_cons, List.map_nil, List.cons_append, List.nil_append, List.append_nil, List.length_cons, List.length_nil, List.replicate_zero, List.replicate_succ, Nat.sub_self, Nat.zero_add, List.getElem?_cons_zero, List.getElem?_cons_succ, List.set_cons_zero, List.set_cons_succ, if_true, if_false, Bool.false_eq_true, decide_true, decide_false, Bool.not_true, Bool.not_false, decide_eq_true_eq, eq_self, Int.cast_ofNat_Int, Int.natCast_zero, Int.natCast_one, Nat.reduceLeDiff, Nat.reduceSub, Nat.reduceAdd, Nat.reduceLT, reduceIte, reduceCtorEq, Int.reduceEq, Int.reduceLT, Int.reduceLE, Int.reduceNeg, Int.reduceAdd, Int.reduceSub, Int.reduceMul, Int.reduceNe, Int.reduceBNe, Int.reduceBEq, e_law_4, e]
    rw [List.nil_append] at this
    exact this
  unfold eL
  simp only [E1, E2, E3, E4, E5, E6, E7, E8, E9, List.map_cons, List.map_nil, List.cons_append, List.nil_append, List.append_nil, List.length_cons, List.length_nil, List.replicate_zero, List.replicate_succ, Nat.sub_self, Nat.zero_add, List.getElem?_cons_zero, List.getElem?_cons_succ, List.set_cons_zero, List.set_cons_succ, if_true, if_false, Bool.false_eq_true, decide_true, decide_false, Bool.not_true, Bool.not_false, decide_eq_true_eq, eq_self, Int.cast_ofNat_Int, Int.natCast_zero, Int.natCast_one, Nat.reduceLeDiff, Nat.reduceSub, Nat.reduceAdd, Nat.reduceLT, reduceIte, reduceCtorEq, Int.reduceEq, Int.reduceLT, Int.reduceLE, Int.reduceNeg, Int.reduceAdd, Int.reduceSub, Int.reduceMul, Int.reduceNe, Int.reduceBNe, Int.reduceBEq, s_law_0_7, slR_l, rows_rev, rev_len, sz _ (show cnt d m M ≤ 3000000 by omega), wipe_nil, wipe_cons, c1, me, mo, rows_len, List.length_append, sz _ (show 1 + cnt d m M ≤ 3000000 by omega), sz _ (show cnt d m M + 1 ≤ 3000000 by omega), sz _ (show cnt d m M + 1 + cnt d m M ≤ 3000000 by omega), sz _ (show cnt d m M + cnt d m M + 1 ≤ 3000000 by omega), sz _ (show cnt d m M + 1 + cnt d m M + (1 + 1) ≤ 3000000 by omega), sz _ (show cnt d m M + 1 + cnt d m M + 1 + 1 ≤ 3000000 by omega), sz _ (show cnt d m M + cnt d m M + 1 + (1 + 1) ≤ 3000000 by omega), List.append_assoc]

/-- the sizes of plain data -/
theorem szDs_le {c : Nat} : ∀ {xs : List D}, (∀ x ∈ xs, szD x ≤ c) → szDs xs ≤ xs.length * c
  | [], _ => Nat.zero_le _
  | x :: xs, h => by
    have h1 := h x List.mem_cons_self
    have h2 := szDs_le (xs := xs) fun y hy => h y (List.mem_cons_of_mem _ hy)
    show szD x + szDs xs ≤ (xs.length + 1) * c
    rw [Nat.add_mul]
    omega
theorem mem_rows {x : D} {c : Nat} (h : x ∈ rowsL d m c) : IsNm x := by
  obtain ⟨j, _, rfl⟩ := List.mem_map.mp h
  exact isNm_row (s := 0)
theorem mem_e {x : D} (h : x ∈ eL d m M) : x = endD 1 ∨ (∃ (s : Int) (j : Nat), (s = 0 ∨ s = 1) ∧ j < cnt d m M ∧ x = rowS d m s j) ∨ x = endD 0 ∨ x = noneD := by
  unfold eL at h
  rcases List.mem_cons.mp h with h | h
  · exact .inl h
  · rcases List.mem_append.mp h with h | h
    · obtain ⟨j, hj, rfl⟩ := List.mem_map.mp h
      have := List.mem_range.mp hj
      exact .inr (.inl ⟨1, _, .inr rfl, by omega, rfl⟩)
    · rcases List.mem_append.mp h with h | h
      · obtain ⟨j, hj, rfl⟩ := List.mem_map.mp h
        exact .inr (.inl ⟨0, j, .inl rfl, List.mem_range.mp hj, rfl⟩)
      · rcases List.mem_cons.mp h with h | h
        · exact .inr (.inr (.inl h))
        · rcases List.mem_cons.mp h with h | h
          · exact .inr (.inr (.inr h))
          · cases h
theorem e_good {x : D} (h : x ∈ eL d m M) : okD 1 x = true ∧ szD x ≤ 10 := by
  rcases mem_e h with rfl | ⟨s, j, _, _, rfl⟩ | rfl | rfl
  · exact nm_good (.inr (.inr ⟨1, rfl⟩))
  · exact nm_good isNm_row
  · exact nm_good (.inr (.inr ⟨0, rfl⟩))
  · exact ⟨okD_o, by show 2 ≤ 10; decide⟩
theorem cnt_s (h : FF d m M) : cnt d m M ≤ 80 := by
  have h1 := h.d4
  have h2 := h.m5
  have h3 := h.M2
  have h4 : fh d ≤ 8 := by
    unfold fh
    exact Nat.le_trans (Nat.pow_le_pow_right (by decide) (show d - 1 ≤ 3 by omega)) (by decide)
  have h5 : (M - m).toNat * fh d ≤ 7 * 8 := Nat.mul_le_mul (by omega) h4
  unfold cnt
  omega
theorem e_len : (eL d m M).length = 2 * cnt d m M + 3 := by
  unfold eL
  simp [rev_len, rows_len]
  omega
theorem same_rows (h : FF d m M) : callK G (k + 1) i__law_same [.tup (rowsL d m (cnt d m M)), .tup (rowsL d m (cnt d m M))] S = some (.bl true, S) := by
  have hc := cnt_s h
  refine same_ok (n := 2) (okD_tup (okDs_all fun x hx => (nm_good (mem_rows hx)).1) (le_size (by rw [rows_len]; omega))) (by decide) ?_
  have := szDs_le (c := 10) fun x (hx : x ∈ rowsL d m (cnt d m M)) => (nm_good (mem_rows hx)).2
  rw [rows_len] at this
  show 1 + szDs (rowsL d m (cnt d m M)) ≤ 1000000
  omega
theorem same_e (h : FF d m M) : callK G (k + 1) i__law_same [.tup (eL d m M), .tup (eL d m M)] S = some (.bl true, S) := by
  have hc := cnt_s h
  refine same_ok (n := 2) (okD_tup (okDs_all fun x hx => (e_good hx).1) (le_size (by rw [e_len]; omega))) (by decide) ?_
  have := szDs_le (c := 10) fun x (hx : x ∈ eL d m M) => (e_good hx).2
  rw [e_len] at this
  show 1 + szDs (eL d m M) ≤ 1000000
  omega
theorem s8_ok (h : FF d m M) : evS G (callK G (k + 15)) s_law_0_8 [x0, x1, x2, x3, some (fmD d m M), x5, x6, x7, x8, some (.lst (rowsL d m (cnt d m M))), x10, some (.lst (eL d m M)), x12, x13, x14, x15, x16, x17, x18, x19, x20, x21, x22, x23] S = some (.nx [x0, x1, x2, x3, some (fmD d m M), x5, x6, x7, x8, some (.lst (rowsL d m (cnt d m M))), x10, some (.lst (eL d m M)), x12, x13, x14, x15, x16, x17, x18, x19, x20, x21, x22, x23], S) := by
  have hc := cnt_s h
  have o2 := Bd.mulOk (n := 2) (a := 2) (show (2 : Nat) < 2 ^ 2 by decide) (show Bd 30 (cnt d m M : Int) from Nat.lt_of_le_of_lt hc (by decide)) (by decide)
  simp only [E1, E2, E3, E4, E5, E6, E7, E8, E9, List.map_cons, List.map_nil, List.cons_append, List.nil_append, List.append_nil, List.length_cons, List.length_nil, List.replicate_zero, List.replicate_succ, Nat.sub_self, Nat.zero_add, List.getElem?_cons_zero, List.getElem?_cons_succ, List.set_cons_zero, List.set_cons_succ, if_true, if_false, Bool.false_eq_true, decide_true, decide_false, Bool.not_true, Bool.not_false, decide_eq_true_eq, eq_self, Int.cast_ofNat_Int, Int.natCast_zero, Int.natCast_one, Nat.reduceLeDiff, Nat.reduceSub, Nat.reduceAdd, Nat.reduceLT, reduceIte, reduceCtorEq, Int.reduceEq, Int.reduceLT, Int.reduceLE, Int.reduceNeg, Int.reduceAdd, Int.reduceSub, Int.reduceMul, Int.reduceNe, Int.reduceBNe, Int.reduceBEq, s_law_0_8, all_finite_ok h.f, tup_t, same_rows h, all_numbers_ok h.f, same_e h, count_ok h.f, rows_len, o2, same_int]
/-! every number -/
theorem b5_o : fbd G (callK G (k + 15)) (.name 12) b_law_5 noneD [x0, x1, x2, x3, some (fmD d m M), x5, x6, x7, x8, x9, x10, x11, x12, x13, x14, x15, x16, x17, x18, x19, x20, x21, x22, x23] S = some (.nx [x0, x1, x2, x3, some (fmD d m M), x5, x6, x7, x8, x9, x10, x11, some (noneD), x13, x14, x15, x16, x17, x18, x19, x20, x21, x22, x23], S) := by
  unfold fbd
  simp only [E1, E2, E3, E4, E5, E6, E7, E8, E9, List.map_cons, List.map_nil, List.cons_append, List.nil_append, List.append_nil, List.length_cons, List.length_nil, List.replicate_zero, List.replicate_succ, Nat.sub_self, Nat.zero_add, List.getElem?_cons_zero, List.getElem?_cons_succ, List.set_cons_zero, List.set_cons_succ, if_true, if_false, Bool.false_eq_true, decide_true, decide_false, Bool.not_true, Bool.not_false, decide_eq_true_eq, eq_self, Int.cast_ofNat_Int, Int.natCast_zero, Int.natCast_one, Nat.reduceLeDiff, Nat.reduceSub, Nat.reduceAdd, Nat.reduceLT, reduceIte, reduceCtorEq, Int.reduceEq, Int.reduceLT, Int.reduceLE, Int.reduceNeg, Int.reduceAdd, Int.reduceSub, Int.reduceMul, Int.reduceNe, Int.reduceBNe, Int.reduceBEq, b_law_5, of_o, same_bl, turned_o, flip_o, same_o, fin_o, idx_o0, in_nn_none, sized_o]
theorem b5_e (hs : s = 0 ∨ s = 1) : fbd G (callK G (k + 15)) (.name 12) b_law_5 (endD s) [x0, x1, x2, x3, some (fmD d m M), x5, x6, x7, x8, x9, x10, x11, x12, x13, x14, x15, x16, x17, x18, x19, x20, x21, x22, x23] S = some (.nx [x0, x1, x2, x3, some (fmD d m M), x5, x6, x7, x8, x9, x10, x11, some (endD s), x13, x14, x15, x16, x17, x18, x19, x20, x21, x22, x23], S) := by
  have n1 : IsNm (endD s) := .inr (.inr ⟨s, rfl⟩)
  have e1 := flip_ok (k := k + 14) (S := S) n1
  have e2 := turned_ok (k := k + 14) (S := S) n1
  have e3 := sized_ok (k := k + 14) (S := S) n1
  rw [fl_e] at e1 e2
  rw [so_e] at e3
  have n2 : IsNm (endD (1 - s)) := .inr (.inr ⟨_, rfl⟩)
  have n3 : IsNm (endD 0) := .inr (.inr ⟨_, rfl⟩)
  have me : ∀ s : Int, D.tup [.str "endless", .int s] = endD s := fun _ => rfl
  have ad : binD .Add (endD 0) (.tup []) = some (endD 0) := by
    unfold endD
    rw [add_t]
    rfl
  unfold fbd
  simp only [E1, E2, E3, E4, E5, E6, E7, E8, E9, List.map_cons, List.map_nil, List.cons_append, List.nil_append, List.append_nil, List.length_cons, List.length_nil, List.replicate_zero, List.replicate_succ, Nat.sub_self, Nat.zero_add, List.getElem?_cons_zero, List.getElem?_cons_succ, List.set_cons_zero, List.set_cons_succ, if_true, if_false, Bool.false_eq_true, decide_true, decide_false, Bool.not_true, Bool.not_false, decide_eq_true_eq, eq_self, Int.cast_ofNat_Int, Int.natCast_zero, Int.natCast_one, Nat.reduceLeDiff, Nat.reduceSub, Nat.reduceAdd, Nat.reduceLT, reduceIte, reduceCtorEq, Int.reduceEq, Int.reduceLT, Int.reduceLE, Int.reduceNeg, Int.reduceAdd, Int.reduceSub, Int.reduceMul, Int.reduceNe, Int.reduceBNe, Int.reduceBEq, b_law_5, of_e hs, same_bl, e1, e2, e3, same_nm n2, same_nm n3, fin_e, idx_e0, in_nn_end, YN, sl1_end, sl2_end, me, ad]
theorem b5_z (hs : s = 0 ∨ s = 1) : fbd G (callK G (k + 15)) (.name 12) b_law_5 (nothD s) [x0, x1, x2, x3, some (fmD d m M), x5, x6, x7, x8, x9, x10, x11, x12, x13, x14, x15, x16, x17, x18, x19, x20, x21, x22, x23] S = some (.nx [x0, x1, x2, x3, some (fmD d m M), x5, x6, x7, x8, x9, x10, x11, some (nothD s), x13, x14, x15, x16, x17, x18, x19, x20, x21, x22, x23], S) := by
  have n1 : IsNm (nothD s) := .inr (.inl ⟨s, rfl⟩)
  have e1 := flip_ok (k := k + 14) (S := S) n1
  have e2 := turned_ok (k := k + 14) (S := S) n1
  have e3 := sized_ok (k := k + 14) (S := S) n1
  rw [fl_z] at e1 e2
  rw [so_z] at e3
  have n2 : IsNm (nothD (1 - s)) := .inr (.inl ⟨_, rfl⟩)
  have n3 : IsNm (nothD 0) := .inr (.inl ⟨_, rfl⟩)
  have me : ∀ s : Int, D.tup [.str "nothing", .int s] = nothD s := fun _ => rfl
  have ad : binD .Add (nothD 0) (.tup []) = some (nothD 0) := by
    unfold nothD
    rw [add_t]
    rfl
  have v1 : callK G (k + 15) i_value_of [nothD s] S = some (fr 0, S) := val_noth
  have v2 : callK G (k + 15) i__law_val [nothD s] S = some (fr 0, S) := lval_noth
  unfold fbd
  simp only [E1, E2, E3, E4, E5, E6, E7, E8, E9, List.map_cons, List.map_nil, List.cons_append, List.nil_append, List.append_nil, List.length_cons, List.length_nil, List.replicate_zero, List.replicate_succ, Nat.sub_self, Nat.zero_add, List.getElem?_cons_zero, List.getElem?_cons_succ, List.set_cons_zero, List.set_cons_succ, if_true, if_false, Bool.false_eq_true, decide_true, decide_false, Bool.not_true, Bool.not_false, decide_eq_true_eq, eq_self, Int.cast_ofNat_Int, Int.natCast_zero, Int.natCast_one, Nat.reduceLeDiff, Nat.reduceSub, Nat.reduceAdd, Nat.reduceLT, reduceIte, reduceCtorEq, Int.reduceEq, Int.reduceLT, Int.reduceLE, Int.reduceNeg, Int.reduceAdd, Int.reduceSub, Int.reduceMul, Int.reduceNe, Int.reduceBNe, Int.reduceBEq, b_law_5, of_z hs, same_bl, e1, e2, e3, same_nm n2, same_nm n3, fin_z, idx_z0, in_nn_noth, YN, sl1_noth, sl2_noth, me, ad, v1, v2, same_fr]
theorem b5_n (hs : s = 0 ∨ s = 1) (ho : callK G (k + 15) i_is_of [fmD d m M, numD s v p] S = some (.bl true, S)) (hv : Bd 100 (v : Int)) (hp : p.natAbs ≤ 1000) : fbd G (callK G (k + 15)) (.name 12) b_law_5 (numD s v p) [x0, x1, x2, x3, some (fmD d m M), x5, x6, x7, x8, x9, x10, x11, x12, x13, x14, x15, x16, x17, x18, x19, x20, x21, x22, x23] S = some (.nx [x0, x1, x2, x3, some (fmD d m M), x5, x6, x7, x8, x9, x10, x11, some (numD s v p), x13, x14, x15, x16, x17, x18, x19, x20, x21, x22, x23], S) := by
  have n1 : IsNm (numD s v p) := .inl ⟨s, v, p, rfl⟩
  have e1 := flip_ok (k := k + 14) (S := S) n1
  have e2 := turned_ok (k := k + 14) (S := S) n1
  have e3 := sized_ok (k := k + 14) (S := S) n1
  rw [fl_n] at e1 e2
  rw [so_n] at e3
  have n2 : IsNm (numD (1 - s) v p) := .inl ⟨_, _, _, rfl⟩
  have n3 : IsNm (numD 0 v p) := .inl ⟨_, _, _, rfl⟩
  have v1 : callK G (k + 15) i_value_of [numD s v p] S = some (fr (sgQ s ((v : Rat) * (2 : Rat) ^ p)), S) := val_num hv hp
  have v2 : callK G (k + 15) i__law_val [numD s v p] S = some (fr (sgQ s ((v : Rat) * (2 : Rat) ^ p)), S) := lval_num hv hp hs
  unfold fbd
  simp only [E1, E2, E3, E4, E5, E6, E7, E8, E9, List.map_cons, List.map_nil, List.cons_append, List.nil_append, List.append_nil, List.length_cons, List.length_nil, List.replicate_zero, List.replicate_succ, Nat.sub_self, Nat.zero_add, List.getElem?_cons_zero, List.getElem?_cons_succ, List.set_cons_zero, List.set_cons_succ, if_true, if_false, Bool.false_eq_true, decide_true, decide_false, Bool.not_true, Bool.not_false, decide_eq_true_eq, eq_self, Int.cast_ofNat_Int, Int.natCast_zero, Int.natCast_one, Nat.reduceLeDiff, Nat.reduceSub, Nat.reduceAdd, Nat.reduceLT, reduceIte, reduceCtorEq, Int.reduceEq, Int.reduceLT, Int.reduceLE, Int.reduceNeg, Int.reduceAdd, Int.reduceSub, Int.reduceMul, Int.reduceNe, Int.reduceBNe, Int.reduceBEq, b_law_5, ho, same_bl, e1, e2, e3, same_nm n2, same_nm n3, fin_n, idx_n0, in_nn_num, YN, sl1_num, sl2_num, mk_num, v1, v2, same_fr]
theorem b5_ok (h : Fm d m M) (hz : z ∈ eL d m M) : fbd G (callK G (k + 15)) (.name 12) b_law_5 z [x0, x1, x2, x3, some (fmD d m M), x5, x6, x7, x8, x9, x10, x11, x12, x13, x14, x15, x16, x17, x18, x19, x20, x21, x22, x23] S = some (.nx [x0, x1, x2, x3, some (fmD d m M), x5, x6, x7, x8, x9, x10, x11, some (z), x13, x14, x15, x16, x17, x18, x19, x20, x21, x22, x23], S) := by
  rcases mem_e hz with rfl | ⟨s, j, hs, hj, rfl⟩ | rfl | rfl
  · exact b5_e (.inr rfl)
  · have ho := of_row (k := k + 11) (S := S) h hs hj
    obtain ⟨r1, r2, r3⟩ := row_in h hj
    have h4 := fh_le h
    unfold rowS mkN at ho ⊢
    by_cases c : rW d j = 0
    · rw [if_pos c]
      exact b5_z hs
    · rw [if_neg c] at ho ⊢
      exact b5_n hs ho (show rW d j < 2 ^ 100 from Nat.lt_of_lt_of_le r1 (Nat.le_trans h4 (by decide))) (by have := h.m1; have := h.M1; omega)
  · exact b5_e (.inl rfl)
  · exact b5_o
theorem s9_ok (h : Fm d m M) : ∃ y12, evS G (callK G (k + 15)) s_law_0_9 [x0, x1, x2, x3, some (fmD d m M), x5, x6, x7, x8, some (.lst (rowsL d m (cnt d m M))), x10, some (.lst (eL d m M)), x12, x13, x14, x15, x16, x17, x18, x19, x20, x21, x22, x23] S = some (.nx [x0, x1, x2, x3, some (fmD d m M), x5, x6, x7, x8, some (.lst (rowsL d m (cnt d m M))), x10, some (.lst (eL d m M)), y12, x13, x14, x15, x16, x17, x18, x19, x20, x21, x22, x23], S) := by
  obtain ⟨ρ, S1, e, y12, rfl, rfl⟩ := forL_run (all := eL d m M) (body := fbd G (callK G (k + 15)) (.name 12) b_law_5) (xs := eL d m M) (ρ := [x0, x1, x2, x3, some (fmD d m M), x5, x6, x7, x8, some (.lst (rowsL d m (cnt d m M))), x10, some (.lst (eL d m M)), x12, x13, x14, x15, x16, x17, x18, x19, x20, x21, x22, x23]) (S := S)
    (I := fun i ρ S' => ∃ y12, ρ = [x0, x1, x2, x3, some (fmD d m M), x5, x6, x7, x8, some (.lst (rowsL d m (cnt d m M))), x10, some (.lst (eL d m M)), y12, x13, x14, x15, x16, x17, x18, x19, x20, x21, x22, x23] ∧ S' = S)
    (by
      rintro i x ρ S' hx ⟨y12, rfl, rfl⟩
      exact ⟨_, _, b5_ok h (List.mem_of_getElem? hx), _, rfl, rfl⟩)
    ⟨x12, rfl, rfl⟩
  refine ⟨y12, ?_⟩
  simp only [E1, E2, E3, E4, E5, E6, E7, E8, E9, List.map_cons, List.map_nil, List.cons_append, List.nil_append, List.append_nil, List.length_cons, List.length_nil, List.replicate_zero, List.replicate_succ, Nat.sub_self, Nat.zero_add, List.getElem?_cons_zero, List.getElem?_cons_succ, List.set_cons_zero, List.set_cons_succ, if_true, if_false, Bool.false_eq_true, decide_true, decide_false, Bool.not_true, Bool.not_false, decide_eq_true_eq, eq_self, Int.cast_ofNat_Int, Int.natCast_zero, Int.natCast_one, Nat.reduceLeDiff, Nat.reduceSub, Nat.reduceAdd, Nat.reduceLT, reduceIte, reduceCtorEq, Int.reduceEq, Int.reduceLT, Int.reduceLE, Int.reduceNeg, Int.reduceAdd, Int.reduceSub, Int.reduceMul, Int.reduceNe, Int.reduceBNe, Int.reduceBEq, s_law_0_9, e]
end
end Rw.Pk01

set_option exponentiation.threshold 300
namespace Rw.Pk01
open PySem L2 Rw
section
variable {k : Nat} {S T : Sto} {d d' j : Nat} {m M m' M' i : Int} {s t p : Int} {v w : Nat} {q o A P : Rat} {L : List D} {z : D} {b : Bool}
theorem num_ge0 {p : Rat} : 0 ≤ p.num ↔ 0 ≤ p := by
  rw [Rat.le_iff]
  simp
def topV (d : Nat) (m M : Int) : Rat := vl d m (cnt d m M - 1)
theorem topV_eq (h : Fm d m M) : topV d m M = ((2 ^ d - 1 : Nat) : Rat) * (2 : Rat) ^ M := by
  obtain ⟨e1, e2⟩ := top_rW (d := d) (m := m) (M := M) (by have := h.d1; omega) h.le
  unfold topV vl
  rw [e1, e2]
theorem expo_mono (ho : o ≠ 0) (hq : q ≠ 0) (h : o.abs ≤ q.abs) : expo o ≤ expo q := by
  obtain ⟨a1, a2⟩ := expo_spec ho
  obtain ⟨b1, b2⟩ := expo_spec hq
  have : (2 : Rat) ^ expo o < (2 : Rat) ^ (expo q + 1) := le_lt (Rat.le_trans a1 h) (Rat.not_le.mp b2)
  have := two_lt.mp this
  omega
theorem ow (o : Rat) : o = sgQ (ownQ o) o.abs ∧ (ownQ o = 0 ∨ ownQ o = 1) := by
  unfold ownQ sgQ
  by_cases c : o.num < 0
  · rw [decide_eq_true c, abs_eq, if_pos (show b2i true = 1 from rfl)]
    have : o < 0 := by
      have h1 := num_ge0 (p := o)
      rcases Rat.le_total (a := 0) (b := o) with g | g
      · have := h1.mpr g; omega
      · have : o ≠ 0 := fun e => by rw [e] at c; exact absurd c (by decide)
        grind
    rw [if_pos this]
    exact ⟨by grind, .inr rfl⟩
  · rw [decide_eq_false c, abs_eq, if_neg (show ¬ b2i false = 1 by decide)]
    have : ¬ o < 0 := by
      have := num_ge0 (p := o)
      have := this.mp (by omega)
      grind
    rw [if_neg this]
    exact ⟨rfl, .inl rfl⟩
/-! which fractions stand in a format -/
theorem den1_iff : (xq p q).den = 1 ↔ ∃ w : Nat, q.abs = (w : Rat) * (2 : Rat) ^ p := by
  constructor
  · intro h
    refine ⟨(xq p q).num.natAbs, ?_⟩
    have h0 := Rat.num_nonneg.mpr (xq_nonneg (q := q) p)
    have e : (((xq p q).num.natAbs : Nat) : Rat) = xq p q := by
      have e1 : (((xq p q).num.natAbs : Nat) : Int) = (xq p q).num := by omega
      rw [← Rat.intCast_natCast, e1]
      refine Rat.ext rfl ?_
      rw [h]
      rfl
    rw [e, xq_mul]
  · rintro ⟨w, e⟩
    have : xq p q = (w : Rat) := by
      unfold xq
      rw [e, Rat.mul_assoc, ← two_add, Int.add_right_neg, show (2 : Rat) ^ (0 : Int) = 1 from rfl, Rat.mul_one]
    rw [this]
    rfl
def repB (d : Nat) (m M : Int) (q : Rat) : Bool := decide (q.num = 0) || (decide ((xq (pw d m q) q).den = 1) && decide (pw d m q ≤ M))
theorem rep_ix (h : Fm d m M) (hq : q ≠ 0) (hj : j < cnt d m M) (e : vl d m j = q.abs) : pw d m q ≤ M ∧ j = ixF d m (wh d m q) (pw d m q) ∧ (wh d m q : Rat) * (2 : Rat) ^ pw d m q = q.abs := by
  have hd : 1 ≤ d := by have := h.d1; omega
  have hl : IsLow d m M q.abs j := ⟨hj, by rw [e]; exact Rat.le_refl, fun i _ hv => vl_le_iff.mp (by rw [e]; exact hv)⟩
  have hM : pw d m q ≤ M := by
    rcases Int.lt_or_le M (pw d m q) with c | c
    · have h1 := q_top hd hq h.le c
      have h2 := vl_lt (d := d) (m := m) hj
      rw [vl_cnt hd h.le, e] at h2
      grind
    · exact c
  have hx := hl.uniq (q_low hd hq hM)
  refine ⟨hM, hx, ?_⟩
  obtain ⟨w1, w2⟩ := wh_range (m := m) hd hq
  obtain ⟨e1, e2⟩ := ix_rW (d := d) (m := m) pw_ge w1 w2
  rw [← e, hx]
  unfold vl
  rw [e1, e2]
theorem rep_of (h : Fm d m M) (hj : j < cnt d m M) (e : vl d m j = q.abs) : repB d m M q = true := by
  unfold repB
  by_cases c : q = 0
  · subst c
    rfl
  · obtain ⟨h1, _, h2⟩ := rep_ix h c hj e
    rw [decide_eq_true (den1_iff.mpr ⟨_, h2.symm⟩), decide_eq_true h1, Bool.and_true, Bool.or_true]
theorem rep_cases (h : repB d m M q = true) : q = 0 ∨ ((xq (pw d m q) q).den = 1 ∧ pw d m q ≤ M) := by
  unfold repB at h
  rcases Bool.or_eq_true_iff.mp h with g | g
  · exact .inl (Rat.num_eq_zero.mp (of_decide_eq_true g))
  · obtain ⟨g1, g2⟩ := Bool.and_eq_true_iff.mp g
    exact .inr ⟨of_decide_eq_true g1, of_decide_eq_true g2⟩
theorem rep_to (h : Fm d m M) (g : repB d m M q = true) : ∃ j, j < cnt d m M ∧ vl d m j = q.abs := by
  have hd : 1 ≤ d := by have := h.d1; omega
  by_cases c : q = 0
  · refine ⟨0, cnt_pos, ?_⟩
    rw [vl_zero, c]
    decide +kernel
  · rcases rep_cases g with g | ⟨g1, g2⟩
    · exact absurd g c
    · obtain ⟨w1, w2⟩ := wh_range (m := m) hd c
      refine ⟨ixF d m (wh d m q) (pw d m q), ix_lt pw_ge g2 w1, ?_⟩
      obtain ⟨e1, e2⟩ := ix_rW (d := d) (m := m) pw_ge w1 w2
      have h0 := Rat.num_nonneg.mpr (xq_nonneg (q := q) (pw d m q))
      unfold vl
      rw [e1, e2]
      have e : ((wh d m q : Nat) : Rat) = xq (pw d m q) q := by
        unfold wh
        rw [g1, Nat.div_one]
        have e1 : (((xq (pw d m q) q).num.natAbs : Nat) : Int) = (xq (pw d m q) q).num := by omega
        rw [← Rat.intCast_natCast, e1]
        refine Rat.ext rfl ?_
        rw [g1]
        rfl
      rw [e, xq_mul]
theorem wh_1 (g : (xq (pw d m q) q).den = 1) : (q * (2 : Rat) ^ (-(pw d m q))).num.natAbs = wh d m q := by
  have e2 : (q * (2 : Rat) ^ (-(pw d m q))).abs = xq (pw d m q) q := abs_two _
  have : (xq (pw d m q) q).num = ((q * (2 : Rat) ^ (-(pw d m q))).num.natAbs : Int) := by rw [← e2, abs_num]
  unfold wh
  rw [g, Nat.div_one, this]
  rfl
theorem wh_2 (g : (xq (pw d m q) q).den = 1) : (if (q * (2 : Rat) ^ (-(pw d m q))).num < 0 then -(q * (2 : Rat) ^ (-(pw d m q))).num else (q * (2 : Rat) ^ (-(pw d m q))).num) = ((wh d m q : Nat) : Int) := by
  rw [← wh_1 g]
  split <;> omega
theorem repr_ok (h : Fm d m M) (hq : Sm 1000 q) : callK G (k + 5) i_is_representable [fmD d m M, fr q] S = some (.bl (repB d m M q), S) := by
  have hp := xq_sm h hq
  have e1 := shifted_ok (k := k) (S := S) (p := q) (b := -(pw d m q)) (hq.mono (by decide)) (by omega)
  have e2 : (q * (2 : Rat) ^ (-(pw d m q))).abs = xq (pw d m q) q := abs_two _
  have e3 : (q * (2 : Rat) ^ (-(pw d m q))).den = (xq (pw d m q) q).den := by rw [← e2, abs_den]
  have e4 : ∀ x : Nat, decide ((x : Int) = 1) = decide (x = 1) := fun x => by rw [decide_eq_decide]; omega
  rw [call_fn g_is_representable rfl]
  unfold repB
  by_cases c : q.num = 0
  · simp only [E1, E2, E3, E4, E5, E6, E7, E8, E9, List.map_cons, List.map_nil, List.cons_append, List.nil_append, List.append_nil, List.length_cons, List.length_nil, List.replicate_zero, List.replicate_succ, Nat.sub_self, Nat.zero_add, List.getElem?_cons_zero, List.getElem?_cons_succ, List.set_cons_zero, List.set_cons_succ, if_true, if_false, Bool.false_eq_true, decide_true, decide_false, Bool.not_true, Bool.not_false, decide_eq_true_eq, eq_self, Int.cast_ofNat_Int, Int.natCast_zero, Int.natCast_one, Nat.reduceLeDiff, Nat.reduceSub, Nat.reduceAdd, Nat.reduceLT, reduceIte, reduceCtorEq, Int.reduceEq, Int.reduceLT, Int.reduceLE, Int.reduceNeg, Int.reduceAdd, Int.reduceSub, Int.reduceMul, Int.reduceNe, Int.reduceBNe, Int.reduceBEq, f_is_representable, idx_fr0, c, Bool.true_or]
  · by_cases c2 : (xq (pw d m q) q).den = 1
    · simp only [E1, E2, E3, E4, E5, E6, E7, E8, E9, List.map_cons, List.map_nil, List.cons_append, List.nil_append, List.append_nil, List.length_cons, List.length_nil, List.replicate_zero, List.replicate_succ, Nat.sub_self, Nat.zero_add, List.getElem?_cons_zero, List.getElem?_cons_succ, List.set_cons_zero, List.set_cons_succ, if_true, if_false, Bool.false_eq_true, decide_true, decide_false, Bool.not_true, Bool.not_false, decide_eq_true_eq, eq_self, Int.cast_ofNat_Int, Int.natCast_zero, Int.natCast_one, Nat.reduceLeDiff, Nat.reduceSub, Nat.reduceAdd, Nat.reduceLT, reduceIte, reduceCtorEq, Int.reduceEq, Int.reduceLT, Int.reduceLE, Int.reduceNeg, Int.reduceAdd, Int.reduceSub, Int.reduceMul, Int.reduceNe, Int.reduceBNe, Int.reduceBEq, f_is_representable, idx_fr0, idx_fr1, idx_fm2, c, unit_ok h hq, e1, e3, e4, c2, Bool.false_or, Bool.true_and]
    · simp only [E1, E2, E3, E4, E5, E6, E7, E8, E9, List.map_cons, List.map_nil, List.cons_append, List.nil_append, List.append_nil, List.length_cons, List.length_nil, List.replicate_zero, List.replicate_succ, Nat.sub_self, Nat.zero_add, List.getElem?_cons_zero, List.getElem?_cons_succ, List.set_cons_zero, List.set_cons_succ, if_true, if_false, Bool.false_eq_true, decide_true, decide_false, Bool.not_true, Bool.not_false, decide_eq_true_eq, eq_self, Int.cast_ofNat_Int, Int.natCast_zero, Int.natCast_one, Nat.reduceLeDiff, Nat.reduceSub, Nat.reduceAdd, Nat.reduceLT, reduceIte, reduceCtorEq, Int.reduceEq, Int.reduceLT, Int.reduceLE, Int.reduceNeg, Int.reduceAdd, Int.reduceSub, Int.reduceMul, Int.reduceNe, Int.reduceBNe, Int.reduceBEq, f_is_representable, idx_fr0, idx_fr1, idx_fm2, c, unit_ok h hq, e1, e3, e4, c2, Bool.false_or, Bool.false_and]
theorem number_0 (c : q.num = 0) : callK G (k + 5) i_number_of [fmD d m M, fr q] S = some (nothD 0, S) := by
  rw [call_fn g_number_of rfl]
  simp only [E1, E2, E3, E4, E5, E6, E7, E8, E9, List.map_cons, List.map_nil, List.cons_append, List.nil_append, List.append_nil, List.length_cons, List.length_nil, List.replicate_zero, List.replicate_succ, Nat.sub_self, Nat.zero_add, List.getElem?_cons_zero, List.getElem?_cons_succ, List.set_cons_zero, List.set_cons_succ, if_true, if_false, Bool.false_eq_true, decide_true, decide_false, Bool.not_true, Bool.not_false, decide_eq_true_eq, eq_self, Int.cast_ofNat_Int, Int.natCast_zero, Int.natCast_one, Nat.reduceLeDiff, Nat.reduceSub, Nat.reduceAdd, Nat.reduceLT, reduceIte, reduceCtorEq, Int.reduceEq, Int.reduceLT, Int.reduceLE, Int.reduceNeg, Int.reduceAdd, Int.reduceSub, Int.reduceMul, Int.reduceNe, Int.reduceBNe, Int.reduceBEq, f_number_of, idx_fr0, c]
  rfl
theorem number_ok (h : Fm d m M) (hq : Sm 1000 q) (c : q.num ≠ 0) (g : (xq (pw d m q) q).den = 1) : callK G (k + 5) i_number_of [fmD d m M, fr q] S = some (numD (ownQ q) (wh d m q) (pw d m q), S) := by
  have hp := xq_sm h hq
  have e1 := shifted_ok (k := k) (S := S) (p := q) (b := -(pw d m q)) (hq.mono (by decide)) (by omega)
  rw [call_fn g_number_of rfl]
  have eo : b2i (decide (q.num < 0)) = ownQ q := rfl
  simp only [E1, E2, E3, E4, E5, E6, E7, E8, E9, List.map_cons, List.map_nil, List.cons_append, List.nil_append, List.append_nil, List.length_cons, List.length_nil, List.replicate_zero, List.replicate_succ, Nat.sub_self, Nat.zero_add, List.getElem?_cons_zero, List.getElem?_cons_succ, List.set_cons_zero, List.set_cons_succ, if_true, if_false, Bool.false_eq_true, decide_true, decide_false, Bool.not_true, Bool.not_false, decide_eq_true_eq, eq_self, Int.cast_ofNat_Int, Int.natCast_zero, Int.natCast_one, Nat.reduceLeDiff, Nat.reduceSub, Nat.reduceAdd, Nat.reduceLT, reduceIte, reduceCtorEq, Int.reduceEq, Int.reduceLT, Int.reduceLE, Int.reduceNeg, Int.reduceAdd, Int.reduceSub, Int.reduceMul, Int.reduceNe, Int.reduceBNe, Int.reduceBEq, f_number_of, idx_fr0, c, unit_ok h hq, e1, wh_2 g, eo, mk_num]
theorem num_nz (hw : w ≠ 0) : ((w : Nat) : Rat) * (2 : Rat) ^ p ≠ 0 := by
  have h1 : (0 : Rat) < ((w : Nat) : Rat) := Rat.natCast_pos.mpr (by omega)
  have := Rat.mul_pos h1 (two_pos p)
  grind
/-- the row of a fraction -/
theorem row_of (h : Fm d m M) (hq : q ≠ 0) (hj : j < cnt d m M) (e : vl d m j = q.abs) : rowD d m j = numD 0 (wh d m q) (pw d m q) := by
  have hd : 1 ≤ d := by have := h.d1; omega
  obtain ⟨h1, h2, h3⟩ := rep_ix h hq hj e
  obtain ⟨w1, w2⟩ := wh_range (m := m) hd hq
  obtain ⟨e1, e2⟩ := ix_rW (d := d) (m := m) pw_ge w1 w2
  have hz : wh d m q ≠ 0 := fun c => by
    rw [c, show ((0 : Nat) : Rat) * (2 : Rat) ^ pw d m q = 0 from Rat.zero_mul _] at h3
    have := abs_eq q
    split at this <;> grind
  rw [h2]
  unfold rowD mkN
  rw [e1, e2, if_neg hz]
theorem two_expo {x : Int} (hq : q ≠ 0) : (2 : Rat) ^ x ≤ q.abs ↔ x ≤ expo q := by
  obtain ⟨a1, a2⟩ := expo_spec hq
  constructor
  · intro h
    have : (2 : Rat) ^ x < (2 : Rat) ^ (expo q + 1) := le_lt h (Rat.not_le.mp a2)
    have := two_lt.mp this
    omega
  · intro h
    exact Rat.le_trans (two_le.mpr h) a1
/-- formats within others -/
theorem vl_nn : 0 ≤ vl d m j := by
  rw [← vl_zero (d := d) (m := m)]
  exact vl_le (Nat.zero_le _)
theorem vl_abs : (vl d m j).abs = vl d m j := by
  have := vl_nn (d := d) (m := m) (j := j)
  rw [abs_eq, if_neg (by grind)]
def wtB (d : Nat) (m M : Int) (d' : Nat) (m' M' : Int) : Bool := decide (d ≤ d') && (decide (m' ≤ m) && repB d' m' M' (topV d m M))
theorem wt_of (h : Fm d m M) (h' : Fm d' m' M') (H : ∀ j, j < cnt d m M → ∃ i, i < cnt d' m' M' ∧ vl d' m' i = vl d m j) : wtB d m M d' m' M' = true := by
  have hp := fh_pos (d := d)
  have hd : 1 ≤ d := by have := h.d1; omega
  have h2 : 2 ≤ fh d := by
    unfold fh
    exact Nat.le_trans (by decide) (Nat.pow_le_pow_right (by decide) (show 1 ≤ d - 1 by have := h.d1; omega))
  have hc : 2 * fh d ≤ cnt d m M := by unfold cnt; omega
  have a1 : repB d' m' M' (topV d m M) = true := by
    obtain ⟨i, hi, e⟩ := H (cnt d m M - 1) (by omega)
    exact rep_of h' hi (by rw [e]; exact vl_abs.symm)
  have a2 : m' ≤ m := by
    obtain ⟨i, hi, e⟩ := H 1 (by omega)
    obtain ⟨r1, r2, r3⟩ := row_in h' hi
    have e1 : vl d m 1 = (2 : Rat) ^ m := by
      unfold vl rW rP
      rw [if_pos (by omega), if_pos (by omega)]
      exact Rat.one_mul _
    rw [e1] at e
    have hw : rW d' i ≠ 0 := fun c => by
      unfold vl at e
      rw [c, show ((0 : Nat) : Rat) * (2 : Rat) ^ rP d' m' i = 0 from Rat.zero_mul _] at e
      have := two_pos m
      grind
    have h1 : (1 : Rat) ≤ ((rW d' i : Nat) : Rat) := Rat.natCast_le_natCast.mpr (show 1 ≤ rW d' i by omega)
    have h3 := Rat.mul_le_mul_of_nonneg_right h1 (Rat.le_of_lt (two_pos (rP d' m' i)))
    rw [Rat.one_mul] at h3
    unfold vl at e
    rw [e] at h3
    have := two_le.mp h3
    omega
  have a3 : d ≤ d' := by
    rcases Nat.lt_or_ge d' d with c | c
    · exfalso
      obtain ⟨i, hi, e⟩ := H (2 * fh d - 1) (by omega)
      obtain ⟨r1, r2, r3⟩ := row_in h' hi
      have e1 : vl d m (2 * fh d - 1) = ((2 * fh d - 1 : Nat) : Rat) * (2 : Rat) ^ m := by
        unfold vl rW rP
        rw [if_pos (by omega), if_pos (by omega)]
      rw [e1] at e
      unfold vl at e
      have hf : 2 * fh d' ≤ fh d := by
        rw [fh_two (d := d') (by have := h'.d1; omega)]
        unfold fh
        exact Nat.pow_le_pow_right (by decide) (by omega)
      have hpm : m < rP d' m' i := by
        rcases Int.lt_or_le m (rP d' m' i) with g | g
        · exact g
        · exfalso
          have g1 := two_le.mpr g
          have g2 : ((rW d' i : Nat) : Rat) < ((2 * fh d - 1 : Nat) : Rat) := Rat.natCast_lt_natCast.mpr (by omega)
          have g3 := Rat.mul_lt_mul_of_pos_right g2 (two_pos m)
          have g4 := Rat.mul_le_mul_of_nonneg_left g1 (show (0 : Rat) ≤ ((rW d' i : Nat) : Rat) from Rat.natCast_nonneg)
          grind
      obtain ⟨n, hn⟩ : ∃ n : Nat, rP d' m' i = ((n + 1 : Nat) : Int) + m := ⟨(rP d' m' i - m - 1).toNat, by omega⟩
      rw [hn, two_add, ← Rat.mul_assoc, ← two_cast, ← Rat.natCast_mul] at e
      have hz : (2 : Rat) ^ m ≠ 0 := by have := two_pos m; grind
      have e2 : ((rW d' i * 2 ^ (n + 1) : Nat) : Rat) = ((2 * fh d - 1 : Nat) : Rat) := by
        have := congrArg (fun x => x * ((2 : Rat) ^ m)⁻¹) e
        simp only [Rat.mul_assoc, Rat.mul_inv_cancel _ hz, Rat.mul_one] at this
        exact this
      have e3 : rW d' i * 2 ^ (n + 1) = 2 * fh d - 1 := by
        have h1 := Rat.natCast_le_natCast.mp (show ((rW d' i * 2 ^ (n + 1) : Nat) : Rat) ≤ ((2 * fh d - 1 : Nat) : Rat) by rw [e2]; exact Rat.le_refl)
        have h2 := Rat.natCast_le_natCast.mp (show ((2 * fh d - 1 : Nat) : Rat) ≤ ((rW d' i * 2 ^ (n + 1) : Nat) : Rat) by rw [e2]; exact Rat.le_refl)
        omega
      rw [Nat.pow_succ, ← Nat.mul_assoc] at e3
      omega
    · exact c
  unfold wtB
  rw [decide_eq_true a3, decide_eq_true a2, a1]
  rfl
theorem top_pos (h : Fm d m M) : topV d m M ≠ 0 := by
  have hp := fh_pos (d := d)
  have hc : 2 ≤ cnt d m M := by unfold cnt; omega
  have := vl_lt (d := d) (m := m) (show 0 < cnt d m M - 1 by omega)
  rw [vl_zero] at this
  unfold topV
  grind
theorem pw_mono (ho : o ≠ 0) (hq : q ≠ 0) (hl : o.abs ≤ q.abs) : pw d m o ≤ pw d m q := by
  have := expo_mono ho hq hl
  unfold pw
  rw [if_neg (num_ne ho), if_neg (num_ne hq)]
  split <;> split <;> omega
theorem wt_to (h : Fm d m M) (h' : Fm d' m' M') (g : wtB d m M d' m' M' = true) : ∀ j, j < cnt d m M → ∃ i, i < cnt d' m' M' ∧ vl d' m' i = vl d m j := by
  unfold wtB at g
  obtain ⟨g1, g2⟩ := Bool.and_eq_true_iff.mp g
  obtain ⟨g2, g3⟩ := Bool.and_eq_true_iff.mp g2
  have g1 := of_decide_eq_true g1
  have g2 := of_decide_eq_true g2
  intro j hj
  have hd : 1 ≤ d := by have := h.d1; omega
  suffices hr : repB d' m' M' (vl d m j) = true by
    obtain ⟨i, hi, e⟩ := rep_to h' hr
    exact ⟨i, hi, by rw [e]; exact vl_abs⟩
  by_cases c : vl d m j = 0
  · rw [c]
    rfl
  · have hn := num_ne c
    obtain ⟨r1, r2, r3⟩ := row_in h hj
    have hp : pw d' m' (vl d m j) ≤ rP d m j := by
      have a1 := (expo_spec c).1
      rw [vl_abs] at a1
      have a2 : vl d m j < (2 : Rat) ^ ((d : Int) + rP d m j) := by
        have b1 : ((rW d j : Nat) : Rat) < ((2 ^ d : Nat) : Rat) := Rat.natCast_lt_natCast.mpr (by rw [← fh_two hd]; exact r1)
        have b2 := Rat.mul_lt_mul_of_pos_right b1 (two_pos (rP d m j))
        rw [two_cast, ← two_add] at b2
        exact b2
      have a3 := two_lt.mp (le_lt a1 a2)
      unfold pw
      rw [if_neg hn]
      split <;> omega
    have hM : pw d' m' (vl d m j) ≤ M' := by
      rcases rep_cases g3 with e | ⟨_, e⟩
      · exact absurd e (top_pos h)
      · refine Int.le_trans (pw_mono c (top_pos h) ?_) e
        unfold topV
        rw [vl_abs, vl_abs]
        exact vl_le (by omega)
    unfold repB
    have hden : (xq (pw d' m' (vl d m j)) (vl d m j)).den = 1 := by
      rw [den1_iff, vl_abs]
      obtain ⟨n, hn⟩ : ∃ n : Nat, rP d m j = (n : Int) + pw d' m' (vl d m j) := ⟨(rP d m j - pw d' m' (vl d m j)).toNat, by omega⟩
      refine ⟨rW d j * 2 ^ n, ?_⟩
      rw [Rat.natCast_mul, two_cast, Rat.mul_assoc, ← two_add, ← hn]
      rfl
    rw [decide_eq_true hden, decide_eq_true hM, Bool.and_true, Bool.or_true]
theorem val_top (h : Fm d m M) : callK G (k + 5) i_value_of [numD 0 (2 ^ d - 1) M] S = some (fr (topV d m M), S) := by
  have h4 := fh_le h
  rw [fh_two (by have := h.d1; omega)] at h4
  have e := val_num (k := k) (S := S) (s := 0) (w := 2 ^ d - 1) (p := M) (show 2 ^ d - 1 < 2 ^ 100 from Nat.lt_of_lt_of_le (show 2 ^ d - 1 < 4096 by have := Nat.two_pow_pos d; omega) (by decide)) (by have := h.M1; omega)
  rw [show sgQ 0 (((2 ^ d - 1 : Nat) : Rat) * (2 : Rat) ^ M) = topV d m M by rw [topV_eq h]; unfold sgQ; rw [if_neg (by decide)]] at e
  exact e
theorem top_sm (h : Fm d m M) : Sm 400 (topV d m M) := vl_sm h (by have := cnt_pos (d := d) (m := m) (M := M); omega)
theorem within_ok (h : Fm d m M) (h' : Fm d' m' M') : callK G (k + 7) i_is_within [fmD d m M, fmD d' m' M'] S = some (.bl (wtB d m M d' m' M'), S) := by
  have e1 : callK G (k + 6) i_value_of [numD 0 (2 ^ d - 1) M] S = some (fr (topV d m M), S) := val_top h
  have e2 : callK G (k + 6) i_is_representable [fmD d' m' M', fr (topV d m M)] S = some (.bl (repB d' m' M' (topV d m M)), S) := repr_ok h' ((top_sm h).mono (by decide))
  have e4 : decide ((d : Int) ≤ (d' : Int)) = decide (d ≤ d') := by rw [decide_eq_decide]; omega
  rw [call_fn g_is_within rfl]
  unfold wtB
  by_cases c1 : d ≤ d'
  · by_cases c2 : m' ≤ m
    · simp only [E1, E2, E3, E4, E5, E6, E7, E8, E9, List.map_cons, List.map_nil, List.cons_append, List.nil_append, List.append_nil, List.length_cons, List.length_nil, List.replicate_zero, List.replicate_succ, Nat.sub_self, Nat.zero_add, List.getElem?_cons_zero, List.getElem?_cons_succ, List.set_cons_zero, List.set_cons_succ, if_true, if_false, Bool.false_eq_true, decide_true, decide_false, Bool.not_true, Bool.not_false, decide_eq_true_eq, eq_self, Int.cast_ofNat_Int, Int.natCast_zero, Int.natCast_one, Nat.reduceLeDiff, Nat.reduceSub, Nat.reduceAdd, Nat.reduceLT, reduceIte, reduceCtorEq, Int.reduceEq, Int.reduceLT, Int.reduceLE, Int.reduceNeg, Int.reduceAdd, Int.reduceSub, Int.reduceMul, Int.reduceNe, Int.reduceBNe, Int.reduceBEq, f_is_within, greatest_ok h, e1, idx_fm0, idx_fm1, e4, c1, c2, e2, Bool.true_and]
    · simp only [E1, E2, E3, E4, E5, E6, E7, E8, E9, List.map_cons, List.map_nil, List.cons_append, List.nil_append, List.append_nil, List.length_cons, List.length_nil, List.replicate_zero, List.replicate_succ, Nat.sub_self, Nat.zero_add, List.getElem?_cons_zero, List.getElem?_cons_succ, List.set_cons_zero, List.set_cons_succ, if_true, if_false, Bool.false_eq_true, decide_true, decide_false, Bool.not_true, Bool.not_false, decide_eq_true_eq, eq_self, Int.cast_ofNat_Int, Int.natCast_zero, Int.natCast_one, Nat.reduceLeDiff, Nat.reduceSub, Nat.reduceAdd, Nat.reduceLT, reduceIte, reduceCtorEq, Int.reduceEq, Int.reduceLT, Int.reduceLE, Int.reduceNeg, Int.reduceAdd, Int.reduceSub, Int.reduceMul, Int.reduceNe, Int.reduceBNe, Int.reduceBEq, f_is_within, greatest_ok h, e1, idx_fm0, idx_fm1, e4, c1, c2, Bool.true_and, Bool.false_and]
  · simp only [E1, E2, E3, E4, E5, E6, E7, E8, E9, List.map_cons, List.map_nil, List.cons_append, List.nil_append, List.append_nil, List.length_cons, List.length_nil, List.replicate_zero, List.replicate_succ, Nat.sub_self, Nat.zero_add, List.getElem?_cons_zero, List.getElem?_cons_succ, List.set_cons_zero, List.set_cons_succ, if_true, if_false, Bool.false_eq_true, decide_true, decide_false, Bool.not_true, Bool.not_false, decide_eq_true_eq, eq_self, Int.cast_ofNat_Int, Int.natCast_zero, Int.natCast_one, Nat.reduceLeDiff, Nat.reduceSub, Nat.reduceAdd, Nat.reduceLT, reduceIte, reduceCtorEq, Int.reduceEq, Int.reduceLT, Int.reduceLE, Int.reduceNeg, Int.reduceAdd, Int.reduceSub, Int.reduceMul, Int.reduceNe, Int.reduceBNe, Int.reduceBEq, f_is_within, greatest_ok h, e1, idx_fm0, idx_fm1, e4, c1, Bool.false_and]
end
end Rw.Pk01

set_option exponentiation.threshold 300
namespace Rw.Pk01
open PySem L2 Rw
section
variable {k : Nat} {S T : Sto} {d d' j : Nat} {m M m' M' i : Int} {s t p : Int} {v w : Nat} {q o A P : Rat} {L : List D} {z : D} {b : Bool} {x0 x1 x2 x3 x4 x5 x6 x7 x8 x9 x10 x11 x12 x13 x14 x15 x16 x17 x18 x19 x20 x21 x22 x23 : Option D}
theorem so_some : PyData.strOk ("some" : Str) = true := by decide +kernel
theorem q_some_none : (("some" : Str) = ("none" : Str)) = False := eq_false (by decide +kernel)
theorem q_some_num : (("some" : Str) = ("number" : Str)) = False := eq_false (by decide +kernel)
theorem of_s2 (h : Fm d m M) : callK G (k + 4) i_is_of [fmD d m M, numD 2 v p] S = some (.bl false, S) := by
  have f3 := sign_i (k := k + 1) (S := S) (a := 2)
  rw [show (decide ((2 : Int) = 0) || decide ((2 : Int) = 1)) = false by decide] at f3
  rw [call_fn g_is_of rfl]
  simp only [E1, E2, E3, E4, E5, E6, E7, E8, E9, List.map_cons, List.map_nil, List.cons_append, List.nil_append, List.append_nil, List.length_cons, List.length_nil, List.replicate_zero, List.replicate_succ, Nat.sub_self, Nat.zero_add, List.getElem?_cons_zero, List.getElem?_cons_succ, List.set_cons_zero, List.set_cons_succ, if_true, if_false, Bool.false_eq_true, decide_true, decide_false, Bool.not_true, Bool.not_false, decide_eq_true_eq, eq_self, Int.cast_ofNat_Int, Int.natCast_zero, Int.natCast_one, Nat.reduceLeDiff, Nat.reduceSub, Nat.reduceAdd, Nat.reduceLT, reduceIte, reduceCtorEq, Int.reduceEq, Int.reduceLT, Int.reduceLE, Int.reduceNeg, Int.reduceAdd, Int.reduceSub, Int.reduceMul, Int.reduceNe, Int.reduceBNe, Int.reduceBEq, f_is_of, s_is_of_0_0, s_is_of_0_1, s_is_of_0_2, s_is_of_0_3, ty_nm, eqE_n, idx_n0, idx_n1, len_n, YN, in_ne_num, f3]
theorem of_e2 : callK G (k + 4) i_is_of [fmD d m M, endD 2] S = some (.bl false, S) := by
  have f3 := sign_i (k := k + 1) (S := S) (a := 2)
  rw [show (decide ((2 : Int) = 0) || decide ((2 : Int) = 1)) = false by decide] at f3
  rw [call_fn g_is_of rfl]
  simp only [E1, E2, E3, E4, E5, E6, E7, E8, E9, List.map_cons, List.map_nil, List.cons_append, List.nil_append, List.append_nil, List.length_cons, List.length_nil, List.replicate_zero, List.replicate_succ, Nat.sub_self, Nat.zero_add, List.getElem?_cons_zero, List.getElem?_cons_succ, List.set_cons_zero, List.set_cons_succ, if_true, if_false, Bool.false_eq_true, decide_true, decide_false, Bool.not_true, Bool.not_false, decide_eq_true_eq, eq_self, Int.cast_ofNat_Int, Int.natCast_zero, Int.natCast_one, Nat.reduceLeDiff, Nat.reduceSub, Nat.reduceAdd, Nat.reduceLT, reduceIte, reduceCtorEq, Int.reduceEq, Int.reduceLT, Int.reduceLE, Int.reduceNeg, Int.reduceAdd, Int.reduceSub, Int.reduceMul, Int.reduceNe, Int.reduceBNe, Int.reduceBEq, f_is_of, s_is_of_0_0, s_is_of_0_1, s_is_of_0_2, ty_ne, eqE_e, idx_e0, idx_e1, len_e, YN, in_ne_end, f3]
theorem of_z1 : callK G (k + 4) i_is_of [fmD d m M, .tup [.str "nothing"]] S = some (.bl false, S) := by
  have ok : okD 1 (.tup [.str "nothing"]) = true := by
    simp only [okD, okDs, so_nothing, Bool.and_true, Bool.true_and, List.length_cons, List.length_nil, decide_eq_true_eq]
    exact le_size (by decide)
  have n : biD S .len [.tup [.str "nothing"]] = some (.int 1) := nrfl rfl
  rw [call_fn g_is_of rfl]
  simp only [E1, E2, E3, E4, E5, E6, E7, E8, E9, List.map_cons, List.map_nil, List.cons_append, List.nil_append, List.append_nil, List.length_cons, List.length_nil, List.replicate_zero, List.replicate_succ, Nat.sub_self, Nat.zero_add, List.getElem?_cons_zero, List.getElem?_cons_succ, List.set_cons_zero, List.set_cons_succ, if_true, if_false, Bool.false_eq_true, decide_true, decide_false, Bool.not_true, Bool.not_false, decide_eq_true_eq, eq_self, Int.cast_ofNat_Int, Int.natCast_zero, Int.natCast_one, Nat.reduceLeDiff, Nat.reduceSub, Nat.reduceAdd, Nat.reduceLT, reduceIte, reduceCtorEq, Int.reduceEq, Int.reduceLT, Int.reduceLE, Int.reduceNeg, Int.reduceAdd, Int.reduceSub, Int.reduceMul, Int.reduceNe, Int.reduceBNe, Int.reduceBEq, f_is_of, s_is_of_0_0, s_is_of_0_1, s_is_of_0_2, eqE_t ok (by decide), n, YN, in_ne_noth]
  try rfl
theorem of_zb : callK G (k + 4) i_is_of [fmD d m M, .tup [.str "nothing", .bl true]] S = some (.bl false, S) := by
  have ok : okD 1 (.tup [.str "nothing", .bl true]) = true := by
    simp only [okD, okDs, so_nothing, Bool.and_true, Bool.true_and, List.length_cons, List.length_nil, decide_eq_true_eq]
    exact le_size (by decide)
  have n : biD S .len [.tup [.str "nothing", .bl true]] = some (.int 2) := nrfl rfl
  have f := sign_b (k := k + 1) (S := S) (a := true)
  rw [call_fn g_is_of rfl]
  simp only [E1, E2, E3, E4, E5, E6, E7, E8, E9, List.map_cons, List.map_nil, List.cons_append, List.nil_append, List.append_nil, List.length_cons, List.length_nil, List.replicate_zero, List.replicate_succ, Nat.sub_self, Nat.zero_add, List.getElem?_cons_zero, List.getElem?_cons_succ, List.set_cons_zero, List.set_cons_succ, if_true, if_false, Bool.false_eq_true, decide_true, decide_false, Bool.not_true, Bool.not_false, decide_eq_true_eq, eq_self, Int.cast_ofNat_Int, Int.natCast_zero, Int.natCast_one, Nat.reduceLeDiff, Nat.reduceSub, Nat.reduceAdd, Nat.reduceLT, reduceIte, reduceCtorEq, Int.reduceEq, Int.reduceLT, Int.reduceLE, Int.reduceNeg, Int.reduceAdd, Int.reduceSub, Int.reduceMul, Int.reduceNe, Int.reduceBNe, Int.reduceBEq, f_is_of, s_is_of_0_0, s_is_of_0_1, s_is_of_0_2, eqE_t ok (by decide), n, YN, in_ne_noth, f]
theorem of_o1 : callK G (k + 4) i_is_of [fmD d m M, .tup [.str "none", .int 0]] S = some (.bl false, S) := by
  have ok : okD 1 (.tup [.str "none", .int 0]) = true := by
    simp only [okD, okDs, so_none, Bool.and_true, Bool.true_and, List.length_cons, List.length_nil, decide_eq_true_eq]
    exact le_size (by decide)
  have n : biD S .len [.tup [.str "none", .int 0]] = some (.int 2) := nrfl rfl
  rw [call_fn g_is_of rfl]
  simp only [E1, E2, E3, E4, E5, E6, E7, E8, E9, List.map_cons, List.map_nil, List.cons_append, List.nil_append, List.append_nil, List.length_cons, List.length_nil, List.replicate_zero, List.replicate_succ, Nat.sub_self, Nat.zero_add, List.getElem?_cons_zero, List.getElem?_cons_succ, List.set_cons_zero, List.set_cons_succ, if_true, if_false, Bool.false_eq_true, decide_true, decide_false, Bool.not_true, Bool.not_false, decide_eq_true_eq, eq_self, Int.cast_ofNat_Int, Int.natCast_zero, Int.natCast_one, Nat.reduceLeDiff, Nat.reduceSub, Nat.reduceAdd, Nat.reduceLT, reduceIte, reduceCtorEq, Int.reduceEq, Int.reduceLT, Int.reduceLE, Int.reduceNeg, Int.reduceAdd, Int.reduceSub, Int.reduceMul, Int.reduceNe, Int.reduceBNe, Int.reduceBEq, f_is_of, s_is_of_0_0, s_is_of_0_1, eqE_t ok (by decide), n, YN]
  try rfl
theorem of_so : callK G (k + 4) i_is_of [fmD d m M, .tup [.str "some", .int 0]] S = some (.bl false, S) := by
  have ok : okD 1 (.tup [.str "some", .int 0]) = true := by
    simp only [okD, okDs, so_some, Bool.and_true, Bool.true_and, List.length_cons, List.length_nil, decide_eq_true_eq]
    exact le_size (by decide)
  rw [call_fn g_is_of rfl]
  simp only [E1, E2, E3, E4, E5, E6, E7, E8, E9, List.map_cons, List.map_nil, List.cons_append, List.nil_append, List.append_nil, List.length_cons, List.length_nil, List.replicate_zero, List.replicate_succ, Nat.sub_self, Nat.zero_add, List.getElem?_cons_zero, List.getElem?_cons_succ, List.set_cons_zero, List.set_cons_succ, if_true, if_false, Bool.false_eq_true, decide_true, decide_false, Bool.not_true, Bool.not_false, decide_eq_true_eq, eq_self, Int.cast_ofNat_Int, Int.natCast_zero, Int.natCast_one, Nat.reduceLeDiff, Nat.reduceSub, Nat.reduceAdd, Nat.reduceLT, reduceIte, reduceCtorEq, Int.reduceEq, Int.reduceLT, Int.reduceLE, Int.reduceNeg, Int.reduceAdd, Int.reduceSub, Int.reduceMul, Int.reduceNe, Int.reduceBNe, Int.reduceBEq, f_is_of, s_is_of_0_0, s_is_of_0_1, s_is_of_0_2, s_is_of_0_3, eqE_t ok (by decide), q_some_none, q_some_num, in_ne_some]
theorem of_non : callK G (k + 4) i_is_of [fmD d m M, .non] S = some (.bl false, S) := by
  rw [call_fn g_is_of rfl]
  simp only [E1, E2, E3, E4, E5, E6, E7, E8, E9, List.map_cons, List.map_nil, List.cons_append, List.nil_append, List.append_nil, List.length_cons, List.length_nil, List.replicate_zero, List.replicate_succ, Nat.sub_self, Nat.zero_add, List.getElem?_cons_zero, List.getElem?_cons_succ, List.set_cons_zero, List.set_cons_succ, if_true, if_false, Bool.false_eq_true, decide_true, decide_false, Bool.not_true, Bool.not_false, decide_eq_true_eq, eq_self, Int.cast_ofNat_Int, Int.natCast_zero, Int.natCast_one, Nat.reduceLeDiff, Nat.reduceSub, Nat.reduceAdd, Nat.reduceLT, reduceIte, reduceCtorEq, Int.reduceEq, Int.reduceLT, Int.reduceLE, Int.reduceNeg, Int.reduceAdd, Int.reduceSub, Int.reduceMul, Int.reduceNe, Int.reduceBNe, Int.reduceBEq, f_is_of, s_is_of_0_0]
theorem of_int {a : Int} : callK G (k + 4) i_is_of [fmD d m M, .int a] S = some (.bl false, S) := by
  rw [call_fn g_is_of rfl]
  simp only [E1, E2, E3, E4, E5, E6, E7, E8, E9, List.map_cons, List.map_nil, List.cons_append, List.nil_append, List.append_nil, List.length_cons, List.length_nil, List.replicate_zero, List.replicate_succ, Nat.sub_self, Nat.zero_add, List.getElem?_cons_zero, List.getElem?_cons_succ, List.set_cons_zero, List.set_cons_succ, if_true, if_false, Bool.false_eq_true, decide_true, decide_false, Bool.not_true, Bool.not_false, decide_eq_true_eq, eq_self, Int.cast_ofNat_Int, Int.natCast_zero, Int.natCast_one, Nat.reduceLeDiff, Nat.reduceSub, Nat.reduceAdd, Nat.reduceLT, reduceIte, reduceCtorEq, Int.reduceEq, Int.reduceLT, Int.reduceLE, Int.reduceNeg, Int.reduceAdd, Int.reduceSub, Int.reduceMul, Int.reduceNe, Int.reduceBNe, Int.reduceBEq, f_is_of, s_is_of_0_0]
theorem of_lst {xs : List D} : callK G (k + 4) i_is_of [fmD d m M, .lst xs] S = some (.bl false, S) := by
  rw [call_fn g_is_of rfl]
  simp only [E1, E2, E3, E4, E5, E6, E7, E8, E9, List.map_cons, List.map_nil, List.cons_append, List.nil_append, List.append_nil, List.length_cons, List.length_nil, List.replicate_zero, List.replicate_succ, Nat.sub_self, Nat.zero_add, List.getElem?_cons_zero, List.getElem?_cons_succ, List.set_cons_zero, List.set_cons_succ, if_true, if_false, Bool.false_eq_true, decide_true, decide_false, Bool.not_true, Bool.not_false, decide_eq_true_eq, eq_self, Int.cast_ofNat_Int, Int.natCast_zero, Int.natCast_one, Nat.reduceLeDiff, Nat.reduceSub, Nat.reduceAdd, Nat.reduceLT, reduceIte, reduceCtorEq, Int.reduceEq, Int.reduceLT, Int.reduceLE, Int.reduceNeg, Int.reduceAdd, Int.reduceSub, Int.reduceMul, Int.reduceNe, Int.reduceBNe, Int.reduceBEq, f_is_of, s_is_of_0_0]
theorem of_t0 : callK G (k + 4) i_is_of [fmD d m M, .tup []] S = some (.bl false, S) := by
  have e : cmpD S .Eq (.tup []) (.tup []) = some true := by
    show eqD S (.tup []) (.tup []) = _
    rw [eq_tt (n := 1) (m := 1) rfl (by decide) rfl (by decide)]
    rfl
  rw [call_fn g_is_of rfl]
  simp only [E1, E2, E3, E4, E5, E6, E7, E8, E9, List.map_cons, List.map_nil, List.cons_append, List.nil_append, List.append_nil, List.length_cons, List.length_nil, List.replicate_zero, List.replicate_succ, Nat.sub_self, Nat.zero_add, List.getElem?_cons_zero, List.getElem?_cons_succ, List.set_cons_zero, List.set_cons_succ, if_true, if_false, Bool.false_eq_true, decide_true, decide_false, Bool.not_true, Bool.not_false, decide_eq_true_eq, eq_self, Int.cast_ofNat_Int, Int.natCast_zero, Int.natCast_one, Nat.reduceLeDiff, Nat.reduceSub, Nat.reduceAdd, Nat.reduceLT, reduceIte, reduceCtorEq, Int.reduceEq, Int.reduceLT, Int.reduceLE, Int.reduceNeg, Int.reduceAdd, Int.reduceSub, Int.reduceMul, Int.reduceNe, Int.reduceBNe, Int.reduceBEq, f_is_of, s_is_of_0_0, e]
theorem of_nb {a : D} : callK G (k + 4) i_is_of [fmD d m M, .tup [.str "number", .int 0, .bl true, .int p]] S = some (.bl false, S) := by
  have ok : okD 1 (.tup [.str "number", .int 0, .bl true, .int p]) = true := by
    simp only [okD, okDs, so_number, Bool.and_true, Bool.true_and, List.length_cons, List.length_nil, decide_eq_true_eq]
    exact le_size (by decide)
  have n : biD S .len [.tup [.str "number", .int 0, .bl true, .int p]] = some (.int 4) := nrfl rfl
  have f := sign_s (k := k + 1) (S := S) (a := 0) (.inl rfl)
  have f2 := is_from_bl (k := k + 1) (S := S) (a := true) (b := 1)
  rw [call_fn g_is_of rfl]
  simp only [E1, E2, E3, E4, E5, E6, E7, E8, E9, List.map_cons, List.map_nil, List.cons_append, List.nil_append, List.append_nil, List.length_cons, List.length_nil, List.replicate_zero, List.replicate_succ, Nat.sub_self, Nat.zero_add, List.getElem?_cons_zero, List.getElem?_cons_succ, List.set_cons_zero, List.set_cons_succ, if_true, if_false, Bool.false_eq_true, decide_true, decide_false, Bool.not_true, Bool.not_false, decide_eq_true_eq, eq_self, Int.cast_ofNat_Int, Int.natCast_zero, Int.natCast_one, Nat.reduceLeDiff, Nat.reduceSub, Nat.reduceAdd, Nat.reduceLT, reduceIte, reduceCtorEq, Int.reduceEq, Int.reduceLT, Int.reduceLE, Int.reduceNeg, Int.reduceAdd, Int.reduceSub, Int.reduceMul, Int.reduceNe, Int.reduceBNe, Int.reduceBEq, f_is_of, s_is_of_0_0, s_is_of_0_1, s_is_of_0_2, s_is_of_0_3, s_is_of_0_4, s_is_of_0_5, eqE_t ok (by decide), n, YN, in_ne_num, asg_fm, f, f2]
theorem b6_ok (e : callK G (k + 15) i_is_of [fmD d m M, z] S = some (.bl false, S)) : fbd G (callK G (k + 15)) (.name 2) b_law_6 z [x0, x1, x2, x3, some (fmD d m M), x5, x6, x7, x8, x9, x10, x11, x12, x13, x14, x15, x16, x17, x18, x19, x20, x21, x22, x23] S = some (.nx [x0, x1, some (z), x3, some (fmD d m M), x5, x6, x7, x8, x9, x10, x11, x12, x13, x14, x15, x16, x17, x18, x19, x20, x21, x22, x23], S) := by
  unfold fbd
  simp only [E1, E2, E3, E4, E5, E6, E7, E8, E9, List.map_cons, List.map_nil, List.cons_append, List.nil_append, List.append_nil, List.length_cons, List.length_nil, List.replicate_zero, List.replicate_succ, Nat.sub_self, Nat.zero_add, List.getElem?_cons_zero, List.getElem?_cons_succ, List.set_cons_zero, List.set_cons_succ, if_true, if_false, Bool.false_eq_true, decide_true, decide_false, Bool.not_true, Bool.not_false, decide_eq_true_eq, eq_self, Int.cast_ofNat_Int, Int.natCast_zero, Int.natCast_one, Nat.reduceLeDiff, Nat.reduceSub, Nat.reduceAdd, Nat.reduceLT, reduceIte, reduceCtorEq, Int.reduceEq, Int.reduceLT, Int.reduceLE, Int.reduceNeg, Int.reduceAdd, Int.reduceSub, Int.reduceMul, Int.reduceNe, Int.reduceBNe, Int.reduceBEq, b_law_6, e, same_bl]
def wrongL (d : Nat) (m M : Int) : List D := [numD 0 0 m, numD 0 (2 ^ d) m, numD 0 1 M, numD 2 1 m, .tup [.str "nothing"], .tup [.str "nothing", .bl true], endD 2, .tup [.str "none", .int 0], .tup [.str "some", .int 0], .non, .tup [], .int 3]
theorem s12_ok (h : FF d m M) : evS G (callK G (k + 15)) s_law_0_12 [x0, x1, x2, x3, some (fmD d m M), x5, some (.int (d : Int)), some (.int m), some (.int M), x9, x10, x11, x12, some (.lst (wrongL d m M)), x14, x15, x16, x17, x18, x19, x20, x21, x22, x23] S = some (.nx [x0, x1, some (.tup [.str "number", .int 0, .bl true, .int m]), x3, some (fmD d m M), x5, some (.int (d : Int)), some (.int m), some (.int M), x9, x10, x11, x12, some (.lst (wrongL d m M)), x14, x15, x16, x17, x18, x19, x20, x21, x22, x23], S) := by
  have hd := h.f.d1
  have hmM := h.mM
  have h2 := fh_two (d := d) (by omega)
  have hf2 : 2 ≤ fh d := by
    unfold fh
    exact Nat.le_trans (by decide) (Nat.pow_le_pow_right (by decide) (show 1 ≤ d - 1 by omega))
  have h2d := Nat.two_pow_pos d
  have e1 := of_n (k := k + 11) (S := S) (v := 0) (p := m) h.f (.inl rfl) 0
  have e2 := of_n (k := k + 11) (S := S) (v := 2 ^ d) (p := m) h.f (.inl rfl) 0
  have e3 := of_n (k := k + 11) (S := S) (v := 1) (p := M) h.f (.inl rfl) 0
  have e13 := of_n (k := k + 11) (S := S) (v := 1) (p := m - 1) h.f (.inl rfl) 0
  have e14 := of_n (k := k + 11) (S := S) (v := 2 ^ d - 1) (p := M + 1) h.f (.inl rfl) 0
  rw [show decide (1 ≤ 0) = false from rfl, Bool.false_and, Bool.false_and] at e1
  rw [show decide (2 ^ d < 2 ^ d) = false from decide_eq_false (Nat.lt_irrefl _), Bool.false_and, Bool.and_false] at e2
  rw [show decide (fh d ≤ 1) = false from decide_eq_false (by omega), show decide (M = m) = false from decide_eq_false (by omega), Bool.false_or, Bool.and_false, Bool.and_false] at e3
  rw [show decide (m ≤ m - 1) = false from decide_eq_false (by omega), Bool.false_and, Bool.and_false, Bool.false_and] at e13
  rw [show decide (M + 1 ≤ M) = false from decide_eq_false (by omega), Bool.and_false, Bool.and_false, Bool.false_and] at e14
  have hf : ∀ all, forL none all (fbd G (callK G (k + 15)) (.name 2) b_law_6) [numD 0 0 m, numD 0 (2 ^ d) m, numD 0 1 M, numD 2 1 m, .tup [.str "nothing"], .tup [.str "nothing", .bl true], endD 2, .tup [.str "none", .int 0], .tup [.str "some", .int 0], .non, .tup [], .int 3, numD 0 1 (m - 1), numD 0 (2 ^ d - 1) (M + 1), .lst [.str "nothing", .int 0], .tup [.str "number", .int 0, .bl true, .int m]] [x0, x1, x2, x3, some (fmD d m M), x5, some (.int (d : Int)), some (.int m), some (.int M), x9, x10, x11, x12, some (.lst (wrongL d m M)), x14, x15, x16, x17, x18, x19, x20, x21, x22, x23] S = some (.nx [x0, x1, some (.tup [.str "number", .int 0, .bl true, .int m]), x3, some (fmD d m M), x5, some (.int (d : Int)), some (.int m), some (.int M), x9, x10, x11, x12, some (.lst (wrongL d m M)), x14, x15, x16, x17, x18, x19, x20, x21, x22, x23], S) := fun all => by
    rw [forL_cons (b6_ok e1), forL_cons (b6_ok e2), forL_cons (b6_ok e3), forL_cons (b6_ok (of_s2 h.f)), forL_cons (b6_ok of_z1), forL_cons (b6_ok of_zb), forL_cons (b6_ok of_e2), forL_cons (b6_ok of_o1), forL_cons (b6_ok of_so), forL_cons (b6_ok of_non), forL_cons (b6_ok of_t0), forL_cons (b6_ok of_int), forL_cons (b6_ok e13), forL_cons (b6_ok e14), forL_cons (b6_ok of_lst), forL_cons (b6_ok (of_nb (a := .non))), forL_nil]
  have m1 : D.tup [.str "number", .int 0, .int 1, .int (m - 1)] = numD 0 1 (m - 1) := rfl
  have m2 : D.tup [.str "number", .int 0, .int ((2 ^ d - 1 : Nat) : Int), .int (M + 1)] = numD 0 (2 ^ d - 1) (M + 1) := rfl
  have m3 : ((2 ^ d : Nat) : Int) - 1 = ((2 ^ d - 1 : Nat) : Int) := by omega
  unfold wrongL at hf ⊢
  simp only [E1, E2, E3, E4, E5, E6, E7, E8, E9, List.map_cons, List.map_nil, List.cons_append, List.nil_append, List.append_nil, List.length_cons, List.length_nil, List.replicate_zero, List.replicate_succ, Nat.sub_self, Nat.zero_add, List.getElem?_cons_zero, List.getElem?_cons_succ, List.set_cons_zero, List.set_cons_succ, if_true, if_false, Bool.false_eq_true, decide_true, decide_false, Bool.not_true, Bool.not_false, decide_eq_true_eq, eq_self, Int.cast_ofNat_Int, Int.natCast_zero, Int.natCast_one, Nat.reduceLeDiff, Nat.reduceSub, Nat.reduceAdd, Nat.reduceLT, reduceIte, reduceCtorEq, Int.reduceEq, Int.reduceLT, Int.reduceLE, Int.reduceNeg, Int.reduceAdd, Int.reduceSub, Int.reduceMul, Int.reduceNe, Int.reduceBNe, Int.reduceBEq, s_law_0_12, shl_d h.f, pow_d, m3, m1, m2, hf]
theorem s10_ok (h : Fm d m M) : evSs G (callK G (k + 15)) (.cons s_law_0_10 (.cons s_law_0_11 .nil)) [x0, x1, x2, x3, x4, x5, some (.int (d : Int)), some (.int m), some (.int M), x9, x10, x11, x12, x13, x14, x15, x16, x17, x18, x19, x20, x21, x22, x23] S = some (.nx [x0, x1, x2, x3, x4, x5, some (.int (d : Int)), some (.int m), some (.int M), x9, x10, x11, x12, some (.lst (wrongL d m M)), x14, x15, x16, x17, x18, x19, x20, x21, x22, x23], S) := by
  have m1 : D.tup [.str "number", .int 0, .int 0, .int m] = numD 0 0 m := rfl
  have m2 : D.tup [.str "number", .int 0, .int ((2 ^ d : Nat) : Int), .int m] = numD 0 (2 ^ d) m := rfl
  have m3 : D.tup [.str "number", .int 0, .int 1, .int M] = numD 0 1 M := rfl
  have m4 : D.tup [.str "number", .int 2, .int 1, .int m] = numD 2 1 m := rfl
  have m5 : D.tup [.str "endless", .int 2] = endD 2 := rfl
  unfold wrongL
  simp only [E1, E2, E3, E4, E5, E6, E7, E8, E9, List.map_cons, List.map_nil, List.cons_append, List.nil_append, List.append_nil, List.length_cons, List.length_nil, List.replicate_zero, List.replicate_succ, Nat.sub_self, Nat.zero_add, List.getElem?_cons_zero, List.getElem?_cons_succ, List.set_cons_zero, List.set_cons_succ, if_true, if_false, Bool.false_eq_true, decide_true, decide_false, Bool.not_true, Bool.not_false, decide_eq_true_eq, eq_self, Int.cast_ofNat_Int, Int.natCast_zero, Int.natCast_one, Nat.reduceLeDiff, Nat.reduceSub, Nat.reduceAdd, Nat.reduceLT, reduceIte, reduceCtorEq, Int.reduceEq, Int.reduceLT, Int.reduceLE, Int.reduceNeg, Int.reduceAdd, Int.reduceSub, Int.reduceMul, Int.reduceNe, Int.reduceBNe, Int.reduceBEq, s_law_0_10, s_law_0_11, shl_d h, pow_d, m1, m2, m3, m4, m5]
theorem rows_last (h : Fm d m M) : atI (rowsL d m (cnt d m M)) (-1) = some (numD 0 (2 ^ d - 1) M) := by
  have hc := cnt_pos (d := d) (m := m) (M := M)
  have h1 : ¬ (0 : Int) ≤ -1 := by decide
  have h2 : -(((rowsL d m (cnt d m M)).length : Nat) : Int) ≤ -1 := by rw [rows_len]; omega
  unfold atI L2.ixN
  rw [if_neg h1, if_pos h2]
  have e : (-1 + (((rowsL d m (cnt d m M)).length : Nat) : Int)).toNat = cnt d m M - 1 := by rw [rows_len]; omega
  show (rowsL d m (cnt d m M))[(-1 + (((rowsL d m (cnt d m M)).length : Nat) : Int)).toNat]? = _
  obtain ⟨t1, t2⟩ := top_rW (d := d) (m := m) (M := M) (by have := h.d1; omega) h.le
  have hr : rowD d m (cnt d m M - 1) = numD 0 (2 ^ d - 1) M := by
    have h3 : 2 ^ d - 1 ≠ 0 := by
      have := fh_two (d := d) (by have := h.d1; omega)
      have := fh_pos (d := d)
      omega
    unfold rowD mkN
    rw [t1, t2, if_neg h3]
  rw [e, List.getElem?_eq_getElem (by rw [rows_len]; omega)]
  simp [rowsL, hr]
theorem s13_ok (h : Fm d m M) : evS G (callK G (k + 15)) s_law_0_13 [x0, x1, x2, x3, some (fmD d m M), x5, some (.int (d : Int)), x7, x8, some (.lst (rowsL d m (cnt d m M))), x10, x11, x12, x13, x14, x15, x16, x17, x18, x19, x20, x21, x22, x23] S = some (.nx [x0, x1, x2, x3, some (fmD d m M), x5, some (.int (d : Int)), x7, x8, some (.lst (rowsL d m (cnt d m M))), x10, x11, x12, x13, x14, x15, x16, x17, x18, x19, x20, x21, x22, x23], S) := by
  have hd := h.d1
  have hp : 2 ≤ fh d := by
    unfold fh
    exact Nat.le_trans (by decide) (Nat.pow_le_pow_right (by decide) (show 1 ≤ d - 1 by omega))
  have hc : 2 * fh d ≤ cnt d m M := by unfold cnt; omega
  have r1 : atI (rowsL d m (cnt d m M)) 1 = some (rowD d m 1) := rows_at (n := cnt d m M) (j := 1) (by omega)
  have r2 : atI (rowsL d m (cnt d m M)) ((fh d : Nat) : Int) = some (rowD d m (fh d)) := rows_at (n := cnt d m M) (by omega)
  have e1 : rowD d m 1 = numD 0 1 m := by
    unfold rowD mkN rW rP
    rw [if_pos (show 1 < 2 * fh d by omega), if_pos (show 1 < 2 * fh d by omega), if_neg (by omega)]
  have e2 : rowD d m (fh d) = numD 0 (fh d) m := by
    unfold rowD mkN rW rP
    rw [if_pos (show fh d < 2 * fh d by omega), if_pos (show fh d < 2 * fh d by omega), if_neg (by omega)]
  rw [e1] at r1
  rw [e2] at r2
  have n : ∀ v p, IsNm (numD 0 v p) := fun v p => .inl ⟨_, _, _, rfl⟩
  simp only [E1, E2, E3, E4, E5, E6, E7, E8, E9, List.map_cons, List.map_nil, List.cons_append, List.nil_append, List.append_nil, List.length_cons, List.length_nil, List.replicate_zero, List.replicate_succ, Nat.sub_self, Nat.zero_add, List.getElem?_cons_zero, List.getElem?_cons_succ, List.set_cons_zero, List.set_cons_succ, if_true, if_false, Bool.false_eq_true, decide_true, decide_false, Bool.not_true, Bool.not_false, decide_eq_true_eq, eq_self, Int.cast_ofNat_Int, Int.natCast_zero, Int.natCast_one, Nat.reduceLeDiff, Nat.reduceSub, Nat.reduceAdd, Nat.reduceLT, reduceIte, reduceCtorEq, Int.reduceEq, Int.reduceLT, Int.reduceLE, Int.reduceNeg, Int.reduceAdd, Int.reduceSub, Int.reduceMul, Int.reduceNe, Int.reduceBNe, Int.reduceBEq, s_law_0_13, greatest_ok h, least_ok1 h, least_full_ok h, rows_last h, r1, r2, shl_d1 h, pow_d1 h, same_nm (n _ _)]
/-! values -/
theorem s5_ok (h : Fm d m M) : evS G (callK G (k + 15)) s_law_0_5 [x0, x1, x2, x3, x4, x5, x6, x7, x8, some (.lst (rowsL d m (cnt d m M))), x10, x11, x12, x13, x14, x15, x16, x17, x18, x19, x20, x21, x22, x23] S = some (.nx [x0, x1, x2, x3, x4, x5, x6, x7, x8, some (.lst (rowsL d m (cnt d m M))), some (.lst (vlsL d m (cnt d m M))), x11, x12, x13, x14, x15, x16, x17, x18, x19, x20, x21, x22, x23], S) := by
  have lz : cnt d m M ≤ sizeLine := le_size (by have := cnt_le h; omega)
  have c1 : ∀ all, compL none all (ctn G (callK G (k + 15)) e_law_2 (.name 12) .none [x0, x1, x2, x3, x4, x5, x6, x7, x8, some (.lst (rowsL d m (cnt d m M))), x10, x11, none, x13, x14, x15, x16, x17, x18, x19, x20, x21, x22, x23]) (rowsL d m (cnt d m M)) S [] = some (vlsL d m (cnt d m M), S) := fun all => by
    have := compL_mapT (all := all) (turn := ctn G (callK G (k + 15)) e_law_2 (.name 12) .none [x0, x1, x2, x3, x4, x5, x6, x7, x8, some (.lst (rowsL d m (cnt d m M))), x10, x11, none, x13, x14, x15, x16, x17, x18, x19, x20, x21, x22, x23]) (S := S) (g := rowD d m) (f := fun i => fr (vl d m i)) (xs := List.range (cnt d m M)) (acc := []) fun i hi => by
      have e := lval_row (k := k + 13) (S := S) h (List.mem_range.mp hi)
      unfold ctn
      simp only [E1, E2, E3, E4, E5, E6, E7, E8, E9, List.map_cons, List.map_nil, List.cons_append, List.nil_append, List.append_nil, List.length_cons, List.length_nil, List.replicate_zero, List.replicate_succ, Nat.sub_self, Nat.zero_add, List.getElem?_cons_zero, List.getElem?_cons_succ, List.set_cons_zero, List.set_cons_succ, if_true, if_false, Bool.false_eq_true, decide_true, decide_false, Bool.not_true, Bool.not_false, decide_eq_true_eq, eq_self, Int.cast_ofNat_Int, Int.natCast_zero, Int.natCast_one, Nat.reduceLeDiff, Nat.reduceSub, Nat.reduceAdd, Nat.reduceLT, reduceIte, reduceCtorEq, Int.reduceEq, Int.reduceLT, Int.reduceLE, Int.reduceNeg, Int.reduceAdd, Int.reduceSub, Int.reduceMul, Int.reduceNe, Int.reduceBNe, Int.reduceBEq, e_law_2, e]
    rw [List.nil_append] at this
    exact this
  simp only [E1, E2, E3, E4, E5, E6, E7, E8, E9, List.map_cons, List.map_nil, List.cons_append, List.nil_append, List.append_nil, List.length_cons, List.length_nil, List.replicate_zero, List.replicate_succ, Nat.sub_self, Nat.zero_add, List.getElem?_cons_zero, List.getElem?_cons_succ, List.set_cons_zero, List.set_cons_succ, if_true, if_false, Bool.false_eq_true, decide_true, decide_false, Bool.not_true, Bool.not_false, decide_eq_true_eq, eq_self, Int.cast_ofNat_Int, Int.natCast_zero, Int.natCast_one, Nat.reduceLeDiff, Nat.reduceSub, Nat.reduceAdd, Nat.reduceLT, reduceIte, reduceCtorEq, Int.reduceEq, Int.reduceLT, Int.reduceLE, Int.reduceNeg, Int.reduceAdd, Int.reduceSub, Int.reduceMul, Int.reduceNe, Int.reduceBNe, Int.reduceBEq, s_law_0_5, rows_len, lz, wipe_nil, wipe_cons, c1]
theorem s6_ok (h : Fm d m M) : evS G (callK G (k + 15)) s_law_0_6 [x0, x1, x2, x3, x4, x5, x6, x7, x8, some (.lst (rowsL d m (cnt d m M))), some (.lst (vlsL d m (cnt d m M))), x11, x12, x13, x14, x15, x16, x17, x18, x19, x20, x21, x22, x23] S = some (.nx [x0, x1, x2, x3, x4, x5, x6, x7, x8, some (.lst (rowsL d m (cnt d m M))), some (.lst (vlsL d m (cnt d m M))), x11, x12, x13, x14, x15, x16, x17, x18, x19, x20, x21, x22, x23], S) := by
  have hc := cnt_pos (d := d) (m := m) (M := M)
  have hl := cnt_le h
  have lz : cnt d m M - 1 ≤ sizeLine := le_size (by omega)
  have rr := rng_two (a := 1) (b := (cnt d m M : Int)) ⟨by decide, by decide, by omega, by omega⟩
  rw [show ((cnt d m M : Int) - 1).toNat = cnt d m M - 1 by omega] at rr
  have c1 : ∀ all, compL none all (ctn G (callK G (k + 15)) e_law_3 (.name 20) k_law_3 [x0, x1, x2, x3, x4, x5, x6, x7, x8, some (.lst (rowsL d m (cnt d m M))), some (.lst (vlsL d m (cnt d m M))), x11, x12, x13, x14, x15, x16, x17, x18, x19, none, x21, x22, x23]) ((List.range (cnt d m M - 1)).map fun (i : Nat) => D.int (1 + (i : Int))) S [] = some ([], S) := fun all => by
    refine compL_noneT (g := fun (i : Nat) => D.int (1 + (i : Int))) fun i hi => ?_
    have hi := List.mem_range.mp hi
    have v1 := vls_ati (d := d) (m := m) (n := cnt d m M) (x := 1 + (i : Int)) (by omega) (by omega)
    have v0 := vls_ati (d := d) (m := m) (n := cnt d m M) (x := 1 + (i : Int) - 1) (by omega) (by omega)
    rw [show (1 + (i : Int)).toNat = i + 1 by omega] at v1
    rw [show (1 + (i : Int) - 1).toNat = i by omega] at v0
    have s1 := vl_sm h (j := i + 1) (by omega)
    have s0 := vl_sm h (j := i) (by omega)
    have o1 := s1.nm.mulOk s0.dn (by decide)
    have o2 := s0.nm.mulOk s1.dn (by decide)
    have c : decide (vl d m (i + 1) ≤ vl d m i) = false := decide_eq_false (Rat.not_le.mpr vl_lt_succ)
    unfold ctn
    simp only [E1, E2, E3, E4, E5, E6, E7, E8, E9, List.map_cons, List.map_nil, List.cons_append, List.nil_append, List.append_nil, List.length_cons, List.length_nil, List.replicate_zero, List.replicate_succ, Nat.sub_self, Nat.zero_add, List.getElem?_cons_zero, List.getElem?_cons_succ, List.set_cons_zero, List.set_cons_succ, if_true, if_false, Bool.false_eq_true, decide_true, decide_false, Bool.not_true, Bool.not_false, decide_eq_true_eq, eq_self, Int.cast_ofNat_Int, Int.natCast_zero, Int.natCast_one, Nat.reduceLeDiff, Nat.reduceSub, Nat.reduceAdd, Nat.reduceLT, reduceIte, reduceCtorEq, Int.reduceEq, Int.reduceLT, Int.reduceLE, Int.reduceNeg, Int.reduceAdd, Int.reduceSub, Int.reduceMul, Int.reduceNe, Int.reduceBNe, Int.reduceBEq, e_law_3, k_law_3, v1, v0, idx_fr0, idx_fr1, o1, o2, le_eq, c]
  simp only [E1, E2, E3, E4, E5, E6, E7, E8, E9, List.map_cons, List.map_nil, List.cons_append, List.nil_append, List.append_nil, List.length_cons, List.length_nil, List.replicate_zero, List.replicate_succ, Nat.sub_self, Nat.zero_add, List.getElem?_cons_zero, List.getElem?_cons_succ, List.set_cons_zero, List.set_cons_succ, if_true, if_false, Bool.false_eq_true, decide_true, decide_false, Bool.not_true, Bool.not_false, decide_eq_true_eq, eq_self, Int.cast_ofNat_Int, Int.natCast_zero, Int.natCast_one, Nat.reduceLeDiff, Nat.reduceSub, Nat.reduceAdd, Nat.reduceLT, reduceIte, reduceCtorEq, Int.reduceEq, Int.reduceLT, Int.reduceLE, Int.reduceNeg, Int.reduceAdd, Int.reduceSub, Int.reduceMul, Int.reduceNe, Int.reduceBNe, Int.reduceBEq, s_law_0_6, rows_len, rr, List.length_map, List.length_range, lz, wipe_nil, wipe_cons, c1, ne_l0]
end
end Rw.Pk01

set_option exponentiation.threshold 300
namespace Rw.Pk01
open PySem L2 Rw
section
variable {k : Nat} {S T : Sto} {d d' j : Nat} {m M m' M' i : Int} {s t p : Int} {v w : Nat} {q o A P : Rat} {L : List D} {z : D} {b : Bool}
theorem vl_sm' (h : FF d m M) (hj : j < cnt d m M) : Sm 20 (vl d m j) := by
  obtain ⟨h1, h2, h3⟩ := row_in h.f hj
  have h4 : fh d ≤ 8 := by
    unfold fh
    exact Nat.le_trans (Nat.pow_le_pow_right (by decide) (show d - 1 ≤ 3 by have := h.d4; omega)) (by decide)
  have s1 : Sm 5 ((rW d j : Nat) : Rat) := ⟨Nat.lt_of_lt_of_le h1 (show 2 * fh d ≤ 32 by omega), by show 1 < 2 ^ 5; decide⟩
  have s2 := sm_two (b := rP d m j) (m := 5) (by have := h.m5; have := h.M2; omega)
  exact (s1.mul s2).mono (by decide)
theorem t0_ok (h : FF d m M) (hL : IntL L) (ha : 0 ≤ i) : ∃ q, Sm 20 q ∧ ∀ {x0 x2 x3 x4 x5 x6 x7 x8 x9 x11 x12 x13 x14 x15 x16 x17 x18 x19 x20 x21 x22 x23 : Option D}, evS G (callK G (k + 15)) s_law_8_0 [x0, some (.ref 0), x2, x3, x4, x5, x6, x7, x8, x9, some (.lst (vlsL d m (cnt d m M))), x11, x12, x13, x14, x15, x16, x17, x18, x19, x20, x21, x22, x23] (wC L i :: T) = some (.nx [x0, some (.ref 0), x2, x3, x4, x5, x6, x7, x8, x9, some (.lst (vlsL d m (cnt d m M))), x11, x12, x13, x14, some (fr q), x16, x17, x18, x19, x20, x21, x22, x23], wC L (i + 5) :: T) := by
  have hc := cnt_pos (d := d) (m := m) (M := M)
  obtain ⟨y, hy, h1⟩ := pick_ok (k := k + 13) (T := T) (a := i) (xs := vlsL d m (cnt d m M)) hL (by
    intro c
    have := vls_len (d := d) (m := m) (n := cnt d m M)
    rw [c] at this
    simp at this
    omega) ha
  obtain ⟨j, hj, rfl⟩ := List.mem_map.mp hy
  have hj := List.mem_range.mp hj
  obtain ⟨v1, a1, a2, h2⟩ := next_ok (k := k + 14) (T := T) (a := i + 1) (m := 40) hL (by decide) (by omega)
  obtain ⟨v2, a3, a4, h3⟩ := next_ok (k := k + 14) (T := T) (a := i + 1 + 1) (m := 6) hL (by decide) (by omega)
  obtain ⟨v3, a5, a6, h4⟩ := next_ok (k := k + 14) (T := T) (a := i + 1 + 1 + 1) (m := 20) hL (by decide) (by omega)
  have b1 : Bd 7 (1 * 2 ^ v2.toNat) := by
    show (1 * (2 : Int) ^ v2.toNat).natAbs < 2 ^ 7
    rw [Int.one_mul, Int.natAbs_pow]
    exact Nat.pow_lt_pow_right (by decide) (by omega)
  have z1 : (1 : Int) * 2 ^ v2.toNat ≠ 0 := by
    have := pow_succ_eq v2.toNat
    omega
  have e1 := fun S => least_ok (k := k + 14) (S := S) (u := v1 - 20) (l := 1 * 2 ^ v2.toNat) z1 (b1.mono (by decide))
  have e2 := fun S => least_ok (k := k + 14) (S := S) (u := v3) (l := 3) (by decide) (Bd.mono (n := 2) (show (3 : Nat) < 2 ^ 2 by decide) (by decide))
  have o1 := shl_one (b := v2) (by omega) (by omega)
  have s1 : Sm 20 (Rat.divInt (v1 - 20) (1 * 2 ^ v2.toNat)) := (Sm.div (n := 6) (show (v1 - 20).natAbs < 2 ^ 6 by omega) b1 z1).mono (by decide)
  have s2 : Sm 20 (Rat.divInt v3 3) := (Sm.div (n := 6) (m := 2) (show v3.natAbs < 2 ^ 6 by omega) (show ((3 : Int)).natAbs < 2 ^ 2 by decide) (by decide)).mono (by decide)
  obtain ⟨y, hy, h5⟩ := pick_ok (k := k + 13) (T := T) (a := i + 1 + 1 + 1 + 1) (xs := [fr (vl d m j), fr (Rat.divInt (v1 - 20) (1 * 2 ^ v2.toNat)), fr (Rat.divInt v3 3)]) hL (by simp) (by omega)
  have hx : ∃ q, Sm 20 q ∧ y = fr q := by
    simp only [List.mem_cons, List.not_mem_nil, or_false] at hy
    rcases hy with rfl | rfl | rfl
    · exact ⟨_, vl_sm' h hj, rfl⟩
    · exact ⟨_, s1, rfl⟩
    · exact ⟨_, s2, rfl⟩
  obtain ⟨q, hq, rfl⟩ := hx
  refine ⟨q, hq, ?_⟩
  intros
  rw [show i + 5 = i + 1 + 1 + 1 + 1 + 1 by omega]
  simp only [E1, E2, E3, E4, E5, E6, E7, E8, E9, List.map_cons, List.map_nil, List.cons_append, List.nil_append, List.append_nil, List.length_cons, List.length_nil, List.replicate_zero, List.replicate_succ, Nat.sub_self, Nat.zero_add, List.getElem?_cons_zero, List.getElem?_cons_succ, List.set_cons_zero, List.set_cons_succ, if_true, if_false, Bool.false_eq_true, decide_true, decide_false, Bool.not_true, Bool.not_false, decide_eq_true_eq, eq_self, Int.cast_ofNat_Int, Int.natCast_zero, Int.natCast_one, Nat.reduceLeDiff, Nat.reduceSub, Nat.reduceAdd, Nat.reduceLT, reduceIte, reduceCtorEq, Int.reduceEq, Int.reduceLT, Int.reduceLE, Int.reduceNeg, Int.reduceAdd, Int.reduceSub, Int.reduceMul, Int.reduceNe, Int.reduceBNe, Int.reduceBEq, s_law_8_0, h1, h2, h3, h4, o1, e1, e2, h5]
theorem t1_ok (hL : IntL L) (ha : 0 ≤ i) (hP : Sm 20 P) : ∃ q, Sm 20 q ∧ ∀ {x0 x2 x3 x4 x5 x6 x7 x8 x9 x10 x11 x12 x13 x14 x16 x17 x18 x19 x20 x21 x22 x23 : Option D}, evS G (callK G (k + 15)) s_law_8_1 [x0, some (.ref 0), x2, x3, x4, x5, x6, x7, x8, x9, x10, x11, x12, x13, x14, some (fr P), x16, x17, x18, x19, x20, x21, x22, x23] (wC L i :: T) = some (.nx [x0, some (.ref 0), x2, x3, x4, x5, x6, x7, x8, x9, x10, x11, x12, x13, x14, some (fr q), x16, x17, x18, x19, x20, x21, x22, x23], wC L (i + 1) :: T) := by
  obtain ⟨v1, h1, h2, h3⟩ := next_ok (k := k + 14) (T := T) (m := 2) hL (by decide) ha
  by_cases c : v1 = 0
  · refine ⟨-P, hP.neg, ?_⟩
    intros
    have : D.tup [.int (0 - P.num), .int (P.den : Int)] = fr (-P) := by rw [Int.zero_sub]; rfl
    simp only [E1, E2, E3, E4, E5, E6, E7, E8, E9, List.map_cons, List.map_nil, List.cons_append, List.nil_append, List.append_nil, List.length_cons, List.length_nil, List.replicate_zero, List.replicate_succ, Nat.sub_self, Nat.zero_add, List.getElem?_cons_zero, List.getElem?_cons_succ, List.set_cons_zero, List.set_cons_succ, if_true, if_false, Bool.false_eq_true, decide_true, decide_false, Bool.not_true, Bool.not_false, decide_eq_true_eq, eq_self, Int.cast_ofNat_Int, Int.natCast_zero, Int.natCast_one, Nat.reduceLeDiff, Nat.reduceSub, Nat.reduceAdd, Nat.reduceLT, reduceIte, reduceCtorEq, Int.reduceEq, Int.reduceLT, Int.reduceLE, Int.reduceNeg, Int.reduceAdd, Int.reduceSub, Int.reduceMul, Int.reduceNe, Int.reduceBNe, Int.reduceBEq, s_law_8_1, h3, c, idx_fr0, idx_fr1, this]
  · refine ⟨P, hP, ?_⟩
    intros
    simp only [E1, E2, E3, E4, E5, E6, E7, E8, E9, List.map_cons, List.map_nil, List.cons_append, List.nil_append, List.append_nil, List.length_cons, List.length_nil, List.replicate_zero, List.replicate_succ, Nat.sub_self, Nat.zero_add, List.getElem?_cons_zero, List.getElem?_cons_succ, List.set_cons_zero, List.set_cons_succ, if_true, if_false, Bool.false_eq_true, decide_true, decide_false, Bool.not_true, Bool.not_false, decide_eq_true_eq, eq_self, Int.cast_ofNat_Int, Int.natCast_zero, Int.natCast_one, Nat.reduceLeDiff, Nat.reduceSub, Nat.reduceAdd, Nat.reduceLT, reduceIte, reduceCtorEq, Int.reduceEq, Int.reduceLT, Int.reduceLE, Int.reduceNeg, Int.reduceAdd, Int.reduceSub, Int.reduceMul, Int.reduceNe, Int.reduceBNe, Int.reduceBEq, s_law_8_1, h3, c]
theorem mx_abs : (if (0 : Int) - q.num > q.num then (0 : Int) - q.num else q.num) = q.abs.num := by
  rw [abs_num]
  split <;> omega
theorem mk_abs : D.tup [.int q.abs.num, .int (q.den : Int)] = fr q.abs := by
  unfold fr
  rw [abs_den]
variable {x0 x1 x2 x3 x4 x5 x6 x7 x8 x9 x10 x11 x12 x13 x14 x15 x16 x17 x18 x19 x20 x21 x22 x23 : Option D}
theorem t2_ok : evS G (callK G (k + 15)) s_law_8_2 [x0, x1, x2, x3, x4, x5, x6, x7, x8, x9, x10, x11, x12, x13, x14, some (fr q), x16, x17, x18, x19, x20, x21, x22, x23] S = some (.nx [x0, x1, x2, x3, x4, x5, x6, x7, x8, x9, x10, x11, x12, x13, x14, some (fr q), some (fr q.abs), x17, x18, x19, x20, x21, x22, x23], S) := by
  simp only [E1, E2, E3, E4, E5, E6, E7, E8, E9, List.map_cons, List.map_nil, List.cons_append, List.nil_append, List.append_nil, List.length_cons, List.length_nil, List.replicate_zero, List.replicate_succ, Nat.sub_self, Nat.zero_add, List.getElem?_cons_zero, List.getElem?_cons_succ, List.set_cons_zero, List.set_cons_succ, if_true, if_false, Bool.false_eq_true, decide_true, decide_false, Bool.not_true, Bool.not_false, decide_eq_true_eq, eq_self, Int.cast_ofNat_Int, Int.natCast_zero, Int.natCast_one, Nat.reduceLeDiff, Nat.reduceSub, Nat.reduceAdd, Nat.reduceLT, reduceIte, reduceCtorEq, Int.reduceEq, Int.reduceLT, Int.reduceLE, Int.reduceNeg, Int.reduceAdd, Int.reduceSub, Int.reduceMul, Int.reduceNe, Int.reduceBNe, Int.reduceBEq, s_law_8_2, idx_fr0, idx_fr1, mx_abs, mk_abs]
def thL (d : Nat) (m M : Int) (q : Rat) : List D := (List.range (cnt d m M)).filterMap fun i => if vl d m i = q.abs then some (D.int (i : Int)) else none
theorem th_none (hn : ∀ i, i < cnt d m M → vl d m i ≠ q.abs) : thL d m M q = [] := by
  unfold thL
  rw [List.filterMap_eq_nil_iff]
  intro i hi
  rw [if_neg (hn i (List.mem_range.mp hi))]
theorem th_one (hj : j < cnt d m M) (e : vl d m j = q.abs) : thL d m M q = [.int (j : Int)] := by
  unfold thL
  obtain ⟨n, hn⟩ : ∃ n, cnt d m M = j + (1 + n) := ⟨cnt d m M - j - 1, by omega⟩
  have ra : ∀ a b : Nat, List.range (a + b) = List.range a ++ (List.range b).map (a + ·) := fun a b => List.range_add ..
  have r1 : List.range 1 = [0] := rfl
  rw [hn, ra j (1 + n), ra 1 n, r1, List.filterMap_append, List.map_append, List.filterMap_append]
  have a1 : (List.range j).filterMap (fun i => if vl d m i = q.abs then some (D.int (i : Int)) else none) = [] := by
    rw [List.filterMap_eq_nil_iff]
    intro i hi
    have := List.mem_range.mp hi
    rw [if_neg fun g => by
      have := vl_lt (d := d) (m := m) this
      rw [g, e] at this
      exact absurd this (Rat.lt_irrefl)]
  have a2 : (((List.range n).map (1 + ·)).map (j + ·)).filterMap (fun i => if vl d m i = q.abs then some (D.int (i : Int)) else none) = [] := by
    rw [List.filterMap_eq_nil_iff]
    intro i hi
    simp only [List.map_map, List.mem_map, List.mem_range, Function.comp] at hi
    obtain ⟨a, ha, rfl⟩ := hi
    rw [if_neg fun g => by
      have := vl_lt (d := d) (m := m) (show j < j + (1 + a) by omega)
      rw [g, e] at this
      exact absurd this (Rat.lt_irrefl)]
  rw [a1, a2]
  simp [e]
theorem th_cases (h : Fm d m M) : (repB d m M q = true ∧ ∃ j, j < cnt d m M ∧ vl d m j = q.abs ∧ thL d m M q = [.int (j : Int)]) ∨ (repB d m M q = false ∧ thL d m M q = []) := by
  cases c : repB d m M q with
  | true =>
    obtain ⟨j, hj, e⟩ := rep_to h c
    exact .inl ⟨rfl, j, hj, e, th_one hj e⟩
  | false =>
    refine .inr ⟨rfl, th_none fun i hi e => ?_⟩
    rw [rep_of h hi e] at c
    cases c
theorem t3_ok (h : Fm d m M) : evS G (callK G (k + 15)) s_law_8_3 [x0, x1, x2, x3, x4, x5, x6, x7, x8, some (.lst (rowsL d m (cnt d m M))), some (.lst (vlsL d m (cnt d m M))), x11, x12, x13, x14, x15, some (fr q.abs), x17, x18, x19, x20, x21, x22, x23] S = some (.nx [x0, x1, x2, x3, x4, x5, x6, x7, x8, some (.lst (rowsL d m (cnt d m M))), some (.lst (vlsL d m (cnt d m M))), x11, x12, x13, x14, x15, some (fr q.abs), some (.lst (thL d m M q)), x18, x19, x20, x21, x22, x23], S) := by
  have hl := cnt_le h
  have lz : cnt d m M ≤ sizeLine := le_size (by omega)
  have rr : rngD [.int (cnt d m M : Int)] = some ((List.range (cnt d m M)).map fun (i : Nat) => D.int (i : Int)) := rng_nat (by omega)
  have c1 : ∀ all, compL none all (ctn G (callK G (k + 15)) e_law_9 (.name 20) k_law_9 [x0, x1, x2, x3, x4, x5, x6, x7, x8, some (.lst (rowsL d m (cnt d m M))), some (.lst (vlsL d m (cnt d m M))), x11, x12, x13, x14, x15, some (fr q.abs), x17, x18, x19, none, x21, x22, x23]) ((List.range (cnt d m M)).map fun (i : Nat) => D.int (i : Int)) S [] = some (thL d m M q, S) := fun all => by
    have := compL_fmT (all := all) (turn := ctn G (callK G (k + 15)) e_law_9 (.name 20) k_law_9 [x0, x1, x2, x3, x4, x5, x6, x7, x8, some (.lst (rowsL d m (cnt d m M))), some (.lst (vlsL d m (cnt d m M))), x11, x12, x13, x14, x15, some (fr q.abs), x17, x18, x19, none, x21, x22, x23]) (S := S) (g := fun (i : Nat) => D.int (i : Int)) (f := fun i => if vl d m i = q.abs then some (D.int (i : Int)) else none) (xs := List.range (cnt d m M)) (acc := []) fun i hi => by
      have v1 := vls_at (d := d) (m := m) (List.mem_range.mp hi)
      unfold ctn
      by_cases c : vl d m i = q.abs
      · simp only [E1, E2, E3, E4, E5, E6, E7, E8, E9, List.map_cons, List.map_nil, List.cons_append, List.nil_append, List.append_nil, List.length_cons, List.length_nil, List.replicate_zero, List.replicate_succ, Nat.sub_self, Nat.zero_add, List.getElem?_cons_zero, List.getElem?_cons_succ, List.set_cons_zero, List.set_cons_succ, if_true, if_false, Bool.false_eq_true, decide_true, decide_false, Bool.not_true, Bool.not_false, decide_eq_true_eq, eq_self, Int.cast_ofNat_Int, Int.natCast_zero, Int.natCast_one, Nat.reduceLeDiff, Nat.reduceSub, Nat.reduceAdd, Nat.reduceLT, reduceIte, reduceCtorEq, Int.reduceEq, Int.reduceLT, Int.reduceLE, Int.reduceNeg, Int.reduceAdd, Int.reduceSub, Int.reduceMul, Int.reduceNe, Int.reduceBNe, Int.reduceBEq, e_law_9, k_law_9, v1, eq_fr, c]
      · simp only [E1, E2, E3, E4, E5, E6, E7, E8, E9, List.map_cons, List.map_nil, List.cons_append, List.nil_append, List.append_nil, List.length_cons, List.length_nil, List.replicate_zero, List.replicate_succ, Nat.sub_self, Nat.zero_add, List.getElem?_cons_zero, List.getElem?_cons_succ, List.set_cons_zero, List.set_cons_succ, if_true, if_false, Bool.false_eq_true, decide_true, decide_false, Bool.not_true, Bool.not_false, decide_eq_true_eq, eq_self, Int.cast_ofNat_Int, Int.natCast_zero, Int.natCast_one, Nat.reduceLeDiff, Nat.reduceSub, Nat.reduceAdd, Nat.reduceLT, reduceIte, reduceCtorEq, Int.reduceEq, Int.reduceLT, Int.reduceLE, Int.reduceNeg, Int.reduceAdd, Int.reduceSub, Int.reduceMul, Int.reduceNe, Int.reduceBNe, Int.reduceBEq, e_law_9, k_law_9, v1, eq_fr, c]
    rw [List.nil_append] at this
    exact this
  simp only [E1, E2, E3, E4, E5, E6, E7, E8, E9, List.map_cons, List.map_nil, List.cons_append, List.nil_append, List.append_nil, List.length_cons, List.length_nil, List.replicate_zero, List.replicate_succ, Nat.sub_self, Nat.zero_add, List.getElem?_cons_zero, List.getElem?_cons_succ, List.set_cons_zero, List.set_cons_succ, if_true, if_false, Bool.false_eq_true, decide_true, decide_false, Bool.not_true, Bool.not_false, decide_eq_true_eq, eq_self, Int.cast_ofNat_Int, Int.natCast_zero, Int.natCast_one, Nat.reduceLeDiff, Nat.reduceSub, Nat.reduceAdd, Nat.reduceLT, reduceIte, reduceCtorEq, Int.reduceEq, Int.reduceLT, Int.reduceLE, Int.reduceNeg, Int.reduceAdd, Int.reduceSub, Int.reduceMul, Int.reduceNe, Int.reduceBNe, Int.reduceBEq, s_law_8_3, rows_len, rr, List.length_map, List.length_range, lz, wipe_nil, wipe_cons, c1]
theorem th_ne (h : Fm d m M) : cmpD S .NotEq (.lst (thL d m M q)) (.lst []) = some (repB d m M q) := by
  rcases th_cases (q := q) h with ⟨e1, j, _, _, e2⟩ | ⟨e1, e2⟩
  · rw [e1, e2]
    exact ne_l (n := 1) rfl (by decide)
  · rw [e1, e2]
    exact ne_l0
theorem t4_ok (h : Fm d m M) (hq : Sm 1000 q) : evS G (callK G (k + 15)) s_law_8_4 [x0, x1, x2, x3, some (fmD d m M), x5, x6, x7, x8, x9, x10, x11, x12, x13, x14, some (fr q), x16, some (.lst (thL d m M q)), x18, x19, x20, x21, x22, x23] S = some (.nx [x0, x1, x2, x3, some (fmD d m M), x5, x6, x7, x8, x9, x10, x11, x12, x13, x14, some (fr q), x16, some (.lst (thL d m M q)), x18, x19, x20, x21, x22, x23], S) := by
  have e : callK G (k + 15) i_is_representable [fmD d m M, fr q] S = some (.bl (repB d m M q), S) := repr_ok h hq
  simp only [E1, E2, E3, E4, E5, E6, E7, E8, E9, List.map_cons, List.map_nil, List.cons_append, List.nil_append, List.append_nil, List.length_cons, List.length_nil, List.replicate_zero, List.replicate_succ, Nat.sub_self, Nat.zero_add, List.getElem?_cons_zero, List.getElem?_cons_succ, List.set_cons_zero, List.set_cons_succ, if_true, if_false, Bool.false_eq_true, decide_true, decide_false, Bool.not_true, Bool.not_false, decide_eq_true_eq, eq_self, Int.cast_ofNat_Int, Int.natCast_zero, Int.natCast_one, Nat.reduceLeDiff, Nat.reduceSub, Nat.reduceAdd, Nat.reduceLT, reduceIte, reduceCtorEq, Int.reduceEq, Int.reduceLT, Int.reduceLE, Int.reduceNeg, Int.reduceAdd, Int.reduceSub, Int.reduceMul, Int.reduceNe, Int.reduceBNe, Int.reduceBEq, s_law_8_4, e, th_ne h, same_bl]
theorem t5_ok (h : Fm d m M) (hq : Sm 1000 q) : ∃ y12, evS G (callK G (k + 15)) s_law_8_5 [x0, x1, x2, x3, some (fmD d m M), x5, x6, x7, x8, some (.lst (rowsL d m (cnt d m M))), x10, x11, x12, x13, x14, some (fr q), x16, some (.lst (thL d m M q)), x18, x19, x20, x21, x22, x23] S = some (.nx [x0, x1, x2, x3, some (fmD d m M), x5, x6, x7, x8, some (.lst (rowsL d m (cnt d m M))), x10, x11, y12, x13, x14, some (fr q), x16, some (.lst (thL d m M q)), x18, x19, x20, x21, x22, x23], S) := by
  have hne := th_ne (q := q) (S := S) h
  rcases th_cases (q := q) h with ⟨e1, j, hj, e2, e3⟩ | ⟨e1, e3⟩
  · rw [e1] at hne
    have ix : atI (thL d m M q) 0 = some (.int (j : Int)) := by rw [e3]; rfl
    have ra := rows_at (d := d) (m := m) hj
    refine ⟨some (rowD d m j), ?_⟩
    by_cases c : q = 0
    · subst c
      have hj0 : j = 0 := by
        rcases Nat.eq_zero_or_pos j with g | g
        · exact g
        · have := vl_lt (d := d) (m := m) g
          rw [vl_zero, e2, show (0 : Rat).abs = 0 by decide +kernel] at this
          exact absurd this (Rat.lt_irrefl)
      subst hj0
      have er : rowD d m 0 = nothD 0 := rowS_0 (s := 0)
      rw [er] at ra
      rw [er]
      have ra : atI (rowsL d m (cnt d m M)) 0 = some (nothD 0) := ra
      have en : callK G (k + 15) i_number_of [fmD d m M, fr 0] S = some (nothD 0, S) := number_0 rfl
      have n1 : IsNm (nothD 0) := .inr (.inl ⟨_, rfl⟩)
      have c0 : decide (0 ≤ (0 : Rat).num) = true := rfl
      simp only [E1, E2, E3, E4, E5, E6, E7, E8, E9, List.map_cons, List.map_nil, List.cons_append, List.nil_append, List.append_nil, List.length_cons, List.length_nil, List.replicate_zero, List.replicate_succ, Nat.sub_self, Nat.zero_add, List.getElem?_cons_zero, List.getElem?_cons_succ, List.set_cons_zero, List.set_cons_succ, if_true, if_false, Bool.false_eq_true, decide_true, decide_false, Bool.not_true, Bool.not_false, decide_eq_true_eq, eq_self, Int.cast_ofNat_Int, Int.natCast_zero, Int.natCast_one, Nat.reduceLeDiff, Nat.reduceSub, Nat.reduceAdd, Nat.reduceLT, reduceIte, reduceCtorEq, Int.reduceEq, Int.reduceLT, Int.reduceLE, Int.reduceNeg, Int.reduceAdd, Int.reduceSub, Int.reduceMul, Int.reduceNe, Int.reduceBNe, Int.reduceBEq, s_law_8_5, hne, ix, ra, en, idx_fr0, c0, same_nm n1]
    · have er := row_of h c hj e2
      rw [er] at ra
      rw [er]
      obtain ⟨g1, _⟩ : (xq (pw d m q) q).den = 1 ∧ pw d m q ≤ M := by
        rcases rep_cases e1 with g | g
        · exact absurd g c
        · exact g
      have en : callK G (k + 15) i_number_of [fmD d m M, fr q] S = some (numD (ownQ q) (wh d m q) (pw d m q), S) := number_ok h hq (num_ne c) g1
      have n1 : ∀ s, IsNm (numD s (wh d m q) (pw d m q)) := fun s => .inl ⟨_, _, _, rfl⟩
      by_cases c0 : 0 ≤ q.num
      · have eo : ownQ q = 0 := by unfold ownQ; rw [decide_eq_false (by omega)]; rfl
        rw [eo] at en
        simp only [E1, E2, E3, E4, E5, E6, E7, E8, E9, List.map_cons, List.map_nil, List.cons_append, List.nil_append, List.append_nil, List.length_cons, List.length_nil, List.replicate_zero, List.replicate_succ, Nat.sub_self, Nat.zero_add, List.getElem?_cons_zero, List.getElem?_cons_succ, List.set_cons_zero, List.set_cons_succ, if_true, if_false, Bool.false_eq_true, decide_true, decide_false, Bool.not_true, Bool.not_false, decide_eq_true_eq, eq_self, Int.cast_ofNat_Int, Int.natCast_zero, Int.natCast_one, Nat.reduceLeDiff, Nat.reduceSub, Nat.reduceAdd, Nat.reduceLT, reduceIte, reduceCtorEq, Int.reduceEq, Int.reduceLT, Int.reduceLE, Int.reduceNeg, Int.reduceAdd, Int.reduceSub, Int.reduceMul, Int.reduceNe, Int.reduceBNe, Int.reduceBEq, s_law_8_5, hne, ix, ra, en, idx_fr0, c0, same_nm (n1 _)]
      · have eo : ownQ q = 1 := by unfold ownQ; rw [decide_eq_true (by omega)]; rfl
        rw [eo] at en
        have ef := flip_ok (k := k + 14) (S := S) (n1 0)
        rw [fl_n, show (1 : Int) - 0 = 1 from rfl] at ef
        simp only [E1, E2, E3, E4, E5, E6, E7, E8, E9, List.map_cons, List.map_nil, List.cons_append, List.nil_append, List.append_nil, List.length_cons, List.length_nil, List.replicate_zero, List.replicate_succ, Nat.sub_self, Nat.zero_add, List.getElem?_cons_zero, List.getElem?_cons_succ, List.set_cons_zero, List.set_cons_succ, if_true, if_false, Bool.false_eq_true, decide_true, decide_false, Bool.not_true, Bool.not_false, decide_eq_true_eq, eq_self, Int.cast_ofNat_Int, Int.natCast_zero, Int.natCast_one, Nat.reduceLeDiff, Nat.reduceSub, Nat.reduceAdd, Nat.reduceLT, reduceIte, reduceCtorEq, Int.reduceEq, Int.reduceLT, Int.reduceLE, Int.reduceNeg, Int.reduceAdd, Int.reduceSub, Int.reduceMul, Int.reduceNe, Int.reduceBNe, Int.reduceBEq, s_law_8_5, hne, ix, ra, en, idx_fr0, c0, ef, same_nm (n1 _)]
  · rw [e1] at hne
    refine ⟨x12, ?_⟩
    simp only [E1, E2, E3, E4, E5, E6, E7, E8, E9, List.map_cons, List.map_nil, List.cons_append, List.nil_append, List.append_nil, List.length_cons, List.length_nil, List.replicate_zero, List.replicate_succ, Nat.sub_self, Nat.zero_add, List.getElem?_cons_zero, List.getElem?_cons_succ, List.set_cons_zero, List.set_cons_succ, if_true, if_false, Bool.false_eq_true, decide_true, decide_false, Bool.not_true, Bool.not_false, decide_eq_true_eq, eq_self, Int.cast_ofNat_Int, Int.natCast_zero, Int.natCast_one, Nat.reduceLeDiff, Nat.reduceSub, Nat.reduceAdd, Nat.reduceLT, reduceIte, reduceCtorEq, Int.reduceEq, Int.reduceLT, Int.reduceLE, Int.reduceNeg, Int.reduceAdd, Int.reduceSub, Int.reduceMul, Int.reduceNe, Int.reduceBNe, Int.reduceBEq, s_law_8_5, hne]
theorem t6_ok (h : Fm d m M) (hq : Sm 1000 q) : evS G (callK G (k + 15)) s_law_8_6 [x0, x1, x2, x3, some (fmD d m M), x5, x6, some (.int m), x8, x9, x10, x11, x12, x13, x14, some (fr q), x16, x17, x18, x19, x20, x21, x22, x23] S = some (.nx [x0, x1, x2, x3, some (fmD d m M), x5, x6, some (.int m), x8, x9, x10, x11, x12, x13, x14, some (fr q), x16, x17, some (.int (pw d m q)), some (.int m), x20, x21, x22, x23], S) := by
  have e : callK G (k + 15) i_unit_at [fmD d m M, fr q] S = some (.int (pw d m q), S) := unit_ok h hq
  simp only [E1, E2, E3, E4, E5, E6, E7, E8, E9, List.map_cons, List.map_nil, List.cons_append, List.nil_append, List.append_nil, List.length_cons, List.length_nil, List.replicate_zero, List.replicate_succ, Nat.sub_self, Nat.zero_add, List.getElem?_cons_zero, List.getElem?_cons_succ, List.set_cons_zero, List.set_cons_succ, if_true, if_false, Bool.false_eq_true, decide_true, decide_false, Bool.not_true, Bool.not_false, decide_eq_true_eq, eq_self, Int.cast_ofNat_Int, Int.natCast_zero, Int.natCast_one, Nat.reduceLeDiff, Nat.reduceSub, Nat.reduceAdd, Nat.reduceLT, reduceIte, reduceCtorEq, Int.reduceEq, Int.reduceLT, Int.reduceLE, Int.reduceNeg, Int.reduceAdd, Int.reduceSub, Int.reduceMul, Int.reduceNe, Int.reduceBNe, Int.reduceBEq, s_law_8_6, e]
def UU (d : Nat) (m : Int) (q : Rat) (i : Nat) : Int := if q.num = 0 then m else if expo q - (d : Int) + 1 ≤ m then m else if expo q - (d : Int) + 1 ≤ m + (i : Int) then expo q - (d : Int) + 1 else m + (i : Int)
theorem UU_0 : UU d m q 0 = m := by
  unfold UU
  split
  · rfl
  · split
    · rfl
    · split <;> omega
theorem UU_t (hc : (2 : Rat) ^ ((d : Int) + (m + (j : Int))) ≤ q.abs) : UU d m q (j + 1) = m + (j : Int) + 1 := by
  have hq : q ≠ 0 := fun c => by
    have := two_pos ((d : Int) + (m + (j : Int)))
    rw [c, show (0 : Rat).abs = 0 by decide +kernel] at hc
    grind
  have := (two_expo hq).mp hc
  unfold UU
  rw [if_neg (num_ne hq), if_neg (by omega)]
  split <;> omega
theorem UU_f (hc : ¬ (2 : Rat) ^ ((d : Int) + (m + (j : Int))) ≤ q.abs) : UU d m q (j + 1) = UU d m q j := by
  unfold UU
  by_cases c : q = 0
  · rw [if_pos (by rw [c]; rfl), if_pos (by rw [c]; rfl)]
  · have := mt (two_expo c).mpr hc
    rw [if_neg (num_ne c), if_neg (num_ne c)]
    split
    · rfl
    · split <;> split <;> omega
theorem UU_end {n : Nat} (h : expo q - (d : Int) + 1 ≤ m + (n : Int)) : UU d m q n = pw d m q := by
  unfold UU pw
  by_cases c : q.num = 0
  · rw [if_pos c, if_pos c]
  · rw [if_neg c, if_neg c]
    by_cases c2 : expo q - (d : Int) + 1 ≤ m
    · rw [if_pos c2, if_neg (by omega)]
    · rw [if_neg c2, if_pos h, if_pos (by omega)]
theorem pow_ok (z : Int) (hz : z.natAbs ≤ 3000) : callK G (k + 5) i__law_least [.int (1 * 2 ^ (if z > 0 then z else 0).toNat), .int (1 * 2 ^ (if 0 - z > 0 then 0 - z else 0).toNat)] S = some (fr ((2 : Rat) ^ z), S) := by
  have one : ((1 : Int) : Rat) = 1 := rfl
  rw [Int.one_mul, Int.one_mul]
  by_cases c : 0 ≤ z
  · have e1 : (if z > 0 then z else 0) = z := by split <;> omega
    have e2 : (if 0 - z > 0 then 0 - z else 0) = 0 := by rw [if_neg (by omega)]
    rw [e1, e2]
    have e := least_ok (k := k + 4) (S := S) (u := 1 * 2 ^ z.toNat) (l := 1) (by decide) (Nat.one_lt_two_pow (by decide))
    rw [val_pos c, one, Rat.one_mul, Int.one_mul] at e
    exact e
  · have e1 : (if z > 0 then z else 0) = 0 := by rw [if_neg (by omega)]
    have e2 : (if 0 - z > 0 then 0 - z else 0) = -z := by rw [if_pos (by omega), Int.zero_sub]
    rw [e1, e2]
    have hb : Bd 8999 (2 ^ (-z).toNat) := by
      show ((2 : Int) ^ (-z).toNat).natAbs < 2 ^ 8999
      rw [Int.natAbs_pow]
      exact Nat.pow_lt_pow_right (by decide) (by omega)
    have hne : (2 : Int) ^ (-z).toNat ≠ 0 := by
      have := pow_succ_eq (-z).toNat
      omega
    have e := least_ok (k := k + 4) (S := S) (u := 1) (l := 2 ^ (-z).toNat) hne hb
    rw [val_neg (by omega), one, Rat.one_mul] at e
    exact e
theorem b10_ok (h : FF d m M) (hq : Sm 20 q) (hj : j ≤ 60) : fbd G (callK G (k + 15)) (.name 20) b_law_10 (.int (m + (j : Int))) [x0, x1, x2, x3, x4, x5, some (.int (d : Int)), x7, x8, x9, x10, x11, x12, x13, x14, x15, some (fr q.abs), x17, x18, some (.int (UU d m q j)), x20, x21, x22, x23] S = some (.nx [x0, x1, x2, x3, x4, x5, some (.int (d : Int)), x7, x8, x9, x10, x11, x12, x13, x14, x15, some (fr q.abs), x17, x18, some (.int (UU d m q (j + 1))), some (.int (m + (j : Int))), some (fr ((2 : Rat) ^ ((d : Int) + (m + (j : Int))))), x22, x23], S) := by
  have hd := h.d4
  have hm5 := h.m5
  have hM2 := h.M2
  have hmM := h.mM
  have hz : ((d : Int) + (m + (j : Int))).natAbs ≤ 80 := by omega
  have ep := pow_ok (k := k + 10) (S := S) ((d : Int) + (m + (j : Int))) (by omega)
  rw [show 0 - ((d : Int) + (m + (j : Int))) = 0 - (d : Int) - (m + (j : Int)) by omega] at ep
  have s2 := sm_two (b := (d : Int) + (m + (j : Int))) (m := 80) hz
  have o1 := hq.abs.nm.mulOk s2.dn (by decide)
  have o2 := s2.nm.mulOk hq.abs.dn (by decide)
  have z1 := shl_one (b := if (d : Int) + (m + (j : Int)) > 0 then (d : Int) + (m + (j : Int)) else 0) (by split <;> omega) (by split <;> omega)
  have z2 := shl_one (b := if 0 - (d : Int) - (m + (j : Int)) > 0 then 0 - (d : Int) - (m + (j : Int)) else 0) (by split <;> omega) (by split <;> omega)
  unfold fbd
  by_cases c : (2 : Rat) ^ ((d : Int) + (m + (j : Int))) ≤ q.abs
  · rw [UU_t c]
    simp only [E1, E2, E3, E4, E5, E6, E7, E8, E9, List.map_cons, List.map_nil, List.cons_append, List.nil_append, List.append_nil, List.length_cons, List.length_nil, List.replicate_zero, List.replicate_succ, Nat.sub_self, Nat.zero_add, List.getElem?_cons_zero, List.getElem?_cons_succ, List.set_cons_zero, List.set_cons_succ, if_true, if_false, Bool.false_eq_true, decide_true, decide_false, Bool.not_true, Bool.not_false, decide_eq_true_eq, eq_self, Int.cast_ofNat_Int, Int.natCast_zero, Int.natCast_one, Nat.reduceLeDiff, Nat.reduceSub, Nat.reduceAdd, Nat.reduceLT, reduceIte, reduceCtorEq, Int.reduceEq, Int.reduceLT, Int.reduceLE, Int.reduceNeg, Int.reduceAdd, Int.reduceSub, Int.reduceMul, Int.reduceNe, Int.reduceBNe, Int.reduceBEq, b_law_10, z1, z2, ep, idx_fr0, idx_fr1, o1, o2, le_eq, c]
  · rw [UU_f c]
    simp only [E1, E2, E3, E4, E5, E6, E7, E8, E9, List.map_cons, List.map_nil, List.cons_append, List.nil_append, List.append_nil, List.length_cons, List.length_nil, List.replicate_zero, List.replicate_succ, Nat.sub_self, Nat.zero_add, List.getElem?_cons_zero, List.getElem?_cons_succ, List.set_cons_zero, List.set_cons_succ, if_true, if_false, Bool.false_eq_true, decide_true, decide_false, Bool.not_true, Bool.not_false, decide_eq_true_eq, eq_self, Int.cast_ofNat_Int, Int.natCast_zero, Int.natCast_one, Nat.reduceLeDiff, Nat.reduceSub, Nat.reduceAdd, Nat.reduceLT, reduceIte, reduceCtorEq, Int.reduceEq, Int.reduceLT, Int.reduceLE, Int.reduceNeg, Int.reduceAdd, Int.reduceSub, Int.reduceMul, Int.reduceNe, Int.reduceBNe, Int.reduceBEq, b_law_10, z1, z2, ep, idx_fr0, idx_fr1, o1, o2, le_eq, c]
theorem t7_ok (h : FF d m M) (hq : Sm 20 q) : ∃ y20 y21, evS G (callK G (k + 15)) s_law_8_7 [x0, x1, x2, x3, x4, x5, some (.int (d : Int)), some (.int m), x8, x9, x10, x11, x12, x13, x14, x15, some (fr q.abs), x17, x18, some (.int m), x20, x21, x22, x23] S = some (.nx [x0, x1, x2, x3, x4, x5, some (.int (d : Int)), some (.int m), x8, x9, x10, x11, x12, x13, x14, x15, some (fr q.abs), x17, x18, some (.int (pw d m q)), y20, y21, x22, x23], S) := by
  have hd := h.d4
  have hm5 := h.m5
  have hM2 := h.M2
  have hmM := h.mM
  have rr := rng_two (a := m) (b := 30) ⟨by omega, by omega, by decide, by decide⟩
  have u0 : UU d m q 0 = m := UU_0
  obtain ⟨ρ, S1, e, y20, y21, rfl, rfl⟩ := forL_run (all := (List.range (30 - m).toNat).map fun (i : Nat) => D.int (m + (i : Int))) (body := fbd G (callK G (k + 15)) (.name 20) b_law_10) (xs := (List.range (30 - m).toNat).map fun (i : Nat) => D.int (m + (i : Int))) (ρ := [x0, x1, x2, x3, x4, x5, some (.int (d : Int)), some (.int m), x8, x9, x10, x11, x12, x13, x14, x15, some (fr q.abs), x17, x18, some (.int m), x20, x21, x22, x23]) (S := S)
    (I := fun i ρ S' => ∃ y20 y21, ρ = [x0, x1, x2, x3, x4, x5, some (.int (d : Int)), some (.int m), x8, x9, x10, x11, x12, x13, x14, x15, some (fr q.abs), x17, x18, some (.int (UU d m q i)), y20, y21, x22, x23] ∧ S' = S)
    (by
      rintro i x ρ S' hx ⟨y20, y21, rfl, rfl⟩
      have hi : i < (30 - m).toNat := by
        have := (List.getElem?_eq_some_iff.mp hx).1
        simpa using this
      have hxi : x = .int (m + (i : Int)) := by
        have := (List.getElem?_eq_some_iff.mp hx).2
        simpa using this.symm
      subst hxi
      exact ⟨_, _, b10_ok h hq (by omega), _, _, rfl, rfl⟩)
    ⟨x20, x21, by rw [u0], rfl⟩
  have he := expo_le hq
  have ue : UU d m q (30 - m).toNat = pw d m q := UU_end (by omega)
  simp only [List.length_map, List.length_range, ue] at e
  refine ⟨y20, y21, ?_⟩
  simp only [E1, E2, E3, E4, E5, E6, E7, E8, E9, List.map_cons, List.map_nil, List.cons_append, List.nil_append, List.append_nil, List.length_cons, List.length_nil, List.replicate_zero, List.replicate_succ, Nat.sub_self, Nat.zero_add, List.getElem?_cons_zero, List.getElem?_cons_succ, List.set_cons_zero, List.set_cons_succ, if_true, if_false, Bool.false_eq_true, decide_true, decide_false, Bool.not_true, Bool.not_false, decide_eq_true_eq, eq_self, Int.cast_ofNat_Int, Int.natCast_zero, Int.natCast_one, Nat.reduceLeDiff, Nat.reduceSub, Nat.reduceAdd, Nat.reduceLT, reduceIte, reduceCtorEq, Int.reduceEq, Int.reduceLT, Int.reduceLE, Int.reduceNeg, Int.reduceAdd, Int.reduceSub, Int.reduceMul, Int.reduceNe, Int.reduceBNe, Int.reduceBEq, s_law_8_7, rr, e]
theorem t8_ok : evS G (callK G (k + 15)) s_law_8_8 [x0, x1, x2, x3, x4, x5, x6, x7, x8, x9, x10, x11, x12, x13, x14, x15, x16, x17, some (.int p), some (.int p), x20, x21, x22, x23] S = some (.nx [x0, x1, x2, x3, x4, x5, x6, x7, x8, x9, x10, x11, x12, x13, x14, x15, x16, x17, some (.int p), some (.int p), x20, x21, x22, x23], S) := by
  simp only [E1, E2, E3, E4, E5, E6, E7, E8, E9, List.map_cons, List.map_nil, List.cons_append, List.nil_append, List.append_nil, List.length_cons, List.length_nil, List.replicate_zero, List.replicate_succ, Nat.sub_self, Nat.zero_add, List.getElem?_cons_zero, List.getElem?_cons_succ, List.set_cons_zero, List.set_cons_succ, if_true, if_false, Bool.false_eq_true, decide_true, decide_false, Bool.not_true, Bool.not_false, decide_eq_true_eq, eq_self, Int.cast_ofNat_Int, Int.natCast_zero, Int.natCast_one, Nat.reduceLeDiff, Nat.reduceSub, Nat.reduceAdd, Nat.reduceLT, reduceIte, reduceCtorEq, Int.reduceEq, Int.reduceLT, Int.reduceLE, Int.reduceNeg, Int.reduceAdd, Int.reduceSub, Int.reduceMul, Int.reduceNe, Int.reduceBNe, Int.reduceBEq, s_law_8_8, same_int]
end
end Rw.Pk01

set_option exponentiation.threshold 300
namespace Rw.Pk01
open PySem L2 Rw
section
variable {k : Nat} {S T : Sto} {d d' j : Nat} {m M m' M' i : Int} {s t p : Int} {v w : Nat} {q o A P : Rat} {L : List D} {z : D} {b : Bool} {x0 x1 x2 x3 x4 x5 x6 x7 x8 x9 x10 x11 x12 x13 x14 x15 x16 x17 x18 x19 x20 x21 x22 x23 : Option D}
theorem turn_ok (h : FF d m M) (hL : IntL L) (hi : 0 ≤ i) : ∃ (y12 y15 y16 y17 y18 y19 y20 y21 : Option D) (j : Int), 0 ≤ j ∧ evSs G (callK G (k + 15)) b_law_7 [x0, some (.ref 0), x2, x3, some (fmD d m M), x5, some (.int (d : Int)), some (.int m), x8, some (.lst (rowsL d m (cnt d m M))), some (.lst (vlsL d m (cnt d m M))), x11, x12, x13, x14, x15, x16, x17, x18, x19, x20, x21, x22, x23] [wC L i] = some (.nx [x0, some (.ref 0), x2, x3, some (fmD d m M), x5, some (.int (d : Int)), some (.int m), x8, some (.lst (rowsL d m (cnt d m M))), some (.lst (vlsL d m (cnt d m M))), x11, y12, x13, x14, y15, y16, y17, y18, y19, y20, y21, x22, x23], [wC L j]) := by
  obtain ⟨P, hP, e0⟩ := t0_ok (k := k) (T := []) h hL hi
  obtain ⟨q, hq, e1⟩ := t1_ok (k := k) (T := []) hL (i := i + 5) (by omega) hP
  obtain ⟨y12, e5⟩ := t5_ok (k := k) (S := [wC L (i + 5 + 1)]) (q := q) h.f (hq.mono (by decide)) (x0 := x0) (x1 := some (.ref 0)) (x2 := x2) (x3 := x3) (x5 := x5) (x6 := some (.int (d : Int))) (x7 := some (.int m)) (x8 := x8) (x10 := some (.lst (vlsL d m (cnt d m M)))) (x11 := x11) (x12 := x12) (x13 := x13) (x14 := x14) (x16 := some (fr q.abs)) (x18 := x18) (x19 := x19) (x20 := x20) (x21 := x21) (x22 := x22) (x23 := x23)
  obtain ⟨y20, y21, e7⟩ := t7_ok (k := k) (S := [wC L (i + 5 + 1)]) (q := q) h hq (x0 := x0) (x1 := some (.ref 0)) (x2 := x2) (x3 := x3) (x4 := some (fmD d m M)) (x5 := x5) (x8 := x8) (x9 := some (.lst (rowsL d m (cnt d m M)))) (x10 := some (.lst (vlsL d m (cnt d m M)))) (x11 := x11) (x12 := y12) (x13 := x13) (x14 := x14) (x15 := some (fr q)) (x17 := some (.lst (thL d m M q))) (x18 := some (.int (pw d m q))) (x20 := x20) (x21 := x21) (x22 := x22) (x23 := x23)
  refine ⟨y12, some (fr q), some (fr q.abs), some (.lst (thL d m M q)), some (.int (pw d m q)), some (.int (pw d m q)), y20, y21, i + 5 + 1, by omega, ?_⟩
  unfold b_law_7
  rw [ev_sC, e0, sq_nx, ev_sC, e1, sq_nx, ev_sC, t2_ok, sq_nx, ev_sC, t3_ok h.f, sq_nx, ev_sC, t4_ok h.f (hq.mono (by decide)), sq_nx, ev_sC, e5, sq_nx, ev_sC, t6_ok h.f (hq.mono (by decide)), sq_nx, ev_sC, e7, sq_nx, ev_sC, t8_ok, sq_nx, ev_sN]
theorem s14_ok (h : FF d m M) (hL : IntL L) (hi : 0 ≤ i) : ∃ (y12 y14 y15 y16 y17 y18 y19 y20 y21 : Option D) (j : Int), evS G (callK G (k + 15)) s_law_0_14 [x0, some (.ref 0), x2, x3, some (fmD d m M), x5, some (.int (d : Int)), some (.int m), x8, some (.lst (rowsL d m (cnt d m M))), some (.lst (vlsL d m (cnt d m M))), x11, x12, x13, x14, x15, x16, x17, x18, x19, x20, x21, x22, x23] [wC L i] = some (.nx [x0, some (.ref 0), x2, x3, some (fmD d m M), x5, some (.int (d : Int)), some (.int m), x8, some (.lst (rowsL d m (cnt d m M))), some (.lst (vlsL d m (cnt d m M))), x11, y12, x13, y14, y15, y16, y17, y18, y19, y20, y21, x22, x23], [wC L j]) := by
  have rr : rngD [.int 12] = some ((List.range 12).map fun (i : Nat) => D.int (i : Int)) := rng_nat (n := 12) (by decide)
  obtain ⟨ρ, S1, e, y12, y14, y15, y16, y17, y18, y19, y20, y21, j, rfl, rfl, _⟩ := forL_run (all := (List.range 12).map fun (i : Nat) => D.int (i : Int)) (body := fbd G (callK G (k + 15)) (.name 14) b_law_7) (xs := (List.range 12).map fun (i : Nat) => D.int (i : Int)) (ρ := [x0, some (.ref 0), x2, x3, some (fmD d m M), x5, some (.int (d : Int)), some (.int m), x8, some (.lst (rowsL d m (cnt d m M))), some (.lst (vlsL d m (cnt d m M))), x11, x12, x13, x14, x15, x16, x17, x18, x19, x20, x21, x22, x23]) (S := [wC L i])
    (I := fun _ ρ S' => ∃ (y12 y14 y15 y16 y17 y18 y19 y20 y21 : Option D) (j : Int), ρ = [x0, some (.ref 0), x2, x3, some (fmD d m M), x5, some (.int (d : Int)), some (.int m), x8, some (.lst (rowsL d m (cnt d m M))), some (.lst (vlsL d m (cnt d m M))), x11, y12, x13, y14, y15, y16, y17, y18, y19, y20, y21, x22, x23] ∧ S' = [wC L j] ∧ 0 ≤ j)
    (by
      rintro i x ρ S' hx ⟨y12, y14, y15, y16, y17, y18, y19, y20, y21, j, rfl, rfl, hj⟩
      obtain ⟨z12, z15, z16, z17, z18, z19, z20, z21, j', hj', e⟩ := turn_ok (k := k) h hL hj (x0 := x0) (x2 := x2) (x3 := x3) (x5 := x5) (x8 := x8) (x11 := x11) (x12 := y12) (x13 := x13) (x14 := some x) (x15 := y15) (x16 := y16) (x17 := y17) (x18 := y18) (x19 := y19) (x20 := y20) (x21 := y21) (x22 := x22) (x23 := x23)
      refine ⟨_, _, ?_, z12, some x, z15, z16, z17, z18, z19, z20, z21, j', rfl, rfl, hj'⟩
      unfold fbd
      simp only [E1, E2, E3, E4, E5, E6, E7, E8, E9, List.map_cons, List.map_nil, List.cons_append, List.nil_append, List.append_nil, List.length_cons, List.length_nil, List.replicate_zero, List.replicate_succ, Nat.sub_self, Nat.zero_add, List.getElem?_cons_zero, List.getElem?_cons_succ, List.set_cons_zero, List.set_cons_succ, if_true, if_false, Bool.false_eq_true, decide_true, decide_false, Bool.not_true, Bool.not_false, decide_eq_true_eq, eq_self, Int.cast_ofNat_Int, Int.natCast_zero, Int.natCast_one, Nat.reduceLeDiff, Nat.reduceSub, Nat.reduceAdd, Nat.reduceLT, reduceIte, reduceCtorEq, Int.reduceEq, Int.reduceLT, Int.reduceLE, Int.reduceNeg, Int.reduceAdd, Int.reduceSub, Int.reduceMul, Int.reduceNe, Int.reduceBNe, Int.reduceBEq, e])
    ⟨x12, x14, x15, x16, x17, x18, x19, x20, x21, i, rfl, rfl, hi⟩
  refine ⟨y12, y14, y15, y16, y17, y18, y19, y20, y21, j, ?_⟩
  simp only [E1, E2, E3, E4, E5, E6, E7, E8, E9, List.map_cons, List.map_nil, List.cons_append, List.nil_append, List.append_nil, List.length_cons, List.length_nil, List.replicate_zero, List.replicate_succ, Nat.sub_self, Nat.zero_add, List.getElem?_cons_zero, List.getElem?_cons_succ, List.set_cons_zero, List.set_cons_succ, if_true, if_false, Bool.false_eq_true, decide_true, decide_false, Bool.not_true, Bool.not_false, decide_eq_true_eq, eq_self, Int.cast_ofNat_Int, Int.natCast_zero, Int.natCast_one, Nat.reduceLeDiff, Nat.reduceSub, Nat.reduceAdd, Nat.reduceLT, reduceIte, reduceCtorEq, Int.reduceEq, Int.reduceLT, Int.reduceLE, Int.reduceNeg, Int.reduceAdd, Int.reduceSub, Int.reduceMul, Int.reduceNe, Int.reduceBNe, Int.reduceBEq, s_law_0_14, rr, e]
/-! the last: formats within others -/
theorem s15_ok (h : Fm d' m' M') : evS G (callK G (k + 15)) s_law_0_15 [x0, x1, x2, x3, x4, some (fmD d' m' M'), x6, x7, x8, x9, x10, x11, x12, x13, x14, x15, x16, x17, x18, x19, x20, x21, x22, x23] S = some (.nx [x0, x1, x2, x3, x4, some (fmD d' m' M'), x6, x7, x8, x9, x10, x11, x12, x13, x14, x15, x16, x17, x18, x19, x20, x21, some (.lst (vlsL d' m' (cnt d' m' M'))), x23], S) := by
  have lz : cnt d' m' M' ≤ sizeLine := le_size (by have := cnt_le h; omega)
  have ef : callK G (k + 15) i__law_fin [fmD d' m' M'] S = some (.lst (rowsL d' m' (cnt d' m' M')), S) := fin_ok h
  have c1 : ∀ all, compL none all (ctn G (callK G (k + 15)) e_law_11 (.name 12) .none [x0, x1, x2, x3, x4, some (fmD d' m' M'), x6, x7, x8, x9, x10, x11, none, x13, x14, x15, x16, x17, x18, x19, x20, x21, x22, x23]) (rowsL d' m' (cnt d' m' M')) S [] = some (vlsL d' m' (cnt d' m' M'), S) := fun all => by
    have := compL_mapT (all := all) (turn := ctn G (callK G (k + 15)) e_law_11 (.name 12) .none [x0, x1, x2, x3, x4, some (fmD d' m' M'), x6, x7, x8, x9, x10, x11, none, x13, x14, x15, x16, x17, x18, x19, x20, x21, x22, x23]) (S := S) (g := rowD d' m') (f := fun i => fr (vl d' m' i)) (xs := List.range (cnt d' m' M')) (acc := []) fun i hi => by
      have e := lval_row (k := k + 13) (S := S) h (List.mem_range.mp hi)
      unfold ctn
      simp only [E1, E2, E3, E4, E5, E6, E7, E8, E9, List.map_cons, List.map_nil, List.cons_append, List.nil_append, List.append_nil, List.length_cons, List.length_nil, List.replicate_zero, List.replicate_succ, Nat.sub_self, Nat.zero_add, List.getElem?_cons_zero, List.getElem?_cons_succ, List.set_cons_zero, List.set_cons_succ, if_true, if_false, Bool.false_eq_true, decide_true, decide_false, Bool.not_true, Bool.not_false, decide_eq_true_eq, eq_self, Int.cast_ofNat_Int, Int.natCast_zero, Int.natCast_one, Nat.reduceLeDiff, Nat.reduceSub, Nat.reduceAdd, Nat.reduceLT, reduceIte, reduceCtorEq, Int.reduceEq, Int.reduceLT, Int.reduceLE, Int.reduceNeg, Int.reduceAdd, Int.reduceSub, Int.reduceMul, Int.reduceNe, Int.reduceBNe, Int.reduceBEq, e_law_11, e]
    rw [List.nil_append] at this
    exact this
  simp only [E1, E2, E3, E4, E5, E6, E7, E8, E9, List.map_cons, List.map_nil, List.cons_append, List.nil_append, List.append_nil, List.length_cons, List.length_nil, List.replicate_zero, List.replicate_succ, Nat.sub_self, Nat.zero_add, List.getElem?_cons_zero, List.getElem?_cons_succ, List.set_cons_zero, List.set_cons_succ, if_true, if_false, Bool.false_eq_true, decide_true, decide_false, Bool.not_true, Bool.not_false, decide_eq_true_eq, eq_self, Int.cast_ofNat_Int, Int.natCast_zero, Int.natCast_one, Nat.reduceLeDiff, Nat.reduceSub, Nat.reduceAdd, Nat.reduceLT, reduceIte, reduceCtorEq, Int.reduceEq, Int.reduceLT, Int.reduceLE, Int.reduceNeg, Int.reduceAdd, Int.reduceSub, Int.reduceMul, Int.reduceNe, Int.reduceBNe, Int.reduceBEq, s_law_0_15, ef, rows_len, lz, wipe_nil, wipe_cons, c1]
def inB (d' : Nat) (m' M' : Int) (v : Rat) : Bool := (List.range (cnt d' m' M')).any fun i => decide (vl d' m' i = v)
theorem notin_vls (hc : cnt d' m' M' ≤ 1000) : cmpD S .NotIn (fr q) (.lst (vlsL d' m' (cnt d' m' M'))) = some (!inB d' m' M' q) := by
  have ok : okD 2 (.lst (vlsL d' m' (cnt d' m' M'))) = true := okD_lst (okDs_all (by
    intro x hx
    obtain ⟨i, _, rfl⟩ := List.mem_map.mp hx
    exact okD_fr)) (le_size (by rw [vls_len]; omega))
  rw [inN', in_l (n := 1) okD_fr (by decide) ok (by decide)]
  show some _ = some _
  congr 2
  unfold inB vlsL
  rw [List.any_map]
  congr 1
  funext i
  exact eqv_fr
def outL (d : Nat) (m M : Int) (d' : Nat) (m' M' : Int) : List D := (List.range (cnt d m M)).filterMap fun j => if inB d' m' M' (vl d m j) = true then none else some (fr (vl d m j))
theorem inB_iff : inB d' m' M' q = true ↔ ∃ i, i < cnt d' m' M' ∧ vl d' m' i = q := by
  unfold inB
  rw [List.any_eq_true]
  constructor
  · rintro ⟨i, hi, e⟩
    exact ⟨i, List.mem_range.mp hi, of_decide_eq_true e⟩
  · rintro ⟨i, hi, e⟩
    exact ⟨i, List.mem_range.mpr hi, decide_eq_true e⟩
theorem out_empty (h : Fm d m M) (h' : Fm d' m' M') : (outL d m M d' m' M').isEmpty = wtB d m M d' m' M' := by
  have e1 : outL d m M d' m' M' = [] ↔ ∀ j, j < cnt d m M → inB d' m' M' (vl d m j) = true := by
    unfold outL
    rw [List.filterMap_eq_nil_iff]
    constructor
    · intro g j hj
      have := g j (List.mem_range.mpr hj)
      split at this
      · assumption
      · cases this
    · intro g j hj
      rw [if_pos (g j (List.mem_range.mp hj))]
  cases c : wtB d m M d' m' M' with
  | true =>
    rw [e1.mpr fun j hj => inB_iff.mpr (wt_to h h' c j hj)]
    rfl
  | false =>
    cases c2 : outL d m M d' m' M' with
    | nil =>
      have := wt_of h h' fun j hj => inB_iff.mp (e1.mp c2 j hj)
      rw [this] at c
      cases c
    | cons x xs => rfl
theorem eq_l {n : Nat} {xs : List D} (h : okD n (.lst xs) = true) (hn : n ≤ 64) : cmpD S .Eq (.lst xs) (.lst []) = some xs.isEmpty := by
  show eqD S (.lst xs) (.lst []) = _
  rw [eq_ll (m := 1) h hn rfl (by decide)]
  cases xs <;> rfl
theorem s16_ok (h : FF d m M) (h' : FF d' m' M') : evS G (callK G (k + 15)) s_law_0_16 [x0, x1, x2, x3, some (fmD d m M), some (fmD d' m' M'), x6, x7, x8, x9, some (.lst (vlsL d m (cnt d m M))), x11, x12, x13, x14, x15, x16, x17, x18, x19, x20, x21, some (.lst (vlsL d' m' (cnt d' m' M'))), x23] S = some (.rt (.bl true), S) := by
  have hc := cnt_s h
  have hc' := cnt_s h'
  have lz : cnt d m M ≤ sizeLine := le_size (by omega)
  have e1 : callK G (k + 15) i_is_within [fmD d m M, fmD d' m' M'] S = some (.bl (wtB d m M d' m' M'), S) := within_ok h.f h'.f
  have e2 : callK G (k + 15) i_is_within [fmD d m M, fmD d m M] S = some (.bl true, S) := by
    have := within_ok (k := k + 8) (S := S) h.f h.f
    rw [wt_of h.f h.f fun j hj => ⟨j, hj, rfl⟩] at this
    exact this
  have c1 : ∀ all, compL none all (ctn G (callK G (k + 15)) e_law_12 (.name 23) k_law_12 [x0, x1, x2, x3, some (fmD d m M), some (fmD d' m' M'), x6, x7, x8, x9, some (.lst (vlsL d m (cnt d m M))), x11, x12, x13, x14, x15, x16, x17, x18, x19, x20, x21, some (.lst (vlsL d' m' (cnt d' m' M'))), none]) (vlsL d m (cnt d m M)) S [] = some (outL d m M d' m' M', S) := fun all => by
    have := compL_fmT (all := all) (turn := ctn G (callK G (k + 15)) e_law_12 (.name 23) k_law_12 [x0, x1, x2, x3, some (fmD d m M), some (fmD d' m' M'), x6, x7, x8, x9, some (.lst (vlsL d m (cnt d m M))), x11, x12, x13, x14, x15, x16, x17, x18, x19, x20, x21, some (.lst (vlsL d' m' (cnt d' m' M'))), none]) (S := S) (g := fun i => fr (vl d m i)) (f := fun j => if inB d' m' M' (vl d m j) = true then none else some (fr (vl d m j))) (xs := List.range (cnt d m M)) (acc := []) fun i hi => by
      unfold ctn
      cases c : inB d' m' M' (vl d m i) with
      | true => simp only [E1, E2, E3, E4, E5, E6, E7, E8, E9, List.map_cons, List.map_nil, List.cons_append, List.nil_append, List.append_nil, List.length_cons, List.length_nil, List.replicate_zero, List.replicate_succ, Nat.sub_self, Nat.zero_add, List.getElem?_cons_zero, List.getElem?_cons_succ, List.set_cons_zero, List.set_cons_succ, if_true, if_false, Bool.false_eq_true, decide_true, decide_false, Bool.not_true, Bool.not_false, decide_eq_true_eq, eq_self, Int.cast_ofNat_Int, Int.natCast_zero, Int.natCast_one, Nat.reduceLeDiff, Nat.reduceSub, Nat.reduceAdd, Nat.reduceLT, reduceIte, reduceCtorEq, Int.reduceEq, Int.reduceLT, Int.reduceLE, Int.reduceNeg, Int.reduceAdd, Int.reduceSub, Int.reduceMul, Int.reduceNe, Int.reduceBNe, Int.reduceBEq, e_law_12, k_law_12, notin_vls (show cnt d' m' M' ≤ 1000 by omega), c]
      | false => simp only [E1, E2, E3, E4, E5, E6, E7, E8, E9, List.map_cons, List.map_nil, List.cons_append, List.nil_append, List.append_nil, List.length_cons, List.length_nil, List.replicate_zero, List.replicate_succ, Nat.sub_self, Nat.zero_add, List.getElem?_cons_zero, List.getElem?_cons_succ, List.set_cons_zero, List.set_cons_succ, if_true, if_false, Bool.false_eq_true, decide_true, decide_false, Bool.not_true, Bool.not_false, decide_eq_true_eq, eq_self, Int.cast_ofNat_Int, Int.natCast_zero, Int.natCast_one, Nat.reduceLeDiff, Nat.reduceSub, Nat.reduceAdd, Nat.reduceLT, reduceIte, reduceCtorEq, Int.reduceEq, Int.reduceLT, Int.reduceLE, Int.reduceNeg, Int.reduceAdd, Int.reduceSub, Int.reduceMul, Int.reduceNe, Int.reduceBNe, Int.reduceBEq, e_law_12, k_law_12, notin_vls (show cnt d' m' M' ≤ 1000 by omega), c]
    rw [List.nil_append] at this
    exact this
  have ok : okD 2 (.lst (outL d m M d' m' M')) = true := okD_lst (okDs_all (by
    intro x hx
    obtain ⟨i, _, e⟩ := List.mem_filterMap.mp hx
    split at e
    · cases e
    · cases e
      exact okD_fr)) (le_size (by
        have := List.length_filterMap_le (fun j => if inB d' m' M' (vl d m j) = true then none else some (fr (vl d m j))) (List.range (cnt d m M))
        rw [List.length_range] at this
        show (outL d m M d' m' M').length ≤ _
        unfold outL
        omega))
  have e3 := eq_l (S := S) ok (by decide)
  rw [out_empty h.f h'.f] at e3
  simp only [E1, E2, E3, E4, E5, E6, E7, E8, E9, List.map_cons, List.map_nil, List.cons_append, List.nil_append, List.append_nil, List.length_cons, List.length_nil, List.replicate_zero, List.replicate_succ, Nat.sub_self, Nat.zero_add, List.getElem?_cons_zero, List.getElem?_cons_succ, List.set_cons_zero, List.set_cons_succ, if_true, if_false, Bool.false_eq_true, decide_true, decide_false, Bool.not_true, Bool.not_false, decide_eq_true_eq, eq_self, Int.cast_ofNat_Int, Int.natCast_zero, Int.natCast_one, Nat.reduceLeDiff, Nat.reduceSub, Nat.reduceAdd, Nat.reduceLT, reduceIte, reduceCtorEq, Int.reduceEq, Int.reduceLT, Int.reduceLE, Int.reduceNeg, Int.reduceAdd, Int.reduceSub, Int.reduceMul, Int.reduceNe, Int.reduceBNe, Int.reduceBEq, s_law_0_16, e1, vls_len, lz, wipe_nil, wipe_cons, c1, e3, same_bl, e2]
end
def depth : Nat := 20
theorem law_true (ns : List Int) (hn : ns.length ≤ 63) : ∃ S', callK G depth i_law [.flst (ns.map D.int)] [] = some (.bl true, S') := by
  obtain ⟨L, hd⟩ := draws_ok (k := 18) (S := []) (ns := ns) (m := 60) hn (by decide)
  have hL : IntL (L.map D.int) := fun d h => by
    obtain ⟨x, _, rfl⟩ := List.mem_map.mp h
    exact ⟨x, rfl⟩
  obtain ⟨d, m, M, hF, ef⟩ := form_ok (k := 4) (T := []) (i := 0) hL (by decide)
  obtain ⟨d', m', M', hF', ef2⟩ := form_ok (k := 4) (T := []) (i := 0 + 3) hL (by decide)
  have hk : keysD [(.str "draws", .lst (L.map D.int)), (.str "at", .int 0)] = some [(.inr "draws", .lst (L.map D.int)), (.inr "at", .int 0)] := rfl
  have hs : ¬ (("draws" : Str) = ("at" : Str)) := by decide +kernel
  have hm : mergeKD [] [((.inr "draws" : Key), D.lst (L.map D.int)), (.inr "at", .int 0)] = [((.inr "draws" : Key), D.lst (L.map D.int)), (.inr "at", .int 0)] := by
    simp [mergeKD, storeK, hs]
  have hw : [Cell.dk [((.inr "draws" : Key), D.lst (L.map D.int)), (.inr "at", .int 0)]] = [wC (L.map D.int) 0] := rfl
  have hr : (2 : Nat) ≤ 15 := by decide
  have hd' : callK G 19 i__law_draws [.flst (ns.map D.int), .int 60] [] = some (.lst (L.map D.int), []) := hd
  have ef' : callK G 19 i__law_form [.ref 0] [wC (L.map D.int) 0] = some (fmD d m M, [wC (L.map D.int) 3]) := ef
  have ef2' : callK G 19 i__law_form [.ref 0] [wC (L.map D.int) 3] = some (fmD d' m' M', [wC (L.map D.int) 6]) := ef2
  have s0 : ∀ {x2 x3 x4 x5 x6 x7 x8 x9 x10 x11 x12 x13 x14 x15 x16 x17 x18 x19 x20 x21 x22 x23 : Option D}, evS G (callK G (4 + 15)) s_law_0_0 [some (.flst (ns.map D.int)), none, x2, x3, x4, x5, x6, x7, x8, x9, x10, x11, x12, x13, x14, x15, x16, x17, x18, x19, x20, x21, x22, x23] [] = some (.nx [some (.flst (ns.map D.int)), some (.ref 0), x2, x3, x4, x5, x6, x7, x8, x9, x10, x11, x12, x13, x14, x15, x16, x17, x18, x19, x20, x21, x22, x23], [wC (L.map D.int) 0]) := by
    intros
    simp only [E1, E2, E3, E4, E5, E6, E7, E8, E9, List.map_cons, List.map_nil, List.cons_append, List.nil_append, List.append_nil, List.length_cons, List.length_nil, List.replicate_zero, List.replicate_succ, Nat.sub_self, Nat.zero_add, List.getElem?_cons_zero, List.getElem?_cons_succ, List.set_cons_zero, List.set_cons_succ, if_true, if_false, Bool.false_eq_true, decide_true, decide_false, Bool.not_true, Bool.not_false, decide_eq_true_eq, eq_self, Int.cast_ofNat_Int, Int.natCast_zero, Int.natCast_one, Nat.reduceLeDiff, Nat.reduceSub, Nat.reduceAdd, Nat.reduceLT, reduceIte, reduceCtorEq, Int.reduceEq, Int.reduceLT, Int.reduceLE, Int.reduceNeg, Int.reduceAdd, Int.reduceSub, Int.reduceMul, Int.reduceNe, Int.reduceBNe, Int.reduceBEq, s_law_0_0, hd', hk, hm, hr, List.nil_append, hw]
  have s2 : ∀ {x0 x2 x3 x4 x5 x6 x7 x8 x9 x10 x11 x12 x13 x14 x15 x16 x17 x18 x19 x20 x21 x22 x23 : Option D}, evS G (callK G (4 + 15)) s_law_0_2 [x0, some (.ref 0), x2, x3, x4, x5, x6, x7, x8, x9, x10, x11, x12, x13, x14, x15, x16, x17, x18, x19, x20, x21, x22, x23] [wC (L.map D.int) 0] = some (.nx [x0, some (.ref 0), x2, x3, some (fmD d m M), some (fmD d' m' M'), x6, x7, x8, x9, x10, x11, x12, x13, x14, x15, x16, x17, x18, x19, x20, x21, x22, x23], [wC (L.map D.int) 6]) := by
    intros
    simp only [E1, E2, E3, E4, E5, E6, E7, E8, E9, List.map_cons, List.map_nil, List.cons_append, List.nil_append, List.append_nil, List.length_cons, List.length_nil, List.replicate_zero, List.replicate_succ, Nat.sub_self, Nat.zero_add, List.getElem?_cons_zero, List.getElem?_cons_succ, List.set_cons_zero, List.set_cons_succ, if_true, if_false, Bool.false_eq_true, decide_true, decide_false, Bool.not_true, Bool.not_false, decide_eq_true_eq, eq_self, Int.cast_ofNat_Int, Int.natCast_zero, Int.natCast_one, Nat.reduceLeDiff, Nat.reduceSub, Nat.reduceAdd, Nat.reduceLT, reduceIte, reduceCtorEq, Int.reduceEq, Int.reduceLT, Int.reduceLE, Int.reduceNeg, Int.reduceAdd, Int.reduceSub, Int.reduceMul, Int.reduceNe, Int.reduceBNe, Int.reduceBEq, s_law_0_2, ef', ef2']
  have s3 : ∀ {x0 x1 x2 x3 x5 x6 x7 x8 x9 x10 x11 x12 x13 x14 x15 x16 x17 x18 x19 x20 x21 x22 x23 : Option D} {S}, evS G (callK G (4 + 15)) s_law_0_3 [x0, x1, x2, x3, some (fmD d m M), x5, x6, x7, x8, x9, x10, x11, x12, x13, x14, x15, x16, x17, x18, x19, x20, x21, x22, x23] S = some (.nx [x0, x1, x2, x3, some (fmD d m M), x5, some (.int (d : Int)), some (.int m), some (.int M), x9, x10, x11, x12, x13, x14, x15, x16, x17, x18, x19, x20, x21, x22, x23], S) := by
    intros
    simp only [E1, E2, E3, E4, E5, E6, E7, E8, E9, List.map_cons, List.map_nil, List.cons_append, List.nil_append, List.append_nil, List.length_cons, List.length_nil, List.replicate_zero, List.replicate_succ, Nat.sub_self, Nat.zero_add, List.getElem?_cons_zero, List.getElem?_cons_succ, List.set_cons_zero, List.set_cons_succ, if_true, if_false, Bool.false_eq_true, decide_true, decide_false, Bool.not_true, Bool.not_false, decide_eq_true_eq, eq_self, Int.cast_ofNat_Int, Int.natCast_zero, Int.natCast_one, Nat.reduceLeDiff, Nat.reduceSub, Nat.reduceAdd, Nat.reduceLT, reduceIte, reduceCtorEq, Int.reduceEq, Int.reduceLT, Int.reduceLE, Int.reduceNeg, Int.reduceAdd, Int.reduceSub, Int.reduceMul, Int.reduceNe, Int.reduceBNe, Int.reduceBEq, s_law_0_3, asg_fm]
  have lf : ∀ S, callK G 19 i__law_fin [fmD d m M] S = some (.lst (rowsL d m (cnt d m M)), S) := fun S => fin_ok hF.f
  have s4 : ∀ {x0 x1 x2 x3 x5 x6 x7 x8 x9 x10 x11 x12 x13 x14 x15 x16 x17 x18 x19 x20 x21 x22 x23 : Option D} {S}, evS G (callK G (4 + 15)) s_law_0_4 [x0, x1, x2, x3, some (fmD d m M), x5, x6, x7, x8, x9, x10, x11, x12, x13, x14, x15, x16, x17, x18, x19, x20, x21, x22, x23] S = some (.nx [x0, x1, x2, x3, some (fmD d m M), x5, x6, x7, x8, some (.lst (rowsL d m (cnt d m M))), x10, x11, x12, x13, x14, x15, x16, x17, x18, x19, x20, x21, x22, x23], S) := by
    intros
    simp only [E1, E2, E3, E4, E5, E6, E7, E8, E9, List.map_cons, List.map_nil, List.cons_append, List.nil_append, List.append_nil, List.length_cons, List.length_nil, List.replicate_zero, List.replicate_succ, Nat.sub_self, Nat.zero_add, List.getElem?_cons_zero, List.getElem?_cons_succ, List.set_cons_zero, List.set_cons_succ, if_true, if_false, Bool.false_eq_true, decide_true, decide_false, Bool.not_true, Bool.not_false, decide_eq_true_eq, eq_self, Int.cast_ofNat_Int, Int.natCast_zero, Int.natCast_one, Nat.reduceLeDiff, Nat.reduceSub, Nat.reduceAdd, Nat.reduceLT, reduceIte, reduceCtorEq, Int.reduceEq, Int.reduceLT, Int.reduceLE, Int.reduceNeg, Int.reduceAdd, Int.reduceSub, Int.reduceMul, Int.reduceNe, Int.reduceBNe, Int.reduceBEq, s_law_0_4, lf]
  have s10 : ∀ {x0 x1 x2 x3 x4 x5 x9 x10 x11 x12 x13 x14 x15 x16 x17 x18 x19 x20 x21 x22 x23 : Option D} {S}, evS G (callK G (4 + 15)) s_law_0_10 [x0, x1, x2, x3, x4, x5, some (.int (d : Int)), some (.int m), some (.int M), x9, x10, x11, x12, x13, x14, x15, x16, x17, x18, x19, x20, x21, x22, x23] S = some (.nx [x0, x1, x2, x3, x4, x5, some (.int (d : Int)), some (.int m), some (.int M), x9, x10, x11, x12, some (.lst [numD 0 0 m, numD 0 (2 ^ d) m, numD 0 1 M, numD 2 1 m]), x14, x15, x16, x17, x18, x19, x20, x21, x22, x23], S) := by
    intros
    have m1 : D.tup [.str "number", .int 0, .int 0, .int m] = numD 0 0 m := rfl
    have m2 : D.tup [.str "number", .int 0, .int ((2 ^ d : Nat) : Int), .int m] = numD 0 (2 ^ d) m := rfl
    have m3 : D.tup [.str "number", .int 0, .int 1, .int M] = numD 0 1 M := rfl
    have m4 : D.tup [.str "number", .int 2, .int 1, .int m] = numD 2 1 m := rfl
    simp only [E1, E2, E3, E4, E5, E6, E7, E8, E9, List.map_cons, List.map_nil, List.cons_append, List.nil_append, List.append_nil, List.length_cons, List.length_nil, List.replicate_zero, List.replicate_succ, Nat.sub_self, Nat.zero_add, List.getElem?_cons_zero, List.getElem?_cons_succ, List.set_cons_zero, List.set_cons_succ, if_true, if_false, Bool.false_eq_true, decide_true, decide_false, Bool.not_true, Bool.not_false, decide_eq_true_eq, eq_self, Int.cast_ofNat_Int, Int.natCast_zero, Int.natCast_one, Nat.reduceLeDiff, Nat.reduceSub, Nat.reduceAdd, Nat.reduceLT, reduceIte, reduceCtorEq, Int.reduceEq, Int.reduceLT, Int.reduceLE, Int.reduceNeg, Int.reduceAdd, Int.reduceSub, Int.reduceMul, Int.reduceNe, Int.reduceBNe, Int.reduceBEq, s_law_0_10, shl_d hF.f, pow_d, m1, m2, m3, m4]
  have s11 : ∀ {x0 x1 x2 x3 x4 x5 x6 x7 x8 x9 x10 x11 x12 x14 x15 x16 x17 x18 x19 x20 x21 x22 x23 : Option D} {S}, evS G (callK G (4 + 15)) s_law_0_11 [x0, x1, x2, x3, x4, x5, x6, x7, x8, x9, x10, x11, x12, some (.lst [numD 0 0 m, numD 0 (2 ^ d) m, numD 0 1 M, numD 2 1 m]), x14, x15, x16, x17, x18, x19, x20, x21, x22, x23] S = some (.nx [x0, x1, x2, x3, x4, x5, x6, x7, x8, x9, x10, x11, x12, some (.lst (wrongL d m M)), x14, x15, x16, x17, x18, x19, x20, x21, x22, x23], S) := by
    intros
    have m5 : D.tup [.str "endless", .int 2] = endD 2 := rfl
    unfold wrongL
    simp only [E1, E2, E3, E4, E5, E6, E7, E8, E9, List.map_cons, List.map_nil, List.cons_append, List.nil_append, List.append_nil, List.length_cons, List.length_nil, List.replicate_zero, List.replicate_succ, Nat.sub_self, Nat.zero_add, List.getElem?_cons_zero, List.getElem?_cons_succ, List.set_cons_zero, List.set_cons_succ, if_true, if_false, Bool.false_eq_true, decide_true, decide_false, Bool.not_true, Bool.not_false, decide_eq_true_eq, eq_self, Int.cast_ofNat_Int, Int.natCast_zero, Int.natCast_one, Nat.reduceLeDiff, Nat.reduceSub, Nat.reduceAdd, Nat.reduceLT, reduceIte, reduceCtorEq, Int.reduceEq, Int.reduceLT, Int.reduceLE, Int.reduceNeg, Int.reduceAdd, Int.reduceSub, Int.reduceMul, Int.reduceNe, Int.reduceBNe, Int.reduceBEq, s_law_0_11, m5]
  obtain ⟨y12, e9⟩ := s9_ok (k := 4) (S := [wC (L.map D.int) 6]) hF.f (x0 := some (.flst (ns.map D.int))) (x1 := some (.ref 0)) (x2 := some .non) (x3 := some (.bl false)) (x5 := some (fmD d' m' M')) (x6 := some (.int (d : Int))) (x7 := some (.int m)) (x8 := some (.int M)) (x10 := some (.lst (vlsL d m (cnt d m M)))) (x12 := none) (x13 := none) (x14 := none) (x15 := none) (x16 := none) (x17 := none) (x18 := none) (x19 := none) (x20 := none) (x21 := none) (x22 := none) (x23 := none)
  obtain ⟨z12, z14, z15, z16, z17, z18, z19, z20, z21, j, e14⟩ := s14_ok (k := 4) hF hL (i := 6) (by decide) (x0 := some (.flst (ns.map D.int))) (x2 := some (.tup [.str "number", .int 0, .bl true, .int m])) (x3 := some (.bl false)) (x5 := some (fmD d' m' M')) (x8 := some (.int M)) (x11 := some (.lst (eL d m M))) (x12 := y12) (x13 := some (.lst (wrongL d m M))) (x14 := none) (x15 := none) (x16 := none) (x17 := none) (x18 := none) (x19 := none) (x20 := none) (x21 := none) (x22 := none) (x23 := none)
  have hp : prune [] (.bl true) [wC (L.map D.int) j] = (.bl true, []) := prune_new (S := []) rfl
  refine ⟨[], ?_⟩
  unfold depth
  have big : evSs G (callK G 19) f_law.body [some (.flst (ns.map D.int)), none, none, none, none, none, none, none, none, none, none, none, none, none, none, none, none, none, none, none, none, none, none, none] [] = some (.rt (.bl true), [wC (L.map D.int) j]) := by
    show evSs G (callK G (4 + 15)) (.cons s_law_0_0 _) _ _ = _
    rw [ev_sC, s0, sq_nx, ev_sC, s1_ok, sq_nx, ev_sC, s2, sq_nx, ev_sC, s3, sq_nx, ev_sC, s4, sq_nx, ev_sC, s5_ok hF.f, sq_nx, ev_sC, s6_ok hF.f, sq_nx, ev_sC, s7_ok hF.f, sq_nx, ev_sC, s8_ok hF, sq_nx, ev_sC, e9, sq_nx, ev_sC, s10, sq_nx, ev_sC, s11, sq_nx, ev_sC, s12_ok hF, sq_nx, ev_sC, s13_ok hF.f, sq_nx, ev_sC, e14, sq_nx, ev_sC, s15_ok hF'.f, sq_nx, ev_sC, s16_ok hF hF', sq_rt]
  rw [call_fn g_law rfl]
  show fin [] (evSs G (callK G 19) f_law.body [some (.flst (ns.map D.int)), none, none, none, none, none, none, none, none, none, none, none, none, none, none, none, none, none, none, none, none, none, none, none] []) = _
  rw [big, fin_rt, hp]
end Rw.Pk01

namespace Rw.Pk01
open PySem PySem.Spec PyProof.Rows L2 Rw
def top (i : Nat) : Stmt := PySem.Challenge.pw_roundedwithin_k01_formats_and_their_numb.main.body.getD i (.Pass ⟨0, 0, 0, 0⟩)
abbrev R : PySem.W.OpenRow := PySem.W.OpenLaw.row PySem.Challenge.rw_roundedwithin_k01_formats_and_their_numb
abbrev hk : PySem.W.Hook := hookR 2 (faOf T) (fnOf' top T) (exOf T)
def loose0 : List Str := ["is_number", "is_from", "is_tuple_of", "bits_of", "NOTHING", "common", "fraction", "times", "is_most", "two_to", "shifted", "exponent_of", "is_format", "is_of", "is_sign", "value_of", "is_finite", "greatest_of", "least_of", "least_full", "all_finite", "all_numbers", "turned", "sized", "unit_at", "is_representable", "number_of", "count_of", "is_within", "_law_draws"]
def loose1 : List Str := ["_law_next", "_law_pick", "_law_same", "_law_least", "_law_fin", "_law_val", "_law_flip", "_law_form"]
def loose : List Str := loose0 ++ loose1
theorem chk : chkT top T = true := by decide +kernel
def ob (s : PySem.W.SharedT) : hk.α := (He.obsDG 2 (faOf T) (fnOf' top T) (HandSHeadRun.getT s), exOf T (He.frG (HandSHeadRun.getT s) (He.asD (HandSHeadRun.getT s) 2)))
theorem ob_eq (s : PySem.W.SharedT) : ob s = hk.obs s.abs := by
  have e : HandSHeadRun.getT s = s.abs.heap.get? := funext (HandSHeadRun.getT_eq s)
  unfold ob
  rw [e]
  rfl
theorem run (w : World) : HandSHeadRun.RunEq R (PySem.W.view R.prog [42]) hk ob 3000 loose w := by
  intro os
  kernel_rfl
end Rw.Pk01

open PySem PySem.W PySem.Calls PyProof.Rows
theorem PySem.Challenge.cw_roundedwithin_k01_formats_and_their_numb_holds : PySem.Challenge.rw_roundedwithin_k01_formats_and_their_numb.Holds := by
  w_on; o_law
  refine HandSHeadRun.head_any (r := OpenLaw.row PySem.Challenge.rw_roundedwithin_k01_formats_and_their_numb) (q := view (OpenLaw.row PySem.Challenge.rw_roundedwithin_k01_formats_and_their_numb).prog [42]) (H := Rw.Pk01.hk) (ob := Rw.Pk01.ob) (M := 3000) (loose := Rw.Pk01.loose) (d := HandSHeadRun.topDef (OpenLaw.row PySem.Challenge.rw_roundedwithin_k01_formats_and_their_numb).prog 42) (kwd := []) Rw.Pk01.ob_eq
    (by kernel_rfl) (fun s => by kernel_rfl) Rw.Pk01.run (by kernel_rfl) (by kernel_rfl) (by kernel_rfl) (by rfl) (by first | assumption | decide +kernel) (by decide +kernel) ⟨rfl, rfl, rfl, rfl, rfl, by decide +kernel⟩ ?hw ?hc
  case hw => w_witness2
  case hc => exact Rw.law_walk (l := PySem.Challenge.rw_roundedwithin_k01_formats_and_their_numb) (top := Rw.Pk01.top) (T := Rw.Pk01.T) (n := 2) (g := 49) (k := Rw.Pk01.depth) (i := 42) (f := Rw.Pk01.f_law) rfl (by kernel_rfl) ⟨rfl, by decide, by decide⟩ (by kernel_rfl) Rw.Pk01.chk rfl (by kernel_rfl) Rw.Pk01.law_true

