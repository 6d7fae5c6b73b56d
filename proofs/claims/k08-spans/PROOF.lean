import PyProof.Rows.All
import Wide.All
import OpenK.AllK
import Wide.FinOn
import HandS.ForMost
import HandS.Flow
import HandS.Wide
import HandS.WideBits
import HandS.IsInst
import HandS.TupAny
import HandS.Defaults
import HandS.Deep
import HandS.NoneIn
import HandS.Style
import HandS.Ends
import HandS.More
import HandS.Words
import HandS.WordsExc
import HandS.Head0
import HandS.Head1
import HandS.Head2
import HandS.HeadEnd
import HandS.HeadHook1
import HandS.HeadHook2
import PySem.Challenge.RW_roundedwithin_k08_spans
set_option Elab.async false
set_option linter.all false
set_option maxRecDepth 100000
set_option maxHeartbeats 0
set_option exponentiation.threshold 300
/-! M1: the small language: values, store, what an expression and a statement do -/
namespace Rw
open PySem L2

/-! ### values -/
inductive D where
  | non | bl (b : Bool) | int (i : Int) | str (s : Str)
  | tup (xs : List D) | lst (xs : List D) | flst (xs : List D) | ref (r : Nat) | ty (n : String)
inductive Cell where
  | lst (xs : List D)
  | dk (kvs : List (Key × D))
abbrev Sto := List Cell
abbrev Env := List (Option D)
abbrev Rs (α : Type) := Option (α × Sto)

mutual
/-- all its references are below n -/
def below (n : Nat) : D → Bool
  | .tup xs => belows n xs
  | .lst xs => belows n xs
  | .flst xs => belows n xs
  | .ref r => decide (r < n)
  | _ => true
def belows (n : Nat) : List D → Bool
  | [] => true
  | x :: xs => below n x && belows n xs
end

/-! ### operations on values -/
def b2i (b : Bool) : Int := if b then 1 else 0
def mulOk (a b : Int) : Prop := a.natAbs.log2 + b.natAbs.log2 < 1000000
instance (a b : Int) : Decidable (mulOk a b) := inferInstanceAs (Decidable (_ < _))
def divOk (b : Int) : Prop := b ≠ 0 ∧ b.natAbs.log2 < 9000
instance (b : Int) : Decidable (divOk b) := inferInstanceAs (Decidable (_ ∧ _))
def shlOk (a b : Int) : Prop := 0 ≤ b ∧ (Builtin.Int.intBits a : Int) + b ≤ 2 ^ 27
instance (a b : Int) : Decidable (shlOk a b) := inferInstanceAs (Decidable (_ ∧ _))
def powOk (a b : Int) : Prop := 0 ≤ b ∧ b ≤ 1000000 ∧ a.natAbs < 2 ^ 64
instance (a b : Int) : Decidable (powOk a b) := inferInstanceAs (Decidable (_ ∧ _))
/-- a list so many times -/
def repOk (n : Nat) (k : Int) : Prop := -(2 ^ 63) ≤ k ∧ k < 2 ^ 63 ∧ n * k.toNat ≤ sizeLine
instance (n : Nat) (k : Int) : Decidable (repOk n k) := inferInstanceAs (Decidable (_ ∧ _ ∧ _))

def binD (op : Operator) (d e : D) : Option D :=
  match op, d, e with
  | .Add, .int a, .int b => some (.int (a + b))
  | .Add, .str a, .str b => if a.length + b.length ≤ sizeLine then some (.str (a ++ b)) else none
  | .Add, .tup xs, .tup ys => if xs.length + ys.length ≤ sizeLine then some (.tup (xs ++ ys)) else none
  | .Add, .lst xs, .lst ys => if xs.length + ys.length ≤ sizeLine then some (.lst (xs ++ ys)) else none
  | .Sub, .int a, .int b => some (.int (a - b))
  | .Sub, .bl a, .bl b => some (.int (b2i a - b2i b))
  | .Mult, .int a, .int b => if mulOk a b then some (.int (a * b)) else none
  | .FloorDiv, .int a, .int b => if divOk b then some (.int (a.fdiv b)) else none
  | .Mod, .int a, .int b => if b ≠ 0 then some (.int (a.fmod b)) else none
  | .Pow, .int a, .int b => if powOk a b then some (.int (a ^ b.toNat)) else none
  | .LShift, .int a, .int b => if shlOk a b then some (.int (a * 2 ^ b.toNat)) else none
  | .RShift, .int a, .int b => if 0 ≤ b then some (.int (a / 2 ^ b.toNat)) else none
  | .Mult, .lst xs, .int k => if repOk xs.length k then some (.lst (List.replicate k.toNat xs).flatten) else none
  | _, _, _ => none

mutual
/-- as data, references read in the store -/
def pd (S : Sto) : D → Option PyData
  | .non => some .none
  | .bl b => some (.bool b)
  | .int i => some (.int i)
  | .str s => some (.str s)
  | .tup xs => (pds S xs).map .tuple
  | .lst xs => (pds S xs).map .list
  | .flst xs => (pds S xs).map .list
  | .ref r => none
  | .ty _ => none
def pds (S : Sto) : List D → Option (List PyData)
  | [] => some []
  | x :: xs => match pd S x, pds S xs with
    | some y, some ys => some (y :: ys)
    | _, _ => none
end
/-- the list behind a value -/
def lstOf (S : Sto) : D → Option (List D)
  | .lst xs => some xs
  | .flst xs => some xs
  | .ref r => match S[r]? with
    | some (.lst xs) => some xs
    | _ => none
  | _ => none
/-- as data, a list at the outermost may be of the store -/
def pdT (S : Sto) (d : D) : Option PyData := match d with
  | .ref r => match S[r]? with
    | some (.lst xs) => (pds S xs).map .list
    | _ => none
  | _ => pd S d
def eqD (S : Sto) (d e : D) : Option Bool := match d, e with
  | .int a, .int b => some (decide (a = b))
  | .bl a, .bl b => some (decide (a = b))
  | .str a, .str b => some (decide (a = b))
  | .non, .non => some true
  | .non, .int _ => some false
  | .int _, .non => some false
  | .non, .bl _ => some false
  | .bl _, .non => some false
  | .non, .str _ => some false
  | .str _, .non => some false
  | _, _ => match pdT S d, pdT S e with
    | some p, some q => if SeqAt.shaped p = true ∧ SeqAt.shaped q = true then some (PyData.eqv p q) else none
    | _, _ => none
def isNone : D → Bool
  | .non => true
  | _ => false
/-- among the items -/
def inD (S : Sto) (d e : D) : Option Bool := match pdT S d, pdT S e with
  | some p, some (.tuple qs) => if SeqAt.shaped p = true ∧ SeqAt.shaped (.tuple qs) = true then some (qs.any fun z => PyData.eqv z p) else none
  | some p, some (.list qs) => if SeqAt.shaped p = true ∧ SeqAt.shaped (.list qs) = true then some (qs.any fun z => PyData.eqv z p) else none
  | _, _ => none
def cmpD (S : Sto) (op : CmpOp) (d e : D) : Option Bool := match op with
  | .Eq => eqD S d e
  | .NotEq => (eqD S d e).map (!·)
  | .Lt => match d, e with
    | .int a, .int b => some (decide (a < b))
    | _, _ => none
  | .LtE => match d, e with
    | .int a, .int b => some (decide (a ≤ b))
    | _, _ => none
  | .Gt => match d, e with
    | .int a, .int b => some (decide (b < a))
    | _, _ => none
  | .GtE => match d, e with
    | .int a, .int b => some (decide (b ≤ a))
    | _, _ => none
  | .Is => match e with
    | .non => some (isNone d)
    | _ => none
  | .IsNot => match e with
    | .non => some (!isNone d)
    | _ => none
  | .In => inD S d e
  | .NotIn => (inD S d e).map (!·)
def truD (S : Sto) : D → Option Bool
  | .non => some false
  | .bl b => some b
  | .int i => some (i != 0)
  | .str s => if s.length ≤ sizeLine then some ((s.length : Int) != 0) else none
  | .tup xs => some (!xs.isEmpty)
  | .lst xs => some (!xs.isEmpty)
  | .flst xs => some (!xs.isEmpty)
  | .ref r => match S[r]? with
    | some (.lst xs) => some (!xs.isEmpty)
    | some (.dk kvs) => some (!kvs.isEmpty)
    | _ => none
  | .ty _ => none
def keyD : D → Option Key
  | .int i => some (.inl i)
  | .str s => some (.inr s)
  | _ => none
def lookK (kvs : List (Key × D)) (k : Key) : Option D := (kvs.find? fun kv => decide (kv.1 = k)).map (·.2)
def storeK (kvs : List (Key × D)) (k : Key) (v : D) : List (Key × D) :=
  if kvs.any (fun kv => decide (kv.1 = k)) then kvs.map (fun kv => if kv.1 = k then (kv.1, v) else kv) else kvs ++ [(k, v)]
def idxD (S : Sto) (d i : D) : Option D := match d, i with
  | .tup xs, .int k => atI xs k
  | .lst xs, .int k => atI xs k
  | .flst xs, .int k => atI xs k
  | .str s, .int k => if s.length ≤ sizeLine then (atI s.cps.toList k).map fun c => .str ⟨#[c]⟩ else none
  | .ref r, k => match S[r]? with
    | some (.lst xs) => match k with
      | .int j => atI xs j
      | _ => none
    | some (.dk kvs) => (keyD k).bind fun q => lookK kvs q
    | _ => none
  | _, _ => none
/-- xs[lo:hi] -/
def cutD {α : Type} (xs : List α) (lo hi : Option Int) : List α := (xs.drop (HT.sIx xs.length 0 lo)).take (HT.sIx xs.length xs.length hi - HT.sIx xs.length 0 lo)
def slD (S : Sto) (d : D) (lo hi : Option Int) : Option D := match d with
  | .tup xs => some (.tup (cutD xs lo hi))
  | .str s => if s.length ≤ sizeLine then some (.str (cutS s lo hi)) else none
  | d => (lstOf S d).map fun xs => .lst (cutD xs lo hi)

/-! ### built-in calls -/
inductive BI where
  | len | abs | max | min | int | str | tuple | list
def tyName (S : Sto) : D → Option String
  | .non => some "NoneType"
  | .bl _ => some "bool"
  | .int _ => some "int"
  | .str _ => some "str"
  | .tup _ => some "tuple"
  | .lst _ => some "list"
  | .flst _ => some "list"
  | .ref r => match S[r]? with
    | some (.lst _) => some "list"
    | some (.dk _) => some "dict"
    | _ => none
  | .ty _ => none
def biLen (S : Sto) : List D → Option D
  | [.tup xs] => some (.int xs.length)
  | [.str s] => if s.length ≤ sizeLine then some (.int s.length) else none
  | [.lst xs] => some (.int xs.length)
  | [.flst xs] => some (.int xs.length)
  | [.ref r] => match S[r]? with
    | some (.lst xs) => some (.int xs.length)
    | _ => none
  | _ => none
def biAbs : List D → Option D
  | [.int i] => some (.int (if i < 0 then -i else i))
  | _ => none
def biMax : List D → Option D
  | [.int i, .int j] => some (.int (if j > i then j else i))
  | _ => none
def biMin : List D → Option D
  | [.int i, .int j] => some (.int (if j < i then j else i))
  | _ => none
def biInt : List D → Option D
  | [.int i] => some (.int i)
  | [.bl b] => some (.int (b2i b))
  | _ => none
def biStr : List D → Option D
  | [.int i] => if i.natAbs.log2 < 1920 then some (.str (toString i)) else none
  | _ => none
def biTup (S : Sto) : List D → Option D
  | [.tup xs] => some (.tup xs)
  | [.lst xs] => some (.tup xs)
  | [.flst xs] => some (.tup xs)
  | [.ref r] => match S[r]? with
    | some (.lst xs) => some (.tup xs)
    | _ => none
  | _ => none
def biLst (S : Sto) : List D → Option D
  | [.tup xs] => some (.lst xs)
  | [.lst xs] => some (.lst xs)
  | [.flst xs] => some (.lst xs)
  | [.ref r] => match S[r]? with
    | some (.lst xs) => some (.lst xs)
    | _ => none
  | _ => none
def biD (S : Sto) (b : BI) (ds : List D) : Option D := match b with
  | .len => biLen S ds
  | .abs => biAbs ds
  | .max => biMax ds
  | .min => biMin ds
  | .int => biInt ds
  | .str => biStr ds
  | .tuple => biTup S ds
  | .list => biLst S ds
end Rw

/-! M2: how values, cells and stores stand in the heap -/
namespace Rw
open PySem L2

mutual
/-- the value d stands as v: W what never changes, μ where the cells are -/
def Rep (K : PySem.W.Frag) (W : Hp) (μ : List Addr) : D → V → Prop
  | .non, v => v = .non
  | .bl b, v => v = .bl b
  | .int i, v => v = .int i
  | .str s, v => v = .str s
  | .ty n, v => v = .ty n
  | .ref r, v => ∃ a, μ[r]? = some a ∧ v = .ref a
  | .tup ds, v => ∃ a vs, v = .ref a ∧ SqT K W a vs ∧ Reps K W μ ds vs
  | .lst ds, v => ∃ a vs, v = .ref a ∧ W a = some (.lst vs) ∧ Reps K W μ ds vs
  | .flst ds, v => ∃ a vs, v = .ref a ∧ SqL K W a vs ∧ Reps K W μ ds vs
def Reps (K : PySem.W.Frag) (W : Hp) (μ : List Addr) : List D → List V → Prop
  | [], vs => vs = []
  | d :: ds, vs => ∃ v r, vs = v :: r ∧ Rep K W μ d v ∧ Reps K W μ ds r
end
structure Ext (W : Hp) (μ : List Addr) (W' : Hp) (μ' : List Addr) : Prop where
  w : ∀ a o, W a = some o → W' a = some o
  m : ∀ (r : Nat) a, μ[r]? = some a → μ'[r]? = some a
theorem Ext.refl {W : Hp} {μ : List Addr} : Ext W μ W μ := ⟨fun _ _ h => h, fun _ _ h => h⟩
theorem Ext.trans {W W1 W2 : Hp} {μ μ1 μ2 : List Addr} (x : Ext W μ W1 μ1) (y : Ext W1 μ1 W2 μ2) : Ext W μ W2 μ2 :=
  ⟨fun a o h => y.w a o (x.w a o h), fun r a h => y.m r a (x.m r a h)⟩
section
variable {K : PySem.W.Frag} {W W' H : Hp} {μ μ' : List Addr}
theorem rd_le (h : ∀ a o, W a = some o → W' a = some o) {a : Addr} {u : HO} (r : Rd W a u) : Rd W' a u := by
  rcases r with r | ⟨o, r⟩
  · exact .inl (h _ _ r)
  · exact .inr ⟨o, h _ _ r⟩
theorem sqT_le (h : ∀ a o, W a = some o → W' a = some o) {a : Addr} {xs : List V} (r : SqT K W a xs) : SqT K W' a xs := by
  rcases r with r | r
  · exact .inl (rd_le h r)
  · exact .inr r
theorem sqL_le (h : ∀ a o, W a = some o → W' a = some o) {a : Addr} {xs : List V} (r : SqL K W a xs) : SqL K W' a xs := by
  rcases r with r | r
  · exact .inl (rd_le h r)
  · exact .inr r
mutual
theorem Rep.mono (x : Ext W μ W' μ') : ∀ (d : D) (v : V), Rep K W μ d v → Rep K W' μ' d v
  | .non, _, h => h
  | .bl _, _, h => h
  | .int _, _, h => h
  | .str _, _, h => h
  | .ty _, _, h => h
  | .ref r, _, ⟨a, h, e⟩ => ⟨a, x.m r a h, e⟩
  | .tup ds, _, ⟨a, vs, e, h, r⟩ => ⟨a, vs, e, sqT_le x.w h, Reps.mono x ds vs r⟩
  | .lst ds, _, ⟨a, vs, e, h, r⟩ => ⟨a, vs, e, x.w _ _ h, Reps.mono x ds vs r⟩
  | .flst ds, _, ⟨a, vs, e, h, r⟩ => ⟨a, vs, e, sqL_le x.w h, Reps.mono x ds vs r⟩
theorem Reps.mono (x : Ext W μ W' μ') : ∀ (ds : List D) (vs : List V), Reps K W μ ds vs → Reps K W' μ' ds vs
  | [], _, h => h
  | d :: ds, _, ⟨v, r, e, h1, h2⟩ => ⟨v, r, e, Rep.mono x d v h1, Reps.mono x ds r h2⟩
end
theorem Rep.m (x : Ext W μ W' μ') {d : D} {v : V} (h : Rep K W μ d v) : Rep K W' μ' d v := Rep.mono x d v h
theorem Reps.m (x : Ext W μ W' μ') {ds : List D} {vs : List V} (h : Reps K W μ ds vs) : Reps K W' μ' ds vs := Reps.mono x ds vs h
theorem Reps.length : ∀ {ds : List D} {vs : List V}, Reps K W μ ds vs → vs.length = ds.length
  | [], _, h => by cases (show _ = [] from h); rfl
  | d :: ds, _, ⟨v, r, e, _, h⟩ => by subst e; simp [Reps.length h]
theorem Reps.get : ∀ {ds : List D} {vs : List V} {i : Nat} {d : D}, Reps K W μ ds vs → ds[i]? = some d → ∃ v, vs[i]? = some v ∧ Rep K W μ d v
  | [], _, _, _, _, e => by simp at e
  | d :: ds, _, 0, _, ⟨v, r, e, h, _⟩, e2 => by subst e; simp at e2; subst e2; exact ⟨v, rfl, h⟩
  | d :: ds, _, i + 1, x, ⟨v, r, e, _, h⟩, e2 => by
    subst e
    obtain ⟨u, h1, h2⟩ := Reps.get (i := i) h (by simpa using e2)
    exact ⟨u, by simpa using h1, h2⟩
theorem Reps.get2 : ∀ {ds : List D} {vs : List V} {i : Nat} {v : V}, Reps K W μ ds vs → vs[i]? = some v → ∃ d, ds[i]? = some d ∧ Rep K W μ d v
  | [], _, _, _, h, e => by cases (show _ = [] from h); simp at e
  | d :: ds, _, 0, _, ⟨v, r, e, h, _⟩, e2 => by subst e; simp at e2; subst e2; exact ⟨d, rfl, h⟩
  | d :: ds, _, i + 1, x, ⟨v, r, e, _, h⟩, e2 => by
    subst e
    obtain ⟨u, h1, h2⟩ := Reps.get2 (i := i) h (by simpa using e2)
    exact ⟨u, by simpa using h1, h2⟩
theorem Reps.app : ∀ {ds es : List D} {vs us : List V}, Reps K W μ ds vs → Reps K W μ es us → Reps K W μ (ds ++ es) (vs ++ us)
  | [], _, _, _, h, h2 => by cases (show _ = [] from h); exact h2
  | d :: ds, _, _, _, ⟨v, r, e, h1, h⟩, h2 => by subst e; exact ⟨v, _, rfl, h1, Reps.app h h2⟩
theorem Reps.drop : ∀ (n : Nat) {ds : List D} {vs : List V}, Reps K W μ ds vs → Reps K W μ (ds.drop n) (vs.drop n)
  | 0, _, _, h => h
  | _ + 1, [], _, h => by cases (show _ = [] from h); exact rfl
  | n + 1, d :: ds, _, ⟨v, r, e, h1, h⟩ => by subst e; exact Reps.drop n h
theorem Reps.take : ∀ (n : Nat) {ds : List D} {vs : List V}, Reps K W μ ds vs → Reps K W μ (ds.take n) (vs.take n)
  | 0, _, _, h => rfl
  | _ + 1, [], _, h => by cases (show _ = [] from h); exact rfl
  | n + 1, d :: ds, _, ⟨v, r, e, h1, h⟩ => by subst e; exact ⟨v, _, rfl, h1, Reps.take n h⟩
theorem Reps.cut {ds : List D} {vs : List V} (h : Reps K W μ ds vs) (lo hi : Option Int) : Reps K W μ (cutD ds lo hi) (cutV vs lo hi) := by
  unfold cutD cutV
  rw [h.length]
  exact (h.drop _).take _
theorem Reps.set : ∀ (i : Nat) {d : D} {v : V} {ds : List D} {vs : List V}, Rep K W μ d v → Reps K W μ ds vs → Reps K W μ (ds.set i d) (vs.set i v)
  | _, _, _, [], _, _, h => by cases (show _ = [] from h); exact rfl
  | 0, _, _, d :: ds, _, hd, ⟨v, r, e, h1, h⟩ => by subst e; exact ⟨_, _, rfl, hd, h⟩
  | i + 1, _, _, d :: ds, _, hd, ⟨v, r, e, h1, h⟩ => by subst e; exact ⟨v, _, rfl, h1, Reps.set i hd h⟩
theorem Reps.isEmpty {ds : List D} {vs : List V} (h : Reps K W μ ds vs) : vs.isEmpty = ds.isEmpty := by
  have := h.length
  cases ds <;> cases vs <;> simp_all
theorem Reps.dropLast {ds : List D} {vs : List V} (h : Reps K W μ ds vs) : Reps K W μ ds.dropLast vs.dropLast := by
  rw [List.dropLast_eq_take, List.dropLast_eq_take, h.length]
  exact h.take _
theorem Reps.one {d : D} {v : V} (h : Rep K W μ d v) : Reps K W μ [d] [v] := ⟨v, [], rfl, h, rfl⟩
theorem Reps.inv1 {d : D} {vs : List V} (h : Reps K W μ [d] vs) : ∃ v, vs = [v] ∧ Rep K W μ d v := by
  obtain ⟨v, r, e, h1, h2⟩ := h
  cases (show r = [] from h2)
  exact ⟨v, e, h1⟩
theorem Reps.inv2 {d e : D} {vs : List V} (h : Reps K W μ [d, e] vs) : ∃ v u, vs = [v, u] ∧ Rep K W μ d v ∧ Rep K W μ e u := by
  obtain ⟨v, r, e1, h1, u, r2, e2, h2, h3⟩ := h
  cases (show r2 = [] from h3)
  exact ⟨v, u, by rw [e1, e2], h1, h2⟩
theorem atI_rep {ds : List D} {vs : List V} (h : Reps K W μ ds vs) {i : Int} {d : D} (e : atI ds i = some d) : ∃ v, atI vs i = some v ∧ Rep K W μ d v := by
  unfold atI at e ⊢
  rw [h.length]
  cases q : ixN ds.length i with
  | none => rw [q] at e; cases e
  | some j =>
    rw [q] at e
    obtain ⟨v, h1, h2⟩ := h.get (show ds[j]? = some d from e)
    exact ⟨v, h1, h2⟩

/-! ### cells, stores -/
/-- a dict's pairs -/
def RepKV (K : PySem.W.Frag) (W : Hp) (μ : List Addr) (kvs : List (Key × D)) (ws : List (Key × V)) : Prop := kvs.map (·.1) = ws.map (·.1) ∧ Reps K W μ (kvs.map (·.2)) (ws.map (·.2))
def CellAt (K : PySem.W.Frag) (W : Hp) (μ : List Addr) (H : Hp) (a : Addr) : Cell → Prop
  | .lst ds => ∃ vs, H a = some (.lst vs) ∧ Reps K W μ ds vs
  | .dk kvs => ∃ ws, H a = some (.dK ws) ∧ RepKV K W μ kvs ws
/-- what never changes: tuples, lists that nobody changes, locked things -/
structure Stt (K : PySem.W.Frag) (W F : Hp) (μ : List Addr) (S : Sto) (H : Hp) : Prop where
  sub : ∀ a o, W a = some o → H a = some o
  frm : ∀ a o, F a = some o → H a = some o
  dis : ∀ a o, F a = some o → W a = none
  len : μ.length = S.length
  nd : ∀ (i j : Nat) a, μ[i]? = some a → μ[j]? = some a → i = j
  apart : ∀ (i : Nat) a, μ[i]? = some a → W a = none ∧ F a = none
  cel : ∀ (i : Nat) a c, μ[i]? = some a → S[i]? = some c → CellAt K W μ H a c
theorem RepKV.mono (x : Ext W μ W' μ') {kvs : List (Key × D)} {ws : List (Key × V)} (h : RepKV K W μ kvs ws) : RepKV K W' μ' kvs ws := ⟨h.1, h.2.m x⟩
theorem CellAt.mono (x : Ext W μ W' μ') {H' : Hp} {a : Addr} (hh : H' a = H a) : ∀ {c : Cell}, CellAt K W μ H a c → CellAt K W' μ' H' a c
  | .lst ds, ⟨vs, h, r⟩ => ⟨vs, hh.trans h, r.m x⟩
  | .dk kvs, ⟨ws, h, r⟩ => ⟨ws, hh.trans h, r.mono x⟩
theorem CellAt.some {a : Addr} : ∀ {c : Cell}, CellAt K W μ H a c → ∃ o, H a = some o ∧ Mut (some o)
  | .lst ds, ⟨vs, h, r⟩ => ⟨_, h, trivial⟩
  | .dk kvs, ⟨ws, h, r⟩ => ⟨_, h, trivial⟩
variable {F : Hp} {S : Sto}
theorem Stt.at (st : Stt K W F μ S H) {r : Nat} {a : Addr} (h : μ[r]? = some a) : ∃ c, S[r]? = some c ∧ CellAt K W μ H a c := by
  have hl : r < S.length := by rw [← st.len]; exact (List.getElem?_eq_some_iff.mp h).1
  exact ⟨S[r], by simp [hl], st.cel r a _ h (by simp [hl])⟩
theorem Stt.there (st : Stt K W F μ S H) {r : Nat} {a : Addr} (h : μ[r]? = some a) : ∃ o, H a = some o := by
  obtain ⟨c, _, q⟩ := st.at h
  obtain ⟨o, e, _⟩ := q.some
  exact ⟨o, e⟩
/-- a new thing that never changes -/
theorem Stt.imm (st : Stt K W F μ S H) {p : Addr} (o : HO) (hp : H p = none) : Stt K (upd W p o) F μ S (upd H p o) ∧ Ext W μ (upd W p o) μ := by
  have hW : W p = none := by
    cases q : W p with
    | none => rfl
    | some u => rw [st.sub _ _ q] at hp; cases hp
  have hF : F p = none := by
    cases q : F p with
    | none => rfl
    | some u => rw [st.frm _ _ q] at hp; cases hp
  have x : Ext W μ (upd W p o) μ := ⟨fun a u h => by
    rw [upd_ne (ne_of_none h hW)]
    exact h, fun _ _ h => h⟩
  have hμ : ∀ (i : Nat) a, μ[i]? = some a → a ≠ p := fun i a h e => by
    obtain ⟨u, q⟩ := st.there h
    rw [e, hp] at q
    cases q
  refine ⟨⟨fun a u h => ?_, fun a u h => ?_, fun a u h => ?_, st.len, st.nd, fun i a h => ?_, fun i a c h hc => ?_⟩, x⟩
  · by_cases e : a = p
    · subst e; rw [upd_same] at h; rw [upd_same]; exact h
    · rw [upd_ne e] at h; rw [upd_ne e]; exact st.sub _ _ h
  · rw [upd_ne (ne_of_none h hF)]; exact st.frm _ _ h
  · rw [upd_ne (ne_of_none h hF)]; exact st.dis _ _ h
  · rw [upd_ne (hμ i a h)]; exact st.apart i a h
  · exact (st.cel i a c h hc).mono x (upd_ne (hμ i a h))
theorem get_snoc {α : Type} {l : List α} {x : α} {i : Nat} {y : α} (h : (l ++ [x])[i]? = some y) : l[i]? = some y ∨ (i = l.length ∧ x = y) := by
  by_cases hi : i < l.length
  · rw [List.getElem?_append_left hi] at h; exact .inl h
  · rw [List.getElem?_append_right (by omega)] at h
    by_cases e : i = l.length
    · subst e; simp at h; exact .inr ⟨rfl, h⟩
    · have : i - l.length ≠ 0 := by omega
      obtain ⟨k, hk⟩ := Nat.exists_eq_succ_of_ne_zero this
      rw [hk] at h; simp at h
/-- a new cell -/
theorem Stt.cell (st : Stt K W F μ S H) {p : Addr} (o : HO) (c : Cell) (hp : H p = none) (hc : ∀ W' μ', Ext W μ W' μ' → CellAt K W' μ' (upd H p o) p c) :
    Stt K W F (μ ++ [p]) (S ++ [c]) (upd H p o) ∧ Ext W μ W (μ ++ [p]) := by
  have hW : W p = none := by
    cases q : W p with
    | none => rfl
    | some u => rw [st.sub _ _ q] at hp; cases hp
  have hF : F p = none := by
    cases q : F p with
    | none => rfl
    | some u => rw [st.frm _ _ q] at hp; cases hp
  have x : Ext W μ W (μ ++ [p]) := ⟨fun _ _ h => h, fun r a h => by rw [List.getElem?_append_left (List.getElem?_eq_some_iff.mp h).1]; exact h⟩
  have hμ : ∀ (i : Nat) a, μ[i]? = some a → a ≠ p := fun i a h e => by
    obtain ⟨u, q⟩ := st.there h
    rw [e, hp] at q
    cases q
  refine ⟨⟨fun a u h => ?_, fun a u h => ?_, st.dis, by simp [st.len], fun i j a h1 h2 => ?_, fun i a h => ?_, fun i a c' h hc' => ?_⟩, x⟩
  · rw [upd_ne (ne_of_none h hW)]; exact st.sub _ _ h
  · rw [upd_ne (ne_of_none h hF)]; exact st.frm _ _ h
  · rcases get_snoc h1 with h1 | ⟨e1, h1⟩ <;> rcases get_snoc h2 with h2 | ⟨e2, h2⟩
    · exact st.nd i j a h1 h2
    · exact absurd h2.symm (hμ i a h1)
    · exact absurd h1.symm (hμ j a h2)
    · omega
  · rcases get_snoc h with h | ⟨_, h⟩
    · exact st.apart i a h
    · rw [← h]; exact ⟨hW, hF⟩
  · rcases get_snoc h with h | ⟨e, h⟩
    · have hl : i < S.length := by rw [← st.len]; exact (List.getElem?_eq_some_iff.mp h).1
      rw [List.getElem?_append_left hl] at hc'
      exact (st.cel i a c' h hc').mono x (upd_ne (hμ i a h))
    · subst h
      rw [e, st.len, List.getElem?_append_right (Nat.le_refl _)] at hc'
      simp at hc'
      subst hc'
      exact hc _ _ x
/-- a cell changes -/
theorem Stt.put (st : Stt K W F μ S H) {r : Nat} {a : Addr} (o : HO) (c : Cell) (hr : μ[r]? = some a) (hc : CellAt K W μ (upd H a o) a c) : Stt K W F μ (S.set r c) (upd H a o) := by
  obtain ⟨hW, hF⟩ := st.apart r a hr
  have hl : r < S.length := by rw [← st.len]; exact (List.getElem?_eq_some_iff.mp hr).1
  refine ⟨fun b u h => ?_, fun b u h => ?_, st.dis, by simp [st.len], st.nd, st.apart, fun i b c' h hc' => ?_⟩
  · rw [upd_ne (ne_of_none h hW)]; exact st.sub _ _ h
  · rw [upd_ne (ne_of_none h hF)]; exact st.frm _ _ h
  · by_cases e : i = r
    · subst e
      rw [hr] at h; cases h
      rw [List.getElem?_set_self hl] at hc'
      cases hc'
      exact hc
    · rw [List.getElem?_set_ne (Ne.symm e)] at hc'
      refine (st.cel i b c' h hc').mono Ext.refl (upd_ne fun q => e (st.nd i r a (by rw [← q]; exact h) hr))

/-! ### the wish behind a value -/
def Post (K : PySem.W.Frag) (W F : Hp) (μ : List Addr) (S : Sto) (d : D) (Q : VK) : Prop := ∀ v H' W' μ', Ext W μ W' μ' → Stt K W' F μ' S H' → Rep K W' μ' d v → Q v H'
def PostB (K : PySem.W.Frag) (W F : Hp) (μ : List Addr) (S : Sto) (b : Bool) (Q : Bool → Hp → Prop) : Prop := ∀ H' W' μ', Ext W μ W' μ' → Stt K W' F μ' S H' → Q b H'
def PostA (K : PySem.W.Frag) (W F : Hp) (μ : List Addr) (S : Sto) (ds : List D) (Q : List V → Hp → Prop) : Prop := ∀ vs H' W' μ', Ext W μ W' μ' → Stt K W' F μ' S H' → Reps K W' μ' ds vs → Q vs H'
theorem Post.ext {W1 : Hp} {μ1 : List Addr} {d : D} {Q : VK} (p : Post K W F μ S d Q) (x : Ext W μ W1 μ1) : Post K W1 F μ1 S d Q := fun v H' W' μ' y st r => p v H' W' μ' (x.trans y) st r
theorem PostB.ext {W1 : Hp} {μ1 : List Addr} {b : Bool} {Q : Bool → Hp → Prop} (p : PostB K W F μ S b Q) (x : Ext W μ W1 μ1) : PostB K W1 F μ1 S b Q := fun H' W' μ' y st => p H' W' μ' (x.trans y) st
theorem PostA.ext {W1 : Hp} {μ1 : List Addr} {ds : List D} {Q : List V → Hp → Prop} (p : PostA K W F μ S ds Q) (x : Ext W μ W1 μ1) : PostA K W1 F μ1 S ds Q := fun v H' W' μ' y st r => p v H' W' μ' (x.trans y) st r
/-- the names' values -/
def EnvR (K : PySem.W.Frag) (W : Hp) (μ : List Addr) (ρ : Env) (σ : L2.St) : Prop := ρ.length = σ.length ∧ ∀ (i : Nat) d, ρ[i]? = some (some d) → ∃ v, σ[i]? = some (some v) ∧ Rep K W μ d v
theorem EnvR.mono {ρ : Env} {σ : L2.St} (x : Ext W μ W' μ') (h : EnvR K W μ ρ σ) : EnvR K W' μ' ρ σ := ⟨h.1, fun i d e => let ⟨v, a, b⟩ := h.2 i d e; ⟨v, a, b.m x⟩⟩
theorem EnvR.set {ρ : Env} {σ : L2.St} {i : Nat} {d : D} {v : V} (h : EnvR K W μ ρ σ) (r : Rep K W μ d v) : EnvR K W μ (ρ.set i (some d)) (σ.set i (some v)) := by
  refine ⟨by simp [h.1], fun j e q => ?_⟩
  by_cases hj : i = j
  · subst hj
    have hl : i < ρ.length := by
      have := (List.getElem?_eq_some_iff.mp q).1
      simpa using this
    rw [List.getElem?_set_self hl] at q
    cases q
    exact ⟨v, by rw [List.getElem?_set_self (by rw [← h.1]; exact hl)], r⟩
  · rw [List.getElem?_set_ne hj] at q
    obtain ⟨u, h1, h2⟩ := h.2 j e q
    exact ⟨u, by rw [List.getElem?_set_ne hj]; exact h1, h2⟩
end

/-! ### readings -/
def TR (K : PySem.W.Frag) (ev : Env → Sto → Rs D) : TE := fun σ H Q => ∃ W F μ ρ S d S', Stt K W F μ S H ∧ EnvR K W μ ρ σ ∧ ev ρ S = some (d, S') ∧ Post K W F μ S' d Q
def TTR (K : PySem.W.Frag) (ev : Env → Sto → Rs Bool) : TT := fun σ H Q => ∃ W F μ ρ S b S', Stt K W F μ S H ∧ EnvR K W μ ρ σ ∧ ev ρ S = some (b, S') ∧ PostB K W F μ S' b Q
def TAR (K : PySem.W.Frag) (ev : Env → Sto → Rs (List D)) : TA := fun σ H Q => ∃ W F μ ρ S ds S', Stt K W F μ S H ∧ EnvR K W μ ρ σ ∧ ev ρ S = some (ds, S') ∧ PostA K W F μ S' ds Q
inductive Fl where
  | nx (ρ : Env) | rt (d : D) | bk (ρ : Env)
def PostS (K : PySem.W.Frag) (W F : Hp) (μ : List Addr) (S : Sto) (fl : Fl) (D : Ends) : Prop := match fl with
  | .nx ρ => ∀ σ H' W' μ', Ext W μ W' μ' → Stt K W' F μ' S H' → EnvR K W' μ' ρ σ → D.nx σ H'
  | .bk ρ => ∀ σ H' W' μ', Ext W μ W' μ' → Stt K W' F μ' S H' → EnvR K W' μ' ρ σ → D.bk σ H'
  | .rt d => Post K W F μ S d D.rt
theorem PostS.ext {K : PySem.W.Frag} {W F W1 : Hp} {μ μ1 : List Addr} {S : Sto} {fl : Fl} {D : Ends} (p : PostS K W F μ S fl D) (x : Ext W μ W1 μ1) : PostS K W1 F μ1 S fl D := by
  cases fl with
  | nx ρ => exact fun σ H' W' μ' y st r => p σ H' W' μ' (x.trans y) st r
  | bk ρ => exact fun σ H' W' μ' y st r => p σ H' W' μ' (x.trans y) st r
  | rt d => exact Post.ext p x
def TSR (K : PySem.W.Frag) (es : Env → Sto → Rs Fl) : TS := fun D σ H => ∃ W F μ ρ S fl S', Stt K W F μ S H ∧ EnvR K W μ ρ σ ∧ es ρ S = some (fl, S') ∧ PostS K W F μ S' fl D
theorem _root_.L2.PE.weak {X : Cx} {e : Expr} {t t' : TE} (h : PE X e t) (w : ∀ σ H Q, t' σ H Q → t σ H Q) : PE X e t' := ⟨fun pins s σ H Q I q => h.run pins s σ H Q I (w σ H Q q)⟩
theorem _root_.L2.PT.weak {X : Cx} {e : Expr} {t t' : TT} (h : PT X e t) (w : ∀ σ H Q, t' σ H Q → t σ H Q) : PT X e t' := ⟨fun pins s σ H Q I q => h.run pins s σ H Q I (w σ H Q q)⟩
theorem _root_.L2.PW.weak {X : Cx} {e : Expr} {t t' : TT} (h : PW X e t) (w : ∀ σ H Q, t' σ H Q → t σ H Q) : PW X e t' := ⟨fun wh pins s σ H Q I q => h.run wh pins s σ H Q I (w σ H Q q)⟩
theorem _root_.L2.PA.weak {X : Cx} {es : List Expr} {t t' : TA} (h : PA X es t) (w : ∀ σ H Q, t' σ H Q → t σ H Q) : PA X es t' := ⟨fun pos pins s σ H Q I q => h.run pos pins s σ H Q I (w σ H Q q)⟩
theorem _root_.L2.PS.weak {X : Cx} {st : Stmt} {t t' : TS} (h : PS X st t) (w : ∀ D σ H, t' D σ H → t D σ H) : PS X st t' := ⟨fun pins s σ H D I q => h.run pins s σ H D I (w D σ H q)⟩
theorem _root_.L2.PSs.weak {X : Cx} {st : List Stmt} {t t' : TS} (h : PSs X st t) (w : ∀ D σ H, t' D σ H → t D σ H) : PSs X st t' := ⟨fun pins s σ H D I q => h.run pins s σ H D I (w D σ H q)⟩
end Rw

/-! M3: operations on values are those of the machine -/
namespace Rw
open PySem PySem.Spec PyProof.Rows L2

def rBin (K : PySem.W.Frag) (op : Operator) : R2 := fun x y H Q => ∃ W F μ S d e r, Stt K W F μ S H ∧ Rep K W μ d x ∧ Rep K W μ e y ∧ binD op d e = some r ∧ Post K W F μ S r Q
def rCmp (K : PySem.W.Frag) (op : CmpOp) : R2 := fun x y H Q => ∃ W F μ S d e b, Stt K W F μ S H ∧ Rep K W μ d x ∧ Rep K W μ e y ∧ cmpD S op d e = some b ∧ PostB K W F μ S b fun b H' => Q (.bl b) H'
def rNeg (K : PySem.W.Frag) : V → Hp → VK → Prop := fun x H Q => ∃ i, x = .int i ∧ Q (.int (-i)) H
section
variable {K : PySem.W.Frag} {W F : Hp} {μ : List Addr} {S : Sto} {H : Hp}
theorem Post.int {i : Int} {Q : VK} (p : Post K W F μ S (.int i) Q) (st : Stt K W F μ S H) : Q (.int i) H := p _ H W μ Ext.refl st rfl
theorem Post.strv {i : Str} {Q : VK} (p : Post K W F μ S (.str i) Q) (st : Stt K W F μ S H) : Q (.str i) H := p _ H W μ Ext.refl st rfl
theorem Post.blv {i : Bool} {Q : VK} (p : Post K W F μ S (.bl i) Q) (st : Stt K W F μ S H) : Q (.bl i) H := p _ H W μ Ext.refl st rfl
theorem Post.same {d : D} {v : V} {Q : VK} (p : Post K W F μ S d Q) (st : Stt K W F μ S H) (r : Rep K W μ d v) : Q v H := p _ H W μ Ext.refl st r
theorem PostB.now {b : Bool} {Q : Bool → Hp → Prop} (p : PostB K W F μ S b Q) (st : Stt K W F μ S H) : Q b H := p H W μ Ext.refl st
/-- a new tuple, a new list that nobody changes -/
theorem Post.tup {ds : List D} {vs : List V} {Q : VK} (p : Post K W F μ S (.tup ds) Q) (st : Stt K W F μ S H) (r : Reps K W μ ds vs) : ∀ a, H a = none → Q (.ref a) (upd H a (.tup vs)) := fun a ha =>
  let ⟨st', x⟩ := st.imm (.tup vs) ha
  p _ _ _ _ x st' ⟨a, vs, rfl, SqT.of upd_same, r.m x⟩
theorem Post.lst {ds : List D} {vs : List V} {Q : VK} (p : Post K W F μ S (.lst ds) Q) (st : Stt K W F μ S H) (r : Reps K W μ ds vs) : ∀ a, H a = none → Q (.ref a) (upd H a (.lst vs)) := fun a ha =>
  let ⟨st', x⟩ := st.imm (.lst vs) ha
  p _ _ _ _ x st' ⟨a, vs, rfl, upd_same, r.m x⟩
theorem Stt.sqT (st : Stt K W F μ S H) {a : Addr} {vs : List V} (h : SqT K W a vs) : SqT K H a vs := sqT_le st.sub h
theorem Stt.sqL (st : Stt K W F μ S H) {a : Addr} {vs : List V} (h : SqL K W a vs) : SqL K H a vs := sqL_le st.sub h
theorem Stt.lst (st : Stt K W F μ S H) {r : Nat} {a : Addr} {xs : List D} (h : μ[r]? = some a) (e : S[r]? = some (.lst xs)) : ∃ vs, H a = some (.lst vs) ∧ Reps K W μ xs vs := st.cel r a _ h e
theorem Stt.dk (st : Stt K W F μ S H) {r : Nat} {a : Addr} {kvs : List (Key × D)} (h : μ[r]? = some a) (e : S[r]? = some (.dk kvs)) : ∃ ws, H a = some (.dK ws) ∧ RepKV K W μ kvs ws := st.cel r a _ h e
/-- a list of any kind, read -/
theorem lst_of (st : Stt K W F μ S H) {d : D} {v : V} {xs : List D} (r : Rep K W μ d v) (e : lstOf S d = some xs) : ∃ a vs, v = .ref a ∧ SqL K H a vs ∧ Reps K W μ xs vs := by
  cases d with
  | lst ds =>
    cases e
    obtain ⟨a, vs, rfl, h, q⟩ := r
    exact ⟨a, vs, rfl, SqL.of (st.sub _ _ h), q⟩
  | flst ds =>
    cases e
    obtain ⟨a, vs, rfl, h, q⟩ := r
    exact ⟨a, vs, rfl, st.sqL h, q⟩
  | ref i =>
    obtain ⟨a, h, rfl⟩ := r
    cases c : S[i]? with
    | none => simp only [lstOf, c] at e; cases e
    | some cc =>
      simp only [lstOf, c] at e
      cases cc with
      | lst ys =>
        cases e
        obtain ⟨vs, h1, h2⟩ := st.lst h c
        exact ⟨a, vs, rfl, SqL.of h1, h2⟩
      | dk _ => cases e
  | _ => cases e
theorem RepKV.look {kvs : List (Key × D)} {ws : List (Key × V)} (h : RepKV K W μ kvs ws) {k : Key} {d : D} (e : lookK kvs k = some d) : ∃ v, valV ws k = some v ∧ Rep K W μ d v := by
  obtain ⟨h1, h2⟩ := h
  induction kvs generalizing ws with
  | nil => cases e
  | cons p kvs ih =>
    cases ws with
    | nil => simp at h1
    | cons q ws =>
      obtain ⟨h3, h4⟩ := List.cons.inj (show p.1 :: kvs.map (·.1) = q.1 :: ws.map (·.1) from h1)
      obtain ⟨v, r, e1, h5, h6⟩ := h2
      obtain ⟨e2, e3⟩ := List.cons.inj (show q.2 :: ws.map (·.2) = v :: r from e1)
      subst e2 e3
      by_cases c : p.1 = k
      · have : lookK (p :: kvs) k = some p.2 := by simp [lookK, List.find?_cons, c]
        rw [this] at e; cases e
        exact ⟨q.2, valV_pos (by rw [← h3, c]), h5⟩
      · have : lookK (p :: kvs) k = lookK kvs k := by simp [lookK, List.find?_cons, c]
        rw [this] at e
        obtain ⟨v, a, b⟩ := ih e h4 h6
        exact ⟨v, by rw [valV_neg (by rw [← h3]; exact c)]; exact a, b⟩
end

/-! ### data, for == -/
section
variable {K : PySem.W.Frag} {W F : Hp} {μ : List Addr} {S : Sto} {H : Hp}
mutual
theorem pd_dp (st : Stt K W F μ S H) : ∀ (d : D) (v : V) (p : PyData), Rep K W μ d v → pd S d = some p → Dp K H v p
  | .non, _, _, h, e => by cases (show _ = V.non from h); cases e; exact .non
  | .bl b, _, _, h, e => by cases (show _ = V.bl b from h); cases e; exact .bl b
  | .int i, _, _, h, e => by cases (show _ = V.int i from h); cases e; exact .int i
  | .str s, _, _, h, e => by cases (show _ = V.str s from h); cases e; exact .str s
  | .tup ds, _, p, ⟨a, vs, e1, h, r⟩, e => by
    subst e1
    cases q : pds S ds with
    | none => simp [pd, q] at e
    | some ps =>
      have : p = .tuple ps := by simpa [pd, q] using e.symm
      subst this
      exact .tup (st.sqT h) (pds_dp st ds vs ps r q)
  | .lst ds, _, p, ⟨a, vs, e1, h, r⟩, e => by
    subst e1
    cases q : pds S ds with
    | none => simp [pd, q] at e
    | some ps =>
      have : p = .list ps := by simpa [pd, q] using e.symm
      subst this
      exact .lst (SqL.of (st.sub _ _ h)) (pds_dp st ds vs ps r q)
  | .flst ds, _, p, ⟨a, vs, e1, h, r⟩, e => by
    subst e1
    cases q : pds S ds with
    | none => simp [pd, q] at e
    | some ps =>
      have : p = .list ps := by simpa [pd, q] using e.symm
      subst this
      exact .lst (st.sqL h) (pds_dp st ds vs ps r q)
  | .ref r, _, _, _, e => by cases e
  | .ty n, _, _, _, e => by cases e
theorem pds_dp (st : Stt K W F μ S H) : ∀ (ds : List D) (vs : List V) (ps : List PyData), Reps K W μ ds vs → pds S ds = some ps → DpAll K H vs ps
  | [], _, _, h, e => by cases (show _ = [] from h); cases e; exact .nil
  | d :: ds, _, ps, ⟨v, r, e1, h1, h2⟩, e => by
    subst e1
    cases q : pd S d with
    | none => simp [pds, q] at e
    | some p =>
      cases q2 : pds S ds with
      | none => simp [pds, q, q2] at e
      | some ps' =>
        have : ps = p :: ps' := by simpa [pds, q, q2] using e.symm
        subst this
        exact .cons (pd_dp st d v p h1 q) (pds_dp st ds r ps' h2 q2)
end
theorem pdT_dp (st : Stt K W F μ S H) {d : D} {v : V} {p : PyData} (r : Rep K W μ d v) (e : pdT S d = some p) : Dp K H v p := by
  cases d with
  | ref i =>
    obtain ⟨a, h, rfl⟩ := r
    cases c : S[i]? with
    | none => simp only [pdT, c] at e; cases e
    | some cc =>
      simp only [pdT, c] at e
      cases cc with
      | lst ys =>
        obtain ⟨vs, h1, h2⟩ := st.lst h c
        cases q : pds S ys with
        | none => simp [q] at e
        | some ps =>
          have : p = .list ps := by simpa [q] using e.symm
          subst this
          exact .lst (SqL.of h1) (pds_dp st ys vs ps h2 q)
      | dk _ => cases e
  | _ => exact pd_dp st _ v p r e
end

section
variable {X : Cx}
theorem op_fdivA : OpR X (binaryOp .FloorDiv) (rI (fun _ j => divOk j) fun i j => .int (i.fdiv j)) := opI fun _ _ _ _ _ _ _ hc q => floordiv_int hc.1 q (.inl (PyProof.noPylong_of_log2 hc.2))
theorem op_subb : OpR X (binaryOp .Sub) (fun x y H Q => ∃ a b, x = .bl a ∧ y = .bl b ∧ Q (.int (b2i a - b2i b)) H) := by
  intro pins s σ H x y v u Q I rx ry h
  obtain ⟨a, b, rfl, rfl, q⟩ := h
  cases rx
  cases ry
  exact PyProof.Rows.sub_bool ⟨.int _, H, I.tok _, ⟨_, rfl⟩, q⟩
theorem Reps.rep {K : PySem.W.Frag} {W : Hp} {μ : List Addr} {ds : List D} {vs : List V} (h : Reps K W μ ds vs) : ∀ n : Nat, Reps K W μ (List.replicate n ds).flatten (List.replicate n vs).flatten
  | 0 => rfl
  | n + 1 => by
    rw [List.replicate_succ, List.replicate_succ, List.flatten_cons, List.flatten_cons]
    exact h.app (Reps.rep h n)
theorem op_bin (op : Operator) : OpR X (binaryOp op) (rBin X.K op) := by
  intro pins s σ H x y v u Q I rx ry h
  obtain ⟨W, F, μ, S, d, e, r, st, hd, he, hb, p⟩ := h
  unfold binD at hb
  split at hb
  · cases hb; cases (show x = _ from hd); cases (show y = _ from he)
    exact op_add pins s σ H _ _ v u Q I rx ry ⟨_, _, rfl, rfl, p.int st⟩
  · split at hb
    · rename_i c
      cases hb; cases (show x = _ from hd); cases (show y = _ from he)
      exact op_add_str pins s σ H _ _ v u Q I rx ry ⟨_, _, rfl, rfl, c, p.strv st⟩
    · cases hb
  · split at hb
    · rename_i c
      cases hb
      obtain ⟨a, vs, rfl, h1, r1⟩ := hd
      obtain ⟨b, us, rfl, h2, r2⟩ := he
      refine op_catA pins s σ H _ _ v u Q I rx ry ⟨a, b, vs, us, rfl, rfl, st.sqT h1, st.sqT h2, by rw [r1.length, r2.length]; exact c, fun e => ?_, fun _ e => ?_, fun _ _ => p.tup st (r1.app r2)⟩
      · subst e
        exact p.same st ⟨b, us, rfl, h2, by have := r1.app r2; simpa using this⟩
      · subst e
        exact p.same st ⟨a, vs, rfl, h1, by have := r1.app r2; simpa using this⟩
    · cases hb
  · split at hb
    · rename_i c
      cases hb
      obtain ⟨a, vs, rfl, h1, r1⟩ := hd
      obtain ⟨b, us, rfl, h2, r2⟩ := he
      exact op_cat pins s σ H _ _ v u Q I rx ry ⟨a, b, vs, us, rfl, rfl, st.sub _ _ h1, st.sub _ _ h2, by rw [r1.length, r2.length]; exact c, p.lst st (r1.app r2)⟩
    · cases hb
  · cases hb; cases (show x = _ from hd); cases (show y = _ from he)
    exact op_sub pins s σ H _ _ v u Q I rx ry ⟨_, _, rfl, rfl, p.int st⟩
  · cases hb; cases (show x = _ from hd); cases (show y = _ from he)
    exact op_subb pins s σ H _ _ v u Q I rx ry ⟨_, _, rfl, rfl, p.int st⟩
  · split at hb
    · rename_i c
      cases hb; cases (show x = _ from hd); cases (show y = _ from he)
      exact op_mulW pins s σ H _ _ v u Q I rx ry ⟨_, _, rfl, rfl, c, p.int st⟩
    · cases hb
  · split at hb
    · rename_i c
      cases hb; cases (show x = _ from hd); cases (show y = _ from he)
      exact op_fdivA pins s σ H _ _ v u Q I rx ry ⟨_, _, rfl, rfl, c, p.int st⟩
    · cases hb
  · split at hb
    · rename_i c
      cases hb; cases (show x = _ from hd); cases (show y = _ from he)
      exact op_modN pins s σ H _ _ v u Q I rx ry ⟨_, _, rfl, rfl, c, p.int st⟩
    · cases hb
  · split at hb
    · rename_i c
      cases hb; cases (show x = _ from hd); cases (show y = _ from he)
      exact op_pow pins s σ H _ _ v u Q I rx ry ⟨_, _, rfl, rfl, c, p.int st⟩
    · cases hb
  · split at hb
    · rename_i c
      cases hb; cases (show x = _ from hd); cases (show y = _ from he)
      exact op_shlW pins s σ H _ _ v u Q I rx ry ⟨_, _, rfl, rfl, c, p.int st⟩
    · cases hb
  · split at hb
    · rename_i c
      cases hb; cases (show x = _ from hd); cases (show y = _ from he)
      exact op_shr pins s σ H _ _ v u Q I rx ry ⟨_, _, rfl, rfl, c, p.int st⟩
    · cases hb
  · split at hb
    · rename_i c
      cases hb; cases (show y = _ from he)
      obtain ⟨a, vs, rfl, h1, r1⟩ := hd
      exact op_rep pins s σ H _ _ v u Q I rx ry ⟨a, _, vs, rfl, rfl, st.sub _ _ h1, c.1, c.2.1, by rw [r1.length]; exact c.2.2, p.lst st (r1.rep _)⟩
    · cases hb
  · cases hb
theorem scal_eq {K : PySem.W.Frag} {W F : Hp} {μ : List Addr} {S : Sto} {H : Hp} (st : Stt K W F μ S H) {d e : D} {x y : V} {b : Bool} (hd : Rep K W μ d x) (he : Rep K W μ e y) (h : eqD S d e = some b) :
    (scal x y = true ∧ b = decide (x = y)) ∨ ∃ p q, Dp K H x p ∧ Dp K H y q ∧ SeqAt.shaped p = true ∧ SeqAt.shaped q = true ∧ b = PyData.eqv p q := by
  unfold eqD at h
  split at h
  · cases h; cases (show x = _ from hd); cases (show y = _ from he); exact .inl ⟨rfl, by simp⟩
  · cases h; cases (show x = _ from hd); cases (show y = _ from he); exact .inl ⟨rfl, by simp⟩
  · cases h; cases (show x = _ from hd); cases (show y = _ from he); exact .inl ⟨rfl, by simp⟩
  · cases h; cases (show x = _ from hd); cases (show y = _ from he); exact .inl ⟨rfl, by simp⟩
  · cases h; cases (show x = _ from hd); cases (show y = _ from he); exact .inl ⟨rfl, by simp⟩
  · cases h; cases (show x = _ from hd); cases (show y = _ from he); exact .inl ⟨rfl, by simp⟩
  · cases h; cases (show x = _ from hd); cases (show y = _ from he); exact .inl ⟨rfl, by simp⟩
  · cases h; cases (show x = _ from hd); cases (show y = _ from he); exact .inl ⟨rfl, by simp⟩
  · cases h; cases (show x = _ from hd); cases (show y = _ from he); exact .inl ⟨rfl, by simp⟩
  · cases h; cases (show x = _ from hd); cases (show y = _ from he); exact .inl ⟨rfl, by simp⟩
  · split at h
    · rename_i p q hp hq
      split at h
      · rename_i c
        cases h
        exact .inr ⟨p, q, pdT_dp st hd hp, pdT_dp st he hq, c.1, c.2, rfl⟩
      · cases h
    · cases h
theorem isNone_rep {K : PySem.W.Frag} {W : Hp} {μ : List Addr} {d : D} {x : V} (h : Rep K W μ d x) : isNone d = decide (x = .non) := by
  cases d with
  | non => cases (show x = _ from h); rfl
  | bl b => cases (show x = _ from h); rfl
  | int b => cases (show x = _ from h); rfl
  | str b => cases (show x = _ from h); rfl
  | ty b => cases (show x = _ from h); rfl
  | tup b => obtain ⟨_, _, rfl, _⟩ := h; rfl
  | lst b => obtain ⟨_, _, rfl, _⟩ := h; rfl
  | flst b => obtain ⟨_, _, rfl, _⟩ := h; rfl
  | ref b => obtain ⟨_, _, rfl⟩ := h; rfl
theorem op_inT (hu : X.A.units + 65 < cLine) : OpR X (compareOp .In) (fun x y H Q => ∃ d ds, Dp X.K H x d ∧ Dp X.K H y (.tuple ds) ∧ SeqAt.shaped d = true ∧ SeqAt.shaped (.tuple ds) = true ∧ Q (.bl (ds.any fun z => PyData.eqv z d)) H) := by
  intro pins s σ H x y v u Q I rx ry h
  obtain ⟨d, ds, hd, he, sd, se, q⟩ := h
  obtain ⟨as, r1⟩ := Dp.reads I d x v hd rx
  obtain ⟨bs, r2⟩ := Dp.reads I (.tuple ds) y u he ry
  exact SeqAt.in_tuple_reads r2 r1 (SeqAt.canLay_of_shaped se) (SeqAt.canLay_of_shaped sd) (room_in_shaped sd hu) ⟨.bl _, H, I, rfl, q⟩
theorem op_notInT (hu : X.A.units + 65 < cLine) : OpR X (compareOp .NotIn) (fun x y H Q => ∃ d ds, Dp X.K H x d ∧ Dp X.K H y (.tuple ds) ∧ SeqAt.shaped d = true ∧ SeqAt.shaped (.tuple ds) = true ∧ Q (.bl (!ds.any fun z => PyData.eqv z d)) H) := by
  intro pins s σ H x y v u Q I rx ry h
  obtain ⟨d, ds, hd, he, sd, se, q⟩ := h
  obtain ⟨as, r1⟩ := Dp.reads I d x v hd rx
  obtain ⟨bs, r2⟩ := Dp.reads I (.tuple ds) y u he ry
  exact SeqAt.notIn_tuple_reads r2 r1 (SeqAt.canLay_of_shaped se) (SeqAt.canLay_of_shaped sd) (room_in_shaped sd hu) ⟨.bl _, H, I, rfl, q⟩
theorem inD_dp {K : PySem.W.Frag} {W F : Hp} {μ : List Addr} {S : Sto} {H : Hp} (st : Stt K W F μ S H) {d e : D} {x y : V} {b : Bool} (hd : Rep K W μ d x) (he : Rep K W μ e y) (h : inD S d e = some b) :
    ∃ p qs, Dp K H x p ∧ (Dp K H y (.tuple qs) ∧ SeqAt.shaped (.tuple qs) = true ∨ Dp K H y (.list qs) ∧ SeqAt.shaped (.list qs) = true) ∧ SeqAt.shaped p = true ∧ b = qs.any fun z => PyData.eqv z p := by
  unfold inD at h
  split at h
  · rename_i p qs hp hq
    split at h
    · rename_i c
      cases h
      exact ⟨p, qs, pdT_dp st hd hp, .inl ⟨pdT_dp st he hq, c.2⟩, c.1, rfl⟩
    · cases h
  · rename_i p qs hp hq
    split at h
    · rename_i c
      cases h
      exact ⟨p, qs, pdT_dp st hd hp, .inr ⟨pdT_dp st he hq, c.2⟩, c.1, rfl⟩
    · cases h
  · cases h
theorem op_cmp (hu : X.A.units + 65 < cLine) (op : CmpOp) : OpR X (compareOp op) (rCmp X.K op) := by
  intro pins s σ H x y v u Q I rx ry h
  obtain ⟨W, F, μ, S, d, e, b, st, hd, he, hb, p⟩ := h
  have p := p.now st
  cases op with
  | Eq =>
    rcases scal_eq st hd he hb with ⟨h1, rfl⟩ | ⟨pp, q, h1, h2, h3, h4, rfl⟩
    · exact op_eq pins s σ H _ _ v u Q I rx ry ⟨h1, p⟩
    · exact op_eqD (by omega) pins s σ H _ _ v u Q I rx ry ⟨pp, q, h1, h2, h3, h4, p⟩
  | NotEq =>
    have hb : (eqD S d e).map (!·) = some b := hb
    cases q : eqD S d e with
    | none => rw [q] at hb; cases hb
    | some c =>
      rw [q] at hb
      cases hb
      rcases scal_eq st hd he q with ⟨h1, rfl⟩ | ⟨pp, q', h1, h2, h3, h4, rfl⟩
      · exact op_ne pins s σ H _ _ v u Q I rx ry ⟨h1, p⟩
      · exact op_neD (by omega) pins s σ H _ _ v u Q I rx ry ⟨pp, q', h1, h2, h3, h4, p⟩
  | Lt =>
    simp only [cmpD] at hb
    split at hb
    · cases hb; cases (show x = _ from hd); cases (show y = _ from he)
      exact op_lt pins s σ H _ _ v u Q I rx ry ⟨_, _, rfl, rfl, p⟩
    · cases hb
  | LtE =>
    simp only [cmpD] at hb
    split at hb
    · cases hb; cases (show x = _ from hd); cases (show y = _ from he)
      exact op_le pins s σ H _ _ v u Q I rx ry ⟨_, _, rfl, rfl, p⟩
    · cases hb
  | Gt =>
    simp only [cmpD] at hb
    split at hb
    · cases hb; cases (show x = _ from hd); cases (show y = _ from he)
      exact op_gt pins s σ H _ _ v u Q I rx ry ⟨_, _, rfl, rfl, p⟩
    · cases hb
  | GtE =>
    simp only [cmpD] at hb
    split at hb
    · cases hb; cases (show x = _ from hd); cases (show y = _ from he)
      exact op_ge pins s σ H _ _ v u Q I rx ry ⟨_, _, rfl, rfl, p⟩
    · cases hb
  | Is =>
    simp only [cmpD] at hb
    split at hb
    · cases hb; cases (show y = _ from he)
      rw [isNone_rep hd] at p
      exact op_isN pins s σ H _ _ v u Q I rx ry ⟨rfl, p⟩
    · cases hb
  | IsNot =>
    simp only [cmpD] at hb
    split at hb
    · cases hb; cases (show y = _ from he)
      rw [isNone_rep hd] at p
      exact op_notN pins s σ H _ _ v u Q I rx ry ⟨rfl, p⟩
    · cases hb
  | In =>
    obtain ⟨pp, qs, h1, h2, h3, rfl⟩ := inD_dp st hd he hb
    rcases h2 with ⟨h2, h4⟩ | ⟨h2, h4⟩
    · exact op_inT hu pins s σ H _ _ v u Q I rx ry ⟨pp, qs, h1, h2, h3, h4, p⟩
    · exact op_inD hu pins s σ H _ _ v u Q I rx ry ⟨pp, qs, h1, h2, h3, h4, p⟩
  | NotIn =>
    have hb : (inD S d e).map (!·) = some b := hb
    cases q : inD S d e with
    | none => rw [q] at hb; cases hb
    | some c =>
      rw [q] at hb
      cases hb
      obtain ⟨pp, qs, h1, h2, h3, rfl⟩ := inD_dp st hd he q
      rcases h2 with ⟨h2, h4⟩ | ⟨h2, h4⟩
      · exact op_notInT hu pins s σ H _ _ v u Q I rx ry ⟨pp, qs, h1, h2, h3, h4, p⟩
      · exact op_notInD hu pins s σ H _ _ v u Q I rx ry ⟨pp, qs, h1, h2, h3, h4, p⟩
/-- truth -/
theorem tru_rep {K : PySem.W.Frag} {W F : Hp} {μ : List Addr} {S : Sto} {H : Hp} (st : Stt K W F μ S H) {d : D} {x : V} {b : Bool} (hd : Rep K W μ d x) (h : truD S d = some b) : TruV K x H b := by
  cases d with
  | non => cases h; cases (show x = _ from hd); rfl
  | bl c => cases h; cases (show x = _ from hd); rfl
  | int c => cases h; cases (show x = _ from hd); rfl
  | str c =>
    cases (show x = _ from hd)
    simp only [truD] at h
    split at h
    · rename_i q; cases h; exact ⟨q, rfl⟩
    · cases h
  | ty c => cases h
  | tup ds =>
    cases h
    obtain ⟨a, vs, rfl, h1, r⟩ := hd
    exact .inr (.inl ⟨vs, st.sqT h1, by rw [r.isEmpty]⟩)
  | lst ds =>
    cases h
    obtain ⟨a, vs, rfl, h1, r⟩ := hd
    exact .inl ⟨vs, SqL.of (st.sub _ _ h1), by rw [r.isEmpty]⟩
  | flst ds =>
    cases h
    obtain ⟨a, vs, rfl, h1, r⟩ := hd
    exact .inl ⟨vs, st.sqL h1, by rw [r.isEmpty]⟩
  | ref i =>
    obtain ⟨a, hr, rfl⟩ := hd
    cases c : S[i]? with
    | none => simp only [truD, c] at h; cases h
    | some cc =>
      simp only [truD, c] at h
      cases cc with
      | lst ys =>
        cases h
        obtain ⟨vs, h1, h2⟩ := st.lst hr c
        exact .inl ⟨vs, SqL.of h1, by rw [h2.isEmpty]⟩
      | dk kvs =>
        cases h
        obtain ⟨ws, h1, h2⟩ := st.dk hr c
        refine .inr (.inr ⟨ws, h1, ?_⟩)
        have := congrArg List.length h2.1
        cases kvs <;> cases ws <;> simp_all
/-- an item -/
def rIdx (K : PySem.W.Frag) : R2 := fun x y H Q => ∃ W F μ S d e r, Stt K W F μ S H ∧ Rep K W μ d x ∧ Rep K W μ e y ∧ idxD S d e = some r ∧ Post K W F μ S r Q
theorem key_rep {K : PySem.W.Frag} {W : Hp} {μ : List Addr} {d : D} {x : V} {k : Key} (h : Rep K W μ d x) (e : keyD d = some k) : x = kV k := by
  cases d with
  | int i => cases e; exact h
  | str s => cases e; exact h
  | _ => cases e
theorem ix_dict (hu : X.A.units + 1 < cLine) : IxR X (fun x y H Q => ∃ a v, x = .ref a ∧ DGet H a y (some v) ∧ Q v H) := by
  intro value slice pins s σ H x y v u Q I rx ry h hs
  obtain ⟨a, z, rfl, g, q⟩ := h
  obtain rfl : v = Value.ref a := rx
  exact tail_any (dict_typeIs I g) PySem.F.slot_dict_getitem.lookup (d_getItem hu I g ry fun w' s3 I3 rw' => ⟨z, H, I3, rw', q⟩) hs
theorem ix_any (hu : X.A.units + 1 < cLine) : IxR X (rIdx X.K) := by
  intro value slice pins s σ H x y v u Q I rx ry h hs
  obtain ⟨W, F, μ, S, d, e, r, st, hd, he, hb, p⟩ := h
  unfold idxD at hb
  split at hb
  · cases (show y = _ from he)
    obtain ⟨a, vs, rfl, h1, r1⟩ := hd
    obtain ⟨z, h2, h3⟩ := atI_rep r1 hb
    exact ix_tup value slice pins s σ H _ _ v u Q I rx ry ⟨a, vs, _, z, rfl, rfl, st.sqT h1, h2, p.same st h3⟩ hs
  · cases (show y = _ from he)
    obtain ⟨a, vs, rfl, h1, r1⟩ := hd
    obtain ⟨z, h2, h3⟩ := atI_rep r1 hb
    exact ix_list value slice pins s σ H _ _ v u Q I rx ry ⟨a, vs, _, z, rfl, rfl, SqL.of (st.sub _ _ h1), h2, p.same st h3⟩ hs
  · cases (show y = _ from he)
    obtain ⟨a, vs, rfl, h1, r1⟩ := hd
    obtain ⟨z, h2, h3⟩ := atI_rep r1 hb
    exact ix_list value slice pins s σ H _ _ v u Q I rx ry ⟨a, vs, _, z, rfl, rfl, st.sqL h1, h2, p.same st h3⟩ hs
  · cases (show y = _ from he); cases (show x = _ from hd)
    split at hb
    · rename_i z k hz
      cases q : atI z.cps.toList k with
      | none => rw [q] at hb; cases hb
      | some c =>
        rw [q] at hb
        cases hb
        exact ix_str value slice pins s σ H _ _ v u Q I rx ry ⟨z, k, c, rfl, rfl, hz, q, p.strv st⟩ hs
    · cases hb
  · rename_i i
    obtain ⟨a, hr, rfl⟩ := hd
    cases c : S[i]? with
    | none => rw [c] at hb; cases hb
    | some cc =>
      rw [c] at hb
      cases cc with
      | lst ys =>
        obtain ⟨vs, h1, h2⟩ := st.lst hr c
        simp only at hb
        split at hb
        · cases (show y = _ from he)
          obtain ⟨z, h3, h4⟩ := atI_rep h2 hb
          exact ix_list value slice pins s σ H _ _ v u Q I rx ry ⟨a, vs, _, z, rfl, rfl, SqL.of h1, h3, p.same st h4⟩ hs
        · cases hb
      | dk kvs =>
        obtain ⟨ws, h1, h2⟩ := st.dk hr c
        simp only at hb
        cases q : keyD e with
        | none => rw [q] at hb; cases hb
        | some k =>
          rw [q] at hb
          have hb : lookK kvs k = some r := hb
          obtain ⟨z, h3, h4⟩ := h2.look hb
          have hy := key_rep he q
          subst hy
          exact ix_dict hu value slice pins s σ H _ _ v u Q I rx ry ⟨a, z, rfl, by rw [← h3]; exact DGet.k h1, p.same st h4⟩ hs
  · cases hb
/-- a slice -/
theorem sl_any : SlR X (fun x lo hi H Q => ∃ W F μ S d r, Stt X.K W F μ S H ∧ Rep X.K W μ d x ∧ slD S d lo hi = some r ∧ Post X.K W F μ S r Q) := by
  intro pins s σ H x v vl vu lo hi sl Q I rx hs pl pu h
  obtain ⟨W, F, μ, S, d, r, st, hd, hb, p⟩ := h
  have viaL : ∀ xs, lstOf S d = some xs → r = .lst (cutD xs lo hi) → ∃ T id, typeLookup (.type T) "__getitem__" = pure (some (.builtin id)) ∧ s.TypeIs v T ∧ wpAny (model X.prog X.w) X.A (getItem v (.ref sl)) (EP X pins σ Q) X.xe s := fun xs e e2 => by
    obtain ⟨a, vs, rfl, h1, h2⟩ := lst_of st hd e
    subst e2
    exact sl_list pins s σ H _ v vl vu lo hi sl Q I rx hs pl pu ⟨a, vs, rfl, h1, p.lst st (h2.cut lo hi)⟩
  unfold slD at hb
  split at hb
  · cases hb
    obtain ⟨a, vs, rfl, h1, r1⟩ := hd
    refine sl_tupA pins s σ H _ v vl vu lo hi sl Q I rx hs pl pu ⟨a, vs, rfl, st.sqT h1, fun ⟨e1, e2⟩ => ?_, fun _ => p.tup st (r1.cut lo hi)⟩
    refine p.same st ⟨a, vs, rfl, h1, ?_⟩
    have := r1.cut lo hi
    have e3 : cutV vs lo hi = vs := by
      unfold cutV
      rw [e1, e2]
      simp
    rw [e3] at this
    exact this
  · cases (show x = _ from hd)
    split at hb
    · rename_i z hz
      cases hb
      exact sl_str pins s σ H _ v vl vu lo hi sl Q I rx hs pl pu ⟨z, rfl, hz, p.strv st⟩
    · cases hb
  · cases q : lstOf S d with
    | none => rw [q] at hb; cases hb
    | some xs =>
      rw [q] at hb
      cases hb
      exact viaL xs q rfl
end
end Rw

/-! M4: the text by slots, and what it does -/
namespace Rw
open PySem L2

mutual
inductive MG where
  | name (i : Nat) | tup (ts : MGs)
inductive MGs where
  | nil | cons (t : MG) (ts : MGs)
end
/-- methods of built-in types -/
inductive MT where
  | append | pop | extend
mutual
inductive ME where
  | var (i : Nat) | int (i : Int) | str (s : Str) | bl (b : Bool) | non
  | con (g : Nat)
  | bin (op : Operator) (a b : ME) | neg (a : ME) | cmp (op : CmpOp) (a b : ME) | ch (op op' : CmpOp) (a b c : ME)
  | and (a b : ME) | or (a b : ME) | one (a : ME) | not (a : ME)
  | ifE (c a b : ME)
  | tup (es : MEs) | lst (es : MEs) | mlst (es : MEs)
  | dict (ps : MPs)
  | idx (a i : ME) | sl (a : ME) (lo hi : MO)
  | call (g : Nat) (es : MEs)
  | bi (b : BI) (g : Nat) (es : MEs)
  | isI (g h : Nat) (n : String) (a : ME)
  | meth (m : MT) (o : ME) (es : MEs)
  | lc (mu : Bool) (vs : List Nat) (elt : ME) (tg : MG) (it : MI) (cs : MO)
  | lc2 (mu : Bool) (vs : List Nat) (elt : ME) (tg : MG) (it : MI) (cs : MO) (vs1 : List Nat) (tg1 : MG) (it1 : MI) (cs1 : MO)
inductive MEs where
  | nil | cons (e : ME) (es : MEs)
inductive MO where
  | none | some (e : ME)
inductive MPs where
  | nil | cons (k v : ME) (ps : MPs)
inductive MI where
  | seq (e : ME) | rng (g : Nat) (es : MEs)
end
mutual
inductive MS where
  | asg (tg : MG) (e : ME)
  | par2 (i j : Nat) (a b : ME)
  | par3 (i j l : Nat) (a b c : ME)
  | aug (i : Nat) (op : Operator) (e : ME)
  | setI (o i e : ME)
  | augI (o i : ME) (op : Operator) (e : ME)
  | ifS (c : ME) (a b : MSs)
  | whl (c : ME) (b : MSs)
  | forS (tg : MG) (it : MI) (b : MSs)
  | ret (e : ME) | retN | ex (e : ME) | pass | brk | nev
inductive MSs where
  | nil | cons (s : MS) (ss : MSs)
end
structure Fn where
  np : Nat
  nl : Nat
  body : MSs
inductive GK where
  | fn (f : Fn) | blt | con (d : D)
abbrev GT := List (Str × GK)

/-! ### what it does -/
def bnd {α β : Type} (x : Rs α) (f : α → Sto → Rs β) : Rs β := match x with
  | some (a, S) => f a S
  | none => none
def lft {α β : Type} (x : Option α) (f : α → Rs β) : Rs β := match x with
  | some a => f a
  | none => none
theorem bnd_some {α β : Type} (a : α) (S : Sto) (f : α → Sto → Rs β) : bnd (some (a, S)) f = f a S := rfl
theorem bnd_none {α β : Type} (f : α → Sto → Rs β) : bnd none f = none := rfl
theorem lft_some {α β : Type} (a : α) (f : α → Rs β) : lft (some a) f = f a := rfl
theorem lft_none {α β : Type} (f : α → Rs β) : lft none f = none := rfl
theorem bnd_inv {α β : Type} {x : Rs α} {f : α → Sto → Rs β} {r : β × Sto} (h : bnd x f = some r) : ∃ a S, x = some (a, S) ∧ f a S = some r := by
  cases x with
  | none => cases h
  | some p => exact ⟨p.1, p.2, rfl, h⟩
theorem lft_inv {α β : Type} {x : Option α} {f : α → Rs β} {r : β × Sto} (h : lft x f = some r) : ∃ a, x = some a ∧ f a = some r := by
  cases x with
  | none => cases h
  | some p => exact ⟨p, rfl, h⟩

def conOf (G : GT) (g : Nat) : Option D := match G[g]? with
  | some (_, .con d) => some d
  | _ => none
mutual
/-- to a name, to names -/
def asgG : MG → D → Env → Option Env
  | .name i, d, ρ => if i < ρ.length then some (ρ.set i (some d)) else none
  | .tup ts, d, ρ => match d with
    | .tup xs => asgGs ts xs ρ
    | .lst xs => asgGs ts xs ρ
    | _ => none
def asgGs : MGs → List D → Env → Option Env
  | .nil, [], ρ => some ρ
  | .cons t ts, x :: xs, ρ => (asgG t x ρ).bind fun ρ1 => asgGs ts xs ρ1
  | _, _, _ => none
end
/-- the items walked, and the cell that they stand in -/
def itemsOf (S : Sto) : D → Option (List D × Option Nat)
  | .tup xs => some (xs, none)
  | .lst xs => some (xs, none)
  | .flst xs => some (xs, none)
  | .ref r => match S[r]? with
    | some (.lst xs) => some (xs, some r)
    | _ => none
  | _ => none
def rngD : List D → Option (List D)
  | [.int b] => if -(2 ^ 62) ≤ b ∧ b < 2 ^ 62 then some ((List.range b.toNat).map fun (i : Nat) => D.int (0 + (i : Int))) else none
  | [.int a, .int b] => if -(2 ^ 62) ≤ a ∧ a < 2 ^ 62 ∧ -(2 ^ 62) ≤ b ∧ b < 2 ^ 62 then some ((List.range (b - a).toNat).map fun (i : Nat) => D.int (a + (i : Int))) else none
  | _ => none
/-- the cell walked still holds these items -/
def okS (o : Option Nat) (xs : List D) (S : Sto) : Prop := match o with
  | none => True
  | some r => S[r]? = some (.lst xs)
open Classical in
noncomputable def compL (o : Option Nat) (all : List D) (turn : D → Sto → Rs (Option D)) : List D → Sto → List D → Rs (List D)
  | [], S, acc => if okS o all S then some (acc, S) else none
  | x :: xs, S, acc => if okS o all S then bnd (turn x S) fun r S1 => compL o all turn xs S1 (match r with
    | some y => acc ++ [y]
    | none => acc) else none
open Classical in
/-- the outer loop of a comprehension of two clauses -/
noncomputable def compA (o : Option Nat) (all : List D) (turn : D → Sto → List D → Rs (List D)) : List D → Sto → List D → Rs (List D)
  | [], S, acc => if okS o all S then some (acc, S) else none
  | x :: xs, S, acc => if okS o all S then bnd (turn x S acc) fun acc1 S1 => compA o all turn xs S1 acc1 else none
open Classical in
noncomputable def forL (o : Option Nat) (all : List D) (body : D → Env → Sto → Rs Fl) : List D → Env → Sto → Rs Fl
  | [], ρ, S => if okS o all S then some (.nx ρ, S) else none
  | x :: xs, ρ, S => if okS o all S then bnd (body x ρ S) fun fl S1 => match fl with
    | .nx ρ1 => forL o all body xs ρ1 S1
    | .bk ρ1 => some (.nx ρ1, S1)
    | .rt d => some (.rt d, S1) else none
def whF (c : Env → Sto → Rs Bool) (b : Env → Sto → Rs Fl) : Nat → Env → Sto → Rs Fl
  | 0, _, _ => none
  | n + 1, ρ, S => bnd (c ρ S) fun t S1 => if t = true then bnd (b ρ S1) fun fl S2 => match fl with
    | .nx ρ2 => whF c b n ρ2 S2
    | .bk ρ2 => some (.nx ρ2, S2)
    | .rt d => some (.rt d, S2) else some (.nx ρ, S1)
open Classical in
noncomputable def whE (c : Env → Sto → Rs Bool) (b : Env → Sto → Rs Fl) (ρ : Env) (S : Sto) : Rs Fl :=
  if h : ∃ n r, whF c b n ρ S = some r then whF c b h.choose ρ S else none
/-- the comprehension's own names forgotten -/
def wipeE (ρ : Env) : List Nat → Env
  | [] => ρ
  | v :: vs => (wipeE ρ vs).set v none
def methD (m : MT) (S : Sto) (d : D) (ds : List D) : Rs D := match m, d, ds with
  | .append, .ref r, [x] => match S[r]? with
    | some (.lst xs) => if xs.length < sizeLine then some (.non, S.set r (.lst (xs ++ [x]))) else none
    | _ => none
  | .pop, .ref r, [] => match S[r]? with
    | some (.lst xs) => match xs[xs.length - 1]? with
      | some x => some (x, S.set r (.lst xs.dropLast))
      | none => none
    | _ => none
  | .extend, .ref r, [.lst ys] => match S[r]? with
    | some (.lst xs) => if xs.length + ys.length ≤ sizeLine then some (.non, S.set r (.lst (xs ++ ys))) else none
    | _ => none
  | _, _, _ => none
def putI (S : Sto) (o i v : D) : Option Sto := match o with
  | .ref r => match S[r]? with
    | some (.lst xs) => match i with
      | .int k => (ixN xs.length k).map fun j => S.set r (.lst (xs.set j v))
      | _ => none
    | some (.dk kvs) => (keyD i).bind fun k => if kvs.length < sizeLine then some (S.set r (.dk (storeK kvs k v))) else none
    | none => none
  | _ => none
instance (a b : Int) : Decidable (CMul a b) := inferInstanceAs (Decidable (_ ∨ _))
def augGet (S : Sto) (d k : D) : Option D := match d with
  | .ref r => match S[r]? with
    | some (.dk kvs) => (keyD k).bind fun q => lookK kvs q
    | _ => none
  | _ => none
def augD (op : Operator) (d e : D) : Option D := match op, d, e with
  | .Add, .int a, .int b => some (.int (a + b))
  | .Sub, .int a, .int b => some (.int (a - b))
  | .Mult, .int a, .int b => if CMul a b then some (.int (a * b)) else none
  | .Add, .str a, .str b => if a.length + b.length ≤ sizeLine then some (.str (a ++ b)) else none
  | _, _, _ => none
def mergeKD (kvs more : List (Key × D)) : List (Key × D) := more.foldl (fun acc kv => storeK acc kv.1 kv.2) kvs
/-- the pairs of a display -/
def keysD : List (D × D) → Option (List (Key × D))
  | [] => some []
  | (k, v) :: r => match keyD k, keysD r with
    | some q, some s => some ((q, v) :: s)
    | _, _ => none

section
variable (G : GT) (cl : Nat → List D → Sto → Rs D)
mutual
noncomputable def evE : ME → Env → Sto → Rs D
  | .var i, ρ, S => match ρ[i]? with
    | some (some d) => some (d, S)
    | _ => none
  | .int i, _, S => some (.int i, S)
  | .str s, _, S => some (.str s, S)
  | .bl b, _, S => some (.bl b, S)
  | .non, _, S => some (.non, S)
  | .con g, _, S => lft (conOf G g) fun d => some (d, S)
  | .bin op a b, ρ, S => bnd (evE a ρ S) fun d S1 => bnd (evE b ρ S1) fun e S2 => lft (binD op d e) fun r => some (r, S2)
  | .neg a, ρ, S => bnd (evE a ρ S) fun d S1 => match d with
    | .int i => some (.int (-i), S1)
    | _ => none
  | .cmp op a b, ρ, S => bnd (evE a ρ S) fun d S1 => bnd (evE b ρ S1) fun e S2 => lft (cmpD S2 op d e) fun r => some (.bl r, S2)
  | .ch op op' a b c, ρ, S => bnd (evE a ρ S) fun d S1 => bnd (evE b ρ S1) fun e S2 => lft (cmpD S2 op d e) fun r => if r = true then bnd (evE c ρ S2) fun f S3 => lft (cmpD S3 op' e f) fun q => some (.bl q, S3) else some (.bl false, S2)
  | .and a b, ρ, S => bnd (evE a ρ S) fun d S1 => lft (truD S1 d) fun t => if t = true then evE b ρ S1 else some (d, S1)
  | .or a b, ρ, S => bnd (evE a ρ S) fun d S1 => lft (truD S1 d) fun t => if t = true then some (d, S1) else evE b ρ S1
  | .one a, ρ, S => evE a ρ S
  | .not a, ρ, S => bnd (evE a ρ S) fun d S1 => lft (truD S1 d) fun t => some (.bl (!t), S1)
  | .ifE c a b, ρ, S => bnd (evE c ρ S) fun d S1 => lft (truD S1 d) fun t => if t = true then evE a ρ S1 else evE b ρ S1
  | .tup es, ρ, S => bnd (evEs es ρ S) fun ds S1 => if ds.length ≤ sizeLine then some (.tup ds, S1) else none
  | .lst es, ρ, S => bnd (evEs es ρ S) fun ds S1 => if ds.length ≤ sizeLine then some (.lst ds, S1) else none
  | .mlst es, ρ, S => bnd (evEs es ρ S) fun ds S1 => if ds.length ≤ sizeLine then some (.ref S1.length, S1 ++ [.lst ds]) else none
  | .dict ps, ρ, S => bnd (evPs ps ρ S) fun ps S1 => lft (keysD ps) fun kvs => if kvs.length ≤ 15 then some (.ref S1.length, S1 ++ [.dk (mergeKD [] kvs)]) else none
  | .idx a i, ρ, S => bnd (evE a ρ S) fun d S1 => bnd (evE i ρ S1) fun e S2 => lft (idxD S2 d e) fun r => some (r, S2)
  | .sl a lo hi, ρ, S => bnd (evE a ρ S) fun d S1 => bnd (evO lo ρ S1) fun l S2 => bnd (evO hi ρ S2) fun h S3 => lft (slD S3 d l h) fun r => some (r, S3)
  | .call g es, ρ, S => bnd (evEs es ρ S) fun ds S1 => cl g ds S1
  | .bi b _ es, ρ, S => bnd (evEs es ρ S) fun ds S1 => lft (biD S1 b ds) fun r => some (r, S1)
  | .isI _ _ n a, ρ, S => bnd (evE a ρ S) fun d S1 => lft (tyName S1 d) fun t => lft (kitB t n) fun b => some (.bl b, S1)
  | .meth m o es, ρ, S => bnd (evE o ρ S) fun d S1 => lft (lstOf S1 d) fun _ => bnd (evEs es ρ S1) fun ds S2 => methD m S2 d ds
  | .lc mu vs elt tg it cs, ρ, S => bnd (evI it ρ S) fun w S1 => if w.1.length ≤ sizeLine then
      bnd (compL w.2 w.1 (fun x S2 => lft (asgG tg x (wipeE ρ vs)) fun ρ1 => bnd (evC cs ρ1 S2) fun t S3 => if t = true then bnd (evE elt ρ1 S3) fun y S4 => some (some y, S4) else some (none, S3)) w.1 S1 [])
        fun acc S5 => if mu = true then some (.ref S5.length, S5 ++ [.lst acc]) else some (.lst acc, S5) else none
  | .lc2 mu vs elt tg it cs vs1 tg1 it1 cs1, ρ, S => bnd (evI it ρ S) fun w S1 => bnd (compA w.2 w.1 (fun x S2 acc => lft (asgG tg x (wipeE ρ vs)) fun ρ1 => bnd (evC cs ρ1 S2) fun t S3 => if t = true then
      bnd (evI it1 ρ1 S3) fun w1 S4 => if acc.length + w1.1.length ≤ sizeLine then compL w1.2 w1.1 (fun y S5 => lft (asgG tg1 y (wipeE ρ1 vs1)) fun ρ2 => bnd (evC cs1 ρ2 S5) fun t1 S6 => if t1 = true then bnd (evE elt ρ2 S6) fun z S7 => some (some z, S7) else some (none, S6)) w1.1 S4 acc else none
      else some (acc, S3)) w.1 S1 []) fun acc S8 => if mu = true then some (.ref S8.length, S8 ++ [.lst acc]) else some (.lst acc, S8)
noncomputable def evEs : MEs → Env → Sto → Rs (List D)
  | .nil, _, S => some ([], S)
  | .cons e es, ρ, S => bnd (evE e ρ S) fun d S1 => bnd (evEs es ρ S1) fun ds S2 => some (d :: ds, S2)
noncomputable def evO : MO → Env → Sto → Rs (Option Int)
  | .none, _, S => some (none, S)
  | .some e, ρ, S => bnd (evE e ρ S) fun d S1 => match d with
    | .int i => some (some i, S1)
    | _ => none
/-- a comprehension's test -/
noncomputable def evC : MO → Env → Sto → Rs Bool
  | .none, _, S => some (true, S)
  | .some e, ρ, S => bnd (evE e ρ S) fun d S1 => lft (truD S1 d) fun t => some (t, S1)
noncomputable def evPs : MPs → Env → Sto → Rs (List (D × D))
  | .nil, _, S => some ([], S)
  | .cons k v ps, ρ, S => bnd (evE k ρ S) fun a S1 => bnd (evE v ρ S1) fun b S2 => bnd (evPs ps ρ S2) fun r S3 => some ((a, b) :: r, S3)
noncomputable def evI : MI → Env → Sto → Rs (List D × Option Nat)
  | .seq e, ρ, S => bnd (evE e ρ S) fun d S1 => lft (itemsOf S1 d) fun w => some (w, S1)
  | .rng _ es, ρ, S => bnd (evEs es ρ S) fun ds S1 => lft (rngD ds) fun xs => some ((xs, none), S1)
end
noncomputable def evT (e : ME) (ρ : Env) (S : Sto) : Rs Bool := bnd (evE G cl e ρ S) fun d S1 => lft (truD S1 d) fun t => some (t, S1)
mutual
noncomputable def evS : MS → Env → Sto → Rs Fl
  | .asg tg e, ρ, S => bnd (evE G cl e ρ S) fun d S1 => lft (asgG tg d ρ) fun ρ1 => some (.nx ρ1, S1)
  | .par2 i j a b, ρ, S => bnd (evE G cl a ρ S) fun d S1 => bnd (evE G cl b ρ S1) fun e S2 => some (.nx ((ρ.set i (some d)).set j (some e)), S2)
  | .par3 i j l a b c, ρ, S => bnd (evE G cl a ρ S) fun d S1 => bnd (evE G cl b ρ S1) fun e S2 => bnd (evE G cl c ρ S2) fun f S3 => some (.nx (((ρ.set i (some d)).set j (some e)).set l (some f)), S3)
  | .aug i op e, ρ, S => match ρ[i]? with
    | some (some d) => bnd (evE G cl e ρ S) fun y S1 => lft (augD op d y) fun r => some (.nx (ρ.set i (some r)), S1)
    | _ => none
  | .setI o i e, ρ, S => bnd (evE G cl e ρ S) fun v S1 => bnd (evE G cl o ρ S1) fun d S2 => bnd (evE G cl i ρ S2) fun k S3 => lft (putI S3 d k v) fun S4 => some (.nx ρ, S4)
  | .augI o i op e, ρ, S => bnd (evE G cl o ρ S) fun d S1 => bnd (evE G cl i ρ S1) fun k S2 => lft (augGet S2 d k) fun x => bnd (evE G cl e ρ S2) fun y S3 => lft (augD op x y) fun r => lft (putI S3 d k r) fun S4 => some (.nx ρ, S4)
  | .ifS c a b, ρ, S => bnd (evT G cl c ρ S) fun t S1 => if t = true then evSs a ρ S1 else evSs b ρ S1
  | .whl c b, ρ, S => whE (evT G cl c) (evSs b) ρ S
  | .forS tg it b, ρ, S => bnd (evI G cl it ρ S) fun w S1 => forL w.2 w.1 (fun x ρ1 S2 => lft (asgG tg x ρ1) fun ρ2 => evSs b ρ2 S2) w.1 ρ S1
  | .ret e, ρ, S => bnd (evE G cl e ρ S) fun d S1 => some (.rt d, S1)
  | .retN, ρ, S => some (.rt .non, S)
  | .ex e, ρ, S => bnd (evE G cl e ρ S) fun _ S1 => some (.nx ρ, S1)
  | .pass, ρ, S => some (.nx ρ, S)
  | .brk, ρ, S => some (.bk ρ, S)
  | .nev, _, _ => none
noncomputable def evSs : MSs → Env → Sto → Rs Fl
  | .nil, ρ, S => some (.nx ρ, S)
  | .cons s ss, ρ, S => bnd (evS s ρ S) fun fl S1 => match fl with
    | .nx ρ1 => evSs ss ρ1 S1
    | .bk ρ1 => some (.bk ρ1, S1)
    | .rt d => some (.rt d, S1)
end
end
open Classical in
/-- what a call leaves: new cells are forgotten where nothing points at them -/
noncomputable def prune (S : Sto) (d : D) (S' : Sto) : D × Sto := if S'.take S.length = S ∧ below S.length d = true then (d, S) else (d, S')
noncomputable def callK (G : GT) : Nat → Nat → List D → Sto → Rs D
  | 0, _, _, _ => none
  | k + 1, g, ds, S => match G[g]? with
    | some (_, .fn f) => if ds.length = f.np then bnd (evSs G (callK G k) f.body (ds.map some ++ List.replicate (f.nl - ds.length) none) S) fun fl S1 => match fl with
      | .nx _ => some (prune S .non S1)
      | .rt d => some (prune S d S1)
      | .bk _ => none else none
    | _ => none
end Rw

/-! M5: whether a text by slots is the text as it stands -/
namespace Rw
open PySem L2

structure Syn where
  N : List Str
  sc : Scope
  fn : Str → Bool
def Syn.blk (Γ : Syn) (scope : Scope) : Syn := ⟨Γ.N, relS scope Γ.sc, fun x => scope.names.lookup x == some .cell⟩
def visB (Γ : Syn) (i : Nat) (x : Str) : Bool := decide (Γ.N[i]? = some x) && ((match Γ.sc.names.lookup x with
  | some .local => true
  | some .cell => true
  | some .free => true
  | _ => false) && (!(x == "__debug__") && !(x == "__classdict__")))
def locB (Γ : Syn) (i : Nat) (x : Str) : Bool := decide (Γ.N[i]? = some x) && (match Γ.sc.names.lookup x with
  | some .local => true
  | some .cell => Γ.fn x
  | _ => false)
def lclB (Γ : Syn) (i : Nat) (x : Str) : Bool := decide (Γ.N[i]? = some x) && decide (Γ.sc.names.lookup x = some .local)
/-- a global name, the g-th of the table -/
def glB (G : GT) (Γ : Syn) (g : Nat) (x : Str) : Bool := (match G[g]? with
  | some (y, _) => decide (y = x)
  | none => false) && (decide (Γ.sc.names.lookup x = some .globalImplicit) && (!(x == "__debug__") && decide (x ≠ "__name__")))
def isFnB (G : GT) (g : Nat) : Bool := match G[g]? with
  | some (_, .fn _) => true
  | _ => false
def isBlt (G : GT) (g : Nat) : Bool := match G[g]? with
  | some (_, .blt) => true
  | _ => false
/-- no star, no slice, no set -/
def okX : Expr → Bool
  | .Starred .. => false
  | .Slice .. => false
  | .Set .. => false
  | _ => true
def notLc : Expr → Bool
  | .ListComp .. => false
  | .SetComp .. => false
  | .DictComp .. => false
  | _ => true
def noCall : Expr → Bool
  | .Call .. => false
  | _ => true
def biName : BI → Str
  | .len => "len" | .abs => "abs" | .max => "max" | .min => "min" | .int => "int" | .str => "str" | .tuple => "tuple" | .list => "list"
def mtName : MT → Str
  | .append => "append" | .pop => "pop" | .extend => "extend"
def ownOf (N : List Str) (vs : List Nat) : List (Str × Nat) := vs.map fun i => ((N[i]?).getD "", i)
mutual
def slG : MG → List Nat
  | .name i => [i]
  | .tup ts => slGs ts
def slGs : MGs → List Nat
  | .nil => []
  | .cons t ts => slG t ++ slGs ts
end
mutual
def chkG : MG → Syn → Expr → Bool
  | .name i, Γ, .Name x _ => locB Γ i x
  | .tup ts, Γ, .Tuple es _ _ => chkGs ts Γ es
  | _, _, _ => false
def chkGs : MGs → Syn → List Expr → Bool
  | .nil, _, [] => true
  | .cons t ts, Γ, e :: es => okX e && (chkG t Γ e && chkGs ts Γ es)
  | _, _, _ => false
end
section
variable (G : GT)
mutual
def chkE : ME → Syn → Expr → Bool
  | .var i, Γ, .Name x _ => visB Γ i x
  | .int i, _, .Constant (.int j) _ _ => decide (i = j)
  | .str s, _, .Constant (.str t) _ _ => decide (s = t)
  | .bl b, _, .Constant (.bool c) _ _ => b == c
  | .non, _, .Constant .none _ _ => true
  | .con g, Γ, .Name x _ => glB G Γ g x && (match conOf G g with
    | some _ => true
    | none => false)
  | .bin op a b, Γ, .BinOp x op' y _ => decide (op = op') && (chkE a Γ x && chkE b Γ y)
  | .neg a, Γ, .UnaryOp .USub x _ => chkE a Γ x
  | .cmp op a b, Γ, .Compare x [op'] [y] _ => decide (op = op') && (okX y && (chkE a Γ x && chkE b Γ y))
  | .ch op op' a b c, Γ, .Compare x [p, q] [y, z] _ => decide (op = p) && (decide (op' = q) && (okX z && (chkE a Γ x && (chkE b Γ y && chkE c Γ z))))
  | .and a b, Γ, .BoolOp .And (x :: y :: r) p => chkE a Γ x && chkE b Γ (.BoolOp .And (y :: r) p)
  | .or a b, Γ, .BoolOp .Or (x :: y :: r) p => chkE a Γ x && chkE b Γ (.BoolOp .Or (y :: r) p)
  | .one a, Γ, .BoolOp _ [x] _ => chkE a Γ x
  | .not a, Γ, .UnaryOp .Not x _ => chkE a Γ x
  | .ifE c a b, Γ, .IfExp t x y _ => chkE c Γ t && (chkE a Γ x && chkE b Γ y)
  | .tup es, Γ, .Tuple xs _ _ => chkEs es Γ xs
  | .lst es, Γ, .List xs _ => chkEs es Γ xs
  | .mlst es, Γ, .List xs _ => chkEs es Γ xs
  | .dict ps, Γ, .Dict ks vs _ => decide (ks.length ≤ 15) && (decide (ks.length = vs.length) && (!ks.isEmpty && chkPs ps Γ ks vs))
  | .idx a i, Γ, .Subscript x y _ => okX y && (chkE a Γ x && chkE i Γ y)
  | .sl a lo hi, Γ, .Subscript x (.Slice l h none _) _ => chkE a Γ x && (chkO lo Γ l && chkO hi Γ h)
  | .call g es, Γ, .Call (.Name x _) xs [] _ => glB G Γ g x && (isFnB G g && chkEs es Γ xs)
  | .bi b g es, Γ, .Call (.Name x _) xs [] _ => glB G Γ g x && (isBlt G g && (decide (x = biName b) && (!xs.isEmpty && chkEs es Γ xs)))
  | .isI g h n a, Γ, .Call (.Name x _) [y, .Name t _] [] _ => glB G Γ g x && (isBlt G g && (decide (x = "isinstance") && (glB G Γ h t && (isBlt G h && (decide (bootBuiltins t = some (.type n)) && (okX y && chkE a Γ y))))))
  | .meth m o es, Γ, .Call (.Attribute y nm ap) xs [] cp => decide (nm = mtName m) && (noCall y && ((ap.endLine == cp.line) && (decide (xs.length < 30) && (chkE o Γ y && chkEs es Γ xs))))
  | .lc _ vs elt tg it cs, Γ, .ListComp y [⟨t, i, ifs, a⟩] scope _ => decide (a = 0) && (okX i && (blkC Γ.N Γ.sc scope (ownOf Γ.N vs) && ((slG tg).all (fun j => decide (j ∈ vs)) &&
      (chkG tg (Γ.blk scope) t && (chkI it Γ i && (chkCs cs (Γ.blk scope) ifs && chkE elt (Γ.blk scope) y))))))
  | .lc2 _ vs elt tg it cs vs1 tg1 it1 cs1, Γ, .ListComp y [⟨t, i, ifs, a⟩, ⟨t1, i1, ifs1, a1⟩] scope _ => decide (a = 0) && (decide (a1 = 0) && (okX i && (okX i1 && (blkC Γ.N Γ.sc scope (ownOf Γ.N vs) && (vs1.all (fun j => decide (j ∈ vs)) && ((slG tg).all (fun j => decide (j ∈ vs)) && ((slG tg1).all (fun j => decide (j ∈ vs1)) &&
      (chkG tg (Γ.blk scope) t && (chkI it Γ i && (chkCs cs (Γ.blk scope) ifs && (chkG tg1 (Γ.blk scope) t1 && (chkI it1 (Γ.blk scope) i1 && (chkCs cs1 (Γ.blk scope) ifs1 && chkE elt (Γ.blk scope) y)))))))))))))
  | _, _, _ => false
def chkEs : MEs → Syn → List Expr → Bool
  | .nil, _, [] => true
  | .cons e es, Γ, x :: xs => okX x && (chkE e Γ x && chkEs es Γ xs)
  | _, _, _ => false
def chkO : MO → Syn → Option Expr → Bool
  | .none, _, none => true
  | .some e, Γ, some x => chkE e Γ x
  | _, _, _ => false
def chkCs : MO → Syn → List Expr → Bool
  | .none, _, [] => true
  | .some e, Γ, [x] => chkE e Γ x
  | _, _, _ => false
def chkPs : MPs → Syn → List (Option Expr) → List Expr → Bool
  | .nil, _, [], [] => true
  | .cons k v ps, Γ, some x :: ks, y :: vs => chkE k Γ x && (chkE v Γ y && chkPs ps Γ ks vs)
  | _, _, _, _ => false
def chkI : MI → Syn → Expr → Bool
  | .seq e, Γ, x => chkE e Γ x
  | .rng g es, Γ, .Call (.Name x _) xs [] _ => glB G Γ g x && (isBlt G g && (decide (x = "range") && ((decide (xs.length = 1) || decide (xs.length = 2)) && chkEs es Γ xs)))
  | _, _, _ => false
end
/-- both names on one line, and not all that stands there is folded: the pair is stored from the right -/
def swB (ls : List Pos) (vs : List Expr) : Bool := (match ls with
  | [] => true
  | p :: r => r.all fun q => q.line == p.line) && (!vs.all (foldedForSure 8) && !vs.all (constantsAlone 8))
/-- stored from the left -/
def noSw (Γ : Syn) (ts vs : List Expr) : Bool :=
  (!(ts.length == 2 || ts.length == 3) || vs.length != ts.length) ||
    (((ts.filterMap fun
      | .Name id pos => if Γ.sc.names.lookup id == some .local && pos.line == (ts.head?.map (·.pos.line)).getD 0 then some id else none
      | _ => none).length != ts.length) || vs.all (foldedForSure 8))
def asgB (Γ : Syn) (t v : Expr) : Bool := match t, v with
  | .Name y py, .ListComp e _ s p => decide (Γ.sc.names.lookup y = some .local) && ((py.line == p.line) && !(s.names.any fun (n, k) => n == y && (k == .local || k == .cell)))
  | .Tuple ts _ _, .Tuple vs _ _ => noSw Γ ts vs
  | _, v => notLc v
mutual
def chkS : MS → Syn → Stmt → Bool
  | .asg tg e, Γ, st => (match st with
    | .Assign [t] v _ => asgB Γ t v && (chkG tg Γ t && chkE G e Γ v)
    | _ => false)
  | .par2 i j a b, Γ, st => (match st with
    | .Assign [.Tuple [.Name x px, .Name y py] _ _] (.Tuple [u, v] _ _) _ => swB [px, py] [u, v] && (lclB Γ i x && (lclB Γ j y && (decide (i ≠ j) && (decide (x ≠ y) && (okX u && (okX v && (chkE G a Γ u && chkE G b Γ v)))))))
    | _ => false)
  | .par3 i j l a b c, Γ, st => false
  | .aug i op e, Γ, st => (match st with
    | .AugAssign (.Name x _) op' v _ => locB Γ i x && (decide (op = op') && chkE G e Γ v)
    | _ => false)
  | .setI o i e, Γ, st => (match st with
    | .Assign [.Subscript p q _] v _ => okX q && (notLc v && (chkE G e Γ v && (chkE G o Γ p && chkE G i Γ q)))
    | _ => false)
  | .augI o i op e, Γ, st => (match st with
    | .AugAssign (.Subscript p q _) op' v _ => okX q && (decide (op = op') && (chkE G e Γ v && (chkE G o Γ p && chkE G i Γ q)))
    | _ => false)
  | .ifS c a b, Γ, st => (match st with
    | .If t x y _ => chkE G c Γ t && (chkSs a Γ x && chkSs b Γ y)
    | _ => false)
  | .whl c b, Γ, st => (match st with
    | .While t x [] _ => chkE G c Γ t && chkSs b Γ x
    | _ => false)
  | .forS tg it b, Γ, st => (match st with
    | .For t i x [] _ => okX i && (chkG tg Γ t && (chkI G it Γ i && chkSs b Γ x))
    | _ => false)
  | .ret e, Γ, st => (match st with
    | .Return (some v) _ => chkE G e Γ v
    | _ => false)
  | .retN, _, st => (match st with
    | .Return none _ => true
    | _ => false)
  | .ex e, Γ, st => (match st with
    | .Expr v _ => notLc v && chkE G e Γ v
    | _ => false)
  | .pass, _, st => (match st with
    | .Pass _ => true
    | _ => false)
  | .brk, _, st => (match st with
    | .Break _ => true
    | _ => false)
  | .nev, _, _ => true
def chkSs : MSs → Syn → List Stmt → Bool
  | .nil, _, [] => true
  | .cons s ss, Γ, x :: xs => chkS s Γ x && chkSs ss Γ xs
  | _, _, _ => false
end
end
end Rw

/-! M6: the text does what is said: the parts -/
namespace Rw
open PySem PySem.Spec PyProof.Rows L2

/-! ### the syntax's own facts -/
theorem star_ok {e : Expr} (h : okX e = true) (es : List Expr) (env : PySem.Env) : starEach (e :: es) env = (false, eval e env) :: starEach es env := by
  cases e <;> first | rfl | cases h
theorem asgEach_ok {e : Expr} (h : okX e = true) (es : List Expr) (env : PySem.Env) : assignEach (e :: es) env = (false, assign e env) :: assignEach es env := by
  cases e <;> first | rfl | cases h
theorem fold_ok {e : Expr} (h : okX e = true) (env : PySem.Env) (x : Value) : foldedSetIterable e env x = pure x := by
  cases e <;> first | rfl | cases h
theorem mark_ok {e : Expr} (h : okX e = true) (op : CmpOp) : behindInMarks op e = false := by
  cases e <;> first | rfl | cases h
theorem sub_ok {e : Expr} (h : okX e = true) (o i : Value) : subscripted e false o i = operate [o, i] (getItem o i) := by
  cases e <;> first | rfl | cases h
theorem aug_ok {e : Expr} (h : okX e = true) (ov iv new : Value) : augStore e ov iv new = (do holding [new, ov, iv] (setItem ov iv new); release [new, ov, iv] []; pure .next) := by
  cases e <;> first | rfl | cases h
theorem asgsub_ok {i : Expr} (h : okX i = true) (o : Expr) (pos : Pos) (env : PySem.Env) (v : Value) : assign (.Subscript o i pos) env v = (do
      let ov ← holding [v] (eval o env)
      let iv ← holding [v, ov] (eval i env)
      standAt pos
      holding [v, ov, iv] (setItem ov iv v)
      release [v, ov, iv] []) := by
  cases i <;> first | rfl | cases h
theorem swaps_ok {e : Expr} (h : notLc e = true) (t : Option Expr) (n : Nat) (env : PySem.Env) : swapsWith e t n env = pure false := by
  cases e <;> first | rfl | cases h
theorem base_ok {o : Expr} (h : noCall o = true) (nm : Str) (env : PySem.Env) (w : Sem Value) : attributeBase o nm env w = w := by
  cases o <;> first | rfl | cases h
theorem bk {a b : Bool} (h : (a && b) = true) : a = true ∧ b = true := Bool.and_eq_true_iff.mp h
theorem dec {p : Prop} [Decidable p] (h : decide p = true) : p := of_decide_eq_true h

/-! ### built-in functions -/
def rBi (K : PySem.W.Frag) (b : BI) : List V → Hp → VK → Prop := fun vs H Q => ∃ W F μ S ds r, Stt K W F μ S H ∧ Reps K W μ ds vs ∧ biD S b ds = some r ∧ Post K W F μ S r Q
def biVal : BI → Value
  | .len => .builtin "len" | .abs => .builtin "abs" | .max => .builtin "max" | .min => .builtin "min" | .int => .type "int" | .str => .type "str" | .tuple => .type "tuple" | .list => .type "list"
theorem bi_boot (b : BI) : bootBuiltins (biName b) = some (biVal b) := by
  cases b <;> decide +kernel
section
variable {X : Cx} {K : PySem.W.Frag} {W F : Hp} {μ : List Addr} {S : Sto} {H : Hp}
theorem cell_lst (st : Stt K W F μ S H) {i : Nat} {v : V} {r : D} {f : List D → D} (hv : Rep K W μ (.ref i) v) (h : (match S[i]? with
    | some (.lst xs) => some (f xs)
    | _ => none) = some r) : ∃ a vs xs, v = .ref a ∧ H a = some (.lst vs) ∧ Reps K W μ xs vs ∧ r = f xs := by
  obtain ⟨a, hr, rfl⟩ := hv
  cases c : S[i]? with
  | none => rw [c] at h; cases h
  | some cc =>
    rw [c] at h
    cases cc with
    | lst ys =>
      cases h
      obtain ⟨vs, h1, h2⟩ := st.lst hr c
      exact ⟨a, vs, ys, rfl, h1, h2, rfl⟩
    | dk _ => cases h
theorem bi_call (hc : X.calm = true) (b : BI) : CallR X (biVal b) (rBi X.K b) := by
  intro pins s σ H vs us Q I rs h
  obtain ⟨W, F, μ, S, ds, r, st, rd, hb, p⟩ := h
  cases b with
  | len =>
    have hb : biLen S ds = some r := hb
    unfold biLen at hb
    split at hb
    · cases hb
      obtain ⟨v, rfl, a, ws, rfl, h1, r1⟩ := rd.inv1
      exact call_len pins s σ H _ us Q I rs ⟨_, _, rfl, .inr ⟨ws, st.sqT h1, r1.length.symm⟩, p.int st⟩
    · split at hb
      · rename_i q
        cases hb
        obtain ⟨v, rfl, r1⟩ := rd.inv1
        cases (show v = _ from r1)
        exact call_len pins s σ H _ us Q I rs ⟨_, _, rfl, ⟨q, rfl⟩, p.int st⟩
      · cases hb
    · cases hb
      obtain ⟨v, rfl, a, ws, rfl, h1, r1⟩ := rd.inv1
      exact call_len pins s σ H _ us Q I rs ⟨_, _, rfl, .inl ⟨ws, SqL.of (st.sub _ _ h1), r1.length.symm⟩, p.int st⟩
    · cases hb
      obtain ⟨v, rfl, a, ws, rfl, h1, r1⟩ := rd.inv1
      exact call_len pins s σ H _ us Q I rs ⟨_, _, rfl, .inl ⟨ws, st.sqL h1, r1.length.symm⟩, p.int st⟩
    · obtain ⟨v, rfl, r1⟩ := rd.inv1
      obtain ⟨a, ws, xs, rfl, h1, h2, rfl⟩ := cell_lst st (f := fun xs => .int xs.length) r1 hb
      exact call_len pins s σ H _ us Q I rs ⟨_, _, rfl, .inl ⟨ws, SqL.of h1, h2.length.symm⟩, p.int st⟩
    · cases hb
  | abs =>
    have hb : biAbs ds = some r := hb
    unfold biAbs at hb
    split at hb
    · cases hb
      obtain ⟨v, rfl, r1⟩ := rd.inv1
      cases (show v = _ from r1)
      exact call_abs pins s σ H _ us Q I rs ⟨_, rfl, p.int st⟩
    · cases hb
  | max =>
    have hb : biMax ds = some r := hb
    unfold biMax at hb
    split at hb
    · cases hb
      obtain ⟨v, u, rfl, r1, r2⟩ := rd.inv2
      cases (show v = _ from r1)
      cases (show u = _ from r2)
      exact call_max2 hc pins s σ H _ us Q I rs ⟨_, _, rfl, p.int st⟩
    · cases hb
  | min =>
    have hb : biMin ds = some r := hb
    unfold biMin at hb
    split at hb
    · cases hb
      obtain ⟨v, u, rfl, r1, r2⟩ := rd.inv2
      cases (show v = _ from r1)
      cases (show u = _ from r2)
      exact call_min2 hc pins s σ H _ us Q I rs ⟨_, _, rfl, p.int st⟩
    · cases hb
  | int =>
    have hb : biInt ds = some r := hb
    unfold biInt at hb
    split at hb
    · cases hb
      obtain ⟨v, rfl, r1⟩ := rd.inv1
      cases (show v = _ from r1)
      exact call_int1 pins s σ H _ us Q I rs (.inl ⟨_, rfl, p.int st⟩)
    · cases hb
      obtain ⟨v, rfl, r1⟩ := rd.inv1
      cases (show v = _ from r1)
      exact call_int1 pins s σ H _ us Q I rs (.inr ⟨_, rfl, p.int st⟩)
    · cases hb
  | str =>
    have hb : biStr ds = some r := hb
    unfold biStr at hb
    split at hb
    · split at hb
      · rename_i c
        cases hb
        obtain ⟨v, rfl, r1⟩ := rd.inv1
        cases (show v = _ from r1)
        exact call_str_int pins s σ H _ us Q I rs ⟨_, rfl, c, p.strv st⟩
      · cases hb
    · cases hb
  | tuple =>
    have hb : biTup S ds = some r := hb
    unfold biTup at hb
    split at hb
    · cases hb
      obtain ⟨v, rfl, r1⟩ := rd.inv1
      obtain ⟨a, vs, rfl, h1, r2⟩ := r1
      exact call_tuple_of pins s σ H _ us Q I rs ⟨a, vs, rfl, .inr ⟨st.sqT h1, p.same st ⟨a, vs, rfl, h1, r2⟩⟩⟩
    · cases hb
      obtain ⟨v, rfl, r1⟩ := rd.inv1
      obtain ⟨a, vs, rfl, h1, r2⟩ := r1
      exact call_tuple_of pins s σ H _ us Q I rs ⟨a, vs, rfl, .inl ⟨SqL.of (st.sub _ _ h1), p.tup st r2⟩⟩
    · cases hb
      obtain ⟨v, rfl, r1⟩ := rd.inv1
      obtain ⟨a, vs, rfl, h1, r2⟩ := r1
      exact call_tuple_of pins s σ H _ us Q I rs ⟨a, vs, rfl, .inl ⟨st.sqL h1, p.tup st r2⟩⟩
    · obtain ⟨v, rfl, r1⟩ := rd.inv1
      obtain ⟨a, ws, xs, rfl, h1, h2, rfl⟩ := cell_lst st (f := fun xs => .tup xs) r1 hb
      exact call_tuple_of pins s σ H _ us Q I rs ⟨a, ws, rfl, .inl ⟨SqL.of h1, p.tup st h2⟩⟩
    · cases hb
  | list =>
    have hb : biLst S ds = some r := hb
    unfold biLst at hb
    split at hb
    · cases hb
      obtain ⟨v, rfl, r1⟩ := rd.inv1
      obtain ⟨a, vs, rfl, h1, r2⟩ := r1
      exact call_list_of pins s σ H _ us Q I rs ⟨a, vs, rfl, .inr (st.sqT h1), p.lst st r2⟩
    · cases hb
      obtain ⟨v, rfl, r1⟩ := rd.inv1
      obtain ⟨a, vs, rfl, h1, r2⟩ := r1
      exact call_list_of pins s σ H _ us Q I rs ⟨a, vs, rfl, .inl (SqL.of (st.sub _ _ h1)), p.lst st r2⟩
    · cases hb
      obtain ⟨v, rfl, r1⟩ := rd.inv1
      obtain ⟨a, vs, rfl, h1, r2⟩ := r1
      exact call_list_of pins s σ H _ us Q I rs ⟨a, vs, rfl, .inl (st.sqL h1), p.lst st r2⟩
    · obtain ⟨v, rfl, r1⟩ := rd.inv1
      obtain ⟨a, ws, xs, rfl, h1, h2, rfl⟩ := cell_lst st (f := fun xs => .lst xs) r1 hb
      exact call_list_of pins s σ H _ us Q I rs ⟨a, ws, rfl, .inl (SqL.of h1), p.lst st h2⟩
    · cases hb
end

/-! ### isinstance -/
theorem ty_rep {K : PySem.W.Frag} {W F : Hp} {μ : List Addr} {S : Sto} {H : Hp} (st : Stt K W F μ S H) {d : D} {v : V} {n : String} (r : Rep K W μ d v) (h : tyName S d = some n) : TyX K H v (.type n) := by
  have tupX : ∀ {a : Addr} {xs : List V}, SqT K H a xs → TyX K H (.ref a) (.type "tuple") := fun {a xs} q => by
    rcases q with (q | ⟨o, q⟩) | ⟨o, its, n, hk, hc, _⟩
    · exact .base (.tup q)
    · exact .fTuple q
    · exact .kTuple hk hc
  have lstX : ∀ {a : Addr} {xs : List V}, SqL K H a xs → TyX K H (.ref a) (.type "list") := fun {a xs} q => by
    rcases q with (q | ⟨o, q⟩) | ⟨o, its, n, hk, hc, _⟩
    · exact .base (.lst q)
    · exact .base (.frz q)
    · exact .kList hk hc
  cases d with
  | non => cases h; cases (show v = _ from r); exact .base .non
  | bl b => cases h; cases (show v = _ from r); exact .base (.bl b)
  | int b => cases h; cases (show v = _ from r); exact .base (.int b)
  | str b => cases h; cases (show v = _ from r); exact .base (.str b)
  | tup xs => cases h; obtain ⟨a, vs, rfl, h1, _⟩ := r; exact tupX (st.sqT h1)
  | lst xs => cases h; obtain ⟨a, vs, rfl, h1, _⟩ := r; exact lstX (SqL.of (st.sub _ _ h1))
  | flst xs => cases h; obtain ⟨a, vs, rfl, h1, _⟩ := r; exact lstX (st.sqL h1)
  | ref i =>
    obtain ⟨a, hr, rfl⟩ := r
    cases c : S[i]? with
    | none => simp only [tyName, c] at h; cases h
    | some cc =>
      cases cc with
      | lst ys =>
        simp only [tyName, c] at h
        cases h
        obtain ⟨vs, h1, _⟩ := st.lst hr c
        exact .base (.lst h1)
      | dk kvs =>
        simp only [tyName, c] at h
        cases h
        obtain ⟨vs, h1, _⟩ := st.dk hr c
        exact .base (.dK h1)
  | ty n => cases h

/-! ### methods -/
def rMt (K : PySem.W.Frag) (m : MT) : V → List V → Hp → VK → Prop := fun x vs H Q => ∃ W F μ S d ds r S', Stt K W F μ S H ∧ Rep K W μ d x ∧ Reps K W μ ds vs ∧ methD m S d ds = some (r, S') ∧ Post K W F μ S' r Q
def mtId : MT → String
  | .append => "list.append" | .pop => "list.pop" | .extend => "list.extend"
section
variable {X : Cx}
theorem mt_call (m : MT) : MtR X (mtId m) (rMt X.K m) := by
  intro pins s σ H x vs u us Q I rx rs h
  obtain ⟨W, F, μ, S, d, ds, r, S', st, hd, hds, hm, p⟩ := h
  unfold methD at hm
  split at hm
  · rename_i i y
    obtain ⟨a, hr, rfl⟩ := hd
    obtain ⟨v, rfl, r1⟩ := hds.inv1
    cases c : S[i]? with
    | none => rw [c] at hm; cases hm
    | some cc =>
      rw [c] at hm
      cases cc with
      | dk _ => cases hm
      | lst xs =>
        obtain ⟨ws, h1, h2⟩ := st.lst hr c
        simp only at hm
        split at hm
        · rename_i hl
          cases hm
          refine mt_append pins s σ H _ _ u us Q I rx rs ⟨a, ws, v, rfl, rfl, h1, by rw [h2.length]; exact hl, ?_⟩
          have hc : CellAt X.K W μ (upd H a (.lst (ws ++ [v]))) a (.lst (xs ++ [y])) := ⟨_, upd_same, h2.app (Reps.one r1)⟩
          exact p _ _ W μ Ext.refl (st.put _ _ hr hc) rfl
        · cases hm
  · rename_i i
    obtain ⟨a, hr, rfl⟩ := hd
    cases (show vs = [] from hds)
    cases c : S[i]? with
    | none => rw [c] at hm; cases hm
    | some cc =>
      rw [c] at hm
      cases cc with
      | dk _ => cases hm
      | lst xs =>
        obtain ⟨ws, h1, h2⟩ := st.lst hr c
        simp only at hm
        split at hm
        · rename_i y hy
          cases hm
          obtain ⟨v, e1, e2⟩ := h2.get hy
          refine mt_pop pins s σ H _ _ u us Q I rx rs ⟨a, ws, v, rfl, rfl, h1, by rw [h2.length]; exact e1, ?_⟩
          have hc : CellAt X.K W μ (upd H a (.lst ws.dropLast)) a (.lst xs.dropLast) := ⟨_, upd_same, h2.dropLast⟩
          exact p _ _ W μ Ext.refl (st.put _ _ hr hc) e2
        · cases hm
  · rename_i i ys
    obtain ⟨a, hr, rfl⟩ := hd
    obtain ⟨v, rfl, b, zs, rfl, h3, h4⟩ := hds.inv1
    cases c : S[i]? with
    | none => rw [c] at hm; cases hm
    | some cc =>
      rw [c] at hm
      cases cc with
      | dk _ => cases hm
      | lst xs =>
        obtain ⟨ws, h1, h2⟩ := st.lst hr c
        simp only at hm
        split at hm
        · rename_i hl
          cases hm
          refine mt_extend pins s σ H _ _ u us Q I rx rs ⟨a, b, ws, zs, rfl, rfl, h1, st.sub _ _ h3, by rw [h2.length, h4.length]; exact hl, ?_⟩
          have hc : CellAt X.K W μ (upd H a (.lst (ws ++ zs))) a (.lst (xs ++ ys)) := ⟨_, upd_same, h2.app h4⟩
          exact p _ _ W μ Ext.refl (st.put _ _ hr hc) rfl
        · cases hm
  · cases hm
end
end Rw

/-! M7: loops -/
namespace Rw
open PySem PySem.Spec PyProof.Rows L2

/-! ### what is walked -/
/-- the iterator J yields the items xs, as long as the cell o holds them -/
def WkOk (K : PySem.W.Frag) (W : Hp) (μ : List Addr) (xs : List D) (o : Option Nat) (J : It) : Prop :=
  ∀ (i : Nat) W' F' μ' S' H', Ext W μ W' μ' → Stt K W' F' μ' S' H' → okS o xs S' →
    (i < xs.length → J.go i H' ∧ ∀ x H'', J.yld i H' x H'' → H'' = H' ∧ ∃ d, xs[i]? = some d ∧ Rep K W' μ' d x) ∧ (xs.length ≤ i → J.stop i H')
def TIR (K : PySem.W.Frag) (ev : Env → Sto → Rs (List D × Option Nat)) : TI := fun σ H R => ∃ W F μ ρ S w S', Stt K W F μ S H ∧ EnvR K W μ ρ σ ∧ ev ρ S = some (w, S') ∧
  ∀ J H' W' μ', Ext W μ W' μ' → Stt K W' F μ' S' H' → WkOk K W' μ' w.1 w.2 J → R J H'
theorem _root_.L2.PI.weak {X : Cx} {tg e : Expr} {t t' : TI} (h : PI X tg e t) (w : ∀ σ H R, t' σ H R → t σ H R) : PI X tg e t' := ⟨fun pins s σ H R I q => h.run pins s σ H R I (w σ H R q)⟩
theorem wk_list {K : PySem.W.Frag} {W : Hp} {μ : List Addr} {xs : List D} {o : Option Nat} {a : Addr}
    (h : ∀ W' F' μ' S' H', Ext W μ W' μ' → Stt K W' F' μ' S' H' → okS o xs S' → ∃ vs, SqL K H' a vs ∧ Reps K W' μ' xs vs) : WkOk K W μ xs o (Itl K a) := by
  intro i W' F' μ' S' H' x st ok
  obtain ⟨vs, h1, h2⟩ := h W' F' μ' S' H' x st ok
  refine ⟨fun hi => ⟨⟨vs, vs[i]'(by rw [h2.length]; exact hi), h1, by simp⟩, fun y H'' hy => ?_⟩, fun hi => ⟨vs, h1, by rw [h2.length]; exact hi⟩⟩
  obtain ⟨e, q⟩ := hy
  exact ⟨e, h2.get2 (q vs h1)⟩
theorem wk_tup {K : PySem.W.Frag} {W : Hp} {μ : List Addr} {xs : List D} {a : Addr} {vs : List V} (h : SqT K W a vs) (r : Reps K W μ xs vs) : WkOk K W μ xs none (Itt K a) := by
  intro i W' F' μ' S' H' x st _
  have h1 : SqT K H' a vs := st.sqT (sqT_le x.w h)
  have h2 := r.m x
  refine ⟨fun hi => ⟨⟨vs, vs[i]'(by rw [h2.length]; exact hi), h1, by simp⟩, fun y H'' hy => ?_⟩, fun hi => ⟨vs, h1, by rw [h2.length]; exact hi⟩⟩
  obtain ⟨e, q⟩ := hy
  exact ⟨e, h2.get2 (q vs h1)⟩
theorem wk_rng {K : PySem.W.Frag} {W : Hp} {μ : List Addr} {lo : Int} {n : Nat} : WkOk K W μ ((List.range n).map fun (i : Nat) => D.int (lo + (i : Int))) none (Itr lo n) := by
  intro i W' F' μ' S' H' x st _
  have hl : ((List.range n).map fun (i : Nat) => D.int (lo + (i : Int))).length = n := by simp
  rw [hl]
  refine ⟨fun hi => ⟨hi, fun y H'' hy => ?_⟩, fun hi => hi⟩
  obtain ⟨e, q⟩ := hy
  exact ⟨e, .int (lo + i), by simp [hi], q⟩
/-- over a list or a tuple -/
def iSeq (K : PySem.W.Frag) (tl : TE) : TI := fun σ H R => tl σ H fun x H1 => ∃ a, x = .ref a ∧ (((∃ xs, SqL K H1 a xs) ∧ R (Itl K a) H1) ∨ ((∃ xs, SqT K H1 a xs) ∧ R (Itt K a) H1))
theorem pi_seq {X : Cx} {tg l : Expr} {tl : TE} (hl : PE X l tl) : PI X tg l (iSeq X.K tl) := by
  refine ⟨fun pins s σ H R I h => ?_⟩
  refine thn (hl.run pins s σ H _ I h) fun v s1 ⟨x, H1, I1, r1, q1⟩ => ?_
  obtain ⟨a, e, ⟨⟨xs, hq⟩, q⟩ | ⟨⟨xs, hq⟩, q⟩⟩ := q1
  · subst e
    cases r1
    obtain ⟨its, rv, p, hz⟩ := I1.list hq
    refine wpAny_pyIter_list p.isList ?_
    refine ⟨s1.heap.objs.size, [s1.heap.objs.size], _, _, H1, rfl, I1.kept (t' := s1.toks) fun b o e => Heap.get?_push_of_some _ e, turn_list a _, ⟨_, Heap.get?_push_size _ rfl, rfl, rfl⟩, fun b hb => ?_, q⟩
    have e : b = s1.heap.objs.size := by simpa using hb
    subst e
    exact I1.fpOk (Nat.le_refl _) (I1.hok.fresh (Nat.le_refl _))
  · subst e
    cases r1
    obtain ⟨its, rv, p, hz⟩ := I1.tuple hq
    refine wpAny_pyIter_tuple (show s1.heap.IsTuple a its.toArray from p) ?_
    refine ⟨s1.heap.objs.size, [s1.heap.objs.size], _, _, H1, rfl, I1.kept (t' := s1.toks) fun b o e => Heap.get?_push_of_some _ e, turn_tuple a _, ⟨_, Heap.get?_push_size _ rfl, rfl, rfl⟩, fun b hb => ?_, q⟩
    have e : b = s1.heap.objs.size := by simpa using hb
    subst e
    exact I1.fpOk (Nat.le_refl _) (I1.hok.fresh (Nat.le_refl _))
section
variable {K : PySem.W.Frag} {W F : Hp} {μ : List Addr} {S : Sto} {H : Hp}
/-- what is walked, by the value -/
theorem items_rep (st : Stt K W F μ S H) {d : D} {v : V} {w : List D × Option Nat} (r : Rep K W μ d v) (h : itemsOf S d = some w) :
    ∃ a, v = .ref a ∧ (((∃ xs, SqL K H a xs) ∧ WkOk K W μ w.1 w.2 (Itl K a)) ∨ ((∃ xs, SqT K H a xs) ∧ WkOk K W μ w.1 w.2 (Itt K a))) := by
  cases d with
  | tup xs =>
    cases h
    obtain ⟨a, vs, rfl, h1, r1⟩ := r
    exact ⟨a, rfl, .inr ⟨⟨vs, st.sqT h1⟩, wk_tup h1 r1⟩⟩
  | lst xs =>
    cases h
    obtain ⟨a, vs, rfl, h1, r1⟩ := r
    exact ⟨a, rfl, .inl ⟨⟨vs, SqL.of (st.sub _ _ h1)⟩, wk_list fun W' F' μ' S' H' x st' _ => ⟨vs, SqL.of (st'.sub _ _ (x.w _ _ h1)), r1.m x⟩⟩⟩
  | flst xs =>
    cases h
    obtain ⟨a, vs, rfl, h1, r1⟩ := r
    exact ⟨a, rfl, .inl ⟨⟨vs, st.sqL h1⟩, wk_list fun W' F' μ' S' H' x st' _ => ⟨vs, st'.sqL (sqL_le x.w h1), r1.m x⟩⟩⟩
  | ref i =>
    obtain ⟨a, hr, rfl⟩ := r
    cases c : S[i]? with
    | none => simp only [itemsOf, c] at h; cases h
    | some cc =>
      cases cc with
      | lst ys =>
        simp only [itemsOf, c] at h
        cases h
        obtain ⟨vs, h1, _⟩ := st.lst hr c
        refine ⟨a, rfl, .inl ⟨⟨vs, SqL.of h1⟩, wk_list fun W' F' μ' S' H' x st' ok => ?_⟩⟩
        obtain ⟨vs', h2, h3⟩ := st'.lst (x.m _ _ hr) (show S'[i]? = _ from ok)
        exact ⟨vs', SqL.of h2, h3⟩
      | dk kvs => simp only [itemsOf, c] at h; cases h
  | _ => cases h

/-! ### targets -/
end
def TGR (K : PySem.W.Frag) (sl : List Nat) (f : D → Env → Option Env) : TG := fun v σ H Q => ∃ W F μ ρ S d ρ', Stt K W F μ S H ∧ EnvR K W μ ρ σ ∧ Rep K W μ d v ∧ f d ρ = some ρ' ∧
  ∀ σ', EnvR K W μ ρ' σ' → σ'.length = σ.length → (∀ i, i ∉ sl → σ'[i]? = σ[i]?) → Q σ' H
def TGRs (K : PySem.W.Frag) (sl : List Nat) (f : List D → Env → Option Env) : TGs := fun vs σ H Q => ∃ W F μ ρ S ds ρ', Stt K W F μ S H ∧ EnvR K W μ ρ σ ∧ Reps K W μ ds vs ∧ f ds ρ = some ρ' ∧
  ∀ σ', EnvR K W μ ρ' σ' → σ'.length = σ.length → (∀ i, i ∉ sl → σ'[i]? = σ[i]?) → Q σ' H
theorem _root_.L2.PG.weak {X : Cx} {e : Expr} {t t' : TG} (h : PG X e t) (w : ∀ v σ H Q, t' v σ H Q → t v σ H Q) : PG X e t' := ⟨fun pins s σ H v u Q I r q => h.run pins s σ H v u Q I r (w v σ H Q q)⟩
theorem _root_.L2.PGs.weak {X : Cx} {es : List Expr} {t t' : TGs} (h : PGs X es t) (w : ∀ v σ H Q, t' v σ H Q → t v σ H Q) : PGs X es t' := ⟨fun pins s σ H v u Q I r q => h.run pins s σ H v u Q I r (w v σ H Q q)⟩
theorem _root_.L2.PG.or {X : Cx} {e : Expr} {t t' : TG} (h : PG X e t) (h' : PG X e t') : PG X e (fun v σ H Q => t v σ H Q ∨ t' v σ H Q) := ⟨fun pins s σ H v u Q I r q => by
  rcases q with q | q
  · exact h.run pins s σ H v u Q I r q
  · exact h'.run pins s σ H v u Q I r q⟩
/-- what the text's checker knows of a context -/
structure Sy (Γ : Syn) (X : Cx) : Prop where
  N : X.N = Γ.N
  nd : X.N.Nodup
  sc : X.env.scope = Γ.sc
  fn : X.fn = Γ.fn
  calm : X.calm = true
theorem loc_ok {Γ : Syn} {X : Cx} (y : Sy Γ X) {i : Nat} {x : Str} (h : locB Γ i x = true) : X.N[i]? = some x ∧ L2.Loc X.env.scope x ∧ (X.fn x = true ∨ X.env.scope.names.lookup x = some .local) := by
  obtain ⟨h1, h2⟩ := bk h
  refine ⟨by rw [y.N]; exact dec h1, ?_⟩
  unfold L2.Loc
  rw [y.sc, y.fn]
  split at h2
  · rename_i e; exact ⟨.inl e, .inr e⟩
  · rename_i e; exact ⟨.inr e, .inl h2⟩
  · cases h2
theorem asgE_len : ∀ {ts : MGs} {es : List Expr} {Γ : Syn} {env : PySem.Env}, chkGs ts Γ es = true → (assignEach es env).length = es.length ∧ (assignEach es env).findIdx? (·.1) = none ∧ ∀ (ds : List D) (ρ ρ' : Env), asgGs ts ds ρ = some ρ' → ds.length = es.length
  | .nil, [], _, _, _ => ⟨rfl, rfl, fun ds ρ ρ' h => by
    cases ds with
    | nil => rfl
    | cons _ _ => cases h⟩
  | .nil, _ :: _, _, _, h => by cases h
  | .cons t ts, [], _, _, h => by cases h
  | .cons t ts, e :: es, Γ, env, h => by
    obtain ⟨h1, h2⟩ := bk (show (okX e && (chkG t Γ e && chkGs ts Γ es)) = true from h)
    obtain ⟨_, h3⟩ := bk h2
    obtain ⟨a, b, c⟩ := asgE_len (env := env) h3
    rw [asgEach_ok h1]
    refine ⟨by simp [a], by rw [List.findIdx?_cons, b]; rfl, fun ds ρ ρ' q => ?_⟩
    cases ds with
    | nil => cases q
    | cons d ds =>
      have q : (asgG t d ρ).bind (fun ρ1 => asgGs ts ds ρ1) = some ρ' := q
      cases e1 : asgG t d ρ with
      | none => rw [e1] at q; cases q
      | some ρ1 =>
        rw [e1] at q
        have := c ds ρ1 ρ' q
        simp [this]
theorem asgGs_tup {ts : MGs} {d : D} {ρ ρ' : Env} (h : asgG (.tup ts) d ρ = some ρ') : (∃ xs, d = .tup xs ∧ asgGs ts xs ρ = some ρ') ∨ ∃ xs, d = .lst xs ∧ asgGs ts xs ρ = some ρ' := by
  cases d with
  | tup xs => exact .inl ⟨xs, rfl, h⟩
  | lst xs => exact .inr ⟨xs, rfl, h⟩
  | _ => cases h
mutual
theorem chkG_ok {X : Cx} {Γ : Syn} (y : Sy Γ X) : ∀ (t : MG) (e : Expr), chkG t Γ e = true → PG X e (TGR X.K (slG t) (asgG t))
  | .name i, e, h => by
    cases e with
    | Name x pos =>
      obtain ⟨h1, h2, h3⟩ := loc_ok y (show locB Γ i x = true from h)
      refine (pg_name (i := i) y.nd h1 h2 h3).weak ?_
      rintro v σ H Q ⟨W, F, μ, ρ, S, d, ρ', st, en, r, e, k⟩
      have e : (if i < ρ.length then some (ρ.set i (some d)) else none) = some ρ' := e
      split at e
      · cases e
        exact k _ (en.set r) (by simp) fun j hj => by
          rw [List.getElem?_set_ne]
          intro q
          exact hj (by simp [slG, q])
      · cases e
    | _ => cases h
  | .tup ts, e, h => by
    cases e with
    | Tuple es k pos =>
      have h : chkGs ts Γ es = true := h
      obtain ⟨a, b, c⟩ := asgE_len (env := X.env) h
      have hp := chkGs_ok y ts es h
      refine ((pg_tup (n := es.length) y.calm hp a b).or (pg_unl (n := es.length) y.calm hp a b)).weak ?_
      rintro v σ H Q ⟨W, F, μ, ρ, S, d, ρ', st, en, r, e, k⟩
      rcases asgGs_tup e with ⟨xs, rfl, e⟩ | ⟨xs, rfl, e⟩
      · obtain ⟨p, vs, rfl, h1, r1⟩ := r
        exact .inl ⟨p, vs, rfl, st.sqT h1, by rw [r1.length]; exact c xs ρ ρ' e, W, F, μ, ρ, S, xs, ρ', st, en, r1, e, k⟩
      · obtain ⟨p, vs, rfl, h1, r1⟩ := r
        exact .inr ⟨p, vs, rfl, SqL.of (st.sub _ _ h1), by rw [r1.length]; exact c xs ρ ρ' e, W, F, μ, ρ, S, xs, ρ', st, en, r1, e, k⟩
    | _ => cases h
theorem chkGs_ok {X : Cx} {Γ : Syn} (y : Sy Γ X) : ∀ (ts : MGs) (es : List Expr), chkGs ts Γ es = true → PGs X es (TGRs X.K (slGs ts) (asgGs ts))
  | .nil, [], _ => pgs_nil.weak (by
    rintro vs σ H Q ⟨W, F, μ, ρ, S, ds, ρ', st, en, r, e, k⟩
    cases ds with
    | nil =>
      cases (show vs = [] from r)
      cases e
      exact ⟨rfl, k σ en rfl fun _ _ => rfl⟩
    | cons _ _ => cases e)
  | .nil, _ :: _, h => by cases h
  | .cons t ts, [], h => by cases h
  | .cons t ts, e :: es, h => by
    obtain ⟨h1, h2⟩ := bk (show (okX e && (chkG t Γ e && chkGs ts Γ es)) = true from h)
    obtain ⟨h3, h4⟩ := bk h2
    refine (pgs_cons (chkG_ok y t e h3) (chkGs_ok y ts es h4) (by rw [asgEach_ok h1]; rfl)).weak ?_
    rintro vs σ H Q ⟨W, F, μ, ρ, S, ds, ρ', st, en, r, q, k⟩
    cases ds with
    | nil => cases q
    | cons d ds =>
      have q : (asgG t d ρ).bind (fun ρ1 => asgGs ts ds ρ1) = some ρ' := q
      obtain ⟨v, rr, rfl, r1, r2⟩ := r
      cases e1 : asgG t d ρ with
      | none => rw [e1] at q; cases q
      | some ρ1 =>
        rw [e1] at q
        refine ⟨v, rr, rfl, W, F, μ, ρ, S, d, ρ1, st, en, r1, e1, fun σ1 en1 l1 k1 => ⟨W, F, μ, ρ1, S, ds, ρ', st, en1, r2, q, fun σ2 en2 l2 k2 => ?_⟩⟩
        refine k σ2 en2 (l2.trans l1) fun i hi => ?_
        have hi : i ∉ slG t ++ slGs ts := hi
        simp only [List.mem_append, not_or] at hi
        rw [k2 i hi.2, k1 i hi.1]
end

/-! ### frames -/
section
variable {K : PySem.W.Frag} {W F : Hp} {μ : List Addr} {S : Sto} {H : Hp}
theorem Stt.noF (st : Stt K W F μ S H) {p : Addr} (h : H p = none) : F p = none ∧ W p = none ∧ ∀ (i : Nat) a, μ[i]? = some a → a ≠ p := by
  refine ⟨?_, ?_, fun i a e q => ?_⟩
  · cases c : F p with
    | none => rfl
    | some u => rw [st.frm _ _ c] at h; cases h
  · cases c : W p with
    | none => rfl
    | some u => rw [st.sub _ _ c] at h; cases h
  · obtain ⟨u, c⟩ := st.there e
    rw [q, h] at c; cases c
/-- a new object of ours -/
theorem Stt.frame (st : Stt K W F μ S H) {p : Addr} (o : HO) (h : H p = none) : Stt K W (upd F p o) μ S (upd H p o) := by
  obtain ⟨hF, hW, hμ⟩ := st.noF h
  refine ⟨fun a u e => ?_, fun a u e => ?_, fun a u e => ?_, st.len, st.nd, fun i a e => ?_, fun i a c e hc => ?_⟩
  · rw [upd_ne (ne_of_none e hW)]; exact st.sub _ _ e
  · by_cases q : a = p
    · subst q; rw [upd_same] at e; rw [upd_same]; exact e
    · rw [upd_ne q] at e; rw [upd_ne q]; exact st.frm _ _ e
  · by_cases q : a = p
    · subst q; exact hW
    · rw [upd_ne q] at e; exact st.dis _ _ e
  · rw [upd_ne (hμ i a e)]; exact st.apart i a e
  · exact (st.cel i a c e hc).mono Ext.refl (upd_ne (hμ i a e))
/-- it changes -/
theorem Stt.reframe {o o' : HO} {p : Addr} (st : Stt K W (upd F p o) μ S H) : Stt K W (upd F p o') μ S (upd H p o') := by
  have hW : W p = none := st.dis p o upd_same
  have hμ : ∀ (i : Nat) a, μ[i]? = some a → a ≠ p := fun i a e q => by
    have := (st.apart i a e).2
    rw [q, upd_same] at this; cases this
  refine ⟨fun a u e => ?_, fun a u e => ?_, fun a u e => ?_, st.len, st.nd, fun i a e => ?_, fun i a c e hc => ?_⟩
  · rw [upd_ne (ne_of_none e hW)]; exact st.sub _ _ e
  · by_cases q : a = p
    · subst q; rw [upd_same] at e; rw [upd_same]; exact e
    · rw [upd_ne q] at e; rw [upd_ne q]; exact st.frm _ _ (by rw [upd_ne q]; exact e)
  · by_cases q : a = p
    · subst q; exact hW
    · rw [upd_ne q] at e; exact st.dis _ _ (by rw [upd_ne q]; exact e)
  · have := st.apart i a e
    rw [upd_ne (hμ i a e)] at this
    rw [upd_ne (hμ i a e)]; exact this
  · exact (st.cel i a c e hc).mono Ext.refl (upd_ne (hμ i a e))
theorem Stt.inF {o : HO} {p : Addr} (st : Stt K W (upd F p o) μ S H) : H p = some o := st.frm _ _ upd_same
/-- it becomes a thing that never changes -/
theorem Stt.toImm {o : HO} {p : Addr} (st : Stt K W (upd F p o) μ S H) (hF : F p = none) : Stt K (upd W p o) F μ S H ∧ Ext W μ (upd W p o) μ := by
  have hW : W p = none := st.dis p o upd_same
  have hμ : ∀ (i : Nat) a, μ[i]? = some a → a ≠ p := fun i a e q => by
    have := (st.apart i a e).2
    rw [q, upd_same] at this; cases this
  have x : Ext W μ (upd W p o) μ := ⟨fun a u h => by rw [upd_ne (ne_of_none h hW)]; exact h, fun _ _ h => h⟩
  refine ⟨⟨fun a u e => ?_, fun a u e => ?_, fun a u e => ?_, st.len, st.nd, fun i a e => ?_, fun i a c e hc => ?_⟩, x⟩
  · by_cases q : a = p
    · subst q; rw [upd_same] at e; cases e; exact st.inF
    · rw [upd_ne q] at e; exact st.sub _ _ e
  · exact st.frm _ _ (by rw [upd_ne (ne_of_none e hF)]; exact e)
  · have q := ne_of_none e hF
    rw [upd_ne q]
    exact st.dis _ _ (by rw [upd_ne q]; exact e)
  · have h := st.apart i a e
    rw [upd_ne (hμ i a e)] at h ⊢
    exact h
  · exact (st.cel i a c e hc).mono x rfl
/-- it becomes a cell -/
theorem Stt.toCell {o : HO} {p : Addr} {c : Cell} (st : Stt K W (upd F p o) μ S H) (hF : F p = none) (hc : CellAt K W (μ ++ [p]) H p c) : Stt K W F (μ ++ [p]) (S ++ [c]) H ∧ Ext W μ W (μ ++ [p]) := by
  have hW : W p = none := st.dis p o upd_same
  have hμ : ∀ (i : Nat) a, μ[i]? = some a → a ≠ p := fun i a e q => by
    have := (st.apart i a e).2
    rw [q, upd_same] at this; cases this
  have x : Ext W μ W (μ ++ [p]) := ⟨fun _ _ h => h, fun r a h => by rw [List.getElem?_append_left (List.getElem?_eq_some_iff.mp h).1]; exact h⟩
  refine ⟨⟨st.sub, fun a u e => st.frm _ _ (by rw [upd_ne (ne_of_none e hF)]; exact e), fun a u e => st.dis _ _ (by rw [upd_ne (ne_of_none e hF)]; exact e), by simp [st.len], fun i j a h1 h2 => ?_, fun i a h => ?_, fun i a c' h hc' => ?_⟩, x⟩
  · rcases get_snoc h1 with h1 | ⟨e1, h1⟩ <;> rcases get_snoc h2 with h2 | ⟨e2, h2⟩
    · exact st.nd i j a h1 h2
    · exact absurd h2.symm (hμ i a h1)
    · exact absurd h1.symm (hμ j a h2)
    · omega
  · rcases get_snoc h with h | ⟨_, h⟩
    · have q := st.apart i a h
      rw [upd_ne (hμ i a h)] at q
      exact q
    · rw [← h]; exact ⟨hW, hF⟩
  · rcases get_snoc h with h | ⟨e, h⟩
    · have hl : i < S.length := by rw [← st.len]; exact (List.getElem?_eq_some_iff.mp h).1
      rw [List.getElem?_append_left hl] at hc'
      exact (st.cel i a c' h hc').mono x rfl
    · subst h
      rw [e, st.len, List.getElem?_append_right (Nat.le_refl _)] at hc'
      simp at hc'
      subst hc'
      exact hc
end
end Rw

/-! M8: comprehensions, for, while -/
namespace Rw
open PySem PySem.Spec PyProof.Rows L2

section
variable {K : PySem.W.Frag} {W F : Hp} {μ : List Addr}
theorem EnvR.setN {ρ : Env} {σ : L2.St} (h : EnvR K W μ ρ σ) (i : Nat) : EnvR K W μ (ρ.set i none) (σ.set i none) := by
  refine ⟨by simp [h.1], fun j e q => ?_⟩
  by_cases hj : i = j
  · subst hj
    have hl : i < ρ.length := by
      have := (List.getElem?_eq_some_iff.mp q).1
      simpa using this
    rw [List.getElem?_set_self hl] at q
    cases q
  · rw [List.getElem?_set_ne hj] at q
    obtain ⟨u, h1, h2⟩ := h.2 j e q
    exact ⟨u, by rw [List.getElem?_set_ne hj]; exact h1, h2⟩
theorem EnvR.wipe {ρ : Env} {σ : L2.St} (h : EnvR K W μ ρ σ) : ∀ vs : List Nat, EnvR K W μ (wipeE ρ vs) (L2.wipe σ vs)
  | [] => h
  | v :: vs => (h.wipe vs).setN v
theorem wipe_get (τ : L2.St) (i : Nat) : ∀ vs : List Nat, (L2.wipe τ vs)[i]? = if i ∈ vs ∧ i < τ.length then some none else τ[i]?
  | [] => by simp [L2.wipe]
  | v :: vs => by
    show ((L2.wipe τ vs).set v none)[i]? = _
    by_cases e : v = i
    · subst e
      by_cases hl : v < τ.length
      · rw [List.getElem?_set_self (by rw [L2.wipe_length]; exact hl), if_pos ⟨List.mem_cons_self, hl⟩]
      · rw [if_neg fun q => hl q.2, List.getElem?_eq_none (by simp [L2.wipe_length]; omega), List.getElem?_eq_none (by omega)]
    · rw [List.getElem?_set_ne e, wipe_get τ i vs]
      have : (i ∈ v :: vs) ↔ i ∈ vs := by simp [List.mem_cons, Ne.symm e]
      simp only [this]
theorem wipe_eq {σ τ : L2.St} {sl vs : List Nat} (hl : τ.length = (L2.wipe σ vs).length) (h : ∀ i, i ∉ sl → τ[i]? = (L2.wipe σ vs)[i]?) (hs : ∀ i ∈ sl, i ∈ vs) : L2.wipe τ vs = L2.wipe σ vs := by
  have hl2 : τ.length = σ.length := by rw [hl, L2.wipe_length]
  refine List.ext_getElem? fun i => ?_
  rw [wipe_get, wipe_get, hl2]
  by_cases c : i ∈ vs ∧ i < σ.length
  · rw [if_pos c, if_pos c]
  · rw [if_neg c, if_neg c]
    by_cases q : i ∈ vs
    · have : ¬ i < σ.length := fun z => c ⟨q, z⟩
      rw [List.getElem?_eq_none (by omega), List.getElem?_eq_none (by omega)]
    · rw [h i fun z => q (hs i z), wipe_get, if_neg c]
theorem drop_at {α : Type} {xs : List α} {i : Nat} {x : α} (h : xs[i]? = some x) : xs.drop i = x :: xs.drop (i + 1) := by
  obtain ⟨hl, e⟩ := List.getElem?_eq_some_iff.mp h
  rw [List.drop_eq_getElem_cons hl, e]

/-! ### comprehensions -/
def turnE (f : D → Env → Option Env) (c : Env → Sto → Rs Bool) (e : Env → Sto → Rs D) (ρ : Env) : D → Sto → Rs (Option D) :=
  fun x S2 => lft (f x ρ) fun ρ1 => bnd (c ρ1 S2) fun t S3 => if t = true then bnd (e ρ1 S3) fun y S4 => some (some y, S4) else some (none, S3)
theorem comp_reads {S S' : Sto} {H1 : Hp} {σ : L2.St} {ρ : Env} {J : It} {xs acc : List D} {o : Option Nat} {f : D → Env → Option Env} {c : Env → Sto → Rs Bool} {e : Env → Sto → Rs D} {vs sl : List Nat} {Q : VK} {mu : Bool}
    (st : Stt K W F μ S H1) (en : EnvR K W μ ρ σ) (wk : WkOk K W μ xs o J) (hl : xs.length ≤ sizeLine) (hs : ∀ i ∈ sl, i ∈ vs)
    (h : compL o xs (turnE f c e (wipeE ρ vs)) xs S [] = some (acc, S'))
    (p : Post K W F μ (if mu = true then S' ++ [.lst acc] else S') (if mu = true then .ref S'.length else .lst acc) Q) :
    ∀ D, H1 D = none → ∃ Wv : Nat → Nat → Hp → Prop, (∃ m, Wv 0 m (upd H1 D (.lst []))) ∧ ∀ i m H, Wv i m H →
      (J.stop i H ∧ Q (.ref D) H) ∨ (J.go i H ∧ ∃ Nx : Hp → Prop, (∀ H', Nx H' → ∃ m', m' < m ∧ Wv (i + 1) m' H') ∧ ∀ x H', J.yld i H x H' → TGR K sl f x (L2.wipe σ vs) H' fun σ2 H2 => L2.wipe σ2 vs = L2.wipe σ vs ∧ TTR K c σ2 H2 fun b H3 =>
        if b = true then TR K e σ2 H3 fun y H4 => ∃ acc, H4 D = some (.lst acc) ∧ acc.length < sizeLine ∧ Nx (upd H4 D (.lst (acc ++ [y]))) else Nx H3) := by
  intro p0 hp0
  have hF := (st.noF hp0).1
  refine ⟨fun i m H => ∃ W' μ' Si ac av, m = xs.length - i ∧ i ≤ xs.length ∧ Ext W μ W' μ' ∧ Stt K W' (upd F p0 (.lst av)) μ' Si H ∧ Reps K W' μ' ac av ∧ ac.length ≤ i ∧ compL o xs (turnE f c e (wipeE ρ vs)) (xs.drop i) Si ac = some (acc, S'),
    ⟨xs.length, W, μ, S, [], [], by simp, Nat.zero_le _, Ext.refl, st.frame _ hp0, rfl, Nat.le_refl _, by simpa using h⟩, ?_⟩
  rintro i m H ⟨W', μ', Si, ac, av, rfl, hi, x, sti, ra, la, hc⟩
  by_cases hlt : i < xs.length
  · obtain ⟨d0, hd0⟩ : ∃ d, xs[i]? = some d := ⟨xs[i], by simp [hlt]⟩
    rw [drop_at hd0] at hc
    unfold compL at hc
    split at hc
    · rename_i ok
      obtain ⟨go, yl⟩ := (wk i W' _ μ' Si H x sti ok).1 hlt
      obtain ⟨r, S1, e1, e2⟩ := bnd_inv hc
      obtain ⟨ρ1, e3, e4⟩ := lft_inv e1
      obtain ⟨t, S3, e5, e6⟩ := bnd_inv e4
      refine .inr ⟨go, fun H' => ∃ W' μ' Si ac av, i + 1 ≤ xs.length ∧ Ext W μ W' μ' ∧ Stt K W' (upd F p0 (.lst av)) μ' Si H' ∧ Reps K W' μ' ac av ∧ ac.length ≤ i + 1 ∧ compL o xs (turnE f c e (wipeE ρ vs)) (xs.drop (i + 1)) Si ac = some (acc, S'),
        fun H' ⟨W2, μ2, S2, a2, v2, q1, q2, q3, q4, q5, q6⟩ => ⟨xs.length - (i + 1), by omega, W2, μ2, S2, a2, v2, rfl, q1, q2, q3, q4, q5, q6⟩, fun y H'' hy => ?_⟩
      obtain ⟨rfl, d, hd, rd⟩ := yl y H'' hy
      rw [hd0] at hd; cases hd
      refine ⟨W', upd F p0 (.lst av), μ', wipeE ρ vs, Si, d0, ρ1, sti, (en.mono x).wipe vs, rd, e3, fun σ2 en2 l2 k2 => ⟨wipe_eq l2 k2 hs, ?_⟩⟩
      refine ⟨W', upd F p0 (.lst av), μ', ρ1, Si, t, S3, sti, en2, e5, fun H3 W3 μ3 x3 st3 => ?_⟩
      cases t with
      | false =>
        rw [if_neg Bool.false_ne_true]
        rw [if_neg Bool.false_ne_true] at e6
        cases e6
        exact ⟨W3, μ3, _, ac, av, hlt, x.trans x3, st3, ra.m x3, by omega, e2⟩
      | true =>
        rw [if_pos rfl]
        rw [if_pos rfl] at e6
        obtain ⟨y', S4, e7, e8⟩ := bnd_inv e6
        cases e8
        refine ⟨W3, upd F p0 (.lst av), μ3, ρ1, S3, y', _, st3, en2.mono x3, e7, fun v H4 W4 μ4 x4 st4 r4 => ⟨av, st4.inF, by have := ra.length; omega, W4, μ4, _, ac ++ [y'], av ++ [v], hlt, (x.trans x3).trans x4, st4.reframe, (ra.m (x3.trans x4)).app (Reps.one r4), by simp; omega, e2⟩⟩
    · cases hc
  · have : i = xs.length := by omega
    subst this
    rw [List.drop_length] at hc
    unfold compL at hc
    split at hc
    · rename_i ok
      cases hc
      refine .inl ⟨(wk _ W' _ μ' _ H x sti ok).2 (Nat.le_refl _), ?_⟩
      cases mu with
      | false =>
        obtain ⟨st2, x2⟩ := sti.toImm hF
        exact p _ _ _ _ (x.trans x2) st2 ⟨p0, av, rfl, upd_same, ra.m x2⟩
      | true =>
        have x2 : Ext W' μ' W' (μ' ++ [p0]) := ⟨fun _ _ h => h, fun r a h => by rw [List.getElem?_append_left (List.getElem?_eq_some_iff.mp h).1]; exact h⟩
        obtain ⟨st2, _⟩ := sti.toCell (c := .lst acc) hF ⟨av, sti.inF, ra.m x2⟩
        exact p _ _ _ _ (x.trans x2) st2 ⟨p0, by rw [← sti.len]; simp, rfl⟩
    · cases hc

/-- the inner loop -/
theorem comp_in {S S' : Sto} {H1 : Hp} {σ : L2.St} {ρ : Env} {J : It} {xs ac acc : List D} {o : Option Nat} {f : D → Env → Option Env} {c : Env → Sto → Rs Bool} {e : Env → Sto → Rs D} {vs sl : List Nat} {p0 : Addr} {av : List V} {Nx : Hp → Prop}
    (st : Stt K W (upd F p0 (.lst av)) μ S H1) (en : EnvR K W μ ρ σ) (ra : Reps K W μ ac av) (wk : WkOk K W μ xs o J) (hl : ac.length + xs.length ≤ sizeLine) (hs : ∀ i ∈ sl, i ∈ vs)
    (h : compL o xs (turnE f c e (wipeE ρ vs)) xs S ac = some (acc, S'))
    (p : ∀ H' W' μ' av', Ext W μ W' μ' → Stt K W' (upd F p0 (.lst av')) μ' S' H' → Reps K W' μ' acc av' → Nx H') :
    ∃ Wv : Nat → Nat → Hp → Prop, (∃ m, Wv 0 m H1) ∧ ∀ i m H, Wv i m H →
      (J.stop i H ∧ Nx H) ∨ (J.go i H ∧ ∃ Nx1 : Hp → Prop, (∀ H', Nx1 H' → ∃ m', m' < m ∧ Wv (i + 1) m' H') ∧ ∀ x H', J.yld i H x H' → TGR K sl f x (L2.wipe σ vs) H' fun σ2 H2 => L2.wipe σ2 vs = L2.wipe σ vs ∧ TTR K c σ2 H2 fun b H3 =>
        if b = true then TR K e σ2 H3 fun y H4 => ∃ acc, H4 p0 = some (.lst acc) ∧ acc.length < sizeLine ∧ Nx1 (upd H4 p0 (.lst (acc ++ [y]))) else Nx1 H3) := by
  refine ⟨fun i m H => ∃ W' μ' Si a2 av, m = xs.length - i ∧ i ≤ xs.length ∧ Ext W μ W' μ' ∧ Stt K W' (upd F p0 (.lst av)) μ' Si H ∧ Reps K W' μ' a2 av ∧ a2.length ≤ ac.length + i ∧ compL o xs (turnE f c e (wipeE ρ vs)) (xs.drop i) Si a2 = some (acc, S'),
    ⟨xs.length, W, μ, S, ac, av, by simp, Nat.zero_le _, Ext.refl, st, ra, Nat.le_refl _, by simpa using h⟩, ?_⟩
  rintro i m H ⟨W', μ', Si, a2, av, rfl, hi, x, sti, ra, la, hc⟩
  by_cases hlt : i < xs.length
  · obtain ⟨d0, hd0⟩ : ∃ d, xs[i]? = some d := ⟨xs[i], by simp [hlt]⟩
    rw [drop_at hd0] at hc
    unfold compL at hc
    split at hc
    · rename_i ok
      obtain ⟨go, yl⟩ := (wk i W' _ μ' Si H x sti ok).1 hlt
      obtain ⟨r, S1, e1, e2⟩ := bnd_inv hc
      obtain ⟨ρ1, e3, e4⟩ := lft_inv e1
      obtain ⟨t, S3, e5, e6⟩ := bnd_inv e4
      refine .inr ⟨go, fun H' => ∃ W' μ' Si a2 av, i + 1 ≤ xs.length ∧ Ext W μ W' μ' ∧ Stt K W' (upd F p0 (.lst av)) μ' Si H' ∧ Reps K W' μ' a2 av ∧ a2.length ≤ ac.length + (i + 1) ∧ compL o xs (turnE f c e (wipeE ρ vs)) (xs.drop (i + 1)) Si a2 = some (acc, S'),
        fun H' ⟨W2, μ2, S2, a2, v2, q1, q2, q3, q4, q5, q6⟩ => ⟨xs.length - (i + 1), by omega, W2, μ2, S2, a2, v2, rfl, q1, q2, q3, q4, q5, q6⟩, fun y H'' hy => ?_⟩
      obtain ⟨rfl, d, hd, rd⟩ := yl y H'' hy
      rw [hd0] at hd; cases hd
      refine ⟨W', upd F p0 (.lst av), μ', wipeE ρ vs, Si, d0, ρ1, sti, (en.mono x).wipe vs, rd, e3, fun σ2 en2 l2 k2 => ⟨wipe_eq l2 k2 hs, ?_⟩⟩
      refine ⟨W', upd F p0 (.lst av), μ', ρ1, Si, t, S3, sti, en2, e5, fun H3 W3 μ3 x3 st3 => ?_⟩
      cases t with
      | false =>
        rw [if_neg Bool.false_ne_true]
        rw [if_neg Bool.false_ne_true] at e6
        cases e6
        exact ⟨W3, μ3, _, a2, av, hlt, x.trans x3, st3, ra.m x3, by omega, e2⟩
      | true =>
        rw [if_pos rfl]
        rw [if_pos rfl] at e6
        obtain ⟨y', S4, e7, e8⟩ := bnd_inv e6
        cases e8
        refine ⟨W3, upd F p0 (.lst av), μ3, ρ1, S3, y', _, st3, en2.mono x3, e7, fun v H4 W4 μ4 x4 st4 r4 => ⟨av, st4.inF, by have := ra.length; omega, W4, μ4, _, a2 ++ [y'], av ++ [v], hlt, (x.trans x3).trans x4, st4.reframe, (ra.m (x3.trans x4)).app (Reps.one r4), by simp; omega, e2⟩⟩
    · cases hc
  · have : i = xs.length := by omega
    subst this
    rw [List.drop_length] at hc
    unfold compL at hc
    split at hc
    · rename_i ok
      cases hc
      exact .inl ⟨(wk _ W' _ μ' _ H x sti ok).2 (Nat.le_refl _), p _ _ _ _ x sti ra⟩
    · cases hc
noncomputable def turn2 (f : D → Env → Option Env) (c : Env → Sto → Rs Bool) (it : Env → Sto → Rs (List D × Option Nat)) (f1 : D → Env → Option Env) (c1 : Env → Sto → Rs Bool) (e : Env → Sto → Rs D) (vs1 : List Nat) (ρ : Env) : D → Sto → List D → Rs (List D) :=
  fun x S2 acc => lft (f x ρ) fun ρ1 => bnd (c ρ1 S2) fun t S3 => if t = true then
      bnd (it ρ1 S3) fun w1 S4 => if acc.length + w1.1.length ≤ sizeLine then compL w1.2 w1.1 (turnE f1 c1 e (wipeE ρ1 vs1)) w1.1 S4 acc else none
      else some (acc, S3)
theorem comp2_reads {S S' : Sto} {H1 : Hp} {σ : L2.St} {ρ : Env} {J : It} {xs acc : List D} {o : Option Nat} {f f1 : D → Env → Option Env} {c c1 : Env → Sto → Rs Bool} {it : Env → Sto → Rs (List D × Option Nat)} {e : Env → Sto → Rs D} {vs sl vs1 sl1 : List Nat} {Q : VK} {mu : Bool}
    (st : Stt K W F μ S H1) (en : EnvR K W μ ρ σ) (wk : WkOk K W μ xs o J) (hs : ∀ i ∈ sl, i ∈ vs) (hs1 : ∀ i ∈ sl1, i ∈ vs1)
    (h : compA o xs (turn2 f c it f1 c1 e vs1 (wipeE ρ vs)) xs S [] = some (acc, S'))
    (p : Post K W F μ (if mu = true then S' ++ [.lst acc] else S') (if mu = true then .ref S'.length else .lst acc) Q) :
    ∀ D, H1 D = none → ∃ Wv : Nat → Nat → Hp → Prop, (∃ m, Wv 0 m (upd H1 D (.lst []))) ∧ ∀ i m H, Wv i m H →
      (J.stop i H ∧ Q (.ref D) H) ∨ (J.go i H ∧ ∃ Nx : Hp → Prop, (∀ H', Nx H' → ∃ m', m' < m ∧ Wv (i + 1) m' H') ∧ ∀ x H', J.yld i H x H' → TGR K sl f x (L2.wipe σ vs) H' fun σ2 H2 => L2.wipe σ2 vs = L2.wipe σ vs ∧ TTR K c σ2 H2 fun b H3 =>
        if b = true then TIR K it σ2 H3 fun J1 H4 => ∃ W1 : Nat → Nat → Hp → Prop, (∃ m, W1 0 m H4) ∧ ∀ j k H, W1 j k H →
          (J1.stop j H ∧ Nx H) ∨ (J1.go j H ∧ ∃ Nx1 : Hp → Prop, (∀ H', Nx1 H' → ∃ k', k' < k ∧ W1 (j + 1) k' H') ∧ ∀ x H', J1.yld j H x H' → TGR K sl1 f1 x (L2.wipe σ2 vs1) H' fun σ3 H5 => L2.wipe σ3 vs1 = L2.wipe σ2 vs1 ∧ TTR K c1 σ3 H5 fun b H6 =>
            if b = true then TR K e σ3 H6 fun y H7 => ∃ acc, H7 D = some (.lst acc) ∧ acc.length < sizeLine ∧ Nx1 (upd H7 D (.lst (acc ++ [y]))) else Nx1 H6)
        else Nx H3) := by
  intro p0 hp0
  have hF := (st.noF hp0).1
  refine ⟨fun i m H => ∃ W' μ' Si ac av, m = xs.length - i ∧ i ≤ xs.length ∧ Ext W μ W' μ' ∧ Stt K W' (upd F p0 (.lst av)) μ' Si H ∧ Reps K W' μ' ac av ∧ compA o xs (turn2 f c it f1 c1 e vs1 (wipeE ρ vs)) (xs.drop i) Si ac = some (acc, S'),
    ⟨xs.length, W, μ, S, [], [], by simp, Nat.zero_le _, Ext.refl, st.frame _ hp0, rfl, by simpa using h⟩, ?_⟩
  rintro i m H ⟨W', μ', Si, ac, av, rfl, hi, x, sti, ra, hc⟩
  by_cases hlt : i < xs.length
  · obtain ⟨d0, hd0⟩ : ∃ d, xs[i]? = some d := ⟨xs[i], by simp [hlt]⟩
    rw [drop_at hd0] at hc
    unfold compA at hc
    split at hc
    · rename_i ok
      obtain ⟨go, yl⟩ := (wk i W' _ μ' Si H x sti ok).1 hlt
      obtain ⟨r, S1, e1, e2⟩ := bnd_inv hc
      obtain ⟨ρ1, e3, e4⟩ := lft_inv e1
      obtain ⟨t, S3, e5, e6⟩ := bnd_inv e4
      refine .inr ⟨go, fun H' => ∃ W' μ' Si ac av, i + 1 ≤ xs.length ∧ Ext W μ W' μ' ∧ Stt K W' (upd F p0 (.lst av)) μ' Si H' ∧ Reps K W' μ' ac av ∧ compA o xs (turn2 f c it f1 c1 e vs1 (wipeE ρ vs)) (xs.drop (i + 1)) Si ac = some (acc, S'),
        fun H' ⟨W2, μ2, S2, a2, v2, q1, q2, q3, q4, q6⟩ => ⟨xs.length - (i + 1), by omega, W2, μ2, S2, a2, v2, rfl, q1, q2, q3, q4, q6⟩, fun y H'' hy => ?_⟩
      obtain ⟨rfl, d, hd, rd⟩ := yl y H'' hy
      rw [hd0] at hd; cases hd
      refine ⟨W', upd F p0 (.lst av), μ', wipeE ρ vs, Si, d0, ρ1, sti, (en.mono x).wipe vs, rd, e3, fun σ2 en2 l2 k2 => ⟨wipe_eq l2 k2 hs, ?_⟩⟩
      refine ⟨W', upd F p0 (.lst av), μ', ρ1, Si, t, S3, sti, en2, e5, fun H3 W3 μ3 x3 st3 => ?_⟩
      cases t with
      | false =>
        rw [if_neg Bool.false_ne_true]
        rw [if_neg Bool.false_ne_true] at e6
        cases e6
        exact ⟨W3, μ3, _, ac, av, hlt, x.trans x3, st3, ra.m x3, e2⟩
      | true =>
        rw [if_pos rfl]
        rw [if_pos rfl] at e6
        obtain ⟨w1, S4, e7, e8⟩ := bnd_inv e6
        split at e8
        · rename_i hl
          refine ⟨W3, upd F p0 (.lst av), μ3, ρ1, S3, w1, S4, st3, en2.mono x3, e7, fun J1 H4 W4 μ4 x4 st4 wk4 => ?_⟩
          exact comp_in st4 (en2.mono (x3.trans x4)) (ra.m (x3.trans x4)) wk4 hl hs1 e8 fun H5 W5 μ5 av5 x5 st5 ra5 => ⟨W5, μ5, _, r, av5, hlt, ((x.trans x3).trans x4).trans x5, st5, ra5, e2⟩
        · cases e8
    · cases hc
  · have : i = xs.length := by omega
    subst this
    rw [List.drop_length] at hc
    unfold compA at hc
    split at hc
    · rename_i ok
      cases hc
      refine .inl ⟨(wk _ W' _ μ' _ H x sti ok).2 (Nat.le_refl _), ?_⟩
      cases mu with
      | false =>
        obtain ⟨st2, x2⟩ := sti.toImm hF
        exact p _ _ _ _ (x.trans x2) st2 ⟨p0, av, rfl, upd_same, ra.m x2⟩
      | true =>
        have x2 : Ext W' μ' W' (μ' ++ [p0]) := ⟨fun _ _ h => h, fun r a h => by rw [List.getElem?_append_left (List.getElem?_eq_some_iff.mp h).1]; exact h⟩
        obtain ⟨st2, _⟩ := sti.toCell (c := .lst acc) hF ⟨av, sti.inF, ra.m x2⟩
        exact p _ _ _ _ (x.trans x2) st2 ⟨p0, by rw [← sti.len]; simp, rfl⟩
    · cases hc

/-! ### for -/
theorem for_reads {S S' : Sto} {H1 : Hp} {σ : L2.St} {ρ : Env} {J : It} {xs : List D} {o : Option Nat} {f : D → Env → Option Env} {b : Env → Sto → Rs Fl} {sl : List Nat} {fl : Fl} {D : Ends}
    (st : Stt K W F μ S H1) (en : EnvR K W μ ρ σ) (wk : WkOk K W μ xs o J)
    (h : forL o xs (fun x ρ1 S2 => lft (f x ρ1) fun ρ2 => b ρ2 S2) xs ρ S = some (fl, S')) (p : PostS K W F μ S' fl D) :
    ∃ Wv : Nat → Nat → L2.St → Hp → Prop, (∃ m, Wv 0 m σ H1) ∧ ∀ i m σ H, Wv i m σ H →
      (J.stop i H ∧ D.nx σ H) ∨ (J.go i H ∧ ∃ N : L2.St → Hp → Prop, (∀ σ' H', N σ' H' → ∃ m', m' < m ∧ Wv (i + 1) m' σ' H') ∧ ∀ x H', J.yld i H x H' → TGR K sl f x σ H' fun σ2 H2 => TSR K b { D with nx := N, ct := N, bk := D.nx } σ2 H2) := by
  refine ⟨fun i m σ H => ∃ W' μ' ρi Si, m = xs.length - i ∧ i ≤ xs.length ∧ Ext W μ W' μ' ∧ Stt K W' F μ' Si H ∧ EnvR K W' μ' ρi σ ∧ forL o xs (fun x ρ1 S2 => lft (f x ρ1) fun ρ2 => b ρ2 S2) (xs.drop i) ρi Si = some (fl, S'),
    ⟨xs.length, W, μ, ρ, S, by simp, Nat.zero_le _, Ext.refl, st, en, by simpa using h⟩, ?_⟩
  rintro i m σ H ⟨W', μ', ρi, Si, rfl, hi, x, sti, eni, hc⟩
  by_cases hlt : i < xs.length
  · obtain ⟨d0, hd0⟩ : ∃ d, xs[i]? = some d := ⟨xs[i], by simp [hlt]⟩
    rw [drop_at hd0] at hc
    unfold forL at hc
    split at hc
    · rename_i ok
      obtain ⟨go, yl⟩ := (wk i W' _ μ' Si H x sti ok).1 hlt
      obtain ⟨fl1, S1, e1, e2⟩ := bnd_inv hc
      obtain ⟨ρ2, e3, e4⟩ := lft_inv e1
      refine .inr ⟨go, fun σ' H' => ∃ W' μ' ρi Si, i + 1 ≤ xs.length ∧ Ext W μ W' μ' ∧ Stt K W' F μ' Si H' ∧ EnvR K W' μ' ρi σ' ∧ forL o xs (fun x ρ1 S2 => lft (f x ρ1) fun ρ2 => b ρ2 S2) (xs.drop (i + 1)) ρi Si = some (fl, S'),
        fun σ' H' ⟨W2, μ2, r2, S2, q1, q2, q3, q4, q5⟩ => ⟨xs.length - (i + 1), by omega, W2, μ2, r2, S2, rfl, q1, q2, q3, q4, q5⟩, fun y H'' hy => ?_⟩
      obtain ⟨rfl, d, hd, rd⟩ := yl y H'' hy
      rw [hd0] at hd; cases hd
      refine ⟨W', F, μ', ρi, Si, d0, ρ2, sti, eni, rd, e3, fun σ2 en2 _ _ => ⟨W', F, μ', ρ2, Si, fl1, S1, sti, en2, e4, ?_⟩⟩
      cases fl1 with
      | nx ρ3 => exact fun σ3 H3 W3 μ3 x3 st3 en3 => ⟨W3, μ3, ρ3, S1, hlt, x.trans x3, st3, en3, e2⟩
      | bk ρ3 =>
        cases e2
        exact fun σ3 H3 W3 μ3 x3 st3 en3 => p σ3 H3 W3 μ3 (x.trans x3) st3 en3
      | rt d =>
        cases e2
        exact fun v H3 W3 μ3 x3 st3 r3 => p v H3 W3 μ3 (x.trans x3) st3 r3
    · cases hc
  · have : i = xs.length := by omega
    subst this
    rw [List.drop_length] at hc
    unfold forL at hc
    split at hc
    · rename_i ok
      cases hc
      exact .inl ⟨(wk _ W' _ μ' _ H x sti ok).2 (Nat.le_refl _), p σ H W' μ' x sti eni⟩
    · cases hc

/-! ### while -/
theorem whE_inv {c : Env → Sto → Rs Bool} {b : Env → Sto → Rs Fl} {ρ : Env} {S : Sto} {r : Fl × Sto} (h : whE c b ρ S = some r) : ∃ n, whF c b n ρ S = some r := by
  unfold whE at h
  split at h
  · exact ⟨_, h⟩
  · cases h
theorem while_reads {S S' : Sto} {H : Hp} {σ : L2.St} {ρ : Env} {c : Env → Sto → Rs Bool} {b : Env → Sto → Rs Fl} {fl : Fl} {D : Ends}
    (st : Stt K W F μ S H) (en : EnvR K W μ ρ σ) (h : whE c b ρ S = some (fl, S')) (p : PostS K W F μ S' fl D) : tWhile (TTR K c) (TSR K b) D σ H := by
  obtain ⟨n, h⟩ := whE_inv h
  refine ⟨fun m σ H => ∃ W' μ' ρi Si, Ext W μ W' μ' ∧ Stt K W' F μ' Si H ∧ EnvR K W' μ' ρi σ ∧ whF c b m ρi Si = some (fl, S'), ⟨n, W, μ, ρ, S, Ext.refl, st, en, h⟩, ?_⟩
  rintro m σ H ⟨W', μ', ρi, Si, x, sti, eni, hc⟩
  cases m with
  | zero => cases hc
  | succ m =>
    obtain ⟨t, S1, e1, e2⟩ := bnd_inv (show bnd (c ρi Si) _ = _ from hc)
    refine ⟨W', F, μ', ρi, Si, t, S1, sti, eni, e1, fun H1 W1 μ1 x1 st1 => ?_⟩
    cases t with
    | false =>
      rw [if_neg Bool.false_ne_true] at e2 ⊢
      cases e2
      exact p σ H1 W1 μ1 (x.trans x1) st1 (eni.mono x1)
    | true =>
      rw [if_pos rfl] at e2 ⊢
      obtain ⟨fl1, S2, e3, e4⟩ := bnd_inv e2
      refine ⟨fun σ' H' => ∃ W' μ' ρi Si, Ext W μ W' μ' ∧ Stt K W' F μ' Si H' ∧ EnvR K W' μ' ρi σ' ∧ whF c b m ρi Si = some (fl, S'), fun σ' H' q => ⟨m, Nat.lt_succ_self _, q⟩, ?_⟩
      refine ⟨W1, F, μ1, ρi, S1, fl1, S2, st1, eni.mono x1, e3, ?_⟩
      cases fl1 with
      | nx ρ3 => exact fun σ3 H3 W3 μ3 x3 st3 en3 => ⟨W3, μ3, ρ3, S2, (x.trans x1).trans x3, st3, en3, e4⟩
      | bk ρ3 =>
        cases e4
        exact fun σ3 H3 W3 μ3 x3 st3 en3 => p σ3 H3 W3 μ3 ((x.trans x1).trans x3) st3 en3
      | rt d =>
        cases e4
        exact fun v H3 W3 μ3 x3 st3 r3 => p v H3 W3 μ3 ((x.trans x1).trans x3) st3 r3
end
end Rw

/-! M9: the text does what is said -/
namespace Rw
open PySem PySem.Spec PyProof.Rows L2

/-- a def's promise: what the call cl gives -/
def spOf (K : PySem.W.Frag) (n : Nat) (cl : List D → Sto → Rs D) : Sp := fun vs H Q _ => vs.length = n ∧ ∃ W F μ S ds d S', Stt K W F μ S H ∧ Reps K W μ ds vs ∧ cl ds S = some (d, S') ∧ Post K W F μ S' d Q
structure GF (P : Program) (w : World) (K : PySem.W.Frag) (mg : Str → Option Value) (base : Heap) (G : GT) (k : Nat) (cl : Nat → List D → Sto → Rs D) : Prop where
  fn : ∀ g x f, G[g]? = some (x, .fn f) → ∃ a fd ps, mg x = some (.ref a) ∧ PySem.W.keepIn K (.ref a) = true ∧ Binds K fd ps [] ∧ FnOk P w K mg base CX0 k a fd ps (spOf K f.np (cl g))
  len : ∀ g x f ds S r, G[g]? = some (x, .fn f) → cl g ds S = some r → ds.length = f.np
  blt : ∀ (g : Nat) x, G[g]? = some (x, .blt) → mg x = none
  con : ∀ (g : Nat) x d, G[g]? = some (x, .con d) → ∃ u v, mg x = some u ∧ RelV v u ∧ ∀ W μ, Rep K W μ d v
structure Good (G : GT) (cl : Nat → List D → Sto → Rs D) (k : Nat) (Γ : Syn) (X : Cx) : Prop extends Sy Γ X where
  xe : X.xe = fun _ _ => False
  room : Room k X.A
  gf : GF X.prog X.w X.K X.mg X.base G k cl
section
variable {G : GT} {cl : Nat → List D → Sto → Rs D} {k : Nat} {Γ : Syn} {X : Cx}
theorem Good.hu (g : Good G cl k Γ X) : X.A.units + 65 < cLine := by have := g.room.un; omega
theorem Good.hu1 (g : Good G cl k Γ X) : X.A.units + 1 < cLine := by have := g.room.units; omega
/-- within a comprehension -/
theorem Good.blk (g : Good G cl k Γ X) {scope : Scope} (s : Shared) (H : Hp) (C : Addr) (cells : List (Str × Addr)) (fp : List Addr) : Good G cl k (Γ.blk scope) (X.blk s H scope (compEnvC scope cells C X.env) fp) :=
  ⟨⟨g.N, g.nd, by show relS scope X.env.scope = relS scope Γ.sc; rw [g.sc], rfl, g.calm⟩, rfl, g.room, g.gf⟩
theorem Good.passes (g : Good G cl k Γ X) : PassesOwn (model X.prog X.w) X.A X.env X.xe := by rw [g.xe]; exact PassesOwn.never
theorem vis_ok (y : Sy Γ X) {i : Nat} {x : Str} {pos : Pos} (h : visB Γ i x = true) : PE X (.Name x pos) (tVar i) := by
  obtain ⟨h1, h2⟩ := bk h
  obtain ⟨h3, h4⟩ := bk h2
  obtain ⟨h5, h6⟩ := bk h4
  refine pe_var (by rw [y.N]; exact dec h1) ?_ (by simpa using h5) (by simpa using h6)
  unfold Vis
  rw [y.sc]
  split at h3
  · rename_i e; exact .inl e
  · rename_i e; exact .inr (.inl e)
  · rename_i e; exact .inr (.inr e)
  · cases h3
theorem gl_ok (y : Sy Γ X) {g : Nat} {x : Str} (h : glB G Γ g x = true) : (∃ q, G[g]? = some (x, q)) ∧ Gl X x ∧ (x == ("__debug__" : Str)) = false ∧ x ≠ "__name__" := by
  obtain ⟨h1, h2⟩ := bk h
  obtain ⟨h3, h4⟩ := bk h2
  obtain ⟨h5, h6⟩ := bk h4
  refine ⟨?_, by show X.env.scope.names.lookup x = _; rw [y.sc]; exact dec h3, by simpa using h5, dec h6⟩
  cases c : G[g]? with
  | none => rw [c] at h1; cases h1
  | some p =>
    rw [c] at h1
    have e : p.1 = x := dec h1
    exact ⟨p.2, by rw [← e]⟩
theorem fn_at {g : Nat} {x : Str} {q : GK} (h : G[g]? = some (x, q)) (h2 : isFnB G g = true) : ∃ f, G[g]? = some (x, .fn f) := by
  unfold isFnB at h2
  rw [h] at h2
  cases q with
  | fn f => exact ⟨f, h⟩
  | _ => cases h2
theorem blt_at {g : Nat} {x : Str} {q : GK} (h : G[g]? = some (x, q)) (h2 : isBlt G g = true) : G[g]? = some (x, .blt) := by
  unfold isBlt at h2
  rw [h] at h2
  cases q with
  | blt => exact h
  | _ => cases h2
/-- an argument list's trees -/
theorem stars_any : ∀ {m : MEs} {xs : List Expr} {pos : Pos} {env : PySem.Env}, chkEs G m Γ xs = true → (backTo pos (starEach xs env)).any (·.1) = false ∧ (backTo pos (starEach xs env)).all (fun x => !x.1) = true
  | .nil, [], _, _, _ => ⟨rfl, rfl⟩
  | .nil, _ :: _, _, _, h => by cases h
  | .cons e es, [], _, _, h => by cases h
  | .cons e es, x :: xs, pos, env, h => by
    obtain ⟨h1, h2⟩ := bk (show (okX x && (chkE G e Γ x && chkEs G es Γ xs)) = true from h)
    obtain ⟨_, h3⟩ := bk h2
    obtain ⟨a, b⟩ := stars_any (pos := pos) (env := env) h3
    rw [star_ok h1]
    exact ⟨by show (false || (backTo pos (starEach xs env)).any (·.1)) = false; rw [a]; rfl, by show (!false && (backTo pos (starEach xs env)).all (fun x => !x.1)) = true; rw [b]; rfl⟩
theorem PE.bool {e : Expr} {ev : Env → Sto → Rs D} (h : PE X e (TR X.K ev)) (hp : ∀ whole, isTrue e X.env whole = (do let v ← whole; standAt e.pos; holding [v] (truthy v))) :
    PT X e (TTR X.K fun ρ S => bnd (ev ρ S) fun d S1 => lft (truD S1 d) fun t => some (t, S1)) := by
  refine (pt_truth h hp).weak ?_
  rintro σ H Q ⟨W, F, μ, ρ, S, b, S', st, en, e, p⟩
  obtain ⟨d, S1, e1, e2⟩ := bnd_inv e
  obtain ⟨t, e3, e4⟩ := lft_inv e2
  cases e4
  exact ⟨W, F, μ, ρ, S, d, _, st, en, e1, fun v H' W' μ' x st' r => ⟨b, tru_rep st' r e3, p H' W' μ' x st'⟩⟩
end
section
variable (G : GT) (cl : Nat → List D → Sto → Rs D) (k : Nat)
/-- an expression, as a value, as a test, as a chain of and | or -/
structure Eok (m : ME) (X : Cx) (e : Expr) : Prop where
  pe : PE X e (TR X.K (evE G cl m))
  pt : PT X e (TTR X.K (evT G cl m))
  pw : ∀ op es pos, e = .BoolOp op es pos → PW X e (TTR X.K (evT G cl m))
variable {G cl k}
theorem Eok.plain {m : ME} {X : Cx} {e : Expr} (h : PE X e (TR X.K (evE G cl m))) (hp : ∀ whole, isTrue e X.env whole = (do let v ← whole; standAt e.pos; holding [v] (truthy v))) (hb : ∀ op es pos, e ≠ .BoolOp op es pos) : Eok G cl m X e :=
  ⟨h, PE.bool h hp, fun op es pos q => absurd q (hb op es pos)⟩
variable {Γ : Syn} {X : Cx}
theorem tr_and {a b : ME} {x y : Expr} {r : List Expr} {pos : Pos} (ha : PE X x (TR X.K (evE G cl a))) (hb : PE X (.BoolOp .And (y :: r) pos) (TR X.K (evE G cl b))) : PE X (.BoolOp .And (x :: y :: r) pos) (TR X.K (evE G cl (.and a b))) := by
  refine (pe_andT ha hb).weak ?_
  rintro σ H Q ⟨W, F, μ, ρ, S, d, S', st, en, e, p⟩
  obtain ⟨d1, S1, e1, e2⟩ := bnd_inv e
  obtain ⟨t, e3, e4⟩ := lft_inv e2
  refine ⟨W, F, μ, ρ, S, d1, S1, st, en, e1, fun v H' W' μ' x st' rr => ⟨t, tru_rep st' rr e3, ?_⟩⟩
  cases t with
  | true => rw [if_pos rfl] at e4 ⊢; exact ⟨W', F, μ', ρ, S1, d, S', st', en.mono x, e4, p.ext x⟩
  | false =>
    rw [if_neg Bool.false_ne_true] at e4 ⊢
    cases e4
    exact p v H' W' μ' x st' rr
theorem tr_or {a b : ME} {x y : Expr} {r : List Expr} {pos : Pos} (ha : PE X x (TR X.K (evE G cl a))) (hb : PE X (.BoolOp .Or (y :: r) pos) (TR X.K (evE G cl b))) : PE X (.BoolOp .Or (x :: y :: r) pos) (TR X.K (evE G cl (.or a b))) := by
  refine (pe_orT ha hb).weak ?_
  rintro σ H Q ⟨W, F, μ, ρ, S, d, S', st, en, e, p⟩
  obtain ⟨d1, S1, e1, e2⟩ := bnd_inv e
  obtain ⟨t, e3, e4⟩ := lft_inv e2
  refine ⟨W, F, μ, ρ, S, d1, S1, st, en, e1, fun v H' W' μ' x st' rr => ⟨t, tru_rep st' rr e3, ?_⟩⟩
  cases t with
  | false => rw [if_neg Bool.false_ne_true] at e4 ⊢; exact ⟨W', F, μ', ρ, S1, d, S', st', en.mono x, e4, p.ext x⟩
  | true =>
    rw [if_pos rfl] at e4 ⊢
    cases e4
    exact p v H' W' μ' x st' rr
theorem tt_and {a b : ME} {x y : Expr} {r : List Expr} {pos : Pos} (ha : PT X x (TTR X.K (evT G cl a))) (hb : PW X (.BoolOp .And (y :: r) pos) (TTR X.K (evT G cl b))) : PW X (.BoolOp .And (x :: y :: r) pos) (TTR X.K (evT G cl (.and a b))) := by
  refine (pw_and ha hb).weak ?_
  rintro σ H Q ⟨W, F, μ, ρ, S, t, S', st, en, e, p⟩
  obtain ⟨d, S2, e1, e2⟩ := bnd_inv e
  obtain ⟨t', e3, e4⟩ := lft_inv e2
  cases e4
  obtain ⟨d1, S1, e5, e6⟩ := bnd_inv e1
  obtain ⟨t1, e7, e8⟩ := lft_inv e6
  refine ⟨W, F, μ, ρ, S, t1, S1, st, en, by simp only [evT, e5, bnd_some, e7, lft_some], fun H' W' μ' x st' => ?_⟩
  cases t1 with
  | true => rw [if_pos rfl] at e8 ⊢; exact ⟨W', F, μ', ρ, S1, t, _, st', en.mono x, by simp only [evT, e8, bnd_some, e3, lft_some], p.ext x⟩
  | false =>
    rw [if_neg Bool.false_ne_true] at e8 ⊢
    cases e8
    rw [e7] at e3; cases e3
    exact p H' W' μ' x st'
theorem tt_or {a b : ME} {x y : Expr} {r : List Expr} {pos : Pos} (ha : PT X x (TTR X.K (evT G cl a))) (hb : PW X (.BoolOp .Or (y :: r) pos) (TTR X.K (evT G cl b))) : PW X (.BoolOp .Or (x :: y :: r) pos) (TTR X.K (evT G cl (.or a b))) := by
  refine (pw_or ha hb).weak ?_
  rintro σ H Q ⟨W, F, μ, ρ, S, t, S', st, en, e, p⟩
  obtain ⟨d, S2, e1, e2⟩ := bnd_inv e
  obtain ⟨t', e3, e4⟩ := lft_inv e2
  cases e4
  obtain ⟨d1, S1, e5, e6⟩ := bnd_inv e1
  obtain ⟨t1, e7, e8⟩ := lft_inv e6
  refine ⟨W, F, μ, ρ, S, t1, S1, st, en, by simp only [evT, e5, bnd_some, e7, lft_some], fun H' W' μ' x st' => ?_⟩
  cases t1 with
  | false => rw [if_neg Bool.false_ne_true] at e8 ⊢; exact ⟨W', F, μ', ρ, S1, t, _, st', en.mono x, by simp only [evT, e8, bnd_some, e3, lft_some], p.ext x⟩
  | true =>
    rw [if_pos rfl] at e8 ⊢
    cases e8
    rw [e7] at e3; cases e3
    exact p H' W' μ' x st'
theorem tr_not {a : ME} {x : Expr} {pos : Pos} (ha : Eok G cl a X x) : Eok G cl (.not a) X (.UnaryOp .Not x pos) := by
  refine ⟨(pe_notT ha.pe).weak ?_, (pt_not ha.pt).weak ?_, fun op es pos q => by cases q⟩
  · rintro σ H Q ⟨W, F, μ, ρ, S, d, S', st, en, e, p⟩
    obtain ⟨d1, S1, e1, e2⟩ := bnd_inv e
    obtain ⟨t, e3, e4⟩ := lft_inv e2
    cases e4
    exact ⟨W, F, μ, ρ, S, d1, _, st, en, e1, fun v H' W' μ' x st' rr => ⟨t, tru_rep st' rr e3, (p.ext x).blv st'⟩⟩
  · rintro σ H Q ⟨W, F, μ, ρ, S, t, S', st, en, e, p⟩
    obtain ⟨d, S2, e1, e2⟩ := bnd_inv e
    obtain ⟨t', e3, e4⟩ := lft_inv e2
    cases e4
    obtain ⟨d1, S1, e5, e6⟩ := bnd_inv e1
    obtain ⟨t1, e7, e8⟩ := lft_inv e6
    cases e8
    cases e3
    exact ⟨W, F, μ, ρ, S, t1, _, st, en, by simp only [evT, e5, bnd_some, e7, lft_some], fun H' W' μ' x st' => p H' W' μ' x st'⟩
theorem tr_if {c a b : ME} {x y z : Expr} {pos : Pos} (hc : Eok G cl c X x) (ha : Eok G cl a X y) (hb : Eok G cl b X z) : Eok G cl (.ifE c a b) X (.IfExp x y z pos) := by
  refine ⟨(pe_ifExp hc.pt ha.pe hb.pe).weak ?_, ⟨fun pins s σ H Q I h => ?_⟩, fun op es pos q => by cases q⟩
  · rintro σ H Q ⟨W, F, μ, ρ, S, d, S', st, en, e, p⟩
    obtain ⟨d1, S1, e1, e2⟩ := bnd_inv e
    obtain ⟨t, e3, e4⟩ := lft_inv e2
    refine ⟨W, F, μ, ρ, S, t, S1, st, en, by simp only [evT, e1, bnd_some, e3, lft_some], fun H' W' μ' x st' => ?_⟩
    cases t with
    | true => rw [if_pos rfl] at e4 ⊢; exact ⟨W', F, μ', ρ, S1, d, S', st', en.mono x, e4, p.ext x⟩
    | false => rw [if_neg Bool.false_ne_true] at e4 ⊢; exact ⟨W', F, μ', ρ, S1, d, S', st', en.mono x, e4, p.ext x⟩
  · obtain ⟨W, F, μ, ρ, S, t, S', st, en, e, p⟩ := h
    obtain ⟨d, S2, e1, e2⟩ := bnd_inv e
    obtain ⟨t', e3, e4⟩ := lft_inv e2
    cases e4
    obtain ⟨d1, S1, e5, e6⟩ := bnd_inv e1
    obtain ⟨t1, e7, e8⟩ := lft_inv e6
    refine isTrue_IfExp (thn (hc.pt.run pins s σ H (fun b' H1 => if b' = true then TTR X.K (evT G cl a) σ H1 Q else TTR X.K (evT G cl b) σ H1 Q) I
      ⟨W, F, μ, ρ, S, t1, S1, st, en, by simp only [evT, e5, bnd_some, e7, lft_some], fun H' W' μ' x st' => ?_⟩) fun bb s1 ⟨H1, I1, q1⟩ => ?_)
    · cases t1 with
      | true => rw [if_pos rfl] at e8 ⊢; exact ⟨W', F, μ', ρ, S1, t, _, st', en.mono x, by simp only [evT, e8, bnd_some, e3, lft_some], p.ext x⟩
      | false => rw [if_neg Bool.false_ne_true] at e8 ⊢; exact ⟨W', F, μ', ρ, S1, t, _, st', en.mono x, by simp only [evT, e8, bnd_some, e3, lft_some], p.ext x⟩
    · cases bb with
      | true => exact ha.pt.run pins s1 σ H1 Q I1 q1
      | false => exact hb.pt.run pins s1 σ H1 Q I1 q1
theorem tr_bin {op : Operator} {a b : ME} {x y : Expr} {pos : Pos} (ha : PE X x (TR X.K (evE G cl a))) (hb : PE X y (TR X.K (evE G cl b))) : PE X (.BinOp x op y pos) (TR X.K (evE G cl (.bin op a b))) := by
  refine (pe_op (op_bin op) ha hb).weak ?_
  rintro σ H Q ⟨W, F, μ, ρ, S, d, S', st, en, e, p⟩
  obtain ⟨d1, S1, e1, e2⟩ := bnd_inv e
  obtain ⟨d2, S2, e3, e4⟩ := bnd_inv e2
  obtain ⟨r, e5, e6⟩ := lft_inv e4
  cases e6
  exact ⟨W, F, μ, ρ, S, d1, S1, st, en, e1, fun v1 H1 W1 μ1 x1 st1 r1 => ⟨W1, F, μ1, ρ, S1, d2, _, st1, en.mono x1, e3, fun v2 H2 W2 μ2 x2 st2 r2 => ⟨W2, F, μ2, _, d1, d2, d, st2, r1.m x2, r2, e5, p.ext (x1.trans x2)⟩⟩⟩
theorem tr_idx (hu : X.A.units + 1 < cLine) {a b : ME} {x y : Expr} {pos : Pos} (ok : okX y = true) (ha : PE X x (TR X.K (evE G cl a))) (hb : PE X y (TR X.K (evE G cl b))) : PE X (.Subscript x y pos) (TR X.K (evE G cl (.idx a b))) := by
  refine (pe_ix (ix_any hu) ha hb fun o i => sub_ok ok o i).weak ?_
  rintro σ H Q ⟨W, F, μ, ρ, S, d, S', st, en, e, p⟩
  obtain ⟨d1, S1, e1, e2⟩ := bnd_inv e
  obtain ⟨d2, S2, e3, e4⟩ := bnd_inv e2
  obtain ⟨r, e5, e6⟩ := lft_inv e4
  cases e6
  exact ⟨W, F, μ, ρ, S, d1, S1, st, en, e1, fun v1 H1 W1 μ1 x1 st1 r1 => ⟨W1, F, μ1, ρ, S1, d2, _, st1, en.mono x1, e3, fun v2 H2 W2 μ2 x2 st2 r2 => ⟨W2, F, μ2, _, d1, d2, d, st2, r1.m x2, r2, e5, p.ext (x1.trans x2)⟩⟩⟩
theorem tr_cmp (hu : X.A.units + 65 < cLine) {op : CmpOp} {a b : ME} {x y : Expr} {pos : Pos} (ok : okX y = true) (ha : PE X x (TR X.K (evE G cl a))) (hb : PE X y (TR X.K (evE G cl b))) : Eok G cl (.cmp op a b) X (.Compare x [op] [y] pos) := by
  refine ⟨(pe_cmpR (op_cmp hu op) ha hb (mark_ok ok op)).weak ?_, (pt_cmpR (op_cmp hu op) ha hb (mark_ok ok op)).weak ?_, fun op es pos q => by cases q⟩
  · rintro σ H Q ⟨W, F, μ, ρ, S, d, S', st, en, e, p⟩
    obtain ⟨d1, S1, e1, e2⟩ := bnd_inv e
    obtain ⟨d2, S2, e3, e4⟩ := bnd_inv e2
    obtain ⟨r, e5, e6⟩ := lft_inv e4
    cases e6
    exact ⟨W, F, μ, ρ, S, d1, S1, st, en, e1, fun v1 H1 W1 μ1 x1 st1 r1 => ⟨W1, F, μ1, ρ, S1, d2, _, st1, en.mono x1, e3, fun v2 H2 W2 μ2 x2 st2 r2 => ⟨W2, F, μ2, _, d1, d2, r, st2, r1.m x2, r2, e5, fun H3 W3 μ3 x3 st3 => p _ H3 W3 μ3 ((x1.trans x2).trans x3) st3 rfl⟩⟩⟩
  · rintro σ H Q ⟨W, F, μ, ρ, S, t, S', st, en, e, p⟩
    obtain ⟨d, S3, e7, e8⟩ := bnd_inv e
    obtain ⟨t', e9, e10⟩ := lft_inv e8
    cases e10
    obtain ⟨d1, S1, e1, e2⟩ := bnd_inv e7
    obtain ⟨d2, S2, e3, e4⟩ := bnd_inv e2
    obtain ⟨r, e5, e6⟩ := lft_inv e4
    cases e6
    cases e9
    exact ⟨W, F, μ, ρ, S, d1, S1, st, en, e1, fun v1 H1 W1 μ1 x1 st1 r1 => ⟨W1, F, μ1, ρ, S1, d2, _, st1, en.mono x1, e3, fun v2 H2 W2 μ2 x2 st2 r2 => ⟨W2, F, μ2, _, d1, d2, t, st2, r1.m x2, r2, e5, fun H3 W3 μ3 x3 st3 => ⟨t, rfl, p H3 W3 μ3 ((x1.trans x2).trans x3) st3⟩⟩⟩⟩
theorem tr_ch (hu : X.A.units + 65 < cLine) {op op' : CmpOp} {a b c : ME} {x y z : Expr} {pos : Pos} (ok : okX z = true) (ha : PE X x (TR X.K (evE G cl a))) (hb : PE X y (TR X.K (evE G cl b))) (hc : PE X z (TR X.K (evE G cl c))) : Eok G cl (.ch op op' a b c) X (.Compare x [op, op'] [y, z] pos) := by
  refine ⟨(pe_chain (op_cmp hu op) (op_cmp hu op') ha hb hc (mark_ok ok op')).weak ?_, (pt_chain (op_cmp hu op) (op_cmp hu op') ha hb hc (mark_ok ok op')).weak ?_, fun op es pos q => by cases q⟩
  · rintro σ H Q ⟨W, F, μ, ρ, S, d, S', st, en, e, p⟩
    obtain ⟨d1, S1, e1, e2⟩ := bnd_inv e
    obtain ⟨d2, S2, e3, e4⟩ := bnd_inv e2
    obtain ⟨r, e5, e6⟩ := lft_inv e4
    refine ⟨W, F, μ, ρ, S, d1, S1, st, en, e1, fun v1 H1 W1 μ1 x1 st1 r1 => ⟨W1, F, μ1, ρ, S1, d2, _, st1, en.mono x1, e3, fun v2 H2 W2 μ2 x2 st2 r2 => ⟨W2, F, μ2, _, d1, d2, r, st2, r1.m x2, r2, e5, fun H3 W3 μ3 x3 st3 => ⟨r, rfl, ?_⟩⟩⟩⟩
    cases r with
    | false =>
      cases e6
      exact p _ H3 W3 μ3 ((x1.trans x2).trans x3) st3 rfl
    | true =>
      obtain ⟨d3, S3, e7, e8⟩ := bnd_inv (show bnd (evE G cl c ρ S2) (fun f S3 => lft (cmpD S3 op' d2 f) fun q => some (.bl q, S3)) = some (d, S') from e6)
      obtain ⟨t, e9, e10⟩ := lft_inv e8
      cases e10
      exact ⟨W3, F, μ3, ρ, S2, d3, _, st3, en.mono ((x1.trans x2).trans x3), e7, fun v4 H4 W4 μ4 x4 st4 r4 => ⟨W4, F, μ4, _, d2, d3, t, st4, (r2.m x3).m x4, r4, e9, fun H5 W5 μ5 x5 st5 => p _ H5 W5 μ5 ((((x1.trans x2).trans x3).trans x4).trans x5) st5 rfl⟩⟩
  · rintro σ H Q ⟨W, F, μ, ρ, S, t, S', st, en, e, p⟩
    obtain ⟨d, S3, e7, e8⟩ := bnd_inv e
    obtain ⟨t', e9, e10⟩ := lft_inv e8
    cases e10
    obtain ⟨d1, S1, e1, e2⟩ := bnd_inv e7
    obtain ⟨d2, S2, e3, e4⟩ := bnd_inv e2
    obtain ⟨r, e5, e6⟩ := lft_inv e4
    refine ⟨W, F, μ, ρ, S, d1, S1, st, en, e1, fun v1 H1 W1 μ1 x1 st1 r1 => ⟨W1, F, μ1, ρ, S1, d2, _, st1, en.mono x1, e3, fun v2 H2 W2 μ2 x2 st2 r2 => ⟨W2, F, μ2, _, d1, d2, r, st2, r1.m x2, r2, e5, fun H3 W3 μ3 x3 st3 => ⟨r, rfl, ?_⟩⟩⟩⟩
    cases r with
    | false =>
      cases e6
      cases e9
      exact ⟨false, rfl, p H3 W3 μ3 ((x1.trans x2).trans x3) st3⟩
    | true =>
      obtain ⟨d3, S3', e7', e8'⟩ := bnd_inv (show bnd (evE G cl c ρ S2) (fun f S3 => lft (cmpD S3 op' d2 f) fun q => some (.bl q, S3)) = some (d, _) from e6)
      obtain ⟨t2, e9', e10'⟩ := lft_inv e8'
      cases e10'
      cases e9
      exact ⟨W3, F, μ3, ρ, S2, d3, _, st3, en.mono ((x1.trans x2).trans x3), e7', fun v4 H4 W4 μ4 x4 st4 r4 => ⟨W4, F, μ4, _, d2, d3, _, st4, (r2.m x3).m x4, r4, e9', fun H5 W5 μ5 x5 st5 => ⟨_, rfl, p H5 W5 μ5 ((((x1.trans x2).trans x3).trans x4).trans x5) st5⟩⟩⟩
end
end Rw

/-! M10: .. further -/
namespace Rw
open PySem PySem.Spec PyProof.Rows L2
section
variable {G : GT} {cl : Nat → List D → Sto → Rs D} {k : Nat} {Γ : Syn} {X : Cx}
/-- not a chain of and | or, and a plain test -/
theorem Eok.of {m : ME} {e : Expr} (h : PE X e (TR X.K (evE G cl m))) (hp : ∀ whole, isTrue e X.env whole = (do let v ← whole; standAt e.pos; holding [v] (truthy v)) := by intro _; rfl) (hb : ∀ op es pos, e ≠ .BoolOp op es pos := by intro _ _ _ q; cases q) : Eok G cl m X e := Eok.plain h hp hb
theorem PA.tr {es : MEs} {xs : List Expr} (h : PA X xs (TAR X.K (evEs G cl es))) : PA X xs (TAR X.K (evEs G cl es)) := h
theorem ta_nil : PA X [] (TAR X.K (evEs G cl .nil)) := pa_nil.weak (by
  rintro σ H Q ⟨W, F, μ, ρ, S, ds, S', st, en, e, p⟩
  cases e
  exact p [] H W μ Ext.refl st rfl)
theorem ta_cons {e : ME} {es : MEs} {x : Expr} {xs : List Expr} (ok : okX x = true) (h : PE X x (TR X.K (evE G cl e))) (hs : PA X xs (TAR X.K (evEs G cl es))) : PA X (x :: xs) (TAR X.K (evEs G cl (.cons e es))) := (pa_cons h hs (star_ok ok xs X.env)).weak (by
  rintro σ H Q ⟨W, F, μ, ρ, S, ds, S', st, en, e, p⟩
  obtain ⟨d1, S1, e1, e2⟩ := bnd_inv e
  obtain ⟨d2, S2, e3, e4⟩ := bnd_inv e2
  cases e4
  exact ⟨W, F, μ, ρ, S, d1, S1, st, en, e1, fun v1 H1 W1 μ1 x1 st1 r1 => ⟨W1, F, μ1, ρ, S1, d2, _, st1, en.mono x1, e3, fun v2 H2 W2 μ2 x2 st2 r2 => p _ H2 W2 μ2 (x1.trans x2) st2 ⟨v1, v2, rfl, r1.m x2, r2⟩⟩⟩)
theorem tr_tup {es : MEs} {xs : List Expr} {n : Nat} {pos : Pos} (h : PA X xs (TAR X.K (evEs G cl es))) : PE X (.Tuple xs n pos) (TR X.K (evE G cl (.tup es))) := (pe_tup h).weak (by
  rintro σ H Q ⟨W, F, μ, ρ, S, d, S', st, en, e, p⟩
  obtain ⟨ds, S1, e1, e2⟩ := bnd_inv e
  split at e2
  · rename_i c
    cases e2
    exact ⟨W, F, μ, ρ, S, ds, _, st, en, e1, fun vs H1 W1 μ1 x1 st1 r1 => ⟨by rw [r1.length]; exact c, (p.ext x1).tup st1 r1⟩⟩
  · cases e2)
theorem tr_lst {es : MEs} {xs : List Expr} {pos : Pos} (h : PA X xs (TAR X.K (evEs G cl es))) : PE X (.List xs pos) (TR X.K (evE G cl (.lst es))) := (pe_lst h).weak (by
  rintro σ H Q ⟨W, F, μ, ρ, S, d, S', st, en, e, p⟩
  obtain ⟨ds, S1, e1, e2⟩ := bnd_inv e
  split at e2
  · rename_i c
    cases e2
    exact ⟨W, F, μ, ρ, S, ds, _, st, en, e1, fun vs H1 W1 μ1 x1 st1 r1 => ⟨by rw [r1.length]; exact c, (p.ext x1).lst st1 r1⟩⟩
  · cases e2)
theorem tr_mlst {es : MEs} {xs : List Expr} {pos : Pos} (h : PA X xs (TAR X.K (evEs G cl es))) : PE X (.List xs pos) (TR X.K (evE G cl (.mlst es))) := (pe_lst h).weak (by
  rintro σ H Q ⟨W, F, μ, ρ, S, d, S', st, en, e, p⟩
  obtain ⟨ds, S1, e1, e2⟩ := bnd_inv e
  split at e2
  · rename_i c
    cases e2
    refine ⟨W, F, μ, ρ, S, ds, _, st, en, e1, fun vs H1 W1 μ1 x1 st1 r1 => ⟨by rw [r1.length]; exact c, fun a ha => ?_⟩⟩
    obtain ⟨st2, x2⟩ := st1.cell (.lst vs) (.lst ds) ha fun W' μ' x => ⟨vs, upd_same, r1.m x⟩
    exact p _ _ _ _ (x1.trans x2) st2 ⟨a, by rw [← st1.len]; simp, rfl⟩
  · cases e2)
theorem tr_neg {a : ME} {x : Expr} {pos : Pos} (h : PE X x (TR X.K (evE G cl a))) : PE X (.UnaryOp .USub x pos) (TR X.K (evE G cl (.neg a))) := (pe_un un_neg h).weak (by
  rintro σ H Q ⟨W, F, μ, ρ, S, d, S', st, en, e, p⟩
  obtain ⟨d1, S1, e1, e2⟩ := bnd_inv e
  cases d1 with
  | int i =>
    cases e2
    refine ⟨W, F, μ, ρ, S, .int i, _, st, en, e1, fun v H1 W1 μ1 x1 st1 r1 => ?_⟩
    cases (show v = _ from r1)
    exact ⟨i, rfl, (p.ext x1).int st1⟩
  | _ => cases e2)
theorem tr_var (y : Sy Γ X) {i : Nat} {x : Str} {pos : Pos} (h : visB Γ i x = true) : PE X (.Name x pos) (TR X.K (evE G cl (.var i))) := (vis_ok y h).weak (by
  rintro σ H Q ⟨W, F, μ, ρ, S, d, S', st, en, e, p⟩
  cases c : ρ[i]? with
  | none => simp only [evE, c] at e; cases e
  | some q =>
    cases q with
    | none => simp only [evE, c] at e; cases e
    | some d' =>
      simp only [evE, c] at e
      cases e
      obtain ⟨v, h1, h2⟩ := en.2 i _ c
      exact ⟨v, h1, p.same st h2⟩)
theorem tr_const {m : ME} {d : D} {v : V} {e : Expr} (h : PE X e (tC v)) (hd : ∀ ρ S, evE G cl m ρ S = some (d, S)) (hr : ∀ W μ, Rep X.K W μ d v) : PE X e (TR X.K (evE G cl m)) := h.weak (by
  rintro σ H Q ⟨W, F, μ, ρ, S, d', S', st, en, e, p⟩
  rw [hd] at e
  cases e
  exact p.same st (hr W μ))
/-- a part of a slice -/
def TOR (K : PySem.W.Frag) (ev : Env → Sto → Rs (Option Int)) : TO := fun σ H Q => ∃ W F μ ρ S o S', Stt K W F μ S H ∧ EnvR K W μ ρ σ ∧ ev ρ S = some (o, S') ∧ ∀ H' W' μ', Ext W μ W' μ' → Stt K W' F μ' S' H' → Q o H'
theorem _root_.L2.PO.weak {e : Option Expr} {t t' : TO} (h : PO X e t) (w : ∀ σ H Q, t' σ H Q → t σ H Q) : PO X e t' := ⟨fun pins s σ H Q I q => h.run pins s σ H Q I (w σ H Q q)⟩
theorem to_none : PO X none (TOR X.K (evO G cl .none)) := po_none.weak (by
  rintro σ H Q ⟨W, F, μ, ρ, S, d, S', st, en, e, p⟩
  cases e
  exact p H W μ Ext.refl st)
theorem to_some {a : ME} {x : Expr} (h : PE X x (TR X.K (evE G cl a))) : PO X (some x) (TOR X.K (evO G cl (.some a))) := (po_some h).weak (by
  rintro σ H Q ⟨W, F, μ, ρ, S, d, S', st, en, e, p⟩
  obtain ⟨d1, S1, e1, e2⟩ := bnd_inv e
  cases d1 with
  | int i =>
    cases e2
    refine ⟨W, F, μ, ρ, S, .int i, _, st, en, e1, fun v H1 W1 μ1 x1 st1 r1 => ?_⟩
    cases (show v = _ from r1)
    exact ⟨i, rfl, p H1 W1 μ1 x1 st1⟩
  | _ => cases e2)
theorem tr_sl {a : ME} {lo hi : MO} {x : Expr} {l h : Option Expr} {p2 pos : Pos} (ha : PE X x (TR X.K (evE G cl a))) (hl : PO X l (TOR X.K (evO G cl lo))) (hh : PO X h (TOR X.K (evO G cl hi))) :
    PE X (.Subscript x (.Slice l h none p2) pos) (TR X.K (evE G cl (.sl a lo hi))) := (pe_slice sl_any ha hl hh).weak (by
  rintro σ H Q ⟨W, F, μ, ρ, S, d, S', st, en, e, p⟩
  obtain ⟨d1, S1, e1, e2⟩ := bnd_inv e
  obtain ⟨o1, S2, e3, e4⟩ := bnd_inv e2
  obtain ⟨o2, S3, e5, e6⟩ := bnd_inv e4
  obtain ⟨r, e7, e8⟩ := lft_inv e6
  cases e8
  exact ⟨W, F, μ, ρ, S, d1, S1, st, en, e1, fun v H1 W1 μ1 x1 st1 r1 => ⟨W1, F, μ1, ρ, S1, o1, S2, st1, en.mono x1, e3, fun H2 W2 μ2 x2 st2 => ⟨W2, F, μ2, ρ, S2, o2, _, st2, en.mono (x1.trans x2), e5, fun H3 W3 μ3 x3 st3 =>
    ⟨W3, F, μ3, _, d1, d, st3, r1.m (x2.trans x3), e7, p.ext ((x1.trans x2).trans x3)⟩⟩⟩⟩)
theorem tr_call (gd : Good G cl k Γ X) {g : Nat} {f : Fn} {es : MEs} {x : Str} {xs : List Expr} {p pos : Pos} (hg : G[g]? = some (x, .fn f)) (hgl : Gl X x) (hdb : (x == ("__debug__" : Str)) = false) (hx : chkEs G es Γ xs = true) (h : PA X xs (TAR X.K (evEs G cl es))) :
    PE X (.Call (.Name x p) xs [] pos) (TR X.K (evE G cl (.call g es))) := by
  obtain ⟨a, fd, ps, hm, hk, hb, F⟩ := gd.gf.fn g x f hg
  have w : ∀ σ H Q, TR X.K (evE G cl (.call g es)) σ H Q → tCall (spOf X.K f.np (cl g)) [] E0 (TAR X.K (evEs G cl es)) σ H Q := by
    rintro σ H Q ⟨W, F, μ, ρ, S, d, S', st, en, e, p⟩
    obtain ⟨ds, S1, e1, e2⟩ := bnd_inv e
    refine ⟨W, F, μ, ρ, S, ds, S1, st, en, e1, fun vs H1 W1 μ1 x1 st1 r1 => ?_⟩
    show spOf X.K f.np (cl g) (vs ++ []) H1 Q E0
    rw [List.append_nil]
    exact ⟨r1.length.trans (gd.gf.len g x f ds S1 _ hg e2), W1, F, μ1, S1, ds, d, S', st1, r1, e2, p.ext x1⟩
  cases xs with
  | nil =>
    cases es with
    | cons _ _ => cases hx
    | nil =>
      refine (pe_call0 F gd.room hgl hm hk hb .nil pass0 hdb).weak fun σ H Q q => ?_
      obtain ⟨W, F, μ, ρ, S, d, S', st, en, e, p⟩ := q
      have e : cl g [] S = some (d, S') := e
      show spOf X.K f.np (cl g) ([] ++ []) H Q E0
      exact ⟨(gd.gf.len g x f [] S _ hg e), W, F, μ, S, [], d, S', st, rfl, e, p⟩
  | cons y ys =>
    cases es with
    | nil => cases hx
    | cons e1 es' =>
      obtain ⟨ok, h2⟩ := bk (show (okX y && (chkE G e1 Γ y && chkEs G es' Γ ys)) = true from hx)
      exact (pe_call F gd.room hgl hm hk hb .nil pass0 h hdb (star_ok ok ys X.env) (stars_any (bk h2).2).1).weak w
theorem tr_bi (gd : Good G cl k Γ X) {g : Nat} {b : BI} {es : MEs} {xs : List Expr} {p pos : Pos} (hg : G[g]? = some (biName b, .blt)) (hgl : Gl X (biName b)) (hx : chkEs G es Γ xs = true) (hne : xs.isEmpty = false) (h : PA X xs (TAR X.K (evEs G cl es))) :
    PE X (.Call (.Name (biName b) p) xs [] pos) (TR X.K (evE G cl (.bi b g es))) := by
  have hm := gd.gf.blt g _ hg
  have w : ∀ σ H Q, TR X.K (evE G cl (.bi b g es)) σ H Q → tCB (rBi X.K b) (TAR X.K (evEs G cl es)) σ H Q := by
    rintro σ H Q ⟨W, F, μ, ρ, S, d, S', st, en, e, p⟩
    obtain ⟨ds, S1, e1, e2⟩ := bnd_inv e
    obtain ⟨r, e3, e4⟩ := lft_inv e2
    cases e4
    exact ⟨W, F, μ, ρ, S, ds, _, st, en, e1, fun vs H1 W1 μ1 x1 st1 r1 => ⟨W1, F, μ1, _, ds, d, st1, r1, e3, p.ext x1⟩⟩
  cases xs with
  | nil => cases hne
  | cons y ys =>
    cases es with
    | nil => cases hx
    | cons e1 es' =>
      obtain ⟨ok, h2⟩ := bk (show (okX y && (chkE G e1 Γ y && chkEs G es' Γ ys)) = true from hx)
      have s1 := star_ok ok ys X.env
      have s2 := (stars_any (pos := pos) (env := X.env) (bk h2).2).1
      have hv := bi_boot b
      have hc := bi_call (X := X) gd.calm b
      have go1 : ∀ id, biVal b = .builtin id → PE X (.Call (.Name (biName b) p) (y :: ys) [] pos) (tCB (rBi X.K b) (TAR X.K (evEs G cl (.cons e1 es')))) := fun id e => by
        rw [e] at hv hc
        exact pe_callB hc hgl hm hv h (by cases b <;> decide) (by cases b <;> decide) s1 s2
      have go2 : ∀ T, biVal b = .type T → PE X (.Call (.Name (biName b) p) (y :: ys) [] pos) (tCB (rBi X.K b) (TAR X.K (evEs G cl (.cons e1 es')))) := fun T e => by
        rw [e] at hv hc
        exact pe_callTy hc hgl hm hv h (by cases b <;> decide) (by cases b <;> decide) s1 s2
      refine L2.PE.weak ?_ w
      cases b <;> first | exact go1 _ rfl | exact go2 _ rfl
theorem tr_isI (gd : Good G cl k Γ X) {g h' : Nat} {n : String} {a : ME} {y : Expr} {t : Str} {p p2 pos : Pos} (hg : G[g]? = some (("isinstance" : Str), GK.blt)) (hgl : Gl X "isinstance") (hh : G[h']? = some (t, .blt)) (hhl : Gl X t) (hdb : (t == ("__debug__" : Str)) = false) (hnm : t ≠ "__name__")
    (hb : bootBuiltins t = some (.type n)) (ok : okX y = true) (h : PE X y (TR X.K (evE G cl a))) : PE X (.Call (.Name "isinstance" p) [y, .Name t p2] [] pos) (TR X.K (evE G cl (.isI g h' n a))) := by
  have hm := gd.gf.blt g _ hg
  have hm2 := gd.gf.blt h' _ hh
  refine (pe_callB (call_isi (X := X)) hgl hm (by decide +kernel) (pa_cons h (pa_cons (pe_bltn (v := .ty n) hhl hm2 hb rfl hnm hdb) pa_nil (by rfl)) (star_ok ok _ X.env)) (by decide) (by decide) (star_ok ok _ X.env) (by rfl)).weak ?_
  rintro σ H Q ⟨W, F, μ, ρ, S, d, S', st, en, e, p⟩
  obtain ⟨d1, S1, e1, e2⟩ := bnd_inv e
  obtain ⟨tn, e3, e4⟩ := lft_inv e2
  obtain ⟨b, e5, e6⟩ := lft_inv e4
  cases e6
  exact ⟨W, F, μ, ρ, S, d1, _, st, en, e1, fun v H1 W1 μ1 x1 st1 r1 => ⟨v, .ty n, .type tn, .type n, b, rfl, .ty n, ty_rep st1 r1 e3, kit_ty e5, (p.ext x1).blv st1⟩⟩
theorem tr_meth (gd : Good G cl k Γ X) {m : MT} {o : ME} {es : MEs} {y : Expr} {xs : List Expr} {ap pos : Pos} (hc : noCall y = true) (hl : (ap.endLine == pos.line) = true) (h30 : xs.length < 30) (ho : PE X y (TR X.K (evE G cl o))) (hx : chkEs G es Γ xs = true) (h : PA X xs (TAR X.K (evEs G cl es))) :
    PE X (.Call (.Attribute y (mtName m) ap) xs [] pos) (TR X.K (evE G cl (.meth m o es))) := by
  have w : ∀ σ H Q, TR X.K (evE G cl (.meth m o es)) σ H Q → tBM X.K "list" (rMt X.K m) (TR X.K (evE G cl o)) (TAR X.K (evEs G cl es)) σ H Q := by
    rintro σ H Q ⟨W, F, μ, ρ, S, d, S', st, en, e, p⟩
    obtain ⟨d1, S1, e1, e2⟩ := bnd_inv e
    obtain ⟨ys, e3, e4⟩ := lft_inv e2
    obtain ⟨ds, S2, e5, e6⟩ := bnd_inv e4
    refine ⟨W, F, μ, ρ, S, d1, S1, st, en, e1, fun v H1 W1 μ1 x1 st1 r1 => ⟨?_, W1, F, μ1, ρ, S1, ds, S2, st1, en.mono x1, e5, fun vs H2 W2 μ2 x2 st2 r2 => ⟨W2, F, μ2, S2, d1, ds, d, S', st2, r1.m x2, r2, e6, p.ext (x1.trans x2)⟩⟩⟩
    obtain ⟨a, vs, rfl, h1, _⟩ := lst_of st1 r1 e3
    exact Or.inl ⟨rfl, vs, h1⟩
  have pa := PySem.F.plainAttrs_list
  cases xs with
  | nil =>
    cases es with
    | cons _ _ => cases hx
    | nil =>
      have go : ∀ {name : Str} {id : String}, name = mtName m → id = mtId m → Slot "list" name id → typeOf (.builtin id) = pure (.type "method_descriptor") → PE X (.Call (.Attribute y (mtName m) ap) [] [] pos) (TR X.K (evE G cl (.meth m o .nil))) := fun {name id} e1 e2 sl ty => by
        subst e1 e2
        refine (pe_bm0 pa sl ty (mt_call m) ho (base_ok hc _ _ _) hl).weak fun σ H Q q => ?_
        obtain ⟨W, F, μ, ρ, S, d, S', st, en, e, p⟩ := q
        obtain ⟨d1, S1, e1, e2⟩ := bnd_inv e
        obtain ⟨ys, e3, e4⟩ := lft_inv e2
        have e6 : methD m S1 d1 [] = some (d, S') := e4
        refine ⟨W, F, μ, ρ, S, d1, S1, st, en, e1, fun v H1 W1 μ1 x1 st1 r1 => ⟨?_, W1, F, μ1, S1, d1, [], d, S', st1, r1, rfl, e6, p.ext x1⟩⟩
        obtain ⟨a, vs, rfl, h1, _⟩ := lst_of st1 r1 e3
        exact Or.inl ⟨rfl, vs, h1⟩
      cases m
      · exact go rfl rfl PySem.F.slot_list_append PySem.F.type_list_append
      · exact go rfl rfl PySem.F.slot_list_pop PySem.F.type_list_pop
      · exact go rfl rfl PySem.F.slot_list_extend PySem.F.type_list_extend
  | cons z zs =>
    cases es with
    | nil => cases hx
    | cons e1 es' =>
      obtain ⟨ok, h2⟩ := bk (show (okX z && (chkE G e1 Γ z && chkEs G es' Γ zs)) = true from hx)
      have s1 := star_ok ok zs X.env
      have s2 := (stars_any (pos := pos) (env := X.env) (bk h2).2).1
      have s3 : ((backTo pos (starEach (z :: zs) X.env)).all (fun x => !x.1) && (backToKw pos (keywordEach [] X.env)).all (fun x => x.1.isSome) && decide ((z :: zs).length + ([] : List Keyword).length + (if ([] : List Keyword).isEmpty then 0 else 1) < 30)) = true := by
        rw [(stars_any (pos := pos) (env := X.env) hx).2]
        have : decide ((z :: zs).length + ([] : List Keyword).length + (if ([] : List Keyword).isEmpty then 0 else 1) < 30) = true := decide_eq_true (by simpa using h30)
        rw [this]
        rfl
      have go : ∀ {name : Str} {id : String}, name = mtName m → id = mtId m → Slot "list" name id → typeOf (.builtin id) = pure (.type "method_descriptor") → PE X (.Call (.Attribute y (mtName m) ap) (z :: zs) [] pos) (TR X.K (evE G cl (.meth m o (.cons e1 es')))) := fun {name id} q1 q2 sl ty => by
        subst q1 q2
        exact (pe_bm pa sl ty (mt_call m) ho h (base_ok hc _ _ _) s3 hl s1 s2).weak w
      cases m
      · exact go rfl rfl PySem.F.slot_list_append PySem.F.type_list_append
      · exact go rfl rfl PySem.F.slot_list_pop PySem.F.type_list_pop
      · exact go rfl rfl PySem.F.slot_list_extend PySem.F.type_list_extend
end
end Rw

/-! M11: displays of dicts, comprehensions, all expressions -/
namespace Rw
open PySem PySem.Spec PyProof.Rows L2
section
variable {G : GT} {cl : Nat → List D → Sto → Rs D} {k : Nat} {Γ : Syn} {X : Cx}
/-! ### dicts -/
theorem RepKV.nil {K : PySem.W.Frag} {W : Hp} {μ : List Addr} : RepKV K W μ [] [] := ⟨rfl, rfl⟩
theorem RepKV.cons {K : PySem.W.Frag} {W : Hp} {μ : List Addr} {q : Key} {d : D} {v : V} {kvs : List (Key × D)} {ws : List (Key × V)} (hd : Rep K W μ d v) (h : RepKV K W μ kvs ws) : RepKV K W μ ((q, d) :: kvs) ((q, v) :: ws) :=
  ⟨by simp [h.1], ⟨v, _, rfl, hd, h.2⟩⟩
theorem RepKV.inv {K : PySem.W.Frag} {W : Hp} {μ : List Addr} {q : Key} {d : D} {kvs : List (Key × D)} {ws : List (Key × V)} (h : RepKV K W μ ((q, d) :: kvs) ws) : ∃ v r, ws = (q, v) :: r ∧ Rep K W μ d v ∧ RepKV K W μ kvs r := by
  obtain ⟨h1, v, r, e, h2, h3⟩ := h
  cases ws with
  | nil => simp at h1
  | cons p ps =>
    obtain ⟨pk, pv⟩ := p
    have e1 : q = pk ∧ kvs.map (·.1) = ps.map (·.1) := by simpa using h1
    have e2 : pv = v ∧ ps.map (·.2) = r := by simpa using e
    obtain ⟨rfl, e3⟩ := e1
    obtain ⟨rfl, rfl⟩ := e2
    exact ⟨pv, ps, rfl, h2, e3, h3⟩
theorem RepKV.store {K : PySem.W.Frag} {W : Hp} {μ : List Addr} : ∀ {kvs : List (Key × D)} {ws : List (Key × V)} {q : Key} {d : D} {v : V}, RepKV K W μ kvs ws → Rep K W μ d v → RepKV K W μ (storeK kvs q d) (putK ws q v) := by
  intro kvs ws q d v h hd
  have hany : ∀ {kvs : List (Key × D)} {ws : List (Key × V)}, RepKV K W μ kvs ws → (kvs.any fun kv => decide (kv.1 = q)) = (ws.any fun kv => decide (kv.1 = q)) := by
    intro kvs
    induction kvs with
    | nil =>
      intro ws h
      cases ws with
      | nil => rfl
      | cons p ps => have := h.1; simp at this
    | cons p ps ih =>
      intro ws h
      obtain ⟨pk, pd⟩ := p
      obtain ⟨v, r, rfl, _, h2⟩ := h.inv
      simp only [List.any_cons, ih h2]
  have hmap : ∀ {kvs : List (Key × D)} {ws : List (Key × V)}, RepKV K W μ kvs ws → RepKV K W μ (kvs.map fun kv => if kv.1 = q then (kv.1, d) else kv) (ws.map fun kv => if kv.1 = q then (kv.1, v) else kv) := by
    intro kvs
    induction kvs with
    | nil =>
      intro ws h
      cases ws with
      | nil => exact RepKV.nil
      | cons p ps => have := h.1; simp at this
    | cons p ps ih =>
      intro ws h
      obtain ⟨pk, pd⟩ := p
      obtain ⟨u, r, rfl, h1, h2⟩ := h.inv
      simp only [List.map_cons]
      by_cases c : pk = q
      · rw [if_pos c, if_pos c]; exact (ih h2).cons hd
      · rw [if_neg c, if_neg c]; exact (ih h2).cons h1
  unfold storeK putK
  rw [hany h]
  split
  · exact hmap h
  · exact ⟨by simp [h.1], by simpa using h.2.app (Reps.one hd)⟩
theorem RepKV.merge {K : PySem.W.Frag} {W : Hp} {μ : List Addr} : ∀ {more : List (Key × D)} {mw : List (Key × V)} {kvs : List (Key × D)} {ws : List (Key × V)}, RepKV K W μ kvs ws → RepKV K W μ more mw → RepKV K W μ (mergeKD kvs more) (mergeK ws mw) := by
  intro more
  induction more with
  | nil =>
    intro mw kvs ws h h2
    cases mw with
    | nil => exact h
    | cons p ps => have := h2.1; simp at this
  | cons p ps ih =>
    intro mw kvs ws h h2
    obtain ⟨pk, pd⟩ := p
    obtain ⟨u, r, rfl, h3, h4⟩ := h2.inv
    exact ih (mw := r) (kvs := storeK kvs pk pd) (ws := putK ws pk u) (h.store h3) h4
/-- the pairs of a display -/
def PPost (K : PySem.W.Frag) (W F : Hp) (μ : List Addr) (S : Sto) (ps : List (D × D)) (Q : List (V × V) → Hp → Prop) : Prop :=
  ∀ qs H' W' μ', Ext W μ W' μ' → Stt K W' F μ' S H' → Reps K W' μ' (ps.map (·.1)) (qs.map (·.1)) → Reps K W' μ' (ps.map (·.2)) (qs.map (·.2)) → Q qs H'
structure PPok (X : Cx) (pos : Pos) (keys : List (Option Expr)) (values : List Expr) (ev : Env → Sto → Rs (List (D × D))) : Prop where
  ex : ∃ trs, PPs X pos keys values trs ∧ ∀ σ H Q W F μ ρ S ps S', Stt X.K W F μ S H → EnvR X.K W μ ρ σ → ev ρ S = some (ps, S') → PPost X.K W F μ S' ps Q → tPairs trs σ H Q
theorem pp_nil {pos : Pos} : PPok X pos [] [] (evPs G cl .nil) := ⟨[], pps_nil, fun σ H Q W F μ ρ S ps S' st en e p => by
  cases e
  exact p [] H W μ Ext.refl st rfl rfl⟩
theorem pp_cons {pos : Pos} {a b : ME} {r : MPs} {x y : Expr} {ks : List (Option Expr)} {vs : List Expr} (ha : PE X x (TR X.K (evE G cl a))) (hb : PE X y (TR X.K (evE G cl b))) (hr : PPok X pos ks vs (evPs G cl r)) : PPok X pos (some x :: ks) (y :: vs) (evPs G cl (.cons a b r)) := by
  obtain ⟨trs, h1, h2⟩ := hr
  refine ⟨_, pps_cons ha hb h1, fun σ H Q W F μ ρ S ps S' st en e p => ?_⟩
  obtain ⟨d1, S1, e1, e2⟩ := bnd_inv e
  obtain ⟨d2, S2, e3, e4⟩ := bnd_inv e2
  obtain ⟨d3, S3, e5, e6⟩ := bnd_inv e4
  cases e6
  refine ⟨W, F, μ, ρ, S, d1, S1, st, en, e1, fun v1 H1 W1 μ1 x1 st1 r1 => ⟨W1, F, μ1, ρ, S1, d2, S2, st1, en.mono x1, e3, fun v2 H2 W2 μ2 x2 st2 r2 => ?_⟩⟩
  refine h2 σ H2 _ W2 F μ2 ρ S2 d3 _ st2 (en.mono (x1.trans x2)) e5 fun qs H3 W3 μ3 x3 st3 q1 q2 => ?_
  exact p ((v1, v2) :: qs) H3 W3 μ3 ((x1.trans x2).trans x3) st3 ⟨v1, _, rfl, r1.m (x2.trans x3), q1⟩ ⟨v2, _, rfl, r2.m x3, q2⟩
theorem keysD_rep {K : PySem.W.Frag} {W : Hp} {μ : List Addr} : ∀ {ps : List (D × D)} {qs : List (V × V)} {kvs : List (Key × D)}, keysD ps = some kvs → Reps K W μ (ps.map (·.1)) (qs.map (·.1)) → Reps K W μ (ps.map (·.2)) (qs.map (·.2)) →
    ∃ ws : List (Key × V), qs = ws.map (fun kv => (kV kv.1, kv.2)) ∧ RepKV K W μ kvs ws ∧ ws.length = kvs.length
  | [], qs, kvs, e, h1, h2 => by
    cases e
    cases qs with
    | nil => exact ⟨[], rfl, RepKV.nil, rfl⟩
    | cons p ps => have := h1.length; simp at this
  | (a, b) :: ps, qs, kvs, e, h1, h2 => by
    simp only [keysD] at e
    cases q1 : keyD a with
    | none => rw [q1] at e; cases e
    | some key =>
      cases q2 : keysD ps with
      | none => rw [q1, q2] at e; cases e
      | some kvs' =>
        rw [q1, q2] at e
        cases e
        cases qs with
        | nil => have := h1.length; simp at this
        | cons p qs =>
          obtain ⟨p1, p2⟩ := p
          obtain ⟨v, r, e1, r1, t1⟩ := (show ∃ v r, (p1 :: qs.map (·.1)) = v :: r ∧ Rep K W μ a v ∧ Reps K W μ (ps.map (·.1)) r from h1)
          obtain ⟨u, r', e2, r2, t2⟩ := (show ∃ v r, (p2 :: qs.map (·.2)) = v :: r ∧ Rep K W μ b v ∧ Reps K W μ (ps.map (·.2)) r from h2)
          cases e1
          cases e2
          obtain ⟨ws, e3, e4, e5⟩ := keysD_rep q2 t1 t2
          have := key_rep r1 q1
          subst this
          exact ⟨(key, p2) :: ws, by simp [e3], e4.cons r2, by simp [e5]⟩
theorem tr_dict {ps : MPs} {ks : List (Option Expr)} {vs : List Expr} {pos : Pos} (h : PPok X pos ks vs (evPs G cl ps)) (hall : ks.all (·.isSome) = true) (hl : ks.length = vs.length) (h0 : ks ≠ []) (h15 : ks.length ≤ 15) : PE X (.Dict ks vs pos) (TR X.K (evE G cl (.dict ps))) := by
  obtain ⟨trs, h1, h2⟩ := h
  refine (pe_disp h1 hall hl h0 h15).weak ?_
  rintro σ H Q ⟨W, F, μ, ρ, S, d, S', st, en, e, p⟩
  obtain ⟨qs, S1, e1, e2⟩ := bnd_inv e
  obtain ⟨kvs, e3, e4⟩ := lft_inv e2
  split at e4
  · rename_i c
    cases e4
    intro a ha
    have hF := (st.noF ha).1
    refine h2 σ _ _ W (upd F a (.dK [])) μ ρ S qs _ (st.frame (.dK []) ha) en e1 fun us H2 W2 μ2 x2 st2 q1 q2 => ?_
    obtain ⟨ws, e5, e6, e7⟩ := keysD_rep e3 q1 q2
    refine ⟨st2.inF, ws, e5, by rw [e7]; exact c, ?_⟩
    have x3 : Ext W2 μ2 W2 (μ2 ++ [a]) := ⟨fun _ _ h => h, fun r b h => by rw [List.getElem?_append_left (List.getElem?_eq_some_iff.mp h).1]; exact h⟩
    obtain ⟨st3, _⟩ := (st2.reframe (o' := .dK (mergeK [] ws))).toCell (c := .dk (mergeKD [] kvs)) hF ⟨_, upd_same, (RepKV.merge RepKV.nil e6).mono x3⟩
    exact p _ _ _ _ (x2.trans x3) st3 ⟨a, by rw [← st2.len]; simp, rfl⟩
  · cases e4

/-! ### comprehensions -/
theorem ti_seq {e : ME} {x tg : Expr} (h : PE X x (TR X.K (evE G cl e))) : PI X tg x (TIR X.K (evI G cl (.seq e))) := (pi_seq h).weak (by
  rintro σ H R ⟨W, F, μ, ρ, S, w, S', st, en, e, p⟩
  obtain ⟨d1, S1, e1, e2⟩ := bnd_inv e
  obtain ⟨w', e3, e4⟩ := lft_inv e2
  cases e4
  refine ⟨W, F, μ, ρ, S, d1, _, st, en, e1, fun v H1 W1 μ1 x1 st1 r1 => ?_⟩
  obtain ⟨a, rfl, ⟨h1, wk⟩ | ⟨h1, wk⟩⟩ := items_rep st1 r1 e3
  · exact ⟨a, rfl, .inl ⟨h1, p _ H1 W1 μ1 x1 st1 wk⟩⟩
  · exact ⟨a, rfl, .inr ⟨h1, p _ H1 W1 μ1 x1 st1 wk⟩⟩)
theorem ti_rng (gd : Good G cl k Γ X) {g : Nat} {es : MEs} {xs : List Expr} {tg : Expr} {p pos : Pos} (hg : G[g]? = some (("range" : Str), GK.blt)) (hgl : Gl X "range") (hx : chkEs G es Γ xs = true) (hn : xs.length = 1 ∨ xs.length = 2) (h : PA X xs (TAR X.K (evEs G cl es))) :
    PI X tg (.Call (.Name "range" p) xs [] pos) (TIR X.K (evI G cl (.rng g es))) := by
  have hm := gd.gf.blt g _ hg
  rcases hn with hn | hn
  · match xs, hn, es, hx, h with
    | [x], _, .nil, hx, _ => cases hx
    | [x], _, .cons e1 es', hx, h =>
      obtain ⟨ok, h2⟩ := bk (show (okX x && (chkE G e1 Γ x && chkEs G es' Γ [])) = true from hx)
      refine (pi_range1 hgl hm h (star_ok ok [] X.env)).weak ?_
      rintro σ H R ⟨W, F, μ, ρ, S, w, S', st, en, e, p⟩
      obtain ⟨ds, S1, e3, e4⟩ := bnd_inv e
      obtain ⟨ys, e5, e6⟩ := lft_inv e4
      cases e6
      refine ⟨W, F, μ, ρ, S, ds, _, st, en, e3, fun vs H1 W1 μ1 x1 st1 r1 => ?_⟩
      cases es' with
      | cons _ _ => cases (bk h2).2
      | nil =>
        obtain ⟨d, Sa, e7, e8⟩ := bnd_inv e3
        cases e8
        unfold rngD at e5
        split at e5
        · rename_i b q
          have : d = .int b := by
            have := congrArg List.head? q
            simpa using this
          subst this
          obtain ⟨v, rfl, r2⟩ := r1.inv1
          cases (show v = _ from r2)
          split at e5
          · rename_i c
            cases e5
            exact ⟨b, rfl, c.1, c.2, p _ H1 W1 μ1 x1 st1 wk_rng⟩
          · cases e5
        · rename_i q; simp at q
        · cases e5
  · match xs, hn, es, hx, h with
    | [x, y], _, .nil, hx, _ => cases hx
    | [x, y], _, .cons e1 es', hx, h =>
      obtain ⟨ok, h2⟩ := bk (show (okX x && (chkE G e1 Γ x && chkEs G es' Γ [y])) = true from hx)
      cases es' with
      | nil => cases (bk h2).2
      | cons e2 es2 =>
        obtain ⟨ok2, h3⟩ := bk (show (okX y && (chkE G e2 Γ y && chkEs G es2 Γ [])) = true from (bk h2).2)
        have s2 : starEach [y] X.env = [(false, eval y X.env)] := star_ok ok2 [] X.env
        refine (pi_range2 hgl hm h (by rw [star_ok ok [y] X.env, s2]) s2).weak ?_
        rintro σ H R ⟨W, F, μ, ρ, S, w, S', st, en, e, p⟩
        obtain ⟨ds, S1, e3, e4⟩ := bnd_inv e
        obtain ⟨ys, e5, e6⟩ := lft_inv e4
        cases e6
        refine ⟨W, F, μ, ρ, S, ds, _, st, en, e3, fun vs H1 W1 μ1 x1 st1 r1 => ?_⟩
        cases es2 with
        | cons _ _ => cases (bk h3).2
        | nil =>
          obtain ⟨d, Sa, e7, e8⟩ := bnd_inv e3
          obtain ⟨dd, Sb, e9, e10⟩ := bnd_inv e8
          cases e10
          obtain ⟨d', Sc, e11, e12⟩ := bnd_inv e9
          cases e12
          unfold rngD at e5
          split at e5
          · rename_i q; simp at q
          · rename_i a b q
            have q1 : d = .int a ∧ d' = .int b := by simpa using q
            obtain ⟨rfl, rfl⟩ := q1
            obtain ⟨v, u, rfl, r2, r3⟩ := r1.inv2
            cases (show v = _ from r2)
            cases (show u = _ from r3)
            split at e5
            · rename_i c
              cases e5
              exact ⟨a, b, rfl, c, p _ H1 W1 μ1 x1 st1 wk_rng⟩
            · cases e5
          · cases e5
theorem _root_.L2.PTs.weak {ifs : List Expr} {t t' : TT} (h : PTs X ifs t) (w : ∀ σ H Q, t' σ H Q → t σ H Q) : PTs X ifs t' := ⟨fun pins s σ H Q I q => h.run pins s σ H Q I (w σ H Q q)⟩
theorem tc_nil : PTs X [] (TTR X.K (evC G cl .none)) := pts_nil.weak (by
  rintro σ H Q ⟨W, F, μ, ρ, S, b, S', st, en, e, p⟩
  cases e
  exact p H W μ Ext.refl st)
theorem tc_one {e : ME} {x : Expr} (h : PT X x (TTR X.K (evT G cl e))) : PTs X [x] (TTR X.K (evC G cl (.some e))) := pts_one h
theorem own_snd (N : List Str) (vs : List Nat) : (ownOf N vs).map (·.2) = vs := by
  unfold ownOf
  rw [List.map_map]
  exact List.map_id vs
/-- what a comprehension's parts do, in its block -/
structure LcOk (G : GT) (cl : Nat → List D → Sto → Rs D) (X : Cx) (scope : Scope) (elt tg : Expr) (ifs : List Expr) (me : ME) (mg : MG) (mc : MO) : Prop where
  g : ∀ (s : Shared) (H : Hp) (C : Addr) (cells : List (Str × Addr)) (fp : List Addr), PG (X.blk s H scope (compEnvC scope cells C X.env) fp) tg (TGR X.K (slG mg) (asgG mg))
  t : ∀ (s : Shared) (H : Hp) (C : Addr) (cells : List (Str × Addr)) (fp : List Addr), PTs (X.blk s H scope (compEnvC scope cells C X.env) fp) ifs (TTR X.K (evC G cl mc))
  e : ∀ (s : Shared) (H : Hp) (C : Addr) (cells : List (Str × Addr)) (fp : List Addr), PE (X.blk s H scope (compEnvC scope cells C X.env) fp) elt (TR X.K (evE G cl me))
theorem lc_w {mu : Bool} {vs : List Nat} {me : ME} {mg : MG} {mi : MI} {mc : MO} (hs : ∀ i ∈ slG mg, i ∈ vs) : ∀ σ H Q, TR X.K (evE G cl (.lc mu vs me mg mi mc)) σ H Q → tLc (TIR X.K (evI G cl mi)) (TGR X.K (slG mg) (asgG mg)) (TTR X.K (evC G cl mc)) (TR X.K (evE G cl me)) vs σ H Q := by
  rintro σ H Q ⟨W, F, μ, ρ, S, d, S', st, en, e, p⟩
  obtain ⟨w, S1, e1, e2⟩ := bnd_inv e
  split at e2
  · rename_i hl
    obtain ⟨acc, S5, e3, e4⟩ := bnd_inv e2
    refine ⟨W, F, μ, ρ, S, w, S1, st, en, e1, fun J H1 W1 μ1 x1 st1 wk => ?_⟩
    refine comp_reads (mu := mu) st1 (en.mono x1) wk hl hs e3 ?_
    cases mu with
    | true => rw [if_pos rfl] at e4 ⊢; cases e4; exact p.ext x1
    | false => rw [if_neg Bool.false_ne_true] at e4 ⊢; cases e4; exact p.ext x1
  · cases e2
theorem tr_lc (gd : Good G cl k Γ X) {mu : Bool} {vs : List Nat} {me : ME} {mg : MG} {mi : MI} {mc : MO} {elt tg iter : Expr} {ifs : List Expr} {scope : Scope} {pos : Pos} (hs : ∀ i ∈ slG mg, i ∈ vs) (ok : okX iter = true) (hb : blkC Γ.N Γ.sc scope (ownOf Γ.N vs) = true)
    (hi : PI X tg iter (TIR X.K (evI G cl mi))) (L : LcOk G cl X scope elt tg ifs me mg mc) : PE X (.ListComp elt [⟨tg, iter, ifs, 0⟩] scope pos) (TR X.K (evE G cl (.lc mu vs me mg mi mc))) := by
  have B : BlkOk X.N X.env.scope scope (ownOf Γ.N vs) := by rw [gd.N, gd.sc]; exact blkOk_by hb
  have h := pe_lc (pos := pos) gd.calm gd.nd hi B L.g L.t L.e (fold_ok ok X.env)
  rw [own_snd] at h
  exact h.weak (lc_w hs)

theorem lc2_w {mu : Bool} {vs vs1 : List Nat} {me : ME} {mg mg1 : MG} {mi mi1 : MI} {mc mc1 : MO} (hs : ∀ i ∈ slG mg, i ∈ vs) (hs1 : ∀ i ∈ slG mg1, i ∈ vs1) : ∀ σ H Q, TR X.K (evE G cl (.lc2 mu vs me mg mi mc vs1 mg1 mi1 mc1)) σ H Q → tLc2 (TIR X.K (evI G cl mi)) (TGR X.K (slG mg) (asgG mg)) (TTR X.K (evC G cl mc)) (TIR X.K (evI G cl mi1)) (TGR X.K (slG mg1) (asgG mg1)) (TTR X.K (evC G cl mc1)) (TR X.K (evE G cl me)) vs vs1 σ H Q := by
  rintro σ H Q ⟨W, F, μ, ρ, S, d, S', st, en, e, p⟩
  obtain ⟨w, S1, e1, e2⟩ := bnd_inv e
  obtain ⟨acc, S5, e3, e4⟩ := bnd_inv e2
  refine ⟨W, F, μ, ρ, S, w, S1, st, en, e1, fun J H1 W1 μ1 x1 st1 wk => ?_⟩
  refine comp2_reads (mu := mu) st1 (en.mono x1) wk hs hs1 e3 ?_
  cases mu with
  | true => rw [if_pos rfl] at e4 ⊢; cases e4; exact p.ext x1
  | false => rw [if_neg Bool.false_ne_true] at e4 ⊢; cases e4; exact p.ext x1
structure Lc2Ok (G : GT) (cl : Nat → List D → Sto → Rs D) (X : Cx) (scope : Scope) (elt tg : Expr) (ifs : List Expr) (tg1 iter1 : Expr) (ifs1 : List Expr) (me : ME) (mg : MG) (mc : MO) (mg1 : MG) (mi1 : MI) (mc1 : MO) : Prop where
  g : ∀ (s : Shared) (H : Hp) (C : Addr) (cells : List (Str × Addr)) (fp : List Addr), PG (X.blk s H scope (compEnvC scope cells C X.env) fp) tg (TGR X.K (slG mg) (asgG mg))
  t : ∀ (s : Shared) (H : Hp) (C : Addr) (cells : List (Str × Addr)) (fp : List Addr), PTs (X.blk s H scope (compEnvC scope cells C X.env) fp) ifs (TTR X.K (evC G cl mc))
  g1 : ∀ (s : Shared) (H : Hp) (C : Addr) (cells : List (Str × Addr)) (fp : List Addr), PG (X.blk s H scope (compEnvC scope cells C X.env) fp) tg1 (TGR X.K (slG mg1) (asgG mg1))
  i1 : ∀ (s : Shared) (H : Hp) (C : Addr) (cells : List (Str × Addr)) (fp : List Addr), PI (X.blk s H scope (compEnvC scope cells C X.env) fp) tg1 iter1 (TIR X.K (evI G cl mi1))
  t1 : ∀ (s : Shared) (H : Hp) (C : Addr) (cells : List (Str × Addr)) (fp : List Addr), PTs (X.blk s H scope (compEnvC scope cells C X.env) fp) ifs1 (TTR X.K (evC G cl mc1))
  e : ∀ (s : Shared) (H : Hp) (C : Addr) (cells : List (Str × Addr)) (fp : List Addr), PE (X.blk s H scope (compEnvC scope cells C X.env) fp) elt (TR X.K (evE G cl me))
theorem tr_lc2 (gd : Good G cl k Γ X) {mu : Bool} {vs vs1 : List Nat} {me : ME} {mg mg1 : MG} {mi mi1 : MI} {mc mc1 : MO} {elt tg iter tg1 iter1 : Expr} {ifs ifs1 : List Expr} {scope : Scope} {pos : Pos} (hv : ∀ i ∈ vs1, i ∈ vs) (hs : ∀ i ∈ slG mg, i ∈ vs) (hs1 : ∀ i ∈ slG mg1, i ∈ vs1) (ok : okX iter = true) (ok1 : okX iter1 = true) (hb : blkC Γ.N Γ.sc scope (ownOf Γ.N vs) = true)
    (hi : PI X tg iter (TIR X.K (evI G cl mi))) (L : Lc2Ok G cl X scope elt tg ifs tg1 iter1 ifs1 me mg mc mg1 mi1 mc1) : PE X (.ListComp elt [⟨tg, iter, ifs, 0⟩, ⟨tg1, iter1, ifs1, 0⟩] scope pos) (TR X.K (evE G cl (.lc2 mu vs me mg mi mc vs1 mg1 mi1 mc1))) := by
  have B : BlkOk X.N X.env.scope scope (ownOf Γ.N vs) := by rw [gd.N, gd.sc]; exact blkOk_by hb
  have h := pe_lc2 (vs1 := vs1) (pos := pos) gd.calm gd.nd hi B (by rw [own_snd]; exact hv) L.g L.t L.i1 L.g1 L.t1 L.e (fold_ok ok X.env) (fun env x => fold_ok ok1 env x)
  rw [own_snd] at h
  exact h.weak (lc2_w hs hs1)

/-! ### all expressions -/
mutual
theorem chkE_ok {G : GT} {cl : Nat → List D → Sto → Rs D} {k : Nat} : ∀ (m : ME) {Γ : Syn} {X : Cx} (e : Expr), Good G cl k Γ X → chkE G m Γ e = true → Eok G cl m X e
  | .var i, Γ, X, e, gd, h => by
    cases e <;> try (exact absurd (show false = true from h) Bool.false_ne_true)
    exact .of (tr_var gd.toSy h)
  | .int i, Γ, X, e, gd, h => by
    cases e <;> try (exact absurd (show false = true from h) Bool.false_ne_true)
    rename_i c n pos
    cases c <;> try (exact absurd (show false = true from h) Bool.false_ne_true)
    cases (dec (show decide (i = _) = true from h))
    exact .of (tr_const pe_int (fun _ _ => rfl) fun _ _ => rfl)
  | .str i, Γ, X, e, gd, h => by
    cases e <;> try (exact absurd (show false = true from h) Bool.false_ne_true)
    rename_i c n pos
    cases c <;> try (exact absurd (show false = true from h) Bool.false_ne_true)
    cases (dec (show decide (i = _) = true from h))
    exact .of (tr_const pe_str (fun _ _ => rfl) fun _ _ => rfl)
  | .bl i, Γ, X, e, gd, h => by
    cases e <;> try (exact absurd (show false = true from h) Bool.false_ne_true)
    rename_i c n pos
    cases c <;> try (exact absurd (show false = true from h) Bool.false_ne_true)
    cases (show i = _ from by simpa using (show (i == _) = true from h))
    exact .of (tr_const pe_bl (fun _ _ => rfl) fun _ _ => rfl)
  | .non, Γ, X, e, gd, h => by
    cases e <;> try (exact absurd (show false = true from h) Bool.false_ne_true)
    rename_i c n pos
    cases c <;> try (exact absurd (show false = true from h) Bool.false_ne_true)
    exact .of (tr_const pe_non (fun _ _ => rfl) fun _ _ => rfl)
  | .con g, Γ, X, e, gd, h => by
    cases e <;> try (exact absurd (show false = true from h) Bool.false_ne_true)
    rename_i x pos
    obtain ⟨h1, h2⟩ := bk (show (glB G Γ g x && (match conOf G g with
      | some _ => true
      | none => false)) = true from h)
    obtain ⟨⟨q, hg⟩, hgl, hdb, hnm⟩ := gl_ok gd.toSy h1
    cases c : conOf G g with
    | none => rw [c] at h2; cases h2
    | some d =>
      have hq : q = .con d := by
        unfold conOf at c
        rw [hg] at c
        cases q with
        | con d' => cases c; rfl
        | _ => cases c
      subst hq
      obtain ⟨u, v, hm, hr, hrep⟩ := gd.gf.con g x d hg
      exact .of (tr_const (pe_glob hgl hm hr hdb) (fun ρ S => by simp only [evE, c, lft_some]) hrep)
  | .bin op a b, Γ, X, e, gd, h => by
    cases e <;> try (exact absurd (show false = true from h) Bool.false_ne_true)
    rename_i x op' y pos
    obtain ⟨h1, h2⟩ := bk (show (decide (op = op') && (chkE G a Γ x && chkE G b Γ y)) = true from h)
    obtain ⟨h3, h4⟩ := bk h2
    cases (dec h1)
    exact .of (tr_bin (chkE_ok a x gd h3).pe (chkE_ok b y gd h4).pe)
  | .neg a, Γ, X, e, gd, h => by
    cases e <;> try (exact absurd (show false = true from h) Bool.false_ne_true)
    rename_i op x pos
    cases op <;> try (exact absurd (show false = true from h) Bool.false_ne_true)
    exact .of (tr_neg (chkE_ok a x gd h).pe)
  | .cmp op a b, Γ, X, e, gd, h => by
    cases e <;> try (exact absurd (show false = true from h) Bool.false_ne_true)
    rename_i x ops ys pos
    match ops, ys, h with
    | [op'], [y], h =>
      obtain ⟨h1, h2⟩ := bk (show (decide (op = op') && (okX y && (chkE G a Γ x && chkE G b Γ y))) = true from h)
      obtain ⟨h3, h4⟩ := bk h2
      obtain ⟨h5, h6⟩ := bk h4
      cases (dec h1)
      exact tr_cmp gd.hu h3 (chkE_ok a x gd h5).pe (chkE_ok b y gd h6).pe
    | [], _, h => exact nomatch h
    | _ :: _ :: _, _, h => exact nomatch h
    | [_], [], h => exact nomatch h
    | [_], _ :: _ :: _, h => exact nomatch h
  | .ch op op' a b c, Γ, X, e, gd, h => by
    cases e <;> try (exact absurd (show false = true from h) Bool.false_ne_true)
    rename_i x ops ys pos
    match ops, ys, h with
    | [p, q], [y, z], h =>
      obtain ⟨h1, h2⟩ := bk (show (decide (op = p) && (decide (op' = q) && (okX z && (chkE G a Γ x && (chkE G b Γ y && chkE G c Γ z))))) = true from h)
      obtain ⟨h3, h4⟩ := bk h2
      obtain ⟨h5, h6⟩ := bk h4
      obtain ⟨h7, h8⟩ := bk h6
      obtain ⟨h9, h10⟩ := bk h8
      cases (dec h1)
      cases (dec h3)
      exact tr_ch gd.hu h5 (chkE_ok a x gd h7).pe (chkE_ok b y gd h9).pe (chkE_ok c z gd h10).pe
    | [], _, h => exact nomatch h
    | [_], _, h => exact nomatch h
    | _ :: _ :: _ :: _, _, h => exact nomatch h
    | [_, _], [], h => exact nomatch h
    | [_, _], [_], h => exact nomatch h
    | [_, _], _ :: _ :: _ :: _, h => exact nomatch h
  | .and a b, Γ, X, e, gd, h => by
    cases e <;> try (exact absurd (show false = true from h) Bool.false_ne_true)
    rename_i op es pos
    cases op <;> try (exact absurd (show false = true from h) Bool.false_ne_true)
    match es, h with
    | x :: y :: r, h =>
      obtain ⟨h1, h2⟩ := bk (show (chkE G a Γ x && chkE G b Γ (.BoolOp .And (y :: r) pos)) = true from h)
      have A := chkE_ok a x gd h1
      have B := chkE_ok b (.BoolOp .And (y :: r) pos) gd h2
      have T := tt_and A.pt (B.pw _ _ _ rfl)
      exact ⟨tr_and A.pe B.pe, T.pt, fun op es' pos' q => by cases q; exact T⟩
    | [], h => exact nomatch h
    | [_], h => exact nomatch h
  | .or a b, Γ, X, e, gd, h => by
    cases e <;> try (exact absurd (show false = true from h) Bool.false_ne_true)
    rename_i op es pos
    cases op <;> try (exact absurd (show false = true from h) Bool.false_ne_true)
    match es, h with
    | x :: y :: r, h =>
      obtain ⟨h1, h2⟩ := bk (show (chkE G a Γ x && chkE G b Γ (.BoolOp .Or (y :: r) pos)) = true from h)
      have A := chkE_ok a x gd h1
      have B := chkE_ok b (.BoolOp .Or (y :: r) pos) gd h2
      have T := tt_or A.pt (B.pw _ _ _ rfl)
      exact ⟨tr_or A.pe B.pe, T.pt, fun op es' pos' q => by cases q; exact T⟩
    | [], h => exact nomatch h
    | [_], h => exact nomatch h
  | .one a, Γ, X, e, gd, h => by
    cases e <;> try (exact absurd (show false = true from h) Bool.false_ne_true)
    rename_i op es pos
    match es, h with
    | [x], h =>
      have A := chkE_ok a x gd (show chkE G a Γ x = true by cases op <;> exact h)
      have T : PW X (.BoolOp op [x] pos) (TTR X.K (evT G cl (.one a))) := by
        cases op
        · exact pw_and1 A.pt
        · exact pw_or1 A.pt
      exact ⟨pe_one A.pe, T.pt, fun op es' pos' q => by cases q; exact T⟩
    | [], h => cases op <;> exact nomatch h
    | _ :: _ :: _, h => cases op <;> exact nomatch h
  | .not a, Γ, X, e, gd, h => by
    cases e <;> try (exact absurd (show false = true from h) Bool.false_ne_true)
    rename_i op x pos
    cases op <;> try (exact absurd (show false = true from h) Bool.false_ne_true)
    exact tr_not (chkE_ok a x gd h)
  | .ifE c a b, Γ, X, e, gd, h => by
    cases e <;> try (exact absurd (show false = true from h) Bool.false_ne_true)
    rename_i x y z pos
    obtain ⟨h1, h2⟩ := bk (show (chkE G c Γ x && (chkE G a Γ y && chkE G b Γ z)) = true from h)
    obtain ⟨h3, h4⟩ := bk h2
    exact tr_if (chkE_ok c x gd h1) (chkE_ok a y gd h3) (chkE_ok b z gd h4)
  | .tup es, Γ, X, e, gd, h => by
    cases e <;> try (exact absurd (show false = true from h) Bool.false_ne_true)
    exact .of (tr_tup (chkEs_ok es _ gd h))
  | .lst es, Γ, X, e, gd, h => by
    cases e <;> try (exact absurd (show false = true from h) Bool.false_ne_true)
    exact .of (tr_lst (chkEs_ok es _ gd h))
  | .mlst es, Γ, X, e, gd, h => by
    cases e <;> try (exact absurd (show false = true from h) Bool.false_ne_true)
    exact .of (tr_mlst (chkEs_ok es _ gd h))
  | .dict ps, Γ, X, e, gd, h => by
    cases e <;> try (exact absurd (show false = true from h) Bool.false_ne_true)
    rename_i ks vs pos
    obtain ⟨h1, h2⟩ := bk (show (decide (ks.length ≤ 15) && (decide (ks.length = vs.length) && (!ks.isEmpty && chkPs G ps Γ ks vs))) = true from h)
    obtain ⟨h3, h4⟩ := bk h2
    obtain ⟨h5, h6⟩ := bk h4
    obtain ⟨a1, a2⟩ := chkPs_ok (pos := pos) ps ks vs gd h6
    exact .of (tr_dict a1 a2 (dec h3) (by intro q; subst q; cases h5) (dec h1))
  | .idx a i, Γ, X, e, gd, h => by
    cases e <;> try (exact absurd (show false = true from h) Bool.false_ne_true)
    rename_i x y pos
    have h' : (okX y && (chkE G a Γ x && chkE G i Γ y)) = true := h
    obtain ⟨h1, h2⟩ := bk h'
    obtain ⟨h3, h4⟩ := bk h2
    exact .of (tr_idx gd.hu1 h1 (chkE_ok a x gd h3).pe (chkE_ok i y gd h4).pe)
  | .sl a lo hi, Γ, X, e, gd, h => by
    cases e <;> try (exact absurd (show false = true from h) Bool.false_ne_true)
    rename_i x y pos
    cases y <;> try (exact absurd (show false = true from h) Bool.false_ne_true)
    rename_i l u st p2
    cases st <;> try (exact absurd (show false = true from h) Bool.false_ne_true)
    obtain ⟨h1, h2⟩ := bk (show (chkE G a Γ x && (chkO G lo Γ l && chkO G hi Γ u)) = true from h)
    obtain ⟨h3, h4⟩ := bk h2
    exact .of (tr_sl (chkE_ok a x gd h1).pe (chkO_ok lo l gd h3) (chkO_ok hi u gd h4))
  | .call g es, Γ, X, e, gd, h => by
    cases e <;> try (exact absurd (show false = true from h) Bool.false_ne_true)
    rename_i f xs kw pos
    cases f <;> try (exact absurd (show false = true from h) Bool.false_ne_true)
    cases kw <;> try (exact absurd (show false = true from h) Bool.false_ne_true)
    rename_i x p
    obtain ⟨h1, h2⟩ := bk (show (glB G Γ g x && (isFnB G g && chkEs G es Γ xs)) = true from h)
    obtain ⟨h3, h4⟩ := bk h2
    obtain ⟨⟨q, hg⟩, hgl, hdb, hnm⟩ := gl_ok gd.toSy h1
    obtain ⟨f, hf⟩ := fn_at hg h3
    exact .of (tr_call gd hf hgl hdb h4 (chkEs_ok es xs gd h4))
  | .bi b g es, Γ, X, e, gd, h => by
    cases e <;> try (exact absurd (show false = true from h) Bool.false_ne_true)
    rename_i f xs kw pos
    cases f <;> try (exact absurd (show false = true from h) Bool.false_ne_true)
    cases kw <;> try (exact absurd (show false = true from h) Bool.false_ne_true)
    rename_i x p
    obtain ⟨h1, h2⟩ := bk (show (glB G Γ g x && (isBlt G g && (decide (x = biName b) && (!xs.isEmpty && chkEs G es Γ xs)))) = true from h)
    obtain ⟨h3, h4⟩ := bk h2
    obtain ⟨h5, h6⟩ := bk h4
    obtain ⟨h7, h8⟩ := bk h6
    cases (dec h5)
    obtain ⟨⟨q, hg⟩, hgl, hdb, hnm⟩ := gl_ok gd.toSy h1
    exact .of (tr_bi gd (blt_at hg h3) hgl h8 (by simpa using h7) (chkEs_ok es xs gd h8))
  | .isI g hh n a, Γ, X, e, gd, h => by
    cases e <;> try (exact absurd (show false = true from h) Bool.false_ne_true)
    rename_i f xs kw pos
    cases f <;> try (exact absurd (show false = true from h) Bool.false_ne_true)
    rcases kw with _ | ⟨kw1, kws⟩
    rotate_left
    · simp [chkE] at h
    rename_i x p
    match xs, h with
    | [y, .Name t p2], h =>
      obtain ⟨h1, h2⟩ := bk (show (glB G Γ g x && (isBlt G g && (decide (x = "isinstance") && (glB G Γ hh t && (isBlt G hh && (decide (bootBuiltins t = some (.type n)) && (okX y && chkE G a Γ y))))))) = true from h)
      obtain ⟨h3, h4⟩ := bk h2
      obtain ⟨h5, h6⟩ := bk h4
      obtain ⟨h7, h8⟩ := bk h6
      obtain ⟨h9, h10⟩ := bk h8
      obtain ⟨h11, h12⟩ := bk h10
      obtain ⟨h13, h14⟩ := bk h12
      cases (dec h5)
      obtain ⟨⟨q, hg⟩, hgl, hdb, hnm⟩ := gl_ok gd.toSy h1
      obtain ⟨⟨q2, hg2⟩, hgl2, hdb2, hnm2⟩ := gl_ok gd.toSy h7
      exact .of (tr_isI gd (blt_at hg h3) hgl (blt_at hg2 h9) hgl2 hdb2 hnm2 (dec h11) h13 (chkE_ok a y gd h14).pe)
    | [], h => exact nomatch h
    | [_], h => exact nomatch h
    | _ :: _ :: _ :: _, h => simp [chkE] at h
    | [y, .BoolOp .. ], h => exact nomatch h
    | [y, .NamedExpr .. ], h => exact nomatch h
    | [y, .BinOp .. ], h => exact nomatch h
    | [y, .UnaryOp .. ], h => exact nomatch h
    | [y, .Lambda .. ], h => exact nomatch h
    | [y, .IfExp .. ], h => exact nomatch h
    | [y, .Dict .. ], h => exact nomatch h
    | [y, .Set .. ], h => exact nomatch h
    | [y, .ListComp .. ], h => exact nomatch h
    | [y, .SetComp .. ], h => exact nomatch h
    | [y, .DictComp .. ], h => exact nomatch h
    | [y, .GeneratorExp .. ], h => exact nomatch h
    | [y, .Await .. ], h => exact nomatch h
    | [y, .Yield .. ], h => exact nomatch h
    | [y, .YieldFrom .. ], h => exact nomatch h
    | [y, .Compare .. ], h => exact nomatch h
    | [y, .Call .. ], h => exact nomatch h
    | [y, .FormattedValue .. ], h => exact nomatch h
    | [y, .JoinedStr .. ], h => exact nomatch h
    | [y, .Constant .. ], h => exact nomatch h
    | [y, .Attribute .. ], h => exact nomatch h
    | [y, .Subscript .. ], h => exact nomatch h
    | [y, .Starred .. ], h => exact nomatch h
    | [y, .List .. ], h => exact nomatch h
    | [y, .Tuple .. ], h => exact nomatch h
    | [y, .Slice .. ], h => exact nomatch h
  | .meth m o es, Γ, X, e, gd, h => by
    cases e <;> try (exact absurd (show false = true from h) Bool.false_ne_true)
    rename_i f xs kw pos
    cases f <;> try (exact absurd (show false = true from h) Bool.false_ne_true)
    cases kw <;> try (exact absurd (show false = true from h) Bool.false_ne_true)
    rename_i y nm ap
    obtain ⟨h1, h2⟩ := bk (show (decide (nm = mtName m) && (noCall y && ((ap.endLine == pos.line) && (decide (xs.length < 30) && (chkE G o Γ y && chkEs G es Γ xs))))) = true from h)
    obtain ⟨h3, h4⟩ := bk h2
    obtain ⟨h5, h6⟩ := bk h4
    obtain ⟨h7, h8⟩ := bk h6
    obtain ⟨h9, h10⟩ := bk h8
    cases (dec h1)
    exact .of (tr_meth gd h3 h5 (dec h7) (chkE_ok o y gd h9).pe h10 (chkEs_ok es xs gd h10))
  | .lc mu vs elt tg it cs, Γ, X, e, gd, h => by
    cases e <;> try (exact absurd (show false = true from h) Bool.false_ne_true)
    rename_i y gs scope pos
    match gs, h with
    | [⟨t, i, ifs, a⟩], h =>
      obtain ⟨h1, h2⟩ := bk (show (decide (a = 0) && (okX i && (blkC Γ.N Γ.sc scope (ownOf Γ.N vs) && ((slG tg).all (fun j => decide (j ∈ vs)) &&
        (chkG tg (Γ.blk scope) t && (chkI G it Γ i && (chkCs G cs (Γ.blk scope) ifs && chkE G elt (Γ.blk scope) y))))))) = true from h)
      obtain ⟨h3, h4⟩ := bk h2
      obtain ⟨h5, h6⟩ := bk h4
      obtain ⟨h7, h8⟩ := bk h6
      obtain ⟨h9, h10⟩ := bk h8
      obtain ⟨h11, h12⟩ := bk h10
      obtain ⟨h13, h14⟩ := bk h12
      cases (dec h1)
      exact .of (tr_lc gd (fun j hj => dec (List.all_eq_true.mp h7 j hj)) h3 h5 (chkI_ok it i gd h11)
        ⟨fun s H C cells fp => chkG_ok (gd.blk s H C cells fp).toSy tg t h9, fun s H C cells fp => chkCs_ok cs ifs (gd.blk s H C cells fp) h13, fun s H C cells fp => (chkE_ok elt y (gd.blk s H C cells fp) h14).pe⟩)
    | [], h => exact nomatch h
    | ⟨_, _, _, _⟩ :: _ :: _, h => exact nomatch h
  | .lc2 mu vs elt tg it cs vs1 tg1 it1 cs1, Γ, X, e, gd, h => by
    cases e <;> try (exact absurd (show false = true from h) Bool.false_ne_true)
    rename_i y gs scope pos
    match gs, h with
    | [⟨t, i, ifs, a⟩, ⟨t1, i1, ifs1, a1⟩], h =>
      obtain ⟨h1, h2⟩ := bk (show (decide (a = 0) && (decide (a1 = 0) && (okX i && (okX i1 && (blkC Γ.N Γ.sc scope (ownOf Γ.N vs) && (vs1.all (fun j => decide (j ∈ vs)) && ((slG tg).all (fun j => decide (j ∈ vs)) && ((slG tg1).all (fun j => decide (j ∈ vs1)) &&
      (chkG tg (Γ.blk scope) t && (chkI G it Γ i && (chkCs G cs (Γ.blk scope) ifs && (chkG tg1 (Γ.blk scope) t1 && (chkI G it1 (Γ.blk scope) i1 && (chkCs G cs1 (Γ.blk scope) ifs1 && chkE G elt (Γ.blk scope) y)))))))))))))) = true from h)
      obtain ⟨h3, h4⟩ := bk h2
      obtain ⟨h5, h6⟩ := bk h4
      obtain ⟨h7, h8⟩ := bk h6
      obtain ⟨h9, h10⟩ := bk h8
      obtain ⟨h11, h12⟩ := bk h10
      obtain ⟨h13, h14⟩ := bk h12
      obtain ⟨h15, h16⟩ := bk h14
      obtain ⟨h17, h18⟩ := bk h16
      obtain ⟨h19, h20⟩ := bk h18
      obtain ⟨h21, h22⟩ := bk h20
      obtain ⟨h23, h24⟩ := bk h22
      obtain ⟨h25, h26⟩ := bk h24
      obtain ⟨h27, h28⟩ := bk h26
      cases (dec h1)
      cases (dec h3)
      exact .of (tr_lc2 gd (fun j hj => dec (List.all_eq_true.mp h11 j hj)) (fun j hj => dec (List.all_eq_true.mp h13 j hj)) (fun j hj => dec (List.all_eq_true.mp h15 j hj)) h5 h7 h9 (chkI_ok it i gd h19)
        ⟨fun s H C cells fp => chkG_ok (gd.blk s H C cells fp).toSy tg t h17, fun s H C cells fp => chkCs_ok cs ifs (gd.blk s H C cells fp) h21, fun s H C cells fp => chkG_ok (gd.blk s H C cells fp).toSy tg1 t1 h23, fun s H C cells fp => chkI_ok it1 i1 (gd.blk s H C cells fp) h25, fun s H C cells fp => chkCs_ok cs1 ifs1 (gd.blk s H C cells fp) h27, fun s H C cells fp => (chkE_ok elt y (gd.blk s H C cells fp) h28).pe⟩)
    | [], h => exact nomatch h
    | [⟨_, _, _, _⟩], h => exact nomatch h
    | ⟨_, _, _, _⟩ :: ⟨_, _, _, _⟩ :: _ :: _, h => exact nomatch h
theorem chkEs_ok {G : GT} {cl : Nat → List D → Sto → Rs D} {k : Nat} : ∀ (ms : MEs) {Γ : Syn} {X : Cx} (es : List Expr), Good G cl k Γ X → chkEs G ms Γ es = true → PA X es (TAR X.K (evEs G cl ms))
  | .nil, Γ, X, es, gd, h => by
    cases es with
    | nil => exact ta_nil
    | cons _ _ => exact nomatch h
  | .cons m ms, Γ, X, es, gd, h => by
    cases es with
    | nil => exact nomatch h
    | cons e es =>
      obtain ⟨h1, h2⟩ := bk (show (okX e && (chkE G m Γ e && chkEs G ms Γ es)) = true from h)
      obtain ⟨h3, h4⟩ := bk h2
      exact ta_cons h1 (chkE_ok m e gd h3).pe (chkEs_ok ms es gd h4)
theorem chkO_ok {G : GT} {cl : Nat → List D → Sto → Rs D} {k : Nat} : ∀ (m : MO) {Γ : Syn} {X : Cx} (o : Option Expr), Good G cl k Γ X → chkO G m Γ o = true → PO X o (TOR X.K (evO G cl m))
  | .none, Γ, X, o, gd, h => by
    cases o with
    | none => exact to_none
    | some _ => exact nomatch h
  | .some m, Γ, X, o, gd, h => by
    cases o with
    | none => exact nomatch h
    | some e => exact to_some (chkE_ok m e gd h).pe
theorem chkCs_ok {G : GT} {cl : Nat → List D → Sto → Rs D} {k : Nat} : ∀ (m : MO) {Γ : Syn} {X : Cx} (es : List Expr), Good G cl k Γ X → chkCs G m Γ es = true → PTs X es (TTR X.K (evC G cl m))
  | .none, Γ, X, es, gd, h => by
    cases es with
    | nil => exact tc_nil
    | cons _ _ => exact nomatch h
  | .some m, Γ, X, es, gd, h => by
    match es, h with
    | [e], h => exact tc_one (chkE_ok m e gd h).pt
    | [], h => exact nomatch h
    | _ :: _ :: _, h => exact nomatch h
theorem chkPs_ok {G : GT} {cl : Nat → List D → Sto → Rs D} {k : Nat} {pos : Pos} : ∀ (ps : MPs) {Γ : Syn} {X : Cx} (ks : List (Option Expr)) (vs : List Expr), Good G cl k Γ X → chkPs G ps Γ ks vs = true → PPok X pos ks vs (evPs G cl ps) ∧ ks.all (·.isSome) = true
  | .nil, Γ, X, ks, vs, gd, h => by
    match ks, vs, h with
    | [], [], _ => exact ⟨pp_nil, rfl⟩
    | [], _ :: _, h => exact nomatch h
    | _ :: _, _, h => exact nomatch h
  | .cons a b ps, Γ, X, ks, vs, gd, h => by
    match ks, vs, h with
    | some x :: ks, y :: vs, h =>
      obtain ⟨h1, h2⟩ := bk (show (chkE G a Γ x && (chkE G b Γ y && chkPs G ps Γ ks vs)) = true from h)
      obtain ⟨h3, h4⟩ := bk h2
      obtain ⟨a1, a2⟩ := chkPs_ok (pos := pos) ps ks vs gd h4
      exact ⟨pp_cons (chkE_ok a x gd h1).pe (chkE_ok b y gd h3).pe a1, by simpa using a2⟩
    | [], _, h => exact nomatch h
    | none :: _, _, h => exact nomatch h
    | some _ :: _, [], h => exact nomatch h
theorem chkI_ok {G : GT} {cl : Nat → List D → Sto → Rs D} {k : Nat} : ∀ (m : MI) {Γ : Syn} {X : Cx} (e : Expr) {tg : Expr}, Good G cl k Γ X → chkI G m Γ e = true → PI X tg e (TIR X.K (evI G cl m))
  | .seq m, Γ, X, e, tg, gd, h => ti_seq (chkE_ok m e gd h).pe
  | .rng g es, Γ, X, e, tg, gd, h => by
    cases e <;> try (exact absurd (show false = true from h) Bool.false_ne_true)
    rename_i f xs kw pos
    cases f <;> try (exact absurd (show false = true from h) Bool.false_ne_true)
    cases kw <;> try (exact absurd (show false = true from h) Bool.false_ne_true)
    rename_i x p
    obtain ⟨h1, h2⟩ := bk (show (glB G Γ g x && (isBlt G g && (decide (x = "range") && ((decide (xs.length = 1) || decide (xs.length = 2)) && chkEs G es Γ xs)))) = true from h)
    obtain ⟨h3, h4⟩ := bk h2
    obtain ⟨h5, h6⟩ := bk h4
    obtain ⟨h7, h8⟩ := bk h6
    cases (dec h5)
    obtain ⟨⟨q, hg⟩, hgl, hdb, hnm⟩ := gl_ok gd.toSy h1
    exact ti_rng gd (blt_at hg h3) hgl h8 (by simpa using h7) (chkEs_ok es xs gd h8)
end
end
end Rw

/-! M12: statements, defs -/
namespace Rw
open PySem PySem.Spec PyProof.Rows L2
section
variable {G : GT} {cl : Nat → List D → Sto → Rs D} {k : Nat} {Γ : Syn} {X : Cx}
def rAug (K : PySem.W.Frag) (op : Operator) : TIp := fun x y H Q => ∃ W F μ S d e r, Stt K W F μ S H ∧ Rep K W μ d x ∧ Rep K W μ e y ∧ augD op d e = some r ∧ Post K W F μ S r Q
theorem ip_any (op : Operator) : PIp X op (rAug X.K op) := by
  intro pins s σ H x y v u Q I rx ry h
  obtain ⟨W, F, μ, S, d, e, r, st, hd, he, hb, p⟩ := h
  unfold augD at hb
  split at hb
  · cases hb; cases (show x = _ from hd); cases (show y = _ from he)
    exact iop_add pins s σ H _ _ v u Q I rx ry ⟨_, _, rfl, rfl, p.int st⟩
  · cases hb; cases (show x = _ from hd); cases (show y = _ from he)
    exact iop_sub pins s σ H _ _ v u Q I rx ry ⟨_, _, rfl, rfl, p.int st⟩
  · split at hb
    · rename_i c
      cases hb; cases (show x = _ from hd); cases (show y = _ from he)
      exact iop_mul pins s σ H _ _ v u Q I rx ry ⟨_, _, rfl, rfl, c, p.int st⟩
    · cases hb
  · split at hb
    · rename_i c
      cases hb; cases (show x = _ from hd); cases (show y = _ from he)
      exact iop_add_str pins s σ H _ _ v u Q I rx ry ⟨_, _, rfl, rfl, c, p.strv st⟩
    · cases hb
  · cases hb
def rPut (K : PySem.W.Frag) : TSet := fun o i v H Q => ∃ W F μ S d e r S', Stt K W F μ S H ∧ Rep K W μ d o ∧ Rep K W μ e i ∧ Rep K W μ r v ∧ putI S d e r = some S' ∧ ∀ H' W' μ', Ext W μ W' μ' → Stt K W' F μ' S' H' → Q H'
theorem set_any (hu : X.A.units + 1 < cLine) : PSet X (rPut X.K) := by
  intro pins s σ H o i v ov iv u Q I ro ri rv h
  obtain ⟨W, F, μ, S, d, e, r, S', st, hd, he, hr, hb, p⟩ := h
  unfold putI at hb
  split at hb
  · rename_i j
    obtain ⟨a, hj, rfl⟩ := hd
    cases c : S[j]? with
    | none => rw [c] at hb; cases hb
    | some cc =>
      rw [c] at hb
      cases cc with
      | lst xs =>
        obtain ⟨ws, h1, h2⟩ := st.lst hj c
        simp only at hb
        split at hb
        · rename_i q
          cases (show i = _ from he)
          cases z : ixN xs.length q with
          | none => rw [z] at hb; cases hb
          | some n =>
            rw [z] at hb
            cases hb
            refine set_list pins s σ H _ _ _ ov iv u Q I ro ri rv ⟨a, ws, q, n, rfl, rfl, h1, by rw [h2.length]; exact z, ?_⟩
            exact p _ W μ Ext.refl (st.put _ _ hj ⟨_, upd_same, Reps.set n hr h2⟩)
        · cases hb
      | dk kvs =>
        obtain ⟨ws, h1, h2⟩ := st.dk hj c
        simp only at hb
        cases z : keyD e with
        | none => rw [z] at hb; cases hb
        | some q =>
          rw [z] at hb
          have hb : (if kvs.length < sizeLine then some (S.set j (.dk (storeK kvs q r))) else none) = some S' := hb
          split at hb
          · rename_i hl
            cases hb
            have hk := key_rep he z
            subst hk
            have hl2 : ws.length = kvs.length := by have := congrArg List.length h2.1; simpa using this.symm
            have e2 : ov = Value.ref a := ro
            subst e2
            refine d_setItem hu I (DPut.k (k := q) (v := v) h1 (by rw [hl2]; exact hl)) ri rv fun s' I' => ⟨_, I', ?_⟩
            exact p _ W μ Ext.refl (st.put _ _ hj ⟨_, upd_same, h2.store hr⟩)
          · cases hb
  · cases hb
def rGetK (K : PySem.W.Frag) : V → V → Hp → VK → Prop := fun o i H Q => ∃ W F μ S d e r, Stt K W F μ S H ∧ Rep K W μ d o ∧ Rep K W μ e i ∧ augGet S d e = some r ∧ Post K W F μ S r Q
theorem get_any (hu : X.A.units + 1 < cLine) : PGet X (rGetK X.K) := by
  intro pins s σ H o i ov iv Q I ro ri h
  obtain ⟨W, F, μ, S, d, e, r, st, hd, he, hb, p⟩ := h
  unfold augGet at hb
  split at hb
  · rename_i j
    obtain ⟨a, hj, rfl⟩ := hd
    cases c : S[j]? with
    | none => rw [c] at hb; cases hb
    | some cc =>
      rw [c] at hb
      cases cc with
      | lst xs => cases hb
      | dk kvs =>
        obtain ⟨ws, h1, h2⟩ := st.dk hj c
        simp only at hb
        cases z : keyD e with
        | none => rw [z] at hb; cases hb
        | some q =>
          rw [z] at hb
          obtain ⟨v, h3, h4⟩ := h2.look (show lookK kvs q = some r from hb)
          have hk := key_rep he z
          subst hk
          have e2 : ov = Value.ref a := ro
          subst e2
          exact d_getItem hu I (by rw [← h3]; exact DGet.k h1) ri fun w' s3 I3 rw' => ⟨v, H, I3, rw', p.same st h4⟩
  · cases hb

/-! ### stores -/
structure GoodS (G : GT) (cl : Nat → List D → Sto → Rs D) (k : Nat) (Γ : Syn) (X : Cx) : Prop extends Good G cl k Γ X where
  kd : Γ.sc.kind = .function
theorem GoodS.bk (g : GoodS G cl k Γ X) : X.env.blockKind = .function := by
  unfold PySem.Env.blockKind
  rw [g.sc, g.kd]
  rfl
theorem asg_none_name {x : Str} {p : Pos} {v : Expr} {env : PySem.Env} : swappedStores [.Name x p] v env = pure none := by
  cases v <;> rfl
theorem asg_none_val {ts : List Expr} {n : Nat} {p : Pos} {v : Expr} {env : PySem.Env} (h : ∀ vs m q, v ≠ .Tuple vs m q) : swappedStores [.Tuple ts n p] v env = pure none := by
  cases v <;> first | rfl | exact absurd rfl (h _ _ _)
theorem asg_none_sub {o i : Expr} {p : Pos} {v : Expr} {env : PySem.Env} : swappedStores [.Subscript o i p] v env = pure none := by
  cases v <;> rfl
theorem noSw_ok (g : GoodS G cl k Γ X) {ts vs : List Expr} {n m : Nat} {p q : Pos} (h : noSw Γ ts vs = true) : swappedStores [.Tuple ts n p] (.Tuple vs m q) X.env = pure none := by
  unfold swappedStores
  simp only [pure_bind]
  unfold noSw at h
  by_cases c1 : (!(ts.length == 2 || ts.length == 3) || vs.length != ts.length) = true
  · have : (!(ts.length == 2 || ts.length == 3) || vs.length != ts.length || X.env.blockKind != ScopeKind.function) = true := by rw [c1]; rfl
    rw [if_pos this]
  · rw [Bool.not_eq_true] at c1
    rw [c1, Bool.false_or] at h
    have hbk : (X.env.blockKind != ScopeKind.function) = false := by rw [g.bk]; rfl
    have : (!(ts.length == 2 || ts.length == 3) || vs.length != ts.length || X.env.blockKind != ScopeKind.function) = false := by rw [c1, hbk]; rfl
    rw [if_neg (by rw [this]; exact Bool.false_ne_true)]
    split
    · rfl
    · have hk : ∀ id, X.env.kindOf id = Γ.sc.names.lookup id := fun id => by show X.env.scope.names.lookup id = _; rw [g.sc]
      simp only [hk]
      rcases Bool.or_eq_true_iff.mp h with h | h
      · split
        · rfl
        · rename_i hh
          exact absurd (Bool.or_eq_true_iff.mpr (Or.inl h)) hh
      · split
        · rfl
        · first | rfl | rw [if_pos h]
theorem sw2_ok (g : GoodS G cl k Γ X) {x y : Str} {px py p q : Pos} {a b : Expr} {n m : Nat} (hs : swB [px, py] [a, b] = true) (hx : X.env.scope.names.lookup x = some .local) (hy : X.env.scope.names.lookup y = some .local) (hxy : x ≠ y) (oa : okX a = true) (ob : okX b = true) :
    swappedStores [.Tuple [.Name x px, .Name y py] n p] (.Tuple [a, b] m q) X.env = pure (some [x, y]) := by
  obtain ⟨h1, h2⟩ := Rw.bk hs
  obtain ⟨h3, h4⟩ := Rw.bk h2
  have hl : (py.line == px.line) = true := by simpa using h1
  have kx : (X.env.kindOf x == some NameKind.local) = true := by show (X.env.scope.names.lookup x == some NameKind.local) = true; rw [hx]; rfl
  have ky : (X.env.kindOf y == some NameKind.local) = true := by show (X.env.scope.names.lookup y == some NameKind.local) = true; rw [hy]; rfl
  have hbk : (X.env.blockKind != ScopeKind.function) = false := by rw [g.bk]; rfl
  have hst : ([a, b].any fun
    | .Starred .. => true
    | _ => false) = false := by
    cases a <;> first | (cases oa; done) | skip
    all_goals (cases b <;> first | rfl | cases ob)
  have hlx : (px.line == px.line) = true := by simp
  have hf1 : [a, b].all (foldedForSure 8) = false := by
    cases q : [a, b].all (foldedForSure 8) with
    | true => rw [q] at h3; cases h3
    | false => rfl
  have hf2 : [a, b].all (constantsAlone 8) = false := by
    cases q : [a, b].all (constantsAlone 8) with
    | true => rw [q] at h4; cases h4
    | false => rfl
  have hd : ([x, y] : List Str).eraseDups.length = 2 := by
    have e1 : (y == x) = false := by rw [beq_eq_false_iff_ne]; exact Ne.symm hxy
    simp [List.eraseDups_cons, e1]
  unfold swappedStores
  simp only [pure_bind]
  split
  · rename_i hh
    rw [hbk] at hh
    simp at hh
  · split
    · rename_i hh
      exact absurd (hst.symm.trans hh) Bool.false_ne_true
    · simp only [List.head?_cons, Option.map_some, Option.getD_some, List.filterMap_cons, kx, ky, Bool.true_and, Expr.pos, hl, hlx, if_true, List.filterMap_nil, List.length_cons, List.length_nil, Nat.zero_add, hd, hf1, hf2]
      rfl
theorem ts_asg (g : GoodS G cl k Γ X) {tg : MG} {e : ME} {t v : Expr} {pos : Pos} (hn : notLc v = true) (hw : swappedStores [t] v X.env = pure none) (ht : chkG tg Γ t = true) (hv : PE X v (TR X.K (evE G cl e))) : PS X (.Assign [t] v pos) (TSR X.K (evS G cl (.asg tg e))) := by
  have ot : okX t = true := by
    cases tg <;> cases t <;> first | rfl | exact absurd (show false = true from ht) Bool.false_ne_true
  refine (ps_asg hv (chkG_ok g.toSy tg t ht) (swaps_ok hn _ _ _) hw (by rw [asgEach_ok ot]; rfl)).weak ?_
  rintro D σ H ⟨W, F, μ, ρ, S, fl, S', st, en, e1, p⟩
  obtain ⟨d, S1, e2, e3⟩ := bnd_inv e1
  obtain ⟨ρ1, e4, e5⟩ := lft_inv e3
  cases e5
  exact ⟨W, F, μ, ρ, S, d, _, st, en, e2, fun x H1 W1 μ1 x1 st1 r1 => ⟨W1, F, μ1, ρ, _, d, ρ1, st1, en.mono x1, r1, e4, fun σ1 en1 _ _ => p σ1 H1 W1 μ1 x1 st1 en1⟩⟩
theorem ts_lc (g : GoodS G cl k Γ X) {i : Nat} {y : Str} {py : Pos} {mu : Bool} {vs : List Nat} {me : ME} {mg : MG} {mi : MI} {mc : MO} {elt tg iter : Expr} {ifs : List Expr} {scope : Scope} {pos spos : Pos} (hy : locB Γ i y = true) (hyl : Γ.sc.names.lookup y = some .local) (hln : (py.line == pos.line) = true)
    (hany : (scope.names.any fun (n, k) => n == y && (k == .local || k == .cell)) = false) (hs : ∀ i ∈ slG mg, i ∈ vs) (ok : okX iter = true) (hb : blkC Γ.N Γ.sc scope (ownOf Γ.N vs) = true)
    (hi : PI X tg iter (TIR X.K (evI G cl mi))) (L : LcOk G cl X scope elt tg ifs me mg mc) : PS X (.Assign [.Name y py] (.ListComp elt [⟨tg, iter, ifs, 0⟩] scope pos) spos) (TSR X.K (evS G cl (.asg (.name i) (.lc mu vs me mg mi mc)))) := by
  have B : BlkOk X.N X.env.scope scope (ownOf Γ.N vs) := by rw [g.N, g.sc]; exact blkOk_by hb
  obtain ⟨h1, h2, h3⟩ := loc_ok g.toSy hy
  have hl' : X.env.scope.names.lookup y = some .local := by rw [g.sc]; exact hyl
  have h := ps_setLc (py := py) (pos := pos) (spos := spos) g.calm g.nd h1 hl' (sw_true (by rw [g.sc]; exact g.kd) hl' hln hany) hi B L.g L.t L.e (fold_ok ok X.env)
  rw [own_snd] at h
  refine h.weak ?_
  rintro D σ H ⟨W, F, μ, ρ, S, fl, S', st, en, e1, p⟩
  obtain ⟨d, S1, e2, e3⟩ := bnd_inv e1
  obtain ⟨ρ1, e4, e5⟩ := lft_inv e3
  cases e5
  refine lc_w hs σ H _ ⟨W, F, μ, ρ, S, d, _, st, en, e2, fun x H1 W1 μ1 x1 st1 r1 => ?_⟩
  have e4 : (if i < ρ.length then some (ρ.set i (some d)) else none) = some ρ1 := e4
  split at e4
  · cases e4
    exact p _ H1 W1 μ1 x1 st1 ((en.mono x1).set r1)
  · cases e4
theorem ts_lc2 (g : GoodS G cl k Γ X) {i : Nat} {y : Str} {py : Pos} {mu : Bool} {vs vs1 : List Nat} {me : ME} {mg mg1 : MG} {mi mi1 : MI} {mc mc1 : MO} {elt tg iter tg1 iter1 : Expr} {ifs ifs1 : List Expr} {scope : Scope} {pos spos : Pos} (hy : locB Γ i y = true) (hyl : Γ.sc.names.lookup y = some .local) (hln : (py.line == pos.line) = true)
    (hany : (scope.names.any fun (n, k) => n == y && (k == .local || k == .cell)) = false) (hv : ∀ i ∈ vs1, i ∈ vs) (hs : ∀ i ∈ slG mg, i ∈ vs) (hs1 : ∀ i ∈ slG mg1, i ∈ vs1) (ok : okX iter = true) (ok1 : okX iter1 = true) (hb : blkC Γ.N Γ.sc scope (ownOf Γ.N vs) = true)
    (hi : PI X tg iter (TIR X.K (evI G cl mi))) (L : Lc2Ok G cl X scope elt tg ifs tg1 iter1 ifs1 me mg mc mg1 mi1 mc1) : PS X (.Assign [.Name y py] (.ListComp elt [⟨tg, iter, ifs, 0⟩, ⟨tg1, iter1, ifs1, 0⟩] scope pos) spos) (TSR X.K (evS G cl (.asg (.name i) (.lc2 mu vs me mg mi mc vs1 mg1 mi1 mc1)))) := by
  have B : BlkOk X.N X.env.scope scope (ownOf Γ.N vs) := by rw [g.N, g.sc]; exact blkOk_by hb
  obtain ⟨h1, h2, h3⟩ := loc_ok g.toSy hy
  have hl' : X.env.scope.names.lookup y = some .local := by rw [g.sc]; exact hyl
  have h := ps_setLc2 (vs1 := vs1) (py := py) (pos := pos) (spos := spos) g.calm g.nd h1 hl' (sw_true (by rw [g.sc]; exact g.kd) hl' hln hany) hi B (by rw [own_snd]; exact hv) L.g L.t L.i1 L.g1 L.t1 L.e (fold_ok ok X.env) (fun env x => fold_ok ok1 env x)
  rw [own_snd] at h
  refine h.weak ?_
  rintro D σ H ⟨W, F, μ, ρ, S, fl, S', st, en, e1, p⟩
  obtain ⟨d, S1, e2, e3⟩ := bnd_inv e1
  obtain ⟨ρ1, e4, e5⟩ := lft_inv e3
  cases e5
  refine lc2_w hs hs1 σ H _ ⟨W, F, μ, ρ, S, d, _, st, en, e2, fun x H1 W1 μ1 x1 st1 r1 => ?_⟩
  have e4 : (if i < ρ.length then some (ρ.set i (some d)) else none) = some ρ1 := e4
  split at e4
  · cases e4
    exact p _ H1 W1 μ1 x1 st1 ((en.mono x1).set r1)
  · cases e4
theorem lcl_ok (y : Sy Γ X) {i : Nat} {x : Str} (h : lclB Γ i x = true) : X.N[i]? = some x ∧ X.env.scope.names.lookup x = some .local := by
  obtain ⟨h1, h2⟩ := bk h
  exact ⟨by rw [y.N]; exact dec h1, by rw [y.sc]; exact dec h2⟩
theorem ts_par2 (g : GoodS G cl k Γ X) {i j : Nat} {a b : ME} {x y : Str} {u v : Expr} {px py p q pos : Pos} {n m : Nat} (hs : swB [px, py] [u, v] = true) (hx : lclB Γ i x = true) (hy : lclB Γ j y = true) (hij : i ≠ j) (hxy : x ≠ y) (ou : okX u = true) (ov : okX v = true)
    (ha : PE X u (TR X.K (evE G cl a))) (hb : PE X v (TR X.K (evE G cl b))) : PS X (.Assign [.Tuple [.Name x px, .Name y py] n p] (.Tuple [u, v] m q) pos) (TSR X.K (evS G cl (.par2 i j a b))) := by
  obtain ⟨h1, h2⟩ := lcl_ok g.toSy hx
  obtain ⟨h3, h4⟩ := lcl_ok g.toSy hy
  refine (ps_par g.calm g.nd h1 h3 hij h2 h4 (pa_cons ha (pa_cons hb pa_nil (star_ok ov _ _)) (star_ok ou _ _)) (sw2_ok g hs h2 h4 hxy ou ov)).weak ?_
  rintro D σ H ⟨W, F, μ, ρ, S, fl, S', st, en, e1, p⟩
  obtain ⟨d, S1, e2, e3⟩ := bnd_inv e1
  obtain ⟨e, S2, e4, e5⟩ := bnd_inv e3
  cases e5
  exact ⟨W, F, μ, ρ, S, d, S1, st, en, e2, fun v1 H1 W1 μ1 x1 st1 r1 => ⟨W1, F, μ1, ρ, S1, e, _, st1, en.mono x1, e4, fun v2 H2 W2 μ2 x2 st2 r2 => ⟨v1, v2, rfl, p _ H2 W2 μ2 (x1.trans x2) st2 (((en.mono (x1.trans x2)).set (r1.m x2)).set r2)⟩⟩⟩
theorem ts_aug (g : GoodS G cl k Γ X) {i : Nat} {op : Operator} {e : ME} {x : Str} {v : Expr} {p pos : Pos} (hx : locB Γ i x = true) (hv : PE X v (TR X.K (evE G cl e))) : PS X (.AugAssign (.Name x p) op v pos) (TSR X.K (evS G cl (.aug i op e))) := by
  obtain ⟨h1, h2, h3⟩ := loc_ok g.toSy hx
  refine (ps_aug g.nd h1 h2 hv (ip_any op) h3).weak ?_
  rintro D σ H ⟨W, F, μ, ρ, S, fl, S', st, en, e1, p⟩
  cases c : ρ[i]? with
  | none => simp only [evS, c] at e1; cases e1
  | some q =>
    cases q with
    | none => simp only [evS, c] at e1; cases e1
    | some d =>
      simp only [evS, c] at e1
      obtain ⟨y, S1, e2, e3⟩ := bnd_inv e1
      obtain ⟨r, e4, e5⟩ := lft_inv e3
      cases e5
      obtain ⟨u, hu, ru⟩ := en.2 i d c
      exact ⟨u, hu, W, F, μ, ρ, S, y, _, st, en, e2, fun v1 H1 W1 μ1 x1 st1 r1 => ⟨W1, F, μ1, _, d, y, r, st1, ru.m x1, r1, e4, fun v2 H2 W2 μ2 x2 st2 r2 => p _ H2 W2 μ2 (x1.trans x2) st2 ((en.mono (x1.trans x2)).set r2)⟩⟩
theorem ts_setI (g : GoodS G cl k Γ X) {o i e : ME} {p q v : Expr} {tp pos : Pos} (ok : okX q = true) (hn : notLc v = true) (hv : PE X v (TR X.K (evE G cl e))) (ho : PE X p (TR X.K (evE G cl o))) (hi : PE X q (TR X.K (evE G cl i))) : PS X (.Assign [.Subscript p q tp] v pos) (TSR X.K (evS G cl (.setI o i e))) := by
  refine (ps_asg hv (pg_sub ho hi (set_any g.hu1) fun w => asgsub_ok ok p tp X.env w) (show swapsWithSole [.Subscript p q tp] v pos.line X.env = pure false from swaps_ok hn (some (.Subscript p q tp)) pos.line X.env) asg_none_sub (by rfl)).weak ?_
  rintro D σ H ⟨W, F, μ, ρ, S, fl, S', st, en, e1, p⟩
  obtain ⟨d1, S1, e2, e3⟩ := bnd_inv e1
  obtain ⟨d2, S2, e4, e5⟩ := bnd_inv e3
  obtain ⟨d3, S3, e6, e7⟩ := bnd_inv e5
  obtain ⟨S4, e8, e9⟩ := lft_inv e7
  cases e9
  exact ⟨W, F, μ, ρ, S, d1, S1, st, en, e2, fun v1 H1 W1 μ1 x1 st1 r1 => ⟨W1, F, μ1, ρ, S1, d2, S2, st1, en.mono x1, e4, fun v2 H2 W2 μ2 x2 st2 r2 => ⟨W2, F, μ2, ρ, S2, d3, S3, st2, en.mono (x1.trans x2), e6, fun v3 H3 W3 μ3 x3 st3 r3 =>
    ⟨W3, F, μ3, S3, d2, d3, d1, _, st3, r2.m x3, r3, r1.m (x2.trans x3), e8, fun H4 W4 μ4 x4 st4 => p σ H4 W4 μ4 (((x1.trans x2).trans x3).trans x4) st4 (en.mono (((x1.trans x2).trans x3).trans x4))⟩⟩⟩⟩
theorem ts_augI (g : GoodS G cl k Γ X) {o i e : ME} {op : Operator} {p q v : Expr} {tp pos : Pos} (ok : okX q = true) (hv : PE X v (TR X.K (evE G cl e))) (ho : PE X p (TR X.K (evE G cl o))) (hi : PE X q (TR X.K (evE G cl i))) : PS X (.AugAssign (.Subscript p q tp) op v pos) (TSR X.K (evS G cl (.augI o i op e))) := by
  refine (ps_augS ho hi (get_any g.hu1) hv (ip_any op) (set_any g.hu1) fun ov iv new => aug_ok ok ov iv new).weak ?_
  rintro D σ H ⟨W, F, μ, ρ, S, fl, S', st, en, e1, p⟩
  obtain ⟨d1, S1, e2, e3⟩ := bnd_inv e1
  obtain ⟨d2, S2, e4, e5⟩ := bnd_inv e3
  obtain ⟨dx, e6, e7⟩ := lft_inv e5
  obtain ⟨d3, S3, e8, e9⟩ := bnd_inv e7
  obtain ⟨r, e10, e11⟩ := lft_inv e9
  obtain ⟨S4, e12, e13⟩ := lft_inv e11
  cases e13
  refine ⟨W, F, μ, ρ, S, d1, S1, st, en, e2, fun v1 H1 W1 μ1 x1 st1 r1 => ⟨W1, F, μ1, ρ, S1, d2, S2, st1, en.mono x1, e4, fun v2 H2 W2 μ2 x2 st2 r2 => ⟨W2, F, μ2, S2, d1, d2, dx, st2, r1.m x2, r2, e6, fun v3 H3 W3 μ3 x3 st3 r3 => ?_⟩⟩⟩
  refine ⟨W3, F, μ3, ρ, S2, d3, S3, st3, en.mono ((x1.trans x2).trans x3), e8, fun v4 H4 W4 μ4 x4 st4 r4 => ⟨W4, F, μ4, S3, dx, d3, r, st4, r3.m x4, r4, e10, fun v5 H5 W5 μ5 x5 st5 r5 => ?_⟩⟩
  exact ⟨W5, F, μ5, S3, d1, d2, r, _, st5, r1.m (((x2.trans x3).trans x4).trans x5), r2.m ((x3.trans x4).trans x5), r5, e12, fun H6 W6 μ6 x6 st6 => p σ H6 W6 μ6 (((((x1.trans x2).trans x3).trans x4).trans x5).trans x6) st6 (en.mono (((((x1.trans x2).trans x3).trans x4).trans x5).trans x6))⟩
theorem ts_if {c : ME} {a b : MSs} {t : Expr} {x y : List Stmt} {pos : Pos} (hc : PT X t (TTR X.K (evT G cl c))) (ha : PSs X x (TSR X.K (evSs G cl a))) (hb : PSs X y (TSR X.K (evSs G cl b))) : PS X (.If t x y pos) (TSR X.K (evS G cl (.ifS c a b))) := by
  refine (ps_if hc ha hb).weak ?_
  rintro D σ H ⟨W, F, μ, ρ, S, fl, S', st, en, e1, p⟩
  obtain ⟨t, S1, e2, e3⟩ := bnd_inv e1
  refine ⟨W, F, μ, ρ, S, t, S1, st, en, e2, fun H1 W1 μ1 x1 st1 => ?_⟩
  cases t with
  | true => rw [if_pos rfl] at e3 ⊢; exact ⟨W1, F, μ1, ρ, S1, fl, S', st1, en.mono x1, e3, p.ext x1⟩
  | false => rw [if_neg Bool.false_ne_true] at e3 ⊢; exact ⟨W1, F, μ1, ρ, S1, fl, S', st1, en.mono x1, e3, p.ext x1⟩
theorem ts_whl (g : GoodS G cl k Γ X) {c : ME} {b : MSs} {t : Expr} {x : List Stmt} {pos : Pos} (hc : PT X t (TTR X.K (evT G cl c))) (hb : PSs X x (TSR X.K (evSs G cl b))) : PS X (.While t x [] pos) (TSR X.K (evS G cl (.whl c b))) := by
  refine (ps_while g.passes hc hb).weak ?_
  rintro D σ H ⟨W, F, μ, ρ, S, fl, S', st, en, e1, p⟩
  exact while_reads st en e1 p
theorem ts_for (g : GoodS G cl k Γ X) {tg : MG} {it : MI} {b : MSs} {t i : Expr} {x : List Stmt} {pos : Pos} (ok : okX i = true) (ht : chkG tg Γ t = true) (hi : PI X t i (TIR X.K (evI G cl it))) (hb : PSs X x (TSR X.K (evSs G cl b))) : PS X (.For t i x [] pos) (TSR X.K (evS G cl (.forS tg it b))) := by
  refine (ps_for g.passes g.calm hi (chkG_ok g.toSy tg t ht) hb (fold_ok ok X.env)).weak ?_
  rintro D σ H ⟨W, F, μ, ρ, S, fl, S', st, en, e1, p⟩
  obtain ⟨w, S1, e2, e3⟩ := bnd_inv e1
  exact ⟨W, F, μ, ρ, S, w, S1, st, en, e2, fun J H1 W1 μ1 x1 st1 wk => for_reads st1 (en.mono x1) wk e3 (p.ext x1)⟩
theorem ts_ret {e : ME} {v : Expr} {pos : Pos} (hv : PE X v (TR X.K (evE G cl e))) : PS X (.Return (some v) pos) (TSR X.K (evS G cl (.ret e))) := by
  refine (ps_ret hv).weak ?_
  rintro D σ H ⟨W, F, μ, ρ, S, fl, S', st, en, e1, p⟩
  obtain ⟨d, S1, e2, e3⟩ := bnd_inv e1
  cases e3
  exact ⟨W, F, μ, ρ, S, d, _, st, en, e2, p⟩
theorem ts_ex {e : ME} {v : Expr} {pos : Pos} (hn : notLc v = true) (hv : PE X v (TR X.K (evE G cl e))) : PS X (.Expr v pos) (TSR X.K (evS G cl (.ex e))) := by
  refine (ps_expr hv (swaps_ok hn _ _ _)).weak ?_
  rintro D σ H ⟨W, F, μ, ρ, S, fl, S', st, en, e1, p⟩
  obtain ⟨d, S1, e2, e3⟩ := bnd_inv e1
  cases e3
  exact ⟨W, F, μ, ρ, S, d, _, st, en, e2, fun v H1 W1 μ1 x1 st1 _ => p σ H1 W1 μ1 x1 st1 (en.mono x1)⟩
theorem tss_cons {s : MS} {ss : MSs} {x : Stmt} {xs : List Stmt} (h : PS X x (TSR X.K (evS G cl s))) (hs : PSs X xs (TSR X.K (evSs G cl ss))) : PSs X (x :: xs) (TSR X.K (evSs G cl (.cons s ss))) := by
  refine (pss_cons h hs).weak ?_
  rintro D σ H ⟨W, F, μ, ρ, S, fl, S', st, en, e1, p⟩
  obtain ⟨fl1, S1, e2, e3⟩ := bnd_inv e1
  refine ⟨W, F, μ, ρ, S, fl1, S1, st, en, e2, ?_⟩
  cases fl1 with
  | nx ρ1 => exact fun σ1 H1 W1 μ1 x1 st1 en1 => ⟨W1, F, μ1, ρ1, S1, fl, S', st1, en1, e3, p.ext x1⟩
  | bk ρ1 => cases e3; exact p
  | rt d => cases e3; exact p
theorem tss_nil : PSs X [] (TSR X.K (evSs G cl .nil)) := pss_nil.weak (by
  rintro D σ H ⟨W, F, μ, ρ, S, fl, S', st, en, e1, p⟩
  cases e1
  exact p σ H W μ Ext.refl st en)
/-- a comprehension's text is a comprehension -/
theorem lc_only {m : ME} {Γ : Syn} {elt : Expr} {gs : List Comprehension} {scope : Scope} {pos : Pos} (h : chkE G m Γ (.ListComp elt gs scope pos) = true) : (∃ mu vs me mg mi mc, m = .lc mu vs me mg mi mc) ∨ ∃ mu vs me mg mi mc vs1 mg1 mi1 mc1, m = .lc2 mu vs me mg mi mc vs1 mg1 mi1 mc1 := by
  cases m <;> first | exact .inl ⟨_, _, _, _, _, _, rfl⟩ | exact .inr ⟨_, _, _, _, _, _, _, _, _, _, rfl⟩ | exact absurd (show false = true from h) Bool.false_ne_true
end
theorem asgB_other {Γ : Syn} {t v : Expr} (h1 : ∀ y py e gs s p, ¬ (t = .Name y py ∧ v = .ListComp e gs s p)) (h2 : ∀ ts n p vs m q, ¬ (t = .Tuple ts n p ∧ v = .Tuple vs m q)) (h : asgB Γ t v = true) : notLc v = true := by
  unfold asgB at h
  split at h
  · exact absurd ⟨rfl, rfl⟩ (h1 _ _ _ _ _ _)
  · exact absurd ⟨rfl, rfl⟩ (h2 _ _ _ _ _ _)
  · exact h
mutual
theorem chkS_ok {G : GT} {cl : Nat → List D → Sto → Rs D} {k : Nat} {Γ : Syn} {X : Cx} (g : GoodS G cl k Γ X) : ∀ (m : MS) (st : Stmt), chkS G m Γ st = true → PS X st (TSR X.K (evS G cl m))
  | .asg tg e, st, h => by
    cases st <;> try (exact absurd (show false = true from h) Bool.false_ne_true)
    rename_i ts v pos
    match ts, h with
    | [t], h =>
      obtain ⟨h1, h2⟩ := bk (show (asgB Γ t v && (chkG tg Γ t && chkE G e Γ v)) = true from h)
      obtain ⟨h3, h4⟩ := bk h2
      by_cases c1 : ∃ y py e gs s p, t = .Name y py ∧ v = .ListComp e gs s p
      · obtain ⟨y, py, e', gs, s, p, rfl, rfl⟩ := c1
        obtain ⟨q1, q2⟩ := bk (show (decide (Γ.sc.names.lookup y = some .local) && ((py.line == p.line) && !(s.names.any fun (n, k) => n == y && (k == .local || k == .cell)))) = true from h1)
        obtain ⟨q3, q4⟩ := bk q2
        cases tg with
        | tup _ => exact absurd (show false = true from h3) Bool.false_ne_true
        | name i =>
         rcases lc_only h4 with ⟨mu, vs, me, mg, mi, mc, rfl⟩ | ⟨mu, vs, me, mg, mi, mc, vs1, mg1, mi1, mc1, rfl⟩
         · match gs, h4 with
          | [⟨t', it', ifs, a⟩], h4 =>
            obtain ⟨a1, a2⟩ := bk (show (decide (a = 0) && (okX it' && (blkC Γ.N Γ.sc s (ownOf Γ.N vs) && ((slG mg).all (fun j => decide (j ∈ vs)) &&
              (chkG mg (Γ.blk s) t' && (chkI G mi Γ it' && (chkCs G mc (Γ.blk s) ifs && chkE G me (Γ.blk s) e'))))))) = true from h4)
            obtain ⟨a3, a4⟩ := bk a2
            obtain ⟨a5, a6⟩ := bk a4
            obtain ⟨a7, a8⟩ := bk a6
            obtain ⟨a9, a10⟩ := bk a8
            obtain ⟨a11, a12⟩ := bk a10
            obtain ⟨a13, a14⟩ := bk a12
            cases (dec a1)
            exact ts_lc g h3 (dec q1) q3 (by simpa using q4) (fun j hj => dec (List.all_eq_true.mp a7 j hj)) a3 a5 (chkI_ok mi it' g.toGood a11)
              ⟨fun s H C cells fp => chkG_ok (g.toGood.blk s H C cells fp).toSy mg t' a9, fun s H C cells fp => chkCs_ok mc ifs (g.toGood.blk s H C cells fp) a13, fun s H C cells fp => (chkE_ok me e' (g.toGood.blk s H C cells fp) a14).pe⟩
          | [], h4 => exact absurd (show false = true from h4) Bool.false_ne_true
          | ⟨_, _, _, _⟩ :: _ :: _, h4 => exact absurd (show false = true from h4) Bool.false_ne_true
         · match gs, h4 with
          | [⟨t', it', ifs, a⟩, ⟨t1, i1, ifs1, a1⟩], h4 =>
            obtain ⟨h1, h2⟩ := bk (show (decide (a = 0) && (decide (a1 = 0) && (okX it' && (okX i1 && (blkC Γ.N Γ.sc s (ownOf Γ.N vs) && (vs1.all (fun j => decide (j ∈ vs)) && ((slG mg).all (fun j => decide (j ∈ vs)) && ((slG mg1).all (fun j => decide (j ∈ vs1)) &&
              (chkG mg (Γ.blk s) t' && (chkI G mi Γ it' && (chkCs G mc (Γ.blk s) ifs && (chkG mg1 (Γ.blk s) t1 && (chkI G mi1 (Γ.blk s) i1 && (chkCs G mc1 (Γ.blk s) ifs1 && chkE G me (Γ.blk s) e')))))))))))))) = true from h4)
            obtain ⟨h3', h4⟩ := bk h2
            obtain ⟨h5, h6⟩ := bk h4
            obtain ⟨h7, h8⟩ := bk h6
            obtain ⟨h9, h10⟩ := bk h8
            obtain ⟨h11, h12⟩ := bk h10
            obtain ⟨h13, h14⟩ := bk h12
            obtain ⟨h15, h16⟩ := bk h14
            obtain ⟨h17, h18⟩ := bk h16
            obtain ⟨h19, h20⟩ := bk h18
            obtain ⟨h21, h22⟩ := bk h20
            obtain ⟨h23, h24⟩ := bk h22
            obtain ⟨h25, h26⟩ := bk h24
            obtain ⟨h27, h28⟩ := bk h26
            cases (dec h1)
            cases (dec h3')
            exact ts_lc2 g h3 (dec q1) q3 (by simpa using q4) (fun j hj => dec (List.all_eq_true.mp h11 j hj)) (fun j hj => dec (List.all_eq_true.mp h13 j hj)) (fun j hj => dec (List.all_eq_true.mp h15 j hj)) h5 h7 h9 (chkI_ok mi it' g.toGood h19)
              ⟨fun s H C cells fp => chkG_ok (g.toGood.blk s H C cells fp).toSy mg t' h17, fun s H C cells fp => chkCs_ok mc ifs (g.toGood.blk s H C cells fp) h21, fun s H C cells fp => chkG_ok (g.toGood.blk s H C cells fp).toSy mg1 t1 h23, fun s H C cells fp => chkI_ok mi1 i1 (g.toGood.blk s H C cells fp) h25, fun s H C cells fp => chkCs_ok mc1 ifs1 (g.toGood.blk s H C cells fp) h27, fun s H C cells fp => (chkE_ok me e' (g.toGood.blk s H C cells fp) h28).pe⟩
          | [], h4 => exact absurd (show false = true from h4) Bool.false_ne_true
          | [⟨_, _, _, _⟩], h4 => exact absurd (show false = true from h4) Bool.false_ne_true
          | ⟨_, _, _, _⟩ :: ⟨_, _, _, _⟩ :: _ :: _, h4 => exact absurd (show false = true from h4) Bool.false_ne_true
      · by_cases c2 : ∃ ts n p vs m q, t = .Tuple ts n p ∧ v = .Tuple vs m q
        · obtain ⟨ts, n, p, vs, m, q, rfl, rfl⟩ := c2
          exact ts_asg g rfl (noSw_ok g h1) h3 (chkE_ok e _ g.toGood h4).pe
        · have hn := asgB_other (fun y py e gs s p z => c1 ⟨y, py, e, gs, s, p, z⟩) (fun ts n p vs m q z => c2 ⟨ts, n, p, vs, m, q, z⟩) h1
          have hw : swappedStores [t] v X.env = pure none := by
            cases t <;> try (cases tg <;> exact absurd (show false = true from h3) Bool.false_ne_true)
            · exact asg_none_name
            · exact asg_none_val fun vs m q e => c2 ⟨_, _, _, vs, m, q, rfl, e⟩
          exact ts_asg g hn hw h3 (chkE_ok e _ g.toGood h4).pe
    | [], h => exact absurd (show false = true from h) Bool.false_ne_true
    | _ :: _ :: _, h => exact absurd (show false = true from h) Bool.false_ne_true
  | .par2 i j a b, st, h => by
    unfold chkS at h
    split at h
    · rename_i x px y py _ _ u v _ _ _
      obtain ⟨h1, h2⟩ := bk h
      obtain ⟨h3, h4⟩ := bk h2
      obtain ⟨h5, h6⟩ := bk h4
      obtain ⟨h7, h8⟩ := bk h6
      obtain ⟨h9, h10⟩ := bk h8
      obtain ⟨h11, h12⟩ := bk h10
      obtain ⟨h13, h14⟩ := bk h12
      obtain ⟨h15, h16⟩ := bk h14
      exact ts_par2 g h1 h3 h5 (dec h7) (dec h9) h11 h13 (chkE_ok a _ g.toGood h15).pe (chkE_ok b _ g.toGood h16).pe
    · cases h
  | .par3 i j l a b c, st, h => by
    exfalso
    unfold chkS at h
    cases h
  | .aug i op e, st, h => by
    unfold chkS at h
    split at h
    · obtain ⟨h1, h2⟩ := bk h
      obtain ⟨h3, h4⟩ := bk h2
      cases (dec h3)
      exact ts_aug g h1 (chkE_ok e _ g.toGood h4).pe
    · cases h
  | .setI o i e, st, h => by
    unfold chkS at h
    split at h
    · obtain ⟨h1, h2⟩ := bk h
      obtain ⟨h3, h4⟩ := bk h2
      obtain ⟨h5, h6⟩ := bk h4
      obtain ⟨h7, h8⟩ := bk h6
      exact ts_setI g h1 h3 (chkE_ok e _ g.toGood h5).pe (chkE_ok o _ g.toGood h7).pe (chkE_ok i _ g.toGood h8).pe
    · cases h
  | .augI o i op e, st, h => by
    unfold chkS at h
    split at h
    · obtain ⟨h1, h2⟩ := bk h
      obtain ⟨h3, h4⟩ := bk h2
      obtain ⟨h5, h6⟩ := bk h4
      obtain ⟨h7, h8⟩ := bk h6
      cases (dec h3)
      exact ts_augI g h1 (chkE_ok e _ g.toGood h5).pe (chkE_ok o _ g.toGood h7).pe (chkE_ok i _ g.toGood h8).pe
    · cases h
  | .ifS c a b, st, h => by
    unfold chkS at h
    split at h
    · obtain ⟨h1, h2⟩ := bk h
      obtain ⟨h3, h4⟩ := bk h2
      exact ts_if (chkE_ok c _ g.toGood h1).pt (chkSs_ok g a _ h3) (chkSs_ok g b _ h4)
    · cases h
  | .whl c b, st, h => by
    unfold chkS at h
    split at h
    · obtain ⟨h1, h2⟩ := bk h
      exact ts_whl g (chkE_ok c _ g.toGood h1).pt (chkSs_ok g b _ h2)
    · cases h
  | .forS tg it b, st, h => by
    unfold chkS at h
    split at h
    · obtain ⟨h1, h2⟩ := bk h
      obtain ⟨h3, h4⟩ := bk h2
      obtain ⟨h5, h6⟩ := bk h4
      exact ts_for g h1 h3 (chkI_ok it _ g.toGood h5) (chkSs_ok g b _ h6)
    · cases h
  | .ret e, st, h => by
    unfold chkS at h
    split at h
    · exact ts_ret (chkE_ok e _ g.toGood h).pe
    · cases h
  | .retN, st, h => by
    unfold chkS at h
    split at h
    · refine ps_retN.weak ?_
      rintro D σ H ⟨W, F, μ, ρ, S, fl, S', st, en, e1, p⟩
      cases e1
      exact p _ H W μ Ext.refl st rfl
    · cases h
  | .ex e, st, h => by
    unfold chkS at h
    split at h
    · obtain ⟨h1, h2⟩ := bk h
      exact ts_ex h1 (chkE_ok e _ g.toGood h2).pe
    · cases h
  | .pass, st, h => by
    unfold chkS at h
    split at h
    · refine ps_pass.weak ?_
      rintro D σ H ⟨W, F, μ, ρ, S, fl, S', st, en, e1, p⟩
      cases e1
      exact p σ H W μ Ext.refl st en
    · cases h
  | .brk, st, h => by
    unfold chkS at h
    split at h
    · refine ps_break.weak ?_
      rintro D σ H ⟨W, F, μ, ρ, S, fl, S', st, en, e1, p⟩
      cases e1
      exact p σ H W μ Ext.refl st en
    · cases h
  | .nev, st, h => ps_never.weak (by
    rintro D σ H ⟨W, F, μ, ρ, S, fl, S', st, en, e1, p⟩
    cases e1)
theorem chkSs_ok {G : GT} {cl : Nat → List D → Sto → Rs D} {k : Nat} {Γ : Syn} {X : Cx} (g : GoodS G cl k Γ X) : ∀ (ms : MSs) (sts : List Stmt), chkSs G ms Γ sts = true → PSs X sts (TSR X.K (evSs G cl ms))
  | .nil, sts, h => by
    cases sts with
    | nil => exact tss_nil
    | cons _ _ => exact absurd (show false = true from h) Bool.false_ne_true
  | .cons m ms, sts, h => by
    cases sts with
    | nil => exact absurd (show false = true from h) Bool.false_ne_true
    | cons x xs =>
      obtain ⟨h1, h2⟩ := bk (show (chkS G m Γ x && chkSs G ms Γ xs) = true from h)
      exact tss_cons (chkS_ok g m x h1) (chkSs_ok g ms xs h2)
end
end Rw

/-! M13: defs, the program, the law's end -/
namespace Rw
open PySem PySem.Spec PyProof.Rows L2

/-! ### parameters -/
theorem zip_look : ∀ {ps : List Str} {us : List Value} {n : Str}, n ∈ ps → us.length = ps.length → ((ps.zip us).lookup n).isSome = true
  | p :: ps, u :: us, n, h, hl => by
    show (List.lookup n ((p, u) :: ps.zip us)).isSome = true
    rw [List.lookup_cons]
    cases c : n == p with
    | true => rfl
    | false =>
      rcases List.mem_cons.mp h with rfl | h
      · simp at c
      · exact zip_look h (by simpa using hl)
  | p :: ps, [], n, h, hl => by simp at hl
theorem fm_congr {α β : Type} {f g : α → Option β} : ∀ {l : List α}, (∀ x ∈ l, f x = g x) → l.filterMap f = l.filterMap g
  | [], _ => rfl
  | a :: l, h => by
    rw [List.filterMap_cons, List.filterMap_cons, h a List.mem_cons_self, fm_congr fun x hx => h x (List.mem_cons_of_mem _ hx)]
theorem zip_fm : ∀ {ps : List Str} {us : List Value}, ps.Nodup → us.length = ps.length → (ps.filterMap fun n => ((ps.zip us).lookup n).map fun v => (n, v)) = ps.zip us
  | [], _, _, _ => rfl
  | p :: ps, [], _, hl => by simp at hl
  | p :: ps, u :: us, nd, hl => by
    obtain ⟨h1, h2⟩ := List.nodup_cons.mp nd
    have ih := zip_fm h2 (show us.length = ps.length by simpa using hl)
    have e1 : List.lookup p ((p, u) :: ps.zip us) = some u := by simp [List.lookup_cons]
    have e2 : (ps.filterMap fun n => (((p, u) :: ps.zip us).lookup n).map fun v => (n, v)) = ps.filterMap fun n => ((ps.zip us).lookup n).map fun v => (n, v) := by
      refine fm_congr fun n hn => ?_
      have : (n == p) = false := by
        rw [beq_eq_false_iff_ne]
        rintro rfl
        exact h1 hn
      simp only [List.lookup_cons, this]
    show ((p :: ps).filterMap fun n => (List.lookup n ((p, u) :: ps.zip us)).map fun v => (n, v)) = (p, u) :: ps.zip us
    rw [List.filterMap_cons, e1]
    simp only [Option.map_some]
    rw [e2, ih]
theorem bind_ok {x qual : Str} {as : List Arg} {body : List Stmt} {scope : Scope} {kV doc pm : Value} {an : Option Addr} {cdv ct : Value} {us : List Value} (nd : (as.map (·.arg)).Nodup) (hl : us.length = (as.map (·.arg)).length) :
    bindArgs (PySem.W.fnOf x qual ⟨[], as, none, [], [], none, []⟩ body scope .none kV doc pm an cdv ct) ⟨us, []⟩ = pure ((as.map (·.arg)).zip us) := by
  have hm : ((as.map (·.arg)).filter fun n => ((as.map (·.arg)).zip us |>.lookup n).isNone) = [] := by
    rw [List.filter_eq_nil_iff]
    intro n hn
    have := zip_look hn hl
    cases c : ((as.map (·.arg)).zip us).lookup n with
    | none => rw [c] at this; cases this
    | some _ => simp
  have hsi : seqItems? Value.none = pure none := rfl
  have hf := zip_fm nd hl
  have hn0 : (as.map (·.arg)).take (as.map (·.arg)).length = as.map (·.arg) := List.take_of_length_le (Nat.le_refl _)
  have hg : ¬ us.length > (as.map (·.arg)).length := by omega
  unfold bindArgs
  simp only [PySem.W.fnOf, List.map_nil, List.nil_append, List.append_nil, List.forIn_nil, pure_bind, hsi, Option.getD_none]
  generalize hps : as.map (·.arg) = ps at hm hf hn0 hg hl nd ⊢
  have hg' : decide (us.length > ps.length) = false := decide_eq_false hg
  have e0 : (#[] : Array Value).toList = [] := rfl
  simp only [hg', Bool.false_and, Bool.false_eq_true, if_false, e0, List.drop_nil, List.length_nil, Nat.sub_zero, hn0, hm, List.isEmpty_nil, Bool.not_true, List.zip_nil_right, List.forIn_nil, pure_bind, hf]
theorem binds_of {K : PySem.W.Frag} {x qual : Str} {as : List Arg} {body : List Stmt} {scope : Scope} {kws : List (Str × V)} {f : Addr} {fd : FuncData} (F : FunD K x qual ⟨[], as, none, [], [], none, []⟩ body scope [] kws f fd) (nd : (as.map (·.arg)).Nodup) : Binds K fd (as.map (·.arg)) [] :=
  F.bindsN fun _ _ _ _ _ _ us hl => bind_ok nd hl

/-! ### what a call leaves -/
section
variable {K : PySem.W.Frag} {W W' F : Hp} {μ μ' : List Addr} {S S1 : Sto} {H H0 : Hp}
mutual
theorem Rep.down (x : Ext W μ W' μ') : ∀ (d : D) (v0 v : V), Rep K W μ d v0 → Rep K W' μ' d v → Rep K W' μ d v
  | .non, _, _, _, h => h
  | .bl _, _, _, _, h => h
  | .int _, _, _, _, h => h
  | .str _, _, _, _, h => h
  | .ty _, _, _, _, h => h
  | .ref r, _, _, ⟨a0, h0, _⟩, ⟨a, h, e⟩ => by
    have q := x.m r a0 h0
    have q2 : a = a0 := Option.some.inj (h.symm.trans q)
    exact ⟨a, by rw [q2]; exact h0, e⟩
  | .tup ds, _, _, ⟨_, vs0, _, _, r0⟩, ⟨a, vs, e, h, r⟩ => ⟨a, vs, e, h, Reps.down x ds vs0 vs r0 r⟩
  | .lst ds, _, _, ⟨_, vs0, _, _, r0⟩, ⟨a, vs, e, h, r⟩ => ⟨a, vs, e, h, Reps.down x ds vs0 vs r0 r⟩
  | .flst ds, _, _, ⟨_, vs0, _, _, r0⟩, ⟨a, vs, e, h, r⟩ => ⟨a, vs, e, h, Reps.down x ds vs0 vs r0 r⟩
theorem Reps.down (x : Ext W μ W' μ') : ∀ (ds : List D) (vs0 vs : List V), Reps K W μ ds vs0 → Reps K W' μ' ds vs → Reps K W' μ ds vs
  | [], _, _, _, h => h
  | d :: ds, _, _, ⟨v0, r0, _, h0, q0⟩, ⟨v, r, e, h, q⟩ => ⟨v, r, e, Rep.down x d v0 v h0 h, Reps.down x ds r0 r q0 q⟩
end
mutual
theorem Rep.below (x : Ext W μ W' μ') : ∀ (d : D) (v : V), below μ.length d = true → Rep K W' μ' d v → Rep K W' μ d v
  | .non, _, _, h => h
  | .bl _, _, _, h => h
  | .int _, _, _, h => h
  | .str _, _, _, h => h
  | .ty _, _, _, h => h
  | .ref r, _, b, ⟨a, h, e⟩ => by
    have hl : r < μ.length := of_decide_eq_true b
    have h0 : μ[r]? = some μ[r] := by simp [hl]
    have q := x.m r _ h0
    have q2 : a = μ[r] := Option.some.inj (h.symm.trans q)
    exact ⟨a, by rw [q2]; exact h0, e⟩
  | .tup ds, _, b, ⟨a, vs, e, h, r⟩ => ⟨a, vs, e, h, Reps.below x ds vs b r⟩
  | .lst ds, _, b, ⟨a, vs, e, h, r⟩ => ⟨a, vs, e, h, Reps.below x ds vs b r⟩
  | .flst ds, _, b, ⟨a, vs, e, h, r⟩ => ⟨a, vs, e, h, Reps.below x ds vs b r⟩
theorem Reps.below (x : Ext W μ W' μ') : ∀ (ds : List D) (vs : List V), belows μ.length ds = true → Reps K W' μ' ds vs → Reps K W' μ ds vs
  | [], _, _, h => h
  | d :: ds, _, b, ⟨v, r, e, h, q⟩ => by
    obtain ⟨b1, b2⟩ := bk (show (Rw.below μ.length d && belows μ.length ds) = true from b)
    exact ⟨v, r, e, Rep.below x d v b1 h, Reps.below x ds r b2 q⟩
end
theorem CellAt.down (x : Ext W μ W' μ') {a : Addr} : ∀ {c : Cell}, CellAt K W μ H0 a c → CellAt K W' μ' H a c → CellAt K W' μ H a c
  | .lst ds, ⟨vs0, _, r0⟩, ⟨vs, h, r⟩ => ⟨vs, h, Reps.down x ds vs0 vs r0 r⟩
  | .dk kvs, ⟨ws0, _, r0⟩, ⟨ws, h, r⟩ => ⟨ws, h, r.1, Reps.down x _ _ _ r0.2 r.2⟩
theorem prune_ok (st0 : Stt K W F μ S H0) (x : Ext W μ W' μ') (st : Stt K W' F μ' S1 H) {d : D} {v : V} (r : Rep K W' μ' d v) : (prune S d S1).1 = d ∧ ∃ μ2, Ext W μ W' μ2 ∧ Stt K W' F μ2 (prune S d S1).2 H ∧ Rep K W' μ2 d v := by
  unfold prune
  split
  · rename_i c
    refine ⟨rfl, μ, ⟨x.w, fun _ _ h => h⟩, ⟨st.sub, st.frm, st.dis, st0.len, st0.nd, fun i a h => st.apart i a (x.m i a h), fun i a cc h hc => ?_⟩, Rep.below x d v (by rw [st0.len]; exact c.2) r⟩
    have h1 : S1[i]? = some cc := by
      have hl : i < S.length := by rw [← st0.len]; exact (List.getElem?_eq_some_iff.mp h).1
      have := congrArg (·[i]?) c.1
      simp only [List.getElem?_take_of_lt hl] at this
      rw [this]; exact hc
    exact (st0.cel i a cc h hc).down x (st.cel i a cc (x.m i a h) h1)
  · exact ⟨rfl, μ', x, st, r⟩
end

/-! ### defs -/
def chkD (G : GT) (f : Fn) (N : List Str) (pa : Arguments) (scope : Scope) (body : List Stmt) : Bool :=
  (match pa with
    | ⟨[], as, none, [], [], none, []⟩ => decide (N.take (as.map (·.arg)).length = as.map (·.arg)) && ((as.map (·.arg)).all (fun x => decide (scope.names.lookup x = some .local) || decide (scope.names.lookup x = some .cell)) && (decide (as.map (·.arg)).Nodup && decide (f.np = as.length)))
    | _ => false) && (decide (scope.kind = .function) && (!scope.isCoroutine && (!scope.isGenerator && (decide N.Nodup && (scope.names.all (fun y => decide (y.2 ≠ .free)) && (decide (f.nl = N.length) && chkSs G f.body ⟨N, scope, fun _ => true⟩ body))))))
theorem env_start {K : PySem.W.Frag} {W : Hp} {μ : List Addr} {ds : List D} {vs : List V} (r : Reps K W μ ds vs) (N : List Str) (n : Nat) (hn : n = N.length) : EnvR K W μ (ds.map some ++ List.replicate (n - ds.length) none) (L2.start N vs) := by
  subst hn
  have hl := r.length
  unfold L2.start
  refine ⟨by simp [hl], fun i d e => ?_⟩
  by_cases hi : i < ds.length
  · rw [List.getElem?_append_left (by simpa using hi), List.getElem?_map] at e
    cases c : ds[i]? with
    | none => rw [c] at e; cases e
    | some d' =>
      rw [c] at e
      cases e
      obtain ⟨v, h1, h2⟩ := r.get c
      exact ⟨v, by rw [List.getElem?_append_left (by simp; omega), List.getElem?_map, h1]; rfl, h2⟩
  · rw [List.getElem?_append_right (by simp; omega), List.getElem?_replicate] at e
    split at e <;> cases e
theorem fn_ok {P : Program} {w : World} {K : PySem.W.Frag} {mg : Str → Option Value} {base : Heap} {G : GT} {k g : Nat} {x qual : Str} {f : Fn} {a : Addr} {fd : FuncData} {as : List Arg} {N : List Str} {scope : Scope} {body : List Stmt}
    (gf : GF P w K mg base G k (callK G k)) (hg : G[g]? = some (x, .fn f)) (FD : FunD K x qual ⟨[], as, none, [], [], none, []⟩ body scope [] [] a fd) (h : chkD G f N ⟨[], as, none, [], [], none, []⟩ scope body = true) :
    FnOk P w K mg base CX0 (k + 1) a fd (as.map (·.arg)) (spOf K f.np (callK G (k + 1) g)) := by
  obtain ⟨h1, h2⟩ := bk h
  obtain ⟨a1, a2⟩ := bk (show (decide (N.take (as.map (·.arg)).length = as.map (·.arg)) && ((as.map (·.arg)).all (fun x => decide (scope.names.lookup x = some .local) || decide (scope.names.lookup x = some .cell)) && (decide (as.map (·.arg)).Nodup && decide (f.np = as.length)))) = true from h1)
  obtain ⟨a3, a4⟩ := bk a2
  obtain ⟨a5, a6⟩ := bk a4
  obtain ⟨b1, b2⟩ := bk h2
  obtain ⟨b3, b4⟩ := bk b2
  obtain ⟨b5, b6⟩ := bk b4
  obtain ⟨b7, b8⟩ := bk b6
  obtain ⟨b9, b10⟩ := bk b8
  obtain ⟨b11, b12⟩ := bk b10
  have S : FnScope N (as.map (·.arg)) scope := ⟨dec b1, by simpa using b3, by simpa using b5, dec b7, dec a1, fun x hx => by
    have := List.all_eq_true.mp a3 x hx
    rcases Bool.or_eq_true_iff.mp this with q | q
    · exact .inl (dec q)
    · exact .inr (dec q), fun y hy => dec (List.all_eq_true.mp b9 y hy)⟩
  refine FD.ok S (fun vs H Q E q => by rw [q.1, dec a6, List.length_map]) fun cdv A outer s H vs Q E hr q => ?_
  have gd : GoodS G (callK G k) k ⟨N, scope, fun _ => true⟩ (cxOf CX0 P w K mg base N qual scope a cdv A outer s H E).nox :=
    ⟨⟨⟨rfl, S.nd, rfl, rfl, rfl⟩, rfl, hr, gf⟩, dec b1⟩
  refine ⟨_, PSs.nox (chkSs_ok gd f.body body b12), ?_⟩
  obtain ⟨hl, W, F, μ, S0, ds, d, S', st, rd, e, p⟩ := q
  simp only [callK, hg] at e
  split at e
  · obtain ⟨fl, S1, e1, e2⟩ := bnd_inv e
    refine ⟨W, F, μ, _, S0, fl, S1, st, env_start rd N f.nl (dec b11), e1, ?_⟩
    cases fl with
    | nx ρ =>
      have e3 := Option.some.inj e2
      intro σ H1 W1 μ1 x1 st1 _
      obtain ⟨q1, μ2, q2, q3, q4⟩ := prune_ok (d := .non) (v := .non) st x1 st1 rfl
      rw [e3] at q1 q3
      cases q1
      exact p _ H1 W1 μ2 q2 q3 q4
    | bk ρ => cases e2
    | rt d' =>
      have e3 := Option.some.inj e2
      intro v H1 W1 μ1 x1 st1 r1
      obtain ⟨q1, μ2, q2, q3, q4⟩ := prune_ok st x1 st1 r1
      rw [e3] at q1 q3
      cases q1
      exact p _ H1 W1 μ2 q2 q3 q4
  · cases e

/-! ### the program -/
inductive TK where
  | fn (i : Nat) (N : List Str) (f : Fn) | blt | con (d : D)
abbrev Tab := List (Str × TK)
def TK.gk : TK → GK
  | .fn _ _ f => .fn f
  | .blt => .blt
  | .con d => .con d
def gtOf (T : Tab) : GT := T.map fun e => (e.1, e.2.gk)
mutual
def repB (K : PySem.W.Frag) : D → Value → Bool
  | .int i, .int j _ => decide (i = j)
  | .bl b, .bool c => decide (b = c)
  | .str s, .str t _ => decide (s = t)
  | .non, .none => true
  | .tup ds, .ref a => (match K.lookup a with
    | some ⟨.type c, _, .seq its _, _⟩ => decide (c = "tuple") && (decide (its.size ≤ sizeLine) && repsB K ds its.toList)
    | _ => false)
  | _, _ => false
def repsB (K : PySem.W.Frag) : List D → List Value → Bool
  | [], [] => true
  | d :: ds, u :: us => repB K d u && repsB K ds us
  | _, _ => false
end
mutual
theorem repB_ok {K : PySem.W.Frag} : ∀ (d : D) (u : Value), repB K d u = true → ∃ v, RelV v u ∧ ∀ W μ, Rep K W μ d v
  | .int i, u, h => by
    cases u <;> first | exact absurd (show false = true from h) Bool.false_ne_true | skip
    cases (dec (show decide (i = _) = true from h))
    exact ⟨.int i, ⟨_, rfl⟩, fun _ _ => rfl⟩
  | .bl i, u, h => by
    cases u <;> first | exact absurd (show false = true from h) Bool.false_ne_true | skip
    cases (dec (show decide (i = _) = true from h))
    exact ⟨.bl i, rfl, fun _ _ => rfl⟩
  | .str i, u, h => by
    cases u <;> first | exact absurd (show false = true from h) Bool.false_ne_true | skip
    cases (dec (show decide (i = _) = true from h))
    exact ⟨.str i, ⟨_, rfl⟩, fun _ _ => rfl⟩
  | .non, u, h => by
    cases u <;> first | exact absurd (show false = true from h) Bool.false_ne_true | skip
    exact ⟨.non, rfl, fun _ _ => rfl⟩
  | .tup ds, u, h => by
    cases u <;> first | exact absurd (show false = true from h) Bool.false_ne_true | skip
    rename_i a
    have h : (match K.lookup a with
      | some ⟨.type c, _, .seq its _, _⟩ => decide (c = "tuple") && (decide (its.size ≤ sizeLine) && repsB K ds its.toList)
      | _ => false) = true := h
    cases q : K.lookup a with
    | none => rw [q] at h; cases h
    | some o =>
      obtain ⟨oc, od, dt, osl⟩ := o
      rw [q] at h
      cases oc <;> try (exact absurd (show false = true from h) Bool.false_ne_true)
      rename_i c
      cases dt <;> try (exact absurd (show false = true from h) Bool.false_ne_true)
      rename_i its n
      obtain ⟨h1, h2⟩ := bk (show (decide (c = "tuple") && (decide (its.size ≤ sizeLine) && repsB K ds its.toList)) = true from h)
      obtain ⟨h3, h4⟩ := bk h2
      obtain ⟨vs, r1, r2⟩ := repsB_ok ds its.toList h4
      exact ⟨.ref a, rfl, fun W μ => ⟨a, vs, rfl, .inr ⟨_, its, n, q, congrArg Value.type (dec h1), rfl, dec h3, r1⟩, r2 W μ⟩⟩
  | .lst _, u, h => absurd (show false = true by cases u <;> exact h) Bool.false_ne_true
  | .flst _, u, h => absurd (show false = true by cases u <;> exact h) Bool.false_ne_true
  | .ref _, u, h => absurd (show false = true by cases u <;> exact h) Bool.false_ne_true
  | .ty _, u, h => absurd (show false = true by cases u <;> exact h) Bool.false_ne_true
theorem repsB_ok {K : PySem.W.Frag} : ∀ (ds : List D) (us : List Value), repsB K ds us = true → ∃ vs, Vals vs us ∧ ∀ W μ, Reps K W μ ds vs
  | [], [], _ => ⟨[], .nil, fun _ _ => rfl⟩
  | [], _ :: _, h => absurd (show false = true from h) Bool.false_ne_true
  | _ :: _, [], h => absurd (show false = true from h) Bool.false_ne_true
  | d :: ds, u :: us, h => by
    obtain ⟨h1, h2⟩ := bk (show (repB K d u && repsB K ds us) = true from h)
    obtain ⟨v, r1, r2⟩ := repB_ok d u h1
    obtain ⟨vs, r3, r4⟩ := repsB_ok ds us h2
    exact ⟨v :: vs, .cons r1 r3, fun W μ => ⟨v, vs, rfl, r2 W μ, r4 W μ⟩⟩
end
def conB (K : PySem.W.Frag) (x : Str) (d : D) : Bool := match PySem.W.nsIn K mainGlobals x with
  | some (some u) => repB K d u
  | _ => false
def ddOf (top : Nat → Stmt) (x : Str) (i : Nat) : He.DefD := ⟨(x, none), x, x, defArgs (top i), defBody (top i), defScope (top i), [], []⟩
def faOf (T : Tab) : List He.Fa := T.filterMap fun e => match e.2 with
  | .fn _ _ _ => some (.glo e.1)
  | .blt => some (.free e.1)
  | .con _ => none
def fnOf' (top : Nat → Stmt) (T : Tab) : List He.DefD := T.filterMap fun e => match e.2 with
  | .fn i _ _ => some (ddOf top e.1 i)
  | _ => none
def exOf (T : Tab) (K : PySem.W.Frag) : Bool := T.all fun e => match e.2 with
  | .con d => conB K e.1 d
  | _ => true
def chkT (top : Nat → Stmt) (T : Tab) : Bool := T.all fun e => match e.2 with
  | .fn i N f => chkD (gtOf T) f N (defArgs (top i)) (defScope (top i)) (defBody (top i))
  | _ => true
/-- the head's look -/
def hookR (n : Nat) (fa : List He.Fa) (fn : List He.DefD) (ex : PySem.W.Frag → Bool) : PySem.W.Hook where
  α := He.AlD × Bool
  obs := fun s => (He.obsDG n fa fn s.heap.get?, ex (He.frG s.heap.get? (He.asD s.heap.get? n)))
  val := fun _ => (He.valD fn, true)
  says := fun _ h => ∃ K : PySem.W.Frag, K.In h ∧ He.SaysD fa fn K ∧ ex K = true
  of := fun _ _ e => ⟨_, He.frG_in, congrArg (fun z : He.AlD × Bool => z.1) e, congrArg (fun z : He.AlD × Bool => z.2) e⟩
  keeps := fun _ _ _ ⟨K, hK, c⟩ k => ⟨K, PySem.W.Frag.In.keeps hK k, c⟩
theorem facts_mem {fa : List He.Fa} {fn : List He.DefD} {K : PySem.W.Frag} (c : He.SaysD fa fn K) {f : He.Fa} (h : f ∈ fa) : f.ok K = true := by
  obtain ⟨i, hi, e⟩ := List.mem_iff_getElem.mp h
  exact c.fact i (f := f) (by rw [List.getElem?_eq_getElem hi, e])
theorem defs_mem {fa : List He.Fa} {fn : List He.DefD} {K : PySem.W.Frag} (c : He.SaysD fa fn K) {d : He.DefD} (h : d ∈ fn) : ∃ fd, FunD K d.name d.qual d.params d.body d.scope (d.dvs K) (d.kws K) (He.fAd K d.at_) fd := by
  obtain ⟨i, hi, e⟩ := List.mem_iff_getElem.mp h
  exact c.def_ i (d := d) (by rw [List.getElem?_eq_getElem hi, e])
theorem tab_at {T : Tab} {g : Nat} {x : Str} {q : GK} (h : (gtOf T)[g]? = some (x, q)) : ∃ t, (x, t) ∈ T ∧ t.gk = q := by
  unfold gtOf at h
  rw [List.getElem?_map] at h
  cases c : T[g]? with
  | none => rw [c] at h; cases h
  | some e =>
    rw [c] at h
    cases h
    exact ⟨e.2, List.mem_of_getElem? c, rfl⟩
theorem gf_ok {P : Program} {w : World} {K : PySem.W.Frag} {mg : Str → Option Value} {base h : Heap} {top : Nat → Stmt} {T : Tab} (X : K.In h) (NS : h.Ns mainGlobals mg) (c : He.SaysD (faOf T) (fnOf' top T) K) (ex : exOf T K = true) (ck : chkT top T = true) : ∀ k, GF P w K mg base (gtOf T) k (callK (gtOf T) k) := by
  have fnAt : ∀ {g : Nat} {x : Str} {f : Fn}, (gtOf T)[g]? = some (x, GK.fn f) → ∃ (N : List Str) (as : List Arg) (body : List Stmt) (scope : Scope) (fd : FuncData), mg x = some (.ref (He.ga K x)) ∧ FunD K x x ⟨[], as, none, [], [], none, []⟩ body scope [] [] (He.ga K x) fd ∧ chkD (gtOf T) f N ⟨[], as, none, [], [], none, []⟩ scope body = true := fun {g x f} hg => by
    obtain ⟨t, ht, e⟩ := tab_at hg
    cases t with
    | blt => cases e
    | con d => cases e
    | fn i N f' =>
      cases e
      have hf : He.Fa.glo x ∈ faOf T := List.mem_filterMap.mpr ⟨(x, TK.fn i N f), ht, rfl⟩
      have hd : ddOf top x i ∈ fnOf' top T := List.mem_filterMap.mpr ⟨(x, TK.fn i N f), ht, rfl⟩
      have hm := He.glo_ok X NS (facts_mem c hf)
      obtain ⟨fd, FD⟩ := defs_mem c hd
      have hc : chkD (gtOf T) f N (defArgs (top i)) (defScope (top i)) (defBody (top i)) = true := List.all_eq_true.mp ck (x, TK.fn i N f) ht
      have FD : FunD K x x (defArgs (top i)) (defBody (top i)) (defScope (top i)) [] [] (He.ga K x) fd := FD
      generalize defArgs (top i) = pa at hc FD
      match pa, hc, FD with
      | ⟨[], as, none, [], [], none, []⟩, hc, FD => exact ⟨N, as, _, _, fd, hm, FD, hc⟩
      | ⟨_ :: _, _, _, _, _, _, _⟩, hc, _ => exact absurd (bk hc).1 Bool.false_ne_true
      | ⟨[], _, some _, _, _, _, _⟩, hc, _ => exact absurd (bk hc).1 Bool.false_ne_true
      | ⟨[], _, none, _ :: _, _, _, _⟩, hc, _ => exact absurd (bk hc).1 Bool.false_ne_true
      | ⟨[], _, none, [], _ :: _, _, _⟩, hc, _ => exact absurd (bk hc).1 Bool.false_ne_true
      | ⟨[], _, none, [], [], some _, _⟩, hc, _ => exact absurd (bk hc).1 Bool.false_ne_true
      | ⟨[], _, none, [], [], none, _ :: _⟩, hc, _ => exact absurd (bk hc).1 Bool.false_ne_true
  have bltAt : ∀ (g : Nat) x, (gtOf T)[g]? = some (x, GK.blt) → mg x = none := fun g x hg => by
    obtain ⟨t, ht, e⟩ := tab_at hg
    cases t with
    | fn _ _ _ => cases e
    | con d => cases e
    | blt => exact He.free_ok X NS (facts_mem c (List.mem_filterMap.mpr ⟨(x, TK.blt), ht, rfl⟩))
  have conAt : ∀ (g : Nat) x d, (gtOf T)[g]? = some (x, GK.con d) → ∃ u v, mg x = some u ∧ RelV v u ∧ ∀ W μ, Rep K W μ d v := fun g x d hg => by
    obtain ⟨t, ht, e⟩ := tab_at hg
    cases t with
    | fn _ _ _ => cases e
    | blt => cases e
    | con d' =>
      cases e
      have h1 : conB K x d = true := List.all_eq_true.mp ex (x, TK.con d) ht
      unfold conB at h1
      cases q : PySem.W.nsIn K mainGlobals x with
      | none => rw [q] at h1; cases h1
      | some o =>
        rw [q] at h1
        cases o with
        | none => cases h1
        | some u =>
          obtain ⟨v, r1, r2⟩ := repB_ok d u h1
          exact ⟨u, v, PySem.W.mg_of X NS q, r1, r2⟩
  have mk : ∀ k, (∀ g x f, (gtOf T)[g]? = some (x, GK.fn f) → ∃ a fd ps, mg x = some (.ref a) ∧ PySem.W.keepIn K (.ref a) = true ∧ Binds K fd ps [] ∧ FnOk P w K mg base CX0 k a fd ps (spOf K f.np (callK (gtOf T) k g))) → GF P w K mg base (gtOf T) k (callK (gtOf T) k) := fun k h =>
    ⟨h, (fun g x f ds S r hg e => by
      cases k with
      | zero => cases e
      | succ k =>
        simp only [callK, hg] at e
        split at e
        · assumption
        · cases e), bltAt, conAt⟩
  intro k
  induction k with
  | zero =>
    refine mk 0 fun g x f hg => ?_
    obtain ⟨N, as, body, scope, fd, hm, FD, hc⟩ := fnAt hg
    have hnd : (as.map (·.arg)).Nodup := by
      have := (bk hc).1
      exact dec (bk (bk (bk this).2).2).1
    refine ⟨_, fd, _, hm, FD.kp, binds_of FD hnd, ⟨fun vs H Q E q => ?_, fun A outer s H args us vs Q E _ _ _ _ q => ?_⟩⟩
    · obtain ⟨_, W, F, μ, S, ds, d, S', _, _, e, _⟩ := q
      cases e
    · obtain ⟨_, W, F, μ, S, ds, d, S', _, _, e, _⟩ := q
      cases e
  | succ k ih =>
    refine mk (k + 1) fun g x f hg => ?_
    obtain ⟨N, as, body, scope, fd, hm, FD, hc⟩ := fnAt hg
    have hnd : (as.map (·.arg)).Nodup := by
      have := (bk hc).1
      exact dec (bk (bk (bk this).2).2).1
    exact ⟨_, fd, _, hm, FD.kp, binds_of FD hnd, fn_ok ih hg FD hc⟩

/-! ### the law -/
theorem reps_ints {K : PySem.W.Frag} {W : Hp} {μ : List Addr} : ∀ ns : List Int, Reps K W μ (ns.map D.int) (ns.map V.int)
  | [] => rfl
  | n :: ns => ⟨.int n, _, rfl, rfl, reps_ints ns⟩
theorem law_sp {K : PySem.W.Frag} {G : GT} {k g : Nat} {H : Hp} {a : Addr} {ns : List Int} (hS : SqL K H a (ns.map V.int)) (h : ∃ S', callK G k g [.flst (ns.map D.int)] [] = some (.bl true, S')) {E : XK} :
    spOf K 1 (callK G k g) [.ref a] H (fun v _ => v = .bl true) E := by
  obtain ⟨S', h⟩ := h
  refine ⟨rfl, H, fun _ => none, [], [], [.flst (ns.map D.int)], .bl true, S', ⟨fun _ _ e => e, fun _ _ e => (by cases e), fun _ _ e => (by cases e), rfl, fun i j a e => by simp at e, fun i a e => by simp at e, fun i a c e => by simp at e⟩, ⟨.ref a, [], rfl, ⟨a, _, rfl, hS, reps_ints ns⟩, rfl⟩, h, fun v H' W' μ' _ _ r => r⟩
theorem law_walk {l : PySem.W.OpenLaw} {q : Program} {loose : List Str} {XP : (Str → Option Value) → Heap → Prop} {d : DefRec} {top : Nat → Stmt} {T : Tab} {n : Nat} {g k i : Nat} {N : List Str} {f : Fn} (hn : l.most = some 63) (hdf : d.params.defaults = []) (hr : Room k callerA) (hname : d.name = ("law" : Str))
    (ck : chkT top T = true) (hg : T[g]? = some (("law" : Str), .fn i N f)) (hp : defArgs (top i) = ⟨[], [⟨"script", none, (match (defArgs (top i)).args with
      | a :: _ => a.pos
      | [] => ⟨0, 0, 0, 0⟩)⟩], none, [], [], none, []⟩)
    (h : ∀ ns : List Int, ns.length ≤ 63 → ∃ S', callK (gtOf T) k g [.flst (ns.map D.int)] [] = some (.bl true, S')) :
    PySem.W.WalkO q loose XP (hookR n (faOf T) (fnOf' top T) (exOf T)).says l.row.toRowW d [] (fun f vs => PySem.call f vs) := by
  refine L2.walk_ofE (l := l) (n := 63) (k := k) (x := "script") (CX := L2.CX0) hn (by decide) hdf hr ?F (fun _ _ _ _ z => z)
  intro w mg fa h0 Y NS hmg
  obtain ⟨K, KX, c, ex⟩ := Y
  rw [hname] at hmg
  have GFk : ∀ base, GF l.prog w K mg base (gtOf T) k (callK (gtOf T) k) := fun base => gf_ok KX NS c ex ck k
  have hgt : (gtOf T)[g]? = some (("law" : Str), .fn f) := by
    unfold gtOf
    rw [List.getElem?_map, hg]
    rfl
  have ht : (("law" : Str), TK.fn i N f) ∈ T := List.mem_of_getElem? hg
  have hd : ddOf top "law" i ∈ fnOf' top T := List.mem_filterMap.mpr ⟨_, ht, rfl⟩
  obtain ⟨fd0, FD⟩ := defs_mem c hd
  have hm := He.glo_ok KX NS (facts_mem c (show He.Fa.glo "law" ∈ faOf T from List.mem_filterMap.mpr ⟨_, ht, rfl⟩))
  have e := hmg.symm.trans hm
  cases e
  have FD : FunD K "law" "law" (defArgs (top i)) (defBody (top i)) (defScope (top i)) [] [] (He.ga K "law") fd0 := FD
  have hc : chkD (gtOf T) f N (defArgs (top i)) (defScope (top i)) (defBody (top i)) = true := List.all_eq_true.mp ck _ ht
  rw [hp] at FD hc
  have hnd : ([⟨"script", none, (match (defArgs (top i)).args with
      | a :: _ => a.pos
      | [] => ⟨0, 0, 0, 0⟩)⟩] : List Arg).map (·.arg) = (["script"] : List Str) := rfl
  have hnp : f.np = 1 := dec (bk (bk (bk (bk hc).1).2).2).2
  refine ⟨K, fd0, spOf K 1 (callK (gtOf T) k g), KX, fun s u => FD.bindsA (ps := (["script"] : List Str)) (fun _ _ _ _ _ _ us hl => bind_ok (as := [⟨"script", none, _⟩]) (by simp) hl) s [u] rfl, fun H a ns hl _ hS => law_sp hS (h ns hl), fun base KB NB => ?_⟩
  cases k with
  | zero =>
    obtain ⟨S', e⟩ := h [] (by decide)
    cases e
  | succ k =>
    have := fn_ok (P := l.prog) (w := w) (mg := mg) (base := base) (gf_ok KX NS c ex ck k) hgt FD hc
    rw [hnp] at this
    exact this
end Rw

/-! M14: how the evaluator is used -/
namespace Rw
open PySem L2

theorem whF_mono {c : Env → Sto → Rs Bool} {b : Env → Sto → Rs Fl} : ∀ {n : Nat} {ρ : Env} {S : Sto} {r : Fl × Sto}, whF c b n ρ S = some r → whF c b (n + 1) ρ S = some r
  | 0, _, _, _, h => by cases h
  | n + 1, ρ, S, r, h => by
    simp only [whF] at h ⊢
    obtain ⟨t, S1, h1, h2⟩ := bnd_inv h
    rw [h1]
    cases t with
    | false => exact h2
    | true =>
      simp only [if_true, bnd_some] at h2 ⊢
      obtain ⟨fl, S2, h3, h4⟩ := bnd_inv h2
      rw [h3]
      cases fl with
      | nx ρ2 => exact whF_mono (n := n) h4
      | bk ρ2 => exact h4
      | rt d => exact h4
theorem whF_le {c : Env → Sto → Rs Bool} {b : Env → Sto → Rs Fl} {n m : Nat} (hl : n ≤ m) {ρ : Env} {S : Sto} {r : Fl × Sto} (h : whF c b n ρ S = some r) : whF c b m ρ S = some r := by
  induction hl with
  | refl => exact h
  | step _ ih => exact whF_mono ih
theorem whE_of {c : Env → Sto → Rs Bool} {b : Env → Sto → Rs Fl} {n : Nat} {ρ : Env} {S : Sto} {r : Fl × Sto} (h : whF c b n ρ S = some r) : whE c b ρ S = some r := by
  unfold whE
  have hx : ∃ n r, whF c b n ρ S = some r := ⟨n, r, h⟩
  rw [dif_pos hx]
  obtain ⟨r', hr⟩ := hx.choose_spec
  rw [hr]
  have h1 := whF_le (Nat.le_max_left n hx.choose) h
  have h2 := whF_le (Nat.le_max_right n hx.choose) hr
  rw [h1] at h2
  exact h2.symm
/-- one turn more -/
theorem whE_turn {c : Env → Sto → Rs Bool} {b : Env → Sto → Rs Fl} {ρ ρ2 : Env} {S S1 S2 : Sto} {r : Fl × Sto} (h1 : c ρ S = some (true, S1)) (h2 : b ρ S1 = some (.nx ρ2, S2)) (h3 : whE c b ρ2 S2 = some r) : whE c b ρ S = some r := by
  obtain ⟨n, h⟩ := whE_inv h3
  refine whE_of (n := n + 1) ?_
  simp only [whF, h1, bnd_some, if_true, h2]
  exact h
theorem whE_end {c : Env → Sto → Rs Bool} {b : Env → Sto → Rs Fl} {ρ : Env} {S S1 : Sto} (h1 : c ρ S = some (false, S1)) : whE c b ρ S = some (.nx ρ, S1) :=
  whE_of (n := 1) (by simp only [whF, h1, bnd_some, Bool.false_eq_true, if_false])
theorem whE_ret {c : Env → Sto → Rs Bool} {b : Env → Sto → Rs Fl} {ρ : Env} {S S1 S2 : Sto} {d : D} (h1 : c ρ S = some (true, S1)) (h2 : b ρ S1 = some (.rt d, S2)) : whE c b ρ S = some (.rt d, S2) :=
  whE_of (n := 1) (by simp only [whF, h1, bnd_some, if_true, h2])
theorem prune_same {S : Sto} {d : D} : prune S d S = (d, S) := by
  unfold prune
  split <;> rfl
theorem prune_new {S T : Sto} {d : D} (h : below S.length d = true) : prune S d (S ++ T) = (d, S) := by
  unfold prune
  rw [if_pos ⟨by simp, h⟩]
/-- a call -/
theorem callK_fn {G : GT} {k g : Nat} {x : Str} {f : Fn} {ds : List D} {S : Sto} (hg : G[g]? = some (x, .fn f)) (hn : ds.length = f.np) : callK G (k + 1) g ds S = bnd (evSs G (callK G k) f.body (ds.map some ++ List.replicate (f.nl - ds.length) none) S) fun fl S1 => match fl with
      | .nx _ => some (prune S .non S1)
      | .rt d => some (prune S d S1)
      | .bk _ => none := by
  simp only [callK, hg, hn, if_true]
  try rfl
theorem bnd_bnd {α β γ : Type} (x : Rs α) (f : α → Sto → Rs β) (g : β → Sto → Rs γ) : bnd (bnd x f) g = bnd x fun a S => bnd (f a S) g := by
  cases x <;> rfl
theorem bnd_ite {α β : Type} {p : Prop} [Decidable p] (x y : Rs α) (f : α → Sto → Rs β) : bnd (if p then x else y) f = if p then bnd x f else bnd y f := by
  split <;> rfl
end Rw

/-! M15: the evaluator, step by step -/
namespace Rw
open PySem L2

theorem bnd_congr {α β : Type} {x y : Rs α} (h : x = y) (f : α → Sto → Rs β) : bnd x f = bnd y f := by rw [h]
theorem lft_congr {α β : Type} {x y : Option α} (h : x = y) (f : α → Rs β) : lft x f = lft y f := by rw [h]

theorem nrfl {α : Sort _} {a b : α} (h : a = b) : a = b := h
theorem bnd_s {α β : Type} (a : α) (S : Sto) (f : α → Sto → Rs β) : bnd (some (a, S)) f = f a S := nrfl rfl
theorem bnd_n {α β : Type} (f : α → Sto → Rs β) : bnd none f = none := nrfl rfl
theorem lft_s {α β : Type} (a : α) (f : α → Rs β) : lft (some a) f = f a := nrfl rfl
theorem lft_n {α β : Type} (f : α → Rs β) : lft none f = none := nrfl rfl
/-- and then -/
noncomputable def sq (G : GT) (cl : Nat → List D → Sto → Rs D) (ss : MSs) (x : Rs Fl) : Rs Fl := bnd x fun fl S1 => match fl with
    | .nx ρ1 => evSs G cl ss ρ1 S1
    | .bk ρ1 => some (.bk ρ1, S1)
    | .rt d => some (.rt d, S1)
/-- the end of a call -/
noncomputable def fin (S : Sto) (x : Rs Fl) : Rs D := bnd x fun fl S1 => match fl with
      | .nx _ => some (prune S .non S1)
      | .rt d => some (prune S d S1)
      | .bk _ => none
noncomputable def fbd (G : GT) (cl : Nat → List D → Sto → Rs D) (tg : MG) (b : MSs) (x : D) (ρ1 : Env) (S2 : Sto) : Rs Fl := lft (asgG tg x ρ1) fun ρ2 => evSs G cl b ρ2 S2
noncomputable def ctn (G : GT) (cl : Nat → List D → Sto → Rs D) (elt : ME) (tg : MG) (cs : MO) (ρ : Env) (x : D) (S2 : Sto) : Rs (Option D) := lft (asgG tg x ρ) fun ρ1 => bnd (evC G cl cs ρ1 S2) fun t S3 => if t = true then bnd (evE G cl elt ρ1 S3) fun y S4 => some (some y, S4) else some (none, S3)
/-- a turn of a comprehension of two clauses -/
noncomputable def ctn2 (G : GT) (cl : Nat → List D → Sto → Rs D) (elt : ME) (tg : MG) (cs : MO) (vs1 : List Nat) (tg1 : MG) (it1 : MI) (cs1 : MO) (ρ : Env) (x : D) (S2 : Sto) (acc : List D) : Rs (List D) := lft (asgG tg x ρ) fun ρ1 => bnd (evC G cl cs ρ1 S2) fun t S3 => if t = true then
      bnd (evI G cl it1 ρ1 S3) fun w1 S4 => if acc.length + w1.1.length ≤ sizeLine then compL w1.2 w1.1 (ctn G cl elt tg1 cs1 (wipeE ρ1 vs1)) w1.1 S4 acc else none
      else some (acc, S3)
/-- a comprehension's list -/
noncomputable def cls (mu : Bool) (x : Rs (List D)) : Rs D := bnd x fun acc S5 => if mu = true then some (.ref S5.length, S5 ++ [.lst acc]) else some (.lst acc, S5)
section
variable {G : GT} {cl : Nat → List D → Sto → Rs D} {ρ ρ1 : Env} {S S1 : Sto} {d : D}
theorem sq_nx {ss : MSs} : sq G cl ss (some (.nx ρ, S)) = evSs G cl ss ρ S := nrfl rfl
theorem sq_bk {ss : MSs} : sq G cl ss (some (.bk ρ, S)) = some (.bk ρ, S) := nrfl rfl
theorem sq_rt {ss : MSs} : sq G cl ss (some (.rt d, S)) = some (.rt d, S) := nrfl rfl
theorem fin_nx : fin S (some (.nx ρ, S1)) = some (prune S .non S1) := nrfl rfl
theorem fin_rt : fin S (some (.rt d, S1)) = some (prune S d S1) := nrfl rfl
theorem cls_f {acc : List D} : cls false (some (acc, S)) = some (.lst acc, S) := nrfl rfl
theorem cls_t {acc : List D} : cls true (some (acc, S)) = some (.ref S.length, S ++ [.lst acc]) := nrfl rfl
theorem sq_ite {ss : MSs} {p : Prop} [Decidable p] {x y : Rs Fl} : sq G cl ss (if p then x else y) = if p then sq G cl ss x else sq G cl ss y := by
  split <;> rfl
theorem fin_ite {p : Prop} [Decidable p] {x y : Rs Fl} : fin S (if p then x else y) = if p then fin S x else fin S y := by
  split <;> rfl
theorem call_fn {k g : Nat} {x : Str} {f : Fn} {ds : List D} (hg : G[g]? = some (x, .fn f)) (hn : ds.length = f.np) : callK G (k + 1) g ds S = fin S (evSs G (callK G k) f.body (ds.map some ++ List.replicate (f.nl - ds.length) none) S) := callK_fn hg hn
theorem ev_var {i : Nat} : evE G cl (.var i) ρ S = (match ρ[i]? with
    | some (some d) => some (d, S)
    | _ => none) := nrfl rfl
theorem ev_int {i : Int} : evE G cl (.int i) ρ S = some (.int i, S) := nrfl rfl
theorem ev_str {i : Str} : evE G cl (.str i) ρ S = some (.str i, S) := nrfl rfl
theorem ev_bl {i : Bool} : evE G cl (.bl i) ρ S = some (.bl i, S) := nrfl rfl
theorem ev_non : evE G cl .non ρ S = some (.non, S) := nrfl rfl
theorem ev_con {g : Nat} : evE G cl (.con g) ρ S = lft (conOf G g) fun d => some (d, S) := nrfl rfl
theorem ev_bin {op : Operator} {a b : ME} : evE G cl (.bin op a b) ρ S = bnd (evE G cl a ρ S) fun d S1 => bnd (evE G cl b ρ S1) fun e S2 => lft (binD op d e) fun r => some (r, S2) := nrfl rfl
theorem ev_neg {a : ME} : evE G cl (.neg a) ρ S = bnd (evE G cl a ρ S) fun d S1 => match d with
    | .int i => some (.int (-i), S1)
    | _ => none := nrfl rfl
theorem ev_cmp {op : CmpOp} {a b : ME} : evE G cl (.cmp op a b) ρ S = bnd (evE G cl a ρ S) fun d S1 => bnd (evE G cl b ρ S1) fun e S2 => lft (cmpD S2 op d e) fun r => some (.bl r, S2) := nrfl rfl
theorem ev_ch {op op' : CmpOp} {a b c : ME} : evE G cl (.ch op op' a b c) ρ S = bnd (evE G cl a ρ S) fun d S1 => bnd (evE G cl b ρ S1) fun e S2 => lft (cmpD S2 op d e) fun r => if r = true then bnd (evE G cl c ρ S2) fun f S3 => lft (cmpD S3 op' e f) fun q => some (.bl q, S3) else some (.bl false, S2) := nrfl rfl
theorem ev_and {a b : ME} : evE G cl (.and a b) ρ S = bnd (evE G cl a ρ S) fun d S1 => lft (truD S1 d) fun t => if t = true then evE G cl b ρ S1 else some (d, S1) := nrfl rfl
theorem ev_or {a b : ME} : evE G cl (.or a b) ρ S = bnd (evE G cl a ρ S) fun d S1 => lft (truD S1 d) fun t => if t = true then some (d, S1) else evE G cl b ρ S1 := nrfl rfl
theorem ev_one {a : ME} : evE G cl (.one a) ρ S = evE G cl a ρ S := nrfl rfl
theorem ev_not {a : ME} : evE G cl (.not a) ρ S = bnd (evE G cl a ρ S) fun d S1 => lft (truD S1 d) fun t => some (.bl (!t), S1) := nrfl rfl
theorem ev_ifE {c a b : ME} : evE G cl (.ifE c a b) ρ S = bnd (evE G cl c ρ S) fun d S1 => lft (truD S1 d) fun t => if t = true then evE G cl a ρ S1 else evE G cl b ρ S1 := nrfl rfl
theorem ev_tup {es : MEs} : evE G cl (.tup es) ρ S = bnd (evEs G cl es ρ S) fun ds S1 => if ds.length ≤ sizeLine then some (.tup ds, S1) else none := nrfl rfl
theorem ev_lst {es : MEs} : evE G cl (.lst es) ρ S = bnd (evEs G cl es ρ S) fun ds S1 => if ds.length ≤ sizeLine then some (.lst ds, S1) else none := nrfl rfl
theorem ev_mlst {es : MEs} : evE G cl (.mlst es) ρ S = bnd (evEs G cl es ρ S) fun ds S1 => if ds.length ≤ sizeLine then some (.ref S1.length, S1 ++ [.lst ds]) else none := nrfl rfl
theorem ev_dict {ps : MPs} : evE G cl (.dict ps) ρ S = bnd (evPs G cl ps ρ S) fun ps S1 => lft (keysD ps) fun kvs => if kvs.length ≤ 15 then some (.ref S1.length, S1 ++ [.dk (mergeKD [] kvs)]) else none := nrfl rfl
theorem ev_idx {a i : ME} : evE G cl (.idx a i) ρ S = bnd (evE G cl a ρ S) fun d S1 => bnd (evE G cl i ρ S1) fun e S2 => lft (idxD S2 d e) fun r => some (r, S2) := nrfl rfl
theorem ev_sl {a : ME} {lo hi : MO} : evE G cl (.sl a lo hi) ρ S = bnd (evE G cl a ρ S) fun d S1 => bnd (evO G cl lo ρ S1) fun l S2 => bnd (evO G cl hi ρ S2) fun h S3 => lft (slD S3 d l h) fun r => some (r, S3) := nrfl rfl
theorem ev_call {g : Nat} {es : MEs} : evE G cl (.call g es) ρ S = bnd (evEs G cl es ρ S) fun ds S1 => cl g ds S1 := nrfl rfl
theorem ev_bi {b : BI} {g : Nat} {es : MEs} : evE G cl (.bi b g es) ρ S = bnd (evEs G cl es ρ S) fun ds S1 => lft (biD S1 b ds) fun r => some (r, S1) := nrfl rfl
theorem ev_isI {g h : Nat} {n : String} {a : ME} : evE G cl (.isI g h n a) ρ S = bnd (evE G cl a ρ S) fun d S1 => lft (tyName S1 d) fun t => lft (kitB t n) fun b => some (.bl b, S1) := nrfl rfl
theorem ev_meth {m : MT} {o : ME} {es : MEs} : evE G cl (.meth m o es) ρ S = bnd (evE G cl o ρ S) fun d S1 => lft (lstOf S1 d) fun _ => bnd (evEs G cl es ρ S1) fun ds S2 => methD m S2 d ds := nrfl rfl
theorem ev_lc {mu : Bool} {vs : List Nat} {elt : ME} {tg : MG} {it : MI} {cs : MO} : evE G cl (.lc mu vs elt tg it cs) ρ S = bnd (evI G cl it ρ S) fun w S1 => if w.1.length ≤ sizeLine then cls mu (compL w.2 w.1 (ctn G cl elt tg cs (wipeE ρ vs)) w.1 S1 []) else none := nrfl rfl
theorem ev_lc2 {mu : Bool} {vs vs1 : List Nat} {elt : ME} {tg tg1 : MG} {it it1 : MI} {cs cs1 : MO} : evE G cl (.lc2 mu vs elt tg it cs vs1 tg1 it1 cs1) ρ S = bnd (evI G cl it ρ S) fun w S1 => cls mu (compA w.2 w.1 (ctn2 G cl elt tg cs vs1 tg1 it1 cs1 (wipeE ρ vs)) w.1 S1 []) := nrfl rfl
theorem ev_nil : evEs G cl .nil ρ S = some ([], S) := nrfl rfl
theorem ev_cons {e : ME} {es : MEs} : evEs G cl (.cons e es) ρ S = bnd (evE G cl e ρ S) fun d S1 => bnd (evEs G cl es ρ S1) fun ds S2 => some (d :: ds, S2) := nrfl rfl
theorem ev_oN : evO G cl .none ρ S = some (none, S) := nrfl rfl
theorem ev_oS {e : ME} : evO G cl (.some e) ρ S = bnd (evE G cl e ρ S) fun d S1 => match d with
    | .int i => some (some i, S1)
    | _ => none := nrfl rfl
theorem ev_cN : evC G cl .none ρ S = some (true, S) := nrfl rfl
theorem ev_cS {e : ME} : evC G cl (.some e) ρ S = bnd (evE G cl e ρ S) fun d S1 => lft (truD S1 d) fun t => some (t, S1) := nrfl rfl
theorem ev_pN : evPs G cl .nil ρ S = some ([], S) := nrfl rfl
theorem ev_pC {k v : ME} {ps : MPs} : evPs G cl (.cons k v ps) ρ S = bnd (evE G cl k ρ S) fun a S1 => bnd (evE G cl v ρ S1) fun b S2 => bnd (evPs G cl ps ρ S2) fun r S3 => some ((a, b) :: r, S3) := nrfl rfl
theorem ev_seq {e : ME} : evI G cl (.seq e) ρ S = bnd (evE G cl e ρ S) fun d S1 => lft (itemsOf S1 d) fun w => some (w, S1) := nrfl rfl
theorem ev_rng {g : Nat} {es : MEs} : evI G cl (.rng g es) ρ S = bnd (evEs G cl es ρ S) fun ds S1 => lft (rngD ds) fun xs => some ((xs, none), S1) := nrfl rfl
theorem ev_T {e : ME} : evT G cl e ρ S = bnd (evE G cl e ρ S) fun d S1 => lft (truD S1 d) fun t => some (t, S1) := nrfl rfl
theorem ev_asg {tg : MG} {e : ME} : evS G cl (.asg tg e) ρ S = bnd (evE G cl e ρ S) fun d S1 => lft (asgG tg d ρ) fun ρ1 => some (.nx ρ1, S1) := nrfl rfl
theorem ev_par2 {i j : Nat} {a b : ME} : evS G cl (.par2 i j a b) ρ S = bnd (evE G cl a ρ S) fun d S1 => bnd (evE G cl b ρ S1) fun e S2 => some (.nx ((ρ.set i (some d)).set j (some e)), S2) := nrfl rfl
theorem ev_aug {i : Nat} {op : Operator} {e : ME} : evS G cl (.aug i op e) ρ S = (match ρ[i]? with
    | some (some d) => bnd (evE G cl e ρ S) fun y S1 => lft (augD op d y) fun r => some (.nx (ρ.set i (some r)), S1)
    | _ => none) := nrfl rfl
theorem ev_setI {o i e : ME} : evS G cl (.setI o i e) ρ S = bnd (evE G cl e ρ S) fun v S1 => bnd (evE G cl o ρ S1) fun d S2 => bnd (evE G cl i ρ S2) fun k S3 => lft (putI S3 d k v) fun S4 => some (.nx ρ, S4) := nrfl rfl
theorem ev_augI {o i e : ME} {op : Operator} : evS G cl (.augI o i op e) ρ S = bnd (evE G cl o ρ S) fun d S1 => bnd (evE G cl i ρ S1) fun k S2 => lft (augGet S2 d k) fun x => bnd (evE G cl e ρ S2) fun y S3 => lft (augD op x y) fun r => lft (putI S3 d k r) fun S4 => some (.nx ρ, S4) := nrfl rfl
theorem ev_ifS {c : ME} {a b : MSs} : evS G cl (.ifS c a b) ρ S = bnd (evT G cl c ρ S) fun t S1 => if t = true then evSs G cl a ρ S1 else evSs G cl b ρ S1 := nrfl rfl
theorem ev_whl {c : ME} {b : MSs} : evS G cl (.whl c b) ρ S = whE (evT G cl c) (evSs G cl b) ρ S := nrfl rfl
theorem ev_for {tg : MG} {it : MI} {b : MSs} : evS G cl (.forS tg it b) ρ S = bnd (evI G cl it ρ S) fun w S1 => forL w.2 w.1 (fbd G cl tg b) w.1 ρ S1 := nrfl rfl
theorem ev_ret {e : ME} : evS G cl (.ret e) ρ S = bnd (evE G cl e ρ S) fun d S1 => some (.rt d, S1) := nrfl rfl
theorem ev_retN : evS G cl .retN ρ S = some (.rt .non, S) := nrfl rfl
theorem ev_ex {e : ME} : evS G cl (.ex e) ρ S = bnd (evE G cl e ρ S) fun _ S1 => some (.nx ρ, S1) := nrfl rfl
theorem ev_pass : evS G cl .pass ρ S = some (.nx ρ, S) := nrfl rfl
theorem ev_brk : evS G cl .brk ρ S = some (.bk ρ, S) := nrfl rfl
theorem ev_sN : evSs G cl .nil ρ S = some (.nx ρ, S) := nrfl rfl
theorem ev_sC {s : MS} {ss : MSs} : evSs G cl (.cons s ss) ρ S = sq G cl ss (evS G cl s ρ S) := nrfl rfl
theorem asg_name {i : Nat} {d : D} (h : i < ρ.length) : asgG (.name i) d ρ = some (ρ.set i (some d)) := by
  simp only [asgG, h, if_true]
theorem asg_tup {ts : MGs} {xs : List D} : asgG (.tup ts) (.tup xs) ρ = asgGs ts xs ρ := nrfl rfl
theorem asg_lst {ts : MGs} {xs : List D} : asgG (.tup ts) (.lst xs) ρ = asgGs ts xs ρ := nrfl rfl
theorem asg_nil : asgGs .nil [] ρ = some ρ := nrfl rfl
theorem asg_cons {t : MG} {ts : MGs} {x : D} {xs : List D} : asgGs (.cons t ts) (x :: xs) ρ = (asgG t x ρ).bind fun ρ1 => asgGs ts xs ρ1 := nrfl rfl
end
/-! operations -/
section
variable {S : Sto} {a b : Int}
theorem add_i : binD .Add (.int a) (.int b) = some (.int (a + b)) := nrfl rfl
theorem add_t {xs ys : List D} : binD .Add (.tup xs) (.tup ys) = if xs.length + ys.length ≤ sizeLine then some (.tup (xs ++ ys)) else none := nrfl rfl
theorem add_s {xs ys : Str} : binD .Add (.str xs) (.str ys) = if xs.length + ys.length ≤ sizeLine then some (.str (xs ++ ys)) else none := nrfl rfl
theorem add_l {xs ys : List D} : binD .Add (.lst xs) (.lst ys) = if xs.length + ys.length ≤ sizeLine then some (.lst (xs ++ ys)) else none := nrfl rfl
theorem sub_i : binD .Sub (.int a) (.int b) = some (.int (a - b)) := nrfl rfl
theorem sub_b {a b : Bool} : binD .Sub (.bl a) (.bl b) = some (.int (b2i a - b2i b)) := nrfl rfl
theorem mul_i : binD .Mult (.int a) (.int b) = if mulOk a b then some (.int (a * b)) else none := nrfl rfl
theorem div_i : binD .FloorDiv (.int a) (.int b) = if divOk b then some (.int (a.fdiv b)) else none := nrfl rfl
theorem mod_i : binD .Mod (.int a) (.int b) = if b ≠ 0 then some (.int (a.fmod b)) else none := nrfl rfl
theorem pow_i : binD .Pow (.int a) (.int b) = if powOk a b then some (.int (a ^ b.toNat)) else none := nrfl rfl
theorem shl_i : binD .LShift (.int a) (.int b) = if shlOk a b then some (.int (a * 2 ^ b.toNat)) else none := nrfl rfl
theorem shr_i : binD .RShift (.int a) (.int b) = if 0 ≤ b then some (.int (a / 2 ^ b.toNat)) else none := nrfl rfl
theorem lt_i : cmpD S .Lt (.int a) (.int b) = some (decide (a < b)) := nrfl rfl
theorem le_i : cmpD S .LtE (.int a) (.int b) = some (decide (a ≤ b)) := nrfl rfl
theorem gt_i : cmpD S .Gt (.int a) (.int b) = some (decide (b < a)) := nrfl rfl
theorem ge_i : cmpD S .GtE (.int a) (.int b) = some (decide (b ≤ a)) := nrfl rfl
theorem eq_i : cmpD S .Eq (.int a) (.int b) = some (decide (a = b)) := nrfl rfl
theorem ne_i : cmpD S .NotEq (.int a) (.int b) = some (!decide (a = b)) := nrfl rfl
theorem eq_b {a b : Bool} : cmpD S .Eq (.bl a) (.bl b) = some (decide (a = b)) := nrfl rfl
theorem ne_b {a b : Bool} : cmpD S .NotEq (.bl a) (.bl b) = some (!decide (a = b)) := nrfl rfl
theorem eq_s {a b : Str} : cmpD S .Eq (.str a) (.str b) = some (decide (a = b)) := nrfl rfl
theorem ne_s {a b : Str} : cmpD S .NotEq (.str a) (.str b) = some (!decide (a = b)) := nrfl rfl
theorem eq_n : cmpD S .Eq .non .non = some true := nrfl rfl
theorem ne_n : cmpD S .NotEq .non .non = some false := nrfl rfl
theorem is_n {d : D} : cmpD S .Is d .non = some (isNone d) := nrfl rfl
theorem isnt_n {d : D} : cmpD S .IsNot d .non = some (!isNone d) := nrfl rfl
theorem tru_b {b : Bool} : truD S (.bl b) = some b := nrfl rfl
theorem tru_i : truD S (.int a) = some (a != 0) := nrfl rfl
theorem tru_n : truD S .non = some false := nrfl rfl
theorem idx_t {xs : List D} : idxD S (.tup xs) (.int a) = atI xs a := nrfl rfl
theorem idx_l {xs : List D} : idxD S (.lst xs) (.int a) = atI xs a := nrfl rfl
theorem idx_f {xs : List D} : idxD S (.flst xs) (.int a) = atI xs a := nrfl rfl
theorem at_0 {α : Type} {x : α} {xs : List α} : atI (x :: xs) 0 = some x := by
  simp [atI, ixN]
theorem at_1 {α : Type} {x y : α} {xs : List α} : atI (x :: y :: xs) 1 = some y := by
  have : (1 : Int) < ((x :: y :: xs).length : Int) := by simp; omega
  simp only [atI, ixN, this, if_true]; rfl
theorem at_2 {α : Type} {x y z : α} {xs : List α} : atI (x :: y :: z :: xs) 2 = some z := by
  have : (2 : Int) < ((x :: y :: z :: xs).length : Int) := by simp; omega
  simp only [atI, ixN, this, if_true]; rfl
theorem at_nat {α : Type} {xs : List α} {n : Nat} (h : n < xs.length) : atI xs (n : Int) = some xs[n] := by
  simp [atI, ixN, h]
theorem abs_i : biD S .abs [.int a] = some (.int (if a < 0 then -a else a)) := nrfl rfl
theorem max_i : biD S .max [.int a, .int b] = some (.int (if b > a then b else a)) := nrfl rfl
theorem min_i : biD S .min [.int a, .int b] = some (.int (if b < a then b else a)) := nrfl rfl
theorem int_i : biD S .int [.int a] = some (.int a) := nrfl rfl
theorem int_b {a : Bool} : biD S .int [.bl a] = some (.int (b2i a)) := nrfl rfl
theorem str_i : biD S .str [.int a] = if a.natAbs.log2 < 1920 then some (.str (toString a)) else none := nrfl rfl
theorem len_t {xs : List D} : biD S .len [.tup xs] = some (.int xs.length) := nrfl rfl
theorem len_l {xs : List D} : biD S .len [.lst xs] = some (.int xs.length) := nrfl rfl
theorem len_f {xs : List D} : biD S .len [.flst xs] = some (.int xs.length) := nrfl rfl
theorem aug_addI : augD .Add (.int a) (.int b) = some (.int (a + b)) := nrfl rfl
theorem aug_subI : augD .Sub (.int a) (.int b) = some (.int (a - b)) := nrfl rfl
theorem ty_i : tyName S (.int a) = some "int" := nrfl rfl
theorem ty_b {b : Bool} : tyName S (.bl b) = some "bool" := nrfl rfl
theorem ty_n : tyName S .non = some "NoneType" := nrfl rfl
theorem ty_s {b : Str} : tyName S (.str b) = some "str" := nrfl rfl
theorem ty_t {xs : List D} : tyName S (.tup xs) = some "tuple" := nrfl rfl
theorem ty_l {xs : List D} : tyName S (.lst xs) = some "list" := nrfl rfl
theorem it_t {xs : List D} : itemsOf S (.tup xs) = some (xs, none) := nrfl rfl
theorem it_l {xs : List D} : itemsOf S (.lst xs) = some (xs, none) := nrfl rfl
theorem it_f {xs : List D} : itemsOf S (.flst xs) = some (xs, none) := nrfl rfl
end
theorem size_eq : sizeLine = 16777216 := nrfl rfl
theorem sz_0 : (0 ≤ sizeLine) = True := eq_true (by rw [size_eq]; decide)
theorem sz_1 : (1 ≤ sizeLine) = True := eq_true (by rw [size_eq]; decide)
theorem sz_2 : (2 ≤ sizeLine) = True := eq_true (by rw [size_eq]; decide)
theorem sz_3 : (3 ≤ sizeLine) = True := eq_true (by rw [size_eq]; decide)
theorem sz_4 : (4 ≤ sizeLine) = True := eq_true (by rw [size_eq]; decide)
theorem sz_5 : (5 ≤ sizeLine) = True := eq_true (by rw [size_eq]; decide)
theorem sz_6 : (6 ≤ sizeLine) = True := eq_true (by rw [size_eq]; decide)
theorem sz_7 : (7 ≤ sizeLine) = True := eq_true (by rw [size_eq]; decide)
theorem sz_8 : (8 ≤ sizeLine) = True := eq_true (by rw [size_eq]; decide)
theorem sz_9 : (9 ≤ sizeLine) = True := eq_true (by rw [size_eq]; decide)
theorem sz_10 : (10 ≤ sizeLine) = True := eq_true (by rw [size_eq]; decide)
theorem sz_11 : (11 ≤ sizeLine) = True := eq_true (by rw [size_eq]; decide)
theorem sz_12 : (12 ≤ sizeLine) = True := eq_true (by rw [size_eq]; decide)
theorem sz_13 : (13 ≤ sizeLine) = True := eq_true (by rw [size_eq]; decide)
theorem sz_14 : (14 ≤ sizeLine) = True := eq_true (by rw [size_eq]; decide)
theorem sz_15 : (15 ≤ sizeLine) = True := eq_true (by rw [size_eq]; decide)
theorem sz_16 : (16 ≤ sizeLine) = True := eq_true (by rw [size_eq]; decide)
theorem sz_17 : (17 ≤ sizeLine) = True := eq_true (by rw [size_eq]; decide)
theorem sz_18 : (18 ≤ sizeLine) = True := eq_true (by rw [size_eq]; decide)
theorem sz_19 : (19 ≤ sizeLine) = True := eq_true (by rw [size_eq]; decide)
theorem sz_20 : (20 ≤ sizeLine) = True := eq_true (by rw [size_eq]; decide)
theorem sz_21 : (21 ≤ sizeLine) = True := eq_true (by rw [size_eq]; decide)
theorem sz_22 : (22 ≤ sizeLine) = True := eq_true (by rw [size_eq]; decide)
theorem sz_23 : (23 ≤ sizeLine) = True := eq_true (by rw [size_eq]; decide)
theorem sz_24 : (24 ≤ sizeLine) = True := eq_true (by rw [size_eq]; decide)
theorem sz_25 : (25 ≤ sizeLine) = True := eq_true (by rw [size_eq]; decide)
theorem sz_26 : (26 ≤ sizeLine) = True := eq_true (by rw [size_eq]; decide)
theorem sz_27 : (27 ≤ sizeLine) = True := eq_true (by rw [size_eq]; decide)
theorem sz_28 : (28 ≤ sizeLine) = True := eq_true (by rw [size_eq]; decide)
theorem sz_29 : (29 ≤ sizeLine) = True := eq_true (by rw [size_eq]; decide)
theorem sz_30 : (30 ≤ sizeLine) = True := eq_true (by rw [size_eq]; decide)
theorem sz_31 : (31 ≤ sizeLine) = True := eq_true (by rw [size_eq]; decide)
theorem sz_32 : (32 ≤ sizeLine) = True := eq_true (by rw [size_eq]; decide)
theorem sz_33 : (33 ≤ sizeLine) = True := eq_true (by rw [size_eq]; decide)
theorem sz_34 : (34 ≤ sizeLine) = True := eq_true (by rw [size_eq]; decide)
theorem sz_35 : (35 ≤ sizeLine) = True := eq_true (by rw [size_eq]; decide)
theorem sz_36 : (36 ≤ sizeLine) = True := eq_true (by rw [size_eq]; decide)
theorem sz_37 : (37 ≤ sizeLine) = True := eq_true (by rw [size_eq]; decide)
theorem sz_38 : (38 ≤ sizeLine) = True := eq_true (by rw [size_eq]; decide)
theorem sz_39 : (39 ≤ sizeLine) = True := eq_true (by rw [size_eq]; decide)
theorem sz_40 : (40 ≤ sizeLine) = True := eq_true (by rw [size_eq]; decide)
theorem le_size {n : Nat} (h : n ≤ 1000000) : n ≤ sizeLine := by rw [size_eq]; omega
theorem kb_int_int : kitB "int" "int" = some true := by decide +kernel
theorem kb_int_bool : kitB "int" "bool" = some false := by decide +kernel
theorem kb_int_str : kitB "int" "str" = some false := by decide +kernel
theorem kb_int_tuple : kitB "int" "tuple" = some false := by decide +kernel
theorem kb_int_list : kitB "int" "list" = some false := by decide +kernel
theorem kb_int_dict : kitB "int" "dict" = some false := by decide +kernel
theorem kb_bool_int : kitB "bool" "int" = some true := by decide +kernel
theorem kb_bool_bool : kitB "bool" "bool" = some true := by decide +kernel
theorem kb_bool_str : kitB "bool" "str" = some false := by decide +kernel
theorem kb_bool_tuple : kitB "bool" "tuple" = some false := by decide +kernel
theorem kb_bool_list : kitB "bool" "list" = some false := by decide +kernel
theorem kb_bool_dict : kitB "bool" "dict" = some false := by decide +kernel
theorem kb_str_int : kitB "str" "int" = some false := by decide +kernel
theorem kb_str_bool : kitB "str" "bool" = some false := by decide +kernel
theorem kb_str_str : kitB "str" "str" = some true := by decide +kernel
theorem kb_str_tuple : kitB "str" "tuple" = some false := by decide +kernel
theorem kb_str_list : kitB "str" "list" = some false := by decide +kernel
theorem kb_str_dict : kitB "str" "dict" = some false := by decide +kernel
theorem kb_tuple_int : kitB "tuple" "int" = some false := by decide +kernel
theorem kb_tuple_bool : kitB "tuple" "bool" = some false := by decide +kernel
theorem kb_tuple_str : kitB "tuple" "str" = some false := by decide +kernel
theorem kb_tuple_tuple : kitB "tuple" "tuple" = some true := by decide +kernel
theorem kb_tuple_list : kitB "tuple" "list" = some false := by decide +kernel
theorem kb_tuple_dict : kitB "tuple" "dict" = some false := by decide +kernel
theorem kb_list_int : kitB "list" "int" = some false := by decide +kernel
theorem kb_list_bool : kitB "list" "bool" = some false := by decide +kernel
theorem kb_list_str : kitB "list" "str" = some false := by decide +kernel
theorem kb_list_tuple : kitB "list" "tuple" = some false := by decide +kernel
theorem kb_list_list : kitB "list" "list" = some true := by decide +kernel
theorem kb_list_dict : kitB "list" "dict" = some false := by decide +kernel
theorem kb_dict_int : kitB "dict" "int" = some false := by decide +kernel
theorem kb_dict_bool : kitB "dict" "bool" = some false := by decide +kernel
theorem kb_dict_str : kitB "dict" "str" = some false := by decide +kernel
theorem kb_dict_tuple : kitB "dict" "tuple" = some false := by decide +kernel
theorem kb_dict_list : kitB "dict" "list" = some false := by decide +kernel
theorem kb_dict_dict : kitB "dict" "dict" = some true := by decide +kernel
theorem kb_NoneType_int : kitB "NoneType" "int" = some false := by decide +kernel
theorem kb_NoneType_bool : kitB "NoneType" "bool" = some false := by decide +kernel
theorem kb_NoneType_str : kitB "NoneType" "str" = some false := by decide +kernel
theorem kb_NoneType_tuple : kitB "NoneType" "tuple" = some false := by decide +kernel
theorem kb_NoneType_list : kitB "NoneType" "list" = some false := by decide +kernel
theorem kb_NoneType_dict : kitB "NoneType" "dict" = some false := by decide +kernel
theorem obind_some {α β : Type} (a : α) (f : α → Option β) : (some a).bind f = f a := nrfl rfl
theorem pow_succ_eq (n : Nat) : (2 : Int) ^ n > 0 := Int.pow_pos (by decide)
def E1 := And.intro @bnd_s (And.intro @lft_s (And.intro @lft_n (And.intro @bnd_n (And.intro @obind_some (And.intro @ev_var (And.intro @ev_int (And.intro @ev_str (And.intro @ev_bl (And.intro @ev_non (And.intro @ev_con (And.intro @ev_bin (And.intro @ev_neg (And.intro @ev_cmp (And.intro @ev_ch (And.intro @ev_and (And.intro @ev_or (And.intro @ev_one (And.intro @ev_not (And.intro @ev_ifE (And.intro @ev_tup (And.intro @ev_lst (And.intro @ev_mlst (And.intro @ev_dict (And.intro @ev_idx (@ev_sl)))))))))))))))))))))))))
def E2 := And.intro @ev_call (And.intro @ev_bi (And.intro @ev_isI (And.intro @ev_meth (And.intro @ev_lc (And.intro @ev_lc2 (And.intro @ev_nil (And.intro @ev_cons (And.intro @ev_oN (And.intro @ev_oS (And.intro @ev_cN (And.intro @ev_cS (And.intro @ev_pN (And.intro @ev_pC (And.intro @ev_seq (And.intro @ev_rng (And.intro @ev_T (And.intro @ev_asg (And.intro @ev_par2 (And.intro @ev_aug (And.intro @ev_setI (And.intro @ev_augI (And.intro @ev_ifS (And.intro @ev_whl (And.intro @ev_for (@ev_ret)))))))))))))))))))))))))
def E3 := And.intro @ev_retN (And.intro @ev_ex (And.intro @ev_pass (And.intro @ev_brk (And.intro @ev_sN (And.intro @ev_sC (And.intro @sq_nx (And.intro @sq_rt (And.intro @sq_bk (And.intro @fin_nx (And.intro @fin_rt (And.intro @cls_f (And.intro @cls_t (And.intro @sz_0 (And.intro @sz_1 (And.intro @sz_2 (And.intro @sz_3 (And.intro @sz_4 (And.intro @sz_5 (And.intro @sz_6 (And.intro @sz_7 (And.intro @sz_8 (And.intro @sz_9 (And.intro @sz_10 (@sz_11))))))))))))))))))))))))
def E4 := And.intro @sz_12 (And.intro @sz_13 (And.intro @sz_14 (And.intro @sz_15 (And.intro @sz_16 (And.intro @sz_17 (And.intro @sz_18 (And.intro @sz_19 (And.intro @sz_20 (And.intro @sz_21 (And.intro @sz_22 (And.intro @sz_23 (And.intro @sz_24 (And.intro @sz_25 (And.intro @sz_26 (And.intro @sz_27 (And.intro @sz_28 (And.intro @sz_29 (And.intro @sz_30 (And.intro @sz_31 (And.intro @sz_32 (And.intro @sz_33 (And.intro @sz_34 (And.intro @sz_35 (@sz_36))))))))))))))))))))))))
def E5 := And.intro @sz_37 (And.intro @sz_38 (And.intro @sz_39 (And.intro @sz_40 (And.intro @kb_int_int (And.intro @kb_int_bool (And.intro @kb_int_str (And.intro @kb_int_tuple (And.intro @kb_int_list (And.intro @kb_int_dict (And.intro @kb_bool_int (And.intro @kb_bool_bool (And.intro @kb_bool_str (And.intro @kb_bool_tuple (And.intro @kb_bool_list (And.intro @kb_bool_dict (And.intro @kb_str_int (And.intro @kb_str_bool (And.intro @kb_str_str (And.intro @kb_str_tuple (And.intro @kb_str_list (And.intro @kb_str_dict (And.intro @kb_tuple_int (And.intro @kb_tuple_bool (@kb_tuple_str))))))))))))))))))))))))
def E6 := And.intro @kb_tuple_tuple (And.intro @kb_tuple_list (And.intro @kb_tuple_dict (And.intro @kb_list_int (And.intro @kb_list_bool (And.intro @kb_list_str (And.intro @kb_list_tuple (And.intro @kb_list_list (And.intro @kb_list_dict (And.intro @kb_dict_int (And.intro @kb_dict_bool (And.intro @kb_dict_str (And.intro @kb_dict_tuple (And.intro @kb_dict_list (And.intro @kb_dict_dict (And.intro @kb_NoneType_int (And.intro @kb_NoneType_bool (And.intro @kb_NoneType_str (And.intro @kb_NoneType_tuple (And.intro @kb_NoneType_list (And.intro @kb_NoneType_dict (And.intro @asg_name (And.intro @asg_tup (And.intro @asg_lst (@asg_nil))))))))))))))))))))))))
def E7 := And.intro @asg_cons (And.intro @add_i (And.intro @add_t (And.intro @add_s (And.intro @add_l (And.intro @sub_i (And.intro @sub_b (And.intro @mul_i (And.intro @div_i (And.intro @mod_i (And.intro @pow_i (And.intro @shl_i (And.intro @shr_i (And.intro @lt_i (And.intro @le_i (And.intro @gt_i (And.intro @ge_i (And.intro @eq_i (And.intro @ne_i (And.intro @eq_b (And.intro @ne_b (And.intro @eq_s (And.intro @ne_s (And.intro @eq_n (@ne_n))))))))))))))))))))))))
def E8 := And.intro @is_n (And.intro @isnt_n (And.intro @tru_b (And.intro @tru_i (And.intro @tru_n (And.intro @idx_t (And.intro @idx_l (And.intro @idx_f (And.intro @at_0 (And.intro @at_1 (And.intro @at_2 (And.intro @abs_i (And.intro @max_i (And.intro @min_i (And.intro @int_i (And.intro @int_b (And.intro @str_i (And.intro @len_t (And.intro @len_l (And.intro @len_f (And.intro @aug_addI (And.intro @aug_subI (And.intro @ty_i (And.intro @ty_b (@ty_n))))))))))))))))))))))))
def E9 := And.intro @ty_s (And.intro @ty_t (And.intro @ty_l (And.intro @it_t (And.intro @it_l (And.intro @it_f (@prune_same))))))
end Rw

/-! M16: fractions -/
namespace Rw
open PySem L2

def fr (q : Rat) : D := .tup [.int q.num, .int (q.den : Int)]
/-- of at most n bits -/
def Bd (n : Nat) (a : Int) : Prop := a.natAbs < 2 ^ n
def Sm (n : Nat) (q : Rat) : Prop := q.num.natAbs < 2 ^ n ∧ q.den < 2 ^ n
theorem log_lt {a n : Nat} (h : a < 2 ^ n) (hn : 0 < n) : a.log2 < n := by
  by_cases e : a = 0
  · subst e
    simpa using hn
  · exact (Nat.log2_lt e).mpr h
theorem Bd.mono {n m : Nat} {a : Int} (h : Bd n a) (l : n ≤ m) : Bd m a := Nat.lt_of_lt_of_le h (Nat.pow_le_pow_right (by decide) l)
theorem Sm.mono {n m : Nat} {q : Rat} (h : Sm n q) (l : n ≤ m) : Sm m q := ⟨Nat.lt_of_lt_of_le h.1 (Nat.pow_le_pow_right (by decide) l), Nat.lt_of_lt_of_le h.2 (Nat.pow_le_pow_right (by decide) l)⟩
theorem Bd.mulOk {n m : Nat} {a b : Int} (h : Bd n a) (g : Bd m b) (l : n + m < 500000) : mulOk a b := by
  have h1 := log_lt (h.mono (Nat.le_succ n)) (Nat.succ_pos n)
  have h2 := log_lt (g.mono (Nat.le_succ m)) (Nat.succ_pos m)
  unfold Rw.mulOk
  omega
theorem Bd.divOk {n : Nat} {a : Int} (h : Bd n a) (z : a ≠ 0) (l : n < 9000) : divOk a := ⟨z, Nat.lt_of_lt_of_le (log_lt (h.mono (Nat.le_succ n)) (Nat.succ_pos n)) l⟩
theorem Bd.mul {n m : Nat} {a b : Int} (h : Bd n a) (g : Bd m b) : Bd (n + m) (a * b) := by
  unfold Bd at *
  rw [Int.natAbs_mul, Nat.pow_add]
  exact Nat.mul_lt_mul'' h g
theorem Bd.add {n m : Nat} {a b : Int} (h : Bd n a) (g : Bd m b) : Bd (max n m + 1) (a + b) := by
  have h' := h.mono (Nat.le_max_left n m)
  have g' := g.mono (Nat.le_max_right n m)
  unfold Bd at *
  have := Int.natAbs_add_le a b
  rw [Nat.pow_succ]
  omega
theorem Bd.neg {n : Nat} {a : Int} (h : Bd n a) : Bd n (-a) := by
  unfold Bd at *
  rwa [Int.natAbs_neg]
theorem Bd.sub {n m : Nat} {a b : Int} (h : Bd n a) (g : Bd m b) : Bd (max n m + 1) (a - b) := by
  rw [Int.sub_eq_add_neg]
  exact h.add g.neg
theorem Bd.of_le {n : Nat} {a b : Int} (h : Bd n a) (l : b.natAbs ≤ a.natAbs) : Bd n b := Nat.lt_of_le_of_lt l h
theorem Sm.nm {n : Nat} {q : Rat} (h : Sm n q) : Bd n q.num := h.1
theorem Sm.dn {n : Nat} {q : Rat} (h : Sm n q) : Bd n (q.den : Int) := by simpa [Bd] using h.2
theorem den_ne {q : Rat} : (q.den : Int) ≠ 0 := by
  have := q.den_nz
  omega
theorem den_pos {q : Rat} : (0 : Int) < (q.den : Int) := by
  have := q.den_pos
  omega
theorem num_le {a b : Int} : (Rat.divInt a b).num.natAbs ≤ a.natAbs := by
  rw [Rat.num_divInt]
  refine Nat.le_trans (Int.natAbs_ediv_le_natAbs _ _) ?_
  rw [Int.natAbs_mul]
  have : b.sign.natAbs ≤ 1 := by
    rcases Int.lt_trichotomy b 0 with h | h | h
    · rw [Int.sign_eq_neg_one_of_neg h]; decide
    · rw [h]; decide
    · rw [Int.sign_eq_one_of_pos h]; decide
  calc _ ≤ 1 * a.natAbs := Nat.mul_le_mul_right _ this
    _ = _ := Nat.one_mul _
theorem den_le {a b : Int} (h : b ≠ 0) : (Rat.divInt a b).den ≤ b.natAbs := by
  rw [Rat.den_divInt, if_neg h]
  exact Nat.div_le_self _ _
theorem Sm.div {n m : Nat} {a b : Int} (h : Bd n a) (g : Bd m b) (z : b ≠ 0) : Sm (max n m) (Rat.divInt a b) :=
  ⟨Nat.lt_of_le_of_lt num_le (h.mono (Nat.le_max_left n m)), Nat.lt_of_le_of_lt (den_le z) (g.mono (Nat.le_max_right n m))⟩
theorem add_eq (p q : Rat) : p + q = Rat.divInt (p.num * q.den + q.num * p.den) (p.den * q.den) := by
  conv => lhs; rw [← Rat.num_divInt_den p, ← Rat.num_divInt_den q]
  exact Rat.divInt_add_divInt _ _ den_ne den_ne
theorem mul_eq (p q : Rat) : p * q = Rat.divInt (p.num * q.num) (p.den * q.den) := by
  conv => lhs; rw [← Rat.num_divInt_den p, ← Rat.num_divInt_den q]
  exact Rat.divInt_mul_divInt _ _
theorem div_eq (p q : Rat) : p / q = Rat.divInt (p.num * q.den) (p.den * q.num) := by
  conv => lhs; rw [← Rat.num_divInt_den p, ← Rat.num_divInt_den q]
  rw [Rat.div_def, Rat.inv_divInt, Rat.divInt_mul_divInt]
theorem Sm.add {n m : Nat} {p q : Rat} (h : Sm n p) (g : Sm m q) : Sm (n + m + 1) (p + q) := by
  rw [add_eq]
  have h1 := (h.nm.mul g.dn).add (g.nm.mul h.dn)
  have h2 := h.dn.mul g.dn
  have := Sm.div h1 h2 (Int.mul_ne_zero den_ne den_ne)
  exact this.mono (by omega)
theorem Sm.mul {n m : Nat} {p q : Rat} (h : Sm n p) (g : Sm m q) : Sm (n + m) (p * q) := by
  rw [mul_eq]
  have := Sm.div (h.nm.mul g.nm) (h.dn.mul g.dn) (Int.mul_ne_zero den_ne den_ne)
  exact this.mono (by omega)
theorem Sm.neg {n : Nat} {p : Rat} (h : Sm n p) : Sm n (-p) := by
  refine ⟨?_, h.2⟩
  show (-p.num).natAbs < _
  rw [Int.natAbs_neg]
  exact h.1
theorem num_ne {q : Rat} (h : q ≠ 0) : q.num ≠ 0 := fun e => h (Rat.num_eq_zero.mp e)
theorem Sm.quo {n m : Nat} {p q : Rat} (h : Sm n p) (g : Sm m q) (z : q ≠ 0) : Sm (n + m) (p / q) := by
  rw [div_eq]
  have := Sm.div (h.nm.mul g.dn) (h.dn.mul g.nm) (Int.mul_ne_zero den_ne (num_ne z))
  exact this.mono (by omega)
theorem fr_neg {p : Rat} : fr (-p) = .tup [.int (-p.num), .int (p.den : Int)] := rfl
theorem fr_abs {p : Rat} : fr p.abs = .tup [.int (if p.num < 0 then -p.num else p.num), .int (p.den : Int)] := by
  unfold Rat.abs
  by_cases h : 0 ≤ p
  · have : ¬ p.num < 0 := by
      have := Rat.num_nonneg.mpr h
      omega
    simp only [h, this, if_true, if_false]
    rfl
  · have : p.num < 0 := by
      have : ¬ 0 ≤ p.num := fun q => h (Rat.num_nonneg.mp q)
      omega
    simp only [h, this, if_true, if_false]
    rfl
/-- least terms -/
theorem fr_div {u l : Int} (h : l ≠ 0) : fr (Rat.divInt u l) = .tup [.int (u.fdiv (if 0 < l then (Int.gcd u l : Int) else -(Int.gcd u l : Int))), .int (l.fdiv (if 0 < l then (Int.gcd u l : Int) else -(Int.gcd u l : Int)))] := by
  have hg : (Int.gcd u l : Int) ≠ 0 := by
    have : Int.gcd u l ≠ 0 := fun e => h (Int.gcd_eq_zero_iff.mp e).2
    omega
  have d1 : (Int.gcd u l : Int) ∣ u := Int.gcd_dvd_left ..
  have d2 : (Int.gcd u l : Int) ∣ l := Int.gcd_dvd_right ..
  unfold fr
  rw [Rat.num_divInt, Rat.den_divInt, if_neg h, Int.gcd_comm l u]
  by_cases c : 0 < l
  · rw [if_pos c, Int.fdiv_eq_ediv_of_dvd d1, Int.fdiv_eq_ediv_of_dvd d2, Int.sign_eq_one_of_pos c, Int.one_mul]
    congr
    rw [Int.natCast_ediv]
    congr
    omega
  · have cl : l < 0 := by omega
    rw [if_neg c, Int.fdiv_eq_ediv_of_dvd (Int.neg_dvd.mpr d1), Int.fdiv_eq_ediv_of_dvd (Int.neg_dvd.mpr d2), Int.sign_eq_neg_one_of_neg cl, Int.ediv_neg, Int.ediv_neg]
    have e1 : -1 * u / (Int.gcd u l : Int) = -(u / (Int.gcd u l : Int)) := by
      rw [Int.neg_one_mul, Int.neg_ediv_of_dvd d1]
    have e2 : ((l.natAbs / Int.gcd u l : Nat) : Int) = -(l / (Int.gcd u l : Int)) := by
      rw [Int.natCast_ediv, ← Int.neg_ediv_of_dvd d2]
      congr
      omega
    rw [e1, e2]
theorem gcd_bd {n : Nat} {u l : Int} (h : l ≠ 0) (g : Bd n l) : Bd n (Int.gcd u l : Int) := by
  refine Nat.lt_of_le_of_lt ?_ g
  show Int.gcd u l ≤ l.natAbs
  exact Nat.le_of_dvd (by omega) (Nat.gcd_dvd_right _ _)
theorem gcd_ne {u l : Int} (h : l ≠ 0) : (Int.gcd u l : Int) ≠ 0 := by
  have : Int.gcd u l ≠ 0 := fun e => h (Int.gcd_eq_zero_iff.mp e).2
  omega
theorem lt_eq {p q : Rat} : decide (p.num * (q.den : Int) < q.num * (p.den : Int)) = decide (p < q) := by
  rw [decide_eq_decide, Rat.lt_iff]
theorem le_eq {p q : Rat} : decide (p.num * (q.den : Int) ≤ q.num * (p.den : Int)) = decide (p ≤ q) := by
  rw [decide_eq_decide, Rat.le_iff]
theorem fmod_nat (m n : Nat) : Int.fmod (m : Int) (n : Int) = ((m % n : Nat) : Int) := by
  rw [Int.fmod_eq_emod_of_nonneg _ (by omega)]
  rfl
theorem abs_nat (a : Int) : (if a < 0 then -a else a) = (a.natAbs : Int) := by
  split <;> omega
/-! powers of two -/
theorem shl_one {b : Int} (h : 0 ≤ b) (g : b ≤ 10000) : shlOk 1 b := by
  refine ⟨h, ?_⟩
  have : Builtin.Int.intBits 1 = 1 := by decide +kernel
  rw [this]
  omega
/-- how many bits -/
def bln (m : Nat) : Nat := if m = 0 then 0 else m.log2 + 1
theorem bln_lt (m i : Nat) : i < bln m ↔ 2 ^ i ≤ m := by
  unfold bln
  split
  · rename_i h
    subst h
    have := Nat.two_pow_pos i
    omega
  · rename_i h
    rw [← Nat.le_log2 h]
    omega
theorem bln_shr {m i : Nat} : (0 : Int) < (m : Int) / 2 ^ (i : Int).toNat ↔ i < bln m := by
  rw [bln_lt]
  have e : ((m : Int) / 2 ^ (i : Int).toNat) = ((m / 2 ^ i : Nat) : Int) := by
    rw [Int.toNat_natCast, Int.natCast_ediv, Int.natCast_pow]
    rfl
  rw [e]
  have := Nat.div_pos_iff (a := m) (b := 2 ^ i)
  have := Nat.two_pow_pos i
  constructor
  · intro h
    have : 0 < m / 2 ^ i := by omega
    omega
  · intro h
    have : 0 < m / 2 ^ i := by omega
    omega
theorem two_nat (n : Nat) : (2 : Rat) ^ n = Rat.divInt ((2 ^ n : Nat) : Int) 1 := by
  induction n with
  | zero => rfl
  | succ n ih =>
    rw [Rat.pow_succ, ih, show (2 : Rat) = Rat.divInt 2 1 from rfl, Rat.divInt_mul_divInt]
    congr 1
theorem two_num (n : Nat) : ((2 : Rat) ^ n).num = (2 : Int) ^ n ∧ ((2 : Rat) ^ n).den = 1 := by
  rw [two_nat]
  refine ⟨?_, ?_⟩
  · rw [Rat.num_divInt]
    simp
  · rw [Rat.den_divInt]
    simp
theorem two_neg (n : Nat) : ((2 : Rat) ^ (-(n : Int))).num = 1 ∧ ((2 : Rat) ^ (-(n : Int))).den = 2 ^ n := by
  have e : (2 : Rat) ^ (-(n : Int)) = Rat.divInt 1 ((2 ^ n : Nat) : Int) := by
    rw [Rat.zpow_neg, Rat.zpow_natCast, two_nat, Rat.inv_divInt]
  have h : ((2 ^ n : Nat) : Int) ≠ 0 := by
    have := Nat.two_pow_pos n
    omega
  rw [e]
  refine ⟨?_, ?_⟩
  · rw [Rat.num_divInt, Int.sign_eq_one_of_pos (by have := Nat.two_pow_pos n; omega)]
    simp
  · rw [Rat.den_divInt, if_neg h]
    simp
theorem fr_two {b : Int} : fr ((2 : Rat) ^ b) = if 0 ≤ b then .tup [.int (2 ^ b.toNat), .int 1] else .tup [.int 1, .int (2 ^ (-b).toNat)] := by
  unfold fr
  split
  · rename_i h
    obtain ⟨n, rfl⟩ := Int.eq_ofNat_of_zero_le h
    rw [Rat.zpow_natCast, (two_num n).1, (two_num n).2]
    rfl
  · rename_i h
    obtain ⟨n, e⟩ := Int.eq_ofNat_of_zero_le (show 0 ≤ -b by omega)
    have : b = -(n : Int) := by omega
    subst this
    rw [(two_neg n).1, (two_neg n).2, Int.neg_neg, Int.toNat_natCast, Int.natCast_pow]
    rfl
theorem sm_two {b : Int} {m : Nat} (h : b.natAbs ≤ m) : Sm (m + 1) ((2 : Rat) ^ b) := by
  by_cases c : 0 ≤ b
  · obtain ⟨n, rfl⟩ := Int.eq_ofNat_of_zero_le c
    rw [Rat.zpow_natCast]
    unfold Sm
    rw [(two_num n).1, (two_num n).2]
    refine ⟨?_, Nat.one_lt_two_pow (by omega)⟩
    rw [Int.natAbs_pow]
    exact Nat.pow_lt_pow_right (by decide) (by omega)
  · obtain ⟨n, e⟩ := Int.eq_ofNat_of_zero_le (show 0 ≤ -b by omega)
    have : b = -(n : Int) := by omega
    subst this
    unfold Sm
    rw [(two_neg n).1, (two_neg n).2]
    exact ⟨Nat.one_lt_two_pow (by omega), Nat.pow_lt_pow_right (by decide) (by omega)⟩
end Rw

/-! M17: loops, data alike -/
namespace Rw
open PySem L2

/-! ### loops -/
section
variable {all : List D} {body : D → Env → Sto → Rs Fl} {ρ ρ1 : Env} {S S1 : Sto} {x d : D} {xs : List D}
theorem forL_nil : forL none all body [] ρ S = some (.nx ρ, S) := by
  simp only [forL, okS, if_true, reduceIte]
theorem forL_cons (h : body x ρ S = some (.nx ρ1, S1)) : forL none all body (x :: xs) ρ S = forL none all body xs ρ1 S1 := by
  simp only [forL, okS, if_true, h, bnd_some]
theorem forL_ret (h : body x ρ S = some (.rt d, S1)) : forL none all body (x :: xs) ρ S = some (.rt d, S1) := by
  simp only [forL, okS, if_true, h, bnd_some]
theorem forL_brk (h : body x ρ S = some (.bk ρ1, S1)) : forL none all body (x :: xs) ρ S = some (.nx ρ1, S1) := by
  simp only [forL, okS, if_true, h, bnd_some]
theorem forL_run {I : Nat → Env → Sto → Prop} (step : ∀ (i : Nat) (x : D) (ρ : Env) (S : Sto), xs[i]? = some x → I i ρ S → ∃ ρ1 S1, body x ρ S = some (.nx ρ1, S1) ∧ I (i + 1) ρ1 S1) (h0 : I 0 ρ S) :
    ∃ ρ1 S1, forL none all body xs ρ S = some (.nx ρ1, S1) ∧ I xs.length ρ1 S1 := by
  induction xs generalizing ρ S I with
  | nil => exact ⟨ρ, S, forL_nil, h0⟩
  | cons x xs ih =>
    obtain ⟨ρ1, S1, h1, h2⟩ := step 0 x ρ S rfl h0
    obtain ⟨ρ2, S2, h3, h4⟩ := ih (I := fun i => I (i + 1)) (fun i y ρ S e h => step (i + 1) y ρ S e h) h2
    exact ⟨ρ2, S2, (forL_cons h1).trans h3, h4⟩
variable {turn : D → Sto → Rs (Option D)} {acc : List D} {y : D}
theorem compL_nil : compL none all turn [] S acc = some (acc, S) := by
  simp only [compL, okS, if_true, reduceIte]
theorem compL_some (h : turn x S = some (some y, S1)) : compL none all turn (x :: xs) S acc = compL none all turn xs S1 (acc ++ [y]) := by
  simp only [compL, okS, if_true, h, bnd_some]
theorem compL_none (h : turn x S = some (none, S1)) : compL none all turn (x :: xs) S acc = compL none all turn xs S1 acc := by
  simp only [compL, okS, if_true, h, bnd_some]
theorem compL_fm {f : D → Option D} (h : ∀ x ∈ xs, turn x S = some (f x, S)) : compL none all turn xs S acc = some (acc ++ xs.filterMap f, S) := by
  induction xs generalizing acc with
  | nil => rw [compL_nil]; simp
  | cons x xs ih =>
    have h1 := h x List.mem_cons_self
    have h2 := fun acc => ih (acc := acc) fun z hz => h z (List.mem_cons_of_mem _ hz)
    cases c : f x with
    | none => rw [compL_none (by rw [h1, c]), h2, List.filterMap_cons, c]
    | some y => rw [compL_some (by rw [h1, c]), h2, List.filterMap_cons, c]; simp
theorem compL_map {f : D → D} (h : ∀ x ∈ xs, turn x S = some (some (f x), S)) : compL none all turn xs S acc = some (acc ++ xs.map f, S) := by
  rw [compL_fm (f := fun x => some (f x)) h]
  congr
  induction xs with
  | nil => rfl
  | cons x xs ih => simp only [List.filterMap_cons, List.map_cons, ih fun z hz => h z (List.mem_cons_of_mem _ hz)]
end
section
variable {all : List D} {turn : D → Sto → List D → Rs (List D)} {x : D} {xs acc acc1 : List D} {S S1 : Sto}
theorem compA_nil : compA none all turn [] S acc = some (acc, S) := by
  simp only [compA, okS, if_true, reduceIte]
theorem compA_cons (h : turn x S acc = some (acc1, S1)) : compA none all turn (x :: xs) S acc = compA none all turn xs S1 acc1 := by
  simp only [compA, okS, if_true, reduceIte, h, bnd_some]
/-- all turns add their lists -/
theorem compA_app {f : D → List D} (h : ∀ x ∈ xs, ∀ acc, turn x S acc = some (acc ++ f x, S)) : compA none all turn xs S acc = some (acc ++ xs.flatMap f, S) := by
  induction xs generalizing acc with
  | nil => rw [compA_nil]; simp
  | cons x xs ih =>
    rw [compA_cons (h x List.mem_cons_self acc), ih fun y hy => h y (List.mem_cons_of_mem _ hy), List.flatMap_cons, List.append_assoc]
end
/-! ### the store -/
section
variable {S T : Sto} {c c' : Cell} {d : D}
theorem at_new : (S ++ [c])[S.length]? = some c := by simp
theorem set_new : (S ++ [c]).set S.length c' = S ++ [c'] := by simp
theorem prune_len {S' : Sto} (h : S'.length = S.length) : prune S d S' = (d, S') := by
  unfold prune
  split
  · rename_i c
    have : S'.take S.length = S' := List.take_of_length_le (by omega)
    rw [this] at c
    rw [← c.1]
  · rfl
theorem prune_one (h : below S.length d = true) : prune S d (S ++ [c]) = (d, S) := prune_new h
theorem prune_ap (h : below S.length d = true) : prune S d (S ++ T) = (d, S) := prune_new h
theorem getRef : lstOf (S ++ [.lst xs]) (.ref S.length) = some xs := by
  simp only [lstOf, at_new]
theorem bl_int {n : Nat} {i : Int} : below n (.int i) = true := rfl
theorem bl_bl {n : Nat} {i : Bool} : below n (.bl i) = true := rfl
theorem bl_str {n : Nat} {i : Str} : below n (.str i) = true := rfl
theorem bl_non {n : Nat} : below n .non = true := rfl
theorem bls_map {n : Nat} {α : Type} {f : α → D} (h : ∀ x, below n (f x) = true) : ∀ xs : List α, belows n (xs.map f) = true
  | [] => rfl
  | x :: xs => by
    show (below n (f x) && belows n (xs.map f)) = true
    rw [h x, bls_map h xs]
    rfl
theorem bl_fr {n : Nat} {q : Rat} : below n (fr q) = true := rfl
end
/-! ### data alike -/
mutual
/-- plain data: no references, of limited depth -/
def okD : Nat → D → Bool
  | _, .non => true
  | _, .bl _ => true
  | _, .int _ => true
  | _, .str s => PyData.strOk s
  | 0, .tup _ => false
  | 0, .lst _ => false
  | n + 1, .tup xs => okDs n xs && decide (xs.length ≤ sizeLine)
  | n + 1, .lst xs => okDs n xs && decide (xs.length ≤ sizeLine)
  | _, _ => false
def okDs : Nat → List D → Bool
  | _, [] => true
  | n, x :: xs => okD n x && okDs n xs
end
mutual
def pdD : D → PyData
  | .bl b => .bool b
  | .int i => .int i
  | .str s => .str s
  | .tup xs => .tuple (pdDs xs)
  | .lst xs => .list (pdDs xs)
  | _ => .none
def pdDs : List D → List PyData
  | [] => []
  | x :: xs => pdD x :: pdDs xs
end
mutual
theorem pd_ok {S : Sto} : ∀ (n : Nat) (d : D), okD n d = true → pd S d = some (pdD d) ∧ (pdD d).canLay0 = true ∧ (pdD d).depth ≤ n
  | _, .non, _ => ⟨rfl, rfl, Nat.zero_le _⟩
  | _, .bl _, _ => ⟨rfl, rfl, Nat.zero_le _⟩
  | _, .int _, _ => ⟨rfl, rfl, Nat.zero_le _⟩
  | n, .str s, h => ⟨rfl, by
    have : PyData.strOk s = true := by cases n <;> exact h
    simpa [pdD, PyData.canLay0] using this, by simp [pdD, PyData.depth]⟩
  | 0, .tup xs, h => absurd (show false = true from h) Bool.false_ne_true
  | 0, .lst xs, h => absurd (show false = true from h) Bool.false_ne_true
  | n + 1, .tup xs, h => by
    obtain ⟨h1, _⟩ := bk (show (okDs n xs && decide (xs.length ≤ sizeLine)) = true from h)
    obtain ⟨a, b, c⟩ := pds_ok n xs h1
    refine ⟨?_, ?_, ?_⟩
    · show (pds S xs).map PyData.tuple = _
      rw [a]
      rfl
    · simpa [pdD, PyData.canLay0] using b
    · simp only [pdD, PyData.depth]
      omega
  | n + 1, .lst xs, h => by
    obtain ⟨h1, _⟩ := bk (show (okDs n xs && decide (xs.length ≤ sizeLine)) = true from h)
    obtain ⟨a, b, c⟩ := pds_ok n xs h1
    refine ⟨?_, ?_, ?_⟩
    · show (pds S xs).map PyData.list = _
      rw [a]
      rfl
    · simpa [pdD, PyData.canLay0] using b
    · simp only [pdD, PyData.depth]
      omega
  | n, .flst _, h => by cases n <;> exact absurd (show false = true from h) Bool.false_ne_true
  | n, .ref _, h => by cases n <;> exact absurd (show false = true from h) Bool.false_ne_true
  | n, .ty _, h => by cases n <;> exact absurd (show false = true from h) Bool.false_ne_true
theorem pds_ok {S : Sto} : ∀ (n : Nat) (ds : List D), okDs n ds = true → pds S ds = some (pdDs ds) ∧ PyData.canLayAll0 (pdDs ds) = true ∧ PyData.depthAll (pdDs ds) ≤ n
  | n, [], _ => ⟨rfl, rfl, Nat.zero_le _⟩
  | n, x :: xs, h => by
    obtain ⟨h1, h2⟩ := bk (show (okD n x && okDs n xs) = true from h)
    obtain ⟨a, b, c⟩ := pd_ok (S := S) n x h1
    obtain ⟨a', b', c'⟩ := pds_ok (S := S) n xs h2
    refine ⟨by simp only [pds, a, a', pdDs], ?_, ?_⟩
    · simp [pdDs, PyData.canLayAll0, b, b']
    · simp only [pdDs, PyData.depthAll]
      omega
end
def dup (d : D) : D := .tup [d, d]
theorem dup_ok {n : Nat} : ∀ {ds : List D}, okDs n ds = true → okDs (n + 1) (ds.map dup) = true
  | [], _ => rfl
  | d :: ds, h => by
    obtain ⟨h1, h2⟩ := bk (show (okD n d && okDs n ds) = true from h)
    show (okD (n + 1) (dup d) && okDs (n + 1) (ds.map dup)) = true
    rw [dup_ok h2]
    show ((okDs n [d, d] && decide ([d, d].length ≤ sizeLine)) && true) = true
    have : okDs n [d, d] = true := by
      show (okD n d && (okD n d && true)) = true
      rw [h1]
      rfl
    rw [this]
    rfl
/-- a list of the store told from the empty one -/
theorem ne_nil {S : Sto} {ds : List D} {n : Nat} (h : okDs n ds = true) (hn : n ≤ 63) : cmpD (S ++ [.lst ds]) .NotEq (.ref S.length) (.lst []) = some (!ds.isEmpty) := by
  obtain ⟨a, b, c⟩ := pds_ok (S := S ++ [.lst ds]) n ds h
  have e1 : pdT (S ++ [.lst ds]) (.ref S.length) = some (.list (pdDs ds)) := by
    simp only [pdT, at_new, a]
    rfl
  have s1 : SeqAt.shaped (.list (pdDs ds)) = true := by
    have h1 : (PyData.list (pdDs ds)).canLay0 = true := by simpa [PyData.canLay0] using b
    have h2 : (PyData.list (pdDs ds)).depth ≤ 64 := by
      simp only [PyData.depth]
      omega
    unfold SeqAt.shaped
    rw [h1, decide_eq_true h2]
    rfl
  show (eqD _ _ _).map _ = _
  have e2 : eqD (S ++ [.lst ds]) (.ref S.length) (.lst []) = some ds.isEmpty := by
    show (match pdT (S ++ [.lst ds]) (.ref S.length), pdT (S ++ [.lst ds]) (.lst []) with
    | some p, some q => if SeqAt.shaped p = true ∧ SeqAt.shaped q = true then some (PyData.eqv p q) else none
    | _, _ => none) = _
    rw [e1]
    show (if SeqAt.shaped (.list (pdDs ds)) = true ∧ SeqAt.shaped (.list []) = true then some (PyData.eqv (.list (pdDs ds)) (.list [])) else none) = _
    rw [if_pos ⟨s1, rfl⟩]
    cases ds <;> rfl
  rw [e2]
  rfl
theorem okDs_ap {n : Nat} : ∀ {a b : List D}, okDs n (a ++ b) = (okDs n a && okDs n b)
  | [], _ => rfl
  | x :: a, b => by
    show (okD n x && okDs n (a ++ b)) = ((okD n x && okDs n a) && okDs n b)
    rw [okDs_ap, Bool.and_assoc]
mutual
theorem okD_mono {m : Nat} : ∀ {n : Nat} {d : D}, n ≤ m → okD n d = true → okD m d = true
  | _, .non, _, _ => by cases m <;> rfl
  | _, .bl _, _, _ => by cases m <;> rfl
  | _, .int _, _, _ => by cases m <;> rfl
  | n, .str s, _, h => by
    have : PyData.strOk s = true := by cases n <;> exact h
    cases m <;> exact this
  | 0, .tup xs, _, h => absurd (show false = true from h) Bool.false_ne_true
  | 0, .lst xs, _, h => absurd (show false = true from h) Bool.false_ne_true
  | n + 1, .tup xs, l, h => by
    obtain ⟨h1, h2⟩ := bk (show (okDs n xs && decide (xs.length ≤ sizeLine)) = true from h)
    cases m with
    | zero => omega
    | succ m =>
      show (okDs m xs && decide (xs.length ≤ sizeLine)) = true
      rw [okDs_mono (by omega) h1, h2]
      rfl
  | n + 1, .lst xs, l, h => by
    obtain ⟨h1, h2⟩ := bk (show (okDs n xs && decide (xs.length ≤ sizeLine)) = true from h)
    cases m with
    | zero => omega
    | succ m =>
      show (okDs m xs && decide (xs.length ≤ sizeLine)) = true
      rw [okDs_mono (by omega) h1, h2]
      rfl
  | n, .flst _, _, h => by cases n <;> exact absurd (show false = true from h) Bool.false_ne_true
  | n, .ref _, _, h => by cases n <;> exact absurd (show false = true from h) Bool.false_ne_true
  | n, .ty _, _, h => by cases n <;> exact absurd (show false = true from h) Bool.false_ne_true
theorem okDs_mono {m : Nat} : ∀ {n : Nat} {ds : List D}, n ≤ m → okDs n ds = true → okDs m ds = true
  | _, [], _, _ => rfl
  | n, d :: ds, l, h => by
    obtain ⟨h1, h2⟩ := bk (show (okD n d && okDs n ds) = true from h)
    show (okD m d && okDs m ds) = true
    rw [okD_mono l h1, okDs_mono l h2]
    rfl
end
mutual
def szD : D → Nat
  | .tup xs => 1 + szDs xs
  | .lst xs => 1 + szDs xs
  | _ => 1
def szDs : List D → Nat
  | [] => 0
  | x :: xs => szD x + szDs xs
end
theorem szDs_ap : ∀ {a b : List D}, szDs (a ++ b) = szDs a + szDs b
  | [], _ => by simp [szDs]
  | x :: a, b => by
    show szD x + szDs (a ++ b) = szD x + szDs a + szDs b
    rw [szDs_ap]
    omega
theorem okDs_mem {n : Nat} : ∀ {ds : List D} {d : D}, okDs n ds = true → d ∈ ds → okD n d = true
  | x :: xs, d, h, hm => by
    obtain ⟨h1, h2⟩ := bk (show (okD n x && okDs n xs) = true from h)
    rcases List.mem_cons.mp hm with rfl | hm
    · exact h1
    · exact okDs_mem h2 hm
/-! methods on the newest cell -/
section
variable {S : Sto} {xs ys : List D} {x : D}
theorem ap_new : methD .append (S ++ [.lst xs]) (.ref S.length) [x] = if xs.length < sizeLine then some (.non, S ++ [.lst (xs ++ [x])]) else none := by
  simp only [methD, at_new, set_new]
theorem pop_new : methD .pop (S ++ [.lst (xs ++ [x])]) (.ref S.length) [] = some (x, S ++ [.lst xs]) := by
  simp only [methD, at_new, set_new]
  simp
theorem ext_new : methD .extend (S ++ [.lst xs]) (.ref S.length) [.lst ys] = if xs.length + ys.length ≤ sizeLine then some (.non, S ++ [.lst (xs ++ ys)]) else none := by
  simp only [methD, at_new, set_new]
theorem len_new : biD (S ++ [.lst xs]) .len [.ref S.length] = some (.int xs.length) := by
  simp only [biD, biLen, at_new]
theorem wipe_nil {ρ : Env} : wipeE ρ [] = ρ := nrfl rfl
theorem wipe_cons {ρ : Env} {v : Nat} {vs : List Nat} : wipeE ρ (v :: vs) = (wipeE ρ vs).set v none := nrfl rfl
theorem rng_nat {n : Nat} (h : n < 2 ^ 62) : rngD [.int (n : Int)] = some ((List.range n).map fun (i : Nat) => D.int (i : Int)) := by
  have h1 : -(2 ^ 62) ≤ (n : Int) ∧ (n : Int) < 2 ^ 62 := by omega
  simp only [rngD, h1, and_self, if_true, Int.toNat_natCast, Int.zero_add]
theorem rng_two {a b : Int} (h : -(2 ^ 62) ≤ a ∧ a < 2 ^ 62 ∧ -(2 ^ 62) ≤ b ∧ b < 2 ^ 62) : rngD [.int a, .int b] = some ((List.range (b - a).toNat).map fun (i : Nat) => D.int (a + (i : Int))) := by
  simp only [rngD, h, and_self, if_true]
/-- the items by their places -/
theorem by_place {α : Type} (f : D → D) (g : α → D) (xs : List α) (h : ∀ (i : Nat) (hi : i < xs.length), f (.int i) = g xs[i]) : ((List.range xs.length).map fun (i : Nat) => D.int (i : Int)).map f = xs.map g := by
  refine List.ext_getElem (by simp) fun i h1 h2 => ?_
  simp only [List.getElem_map, List.getElem_range]
  exact h i (by simpa using h2)
end
end Rw

/-! M18: exponents, texts of fractions, sums -/
namespace Rw
open PySem L2

theorem idx_fr0 {S : Sto} {p : Rat} : idxD S (fr p) (.int 0) = some (.int p.num) := at_0
theorem idx_fr1 {S : Sto} {p : Rat} : idxD S (fr p) (.int 1) = some (.int (p.den : Int)) := at_1
theorem ty_fr {S : Sto} {p : Rat} : tyName S (fr p) = some "tuple" := nrfl rfl
theorem fr_one : fr 1 = .tup [.int 1, .int 1] := nrfl rfl
theorem fr_zero : fr 0 = .tup [.int 0, .int 1] := nrfl rfl
theorem fr_abs' {p : Rat} : fr p.abs = .tup [.int (p.num.natAbs : Int), .int (p.den : Int)] := by
  rw [fr_abs, abs_nat]
theorem abs_num {p : Rat} : p.abs.num = (p.num.natAbs : Int) := by
  have := fr_abs' (p := p)
  unfold fr at this
  injection this with h
  injection h with h1 _
  injection h1
theorem abs_den {p : Rat} : p.abs.den = p.den := by
  unfold Rat.abs
  split <;> rfl
theorem Sm.abs {n : Nat} {p : Rat} (h : Sm n p) : Sm n p.abs := by
  unfold Sm
  rw [abs_num, abs_den]
  exact h
/-- the exponent as the program finds it -/
def expF (p : Rat) : Int := (bln p.num.natAbs : Int) - (bln p.den : Int)
def expo (p : Rat) : Int := if (2 : Rat) ^ expF p ≤ p.abs then expF p else expF p - 1
theorem bln_le {n m : Nat} (h : m < 2 ^ n) : bln m ≤ n := by
  have := mt (bln_lt m n).mp (by omega)
  omega
theorem expF_le {n : Nat} {p : Rat} (h : Sm n p) : (expF p).natAbs ≤ n := by
  have h1 := bln_le h.1
  have h2 := bln_le h.2
  unfold expF
  omega
theorem expo_le {n : Nat} {p : Rat} (h : Sm n p) : (expo p).natAbs ≤ n + 1 := by
  have := expF_le h
  unfold expo
  split <;> omega
theorem mul_den (q : Rat) : q * (q.den : Rat) = (q.num : Rat) := by
  have h := Rat.num_divInt_den q
  rw [Rat.divInt_eq_div, Rat.intCast_natCast] at h
  have hz : (q.den : Rat) ≠ 0 := by
    have := Rat.natCast_pos.mpr q.den_pos
    intro e
    rw [e] at this
    exact absurd this (by decide)
  conv => lhs; arg 1; rw [← h]
  exact Rat.div_mul_cancel hz
theorem two_pos (b : Int) : (0 : Rat) < (2 : Rat) ^ b := Rat.zpow_pos (by decide)
theorem two_add (a b : Int) : (2 : Rat) ^ (a + b) = (2 : Rat) ^ a * (2 : Rat) ^ b := Rat.zpow_add (by decide) a b
theorem two_cast (n : Nat) : (((2 ^ n : Nat) : Nat) : Rat) = (2 : Rat) ^ (n : Int) := by
  rw [Rat.zpow_natCast, Rat.natCast_pow]
  rfl
theorem abs_mul (p : Rat) : p.abs * (p.den : Rat) = (p.num.natAbs : Rat) := by
  have := mul_den p.abs
  rw [abs_den, abs_num] at this
  exact this
theorem expF_lo {p : Rat} (h : p ≠ 0) : (2 : Rat) ^ (expF p - 1) ≤ p.abs := by
  have hn : p.num.natAbs ≠ 0 := by
    have := num_ne h
    omega
  have h1 : 2 ^ (bln p.num.natAbs - 1) ≤ p.num.natAbs := (bln_lt _ _).mp (by unfold bln; rw [if_neg hn]; omega)
  have h2 : p.den < 2 ^ bln p.den := by
    have := mt (bln_lt p.den (bln p.den)).mpr (by omega)
    omega
  have hb : bln p.num.natAbs ≠ 0 := by unfold bln; rw [if_neg hn]; omega
  refine Rat.le_of_mul_le_mul_right (c := (p.den : Rat)) ?_ (Rat.natCast_pos.mpr p.den_pos)
  rw [abs_mul]
  have a1 : (p.den : Rat) ≤ (2 : Rat) ^ (bln p.den : Int) := by
    rw [← two_cast]
    exact Rat.natCast_le_natCast.mpr (by omega)
  have a2 : (2 : Rat) ^ (((bln p.num.natAbs - 1 : Nat)) : Int) ≤ (p.num.natAbs : Rat) := by
    rw [← two_cast]
    exact Rat.natCast_le_natCast.mpr h1
  have a3 := Rat.mul_le_mul_of_nonneg_left a1 (Rat.le_of_lt (two_pos (expF p - 1)))
  rw [← two_add] at a3
  have e : expF p - 1 + (bln p.den : Int) = ((bln p.num.natAbs - 1 : Nat) : Int) := by
    unfold expF
    omega
  rw [e] at a3
  exact Rat.le_trans a3 a2
theorem expF_hi {p : Rat} : ¬ (2 : Rat) ^ (expF p + 1) ≤ p.abs := by
  have hd : p.den ≠ 0 := p.den_nz
  have h1 : p.num.natAbs < 2 ^ bln p.num.natAbs := by
    have := mt (bln_lt p.num.natAbs (bln p.num.natAbs)).mpr (by omega)
    omega
  have hb : bln p.den ≠ 0 := by unfold bln; rw [if_neg hd]; omega
  have h2 : 2 ^ (bln p.den - 1) ≤ p.den := (bln_lt _ _).mp (by omega)
  intro c
  have a1 : (2 : Rat) ^ (((bln p.den - 1 : Nat)) : Int) ≤ (p.den : Rat) := by
    rw [← two_cast]
    exact Rat.natCast_le_natCast.mpr h2
  have a2 : (p.num.natAbs : Rat) < (2 : Rat) ^ ((bln p.num.natAbs : Nat) : Int) := by
    rw [← two_cast]
    exact Rat.natCast_lt_natCast.mpr h1
  have a3 := Rat.mul_le_mul_of_nonneg_left a1 (Rat.le_of_lt (two_pos (expF p + 1)))
  rw [← two_add] at a3
  have e : expF p + 1 + ((bln p.den - 1 : Nat) : Int) = ((bln p.num.natAbs : Nat) : Int) := by
    unfold expF
    omega
  rw [e] at a3
  have a4 : (2 : Rat) ^ (expF p + 1) * (p.den : Rat) ≤ p.abs * (p.den : Rat) := by
    have := Rat.mul_le_mul_of_nonneg_left c (Rat.le_of_lt (Rat.natCast_pos.mpr p.den_pos))
    rw [Rat.mul_comm _ ((2 : Rat) ^ (expF p + 1)), Rat.mul_comm _ p.abs] at this
    exact this
  rw [abs_mul] at a4
  exact absurd (Rat.le_trans a3 a4) (Rat.not_le.mpr a2)
theorem expo_spec {p : Rat} (h : p ≠ 0) : (2 : Rat) ^ expo p ≤ p.abs ∧ ¬ (2 : Rat) ^ (expo p + 1) ≤ p.abs := by
  unfold expo
  split
  · rename_i c
    exact ⟨c, expF_hi⟩
  · rename_i c
    refine ⟨expF_lo h, ?_⟩
    rw [show expF p - 1 + 1 = expF p by omega]
    exact c
/-- its text -/
def prF (p : Rat) : Str := (toString p.num : Str) ++ (if (p.den : Int) = 1 then ("" : Str) else ("/" : Str) ++ (toString (p.den : Int) : Str))
def prOk (a b : Int) : Bool := decide (a.natAbs.log2 < 1920) && (decide (b.natAbs.log2 < 1920) && (decide ((("/" : Str)).length + ((toString b : Str)).length ≤ sizeLine) && (decide (((toString a : Str)).length + ((if b = 1 then ("" : Str) else ("/" : Str) ++ (toString b : Str))).length ≤ sizeLine) && PyData.strOk ((toString a : Str) ++ (if b = 1 then ("" : Str) else ("/" : Str) ++ (toString b : Str))))))
def frSum (qs : List Rat) : Rat := qs.foldl (· + ·) 0
end Rw

/-! M19: plain data told alike, among others -/
namespace Rw
open PySem L2

theorem pdDs_map : ∀ xs : List D, pdDs xs = xs.map pdD
  | [] => rfl
  | x :: xs => by rw [List.map_cons, ← pdDs_map xs]; rfl
theorem pdT_ok {S : Sto} {n : Nat} {d : D} (h : okD n d = true) : pdT S d = some (pdD d) := by
  have := (pd_ok (S := S) n d h).1
  cases d with
  | ref r => cases n <;> exact absurd (show false = true from h) Bool.false_ne_true
  | _ => exact this
theorem shaped_ok {n : Nat} {d : D} (h : okD n d = true) (hn : n ≤ 64) : SeqAt.shaped (pdD d) = true := by
  obtain ⟨_, b, c⟩ := pd_ok (S := []) n d h
  unfold SeqAt.shaped
  rw [b, decide_eq_true (show (pdD d).depth ≤ 64 by omega)]
  rfl
theorem okD_tup {n : Nat} {xs : List D} (h : okDs n xs = true) (hl : xs.length ≤ sizeLine) : okD (n + 1) (.tup xs) = true := by
  show (okDs n xs && decide (xs.length ≤ sizeLine)) = true
  rw [h, decide_eq_true hl]
  rfl
theorem okD_lst {n : Nat} {xs : List D} (h : okDs n xs = true) (hl : xs.length ≤ sizeLine) : okD (n + 1) (.lst xs) = true := by
  show (okDs n xs && decide (xs.length ≤ sizeLine)) = true
  rw [h, decide_eq_true hl]
  rfl
theorem in_t {S : Sto} {n m : Nat} {d : D} {xs : List D} (h : okD n d = true) (hn : n ≤ 64) (g : okD m (.tup xs) = true) (hm : m ≤ 64) : inD S d (.tup xs) = some (xs.any fun z => PyData.eqv (pdD z) (pdD d)) := by
  have e1 := pdT_ok (S := S) h
  have e2 := pdT_ok (S := S) g
  have s1 := shaped_ok h hn
  have s2 := shaped_ok g hm
  unfold inD
  rw [e1, e2]
  show (if SeqAt.shaped (pdD d) = true ∧ SeqAt.shaped (.tuple (pdDs xs)) = true then some ((pdDs xs).any fun z => PyData.eqv z (pdD d)) else none) = _
  rw [if_pos ⟨s1, s2⟩, pdDs_map, List.any_map]
  rfl
theorem in_l {S : Sto} {n m : Nat} {d : D} {xs : List D} (h : okD n d = true) (hn : n ≤ 64) (g : okD m (.lst xs) = true) (hm : m ≤ 64) : inD S d (.lst xs) = some (xs.any fun z => PyData.eqv (pdD z) (pdD d)) := by
  have e1 := pdT_ok (S := S) h
  have e2 := pdT_ok (S := S) g
  have s1 := shaped_ok h hn
  have s2 := shaped_ok g hm
  unfold inD
  rw [e1, e2]
  show (if SeqAt.shaped (pdD d) = true ∧ SeqAt.shaped (.list (pdDs xs)) = true then some ((pdDs xs).any fun z => PyData.eqv z (pdD d)) else none) = _
  rw [if_pos ⟨s1, s2⟩, pdDs_map, List.any_map]
  rfl
theorem eq_tt {S : Sto} {n m : Nat} {xs ys : List D} (h : okD n (.tup xs) = true) (hn : n ≤ 64) (g : okD m (.tup ys) = true) (hm : m ≤ 64) : eqD S (.tup xs) (.tup ys) = some (PyData.eqvAll (pdDs xs) (pdDs ys)) := by
  have e1 := pdT_ok (S := S) h
  have e2 := pdT_ok (S := S) g
  have s1 := shaped_ok h hn
  have s2 := shaped_ok g hm
  show (match pdT S (.tup xs), pdT S (.tup ys) with
    | some p, some q => if SeqAt.shaped p = true ∧ SeqAt.shaped q = true then some (PyData.eqv p q) else none
    | _, _ => none) = _
  rw [e1, e2]
  show (if SeqAt.shaped (pdD (.tup xs)) = true ∧ SeqAt.shaped (pdD (.tup ys)) = true then some (PyData.eqv (pdD (.tup xs)) (pdD (.tup ys))) else none) = _
  rw [if_pos ⟨s1, s2⟩]
  simp only [pdD, PyData.eqv]
theorem eq_ll {S : Sto} {n m : Nat} {xs ys : List D} (h : okD n (.lst xs) = true) (hn : n ≤ 64) (g : okD m (.lst ys) = true) (hm : m ≤ 64) : eqD S (.lst xs) (.lst ys) = some (PyData.eqvAll (pdDs xs) (pdDs ys)) := by
  have e1 := pdT_ok (S := S) h
  have e2 := pdT_ok (S := S) g
  have s1 := shaped_ok h hn
  have s2 := shaped_ok g hm
  show (match pdT S (.lst xs), pdT S (.lst ys) with
    | some p, some q => if SeqAt.shaped p = true ∧ SeqAt.shaped q = true then some (PyData.eqv p q) else none
    | _, _ => none) = _
  rw [e1, e2]
  show (if SeqAt.shaped (pdD (.lst xs)) = true ∧ SeqAt.shaped (pdD (.lst ys)) = true then some (PyData.eqv (pdD (.lst xs)) (pdD (.lst ys))) else none) = _
  rw [if_pos ⟨s1, s2⟩]
  simp only [pdD, PyData.eqv]
/-- a list told from the empty one -/
theorem ne_l {S : Sto} {n : Nat} {xs : List D} (h : okD n (.lst xs) = true) (hn : n ≤ 64) : cmpD S .NotEq (.lst xs) (.lst []) = some (!xs.isEmpty) := by
  show (eqD S (.lst xs) (.lst [])).map (!·) = _
  rw [eq_ll (m := 1) h hn rfl (by decide)]
  cases xs <;> rfl
theorem ne_l0 {S : Sto} : cmpD S .NotEq (.lst []) (.lst []) = some false := ne_l (n := 1) rfl (by decide)
theorem okD_fr {n : Nat} {p : Rat} : okD (n + 1) (fr p) = true := by
  show (okDs n [.int p.num, .int (p.den : Int)] && decide ([D.int p.num, .int (p.den : Int)].length ≤ sizeLine)) = true
  cases n <;> rfl
theorem eqv_fr {p q : Rat} : PyData.eqv (pdD (fr p)) (pdD (fr q)) = decide (p = q) := by
  simp only [pdD, fr, pdDs, PyData.eqv, PyData.eqvAll, Bool.and_true]
  by_cases h : p = q
  · subst h; simp
  · rw [decide_eq_false h]
    by_cases h1 : p.num = q.num
    · by_cases h2 : p.den = q.den
      · exact absurd (Rat.ext h1 h2) h
      · simp [h1]; omega
    · simp [h1]
theorem eq_fr {S : Sto} {p q : Rat} : cmpD S .Eq (fr p) (fr q) = some (decide (p = q)) := by
  rw [← eqv_fr]
  have := eq_tt (S := S) (n := 1) (m := 1) (xs := [.int p.num, .int (p.den : Int)]) (ys := [.int q.num, .int (q.den : Int)]) (okD_fr (n := 0) (p := p)) (by decide) (okD_fr (n := 0) (p := q)) (by decide)
  show eqD S (fr p) (fr q) = _
  rw [show fr p = .tup [.int p.num, .int (p.den : Int)] from rfl, show fr q = .tup [.int q.num, .int (q.den : Int)] from rfl, this]
  simp only [pdD, PyData.eqv]
theorem ne_fr {S : Sto} {p q : Rat} : cmpD S .NotEq (fr p) (fr q) = some (!decide (p = q)) := by
  have := eq_fr (S := S) (p := p) (q := q)
  show (eqD S (fr p) (fr q)).map (!·) = _
  rw [show eqD S (fr p) (fr q) = _ from this]
  rfl
theorem okDs_all {n : Nat} : ∀ {xs : List D}, (∀ x ∈ xs, okD n x = true) → okDs n xs = true
  | [], _ => rfl
  | x :: xs, h => by
    show (okD n x && okDs n xs) = true
    rw [h x List.mem_cons_self, okDs_all fun y hy => h y (List.mem_cons_of_mem _ hy)]
    rfl
/-- a text among texts -/
theorem eqv_str {a b : Str} : PyData.eqv (.str a) (.str b) = (a == b) := by simp only [PyData.eqv]
theorem rep_l {xs : List D} {k : Int} : binD .Mult (.lst xs) (.int k) = if repOk xs.length k then some (.lst (List.replicate k.toNat xs).flatten) else none := nrfl rfl
theorem cut_1 {S : Sto} {x : D} {xs : List D} : slD S (.lst (x :: xs)) (some 1) none = some (.lst xs) := by
  have h1 : HT.sIx (x :: xs).length 0 (some 1) = 1 := by
    show min (1 : Int).toNat (x :: xs).length = 1
    simp
  have h2 : HT.sIx (x :: xs).length (x :: xs).length none = xs.length + 1 := rfl
  simp only [slD, lstOf, cutD, h1, h2, Option.map_some]
  simp
theorem inN {S : Sto} {d e : D} : cmpD S .In d e = inD S d e := nrfl rfl
theorem inN' {S : Sto} {d e : D} : cmpD S .NotIn d e = (inD S d e).map (!·) := nrfl rfl
end Rw
namespace Rw
section
variable {α : Type} {all : List D} {turn : D → Sto → Rs (Option D)} {S : Sto}
theorem compL_mapT {g f : α → D} : ∀ {xs : List α} {acc : List D}, (∀ x ∈ xs, turn (g x) S = some (some (f x), S)) → compL none all turn (xs.map g) S acc = some (acc ++ xs.map f, S)
  | [], acc, _ => by rw [List.map_nil, compL_nil]; simp
  | x :: xs, acc, h => by
    rw [List.map_cons, compL_some (h x List.mem_cons_self), compL_mapT fun y hy => h y (List.mem_cons_of_mem _ hy)]
    simp
theorem compL_fmT {g : α → D} {f : α → Option D} : ∀ {xs : List α} {acc : List D}, (∀ x ∈ xs, turn (g x) S = some (f x, S)) → compL none all turn (xs.map g) S acc = some (acc ++ xs.filterMap f, S)
  | [], acc, _ => by rw [List.map_nil, compL_nil]; simp
  | x :: xs, acc, h => by
    have h1 := h x List.mem_cons_self
    have ih := fun acc => compL_fmT (acc := acc) fun y hy => h y (List.mem_cons_of_mem x hy)
    cases c : f x with
    | none => rw [List.map_cons, compL_none (by rw [h1, c]), ih, List.filterMap_cons, c]
    | some y => rw [List.map_cons, compL_some (by rw [h1, c]), ih, List.filterMap_cons, c]; simp
theorem compL_noneT {g : α → D} : ∀ {xs : List α} {acc : List D}, (∀ x ∈ xs, turn (g x) S = some (none, S)) → compL none all turn (xs.map g) S acc = some (acc, S)
  | [], acc, _ => by rw [List.map_nil, compL_nil]
  | x :: xs, acc, h => by
    rw [List.map_cons, compL_none (h x List.mem_cons_self), compL_noneT fun y hy => h y (List.mem_cons_of_mem x hy)]
end
end Rw
namespace Rw
open PySem L2
theorem in_strs {S : Sto} {a : Str} {xs : List Str} (h : (PyData.strOk a && xs.all PyData.strOk) = true) (hl : xs.length ≤ 1000) : cmpD S .In (.str a) (.tup (xs.map D.str)) = some (xs.any fun z => z == a) := by
  obtain ⟨h1, h2⟩ := bk h
  rw [inN, in_t (n := 0) (m := 1) (show okD 0 (.str a) = true from h1) (by decide) (okD_tup (okDs_all (by
    intro x hx
    obtain ⟨y, hy, rfl⟩ := List.mem_map.mp hx
    exact List.all_eq_true.mp h2 y hy)) (le_size (by simp; omega))) (by decide), List.any_map]
  congr 1
theorem in_strT {S : Sto} {a : Str} {xs : List Str} {b : Bool} (h : (PyData.strOk a && xs.all PyData.strOk) = true) (hl : xs.length ≤ 1000) (e : (xs.any fun z => z == a) = b) : cmpD S .In (.str a) (.tup (xs.map D.str)) = some b := by
  rw [in_strs h hl, e]
end Rw

namespace Rw
/-! hulls -/
def lo2 (a b : Rat) : Rat := if b < a then b else a
def hi2 (a b : Rat) : Rat := if a < b then b else a
def hullF (x : Rat) (xs : List Rat) : Rat × Rat := (xs.foldl lo2 x, xs.foldl hi2 x)
theorem lo_fold : ∀ (xs : List Rat) (x : Rat), (∀ y ∈ x :: xs, xs.foldl lo2 x ≤ y) ∧ xs.foldl lo2 x ∈ x :: xs
  | [], x => by simp
  | z :: xs, x => by
    obtain ⟨h1, h2⟩ := lo_fold xs (lo2 x z)
    have h3 := h1 (lo2 x z) List.mem_cons_self
    refine ⟨?_, ?_⟩
    · intro y hy
      rw [List.foldl_cons]
      rcases List.mem_cons.mp hy with rfl | hy
      · unfold lo2 at h3 ⊢; grind
      · rcases List.mem_cons.mp hy with rfl | hy
        · unfold lo2 at h3 ⊢; grind
        · exact h1 y (List.mem_cons_of_mem _ hy)
    · rw [List.foldl_cons]
      rcases List.mem_cons.mp h2 with e | e
      · rw [e]; unfold lo2; split <;> simp
      · simp [e]
theorem hi_fold : ∀ (xs : List Rat) (x : Rat), (∀ y ∈ x :: xs, y ≤ xs.foldl hi2 x) ∧ xs.foldl hi2 x ∈ x :: xs
  | [], x => by simp
  | z :: xs, x => by
    obtain ⟨h1, h2⟩ := hi_fold xs (hi2 x z)
    have h3 := h1 (hi2 x z) List.mem_cons_self
    refine ⟨?_, ?_⟩
    · intro y hy
      rw [List.foldl_cons]
      rcases List.mem_cons.mp hy with rfl | hy
      · unfold hi2 at h3 ⊢; grind
      · rcases List.mem_cons.mp hy with rfl | hy
        · unfold hi2 at h3 ⊢; grind
        · exact h1 y (List.mem_cons_of_mem _ hy)
    · rw [List.foldl_cons]
      rcases List.mem_cons.mp h2 with e | e
      · rw [e]; unfold hi2; split <;> simp
      · simp [e]
theorem hull_eq {x l h : Rat} {xs : List Rat} (hb : ∀ y ∈ x :: xs, l ≤ y ∧ y ≤ h) (hl : l ∈ x :: xs) (hh : h ∈ x :: xs) : hullF x xs = (l, h) := by
  obtain ⟨h1, h2⟩ := lo_fold xs x
  obtain ⟨h3, h4⟩ := hi_fold xs x
  unfold hullF
  rw [Rat.le_antisymm (h1 l hl) (hb _ h2).1, Rat.le_antisymm (hb _ h4).2 (h3 h hh)]
/-- the first one twice changes nothing -/
theorem hull_self {x : Rat} {xs : List Rat} : hullF x (x :: xs) = hullF x xs := by
  unfold hullF
  have h1 : lo2 x x = x := by unfold lo2; split <;> rfl
  have h2 : hi2 x x = x := by unfold hi2; split <;> rfl
  rw [List.foldl_cons, List.foldl_cons, h1, h2]
theorem inv_le {t s : Rat} (h : t ≤ s) (p : 0 < t ∨ s < 0) : s⁻¹ ≤ t⁻¹ := by
  have hs : s ≠ 0 := by grind
  have ht : t ≠ 0 := by grind
  have e1 := Rat.mul_inv_cancel s hs
  have e2 := Rat.mul_inv_cancel t ht
  have hst : 0 ≤ s * t := by
    rcases p with p | p
    · exact Rat.mul_nonneg (by grind) (by grind)
    · have := Rat.mul_nonneg (a := -s) (b := -t) (by grind) (by grind)
      grind
  have h0 : 0 ≤ s⁻¹ * t⁻¹ := by
    have h2 : 0 ≤ (s⁻¹ * t⁻¹) * (s⁻¹ * t⁻¹) := by
      rcases Rat.le_total (a := 0) (b := s⁻¹ * t⁻¹) with q | q
      · exact Rat.mul_nonneg q q
      · have := Rat.mul_nonneg (a := -(s⁻¹ * t⁻¹)) (b := -(s⁻¹ * t⁻¹)) (by grind) (by grind)
        grind
    have h3 := Rat.mul_nonneg hst h2
    have h4 : s * t * (s⁻¹ * t⁻¹ * (s⁻¹ * t⁻¹)) = s⁻¹ * t⁻¹ := by grind
    rwa [h4] at h3
  have h5 := Rat.mul_nonneg (a := s - t) (b := s⁻¹ * t⁻¹) (by grind) h0
  have h6 : (s - t) * (s⁻¹ * t⁻¹) = t⁻¹ - s⁻¹ := by grind
  rw [h6] at h5
  grind
/-- between -/
theorem mul_betw {a t s r l h : Rat} (h1 : t ≤ s) (h2 : s ≤ r) (l1 : l ≤ a * t) (l2 : l ≤ a * r) (u1 : a * t ≤ h) (u2 : a * r ≤ h) : l ≤ a * s ∧ a * s ≤ h := by
  rcases Rat.le_total (a := 0) (b := a) with q | q
  · have := Rat.mul_le_mul_of_nonneg_left h1 q
    have := Rat.mul_le_mul_of_nonneg_left h2 q
    grind
  · have := Rat.mul_le_mul_of_nonneg_left h1 (c := -a) (by grind)
    have := Rat.mul_le_mul_of_nonneg_left h2 (c := -a) (by grind)
    grind
def mid (a b : Rat) : Rat := (a + b) * (1 / 2)
def pts (a b : Rat) (c d : Rat) : List (Rat × Rat) := [(a, c), (a, d), (a, mid c d), (b, c), (b, d), (b, mid c d), (mid a b, c), (mid a b, d), (mid a b, mid c d)]
theorem mid_ge {a b : Rat} (h : a ≤ b) : a ≤ mid a b ∧ mid a b ≤ b := by unfold mid; grind
section
variable {a b c d : Rat}
theorem hull9 {f : Rat → Rat → Rat} {l h : Rat} (hb : ∀ p ∈ pts a b c d, l ≤ f p.1 p.2 ∧ f p.1 p.2 ≤ h) (hl : ∃ p ∈ pts a b c d, f p.1 p.2 = l) (hh : ∃ p ∈ pts a b c d, f p.1 p.2 = h) :
    hullF (f a c) ((pts a b c d).map fun p => f p.1 p.2) = (l, h) := by
  have : (pts a b c d).map (fun p => f p.1 p.2) = f a c :: [f a d, f a (mid c d), f b c, f b d, f b (mid c d), f (mid a b) c, f (mid a b) d, f (mid a b) (mid c d)] := rfl
  rw [this, hull_self]
  refine hull_eq ?_ ?_ ?_
  · rw [← this]
    intro y hy
    obtain ⟨p, hp, rfl⟩ := List.mem_map.mp hy
    exact hb p hp
  · rw [← this]
    obtain ⟨p, hp, e⟩ := hl
    exact List.mem_map.mpr ⟨p, hp, e⟩
  · rw [← this]
    obtain ⟨p, hp, e⟩ := hh
    exact List.mem_map.mpr ⟨p, hp, e⟩
theorem pts_in (h1 : a ≤ b) (h2 : c ≤ d) : ∀ p ∈ pts a b c d, a ≤ p.1 ∧ p.1 ≤ b ∧ c ≤ p.2 ∧ p.2 ≤ d := by
  have := mid_ge h1
  have := mid_ge h2
  intro p hp
  simp only [pts, List.mem_cons, List.not_mem_nil, or_false] at hp
  rcases hp with rfl | rfl | rfl | rfl | rfl | rfl | rfl | rfl | rfl <;> grind
theorem m_ac : (a, c) ∈ pts a b c d := by simp [pts]
theorem m_ad : (a, d) ∈ pts a b c d := by simp [pts]
theorem m_bc : (b, c) ∈ pts a b c d := by simp [pts]
theorem m_bd : (b, d) ∈ pts a b c d := by simp [pts]
theorem pts_all {P : Rat × Rat → Prop} (h1 : P (a, c)) (h2 : P (a, d)) (h3 : P (a, mid c d)) (h4 : P (b, c)) (h5 : P (b, d)) (h6 : P (b, mid c d)) (h7 : P (mid a b, c)) (h8 : P (mid a b, d)) (h9 : P (mid a b, mid c d)) : ∀ p ∈ pts a b c d, P p := by
  intro p hp
  simp only [pts, List.mem_cons, List.not_mem_nil, or_false] at hp
  rcases hp with rfl | rfl | rfl | rfl | rfl | rfl | rfl | rfl | rfl <;> assumption
/-- what the program finds of four ends -/
def hull4 (f : Rat → Rat → Rat) (a b c d : Rat) : Rat × Rat := hullF (f a c) [f a d, f b c, f b d]
theorem hull4_in {f : Rat → Rat → Rat} : (∀ y ∈ [f a c, f a d, f b c, f b d], (hull4 f a b c d).1 ≤ y ∧ y ≤ (hull4 f a b c d).2) ∧ (∃ p ∈ pts a b c d, f p.1 p.2 = (hull4 f a b c d).1) ∧ ∃ p ∈ pts a b c d, f p.1 p.2 = (hull4 f a b c d).2 := by
  obtain ⟨h1, h2⟩ := lo_fold [f a d, f b c, f b d] (f a c)
  obtain ⟨h3, h4⟩ := hi_fold [f a d, f b c, f b d] (f a c)
  refine ⟨fun y hy => ⟨h1 y hy, h3 y hy⟩, ?_, ?_⟩
  · simp only [List.mem_cons, List.not_mem_nil, or_false] at h2
    rcases h2 with e | e | e | e
    · exact ⟨_, m_ac, e.symm⟩
    · exact ⟨_, m_ad, e.symm⟩
    · exact ⟨_, m_bc, e.symm⟩
    · exact ⟨_, m_bd, e.symm⟩
  · simp only [List.mem_cons, List.not_mem_nil, or_false] at h4
    rcases h4 with e | e | e | e
    · exact ⟨_, m_ac, e.symm⟩
    · exact ⟨_, m_ad, e.symm⟩
    · exact ⟨_, m_bc, e.symm⟩
    · exact ⟨_, m_bd, e.symm⟩
/-- what a step's span is: all values in it, the ends among them -/
def IsHull (f : Rat → Rat → Rat) (a b c d l h : Rat) : Prop := (∀ p ∈ pts a b c d, l ≤ f p.1 p.2 ∧ f p.1 p.2 ≤ h) ∧ (∃ p ∈ pts a b c d, f p.1 p.2 = l) ∧ ∃ p ∈ pts a b c d, f p.1 p.2 = h
theorem is_add (h1 : a ≤ b) (h2 : c ≤ d) : IsHull (· + ·) a b c d (a + c) (b + d) :=
  ⟨fun p hp => by have := pts_in h1 h2 p hp; grind, ⟨_, m_ac, rfl⟩, ⟨_, m_bd, rfl⟩⟩
theorem is_less (h1 : a ≤ b) (h2 : c ≤ d) : IsHull (· - ·) a b c d (a - d) (b - c) :=
  ⟨fun p hp => by have := pts_in h1 h2 p hp; grind, ⟨_, m_ad, rfl⟩, ⟨_, m_bc, rfl⟩⟩
theorem is_least (h1 : a ≤ b) (h2 : c ≤ d) : IsHull lo2 a b c d (lo2 a c) (lo2 b d) :=
  ⟨fun p hp => by have := pts_in h1 h2 p hp; unfold lo2; grind, ⟨_, m_ac, rfl⟩, ⟨_, m_bd, rfl⟩⟩
theorem is_most (h1 : a ≤ b) (h2 : c ≤ d) : IsHull hi2 a b c d (hi2 a c) (hi2 b d) :=
  ⟨fun p hp => by have := pts_in h1 h2 p hp; unfold hi2; grind, ⟨_, m_ac, rfl⟩, ⟨_, m_bd, rfl⟩⟩
theorem is_times : IsHull (· * ·) a b c d (hull4 (· * ·) a b c d).1 (hull4 (· * ·) a b c d).2 := by
  obtain ⟨h1, h2, h3⟩ := hull4_in (f := (· * ·)) (a := a) (b := b) (c := c) (d := d)
  refine ⟨?_, h2, h3⟩
  have e1 := h1 (a * c) (by simp)
  have e2 := h1 (a * d) (by simp)
  have e3 := h1 (b * c) (by simp)
  have e4 := h1 (b * d) (by simp)
  generalize (hull4 (· * ·) a b c d).1 = l at *
  generalize (hull4 (· * ·) a b c d).2 = h at *
  refine pts_all ?_ ?_ ?_ ?_ ?_ ?_ ?_ ?_ ?_ <;> simp only [mid] <;> grind
theorem is_over (hcd : c ≤ d) (hz : 0 < c ∨ d < 0) : IsHull (· / ·) a b c d (hull4 (· / ·) a b c d).1 (hull4 (· / ·) a b c d).2 := by
  obtain ⟨h1, h2, h3⟩ := hull4_in (f := (· / ·)) (a := a) (b := b) (c := c) (d := d)
  refine ⟨?_, h2, h3⟩
  have e1 := h1 (a / c) (by simp)
  have e2 := h1 (a / d) (by simp)
  have e3 := h1 (b / c) (by simp)
  have e4 := h1 (b / d) (by simp)
  have hm := mid_ge hcd
  have i1 := inv_le hm.1 (by grind)
  have i2 := inv_le hm.2 (by grind)
  generalize (hull4 (· / ·) a b c d).1 = l at *
  generalize (hull4 (· / ·) a b c d).2 = h at *
  simp only [Rat.div_def] at *
  have m1 := mul_betw i2 i1 e2.1 e1.1 e2.2 e1.2
  have m2 := mul_betw i2 i1 e4.1 e3.1 e4.2 e3.2
  clear h1 h2 h3 i1 i2 hm hz
  refine pts_all e1 e2 m1 e3 e4 m2 ?_ ?_ ?_
  all_goals
    simp only []
    rw [show mid a b = (a + b) * (1 / 2) from rfl]
    generalize (mid c d)⁻¹ = t at *
    generalize c⁻¹ = c' at *
    generalize d⁻¹ = d' at *
    grind
/-- sure comparisons -/
theorem all_lt (h1 : a ≤ b) (h2 : c ≤ d) : (∀ p ∈ pts a b c d, p.1 < p.2) ↔ b < c :=
  ⟨fun h => h _ m_bc, fun h p hp => by have := pts_in h1 h2 p hp; grind⟩
theorem all_le (h1 : a ≤ b) (h2 : c ≤ d) : (∀ p ∈ pts a b c d, p.1 ≤ p.2) ↔ b ≤ c :=
  ⟨fun h => h _ m_bc, fun h p hp => by have := pts_in h1 h2 p hp; grind⟩
theorem no_lt (h1 : a ≤ b) (h2 : c ≤ d) : (∀ p ∈ pts a b c d, ¬ p.1 < p.2) ↔ d ≤ a :=
  ⟨fun h => by have := h _ m_ad; grind, fun h p hp => by have := pts_in h1 h2 p hp; grind⟩
theorem no_le (h1 : a ≤ b) (h2 : c ≤ d) : (∀ p ∈ pts a b c d, ¬ p.1 ≤ p.2) ↔ d < a :=
  ⟨fun h => by have := h _ m_ad; grind, fun h p hp => by have := pts_in h1 h2 p hp; grind⟩
/-- sizes -/
theorem abs_eq (a : Rat) : a.abs = if a < 0 then -a else a := by unfold Rat.abs; grind
theorem size_none (h : a ≤ b) (hz : 0 < a ∨ b < 0) : hullF a.abs [a.abs, b.abs] = hullF a.abs [b.abs] := hull_self
theorem size_zero (h1 : a ≤ 0) (h2 : 0 ≤ b) : hullF a.abs [a.abs, b.abs, 0] = (0, hi2 a.abs b.abs) := by
  rw [hull_self]
  have e1 := abs_eq a
  have e2 := abs_eq b
  unfold hullF
  simp only [List.foldl_cons, List.foldl_nil]
  refine Prod.ext ?_ ?_
  · show lo2 (lo2 a.abs b.abs) 0 = 0
    unfold lo2; grind
  · show hi2 (hi2 a.abs b.abs) 0 = hi2 a.abs b.abs
    unfold hi2; grind
end
section
open PySem L2
variable {n m : Nat} {p q a b : Rat}
theorem Sm.lo (h : Sm n p) (g : Sm n q) : Sm n (lo2 p q) := by unfold lo2; split <;> assumption
theorem Sm.hi (h : Sm n p) (g : Sm n q) : Sm n (hi2 p q) := by unfold hi2; split <;> assumption
theorem fr_half : fr (1 / 2) = .tup [.int 1, .int 2] := by
  have h1 : (1 / 2 : Rat).num = 1 := by decide +kernel
  have h2 : (1 / 2 : Rat).den = 2 := by decide +kernel
  unfold fr
  rw [h1, h2]
  rfl
theorem sm_half : Sm 2 (1 / 2) := by
  have h1 : (1 / 2 : Rat).num = 1 := by decide +kernel
  have h2 : (1 / 2 : Rat).den = 2 := by decide +kernel
  unfold Sm
  rw [h1, h2]
  decide
theorem Sm.mid (ha : Sm n a) (hb : Sm n b) : Sm (n + n + 3) (mid a b) := ((ha.add hb).mul sm_half).mono (by omega)
theorem Sm.sub (h : Sm n p) (g : Sm m q) : Sm (n + m + 1) (p - q) := by
  rw [Rat.sub_eq_add_neg]
  exact h.add g.neg
end
end Rw

/-! the text by slots of roundedwithin_k08_spans, written by gen.py -/
namespace Rw.Pk08
open PySem L2 Rw
def f_is_number : Fn := ⟨1, 1, (.cons (.ret (.and (.isI 4 3 "int" (.var 0)) (.one (.not (.isI 4 1 "bool" (.var 0)))))) .nil)⟩
def f_is_from : Fn := ⟨2, 2, (.cons (.ret (.and (.call 12 (.cons (.var 0) .nil)) (.one (.cmp .GtE (.var 0) (.var 1))))) .nil)⟩
def f_is_tuple_of : Fn := ⟨2, 2, (.cons (.ret (.and (.isI 4 10 "tuple" (.var 0)) (.one (.cmp .Eq (.bi .len 5 (.cons (.var 0) .nil)) (.var 1))))) .nil)⟩
def c_common_0 : ME := (.cmp .Gt (.var 1) (.int 0))
def b_common_0 : MSs := (.cons (.par2 0 1 (.var 1) (.bin .Mod (.var 0) (.var 1))) .nil)
def f_common : Fn := ⟨2, 2, (.cons (.par2 0 1 (.bi .abs 0 (.cons (.var 0) .nil)) (.bi .abs 0 (.cons (.var 1) .nil))) (.cons (.whl c_common_0 b_common_0) (.cons (.ret (.var 0)) .nil)))⟩
def f_fraction : Fn := ⟨2, 3, (.cons (.asg (.name 2) (.ifE (.cmp .Gt (.var 1) (.int 0)) (.call 15 (.cons (.var 0) (.cons (.var 1) .nil))) (.neg (.call 15 (.cons (.var 0) (.cons (.var 1) .nil)))))) (.cons (.ret (.tup (.cons (.bin .FloorDiv (.var 0) (.var 2)) (.cons (.bin .FloorDiv (.var 1) (.var 2)) .nil)))) .nil))⟩
def f_is_fraction : Fn := ⟨1, 1, (.cons (.ifS (.or (.not (.call 14 (.cons (.var 0) (.cons (.int 2) .nil)))) (.or (.not (.call 12 (.cons (.idx (.var 0) (.int 0)) .nil))) (.one (.not (.call 13 (.cons (.idx (.var 0) (.int 1)) (.cons (.int 1) .nil))))))) (.cons (.ret (.bl false)) .nil) .nil) (.cons (.ret (.cmp .Eq (.call 15 (.cons (.idx (.var 0) (.int 0)) (.cons (.idx (.var 0) (.int 1)) .nil))) (.int 1))) .nil))⟩
def f_added : Fn := ⟨2, 2, (.cons (.ret (.call 16 (.cons (.bin .Add (.bin .Mult (.idx (.var 0) (.int 0)) (.idx (.var 1) (.int 1))) (.bin .Mult (.idx (.var 1) (.int 0)) (.idx (.var 0) (.int 1)))) (.cons (.bin .Mult (.idx (.var 0) (.int 1)) (.idx (.var 1) (.int 1))) .nil)))) .nil)⟩
def f_negated : Fn := ⟨1, 1, (.cons (.ret (.tup (.cons (.neg (.idx (.var 0) (.int 0))) (.cons (.idx (.var 0) (.int 1)) .nil)))) .nil)⟩
def f_taken : Fn := ⟨2, 2, (.cons (.ret (.call 18 (.cons (.var 0) (.cons (.call 19 (.cons (.var 1) .nil)) .nil)))) .nil)⟩
def f_times : Fn := ⟨2, 2, (.cons (.ret (.call 16 (.cons (.bin .Mult (.idx (.var 0) (.int 0)) (.idx (.var 1) (.int 0))) (.cons (.bin .Mult (.idx (.var 0) (.int 1)) (.idx (.var 1) (.int 1))) .nil)))) .nil)⟩
def f_quotient : Fn := ⟨2, 2, (.cons (.ret (.call 16 (.cons (.bin .Mult (.idx (.var 0) (.int 0)) (.idx (.var 1) (.int 1))) (.cons (.bin .Mult (.idx (.var 0) (.int 1)) (.idx (.var 1) (.int 0))) .nil)))) .nil)⟩
def f_size : Fn := ⟨1, 1, (.cons (.ret (.tup (.cons (.bi .abs 0 (.cons (.idx (.var 0) (.int 0)) .nil)) (.cons (.idx (.var 0) (.int 1)) .nil)))) .nil)⟩
def f_is_less : Fn := ⟨2, 2, (.cons (.ret (.cmp .Lt (.bin .Mult (.idx (.var 0) (.int 0)) (.idx (.var 1) (.int 1))) (.bin .Mult (.idx (.var 1) (.int 0)) (.idx (.var 0) (.int 1))))) .nil)⟩
def f_is_most : Fn := ⟨2, 2, (.cons (.ret (.cmp .LtE (.bin .Mult (.idx (.var 0) (.int 0)) (.idx (.var 1) (.int 1))) (.bin .Mult (.idx (.var 1) (.int 0)) (.idx (.var 0) (.int 1))))) .nil)⟩
def f_lesser : Fn := ⟨2, 2, (.cons (.ret (.ifE (.call 24 (.cons (.var 1) (.cons (.var 0) .nil))) (.var 1) (.var 0))) .nil)⟩
def f_greater : Fn := ⟨2, 2, (.cons (.ret (.ifE (.call 24 (.cons (.var 0) (.cons (.var 1) .nil))) (.var 1) (.var 0))) .nil)⟩
def f_is_span : Fn := ⟨1, 1, (.cons (.ret (.and (.call 14 (.cons (.var 0) (.cons (.int 2) .nil))) (.and (.call 17 (.cons (.idx (.var 0) (.int 0)) .nil)) (.and (.call 17 (.cons (.idx (.var 0) (.int 1)) .nil)) (.one (.call 25 (.cons (.idx (.var 0) (.int 0)) (.cons (.idx (.var 0) (.int 1)) .nil)))))))) .nil)⟩
def f_is_in : Fn := ⟨2, 2, (.cons (.ret (.and (.call 25 (.cons (.idx (.var 0) (.int 0)) (.cons (.var 1) .nil))) (.one (.call 25 (.cons (.var 1) (.cons (.idx (.var 0) (.int 1)) .nil)))))) .nil)⟩
def f_is_inside : Fn := ⟨2, 2, (.cons (.ret (.and (.call 25 (.cons (.idx (.var 1) (.int 0)) (.cons (.idx (.var 0) (.int 0)) .nil))) (.one (.call 25 (.cons (.idx (.var 0) (.int 1)) (.cons (.idx (.var 1) (.int 1)) .nil)))))) .nil)⟩
def f_hull : Fn := ⟨2, 2, (.cons (.ret (.tup (.cons (.call 26 (.cons (.idx (.var 0) (.int 0)) (.cons (.idx (.var 1) (.int 0)) .nil))) (.cons (.call 27 (.cons (.idx (.var 0) (.int 1)) (.cons (.idx (.var 1) (.int 1)) .nil))) .nil)))) .nil)⟩
def b_hull_of_0 : MSs := (.cons (.asg (.name 1) (.tup (.cons (.call 26 (.cons (.idx (.var 1) (.int 0)) (.cons (.var 2) .nil))) (.cons (.call 27 (.cons (.idx (.var 1) (.int 1)) (.cons (.var 2) .nil))) .nil)))) .nil)
def f_hull_of : Fn := ⟨1, 3, (.cons (.asg (.name 1) (.tup (.cons (.idx (.var 0) (.int 0)) (.cons (.idx (.var 0) (.int 0)) .nil)))) (.cons (.forS (.name 2) (.seq (.sl (.var 0) (.some (.int 1)) .none)) b_hull_of_0) (.cons (.ret (.var 1)) .nil)))⟩
def f_point : Fn := ⟨1, 1, (.cons (.ret (.tup (.cons (.var 0) (.cons (.var 0) .nil)))) .nil)⟩
def f_added_spans : Fn := ⟨2, 2, (.cons (.ret (.tup (.cons (.call 18 (.cons (.idx (.var 0) (.int 0)) (.cons (.idx (.var 1) (.int 0)) .nil))) (.cons (.call 18 (.cons (.idx (.var 0) (.int 1)) (.cons (.idx (.var 1) (.int 1)) .nil))) .nil)))) .nil)⟩
def f_negated_span : Fn := ⟨1, 1, (.cons (.ret (.tup (.cons (.call 19 (.cons (.idx (.var 0) (.int 1)) .nil)) (.cons (.call 19 (.cons (.idx (.var 0) (.int 0)) .nil)) .nil)))) .nil)⟩
def f_taken_spans : Fn := ⟨2, 2, (.cons (.ret (.call 34 (.cons (.var 0) (.cons (.call 35 (.cons (.var 1) .nil)) .nil)))) .nil)⟩
def e_times_spans_0 : ME := (.call 21 (.cons (.var 2) (.cons (.var 3) .nil)))
def f_times_spans : Fn := ⟨2, 4, (.cons (.ret (.call 32 (.cons (.lc2 false [2, 3] e_times_spans_0 (.name 2) (.seq (.var 0)) .none [3] (.name 3) (.seq (.var 1)) .none) .nil))) .nil)⟩
def f_has_nothing : Fn := ⟨1, 1, (.cons (.ret (.ch .LtE .LtE (.idx (.idx (.var 0) (.int 0)) (.int 0)) (.int 0) (.idx (.idx (.var 0) (.int 1)) (.int 0)))) .nil)⟩
def e_over_spans_0 : ME := (.call 22 (.cons (.var 2) (.cons (.var 3) .nil)))
def f_over_spans : Fn := ⟨2, 4, (.cons (.ifS (.call 38 (.cons (.var 1) .nil)) (.cons (.ret .non) .nil) .nil) (.cons (.ret (.call 32 (.cons (.lc2 false [2, 3] e_over_spans_0 (.name 2) (.seq (.var 0)) .none [3] (.name 3) (.seq (.var 1)) .none) .nil))) .nil))⟩
def f_size_span : Fn := ⟨1, 1, (.cons (.ifS (.call 38 (.cons (.var 0) .nil)) (.cons (.ret (.tup (.cons (.con 11) (.cons (.call 41 (.cons (.var 0) .nil)) .nil)))) .nil) .nil) (.cons (.ret (.call 32 (.cons (.lst (.cons (.call 23 (.cons (.idx (.var 0) (.int 0)) .nil)) (.cons (.call 23 (.cons (.idx (.var 0) (.int 1)) .nil)) .nil))) .nil))) .nil))⟩
def f_most_size : Fn := ⟨1, 1, (.cons (.ret (.call 27 (.cons (.call 23 (.cons (.idx (.var 0) (.int 0)) .nil)) (.cons (.call 23 (.cons (.idx (.var 0) (.int 1)) .nil)) .nil)))) .nil)⟩
def f_least_size : Fn := ⟨1, 1, (.cons (.ret (.idx (.call 40 (.cons (.var 0) .nil)) (.int 0))) .nil)⟩
def f_widened_by : Fn := ⟨2, 2, (.cons (.ret (.tup (.cons (.call 20 (.cons (.idx (.var 0) (.int 0)) (.cons (.var 1) .nil))) (.cons (.call 18 (.cons (.idx (.var 0) (.int 1)) (.cons (.var 1) .nil))) .nil)))) .nil)⟩
def f_least_span : Fn := ⟨2, 2, (.cons (.ret (.tup (.cons (.call 26 (.cons (.idx (.var 0) (.int 0)) (.cons (.idx (.var 1) (.int 0)) .nil))) (.cons (.call 26 (.cons (.idx (.var 0) (.int 1)) (.cons (.idx (.var 1) (.int 1)) .nil))) .nil)))) .nil)⟩
def f_most_span : Fn := ⟨2, 2, (.cons (.ret (.tup (.cons (.call 27 (.cons (.idx (.var 0) (.int 0)) (.cons (.idx (.var 1) (.int 0)) .nil))) (.cons (.call 27 (.cons (.idx (.var 0) (.int 1)) (.cons (.idx (.var 1) (.int 1)) .nil))) .nil)))) .nil)⟩
def f_width_of : Fn := ⟨1, 1, (.cons (.ret (.call 20 (.cons (.idx (.var 0) (.int 1)) (.cons (.idx (.var 0) (.int 0)) .nil)))) .nil)⟩
def f_middle_of : Fn := ⟨1, 1, (.cons (.ret (.call 21 (.cons (.call 18 (.cons (.idx (.var 0) (.int 0)) (.cons (.idx (.var 0) (.int 1)) .nil))) (.cons (.tup (.cons (.int 1) (.cons (.int 2) .nil))) .nil)))) .nil)⟩
def f_halves : Fn := ⟨1, 1, (.cons (.ret (.tup (.cons (.tup (.cons (.idx (.var 0) (.int 0)) (.cons (.call 47 (.cons (.var 0) .nil)) .nil))) (.cons (.tup (.cons (.call 47 (.cons (.var 0) .nil)) (.cons (.idx (.var 0) (.int 1)) .nil))) .nil)))) .nil)⟩
def f_is_surely : Fn := ⟨3, 3, (.cons (.ifS (.or (.call 24 (.cons (.idx (.var 1) (.int 1)) (.cons (.idx (.var 2) (.int 0)) .nil))) (.one (.and (.cmp .Eq (.var 0) (.str "<=")) (.one (.call 25 (.cons (.idx (.var 1) (.int 1)) (.cons (.idx (.var 2) (.int 0)) .nil))))))) (.cons (.ret (.bl true)) .nil) .nil) (.cons (.ifS (.or (.call 24 (.cons (.idx (.var 2) (.int 1)) (.cons (.idx (.var 1) (.int 0)) .nil))) (.one (.and (.cmp .Eq (.var 0) (.str "<")) (.one (.call 25 (.cons (.idx (.var 2) (.int 1)) (.cons (.idx (.var 1) (.int 0)) .nil))))))) (.cons (.ret (.bl false)) .nil) .nil) (.cons (.ret .non) .nil)))⟩
def s_span_of_step_0_0 : MS := (.ifS (.cmp .In .non (.var 1)) (.cons (.ret .non) .nil) .nil) -- if None in rows:
def s_span_of_step_0_1 : MS := (.ifS (.cmp .Eq (.var 0) (.str "negate")) (.cons (.ret (.call 35 (.cons (.idx (.var 1) (.int 0)) .nil))) .nil) .nil) -- if kind == 'negate':
def s_span_of_step_0_2 : MS := (.ifS (.cmp .Eq (.var 0) (.str "size")) (.cons (.ret (.call 40 (.cons (.idx (.var 1) (.int 0)) .nil))) .nil) .nil) -- if kind == 'size':
def s_span_of_step_0_3 : MS := (.ifS (.cmp .Eq (.var 0) (.str "joined")) (.cons (.ret (.call 34 (.cons (.call 37 (.cons (.idx (.var 1) (.int 0)) (.cons (.idx (.var 1) (.int 1)) .nil))) (.cons (.idx (.var 1) (.int 2)) .nil)))) .nil) .nil) -- if kind == 'joined':
def s_span_of_step_0_4 : MS := (.asg (.tup (.cons (.name 2) (.cons (.name 3) .nil))) (.var 1)) -- one, other = rows
def s_span_of_step_0_5 : MS := (.ifS (.cmp .Eq (.var 0) (.str "add")) (.cons (.ret (.call 34 (.cons (.var 2) (.cons (.var 3) .nil)))) .nil) .nil) -- if kind == 'add':
def s_span_of_step_0_6 : MS := (.ifS (.cmp .Eq (.var 0) (.str "less")) (.cons (.ret (.call 36 (.cons (.var 2) (.cons (.var 3) .nil)))) .nil) .nil) -- if kind == 'less':
def s_span_of_step_0_7 : MS := (.ifS (.cmp .Eq (.var 0) (.str "times")) (.cons (.ret (.call 37 (.cons (.var 2) (.cons (.var 3) .nil)))) .nil) .nil) -- if kind == 'times':
def s_span_of_step_0_8 : MS := (.ifS (.cmp .Eq (.var 0) (.str "over")) (.cons (.ret (.call 39 (.cons (.var 2) (.cons (.var 3) .nil)))) .nil) .nil) -- if kind == 'over':
def s_span_of_step_0_9 : MS := (.ret (.ifE (.cmp .Eq (.var 0) (.str "least")) (.call 44 (.cons (.var 2) (.cons (.var 3) .nil))) (.call 45 (.cons (.var 2) (.cons (.var 3) .nil))))) -- return least_span(one, other) if kind == 'least' else most_span(one, other)
def f_span_of_step : Fn := ⟨2, 4, (.cons s_span_of_step_0_0 (.cons s_span_of_step_0_1 (.cons s_span_of_step_0_2 (.cons s_span_of_step_0_3 (.cons s_span_of_step_0_4 (.cons s_span_of_step_0_5 (.cons s_span_of_step_0_6 (.cons s_span_of_step_0_7 (.cons s_span_of_step_0_8 (.cons s_span_of_step_0_9 .nil))))))))))⟩
def b__law_draws_1 : MSs := (.cons (.ifS (.cmp .Gt (.var 6) (.int 0)) (.cons (.ex (.meth .append (.var 2) (.cons (.bin .Mod (.bi .int 3 (.cons (.var 6) .nil)) (.int 997)) .nil))) (.cons (.asg (.name 6) (.bin .FloorDiv (.var 6) (.int 997))) .nil)) .nil) .nil)
def b__law_draws_0 : MSs := (.cons (.asg (.name 5) (.bi .abs 0 (.cons (.bi .int 3 (.cons (.idx (.var 0) (.var 4)) .nil)) .nil))) (.cons (.asg (.name 3) (.bin .Mod (.bi .int 3 (.cons (.bin .Add (.bin .Add (.bin .Mult (.var 3) (.int 48271)) (.bin .Mod (.var 5) (.int 1000003))) (.var 4)) .nil)) (.int 65537))) (.cons (.asg (.name 6) (.int 0)) (.cons (.ifS (.cmp .GtE (.var 5) (.bin .Pow (.int 10) (.int 18))) (.cons (.asg (.name 6) (.var 5)) .nil) (.cons (.ex (.meth .append (.var 2) (.cons (.bin .Mod (.bi .int 3 (.cons (.var 5) .nil)) (.int 997)) .nil))) (.cons (.ex (.meth .append (.var 2) (.cons (.bin .Mod (.bin .Mod (.bi .int 3 (.cons (.bin .Add (.bin .Mult (.var 3) (.int 69621)) (.int 5)) .nil)) (.int 65521)) (.int 997)) .nil))) .nil))) (.cons (.forS (.name 7) (.rng 8 (.cons (.int 60) .nil)) b__law_draws_1) .nil)))))
def b__law_draws_2 : MSs := (.cons (.asg (.name 3) (.bin .Mod (.bi .int 3 (.cons (.bin .Add (.bin .Add (.bin .Mult (.var 3) (.int 16807)) (.var 4)) (.int 1)) .nil)) (.int 65537))) (.cons (.ex (.meth .append (.var 2) (.cons (.bin .Mod (.bi .int 3 (.cons (.var 3) .nil)) (.int 997)) .nil))) .nil))
def f__law_draws : Fn := ⟨2, 8, (.cons (.asg (.name 2) (.mlst .nil)) (.cons (.asg (.name 3) (.int 7)) (.cons (.forS (.name 4) (.rng 8 (.cons (.bi .len 5 (.cons (.var 0) .nil)) .nil)) b__law_draws_0) (.cons (.forS (.name 4) (.rng 8 (.cons (.var 1) .nil)) b__law_draws_2) (.cons (.ret (.sl (.var 2) .none (.some (.var 1)))) .nil)))))⟩
def f__law_next : Fn := ⟨2, 2, (.cons (.augI (.var 0) (.str "at") .Add (.int 1)) (.cons (.ifS (.cmp .Gt (.idx (.var 0) (.str "at")) (.bi .len 5 (.cons (.idx (.var 0) (.str "draws")) .nil))) (.cons (.ret (.int 0)) .nil) .nil) (.cons (.ret (.bin .Mod (.bi .int 3 (.cons (.idx (.idx (.var 0) (.str "draws")) (.bin .Sub (.idx (.var 0) (.str "at")) (.int 1))) .nil)) (.var 1))) .nil)))⟩
def e__law_same_1 : ME := (.var 6)
def k__law_same_1 : MO := (.some (.cmp .NotIn (.var 6) (.var 3)))
def e__law_same_2 : ME := (.tup (.cons (.idx (.var 3) (.var 6)) (.cons (.idx (.var 4) (.var 6)) .nil)))
def e__law_same_3 : ME := (.tup (.cons (.idx (.var 5) (.var 6)) (.cons (.var 6) .nil)))
def e__law_same_4 : ME := (.tup (.cons (.idx (.var 3) (.var 7)) (.cons (.idx (.var 4) (.var 7)) .nil)))
def c__law_same_0 : ME := (.cmp .NotEq (.var 2) (.lst .nil))
def b__law_same_0 : MSs := (.cons (.asg (.tup (.cons (.name 3) (.cons (.name 4) .nil))) (.meth .pop (.var 2) .nil)) (.cons (.ifS (.isI 4 2 "dict" (.var 4)) (.cons (.ifS (.or (.not (.isI 4 2 "dict" (.var 3))) (.or (.cmp .NotEq (.bi .len 5 (.cons (.var 3) .nil)) (.bi .len 5 (.cons (.var 4) .nil))) (.one (.cmp .NotEq (.lc false [6] e__law_same_1 (.name 6) (.seq (.var 4)) k__law_same_1) (.lst .nil))))) (.cons (.ret (.bl false)) .nil) .nil) (.cons .nev (.cons (.ex (.meth .extend (.var 2) (.cons (.bin .Add (.lc false [6] e__law_same_2 (.name 6) (.seq (.var 4)) .none) (.lc false [6] e__law_same_3 (.name 6) (.seq (.var 4)) .none)) .nil))) .nil))) (.cons (.ifS (.or (.isI 4 10 "tuple" (.var 4)) (.one (.isI 4 6 "list" (.var 4)))) (.cons (.ifS (.or (.cmp .NotEq (.isI 4 10 "tuple" (.var 3)) (.isI 4 10 "tuple" (.var 4))) (.or (.cmp .NotEq (.isI 4 6 "list" (.var 3)) (.isI 4 6 "list" (.var 4))) (.one (.cmp .NotEq (.bi .len 5 (.cons (.var 3) .nil)) (.bi .len 5 (.cons (.var 4) .nil)))))) (.cons (.ret (.bl false)) .nil) .nil) (.cons (.ex (.meth .extend (.var 2) (.cons (.lc false [7] e__law_same_4 (.name 7) (.rng 8 (.cons (.bi .len 5 (.cons (.var 4) .nil)) .nil)) .none) .nil))) .nil)) (.cons (.ifS (.or (.cmp .NotEq (.isI 4 1 "bool" (.var 3)) (.isI 4 1 "bool" (.var 4))) (.or (.cmp .NotEq (.isI 4 3 "int" (.var 3)) (.isI 4 3 "int" (.var 4))) (.or (.cmp .NotEq (.isI 4 9 "str" (.var 3)) (.isI 4 9 "str" (.var 4))) (.one (.cmp .NotEq (.var 3) (.var 4)))))) (.cons (.ret (.bl false)) .nil) .nil) .nil)) .nil)) .nil))
def f__law_same : Fn := ⟨2, 8, (.cons (.asg (.name 2) (.mlst (.cons (.tup (.cons (.var 0) (.cons (.var 1) .nil))) .nil))) (.cons (.whl c__law_same_0 b__law_same_0) (.cons (.ret (.bl true)) .nil)))⟩
def c__law_least_0 : ME := (.cmp .Gt (.var 3) (.int 0))
def b__law_least_0 : MSs := (.cons (.par2 2 3 (.var 3) (.bin .Mod (.bi .int 3 (.cons (.var 2) .nil)) (.var 3))) .nil)
def f__law_least : Fn := ⟨2, 4, (.cons (.par2 2 3 (.bi .abs 0 (.cons (.var 0) .nil)) (.bi .abs 0 (.cons (.var 1) .nil))) (.cons (.whl c__law_least_0 b__law_least_0) (.cons (.asg (.name 2) (.ifE (.cmp .Gt (.var 1) (.int 0)) (.var 2) (.bin .Sub (.int 0) (.var 2)))) (.cons (.ret (.tup (.cons (.bin .FloorDiv (.var 0) (.var 2)) (.cons (.bin .FloorDiv (.var 1) (.var 2)) .nil)))) .nil))))⟩
def b__law_sum_0 : MSs := (.cons (.asg (.tup (.cons (.name 1) (.cons (.name 2) .nil))) (.call 54 (.cons (.bin .Add (.bin .Mult (.var 1) (.var 4)) (.bin .Mult (.var 3) (.var 2))) (.cons (.bin .Mult (.var 2) (.var 4)) .nil)))) .nil)
def f__law_sum : Fn := ⟨1, 5, (.cons (.asg (.tup (.cons (.name 1) (.cons (.name 2) .nil))) (.tup (.cons (.int 0) (.cons (.int 1) .nil)))) (.cons (.forS (.tup (.cons (.name 3) (.cons (.name 4) .nil))) (.seq (.var 0)) b__law_sum_0) (.cons (.ret (.tup (.cons (.var 1) (.cons (.var 2) .nil)))) .nil)))⟩
def f__law_less : Fn := ⟨2, 2, (.cons (.ret (.cmp .Lt (.bin .Mult (.idx (.var 0) (.int 0)) (.idx (.var 1) (.int 1))) (.bin .Mult (.idx (.var 1) (.int 0)) (.idx (.var 0) (.int 1))))) .nil)⟩
def f__law_span : Fn := ⟨1, 2, (.cons (.asg (.name 1) (.call 54 (.cons (.bin .Sub (.call 52 (.cons (.var 0) (.cons (.int 17) .nil))) (.int 8)) (.cons (.bin .Add (.int 1) (.call 52 (.cons (.var 0) (.cons (.int 3) .nil)))) .nil)))) (.cons (.ret (.tup (.cons (.var 1) (.cons (.call 55 (.cons (.lst (.cons (.var 1) (.cons (.call 54 (.cons (.call 52 (.cons (.var 0) (.cons (.int 9) .nil))) (.cons (.bin .Add (.int 1) (.call 52 (.cons (.var 0) (.cons (.int 2) .nil)))) .nil))) .nil))) .nil)) .nil)))) .nil))⟩
def b__law_hull_0 : MSs := (.cons (.par2 1 2 (.ifE (.call 56 (.cons (.var 3) (.cons (.var 1) .nil))) (.var 3) (.var 1)) (.ifE (.call 56 (.cons (.var 2) (.cons (.var 3) .nil))) (.var 3) (.var 2))) .nil)
def f__law_hull : Fn := ⟨1, 4, (.cons (.par2 1 2 (.idx (.var 0) (.int 0)) (.idx (.var 0) (.int 0))) (.cons (.forS (.name 3) (.seq (.var 0)) b__law_hull_0) (.cons (.ret (.tup (.cons (.var 1) (.cons (.var 2) .nil)))) .nil)))⟩
def f__law_exact : Fn := ⟨3, 4, (.cons (.ifS (.cmp .In (.var 0) (.tup (.cons (.str "add") (.cons (.str "less") .nil)))) (.cons (.ret (.call 55 (.cons (.lst (.cons (.var 1) (.cons (.ifE (.cmp .Eq (.var 0) (.str "add")) (.var 2) (.tup (.cons (.bin .Sub (.int 0) (.idx (.var 2) (.int 0))) (.cons (.idx (.var 2) (.int 1)) .nil)))) .nil))) .nil))) .nil) .nil) (.cons (.ifS (.cmp .Eq (.var 0) (.str "times")) (.cons (.ret (.call 54 (.cons (.bin .Mult (.idx (.var 1) (.int 0)) (.idx (.var 2) (.int 0))) (.cons (.bin .Mult (.idx (.var 1) (.int 1)) (.idx (.var 2) (.int 1))) .nil)))) .nil) .nil) (.cons (.ifS (.cmp .Eq (.var 0) (.str "over")) (.cons (.asg (.name 3) (.ifE (.cmp .Gt (.idx (.var 2) (.int 0)) (.int 0)) (.int 1) (.neg (.int 1)))) (.cons (.ret (.call 54 (.cons (.bin .Mult (.bin .Mult (.var 3) (.idx (.var 1) (.int 0))) (.idx (.var 2) (.int 1))) (.cons (.bin .Mult (.bin .Mult (.var 3) (.idx (.var 1) (.int 1))) (.idx (.var 2) (.int 0))) .nil)))) .nil)) .nil) (.cons (.ret (.ifE (.cmp .Eq (.call 56 (.cons (.var 1) (.cons (.var 2) .nil))) (.cmp .Eq (.var 0) (.str "least"))) (.var 1) (.var 2))) .nil))))⟩
def s_law_1_0 : MS := (.par2 3 4 (.call 57 (.cons (.var 1) .nil)) (.call 57 (.cons (.var 1) .nil))) -- one, other = (_law_span(w), _law_span(w))
def b_law_2 : MSs := (.cons (.ifS (.not (.call 53 (.cons (.call 28 (.cons (.var 5) .nil)) (.cons (.var 6) .nil)))) (.cons (.ret (.bl false)) .nil) .nil) .nil)
def s_law_1_1 : MS := (.forS (.tup (.cons (.name 5) (.cons (.name 6) .nil))) (.seq (.tup (.cons (.tup (.cons (.var 3) (.cons (.bl true) .nil))) (.cons (.tup (.cons (.tup (.cons (.idx (.var 3) (.int 1)) (.cons (.idx (.var 3) (.int 0)) .nil))) (.cons (.cmp .Eq (.idx (.var 3) (.int 0)) (.idx (.var 3) (.int 1))) .nil))) (.cons (.tup (.cons (.bi .list 6 (.cons (.var 3) .nil)) (.cons (.bl false) .nil))) (.cons (.tup (.cons (.tup (.cons (.idx (.var 3) (.int 0)) .nil)) (.cons (.bl false) .nil))) (.cons (.tup (.cons (.tup (.cons (.int 0) (.cons (.int 1) .nil))) (.cons (.bl false) .nil))) (.cons (.tup (.cons (.tup (.cons (.tup (.cons (.int 2) (.cons (.int 4) .nil))) (.cons (.tup (.cons (.int 3) (.cons (.int 1) .nil))) .nil))) (.cons (.bl false) .nil))) (.cons (.tup (.cons .non (.cons (.bl false) .nil))) .nil))))))))) b_law_2) -- for thing, due in ((one, True), ((one[1], one[0]), one[0] == one[1]), (list(one), False), ((one[0],), False), ((0, 1), False), (((2, 4), (3, 1)), False), (None, False)):
def s_law_1_2 : MS := (.asg (.name 7) (.lst .nil)) -- points = []
def e_law_4 : ME := (.tup (.cons (.var 8) (.cons (.var 20) .nil)))
def b_law_3 : MSs := (.cons (.asg (.name 7) (.bin .Add (.var 7) (.lc false [20] e_law_4 (.name 20) (.seq (.tup (.cons (.idx (.var 4) (.int 0)) (.cons (.idx (.var 4) (.int 1)) (.cons (.call 47 (.cons (.var 4) .nil)) .nil))))) .none))) .nil)
def s_law_1_3 : MS := (.forS (.name 8) (.seq (.tup (.cons (.idx (.var 3) (.int 0)) (.cons (.idx (.var 3) (.int 1)) (.cons (.call 47 (.cons (.var 3) .nil)) .nil))))) b_law_3) -- for a in (one[0], one[1], middle_of(one)):
def e_law_6 : ME := (.call 59 (.cons (.var 9) (.cons (.var 8) (.cons (.var 20) .nil))))
def e_law_7 : ME := (.var 21)
def k_law_7 : MO := (.some (.not (.call 29 (.cons (.var 10) (.cons (.var 21) .nil)))))
def b_law_5 : MSs := (.cons (.asg (.name 10) (.call 50 (.cons (.var 9) (.cons (.lst (.cons (.var 3) (.cons (.var 4) .nil))) .nil)))) (.cons (.ifS (.or (.and (.cmp .Eq (.var 9) (.str "add")) (.one (.not (.call 53 (.cons (.call 34 (.cons (.var 3) (.cons (.var 4) .nil))) (.cons (.var 10) .nil)))))) (.one (.and (.cmp .Eq (.var 9) (.str "less")) (.one (.not (.call 53 (.cons (.call 36 (.cons (.var 3) (.cons (.var 4) .nil))) (.cons (.var 10) .nil)))))))) (.cons (.ret (.bl false)) .nil) .nil) (.cons (.ifS (.or (.and (.cmp .Eq (.var 9) (.str "times")) (.one (.not (.call 53 (.cons (.call 37 (.cons (.var 3) (.cons (.var 4) .nil))) (.cons (.var 10) .nil)))))) (.one (.and (.cmp .Eq (.var 9) (.str "over")) (.one (.not (.call 53 (.cons (.call 39 (.cons (.var 3) (.cons (.var 4) .nil))) (.cons (.var 10) .nil)))))))) (.cons (.ret (.bl false)) .nil) .nil) (.cons (.ifS (.or (.and (.cmp .Eq (.var 9) (.str "least")) (.one (.not (.call 53 (.cons (.call 44 (.cons (.var 3) (.cons (.var 4) .nil))) (.cons (.var 10) .nil)))))) (.one (.and (.cmp .Eq (.var 9) (.str "most")) (.one (.not (.call 53 (.cons (.call 45 (.cons (.var 3) (.cons (.var 4) .nil))) (.cons (.var 10) .nil)))))))) (.cons (.ret (.bl false)) .nil) .nil) (.cons (.asg (.name 11) (.and (.not (.call 56 (.cons (.tup (.cons (.int 0) (.cons (.int 1) .nil))) (.cons (.idx (.var 4) (.int 0)) .nil)))) (.one (.not (.call 56 (.cons (.idx (.var 4) (.int 1)) (.cons (.tup (.cons (.int 0) (.cons (.int 1) .nil))) .nil))))))) (.cons (.ifS (.and (.cmp .Eq (.var 9) (.str "over")) (.one (.var 11))) (.cons (.ifS (.cmp .IsNot (.var 10) .non) (.cons (.ret (.bl false)) .nil) .nil) .nil) (.cons (.asg (.name 12) (.lc false [8, 20] e_law_6 (.tup (.cons (.name 8) (.cons (.name 20) .nil))) (.seq (.var 7)) .none)) (.cons (.ifS (.or (.not (.call 53 (.cons (.var 10) (.cons (.call 58 (.cons (.var 12) .nil)) .nil)))) (.one (.cmp .NotEq (.lc false [21] e_law_7 (.name 21) (.seq (.var 12)) k_law_7) (.lst .nil)))) (.cons (.ret (.bl false)) .nil) .nil) .nil))) .nil))))))
def s_law_1_4 : MS := (.forS (.name 9) (.seq (.tup (.cons (.str "add") (.cons (.str "less") (.cons (.str "times") (.cons (.str "over") (.cons (.str "least") (.cons (.str "most") .nil)))))))) b_law_5) -- for kind in ('add', 'less', 'times', 'over', 'least', 'most'):
def s_law_1_5 : MS := (.ifS (.or (.not (.call 53 (.cons (.call 38 (.cons (.var 4) .nil)) (.cons (.var 11) .nil)))) (.one (.not (.call 53 (.cons (.call 35 (.cons (.var 3) .nil)) (.cons (.tup (.cons (.tup (.cons (.bin .Sub (.int 0) (.idx (.idx (.var 3) (.int 1)) (.int 0))) (.cons (.idx (.idx (.var 3) (.int 1)) (.int 1)) .nil))) (.cons (.tup (.cons (.bin .Sub (.int 0) (.idx (.idx (.var 3) (.int 0)) (.int 0))) (.cons (.idx (.idx (.var 3) (.int 0)) (.int 1)) .nil))) .nil))) .nil)))))) (.cons (.ret (.bl false)) .nil) .nil) -- if not _law_same(has_nothing(other), zero) or not _law_same(negated_span(one), ((0 - one[1][0], one[1][1]), (0 - one[0][0], one[0][1]))):
def e_law_8 : ME := (.tup (.cons (.bi .max 7 (.cons (.idx (.var 21) (.int 0)) (.cons (.bin .Sub (.int 0) (.idx (.var 21) (.int 0))) .nil))) (.cons (.idx (.var 21) (.int 1)) .nil)))
def s_law_1_6 : MS := (.asg (.name 13) (.bin .Add (.lc false [21] e_law_8 (.name 21) (.seq (.var 3)) .none) (.bin .Mult (.lst (.cons (.tup (.cons (.int 0) (.cons (.int 1) .nil))) .nil)) (.bi .int 3 (.cons (.call 38 (.cons (.var 3) .nil)) .nil))))) -- sizes = [(max(own[0], 0 - own[0]), own[1]) for own in one] + [(0, 1)] * int(has_nothing(one))
def s_law_1_7 : MS := (.ifS (.or (.not (.call 53 (.cons (.call 40 (.cons (.var 3) .nil)) (.cons (.call 58 (.cons (.var 13) .nil)) .nil)))) (.or (.not (.call 53 (.cons (.call 41 (.cons (.var 3) .nil)) (.cons (.idx (.call 58 (.cons (.var 13) .nil)) (.int 1)) .nil)))) (.one (.not (.call 53 (.cons (.call 42 (.cons (.var 3) .nil)) (.cons (.idx (.call 58 (.cons (.var 13) .nil)) (.int 0)) .nil))))))) (.cons (.ret (.bl false)) .nil) .nil) -- if not _law_same(size_span(one), _law_hull(sizes)) or not _law_same(most_size(one), _law_hull(sizes)[1]) or (not _law_same(least_size(one), _law_hull(sizes)[0])):
def s_law_1_8 : MS := (.ifS (.or (.not (.call 53 (.cons (.call 50 (.cons (.str "negate") (.cons (.lst (.cons (.var 3) .nil)) .nil))) (.cons (.call 35 (.cons (.var 3) .nil)) .nil)))) (.or (.not (.call 53 (.cons (.call 50 (.cons (.str "size") (.cons (.lst (.cons (.var 3) .nil)) .nil))) (.cons (.call 40 (.cons (.var 3) .nil)) .nil)))) (.one (.cmp .IsNot (.call 50 (.cons (.str "add") (.cons (.lst (.cons (.var 3) (.cons .non .nil))) .nil))) .non)))) (.cons (.ret (.bl false)) .nil) .nil) -- if not _law_same(span_of_step('negate', [one]), negated_span(one)) or not _law_same(span_of_step('size', [one]), size_span(one)) or span_of_step('add', [one, None]) is not None:
def s_law_1_9 : MS := (.ifS (.not (.call 53 (.cons (.call 50 (.cons (.str "joined") (.cons (.lst (.cons (.var 3) (.cons (.var 4) (.cons (.var 3) .nil)))) .nil))) (.cons (.call 34 (.cons (.call 37 (.cons (.var 3) (.cons (.var 4) .nil))) (.cons (.var 3) .nil))) .nil)))) (.cons (.ret (.bl false)) .nil) .nil) -- if not _law_same(span_of_step('joined', [one, other, one]), added_spans(times_spans(one, other), one)):
def s_law_1_10 : MS := (.ifS (.not (.call 53 (.cons (.call 31 (.cons (.var 3) (.cons (.var 4) .nil))) (.cons (.call 58 (.cons (.bin .Add (.bi .list 6 (.cons (.var 3) .nil)) (.bi .list 6 (.cons (.var 4) .nil))) .nil)) .nil)))) (.cons (.ret (.bl false)) .nil) .nil) -- if not _law_same(hull(one, other), _law_hull(list(one) + list(other))):
def s_law_1_11 : MS := (.ifS (.or (.not (.call 53 (.cons (.call 32 (.cons (.lst (.cons (.idx (.var 3) (.int 1)) (.cons (.idx (.var 4) (.int 0)) (.cons (.idx (.var 3) (.int 0)) .nil)))) .nil)) (.cons (.call 58 (.cons (.lst (.cons (.idx (.var 3) (.int 1)) (.cons (.idx (.var 4) (.int 0)) (.cons (.idx (.var 3) (.int 0)) .nil)))) .nil)) .nil)))) (.one (.not (.call 53 (.cons (.call 33 (.cons (.idx (.var 3) (.int 0)) .nil)) (.cons (.tup (.cons (.idx (.var 3) (.int 0)) (.cons (.idx (.var 3) (.int 0)) .nil))) .nil)))))) (.cons (.ret (.bl false)) .nil) .nil) -- if not _law_same(hull_of([one[1], other[0], one[0]]), _law_hull([one[1], other[0], one[0]])) or not _law_same(point(one[0]), (one[0], one[0])):
def s_law_1_12 : MS := (.asg (.name 14) (.and (.not (.call 56 (.cons (.idx (.var 3) (.int 0)) (.cons (.idx (.var 4) (.int 0)) .nil)))) (.one (.not (.call 56 (.cons (.idx (.var 4) (.int 1)) (.cons (.idx (.var 3) (.int 1)) .nil))))))) -- inside = not _law_less(one[0], other[0]) and (not _law_less(other[1], one[1]))
def s_law_1_13 : MS := (.ifS (.or (.not (.call 53 (.cons (.call 30 (.cons (.var 3) (.cons (.var 4) .nil))) (.cons (.var 14) .nil)))) (.one (.not (.call 53 (.cons (.call 29 (.cons (.var 3) (.cons (.idx (.var 4) (.int 0)) .nil))) (.cons (.and (.not (.call 56 (.cons (.idx (.var 4) (.int 0)) (.cons (.idx (.var 3) (.int 0)) .nil)))) (.one (.not (.call 56 (.cons (.idx (.var 3) (.int 1)) (.cons (.idx (.var 4) (.int 0)) .nil)))))) .nil)))))) (.cons (.ret (.bl false)) .nil) .nil) -- if not _law_same(is_inside(one, other), inside) or not _law_same(is_in(one, other[0]), not _law_less(other[0], one[0]) and (not _law_less(one[1], other[0]))):
def s_law_1_14 : MS := (.asg (.name 15) (.call 55 (.cons (.lst (.cons (.idx (.var 3) (.int 1)) (.cons (.tup (.cons (.bin .Sub (.int 0) (.idx (.idx (.var 3) (.int 0)) (.int 0))) (.cons (.idx (.idx (.var 3) (.int 0)) (.int 1)) .nil))) .nil))) .nil))) -- width = _law_sum([one[1], (0 - one[0][0], one[0][1])])
def s_law_1_15 : MS := (.asg (.name 16) (.call 55 (.cons (.lst (.cons (.idx (.var 3) (.int 0)) (.cons (.call 54 (.cons (.idx (.var 15) (.int 0)) (.cons (.bin .Mult (.idx (.var 15) (.int 1)) (.int 2)) .nil))) .nil))) .nil))) -- mid = _law_sum([one[0], _law_least(width[0], width[1] * 2)])
def s_law_1_16 : MS := (.ifS (.or (.not (.call 53 (.cons (.call 46 (.cons (.var 3) .nil)) (.cons (.var 15) .nil)))) (.or (.not (.call 53 (.cons (.call 47 (.cons (.var 3) .nil)) (.cons (.var 16) .nil)))) (.one (.not (.call 53 (.cons (.call 48 (.cons (.var 3) .nil)) (.cons (.tup (.cons (.tup (.cons (.idx (.var 3) (.int 0)) (.cons (.var 16) .nil))) (.cons (.tup (.cons (.var 16) (.cons (.idx (.var 3) (.int 1)) .nil))) .nil))) .nil))))))) (.cons (.ret (.bl false)) .nil) .nil) -- if not _law_same(width_of(one), width) or not _law_same(middle_of(one), mid) or (not _law_same(halves(one), ((one[0], mid), (mid, one[1])))):
def s_law_1_17 : MS := (.asg (.name 17) (.call 54 (.cons (.call 52 (.cons (.var 1) (.cons (.int 5) .nil))) (.cons (.int 2) .nil)))) -- off = _law_least(_law_next(w, 5), 2)
def s_law_1_18 : MS := (.ifS (.not (.call 53 (.cons (.call 43 (.cons (.var 3) (.cons (.var 17) .nil))) (.cons (.tup (.cons (.call 55 (.cons (.lst (.cons (.idx (.var 3) (.int 0)) (.cons (.tup (.cons (.bin .Sub (.int 0) (.idx (.var 17) (.int 0))) (.cons (.idx (.var 17) (.int 1)) .nil))) .nil))) .nil)) (.cons (.call 55 (.cons (.lst (.cons (.idx (.var 3) (.int 1)) (.cons (.var 17) .nil))) .nil)) .nil))) .nil)))) (.cons (.ret (.bl false)) .nil) .nil) -- if not _law_same(widened_by(one, off), (_law_sum([one[0], (0 - off[0], off[1])]), _law_sum([one[1], off]))):
def e_law_10 : ME := (.or (.call 56 (.cons (.var 8) (.cons (.var 20) .nil))) (.one (.and (.cmp .Eq (.var 18) (.str "<=")) (.one (.cmp .Eq (.var 8) (.var 20))))))
def b_law_9 : MSs := (.cons (.asg (.name 19) (.lc false [8, 20] e_law_10 (.tup (.cons (.name 8) (.cons (.name 20) .nil))) (.seq (.var 7)) .none)) (.cons (.asg (.name 6) (.ifE (.cmp .NotIn (.bl false) (.var 19)) (.bl true) (.ifE (.cmp .NotIn (.bl true) (.var 19)) (.bl false) .non))) (.cons (.ifS (.not (.call 53 (.cons (.call 49 (.cons (.var 18) (.cons (.var 3) (.cons (.var 4) .nil)))) (.cons (.var 6) .nil)))) (.cons (.ret (.bl false)) .nil) .nil) .nil)))
def s_law_1_19 : MS := (.forS (.name 18) (.seq (.tup (.cons (.str "<") (.cons (.str "<=") .nil)))) b_law_9) -- for sign in ('<', '<='):
def b_law_0 : MSs := (.cons s_law_1_0 (.cons s_law_1_1 (.cons s_law_1_2 (.cons s_law_1_3 (.cons s_law_1_4 (.cons s_law_1_5 (.cons s_law_1_6 (.cons s_law_1_7 (.cons s_law_1_8 (.cons s_law_1_9 (.cons s_law_1_10 (.cons s_law_1_11 (.cons s_law_1_12 (.cons s_law_1_13 (.cons s_law_1_14 (.cons s_law_1_15 (.cons s_law_1_16 (.cons s_law_1_17 (.cons s_law_1_18 (.cons s_law_1_19 .nil))))))))))))))))))))
def f_law : Fn := ⟨1, 22, (.cons (.asg (.name 1) (.dict (.cons (.str "draws") (.call 51 (.cons (.var 0) (.cons (.int 130) .nil))) (.cons (.str "at") (.int 0) .nil)))) (.cons (.forS (.name 2) (.rng 8 (.cons (.int 4) .nil)) b_law_0) (.cons (.ret (.bl true)) .nil)))⟩
def T : Tab := [
  (("abs" : Str), TK.blt),
  (("bool" : Str), TK.blt),
  (("dict" : Str), TK.blt),
  (("int" : Str), TK.blt),
  (("isinstance" : Str), TK.blt),
  (("len" : Str), TK.blt),
  (("list" : Str), TK.blt),
  (("max" : Str), TK.blt),
  (("range" : Str), TK.blt),
  (("str" : Str), TK.blt),
  (("tuple" : Str), TK.blt),
  (("NOTHING" : Str), TK.con (.tup [(.int 0), (.int 1)])),
  (("is_number" : Str), TK.fn 1 ["thing"] f_is_number),
  (("is_from" : Str), TK.fn 2 ["thing", "least"] f_is_from),
  (("is_tuple_of" : Str), TK.fn 3 ["thing", "many"] f_is_tuple_of),
  (("common" : Str), TK.fn 6 ["a", "b"] f_common),
  (("fraction" : Str), TK.fn 7 ["upper", "lower", "d"] f_fraction),
  (("is_fraction" : Str), TK.fn 8 ["thing"] f_is_fraction),
  (("added" : Str), TK.fn 9 ["one", "other"] f_added),
  (("negated" : Str), TK.fn 10 ["one"] f_negated),
  (("taken" : Str), TK.fn 11 ["one", "other"] f_taken),
  (("times" : Str), TK.fn 12 ["one", "other"] f_times),
  (("quotient" : Str), TK.fn 13 ["one", "other"] f_quotient),
  (("size" : Str), TK.fn 14 ["one"] f_size),
  (("is_less" : Str), TK.fn 15 ["one", "other"] f_is_less),
  (("is_most" : Str), TK.fn 16 ["one", "other"] f_is_most),
  (("lesser" : Str), TK.fn 17 ["one", "other"] f_lesser),
  (("greater" : Str), TK.fn 18 ["one", "other"] f_greater),
  (("is_span" : Str), TK.fn 20 ["thing"] f_is_span),
  (("is_in" : Str), TK.fn 21 ["span", "one"] f_is_in),
  (("is_inside" : Str), TK.fn 22 ["one", "other"] f_is_inside),
  (("hull" : Str), TK.fn 23 ["one", "other"] f_hull),
  (("hull_of" : Str), TK.fn 24 ["rows", "found", "own"] f_hull_of),
  (("point" : Str), TK.fn 25 ["one"] f_point),
  (("added_spans" : Str), TK.fn 26 ["one", "other"] f_added_spans),
  (("negated_span" : Str), TK.fn 27 ["one"] f_negated_span),
  (("taken_spans" : Str), TK.fn 28 ["one", "other"] f_taken_spans),
  (("times_spans" : Str), TK.fn 29 ["one", "other", "a", "b"] f_times_spans),
  (("has_nothing" : Str), TK.fn 30 ["span"] f_has_nothing),
  (("over_spans" : Str), TK.fn 31 ["one", "other", "a", "b"] f_over_spans),
  (("size_span" : Str), TK.fn 32 ["one"] f_size_span),
  (("most_size" : Str), TK.fn 33 ["one"] f_most_size),
  (("least_size" : Str), TK.fn 34 ["one"] f_least_size),
  (("widened_by" : Str), TK.fn 35 ["one", "off"] f_widened_by),
  (("least_span" : Str), TK.fn 36 ["one", "other"] f_least_span),
  (("most_span" : Str), TK.fn 37 ["one", "other"] f_most_span),
  (("width_of" : Str), TK.fn 38 ["one"] f_width_of),
  (("middle_of" : Str), TK.fn 39 ["one"] f_middle_of),
  (("halves" : Str), TK.fn 40 ["one"] f_halves),
  (("is_surely" : Str), TK.fn 41 ["sign", "one", "other"] f_is_surely),
  (("span_of_step" : Str), TK.fn 42 ["kind", "rows", "one", "other"] f_span_of_step),
  (("_law_draws" : Str), TK.fn 44 ["script", "many", "draws", "mixed", "k", "cell", "rest", "turn"] f__law_draws),
  (("_law_next" : Str), TK.fn 45 ["w", "many"] f__law_next),
  (("_law_same" : Str), TK.fn 46 ["seen", "due", "waiting", "one", "other", "keys", "key", "k"] f__law_same),
  (("_law_least" : Str), TK.fn 47 ["a", "b", "one", "other"] f__law_least),
  (("_law_sum" : Str), TK.fn 48 ["rows", "upper", "lower", "a", "b"] f__law_sum),
  (("_law_less" : Str), TK.fn 49 ["one", "other"] f__law_less),
  (("_law_span" : Str), TK.fn 50 ["w", "low"] f__law_span),
  (("_law_hull" : Str), TK.fn 51 ["rows", "low", "high", "own"] f__law_hull),
  (("_law_exact" : Str), TK.fn 52 ["kind", "one", "other", "flip"] f__law_exact),
  (("law" : Str), TK.fn 53 ["script", "w", "turn", "one", "other", "thing", "due", "points", "a", "kind", "seen", "zero", "values", "sizes", "inside", "width", "mid", "off", "sign", "rows", "b", "own"] f_law)]
abbrev G : GT := gtOf T
abbrev i_NOTHING : Nat := 11
theorem c_NOTHING : conOf G 11 = some (.tup [(.int 0), (.int 1)]) := rfl
abbrev i_is_number : Nat := 12
theorem g_is_number : G[i_is_number]? = some (("is_number" : Str), GK.fn f_is_number) := rfl
abbrev i_is_from : Nat := 13
theorem g_is_from : G[i_is_from]? = some (("is_from" : Str), GK.fn f_is_from) := rfl
abbrev i_is_tuple_of : Nat := 14
theorem g_is_tuple_of : G[i_is_tuple_of]? = some (("is_tuple_of" : Str), GK.fn f_is_tuple_of) := rfl
abbrev i_common : Nat := 15
theorem g_common : G[i_common]? = some (("common" : Str), GK.fn f_common) := rfl
abbrev i_fraction : Nat := 16
theorem g_fraction : G[i_fraction]? = some (("fraction" : Str), GK.fn f_fraction) := rfl
abbrev i_is_fraction : Nat := 17
theorem g_is_fraction : G[i_is_fraction]? = some (("is_fraction" : Str), GK.fn f_is_fraction) := rfl
abbrev i_added : Nat := 18
theorem g_added : G[i_added]? = some (("added" : Str), GK.fn f_added) := rfl
abbrev i_negated : Nat := 19
theorem g_negated : G[i_negated]? = some (("negated" : Str), GK.fn f_negated) := rfl
abbrev i_taken : Nat := 20
theorem g_taken : G[i_taken]? = some (("taken" : Str), GK.fn f_taken) := rfl
abbrev i_times : Nat := 21
theorem g_times : G[i_times]? = some (("times" : Str), GK.fn f_times) := rfl
abbrev i_quotient : Nat := 22
theorem g_quotient : G[i_quotient]? = some (("quotient" : Str), GK.fn f_quotient) := rfl
abbrev i_size : Nat := 23
theorem g_size : G[i_size]? = some (("size" : Str), GK.fn f_size) := rfl
abbrev i_is_less : Nat := 24
theorem g_is_less : G[i_is_less]? = some (("is_less" : Str), GK.fn f_is_less) := rfl
abbrev i_is_most : Nat := 25
theorem g_is_most : G[i_is_most]? = some (("is_most" : Str), GK.fn f_is_most) := rfl
abbrev i_lesser : Nat := 26
theorem g_lesser : G[i_lesser]? = some (("lesser" : Str), GK.fn f_lesser) := rfl
abbrev i_greater : Nat := 27
theorem g_greater : G[i_greater]? = some (("greater" : Str), GK.fn f_greater) := rfl
abbrev i_is_span : Nat := 28
theorem g_is_span : G[i_is_span]? = some (("is_span" : Str), GK.fn f_is_span) := rfl
abbrev i_is_in : Nat := 29
theorem g_is_in : G[i_is_in]? = some (("is_in" : Str), GK.fn f_is_in) := rfl
abbrev i_is_inside : Nat := 30
theorem g_is_inside : G[i_is_inside]? = some (("is_inside" : Str), GK.fn f_is_inside) := rfl
abbrev i_hull : Nat := 31
theorem g_hull : G[i_hull]? = some (("hull" : Str), GK.fn f_hull) := rfl
abbrev i_hull_of : Nat := 32
theorem g_hull_of : G[i_hull_of]? = some (("hull_of" : Str), GK.fn f_hull_of) := rfl
abbrev i_point : Nat := 33
theorem g_point : G[i_point]? = some (("point" : Str), GK.fn f_point) := rfl
abbrev i_added_spans : Nat := 34
theorem g_added_spans : G[i_added_spans]? = some (("added_spans" : Str), GK.fn f_added_spans) := rfl
abbrev i_negated_span : Nat := 35
theorem g_negated_span : G[i_negated_span]? = some (("negated_span" : Str), GK.fn f_negated_span) := rfl
abbrev i_taken_spans : Nat := 36
theorem g_taken_spans : G[i_taken_spans]? = some (("taken_spans" : Str), GK.fn f_taken_spans) := rfl
abbrev i_times_spans : Nat := 37
theorem g_times_spans : G[i_times_spans]? = some (("times_spans" : Str), GK.fn f_times_spans) := rfl
abbrev i_has_nothing : Nat := 38
theorem g_has_nothing : G[i_has_nothing]? = some (("has_nothing" : Str), GK.fn f_has_nothing) := rfl
abbrev i_over_spans : Nat := 39
theorem g_over_spans : G[i_over_spans]? = some (("over_spans" : Str), GK.fn f_over_spans) := rfl
abbrev i_size_span : Nat := 40
theorem g_size_span : G[i_size_span]? = some (("size_span" : Str), GK.fn f_size_span) := rfl
abbrev i_most_size : Nat := 41
theorem g_most_size : G[i_most_size]? = some (("most_size" : Str), GK.fn f_most_size) := rfl
abbrev i_least_size : Nat := 42
theorem g_least_size : G[i_least_size]? = some (("least_size" : Str), GK.fn f_least_size) := rfl
abbrev i_widened_by : Nat := 43
theorem g_widened_by : G[i_widened_by]? = some (("widened_by" : Str), GK.fn f_widened_by) := rfl
abbrev i_least_span : Nat := 44
theorem g_least_span : G[i_least_span]? = some (("least_span" : Str), GK.fn f_least_span) := rfl
abbrev i_most_span : Nat := 45
theorem g_most_span : G[i_most_span]? = some (("most_span" : Str), GK.fn f_most_span) := rfl
abbrev i_width_of : Nat := 46
theorem g_width_of : G[i_width_of]? = some (("width_of" : Str), GK.fn f_width_of) := rfl
abbrev i_middle_of : Nat := 47
theorem g_middle_of : G[i_middle_of]? = some (("middle_of" : Str), GK.fn f_middle_of) := rfl
abbrev i_halves : Nat := 48
theorem g_halves : G[i_halves]? = some (("halves" : Str), GK.fn f_halves) := rfl
abbrev i_is_surely : Nat := 49
theorem g_is_surely : G[i_is_surely]? = some (("is_surely" : Str), GK.fn f_is_surely) := rfl
abbrev i_span_of_step : Nat := 50
theorem g_span_of_step : G[i_span_of_step]? = some (("span_of_step" : Str), GK.fn f_span_of_step) := rfl
abbrev i__law_draws : Nat := 51
theorem g__law_draws : G[i__law_draws]? = some (("_law_draws" : Str), GK.fn f__law_draws) := rfl
abbrev i__law_next : Nat := 52
theorem g__law_next : G[i__law_next]? = some (("_law_next" : Str), GK.fn f__law_next) := rfl
abbrev i__law_same : Nat := 53
theorem g__law_same : G[i__law_same]? = some (("_law_same" : Str), GK.fn f__law_same) := rfl
abbrev i__law_least : Nat := 54
theorem g__law_least : G[i__law_least]? = some (("_law_least" : Str), GK.fn f__law_least) := rfl
abbrev i__law_sum : Nat := 55
theorem g__law_sum : G[i__law_sum]? = some (("_law_sum" : Str), GK.fn f__law_sum) := rfl
abbrev i__law_less : Nat := 56
theorem g__law_less : G[i__law_less]? = some (("_law_less" : Str), GK.fn f__law_less) := rfl
abbrev i__law_span : Nat := 57
theorem g__law_span : G[i__law_span]? = some (("_law_span" : Str), GK.fn f__law_span) := rfl
abbrev i__law_hull : Nat := 58
theorem g__law_hull : G[i__law_hull]? = some (("_law_hull" : Str), GK.fn f__law_hull) := rfl
abbrev i__law_exact : Nat := 59
theorem g__law_exact : G[i__law_exact]? = some (("_law_exact" : Str), GK.fn f__law_exact) := rfl
abbrev i_law : Nat := 60
theorem g_law : G[i_law]? = some (("law" : Str), GK.fn f_law) := rfl
end Rw.Pk08

namespace Rw.Pk08
open PySem L2 Rw
section
variable {k : Nat} {S : Sto} {p q : Rat} {n : Nat}
theorem common_loop {cl : Nat → List D → Sto → Rs D} : ∀ n m : Nat, whE (evT G cl c_common_0) (evSs G cl b_common_0) [some (.int m), some (.int n)] S = some (.nx [some (.int (Nat.gcd m n : Nat)), some (.int 0)], S) := by
  intro n
  induction n using Nat.strongRecOn with
  | ind n ih =>
    intro m
    by_cases e : n = 0
    · subst e
      refine (whE_end (S1 := S) ?_).trans ?_
      · simp only [E1, E2, E3, E4, E5, E6, E7, E8, E9, List.map_cons, List.map_nil, List.cons_append, List.nil_append, List.append_nil, List.length_cons, List.length_nil, List.replicate_zero, List.replicate_succ, Nat.sub_self, Nat.zero_add, List.getElem?_cons_zero, List.getElem?_cons_succ, List.set_cons_zero, List.set_cons_succ, if_true, if_false, Bool.false_eq_true, decide_true, decide_false, Bool.not_true, Bool.not_false, decide_eq_true_eq, eq_self, Int.cast_ofNat_Int, Int.natCast_zero, Int.natCast_one, Nat.reduceLeDiff, Nat.reduceSub, Nat.reduceAdd, Nat.reduceLT, reduceIte, reduceCtorEq, Int.reduceEq, Int.reduceLT, Int.reduceLE, Int.reduceNeg, Int.reduceAdd, Int.reduceSub, Int.reduceMul, Int.reduceNe, Int.reduceBNe, Int.reduceBEq, c_common_0]
      · rw [Nat.gcd_zero_right]
        rfl
    · refine whE_turn (S1 := S) (ρ2 := [some (.int n), some (.int ((m % n : Nat) : Int))]) (S2 := S) ?_ ?_ ((ih (m % n) (Nat.mod_lt _ (by omega)) n).trans ?_)
      · have : (0 : Int) < (n : Int) := by omega
        simp only [E1, E2, E3, E4, E5, E6, E7, E8, E9, List.map_cons, List.map_nil, List.cons_append, List.nil_append, List.append_nil, List.length_cons, List.length_nil, List.replicate_zero, List.replicate_succ, Nat.sub_self, Nat.zero_add, List.getElem?_cons_zero, List.getElem?_cons_succ, List.set_cons_zero, List.set_cons_succ, if_true, if_false, Bool.false_eq_true, decide_true, decide_false, Bool.not_true, Bool.not_false, decide_eq_true_eq, eq_self, Int.cast_ofNat_Int, Int.natCast_zero, Int.natCast_one, Nat.reduceLeDiff, Nat.reduceSub, Nat.reduceAdd, Nat.reduceLT, reduceIte, reduceCtorEq, Int.reduceEq, Int.reduceLT, Int.reduceLE, Int.reduceNeg, Int.reduceAdd, Int.reduceSub, Int.reduceMul, Int.reduceNe, Int.reduceBNe, Int.reduceBEq, c_common_0, this]
      · have : (n : Int) ≠ 0 := by omega
        simp only [E1, E2, E3, E4, E5, E6, E7, E8, E9, List.map_cons, List.map_nil, List.cons_append, List.nil_append, List.append_nil, List.length_cons, List.length_nil, List.replicate_zero, List.replicate_succ, Nat.sub_self, Nat.zero_add, List.getElem?_cons_zero, List.getElem?_cons_succ, List.set_cons_zero, List.set_cons_succ, if_true, if_false, Bool.false_eq_true, decide_true, decide_false, Bool.not_true, Bool.not_false, decide_eq_true_eq, eq_self, Int.cast_ofNat_Int, Int.natCast_zero, Int.natCast_one, Nat.reduceLeDiff, Nat.reduceSub, Nat.reduceAdd, Nat.reduceLT, reduceIte, reduceCtorEq, Int.reduceEq, Int.reduceLT, Int.reduceLE, Int.reduceNeg, Int.reduceAdd, Int.reduceSub, Int.reduceMul, Int.reduceNe, Int.reduceBNe, Int.reduceBEq, b_common_0, this, fmod_nat, ne_eq, not_false_eq_true]
      · rw [Nat.gcd_comm m n, Nat.gcd_rec n m, Nat.gcd_comm]
theorem common_ok {a b : Int} : callK G (k + 1) i_common [.int a, .int b] S = some (.int (Int.gcd a b : Int), S) := by
  rw [call_fn g_common rfl]
  simp only [E1, E2, E3, E4, E5, E6, E7, E8, E9, List.map_cons, List.map_nil, List.cons_append, List.nil_append, List.append_nil, List.length_cons, List.length_nil, List.replicate_zero, List.replicate_succ, Nat.sub_self, Nat.zero_add, List.getElem?_cons_zero, List.getElem?_cons_succ, List.set_cons_zero, List.set_cons_succ, if_true, if_false, Bool.false_eq_true, decide_true, decide_false, Bool.not_true, Bool.not_false, decide_eq_true_eq, eq_self, Int.cast_ofNat_Int, Int.natCast_zero, Int.natCast_one, Nat.reduceLeDiff, Nat.reduceSub, Nat.reduceAdd, Nat.reduceLT, reduceIte, reduceCtorEq, Int.reduceEq, Int.reduceLT, Int.reduceLE, Int.reduceNeg, Int.reduceAdd, Int.reduceSub, Int.reduceMul, Int.reduceNe, Int.reduceBNe, Int.reduceBEq, f_common, abs_nat, common_loop]
  rfl
theorem fraction_ok {u l : Int} (h : l ≠ 0) (b : Bd 8999 l) : callK G (k + 2) i_fraction [.int u, .int l] S = some (fr (Rat.divInt u l), S) := by
  have hd : divOk (if 0 < l then (Int.gcd u l : Int) else -(Int.gcd u l : Int)) := by
    split
    · exact (gcd_bd h b).divOk (gcd_ne h) (by omega)
    · exact (gcd_bd h b).neg.divOk (by have := gcd_ne (u := u) h; omega) (by omega)
  rw [call_fn g_fraction rfl, fr_div h]
  by_cases c : 0 < l
  · simp only [c, if_true] at hd ⊢
    simp only [E1, E2, E3, E4, E5, E6, E7, E8, E9, List.map_cons, List.map_nil, List.cons_append, List.nil_append, List.append_nil, List.length_cons, List.length_nil, List.replicate_zero, List.replicate_succ, Nat.sub_self, Nat.zero_add, List.getElem?_cons_zero, List.getElem?_cons_succ, List.set_cons_zero, List.set_cons_succ, if_true, if_false, Bool.false_eq_true, decide_true, decide_false, Bool.not_true, Bool.not_false, decide_eq_true_eq, eq_self, Int.cast_ofNat_Int, Int.natCast_zero, Int.natCast_one, Nat.reduceLeDiff, Nat.reduceSub, Nat.reduceAdd, Nat.reduceLT, reduceIte, reduceCtorEq, Int.reduceEq, Int.reduceLT, Int.reduceLE, Int.reduceNeg, Int.reduceAdd, Int.reduceSub, Int.reduceMul, Int.reduceNe, Int.reduceBNe, Int.reduceBEq, f_fraction, c, common_ok, hd]
  · simp only [c, if_false] at hd ⊢
    simp only [E1, E2, E3, E4, E5, E6, E7, E8, E9, List.map_cons, List.map_nil, List.cons_append, List.nil_append, List.append_nil, List.length_cons, List.length_nil, List.replicate_zero, List.replicate_succ, Nat.sub_self, Nat.zero_add, List.getElem?_cons_zero, List.getElem?_cons_succ, List.set_cons_zero, List.set_cons_succ, if_true, if_false, Bool.false_eq_true, decide_true, decide_false, Bool.not_true, Bool.not_false, decide_eq_true_eq, eq_self, Int.cast_ofNat_Int, Int.natCast_zero, Int.natCast_one, Nat.reduceLeDiff, Nat.reduceSub, Nat.reduceAdd, Nat.reduceLT, reduceIte, reduceCtorEq, Int.reduceEq, Int.reduceLT, Int.reduceLE, Int.reduceNeg, Int.reduceAdd, Int.reduceSub, Int.reduceMul, Int.reduceNe, Int.reduceBNe, Int.reduceBEq, f_fraction, c, common_ok, hd]
theorem is_number_int {a : Int} : callK G (k + 1) i_is_number [.int a] S = some (.bl true, S) := by
  rw [call_fn g_is_number rfl]
  simp only [E1, E2, E3, E4, E5, E6, E7, E8, E9, List.map_cons, List.map_nil, List.cons_append, List.nil_append, List.append_nil, List.length_cons, List.length_nil, List.replicate_zero, List.replicate_succ, Nat.sub_self, Nat.zero_add, List.getElem?_cons_zero, List.getElem?_cons_succ, List.set_cons_zero, List.set_cons_succ, if_true, if_false, Bool.false_eq_true, decide_true, decide_false, Bool.not_true, Bool.not_false, decide_eq_true_eq, eq_self, Int.cast_ofNat_Int, Int.natCast_zero, Int.natCast_one, Nat.reduceLeDiff, Nat.reduceSub, Nat.reduceAdd, Nat.reduceLT, reduceIte, reduceCtorEq, Int.reduceEq, Int.reduceLT, Int.reduceLE, Int.reduceNeg, Int.reduceAdd, Int.reduceSub, Int.reduceMul, Int.reduceNe, Int.reduceBNe, Int.reduceBEq, f_is_number]
theorem is_number_bl {a : Bool} : callK G (k + 1) i_is_number [.bl a] S = some (.bl false, S) := by
  rw [call_fn g_is_number rfl]
  simp only [E1, E2, E3, E4, E5, E6, E7, E8, E9, List.map_cons, List.map_nil, List.cons_append, List.nil_append, List.append_nil, List.length_cons, List.length_nil, List.replicate_zero, List.replicate_succ, Nat.sub_self, Nat.zero_add, List.getElem?_cons_zero, List.getElem?_cons_succ, List.set_cons_zero, List.set_cons_succ, if_true, if_false, Bool.false_eq_true, decide_true, decide_false, Bool.not_true, Bool.not_false, decide_eq_true_eq, eq_self, Int.cast_ofNat_Int, Int.natCast_zero, Int.natCast_one, Nat.reduceLeDiff, Nat.reduceSub, Nat.reduceAdd, Nat.reduceLT, reduceIte, reduceCtorEq, Int.reduceEq, Int.reduceLT, Int.reduceLE, Int.reduceNeg, Int.reduceAdd, Int.reduceSub, Int.reduceMul, Int.reduceNe, Int.reduceBNe, Int.reduceBEq, f_is_number]
theorem is_number_non : callK G (k + 1) i_is_number [.non] S = some (.bl false, S) := by
  rw [call_fn g_is_number rfl]
  simp only [E1, E2, E3, E4, E5, E6, E7, E8, E9, List.map_cons, List.map_nil, List.cons_append, List.nil_append, List.append_nil, List.length_cons, List.length_nil, List.replicate_zero, List.replicate_succ, Nat.sub_self, Nat.zero_add, List.getElem?_cons_zero, List.getElem?_cons_succ, List.set_cons_zero, List.set_cons_succ, if_true, if_false, Bool.false_eq_true, decide_true, decide_false, Bool.not_true, Bool.not_false, decide_eq_true_eq, eq_self, Int.cast_ofNat_Int, Int.natCast_zero, Int.natCast_one, Nat.reduceLeDiff, Nat.reduceSub, Nat.reduceAdd, Nat.reduceLT, reduceIte, reduceCtorEq, Int.reduceEq, Int.reduceLT, Int.reduceLE, Int.reduceNeg, Int.reduceAdd, Int.reduceSub, Int.reduceMul, Int.reduceNe, Int.reduceBNe, Int.reduceBEq, f_is_number]
theorem is_number_str {a : Str} : callK G (k + 1) i_is_number [.str a] S = some (.bl false, S) := by
  rw [call_fn g_is_number rfl]
  simp only [E1, E2, E3, E4, E5, E6, E7, E8, E9, List.map_cons, List.map_nil, List.cons_append, List.nil_append, List.append_nil, List.length_cons, List.length_nil, List.replicate_zero, List.replicate_succ, Nat.sub_self, Nat.zero_add, List.getElem?_cons_zero, List.getElem?_cons_succ, List.set_cons_zero, List.set_cons_succ, if_true, if_false, Bool.false_eq_true, decide_true, decide_false, Bool.not_true, Bool.not_false, decide_eq_true_eq, eq_self, Int.cast_ofNat_Int, Int.natCast_zero, Int.natCast_one, Nat.reduceLeDiff, Nat.reduceSub, Nat.reduceAdd, Nat.reduceLT, reduceIte, reduceCtorEq, Int.reduceEq, Int.reduceLT, Int.reduceLE, Int.reduceNeg, Int.reduceAdd, Int.reduceSub, Int.reduceMul, Int.reduceNe, Int.reduceBNe, Int.reduceBEq, f_is_number]
theorem is_number_tup {a : List D} : callK G (k + 1) i_is_number [.tup a] S = some (.bl false, S) := by
  rw [call_fn g_is_number rfl]
  simp only [E1, E2, E3, E4, E5, E6, E7, E8, E9, List.map_cons, List.map_nil, List.cons_append, List.nil_append, List.append_nil, List.length_cons, List.length_nil, List.replicate_zero, List.replicate_succ, Nat.sub_self, Nat.zero_add, List.getElem?_cons_zero, List.getElem?_cons_succ, List.set_cons_zero, List.set_cons_succ, if_true, if_false, Bool.false_eq_true, decide_true, decide_false, Bool.not_true, Bool.not_false, decide_eq_true_eq, eq_self, Int.cast_ofNat_Int, Int.natCast_zero, Int.natCast_one, Nat.reduceLeDiff, Nat.reduceSub, Nat.reduceAdd, Nat.reduceLT, reduceIte, reduceCtorEq, Int.reduceEq, Int.reduceLT, Int.reduceLE, Int.reduceNeg, Int.reduceAdd, Int.reduceSub, Int.reduceMul, Int.reduceNe, Int.reduceBNe, Int.reduceBEq, f_is_number]
theorem is_number_lst {a : List D} : callK G (k + 1) i_is_number [.lst a] S = some (.bl false, S) := by
  rw [call_fn g_is_number rfl]
  simp only [E1, E2, E3, E4, E5, E6, E7, E8, E9, List.map_cons, List.map_nil, List.cons_append, List.nil_append, List.append_nil, List.length_cons, List.length_nil, List.replicate_zero, List.replicate_succ, Nat.sub_self, Nat.zero_add, List.getElem?_cons_zero, List.getElem?_cons_succ, List.set_cons_zero, List.set_cons_succ, if_true, if_false, Bool.false_eq_true, decide_true, decide_false, Bool.not_true, Bool.not_false, decide_eq_true_eq, eq_self, Int.cast_ofNat_Int, Int.natCast_zero, Int.natCast_one, Nat.reduceLeDiff, Nat.reduceSub, Nat.reduceAdd, Nat.reduceLT, reduceIte, reduceCtorEq, Int.reduceEq, Int.reduceLT, Int.reduceLE, Int.reduceNeg, Int.reduceAdd, Int.reduceSub, Int.reduceMul, Int.reduceNe, Int.reduceBNe, Int.reduceBEq, f_is_number]
theorem is_from_int {a b : Int} : callK G (k + 2) i_is_from [.int a, .int b] S = some (.bl (decide (b ≤ a)), S) := by
  rw [call_fn g_is_from rfl]
  simp only [E1, E2, E3, E4, E5, E6, E7, E8, E9, List.map_cons, List.map_nil, List.cons_append, List.nil_append, List.append_nil, List.length_cons, List.length_nil, List.replicate_zero, List.replicate_succ, Nat.sub_self, Nat.zero_add, List.getElem?_cons_zero, List.getElem?_cons_succ, List.set_cons_zero, List.set_cons_succ, if_true, if_false, Bool.false_eq_true, decide_true, decide_false, Bool.not_true, Bool.not_false, decide_eq_true_eq, eq_self, Int.cast_ofNat_Int, Int.natCast_zero, Int.natCast_one, Nat.reduceLeDiff, Nat.reduceSub, Nat.reduceAdd, Nat.reduceLT, reduceIte, reduceCtorEq, Int.reduceEq, Int.reduceLT, Int.reduceLE, Int.reduceNeg, Int.reduceAdd, Int.reduceSub, Int.reduceMul, Int.reduceNe, Int.reduceBNe, Int.reduceBEq, f_is_from, is_number_int]
theorem is_tuple_of_tup {a : List D} {m : Int} : callK G (k + 1) i_is_tuple_of [.tup a, .int m] S = some (.bl (decide ((a.length : Int) = m)), S) := by
  rw [call_fn g_is_tuple_of rfl]
  simp only [E1, E2, E3, E4, E5, E6, E7, E8, E9, List.map_cons, List.map_nil, List.cons_append, List.nil_append, List.append_nil, List.length_cons, List.length_nil, List.replicate_zero, List.replicate_succ, Nat.sub_self, Nat.zero_add, List.getElem?_cons_zero, List.getElem?_cons_succ, List.set_cons_zero, List.set_cons_succ, if_true, if_false, Bool.false_eq_true, decide_true, decide_false, Bool.not_true, Bool.not_false, decide_eq_true_eq, eq_self, Int.cast_ofNat_Int, Int.natCast_zero, Int.natCast_one, Nat.reduceLeDiff, Nat.reduceSub, Nat.reduceAdd, Nat.reduceLT, reduceIte, reduceCtorEq, Int.reduceEq, Int.reduceLT, Int.reduceLE, Int.reduceNeg, Int.reduceAdd, Int.reduceSub, Int.reduceMul, Int.reduceNe, Int.reduceBNe, Int.reduceBEq, f_is_tuple_of]
theorem is_tuple_of_lst {a : List D} {m : Int} : callK G (k + 1) i_is_tuple_of [.lst a, .int m] S = some (.bl false, S) := by
  rw [call_fn g_is_tuple_of rfl]
  simp only [E1, E2, E3, E4, E5, E6, E7, E8, E9, List.map_cons, List.map_nil, List.cons_append, List.nil_append, List.append_nil, List.length_cons, List.length_nil, List.replicate_zero, List.replicate_succ, Nat.sub_self, Nat.zero_add, List.getElem?_cons_zero, List.getElem?_cons_succ, List.set_cons_zero, List.set_cons_succ, if_true, if_false, Bool.false_eq_true, decide_true, decide_false, Bool.not_true, Bool.not_false, decide_eq_true_eq, eq_self, Int.cast_ofNat_Int, Int.natCast_zero, Int.natCast_one, Nat.reduceLeDiff, Nat.reduceSub, Nat.reduceAdd, Nat.reduceLT, reduceIte, reduceCtorEq, Int.reduceEq, Int.reduceLT, Int.reduceLE, Int.reduceNeg, Int.reduceAdd, Int.reduceSub, Int.reduceMul, Int.reduceNe, Int.reduceBNe, Int.reduceBEq, f_is_tuple_of]
theorem is_tuple_of_non {m : Int} : callK G (k + 1) i_is_tuple_of [.non, .int m] S = some (.bl false, S) := by
  rw [call_fn g_is_tuple_of rfl]
  simp only [E1, E2, E3, E4, E5, E6, E7, E8, E9, List.map_cons, List.map_nil, List.cons_append, List.nil_append, List.append_nil, List.length_cons, List.length_nil, List.replicate_zero, List.replicate_succ, Nat.sub_self, Nat.zero_add, List.getElem?_cons_zero, List.getElem?_cons_succ, List.set_cons_zero, List.set_cons_succ, if_true, if_false, Bool.false_eq_true, decide_true, decide_false, Bool.not_true, Bool.not_false, decide_eq_true_eq, eq_self, Int.cast_ofNat_Int, Int.natCast_zero, Int.natCast_one, Nat.reduceLeDiff, Nat.reduceSub, Nat.reduceAdd, Nat.reduceLT, reduceIte, reduceCtorEq, Int.reduceEq, Int.reduceLT, Int.reduceLE, Int.reduceNeg, Int.reduceAdd, Int.reduceSub, Int.reduceMul, Int.reduceNe, Int.reduceBNe, Int.reduceBEq, f_is_tuple_of]
theorem is_fraction_ii {a b : Int} : callK G (k + 3) i_is_fraction [.tup [.int a, .int b]] S = some (.bl (decide (1 ≤ b) && decide ((Int.gcd a b : Int) = 1)), S) := by
  rw [call_fn g_is_fraction rfl]
  by_cases h : 1 ≤ b
  · simp only [E1, E2, E3, E4, E5, E6, E7, E8, E9, List.map_cons, List.map_nil, List.cons_append, List.nil_append, List.append_nil, List.length_cons, List.length_nil, List.replicate_zero, List.replicate_succ, Nat.sub_self, Nat.zero_add, List.getElem?_cons_zero, List.getElem?_cons_succ, List.set_cons_zero, List.set_cons_succ, if_true, if_false, Bool.false_eq_true, decide_true, decide_false, Bool.not_true, Bool.not_false, decide_eq_true_eq, eq_self, Int.cast_ofNat_Int, Int.natCast_zero, Int.natCast_one, Nat.reduceLeDiff, Nat.reduceSub, Nat.reduceAdd, Nat.reduceLT, reduceIte, reduceCtorEq, Int.reduceEq, Int.reduceLT, Int.reduceLE, Int.reduceNeg, Int.reduceAdd, Int.reduceSub, Int.reduceMul, Int.reduceNe, Int.reduceBNe, Int.reduceBEq, f_is_fraction, is_tuple_of_tup, is_number_int, is_from_int, common_ok, h]
    simp
  · simp only [E1, E2, E3, E4, E5, E6, E7, E8, E9, List.map_cons, List.map_nil, List.cons_append, List.nil_append, List.append_nil, List.length_cons, List.length_nil, List.replicate_zero, List.replicate_succ, Nat.sub_self, Nat.zero_add, List.getElem?_cons_zero, List.getElem?_cons_succ, List.set_cons_zero, List.set_cons_succ, if_true, if_false, Bool.false_eq_true, decide_true, decide_false, Bool.not_true, Bool.not_false, decide_eq_true_eq, eq_self, Int.cast_ofNat_Int, Int.natCast_zero, Int.natCast_one, Nat.reduceLeDiff, Nat.reduceSub, Nat.reduceAdd, Nat.reduceLT, reduceIte, reduceCtorEq, Int.reduceEq, Int.reduceLT, Int.reduceLE, Int.reduceNeg, Int.reduceAdd, Int.reduceSub, Int.reduceMul, Int.reduceNe, Int.reduceBNe, Int.reduceBEq, f_is_fraction, is_tuple_of_tup, is_number_int, is_from_int, common_ok, h]
    simp
theorem added_ok (h : Sm 4000 p) (g : Sm 4000 q) : callK G (k + 3) i_added [fr p, fr q] S = some (fr (p + q), S) := by
  rw [call_fn g_added rfl, add_eq]
  have h1 := h.nm.mulOk g.dn (by decide)
  have h2 := g.nm.mulOk h.dn (by decide)
  have h3 := h.dn.mulOk g.dn (by decide)
  have hf := fun u => fraction_ok (k := k) (S := S) (u := u) (Int.mul_ne_zero (den_ne (q := p)) (den_ne (q := q))) ((h.dn.mul g.dn).mono (by decide))
  simp only [E1, E2, E3, E4, E5, E6, E7, E8, E9, List.map_cons, List.map_nil, List.cons_append, List.nil_append, List.append_nil, List.length_cons, List.length_nil, List.replicate_zero, List.replicate_succ, Nat.sub_self, Nat.zero_add, List.getElem?_cons_zero, List.getElem?_cons_succ, List.set_cons_zero, List.set_cons_succ, if_true, if_false, Bool.false_eq_true, decide_true, decide_false, Bool.not_true, Bool.not_false, decide_eq_true_eq, eq_self, Int.cast_ofNat_Int, Int.natCast_zero, Int.natCast_one, Nat.reduceLeDiff, Nat.reduceSub, Nat.reduceAdd, Nat.reduceLT, reduceIte, reduceCtorEq, Int.reduceEq, Int.reduceLT, Int.reduceLE, Int.reduceNeg, Int.reduceAdd, Int.reduceSub, Int.reduceMul, Int.reduceNe, Int.reduceBNe, Int.reduceBEq, f_added, fr, h1, h2, h3, hf]
theorem negated_ok : callK G (k + 1) i_negated [fr p] S = some (fr (-p), S) := by
  rw [call_fn g_negated rfl, fr_neg]
  simp only [E1, E2, E3, E4, E5, E6, E7, E8, E9, List.map_cons, List.map_nil, List.cons_append, List.nil_append, List.append_nil, List.length_cons, List.length_nil, List.replicate_zero, List.replicate_succ, Nat.sub_self, Nat.zero_add, List.getElem?_cons_zero, List.getElem?_cons_succ, List.set_cons_zero, List.set_cons_succ, if_true, if_false, Bool.false_eq_true, decide_true, decide_false, Bool.not_true, Bool.not_false, decide_eq_true_eq, eq_self, Int.cast_ofNat_Int, Int.natCast_zero, Int.natCast_one, Nat.reduceLeDiff, Nat.reduceSub, Nat.reduceAdd, Nat.reduceLT, reduceIte, reduceCtorEq, Int.reduceEq, Int.reduceLT, Int.reduceLE, Int.reduceNeg, Int.reduceAdd, Int.reduceSub, Int.reduceMul, Int.reduceNe, Int.reduceBNe, Int.reduceBEq, f_negated, fr]
theorem taken_ok (h : Sm 4000 p) (g : Sm 4000 q) : callK G (k + 4) i_taken [fr p, fr q] S = some (fr (p - q), S) := by
  rw [call_fn g_taken rfl, Rat.sub_eq_add_neg]
  simp only [E1, E2, E3, E4, E5, E6, E7, E8, E9, List.map_cons, List.map_nil, List.cons_append, List.nil_append, List.append_nil, List.length_cons, List.length_nil, List.replicate_zero, List.replicate_succ, Nat.sub_self, Nat.zero_add, List.getElem?_cons_zero, List.getElem?_cons_succ, List.set_cons_zero, List.set_cons_succ, if_true, if_false, Bool.false_eq_true, decide_true, decide_false, Bool.not_true, Bool.not_false, decide_eq_true_eq, eq_self, Int.cast_ofNat_Int, Int.natCast_zero, Int.natCast_one, Nat.reduceLeDiff, Nat.reduceSub, Nat.reduceAdd, Nat.reduceLT, reduceIte, reduceCtorEq, Int.reduceEq, Int.reduceLT, Int.reduceLE, Int.reduceNeg, Int.reduceAdd, Int.reduceSub, Int.reduceMul, Int.reduceNe, Int.reduceBNe, Int.reduceBEq, f_taken, negated_ok, added_ok h g.neg]
theorem times_ok (h : Sm 4000 p) (g : Sm 4000 q) : callK G (k + 3) i_times [fr p, fr q] S = some (fr (p * q), S) := by
  rw [call_fn g_times rfl, mul_eq]
  have h1 := h.nm.mulOk g.nm (by decide)
  have h3 := h.dn.mulOk g.dn (by decide)
  have hf := fun u => fraction_ok (k := k) (S := S) (u := u) (Int.mul_ne_zero (den_ne (q := p)) (den_ne (q := q))) ((h.dn.mul g.dn).mono (by decide))
  simp only [E1, E2, E3, E4, E5, E6, E7, E8, E9, List.map_cons, List.map_nil, List.cons_append, List.nil_append, List.append_nil, List.length_cons, List.length_nil, List.replicate_zero, List.replicate_succ, Nat.sub_self, Nat.zero_add, List.getElem?_cons_zero, List.getElem?_cons_succ, List.set_cons_zero, List.set_cons_succ, if_true, if_false, Bool.false_eq_true, decide_true, decide_false, Bool.not_true, Bool.not_false, decide_eq_true_eq, eq_self, Int.cast_ofNat_Int, Int.natCast_zero, Int.natCast_one, Nat.reduceLeDiff, Nat.reduceSub, Nat.reduceAdd, Nat.reduceLT, reduceIte, reduceCtorEq, Int.reduceEq, Int.reduceLT, Int.reduceLE, Int.reduceNeg, Int.reduceAdd, Int.reduceSub, Int.reduceMul, Int.reduceNe, Int.reduceBNe, Int.reduceBEq, f_times, fr, h1, h3, hf]
theorem quotient_ok (h : Sm 4000 p) (g : Sm 4000 q) (z : q ≠ 0) : callK G (k + 3) i_quotient [fr p, fr q] S = some (fr (p / q), S) := by
  rw [call_fn g_quotient rfl, div_eq]
  have h1 := h.nm.mulOk g.dn (by decide)
  have h3 := h.dn.mulOk g.nm (by decide)
  have hf := fun u => fraction_ok (k := k) (S := S) (u := u) (Int.mul_ne_zero (den_ne (q := p)) (num_ne z)) ((h.dn.mul g.nm).mono (by decide))
  simp only [E1, E2, E3, E4, E5, E6, E7, E8, E9, List.map_cons, List.map_nil, List.cons_append, List.nil_append, List.append_nil, List.length_cons, List.length_nil, List.replicate_zero, List.replicate_succ, Nat.sub_self, Nat.zero_add, List.getElem?_cons_zero, List.getElem?_cons_succ, List.set_cons_zero, List.set_cons_succ, if_true, if_false, Bool.false_eq_true, decide_true, decide_false, Bool.not_true, Bool.not_false, decide_eq_true_eq, eq_self, Int.cast_ofNat_Int, Int.natCast_zero, Int.natCast_one, Nat.reduceLeDiff, Nat.reduceSub, Nat.reduceAdd, Nat.reduceLT, reduceIte, reduceCtorEq, Int.reduceEq, Int.reduceLT, Int.reduceLE, Int.reduceNeg, Int.reduceAdd, Int.reduceSub, Int.reduceMul, Int.reduceNe, Int.reduceBNe, Int.reduceBEq, f_quotient, fr, h1, h3, hf]
theorem size_ok : callK G (k + 1) i_size [fr p] S = some (fr p.abs, S) := by
  rw [call_fn g_size rfl, fr_abs]
  simp only [E1, E2, E3, E4, E5, E6, E7, E8, E9, List.map_cons, List.map_nil, List.cons_append, List.nil_append, List.append_nil, List.length_cons, List.length_nil, List.replicate_zero, List.replicate_succ, Nat.sub_self, Nat.zero_add, List.getElem?_cons_zero, List.getElem?_cons_succ, List.set_cons_zero, List.set_cons_succ, if_true, if_false, Bool.false_eq_true, decide_true, decide_false, Bool.not_true, Bool.not_false, decide_eq_true_eq, eq_self, Int.cast_ofNat_Int, Int.natCast_zero, Int.natCast_one, Nat.reduceLeDiff, Nat.reduceSub, Nat.reduceAdd, Nat.reduceLT, reduceIte, reduceCtorEq, Int.reduceEq, Int.reduceLT, Int.reduceLE, Int.reduceNeg, Int.reduceAdd, Int.reduceSub, Int.reduceMul, Int.reduceNe, Int.reduceBNe, Int.reduceBEq, f_size, fr]
theorem is_less_ok (h : Sm 4000 p) (g : Sm 4000 q) : callK G (k + 1) i_is_less [fr p, fr q] S = some (.bl (decide (p < q)), S) := by
  rw [call_fn g_is_less rfl, ← lt_eq]
  have h1 := h.nm.mulOk g.dn (by decide)
  have h2 := g.nm.mulOk h.dn (by decide)
  simp only [E1, E2, E3, E4, E5, E6, E7, E8, E9, List.map_cons, List.map_nil, List.cons_append, List.nil_append, List.append_nil, List.length_cons, List.length_nil, List.replicate_zero, List.replicate_succ, Nat.sub_self, Nat.zero_add, List.getElem?_cons_zero, List.getElem?_cons_succ, List.set_cons_zero, List.set_cons_succ, if_true, if_false, Bool.false_eq_true, decide_true, decide_false, Bool.not_true, Bool.not_false, decide_eq_true_eq, eq_self, Int.cast_ofNat_Int, Int.natCast_zero, Int.natCast_one, Nat.reduceLeDiff, Nat.reduceSub, Nat.reduceAdd, Nat.reduceLT, reduceIte, reduceCtorEq, Int.reduceEq, Int.reduceLT, Int.reduceLE, Int.reduceNeg, Int.reduceAdd, Int.reduceSub, Int.reduceMul, Int.reduceNe, Int.reduceBNe, Int.reduceBEq, f_is_less, fr, h1, h2]
theorem is_most_ok (h : Sm 4000 p) (g : Sm 4000 q) : callK G (k + 1) i_is_most [fr p, fr q] S = some (.bl (decide (p ≤ q)), S) := by
  rw [call_fn g_is_most rfl, ← le_eq]
  have h1 := h.nm.mulOk g.dn (by decide)
  have h2 := g.nm.mulOk h.dn (by decide)
  simp only [E1, E2, E3, E4, E5, E6, E7, E8, E9, List.map_cons, List.map_nil, List.cons_append, List.nil_append, List.append_nil, List.length_cons, List.length_nil, List.replicate_zero, List.replicate_succ, Nat.sub_self, Nat.zero_add, List.getElem?_cons_zero, List.getElem?_cons_succ, List.set_cons_zero, List.set_cons_succ, if_true, if_false, Bool.false_eq_true, decide_true, decide_false, Bool.not_true, Bool.not_false, decide_eq_true_eq, eq_self, Int.cast_ofNat_Int, Int.natCast_zero, Int.natCast_one, Nat.reduceLeDiff, Nat.reduceSub, Nat.reduceAdd, Nat.reduceLT, reduceIte, reduceCtorEq, Int.reduceEq, Int.reduceLT, Int.reduceLE, Int.reduceNeg, Int.reduceAdd, Int.reduceSub, Int.reduceMul, Int.reduceNe, Int.reduceBNe, Int.reduceBEq, f_is_most, fr, h1, h2]
theorem lesser_ok (h : Sm 4000 p) (g : Sm 4000 q) : callK G (k + 2) i_lesser [fr p, fr q] S = some (fr (if q < p then q else p), S) := by
  rw [call_fn g_lesser rfl]
  by_cases c : q < p
  · simp only [E1, E2, E3, E4, E5, E6, E7, E8, E9, List.map_cons, List.map_nil, List.cons_append, List.nil_append, List.append_nil, List.length_cons, List.length_nil, List.replicate_zero, List.replicate_succ, Nat.sub_self, Nat.zero_add, List.getElem?_cons_zero, List.getElem?_cons_succ, List.set_cons_zero, List.set_cons_succ, if_true, if_false, Bool.false_eq_true, decide_true, decide_false, Bool.not_true, Bool.not_false, decide_eq_true_eq, eq_self, Int.cast_ofNat_Int, Int.natCast_zero, Int.natCast_one, Nat.reduceLeDiff, Nat.reduceSub, Nat.reduceAdd, Nat.reduceLT, reduceIte, reduceCtorEq, Int.reduceEq, Int.reduceLT, Int.reduceLE, Int.reduceNeg, Int.reduceAdd, Int.reduceSub, Int.reduceMul, Int.reduceNe, Int.reduceBNe, Int.reduceBEq, f_lesser, is_less_ok g h, c]
  · simp only [E1, E2, E3, E4, E5, E6, E7, E8, E9, List.map_cons, List.map_nil, List.cons_append, List.nil_append, List.append_nil, List.length_cons, List.length_nil, List.replicate_zero, List.replicate_succ, Nat.sub_self, Nat.zero_add, List.getElem?_cons_zero, List.getElem?_cons_succ, List.set_cons_zero, List.set_cons_succ, if_true, if_false, Bool.false_eq_true, decide_true, decide_false, Bool.not_true, Bool.not_false, decide_eq_true_eq, eq_self, Int.cast_ofNat_Int, Int.natCast_zero, Int.natCast_one, Nat.reduceLeDiff, Nat.reduceSub, Nat.reduceAdd, Nat.reduceLT, reduceIte, reduceCtorEq, Int.reduceEq, Int.reduceLT, Int.reduceLE, Int.reduceNeg, Int.reduceAdd, Int.reduceSub, Int.reduceMul, Int.reduceNe, Int.reduceBNe, Int.reduceBEq, f_lesser, is_less_ok g h, c]
theorem greater_ok (h : Sm 4000 p) (g : Sm 4000 q) : callK G (k + 2) i_greater [fr p, fr q] S = some (fr (if p < q then q else p), S) := by
  rw [call_fn g_greater rfl]
  by_cases c : p < q
  · simp only [E1, E2, E3, E4, E5, E6, E7, E8, E9, List.map_cons, List.map_nil, List.cons_append, List.nil_append, List.append_nil, List.length_cons, List.length_nil, List.replicate_zero, List.replicate_succ, Nat.sub_self, Nat.zero_add, List.getElem?_cons_zero, List.getElem?_cons_succ, List.set_cons_zero, List.set_cons_succ, if_true, if_false, Bool.false_eq_true, decide_true, decide_false, Bool.not_true, Bool.not_false, decide_eq_true_eq, eq_self, Int.cast_ofNat_Int, Int.natCast_zero, Int.natCast_one, Nat.reduceLeDiff, Nat.reduceSub, Nat.reduceAdd, Nat.reduceLT, reduceIte, reduceCtorEq, Int.reduceEq, Int.reduceLT, Int.reduceLE, Int.reduceNeg, Int.reduceAdd, Int.reduceSub, Int.reduceMul, Int.reduceNe, Int.reduceBNe, Int.reduceBEq, f_greater, is_less_ok h g, c]
  · simp only [E1, E2, E3, E4, E5, E6, E7, E8, E9, List.map_cons, List.map_nil, List.cons_append, List.nil_append, List.append_nil, List.length_cons, List.length_nil, List.replicate_zero, List.replicate_succ, Nat.sub_self, Nat.zero_add, List.getElem?_cons_zero, List.getElem?_cons_succ, List.set_cons_zero, List.set_cons_succ, if_true, if_false, Bool.false_eq_true, decide_true, decide_false, Bool.not_true, Bool.not_false, decide_eq_true_eq, eq_self, Int.cast_ofNat_Int, Int.natCast_zero, Int.natCast_one, Nat.reduceLeDiff, Nat.reduceSub, Nat.reduceAdd, Nat.reduceLT, reduceIte, reduceCtorEq, Int.reduceEq, Int.reduceLT, Int.reduceLE, Int.reduceNeg, Int.reduceAdd, Int.reduceSub, Int.reduceMul, Int.reduceNe, Int.reduceBNe, Int.reduceBEq, f_greater, is_less_ok h g, c]
end

end Rw.Pk08

namespace Rw.Pk08
open PySem L2 Rw
section
variable {k : Nat} {S : Sto}
/-- alike data are found alike -/
theorem same_turn {cl : Nat → List D → Sto → Rs D} {d : D} {ds : List D} {n : Nat} {a0 a1 a3 a4 a5 a6 a7 : Option D} (hd : okD n d = true) (hn : n ≤ 60) (hl : szD d + szDs ds ≤ 1000000) :
    ∃ (b3 b4 b5 b6 b7 : Option D) (es : List D) , evSs G cl b__law_same_0 [a0, a1, some (.ref S.length), a3, a4, a5, a6, a7] (S ++ [.lst ((ds ++ [d]).map dup)]) = some (.nx [a0, a1, some (.ref S.length), b3, b4, b5, b6, b7], S ++ [.lst ((ds ++ es).map dup)]) ∧ okDs n es = true ∧ szDs es < szD d := by
  have hlen : ∀ xs : List D, xs.length ≤ szDs xs := by
    intro xs
    induction xs with
    | nil => exact Nat.le_refl _
    | cons x xs ih =>
      show xs.length + 1 ≤ szD x + szDs xs
      have : 1 ≤ szD x := by cases x <;> simp [szD]
      omega
  have hds := hlen ds
  have he : (ds ++ [d]).map dup = ds.map dup ++ [dup d] := by simp
  rw [he]
  cases d with
  | non =>
    refine ⟨some .non, some .non, a5, a6, a7, [], ?_, rfl, Nat.zero_lt_one⟩
    simp only [E1, E2, E3, E4, E5, E6, E7, E8, E9, List.map_cons, List.map_nil, List.cons_append, List.nil_append, List.append_nil, List.length_cons, List.length_nil, List.replicate_zero, List.replicate_succ, Nat.sub_self, Nat.zero_add, List.getElem?_cons_zero, List.getElem?_cons_succ, List.set_cons_zero, List.set_cons_succ, if_true, if_false, Bool.false_eq_true, decide_true, decide_false, Bool.not_true, Bool.not_false, decide_eq_true_eq, eq_self, Int.cast_ofNat_Int, Int.natCast_zero, Int.natCast_one, Nat.reduceLeDiff, Nat.reduceSub, Nat.reduceAdd, Nat.reduceLT, reduceIte, reduceCtorEq, Int.reduceEq, Int.reduceLT, Int.reduceLE, Int.reduceNeg, Int.reduceAdd, Int.reduceSub, Int.reduceMul, Int.reduceNe, Int.reduceBNe, Int.reduceBEq, b__law_same_0, getRef, pop_new, dup]
  | bl b =>
    refine ⟨some (.bl b), some (.bl b), a5, a6, a7, [], ?_, rfl, Nat.zero_lt_one⟩
    simp only [E1, E2, E3, E4, E5, E6, E7, E8, E9, List.map_cons, List.map_nil, List.cons_append, List.nil_append, List.append_nil, List.length_cons, List.length_nil, List.replicate_zero, List.replicate_succ, Nat.sub_self, Nat.zero_add, List.getElem?_cons_zero, List.getElem?_cons_succ, List.set_cons_zero, List.set_cons_succ, if_true, if_false, Bool.false_eq_true, decide_true, decide_false, Bool.not_true, Bool.not_false, decide_eq_true_eq, eq_self, Int.cast_ofNat_Int, Int.natCast_zero, Int.natCast_one, Nat.reduceLeDiff, Nat.reduceSub, Nat.reduceAdd, Nat.reduceLT, reduceIte, reduceCtorEq, Int.reduceEq, Int.reduceLT, Int.reduceLE, Int.reduceNeg, Int.reduceAdd, Int.reduceSub, Int.reduceMul, Int.reduceNe, Int.reduceBNe, Int.reduceBEq, b__law_same_0, getRef, pop_new, dup]
  | int b =>
    refine ⟨some (.int b), some (.int b), a5, a6, a7, [], ?_, rfl, Nat.zero_lt_one⟩
    simp only [E1, E2, E3, E4, E5, E6, E7, E8, E9, List.map_cons, List.map_nil, List.cons_append, List.nil_append, List.append_nil, List.length_cons, List.length_nil, List.replicate_zero, List.replicate_succ, Nat.sub_self, Nat.zero_add, List.getElem?_cons_zero, List.getElem?_cons_succ, List.set_cons_zero, List.set_cons_succ, if_true, if_false, Bool.false_eq_true, decide_true, decide_false, Bool.not_true, Bool.not_false, decide_eq_true_eq, eq_self, Int.cast_ofNat_Int, Int.natCast_zero, Int.natCast_one, Nat.reduceLeDiff, Nat.reduceSub, Nat.reduceAdd, Nat.reduceLT, reduceIte, reduceCtorEq, Int.reduceEq, Int.reduceLT, Int.reduceLE, Int.reduceNeg, Int.reduceAdd, Int.reduceSub, Int.reduceMul, Int.reduceNe, Int.reduceBNe, Int.reduceBEq, b__law_same_0, getRef, pop_new, dup]
  | str b =>
    refine ⟨some (.str b), some (.str b), a5, a6, a7, [], ?_, rfl, Nat.zero_lt_one⟩
    simp only [E1, E2, E3, E4, E5, E6, E7, E8, E9, List.map_cons, List.map_nil, List.cons_append, List.nil_append, List.append_nil, List.length_cons, List.length_nil, List.replicate_zero, List.replicate_succ, Nat.sub_self, Nat.zero_add, List.getElem?_cons_zero, List.getElem?_cons_succ, List.set_cons_zero, List.set_cons_succ, if_true, if_false, Bool.false_eq_true, decide_true, decide_false, Bool.not_true, Bool.not_false, decide_eq_true_eq, eq_self, Int.cast_ofNat_Int, Int.natCast_zero, Int.natCast_one, Nat.reduceLeDiff, Nat.reduceSub, Nat.reduceAdd, Nat.reduceLT, reduceIte, reduceCtorEq, Int.reduceEq, Int.reduceLT, Int.reduceLE, Int.reduceNeg, Int.reduceAdd, Int.reduceSub, Int.reduceMul, Int.reduceNe, Int.reduceBNe, Int.reduceBEq, b__law_same_0, getRef, pop_new, dup]
  | tup xs =>
    cases n with
    | zero => exact absurd (show false = true from hd) Bool.false_ne_true
    | succ n =>
      obtain ⟨h1, h2⟩ := bk (show (okDs n xs && decide (xs.length ≤ sizeLine)) = true from hd)
      have hx := hlen xs
      have hz : szD (.tup xs) = 1 + szDs xs := rfl
      refine ⟨some (.tup xs), some (.tup xs), a5, a6, a7, xs, ?_, okDs_mono (Nat.le_succ n) h1, by omega⟩
      have hr := rng_nat (n := xs.length) (by omega)
      have hc : compL none ((List.range xs.length).map fun (i : Nat) => D.int (i : Int)) (ctn G cl e__law_same_4 (.name 7) .none [a0, a1, some (.ref S.length), some (.tup xs), some (.tup xs), a5, a6, none]) ((List.range xs.length).map fun (i : Nat) => D.int (i : Int)) (S ++ [.lst (ds.map dup)]) [] = some (xs.map dup, S ++ [.lst (ds.map dup)]) := by
        rw [compL_map (f := fun x => match x with
          | .int i => dup (xs[i.toNat]?.getD .non)
          | _ => .non), by_place _ dup]
        · simp
        · intro i hi
          simp [hi]
        · intro x hx
          obtain ⟨i, hi, rfl⟩ := List.mem_map.mp hx
          have hi := List.mem_range.mp hi
          have hat := at_nat hi
          unfold ctn
          simp only [E1, E2, E3, E4, E5, E6, E7, E8, E9, List.map_cons, List.map_nil, List.cons_append, List.nil_append, List.append_nil, List.length_cons, List.length_nil, List.replicate_zero, List.replicate_succ, Nat.sub_self, Nat.zero_add, List.getElem?_cons_zero, List.getElem?_cons_succ, List.set_cons_zero, List.set_cons_succ, if_true, if_false, Bool.false_eq_true, decide_true, decide_false, Bool.not_true, Bool.not_false, decide_eq_true_eq, eq_self, Int.cast_ofNat_Int, Int.natCast_zero, Int.natCast_one, Nat.reduceLeDiff, Nat.reduceSub, Nat.reduceAdd, Nat.reduceLT, reduceIte, reduceCtorEq, Int.reduceEq, Int.reduceLT, Int.reduceLE, Int.reduceNeg, Int.reduceAdd, Int.reduceSub, Int.reduceMul, Int.reduceNe, Int.reduceBNe, Int.reduceBEq, e__law_same_4, hat]
          simp [hi, dup]
      have hL : (ds.map dup).length + (xs.map dup).length ≤ sizeLine := le_size (by simp; omega)
      have hL2 : xs.length ≤ sizeLine := le_size (by omega)
      simp only [E1, E2, E3, E4, E5, E6, E7, E8, E9, List.map_cons, List.map_nil, List.cons_append, List.nil_append, List.append_nil, List.length_cons, List.length_nil, List.replicate_zero, List.replicate_succ, Nat.sub_self, Nat.zero_add, List.getElem?_cons_zero, List.getElem?_cons_succ, List.set_cons_zero, List.set_cons_succ, if_true, if_false, Bool.false_eq_true, decide_true, decide_false, Bool.not_true, Bool.not_false, decide_eq_true_eq, eq_self, Int.cast_ofNat_Int, Int.natCast_zero, Int.natCast_one, Nat.reduceLeDiff, Nat.reduceSub, Nat.reduceAdd, Nat.reduceLT, reduceIte, reduceCtorEq, Int.reduceEq, Int.reduceLT, Int.reduceLE, Int.reduceNeg, Int.reduceAdd, Int.reduceSub, Int.reduceMul, Int.reduceNe, Int.reduceBNe, Int.reduceBEq, b__law_same_0, getRef, pop_new, dup, hr, wipe_nil, wipe_cons, hc, List.length_range, List.length_map, hL2]
      simp only [E1, E2, E3, E4, E5, E6, E7, E8, E9, List.map_cons, List.map_nil, List.cons_append, List.nil_append, List.append_nil, List.length_cons, List.length_nil, List.replicate_zero, List.replicate_succ, Nat.sub_self, Nat.zero_add, List.getElem?_cons_zero, List.getElem?_cons_succ, List.set_cons_zero, List.set_cons_succ, if_true, if_false, Bool.false_eq_true, decide_true, decide_false, Bool.not_true, Bool.not_false, decide_eq_true_eq, eq_self, Int.cast_ofNat_Int, Int.natCast_zero, Int.natCast_one, Nat.reduceLeDiff, Nat.reduceSub, Nat.reduceAdd, Nat.reduceLT, reduceIte, reduceCtorEq, Int.reduceEq, Int.reduceLT, Int.reduceLE, Int.reduceNeg, Int.reduceAdd, Int.reduceSub, Int.reduceMul, Int.reduceNe, Int.reduceBNe, Int.reduceBEq, ext_new, hL, List.map_append]
  | lst xs =>
    cases n with
    | zero => exact absurd (show false = true from hd) Bool.false_ne_true
    | succ n =>
      obtain ⟨h1, h2⟩ := bk (show (okDs n xs && decide (xs.length ≤ sizeLine)) = true from hd)
      have hx := hlen xs
      have hz : szD (.lst xs) = 1 + szDs xs := rfl
      refine ⟨some (.lst xs), some (.lst xs), a5, a6, a7, xs, ?_, okDs_mono (Nat.le_succ n) h1, by omega⟩
      have hr := rng_nat (n := xs.length) (by omega)
      have hc : compL none ((List.range xs.length).map fun (i : Nat) => D.int (i : Int)) (ctn G cl e__law_same_4 (.name 7) .none [a0, a1, some (.ref S.length), some (.lst xs), some (.lst xs), a5, a6, none]) ((List.range xs.length).map fun (i : Nat) => D.int (i : Int)) (S ++ [.lst (ds.map dup)]) [] = some (xs.map dup, S ++ [.lst (ds.map dup)]) := by
        rw [compL_map (f := fun x => match x with
          | .int i => dup (xs[i.toNat]?.getD .non)
          | _ => .non), by_place _ dup]
        · simp
        · intro i hi
          simp [hi]
        · intro x hx
          obtain ⟨i, hi, rfl⟩ := List.mem_map.mp hx
          have hi := List.mem_range.mp hi
          have hat := at_nat hi
          unfold ctn
          simp only [E1, E2, E3, E4, E5, E6, E7, E8, E9, List.map_cons, List.map_nil, List.cons_append, List.nil_append, List.append_nil, List.length_cons, List.length_nil, List.replicate_zero, List.replicate_succ, Nat.sub_self, Nat.zero_add, List.getElem?_cons_zero, List.getElem?_cons_succ, List.set_cons_zero, List.set_cons_succ, if_true, if_false, Bool.false_eq_true, decide_true, decide_false, Bool.not_true, Bool.not_false, decide_eq_true_eq, eq_self, Int.cast_ofNat_Int, Int.natCast_zero, Int.natCast_one, Nat.reduceLeDiff, Nat.reduceSub, Nat.reduceAdd, Nat.reduceLT, reduceIte, reduceCtorEq, Int.reduceEq, Int.reduceLT, Int.reduceLE, Int.reduceNeg, Int.reduceAdd, Int.reduceSub, Int.reduceMul, Int.reduceNe, Int.reduceBNe, Int.reduceBEq, e__law_same_4, hat]
          simp [hi, dup]
      have hL : (ds.map dup).length + (xs.map dup).length ≤ sizeLine := le_size (by simp; omega)
      have hL2 : xs.length ≤ sizeLine := le_size (by omega)
      simp only [E1, E2, E3, E4, E5, E6, E7, E8, E9, List.map_cons, List.map_nil, List.cons_append, List.nil_append, List.append_nil, List.length_cons, List.length_nil, List.replicate_zero, List.replicate_succ, Nat.sub_self, Nat.zero_add, List.getElem?_cons_zero, List.getElem?_cons_succ, List.set_cons_zero, List.set_cons_succ, if_true, if_false, Bool.false_eq_true, decide_true, decide_false, Bool.not_true, Bool.not_false, decide_eq_true_eq, eq_self, Int.cast_ofNat_Int, Int.natCast_zero, Int.natCast_one, Nat.reduceLeDiff, Nat.reduceSub, Nat.reduceAdd, Nat.reduceLT, reduceIte, reduceCtorEq, Int.reduceEq, Int.reduceLT, Int.reduceLE, Int.reduceNeg, Int.reduceAdd, Int.reduceSub, Int.reduceMul, Int.reduceNe, Int.reduceBNe, Int.reduceBEq, b__law_same_0, getRef, pop_new, dup, hr, wipe_nil, wipe_cons, hc, List.length_range, List.length_map, hL2]
      simp only [E1, E2, E3, E4, E5, E6, E7, E8, E9, List.map_cons, List.map_nil, List.cons_append, List.nil_append, List.append_nil, List.length_cons, List.length_nil, List.replicate_zero, List.replicate_succ, Nat.sub_self, Nat.zero_add, List.getElem?_cons_zero, List.getElem?_cons_succ, List.set_cons_zero, List.set_cons_succ, if_true, if_false, Bool.false_eq_true, decide_true, decide_false, Bool.not_true, Bool.not_false, decide_eq_true_eq, eq_self, Int.cast_ofNat_Int, Int.natCast_zero, Int.natCast_one, Nat.reduceLeDiff, Nat.reduceSub, Nat.reduceAdd, Nat.reduceLT, reduceIte, reduceCtorEq, Int.reduceEq, Int.reduceLT, Int.reduceLE, Int.reduceNeg, Int.reduceAdd, Int.reduceSub, Int.reduceMul, Int.reduceNe, Int.reduceBNe, Int.reduceBEq, ext_new, hL, List.map_append]
  | flst _ => cases n <;> exact absurd (show false = true from hd) Bool.false_ne_true
  | ref _ => cases n <;> exact absurd (show false = true from hd) Bool.false_ne_true
  | ty _ => cases n <;> exact absurd (show false = true from hd) Bool.false_ne_true
theorem same_loop {cl : Nat → List D → Sto → Rs D} {n : Nat} (hn : n ≤ 60) (m : Nat) : ∀ (ds : List D) (a0 a1 a3 a4 a5 a6 a7 : Option D), szDs ds ≤ m → szDs ds ≤ 1000000 → okDs n ds = true →
    ∃ (b3 b4 b5 b6 b7 : Option D), whE (evT G cl c__law_same_0) (evSs G cl b__law_same_0) [a0, a1, some (.ref S.length), a3, a4, a5, a6, a7] (S ++ [.lst (ds.map dup)]) = some (.nx [a0, a1, some (.ref S.length), b3, b4, b5, b6, b7], S ++ [.lst []]) := by
  induction m with
  | zero =>
    intro ds a0 a1 a3 a4 a5 a6 a7 hm h1 ho
    cases ds with
    | nil =>
      refine ⟨a3, a4, a5, a6, a7, whE_end ?_⟩
      have := ne_nil (S := S) (ds := []) (n := 0) rfl (by decide)
      simp only [E1, E2, E3, E4, E5, E6, E7, E8, E9, List.map_cons, List.map_nil, List.cons_append, List.nil_append, List.append_nil, List.length_cons, List.length_nil, List.replicate_zero, List.replicate_succ, Nat.sub_self, Nat.zero_add, List.getElem?_cons_zero, List.getElem?_cons_succ, List.set_cons_zero, List.set_cons_succ, if_true, if_false, Bool.false_eq_true, decide_true, decide_false, Bool.not_true, Bool.not_false, decide_eq_true_eq, eq_self, Int.cast_ofNat_Int, Int.natCast_zero, Int.natCast_one, Nat.reduceLeDiff, Nat.reduceSub, Nat.reduceAdd, Nat.reduceLT, reduceIte, reduceCtorEq, Int.reduceEq, Int.reduceLT, Int.reduceLE, Int.reduceNeg, Int.reduceAdd, Int.reduceSub, Int.reduceMul, Int.reduceNe, Int.reduceBNe, Int.reduceBEq, c__law_same_0, this, List.isEmpty_nil]
    | cons d ds =>
      have : szDs (d :: ds) = szD d + szDs ds := rfl
      have : 1 ≤ szD d := by cases d <;> simp [szD]
      omega
  | succ m ih =>
    intro ds a0 a1 a3 a4 a5 a6 a7 hm h1 ho
    rcases List.eq_nil_or_concat ds with rfl | ⟨es, d, rfl⟩
    · exact ih [] a0 a1 a3 a4 a5 a6 a7 (Nat.zero_le _) (Nat.zero_le _) rfl
    · rw [List.concat_eq_append] at *
      rw [szDs_ap] at hm h1
      have ho' := ho
      rw [okDs_ap] at ho
      obtain ⟨o1, o2⟩ := bk ho
      have o3 : okD n d = true := (bk (show (okD n d && true) = true from o2)).1
      have e1 : szDs [d] = szD d := by simp [szDs]
      obtain ⟨b3, b4, b5, b6, b7, fs, hb, hf, hs⟩ := same_turn (S := S) (cl := cl) (d := d) (ds := es) (a0 := a0) (a1 := a1) (a3 := a3) (a4 := a4) (a5 := a5) (a6 := a6) (a7 := a7) o3 hn (by omega)
      obtain ⟨c3, c4, c5, c6, c7, h⟩ := ih (es ++ fs) a0 a1 b3 b4 b5 b6 b7 (by rw [szDs_ap]; omega) (by rw [szDs_ap]; omega) (by rw [okDs_ap, o1, hf]; rfl)
      refine ⟨c3, c4, c5, c6, c7, whE_turn ?_ hb h⟩
      have hok : okDs (n + 1) ((es ++ [d]).map dup) = true := dup_ok ho'
      have := ne_nil (S := S) hok (by omega)
      simp only [E1, E2, E3, E4, E5, E6, E7, E8, E9, List.map_cons, List.map_nil, List.cons_append, List.nil_append, List.append_nil, List.length_cons, List.length_nil, List.replicate_zero, List.replicate_succ, Nat.sub_self, Nat.zero_add, List.getElem?_cons_zero, List.getElem?_cons_succ, List.set_cons_zero, List.set_cons_succ, if_true, if_false, Bool.false_eq_true, decide_true, decide_false, Bool.not_true, Bool.not_false, decide_eq_true_eq, eq_self, Int.cast_ofNat_Int, Int.natCast_zero, Int.natCast_one, Nat.reduceLeDiff, Nat.reduceSub, Nat.reduceAdd, Nat.reduceLT, reduceIte, reduceCtorEq, Int.reduceEq, Int.reduceLT, Int.reduceLE, Int.reduceNeg, Int.reduceAdd, Int.reduceSub, Int.reduceMul, Int.reduceNe, Int.reduceBNe, Int.reduceBEq, c__law_same_0, this]
      simp
theorem same_ok {d : D} {n : Nat} (h : okD n d = true) (hn : n ≤ 60) (hz : szD d ≤ 1000000) : callK G (k + 1) i__law_same [d, d] S = some (.bl true, S) := by
  rw [call_fn g__law_same rfl]
  have hd : okDs n [d] = true := by
    show (okD n d && true) = true
    rw [h]
    rfl
  obtain ⟨b3, b4, b5, b6, b7, hl⟩ := same_loop (S := S) (cl := callK G k) hn (szD d) [d] (some d) (some d) none none none none none (by simp [szDs]) (by simp [szDs]; omega) hd
  have hl' : whE (evT G (callK G k) c__law_same_0) (evSs G (callK G k) b__law_same_0) [some d, some d, some (.ref S.length), none, none, none, none, none] (S ++ [.lst [.tup [d, d]]]) = some (.nx [some d, some d, some (.ref S.length), b3, b4, b5, b6, b7], S ++ [.lst []]) := hl
  simp only [E1, E2, E3, E4, E5, E6, E7, E8, E9, List.map_cons, List.map_nil, List.cons_append, List.nil_append, List.append_nil, List.length_cons, List.length_nil, List.replicate_zero, List.replicate_succ, Nat.sub_self, Nat.zero_add, List.getElem?_cons_zero, List.getElem?_cons_succ, List.set_cons_zero, List.set_cons_succ, if_true, if_false, Bool.false_eq_true, decide_true, decide_false, Bool.not_true, Bool.not_false, decide_eq_true_eq, eq_self, Int.cast_ofNat_Int, Int.natCast_zero, Int.natCast_one, Nat.reduceLeDiff, Nat.reduceSub, Nat.reduceAdd, Nat.reduceLT, reduceIte, reduceCtorEq, Int.reduceEq, Int.reduceLT, Int.reduceLE, Int.reduceNeg, Int.reduceAdd, Int.reduceSub, Int.reduceMul, Int.reduceNe, Int.reduceBNe, Int.reduceBEq, f__law_same, hl', prune_one bl_bl]
end

section
variable {k : Nat} {S T : Sto}
def wC (L : List D) (a : Int) : Cell := .dk [(.inr "draws", .lst L), (.inr "at", .int a)]
theorem w_at0 {L : List D} {a : Int} : (wC L a :: T)[0]? = some (wC L a) := rfl
/-- the next draw -/
theorem next_ok {L : List D} {a m : Int} (hL : ∀ d ∈ L, ∃ x : Int, d = .int x) (hm : 0 < m) (ha : 0 ≤ a) : ∃ v : Int, 0 ≤ v ∧ v < m ∧ callK G (k + 1) i__law_next [.ref 0, .int m] (wC L a :: T) = some (.int v, wC L (a + 1) :: T) := by
  rw [call_fn g__law_next rfl]
  have hs : ¬ (("draws" : Str) = ("at" : Str)) := by decide +kernel
  have hz : 2 < sizeLine := by rw [size_eq]; decide
  have e1 : augGet (wC L a :: T) (.ref 0) (.str "at") = some (.int a) := by
    simp [augGet, wC, keyD, lookK, hs]
  have e2 : putI (wC L a :: T) (.ref 0) (.str "at") (.int (a + 1)) = some (wC L (a + 1) :: T) := by
    simp [putI, wC, keyD, storeK, hz, hs]
  have e3 : idxD (wC L (a + 1) :: T) (.ref 0) (.str "at") = some (.int (a + 1)) := by
    simp [idxD, wC, keyD, lookK, hs]
  have e4 : idxD (wC L (a + 1) :: T) (.ref 0) (.str "draws") = some (.lst L) := by
    simp [idxD, wC, keyD, lookK, hs]
  have pl : ∀ d, prune (wC L a :: T) d (wC L (a + 1) :: T) = (d, wC L (a + 1) :: T) := fun d => prune_len rfl
  by_cases c : (L.length : Int) < a + 1
  · refine ⟨0, Int.le_refl _, hm, ?_⟩
    simp only [E1, E2, E3, E4, E5, E6, E7, E8, E9, List.map_cons, List.map_nil, List.cons_append, List.nil_append, List.append_nil, List.length_cons, List.length_nil, List.replicate_zero, List.replicate_succ, Nat.sub_self, Nat.zero_add, List.getElem?_cons_zero, List.getElem?_cons_succ, List.set_cons_zero, List.set_cons_succ, if_true, if_false, Bool.false_eq_true, decide_true, decide_false, Bool.not_true, Bool.not_false, decide_eq_true_eq, eq_self, Int.cast_ofNat_Int, Int.natCast_zero, Int.natCast_one, Nat.reduceLeDiff, Nat.reduceSub, Nat.reduceAdd, Nat.reduceLT, reduceIte, reduceCtorEq, Int.reduceEq, Int.reduceLT, Int.reduceLE, Int.reduceNeg, Int.reduceAdd, Int.reduceSub, Int.reduceMul, Int.reduceNe, Int.reduceBNe, Int.reduceBEq, f__law_next, e1, e2, e3, e4, c, pl]
  · have hi : (a.toNat) < L.length := by omega
    have hat : atI L (a + 1 - 1) = some L[a.toNat] := by
      have := at_nat hi
      rw [show a + 1 - 1 = ((a.toNat : Nat) : Int) by omega]
      exact this
    obtain ⟨x, hx⟩ := hL _ (List.getElem_mem hi)
    refine ⟨x.fmod m, Int.fmod_nonneg_of_pos _ hm, Int.fmod_lt_of_pos _ hm, ?_⟩
    have hm' : m ≠ 0 := by omega
    simp only [E1, E2, E3, E4, E5, E6, E7, E8, E9, List.map_cons, List.map_nil, List.cons_append, List.nil_append, List.append_nil, List.length_cons, List.length_nil, List.replicate_zero, List.replicate_succ, Nat.sub_self, Nat.zero_add, List.getElem?_cons_zero, List.getElem?_cons_succ, List.set_cons_zero, List.set_cons_succ, if_true, if_false, Bool.false_eq_true, decide_true, decide_false, Bool.not_true, Bool.not_false, decide_eq_true_eq, eq_self, Int.cast_ofNat_Int, Int.natCast_zero, Int.natCast_one, Nat.reduceLeDiff, Nat.reduceSub, Nat.reduceAdd, Nat.reduceLT, reduceIte, reduceCtorEq, Int.reduceEq, Int.reduceLT, Int.reduceLE, Int.reduceNeg, Int.reduceAdd, Int.reduceSub, Int.reduceMul, Int.reduceNe, Int.reduceBNe, Int.reduceBEq, f__law_next, e1, e2, e3, e4, c, pl, hat, hx, hm', ne_eq, not_false_eq_true]
theorem p18 : powOk 10 18 := by
  refine ⟨by decide, by decide, ?_⟩
  show (10 : Nat) < 2 ^ 64
  decide
theorem d997 : divOk 997 := ⟨by decide, by decide +kernel⟩
theorem draws_rest {cl : Nat → List D → Sto → Rs D} {a0 a1 a3 a4 a5 a7 : Option D} {c : Int} {xs : List Int} (hc : 0 ≤ c) (hl : xs.length ≤ 100000) :
    ∃ (c' : Int) (b7 : Option D) (ys : List Int), forL none ((List.range 60).map fun (i : Nat) => D.int (i : Int)) (fbd G cl (.name 7) b__law_draws_1) ((List.range 60).map fun (i : Nat) => D.int (i : Int)) [a0, a1, some (.ref S.length), a3, a4, a5, some (.int c), a7] (S ++ [.lst (xs.map D.int)]) = some (.nx [a0, a1, some (.ref S.length), a3, a4, a5, some (.int c'), b7], S ++ [.lst (ys.map D.int)]) ∧ ys.length ≤ xs.length + 60 := by
  have := forL_run (all := (List.range 60).map fun (i : Nat) => D.int (i : Int)) (body := fbd G cl (.name 7) b__law_draws_1) (xs := (List.range 60).map fun (i : Nat) => D.int (i : Int)) (ρ := [a0, a1, some (.ref S.length), a3, a4, a5, some (.int c), a7]) (S := S ++ [.lst (xs.map D.int)])
    (I := fun i ρ S' => ∃ (c' : Int) (b7 : Option D) (ys : List Int), ρ = [a0, a1, some (.ref S.length), a3, a4, a5, some (.int c'), b7] ∧ S' = S ++ [.lst (ys.map D.int)] ∧ ys.length ≤ xs.length + i) ?_ ⟨c, a7, xs, rfl, rfl, Nat.le_refl _⟩
  · obtain ⟨ρ1, S1, h, c', b7, ys, rfl, rfl, hy⟩ := this
    exact ⟨c', b7, ys, h, by simpa using hy⟩
  · rintro i x ρ S' hx ⟨c', b7, ys, rfl, rfl, hy⟩
    have hi : i < 60 := by
      have := (List.getElem?_eq_some_iff.mp hx).1
      simpa using this
    by_cases hp : 0 < c'
    · have hl' : (ys.map D.int).length < sizeLine := by
        have : (ys.map D.int).length + 1 ≤ sizeLine := le_size (by simp; omega)
        omega
      refine ⟨[a0, a1, some (.ref S.length), a3, a4, a5, some (.int (c'.fdiv 997)), some x], S ++ [.lst ((ys ++ [c'.fmod 997]).map D.int)], ?_, c'.fdiv 997, some x, _, rfl, rfl, by simp; omega⟩
      unfold fbd
      simp only [E1, E2, E3, E4, E5, E6, E7, E8, E9, List.map_cons, List.map_nil, List.cons_append, List.nil_append, List.append_nil, List.length_cons, List.length_nil, List.replicate_zero, List.replicate_succ, Nat.sub_self, Nat.zero_add, List.getElem?_cons_zero, List.getElem?_cons_succ, List.set_cons_zero, List.set_cons_succ, if_true, if_false, Bool.false_eq_true, decide_true, decide_false, Bool.not_true, Bool.not_false, decide_eq_true_eq, eq_self, Int.cast_ofNat_Int, Int.natCast_zero, Int.natCast_one, Nat.reduceLeDiff, Nat.reduceSub, Nat.reduceAdd, Nat.reduceLT, reduceIte, reduceCtorEq, Int.reduceEq, Int.reduceLT, Int.reduceLE, Int.reduceNeg, Int.reduceAdd, Int.reduceSub, Int.reduceMul, Int.reduceNe, Int.reduceBNe, Int.reduceBEq, b__law_draws_1, hp, getRef, ap_new, hl', d997, ne_eq, not_false_eq_true, List.map_append]
    · refine ⟨_, _, ?_, c', some x, ys, rfl, rfl, by omega⟩
      unfold fbd
      simp only [E1, E2, E3, E4, E5, E6, E7, E8, E9, List.map_cons, List.map_nil, List.cons_append, List.nil_append, List.append_nil, List.length_cons, List.length_nil, List.replicate_zero, List.replicate_succ, Nat.sub_self, Nat.zero_add, List.getElem?_cons_zero, List.getElem?_cons_succ, List.set_cons_zero, List.set_cons_succ, if_true, if_false, Bool.false_eq_true, decide_true, decide_false, Bool.not_true, Bool.not_false, decide_eq_true_eq, eq_self, Int.cast_ofNat_Int, Int.natCast_zero, Int.natCast_one, Nat.reduceLeDiff, Nat.reduceSub, Nat.reduceAdd, Nat.reduceLT, reduceIte, reduceCtorEq, Int.reduceEq, Int.reduceLT, Int.reduceLE, Int.reduceNeg, Int.reduceAdd, Int.reduceSub, Int.reduceMul, Int.reduceNe, Int.reduceBNe, Int.reduceBEq, b__law_draws_1, hp]
theorem draws_ok {ns : List Int} {m : Nat} (hn : ns.length ≤ 63) (hm : m ≤ 30000) : ∃ L : List Int, callK G (k + 1) i__law_draws [.flst (ns.map D.int), .int (m : Int)] S = some (.lst (L.map D.int), S) := by
  rw [call_fn g__law_draws rfl]
  have r1 := rng_nat (n := ns.length) (by omega)
  have r2 := rng_nat (n := m) (by omega)
  have r3 := rng_nat (n := 60) (by omega)
  obtain ⟨ρ1, S1, h1, x4, x5, x6, x7, mx, ys, rfl, rfl, hmx, hys⟩ := forL_run (all := (List.range ns.length).map fun (i : Nat) => D.int (i : Int)) (body := fbd G (callK G k) (.name 4) b__law_draws_0) (xs := (List.range ns.length).map fun (i : Nat) => D.int (i : Int)) (ρ := [some (.flst (ns.map D.int)), some (.int (m : Int)), some (.ref S.length), some (.int 7), none, none, none, none]) (S := S ++ [.lst []])
    (I := fun i ρ S' => ∃ (x4 x5 x6 x7 : Option D) (mx : Int) (ys : List Int), ρ = [some (.flst (ns.map D.int)), some (.int (m : Int)), some (.ref S.length), some (.int mx), x4, x5, x6, x7] ∧ S' = S ++ [.lst (ys.map D.int)] ∧ Bd 17 mx ∧ ys.length ≤ 62 * i)
    (by
      rintro i x ρ S' hx ⟨x4, x5, x6, x7, mx, ys, rfl, rfl, hmx, hys⟩
      have hi : i < ns.length := by
        have := (List.getElem?_eq_some_iff.mp hx).1
        simpa using this
      have hxi : x = .int (i : Int) := by
        have := (List.getElem?_eq_some_iff.mp hx).2
        simpa using this.symm
      subst hxi
      have hat := at_nat (xs := ns.map D.int) (n := i) (by simpa using hi)
      simp only [List.getElem_map] at hat
      have m1 := hmx.mulOk (n := 17) (m := 16) (b := 48271) (show (48271 : Nat) < 2 ^ 16 by decide) (by decide)
      have hp : (10 : Int) ^ (18 : Int).toNat = 1000000000000000000 := by decide
      have z1 : (1000003 : Int) ≠ 0 := by decide
      have z2 : (65537 : Int) ≠ 0 := by decide
      have b2 : ∀ z : Int, Bd 17 (z.fmod 65537) := fun z => by
        have h1 := Int.fmod_nonneg_of_pos z (b := 65537) (by decide)
        have h2 := Int.fmod_lt_of_pos z (b := 65537) (by decide)
        show (z.fmod 65537).natAbs < 131072
        omega
      by_cases c : (1000000000000000000 : Int) ≤ (ns[i].natAbs : Int)
      · obtain ⟨c', b7, zs, h, hz⟩ := draws_rest (S := S) (cl := callK G k) (a0 := some (.flst (ns.map D.int))) (a1 := some (.int (m : Int))) (a3 := some (.int ((mx * 48271 + ((ns[i].natAbs : Int)).fmod 1000003 + i).fmod 65537))) (a4 := some (.int (i : Int))) (a5 := some (.int (ns[i].natAbs : Int))) (a7 := x7) (c := (ns[i].natAbs : Int)) (xs := ys) (by omega) (by omega)
        refine ⟨_, _, ?_, some (.int (i : Int)), some (.int (ns[i].natAbs : Int)), some (.int c'), b7, (mx * 48271 + ((ns[i].natAbs : Int)).fmod 1000003 + i).fmod 65537, zs, rfl, rfl, b2 _, by omega⟩
        unfold fbd
        simp only [E1, E2, E3, E4, E5, E6, E7, E8, E9, List.map_cons, List.map_nil, List.cons_append, List.nil_append, List.append_nil, List.length_cons, List.length_nil, List.replicate_zero, List.replicate_succ, Nat.sub_self, Nat.zero_add, List.getElem?_cons_zero, List.getElem?_cons_succ, List.set_cons_zero, List.set_cons_succ, if_true, if_false, Bool.false_eq_true, decide_true, decide_false, Bool.not_true, Bool.not_false, decide_eq_true_eq, eq_self, Int.cast_ofNat_Int, Int.natCast_zero, Int.natCast_one, Nat.reduceLeDiff, Nat.reduceSub, Nat.reduceAdd, Nat.reduceLT, reduceIte, reduceCtorEq, Int.reduceEq, Int.reduceLT, Int.reduceLE, Int.reduceNeg, Int.reduceAdd, Int.reduceSub, Int.reduceMul, Int.reduceNe, Int.reduceBNe, Int.reduceBEq, b__law_draws_0, hat, abs_nat, m1, p18, hp, c, ne_eq, not_false_eq_true]
        rw [show (60 : Int) = ((60 : Nat) : Int) from rfl, r3]
        simp only [E1, E2, E3, E4, E5, E6, E7, E8, E9, List.map_cons, List.map_nil, List.cons_append, List.nil_append, List.append_nil, List.length_cons, List.length_nil, List.replicate_zero, List.replicate_succ, Nat.sub_self, Nat.zero_add, List.getElem?_cons_zero, List.getElem?_cons_succ, List.set_cons_zero, List.set_cons_succ, if_true, if_false, Bool.false_eq_true, decide_true, decide_false, Bool.not_true, Bool.not_false, decide_eq_true_eq, eq_self, Int.cast_ofNat_Int, Int.natCast_zero, Int.natCast_one, Nat.reduceLeDiff, Nat.reduceSub, Nat.reduceAdd, Nat.reduceLT, reduceIte, reduceCtorEq, Int.reduceEq, Int.reduceLT, Int.reduceLE, Int.reduceNeg, Int.reduceAdd, Int.reduceSub, Int.reduceMul, Int.reduceNe, Int.reduceBNe, Int.reduceBEq, List.length_map, List.length_range]
        rw [h]
        simp only [E1, E2, E3, E4, E5, E6, E7, E8, E9, List.map_cons, List.map_nil, List.cons_append, List.nil_append, List.append_nil, List.length_cons, List.length_nil, List.replicate_zero, List.replicate_succ, Nat.sub_self, Nat.zero_add, List.getElem?_cons_zero, List.getElem?_cons_succ, List.set_cons_zero, List.set_cons_succ, if_true, if_false, Bool.false_eq_true, decide_true, decide_false, Bool.not_true, Bool.not_false, decide_eq_true_eq, eq_self, Int.cast_ofNat_Int, Int.natCast_zero, Int.natCast_one, Nat.reduceLeDiff, Nat.reduceSub, Nat.reduceAdd, Nat.reduceLT, reduceIte, reduceCtorEq, Int.reduceEq, Int.reduceLT, Int.reduceLE, Int.reduceNeg, Int.reduceAdd, Int.reduceSub, Int.reduceMul, Int.reduceNe, Int.reduceBNe, Int.reduceBEq]
      · have hl1 : (ys.map D.int).length < sizeLine := by
          have : (ys.map D.int).length + 1 ≤ sizeLine := le_size (by simp; omega)
          omega
        have hl2 : (ys.map D.int).length + 1 < sizeLine := by
          have : (ys.map D.int).length + 1 + 1 ≤ sizeLine := le_size (by simp; omega)
          omega
        have m2 := (b2 (mx * 48271 + ((ns[i].natAbs : Int)).fmod 1000003 + i)).mulOk (n := 17) (m := 17) (b := 69621) (show (69621 : Nat) < 2 ^ 17 by decide) (by decide)
        obtain ⟨c', b7, zs, h, hz⟩ := draws_rest (S := S) (cl := callK G k) (a0 := some (.flst (ns.map D.int))) (a1 := some (.int (m : Int))) (a3 := some (.int ((mx * 48271 + ((ns[i].natAbs : Int)).fmod 1000003 + i).fmod 65537))) (a4 := some (.int (i : Int))) (a5 := some (.int (ns[i].natAbs : Int))) (a7 := x7) (c := 0) (xs := ys ++ [((ns[i].natAbs : Int)).fmod 997, (((mx * 48271 + ((ns[i].natAbs : Int)).fmod 1000003 + i).fmod 65537 * 69621 + 5).fmod 65521).fmod 997]) (by omega) (by simp; omega)
        refine ⟨_, _, ?_, some (.int (i : Int)), some (.int (ns[i].natAbs : Int)), some (.int c'), b7, (mx * 48271 + ((ns[i].natAbs : Int)).fmod 1000003 + i).fmod 65537, zs, rfl, rfl, b2 _, by simp at hz; omega⟩
        unfold fbd
        simp only [E1, E2, E3, E4, E5, E6, E7, E8, E9, List.map_cons, List.map_nil, List.cons_append, List.nil_append, List.append_nil, List.length_cons, List.length_nil, List.replicate_zero, List.replicate_succ, Nat.sub_self, Nat.zero_add, List.getElem?_cons_zero, List.getElem?_cons_succ, List.set_cons_zero, List.set_cons_succ, if_true, if_false, Bool.false_eq_true, decide_true, decide_false, Bool.not_true, Bool.not_false, decide_eq_true_eq, eq_self, Int.cast_ofNat_Int, Int.natCast_zero, Int.natCast_one, Nat.reduceLeDiff, Nat.reduceSub, Nat.reduceAdd, Nat.reduceLT, reduceIte, reduceCtorEq, Int.reduceEq, Int.reduceLT, Int.reduceLE, Int.reduceNeg, Int.reduceAdd, Int.reduceSub, Int.reduceMul, Int.reduceNe, Int.reduceBNe, Int.reduceBEq, b__law_draws_0, hat, abs_nat, m1, m2, p18, hp, c, ne_eq, not_false_eq_true, getRef, ap_new, hl1, hl2, List.length_append]
        rw [show (60 : Int) = ((60 : Nat) : Int) from rfl, r3]
        simp only [List.map_append, List.map_cons, List.map_nil] at h
        simp only [E1, E2, E3, E4, E5, E6, E7, E8, E9, List.map_cons, List.map_nil, List.cons_append, List.nil_append, List.append_nil, List.length_cons, List.length_nil, List.replicate_zero, List.replicate_succ, Nat.sub_self, Nat.zero_add, List.getElem?_cons_zero, List.getElem?_cons_succ, List.set_cons_zero, List.set_cons_succ, if_true, if_false, Bool.false_eq_true, decide_true, decide_false, Bool.not_true, Bool.not_false, decide_eq_true_eq, eq_self, Int.cast_ofNat_Int, Int.natCast_zero, Int.natCast_one, Nat.reduceLeDiff, Nat.reduceSub, Nat.reduceAdd, Nat.reduceLT, reduceIte, reduceCtorEq, Int.reduceEq, Int.reduceLT, Int.reduceLE, Int.reduceNeg, Int.reduceAdd, Int.reduceSub, Int.reduceMul, Int.reduceNe, Int.reduceBNe, Int.reduceBEq, List.append_assoc, h])
    ⟨none, none, none, none, 7, [], rfl, rfl, (by show (7 : Nat) < 2 ^ 17; decide), Nat.le_refl _⟩
  obtain ⟨ρ2, S2, h2, y4, y5, y6, y7, my, zs, rfl, rfl, hmy, hzs⟩ := forL_run (all := (List.range m).map fun (i : Nat) => D.int (i : Int)) (body := fbd G (callK G k) (.name 4) b__law_draws_2) (xs := (List.range m).map fun (i : Nat) => D.int (i : Int)) (ρ := [some (.flst (ns.map D.int)), some (.int (m : Int)), some (.ref S.length), some (.int mx), x4, x5, x6, x7]) (S := S ++ [.lst (ys.map D.int)])
    (I := fun i ρ S' => ∃ (x4 x5 x6 x7 : Option D) (mx : Int) (zs : List Int), ρ = [some (.flst (ns.map D.int)), some (.int (m : Int)), some (.ref S.length), some (.int mx), x4, x5, x6, x7] ∧ S' = S ++ [.lst (zs.map D.int)] ∧ Bd 17 mx ∧ zs.length ≤ 62 * 63 + i)
    (by
      rintro i x ρ S' hx ⟨x4, x5, x6, x7, mx, zs, rfl, rfl, hmx, hzs⟩
      have hi : i < m := by
        have := (List.getElem?_eq_some_iff.mp hx).1
        simpa using this
      have hxi : x = .int (i : Int) := by
        have := (List.getElem?_eq_some_iff.mp hx).2
        simpa using this.symm
      subst hxi
      have m1 := hmx.mulOk (n := 17) (m := 15) (b := 16807) (show (16807 : Nat) < 2 ^ 15 by decide) (by decide)
      have hl1 : (zs.map D.int).length < sizeLine := by
        have : (zs.map D.int).length + 1 ≤ sizeLine := le_size (by simp; omega)
        omega
      refine ⟨_, _, ?_, some (.int (i : Int)), x5, x6, x7, (mx * 16807 + i + 1).fmod 65537, zs ++ [((mx * 16807 + i + 1).fmod 65537).fmod 997], rfl, rfl, ?_, by simp; omega⟩
      · unfold fbd
        simp only [E1, E2, E3, E4, E5, E6, E7, E8, E9, List.map_cons, List.map_nil, List.cons_append, List.nil_append, List.append_nil, List.length_cons, List.length_nil, List.replicate_zero, List.replicate_succ, Nat.sub_self, Nat.zero_add, List.getElem?_cons_zero, List.getElem?_cons_succ, List.set_cons_zero, List.set_cons_succ, if_true, if_false, Bool.false_eq_true, decide_true, decide_false, Bool.not_true, Bool.not_false, decide_eq_true_eq, eq_self, Int.cast_ofNat_Int, Int.natCast_zero, Int.natCast_one, Nat.reduceLeDiff, Nat.reduceSub, Nat.reduceAdd, Nat.reduceLT, reduceIte, reduceCtorEq, Int.reduceEq, Int.reduceLT, Int.reduceLE, Int.reduceNeg, Int.reduceAdd, Int.reduceSub, Int.reduceMul, Int.reduceNe, Int.reduceBNe, Int.reduceBEq, b__law_draws_2, m1, ne_eq, not_false_eq_true, getRef, ap_new, hl1, List.map_append]
      · have h1 := Int.fmod_nonneg_of_pos (mx * 16807 + i + 1) (b := 65537) (by decide)
        have h2 := Int.fmod_lt_of_pos (mx * 16807 + i + 1) (b := 65537) (by decide)
        show ((mx * 16807 + i + 1).fmod 65537).natAbs < 131072
        omega)
    ⟨x4, x5, x6, x7, mx, ys, rfl, rfl, hmx, by simp at hys; omega⟩
  refine ⟨cutD zs none (some (m : Int)), ?_⟩
  have hcut : slD (S ++ [.lst (zs.map D.int)]) (.ref S.length) none (some (m : Int)) = some (.lst ((cutD zs none (some (m : Int))).map D.int)) := by
    show (lstOf (S ++ [.lst (zs.map D.int)]) (.ref S.length)).map _ = _
    rw [getRef]
    simp [cutD, List.map_take, List.map_drop]
  have hb : below S.length (.lst ((cutD zs none (some (m : Int))).map D.int)) = true := bls_map (f := D.int) (fun _ => rfl) _
  simp only [E1, E2, E3, E4, E5, E6, E7, E8, E9, List.map_cons, List.map_nil, List.cons_append, List.nil_append, List.append_nil, List.length_cons, List.length_nil, List.replicate_zero, List.replicate_succ, Nat.sub_self, Nat.zero_add, List.getElem?_cons_zero, List.getElem?_cons_succ, List.set_cons_zero, List.set_cons_succ, if_true, if_false, Bool.false_eq_true, decide_true, decide_false, Bool.not_true, Bool.not_false, decide_eq_true_eq, eq_self, Int.cast_ofNat_Int, Int.natCast_zero, Int.natCast_one, Nat.reduceLeDiff, Nat.reduceSub, Nat.reduceAdd, Nat.reduceLT, reduceIte, reduceCtorEq, Int.reduceEq, Int.reduceLT, Int.reduceLE, Int.reduceNeg, Int.reduceAdd, Int.reduceSub, Int.reduceMul, Int.reduceNe, Int.reduceBNe, Int.reduceBEq, f__law_draws, r1, r2, len_f, List.length_map, h1, h2, hcut, prune_one hb]
end

end Rw.Pk08

namespace Rw.Pk08
open PySem L2 Rw
section
variable {k : Nat} {S : Sto} {p q r : Rat} {n : Nat}
theorem least_loop {cl : Nat → List D → Sto → Rs D} {x y : Option D} : ∀ n m : Nat, whE (evT G cl c__law_least_0) (evSs G cl b__law_least_0) [x, y, some (.int m), some (.int n)] S = some (.nx [x, y, some (.int (Nat.gcd m n : Nat)), some (.int 0)], S) := by
  intro n
  induction n using Nat.strongRecOn with
  | ind n ih =>
    intro m
    by_cases e : n = 0
    · subst e
      refine (whE_end (S1 := S) ?_).trans ?_
      · simp only [E1, E2, E3, E4, E5, E6, E7, E8, E9, List.map_cons, List.map_nil, List.cons_append, List.nil_append, List.append_nil, List.length_cons, List.length_nil, List.replicate_zero, List.replicate_succ, Nat.sub_self, Nat.zero_add, List.getElem?_cons_zero, List.getElem?_cons_succ, List.set_cons_zero, List.set_cons_succ, if_true, if_false, Bool.false_eq_true, decide_true, decide_false, Bool.not_true, Bool.not_false, decide_eq_true_eq, eq_self, Int.cast_ofNat_Int, Int.natCast_zero, Int.natCast_one, Nat.reduceLeDiff, Nat.reduceSub, Nat.reduceAdd, Nat.reduceLT, reduceIte, reduceCtorEq, Int.reduceEq, Int.reduceLT, Int.reduceLE, Int.reduceNeg, Int.reduceAdd, Int.reduceSub, Int.reduceMul, Int.reduceNe, Int.reduceBNe, Int.reduceBEq, c__law_least_0]
      · rw [Nat.gcd_zero_right]
        rfl
    · refine whE_turn (S1 := S) (ρ2 := [x, y, some (.int n), some (.int ((m % n : Nat) : Int))]) (S2 := S) ?_ ?_ ((ih (m % n) (Nat.mod_lt _ (by omega)) n).trans ?_)
      · have : (0 : Int) < (n : Int) := by omega
        simp only [E1, E2, E3, E4, E5, E6, E7, E8, E9, List.map_cons, List.map_nil, List.cons_append, List.nil_append, List.append_nil, List.length_cons, List.length_nil, List.replicate_zero, List.replicate_succ, Nat.sub_self, Nat.zero_add, List.getElem?_cons_zero, List.getElem?_cons_succ, List.set_cons_zero, List.set_cons_succ, if_true, if_false, Bool.false_eq_true, decide_true, decide_false, Bool.not_true, Bool.not_false, decide_eq_true_eq, eq_self, Int.cast_ofNat_Int, Int.natCast_zero, Int.natCast_one, Nat.reduceLeDiff, Nat.reduceSub, Nat.reduceAdd, Nat.reduceLT, reduceIte, reduceCtorEq, Int.reduceEq, Int.reduceLT, Int.reduceLE, Int.reduceNeg, Int.reduceAdd, Int.reduceSub, Int.reduceMul, Int.reduceNe, Int.reduceBNe, Int.reduceBEq, c__law_least_0, this]
      · have : (n : Int) ≠ 0 := by omega
        simp only [E1, E2, E3, E4, E5, E6, E7, E8, E9, List.map_cons, List.map_nil, List.cons_append, List.nil_append, List.append_nil, List.length_cons, List.length_nil, List.replicate_zero, List.replicate_succ, Nat.sub_self, Nat.zero_add, List.getElem?_cons_zero, List.getElem?_cons_succ, List.set_cons_zero, List.set_cons_succ, if_true, if_false, Bool.false_eq_true, decide_true, decide_false, Bool.not_true, Bool.not_false, decide_eq_true_eq, eq_self, Int.cast_ofNat_Int, Int.natCast_zero, Int.natCast_one, Nat.reduceLeDiff, Nat.reduceSub, Nat.reduceAdd, Nat.reduceLT, reduceIte, reduceCtorEq, Int.reduceEq, Int.reduceLT, Int.reduceLE, Int.reduceNeg, Int.reduceAdd, Int.reduceSub, Int.reduceMul, Int.reduceNe, Int.reduceBNe, Int.reduceBEq, b__law_least_0, this, fmod_nat, ne_eq, not_false_eq_true]
      · rw [Nat.gcd_comm m n, Nat.gcd_rec n m, Nat.gcd_comm]
theorem least_ok {u l : Int} (h : l ≠ 0) (b : Bd 8999 l) : callK G (k + 1) i__law_least [.int u, .int l] S = some (fr (Rat.divInt u l), S) := by
  have hd : divOk (if 0 < l then (Int.gcd u l : Int) else -(Int.gcd u l : Int)) := by
    split
    · exact (gcd_bd h b).divOk (gcd_ne h) (by omega)
    · exact (gcd_bd h b).neg.divOk (by have := gcd_ne (u := u) h; omega) (by omega)
  have hg : ((Nat.gcd u.natAbs l.natAbs : Nat) : Int) = (Int.gcd u l : Int) := rfl
  rw [call_fn g__law_least rfl, fr_div h]
  by_cases c : 0 < l
  · simp only [c, if_true] at hd ⊢
    simp only [E1, E2, E3, E4, E5, E6, E7, E8, E9, List.map_cons, List.map_nil, List.cons_append, List.nil_append, List.append_nil, List.length_cons, List.length_nil, List.replicate_zero, List.replicate_succ, Nat.sub_self, Nat.zero_add, List.getElem?_cons_zero, List.getElem?_cons_succ, List.set_cons_zero, List.set_cons_succ, if_true, if_false, Bool.false_eq_true, decide_true, decide_false, Bool.not_true, Bool.not_false, decide_eq_true_eq, eq_self, Int.cast_ofNat_Int, Int.natCast_zero, Int.natCast_one, Nat.reduceLeDiff, Nat.reduceSub, Nat.reduceAdd, Nat.reduceLT, reduceIte, reduceCtorEq, Int.reduceEq, Int.reduceLT, Int.reduceLE, Int.reduceNeg, Int.reduceAdd, Int.reduceSub, Int.reduceMul, Int.reduceNe, Int.reduceBNe, Int.reduceBEq, f__law_least, c, abs_nat, least_loop, hg, hd]
  · simp only [c, if_false] at hd ⊢
    simp only [E1, E2, E3, E4, E5, E6, E7, E8, E9, List.map_cons, List.map_nil, List.cons_append, List.nil_append, List.append_nil, List.length_cons, List.length_nil, List.replicate_zero, List.replicate_succ, Nat.sub_self, Nat.zero_add, List.getElem?_cons_zero, List.getElem?_cons_succ, List.set_cons_zero, List.set_cons_succ, if_true, if_false, Bool.false_eq_true, decide_true, decide_false, Bool.not_true, Bool.not_false, decide_eq_true_eq, eq_self, Int.cast_ofNat_Int, Int.natCast_zero, Int.natCast_one, Nat.reduceLeDiff, Nat.reduceSub, Nat.reduceAdd, Nat.reduceLT, reduceIte, reduceCtorEq, Int.reduceEq, Int.reduceLT, Int.reduceLE, Int.reduceNeg, Int.reduceAdd, Int.reduceSub, Int.reduceMul, Int.reduceNe, Int.reduceBNe, Int.reduceBEq, f__law_least, c, abs_nat, least_loop, hg, Int.zero_sub, hd]
theorem least_mul (h : Sm 4000 p) (g : Sm 4000 q) : callK G (k + 1) i__law_least [.int (p.num * q.num), .int ((p.den : Int) * (q.den : Int))] S = some (fr (p * q), S) := by
  rw [mul_eq]
  exact least_ok (Int.mul_ne_zero den_ne den_ne) ((h.dn.mul g.dn).mono (by decide))
theorem least_quo (h : Sm 4000 p) (g : Sm 4000 q) (z : q.num ≠ 0) : callK G (k + 1) i__law_least [.int (p.num * (q.den : Int)), .int ((p.den : Int) * q.num)] S = some (fr (p / q), S) := by
  rw [div_eq]
  exact least_ok (Int.mul_ne_zero den_ne z) ((h.dn.mul g.nm).mono (by decide))
theorem least_add (h : Sm 4000 p) (g : Sm 4000 q) : callK G (k + 1) i__law_least [.int (p.num * (q.den : Int) + q.num * (p.den : Int)), .int ((p.den : Int) * (q.den : Int))] S = some (fr (p + q), S) := by
  rw [add_eq]
  exact least_ok (Int.mul_ne_zero den_ne den_ne) ((h.dn.mul g.dn).mono (by decide))
/-- the sum of small fractions, as the law takes it -/
theorem lsum_loop {all : List D} {x : Option D} (hn : n ≤ 4000) : ∀ (qs : List Rat) (q0 : Rat) (m : Nat) (y z : Option D), Sm m q0 → (∀ q ∈ qs, Sm n q) → m + qs.length * (n + 1) ≤ 4000 → ∃ y' z', forL none all (fbd G (callK G (k + 1)) (.tup (.cons (.name 3) (.cons (.name 4) .nil))) b__law_sum_0) (qs.map fr) [x, some (.int q0.num), some (.int (q0.den : Int)), y, z] S = some (.nx [x, some (.int (qs.foldl (· + ·) q0).num), some (.int ((qs.foldl (· + ·) q0).den : Int)), y', z'], S)
  | [], q0, m, y, z, _, _, _ => ⟨y, z, forL_nil⟩
  | q :: qs, q0, m, y, z, h0, hq, hl => by
    have hl' : (qs.length + 1) * (n + 1) = qs.length * (n + 1) + (n + 1) := Nat.succ_mul _ _
    have hl2 : m + ((qs.length + 1) * (n + 1)) ≤ 4000 := hl
    have h1 : Sm n q := hq q List.mem_cons_self
    obtain ⟨y', z', e⟩ := lsum_loop (all := all) (x := x) hn qs (q0 + q) (m + n + 1) (some (.int q.num)) (some (.int (q.den : Int))) (h0.add h1) (fun r hr => hq r (List.mem_cons_of_mem _ hr)) (by omega)
    refine ⟨y', z', (forL_cons (ρ1 := [x, some (.int (q0 + q).num), some (.int ((q0 + q).den : Int)), some (.int q.num), some (.int (q.den : Int))]) (S1 := S) ?_).trans e⟩
    have o1 := (h0.mono (show m ≤ 4000 by omega)).nm.mulOk h1.dn (by omega)
    have o2 := h1.nm.mulOk (h0.mono (show m ≤ 4000 by omega)).dn (by omega)
    have o3 := (h0.mono (show m ≤ 4000 by omega)).dn.mulOk h1.dn (by omega)
    have hla := least_add (k := k) (S := S) (h0.mono (show m ≤ 4000 by omega)) (h1.mono hn)
    unfold fbd
    simp only [E1, E2, E3, E4, E5, E6, E7, E8, E9, List.map_cons, List.map_nil, List.cons_append, List.nil_append, List.append_nil, List.length_cons, List.length_nil, List.replicate_zero, List.replicate_succ, Nat.sub_self, Nat.zero_add, List.getElem?_cons_zero, List.getElem?_cons_succ, List.set_cons_zero, List.set_cons_succ, if_true, if_false, Bool.false_eq_true, decide_true, decide_false, Bool.not_true, Bool.not_false, decide_eq_true_eq, eq_self, Int.cast_ofNat_Int, Int.natCast_zero, Int.natCast_one, Nat.reduceLeDiff, Nat.reduceSub, Nat.reduceAdd, Nat.reduceLT, reduceIte, reduceCtorEq, Int.reduceEq, Int.reduceLT, Int.reduceLE, Int.reduceNeg, Int.reduceAdd, Int.reduceSub, Int.reduceMul, Int.reduceNe, Int.reduceBNe, Int.reduceBEq, b__law_sum_0, fr, o1, o2, o3]
    rw [hla]
    simp only [E1, E2, E3, E4, E5, E6, E7, E8, E9, List.map_cons, List.map_nil, List.cons_append, List.nil_append, List.append_nil, List.length_cons, List.length_nil, List.replicate_zero, List.replicate_succ, Nat.sub_self, Nat.zero_add, List.getElem?_cons_zero, List.getElem?_cons_succ, List.set_cons_zero, List.set_cons_succ, if_true, if_false, Bool.false_eq_true, decide_true, decide_false, Bool.not_true, Bool.not_false, decide_eq_true_eq, eq_self, Int.cast_ofNat_Int, Int.natCast_zero, Int.natCast_one, Nat.reduceLeDiff, Nat.reduceSub, Nat.reduceAdd, Nat.reduceLT, reduceIte, reduceCtorEq, Int.reduceEq, Int.reduceLT, Int.reduceLE, Int.reduceNeg, Int.reduceAdd, Int.reduceSub, Int.reduceMul, Int.reduceNe, Int.reduceBNe, Int.reduceBEq, fr]
theorem lsum_ok {qs : List Rat} (hq : ∀ q ∈ qs, Sm n q) (hn : n ≤ 4000) (hl : 1 + qs.length * (n + 1) ≤ 4000) : callK G (k + 2) i__law_sum [.lst (qs.map fr)] S = some (fr (frSum qs), S) := by
  rw [call_fn g__law_sum rfl]
  have h0 : Sm 1 0 := ⟨by decide, by decide⟩
  obtain ⟨y, z, e⟩ := lsum_loop (k := k) (S := S) (all := qs.map fr) (x := some (.lst (qs.map fr))) hn qs 0 1 none none h0 hq hl
  rw [show (0 : Rat).num = 0 from rfl, show (((0 : Rat).den : Nat) : Int) = 1 from rfl] at e
  simp only [E1, E2, E3, E4, E5, E6, E7, E8, E9, List.map_cons, List.map_nil, List.cons_append, List.nil_append, List.append_nil, List.length_cons, List.length_nil, List.replicate_zero, List.replicate_succ, Nat.sub_self, Nat.zero_add, List.getElem?_cons_zero, List.getElem?_cons_succ, List.set_cons_zero, List.set_cons_succ, if_true, if_false, Bool.false_eq_true, decide_true, decide_false, Bool.not_true, Bool.not_false, decide_eq_true_eq, eq_self, Int.cast_ofNat_Int, Int.natCast_zero, Int.natCast_one, Nat.reduceLeDiff, Nat.reduceSub, Nat.reduceAdd, Nat.reduceLT, reduceIte, reduceCtorEq, Int.reduceEq, Int.reduceLT, Int.reduceLE, Int.reduceNeg, Int.reduceAdd, Int.reduceSub, Int.reduceMul, Int.reduceNe, Int.reduceBNe, Int.reduceBEq, f__law_sum, e]
  rfl
end

end Rw.Pk08

namespace Rw.Pk08
open PySem L2 Rw
section
variable {k : Nat} {S : Sto} {a b c d p q : Rat} {n : Nat}
def sp (a b : Rat) : D := .tup [fr a, fr b]
theorem idx_sp0 : idxD S (sp a b) (.int 0) = some (fr a) := at_0
theorem idx_sp1 : idxD S (sp a b) (.int 1) = some (fr b) := at_1
theorem ty_sp : tyName S (sp a b) = some "tuple" := nrfl rfl
theorem it_sp : itemsOf S (sp a b) = some ([fr a, fr b], none) := nrfl rfl
theorem sp_mk : D.tup [fr a, fr b] = sp a b := nrfl rfl
theorem lesser_ok' (h : Sm 4000 p) (g : Sm 4000 q) : callK G (k + 2) i_lesser [fr p, fr q] S = some (fr (lo2 p q), S) := lesser_ok h g
theorem greater_ok' (h : Sm 4000 p) (g : Sm 4000 q) : callK G (k + 2) i_greater [fr p, fr q] S = some (fr (hi2 p q), S) := greater_ok h g
theorem is_in_ok (ha : Sm 4000 a) (hb : Sm 4000 b) (hp : Sm 4000 p) : callK G (k + 2) i_is_in [sp a b, fr p] S = some (.bl (decide (a ≤ p) && decide (p ≤ b)), S) := by
  rw [call_fn g_is_in rfl]
  by_cases e : a ≤ p
  · simp only [E1, E2, E3, E4, E5, E6, E7, E8, E9, List.map_cons, List.map_nil, List.cons_append, List.nil_append, List.append_nil, List.length_cons, List.length_nil, List.replicate_zero, List.replicate_succ, Nat.sub_self, Nat.zero_add, List.getElem?_cons_zero, List.getElem?_cons_succ, List.set_cons_zero, List.set_cons_succ, if_true, if_false, Bool.false_eq_true, decide_true, decide_false, Bool.not_true, Bool.not_false, decide_eq_true_eq, eq_self, Int.cast_ofNat_Int, Int.natCast_zero, Int.natCast_one, Nat.reduceLeDiff, Nat.reduceSub, Nat.reduceAdd, Nat.reduceLT, reduceIte, reduceCtorEq, Int.reduceEq, Int.reduceLT, Int.reduceLE, Int.reduceNeg, Int.reduceAdd, Int.reduceSub, Int.reduceMul, Int.reduceNe, Int.reduceBNe, Int.reduceBEq, f_is_in, idx_sp0, idx_sp1, is_most_ok ha hp, is_most_ok hp hb, e, Bool.true_and]
  · simp only [E1, E2, E3, E4, E5, E6, E7, E8, E9, List.map_cons, List.map_nil, List.cons_append, List.nil_append, List.append_nil, List.length_cons, List.length_nil, List.replicate_zero, List.replicate_succ, Nat.sub_self, Nat.zero_add, List.getElem?_cons_zero, List.getElem?_cons_succ, List.set_cons_zero, List.set_cons_succ, if_true, if_false, Bool.false_eq_true, decide_true, decide_false, Bool.not_true, Bool.not_false, decide_eq_true_eq, eq_self, Int.cast_ofNat_Int, Int.natCast_zero, Int.natCast_one, Nat.reduceLeDiff, Nat.reduceSub, Nat.reduceAdd, Nat.reduceLT, reduceIte, reduceCtorEq, Int.reduceEq, Int.reduceLT, Int.reduceLE, Int.reduceNeg, Int.reduceAdd, Int.reduceSub, Int.reduceMul, Int.reduceNe, Int.reduceBNe, Int.reduceBEq, f_is_in, idx_sp0, idx_sp1, is_most_ok ha hp, is_most_ok hp hb, e, Bool.false_and]
theorem is_inside_ok (ha : Sm 4000 a) (hb : Sm 4000 b) (hc : Sm 4000 c) (hd : Sm 4000 d) : callK G (k + 2) i_is_inside [sp a b, sp c d] S = some (.bl (decide (c ≤ a) && decide (b ≤ d)), S) := by
  rw [call_fn g_is_inside rfl]
  by_cases e : c ≤ a
  · simp only [E1, E2, E3, E4, E5, E6, E7, E8, E9, List.map_cons, List.map_nil, List.cons_append, List.nil_append, List.append_nil, List.length_cons, List.length_nil, List.replicate_zero, List.replicate_succ, Nat.sub_self, Nat.zero_add, List.getElem?_cons_zero, List.getElem?_cons_succ, List.set_cons_zero, List.set_cons_succ, if_true, if_false, Bool.false_eq_true, decide_true, decide_false, Bool.not_true, Bool.not_false, decide_eq_true_eq, eq_self, Int.cast_ofNat_Int, Int.natCast_zero, Int.natCast_one, Nat.reduceLeDiff, Nat.reduceSub, Nat.reduceAdd, Nat.reduceLT, reduceIte, reduceCtorEq, Int.reduceEq, Int.reduceLT, Int.reduceLE, Int.reduceNeg, Int.reduceAdd, Int.reduceSub, Int.reduceMul, Int.reduceNe, Int.reduceBNe, Int.reduceBEq, f_is_inside, idx_sp0, idx_sp1, is_most_ok hc ha, is_most_ok hb hd, e, Bool.true_and]
  · simp only [E1, E2, E3, E4, E5, E6, E7, E8, E9, List.map_cons, List.map_nil, List.cons_append, List.nil_append, List.append_nil, List.length_cons, List.length_nil, List.replicate_zero, List.replicate_succ, Nat.sub_self, Nat.zero_add, List.getElem?_cons_zero, List.getElem?_cons_succ, List.set_cons_zero, List.set_cons_succ, if_true, if_false, Bool.false_eq_true, decide_true, decide_false, Bool.not_true, Bool.not_false, decide_eq_true_eq, eq_self, Int.cast_ofNat_Int, Int.natCast_zero, Int.natCast_one, Nat.reduceLeDiff, Nat.reduceSub, Nat.reduceAdd, Nat.reduceLT, reduceIte, reduceCtorEq, Int.reduceEq, Int.reduceLT, Int.reduceLE, Int.reduceNeg, Int.reduceAdd, Int.reduceSub, Int.reduceMul, Int.reduceNe, Int.reduceBNe, Int.reduceBEq, f_is_inside, idx_sp0, idx_sp1, is_most_ok hc ha, is_most_ok hb hd, e, Bool.false_and]
theorem hull_ok (ha : Sm 4000 a) (hb : Sm 4000 b) (hc : Sm 4000 c) (hd : Sm 4000 d) : callK G (k + 3) i_hull [sp a b, sp c d] S = some (sp (lo2 a c) (hi2 b d), S) := by
  rw [call_fn g_hull rfl]
  simp only [E1, E2, E3, E4, E5, E6, E7, E8, E9, List.map_cons, List.map_nil, List.cons_append, List.nil_append, List.append_nil, List.length_cons, List.length_nil, List.replicate_zero, List.replicate_succ, Nat.sub_self, Nat.zero_add, List.getElem?_cons_zero, List.getElem?_cons_succ, List.set_cons_zero, List.set_cons_succ, if_true, if_false, Bool.false_eq_true, decide_true, decide_false, Bool.not_true, Bool.not_false, decide_eq_true_eq, eq_self, Int.cast_ofNat_Int, Int.natCast_zero, Int.natCast_one, Nat.reduceLeDiff, Nat.reduceSub, Nat.reduceAdd, Nat.reduceLT, reduceIte, reduceCtorEq, Int.reduceEq, Int.reduceLT, Int.reduceLE, Int.reduceNeg, Int.reduceAdd, Int.reduceSub, Int.reduceMul, Int.reduceNe, Int.reduceBNe, Int.reduceBEq, f_hull, idx_sp0, idx_sp1, lesser_ok' ha hc, greater_ok' hb hd]
  rfl
theorem hull_loop {all : List D} {r : Option D} : ∀ (xs : List Rat) (lo hi : Rat) (y : Option D), Sm 4000 lo → Sm 4000 hi → (∀ q ∈ xs, Sm 4000 q) → ∃ y', forL none all (fbd G (callK G (k + 2)) (.name 2) b_hull_of_0) (xs.map fr) [r, some (sp lo hi), y] S = some (.nx [r, some (sp (xs.foldl lo2 lo) (xs.foldl hi2 hi)), y'], S)
  | [], lo, hi, y, _, _, _ => ⟨y, forL_nil⟩
  | x :: xs, lo, hi, y, h1, h2, h3 => by
    have hx := h3 x List.mem_cons_self
    obtain ⟨y', e⟩ := hull_loop xs (lo2 lo x) (hi2 hi x) (some (fr x)) (h1.lo hx) (h2.hi hx) fun q hq => h3 q (List.mem_cons_of_mem _ hq)
    refine ⟨y', (forL_cons ?_).trans e⟩
    unfold fbd
    simp only [E1, E2, E3, E4, E5, E6, E7, E8, E9, List.map_cons, List.map_nil, List.cons_append, List.nil_append, List.append_nil, List.length_cons, List.length_nil, List.replicate_zero, List.replicate_succ, Nat.sub_self, Nat.zero_add, List.getElem?_cons_zero, List.getElem?_cons_succ, List.set_cons_zero, List.set_cons_succ, if_true, if_false, Bool.false_eq_true, decide_true, decide_false, Bool.not_true, Bool.not_false, decide_eq_true_eq, eq_self, Int.cast_ofNat_Int, Int.natCast_zero, Int.natCast_one, Nat.reduceLeDiff, Nat.reduceSub, Nat.reduceAdd, Nat.reduceLT, reduceIte, reduceCtorEq, Int.reduceEq, Int.reduceLT, Int.reduceLE, Int.reduceNeg, Int.reduceAdd, Int.reduceSub, Int.reduceMul, Int.reduceNe, Int.reduceBNe, Int.reduceBEq, b_hull_of_0, idx_sp0, idx_sp1, lesser_ok' h1 hx, greater_ok' h2 hx]
    rfl
def spH (p : Rat × Rat) : D := sp p.1 p.2
theorem hull_of_ok {x : Rat} {xs : List Rat} (h : ∀ q ∈ x :: xs, Sm 4000 q) : callK G (k + 3) i_hull_of [.lst (fr x :: xs.map fr)] S = some (spH (hullF x xs), S) := by
  rw [call_fn g_hull_of rfl]
  have hx := h x List.mem_cons_self
  obtain ⟨y', e⟩ := hull_loop (k := k) (S := S) (all := xs.map fr) (r := some (.lst (fr x :: xs.map fr))) xs x x none hx hx fun q hq => h q (List.mem_cons_of_mem _ hq)
  have e : forL none (xs.map fr) (fbd G (callK G (k + 2)) (.name 2) b_hull_of_0) (xs.map fr) [some (.lst (fr x :: xs.map fr)), some (.tup [fr x, fr x]), none] S = some (.nx [some (.lst (fr x :: xs.map fr)), some (sp (xs.foldl lo2 x) (xs.foldl hi2 x)), y'], S) := e
  simp only [E1, E2, E3, E4, E5, E6, E7, E8, E9, List.map_cons, List.map_nil, List.cons_append, List.nil_append, List.append_nil, List.length_cons, List.length_nil, List.replicate_zero, List.replicate_succ, Nat.sub_self, Nat.zero_add, List.getElem?_cons_zero, List.getElem?_cons_succ, List.set_cons_zero, List.set_cons_succ, if_true, if_false, Bool.false_eq_true, decide_true, decide_false, Bool.not_true, Bool.not_false, decide_eq_true_eq, eq_self, Int.cast_ofNat_Int, Int.natCast_zero, Int.natCast_one, Nat.reduceLeDiff, Nat.reduceSub, Nat.reduceAdd, Nat.reduceLT, reduceIte, reduceCtorEq, Int.reduceEq, Int.reduceLT, Int.reduceLE, Int.reduceNeg, Int.reduceAdd, Int.reduceSub, Int.reduceMul, Int.reduceNe, Int.reduceBNe, Int.reduceBEq, f_hull_of, cut_1, e]
  rfl
theorem point_ok : callK G (k + 1) i_point [fr a] S = some (sp a a, S) := by
  rw [call_fn g_point rfl]
  simp only [E1, E2, E3, E4, E5, E6, E7, E8, E9, List.map_cons, List.map_nil, List.cons_append, List.nil_append, List.append_nil, List.length_cons, List.length_nil, List.replicate_zero, List.replicate_succ, Nat.sub_self, Nat.zero_add, List.getElem?_cons_zero, List.getElem?_cons_succ, List.set_cons_zero, List.set_cons_succ, if_true, if_false, Bool.false_eq_true, decide_true, decide_false, Bool.not_true, Bool.not_false, decide_eq_true_eq, eq_self, Int.cast_ofNat_Int, Int.natCast_zero, Int.natCast_one, Nat.reduceLeDiff, Nat.reduceSub, Nat.reduceAdd, Nat.reduceLT, reduceIte, reduceCtorEq, Int.reduceEq, Int.reduceLT, Int.reduceLE, Int.reduceNeg, Int.reduceAdd, Int.reduceSub, Int.reduceMul, Int.reduceNe, Int.reduceBNe, Int.reduceBEq, f_point]
  rfl
theorem added_spans_ok (ha : Sm 4000 a) (hb : Sm 4000 b) (hc : Sm 4000 c) (hd : Sm 4000 d) : callK G (k + 4) i_added_spans [sp a b, sp c d] S = some (sp (a + c) (b + d), S) := by
  rw [call_fn g_added_spans rfl]
  simp only [E1, E2, E3, E4, E5, E6, E7, E8, E9, List.map_cons, List.map_nil, List.cons_append, List.nil_append, List.append_nil, List.length_cons, List.length_nil, List.replicate_zero, List.replicate_succ, Nat.sub_self, Nat.zero_add, List.getElem?_cons_zero, List.getElem?_cons_succ, List.set_cons_zero, List.set_cons_succ, if_true, if_false, Bool.false_eq_true, decide_true, decide_false, Bool.not_true, Bool.not_false, decide_eq_true_eq, eq_self, Int.cast_ofNat_Int, Int.natCast_zero, Int.natCast_one, Nat.reduceLeDiff, Nat.reduceSub, Nat.reduceAdd, Nat.reduceLT, reduceIte, reduceCtorEq, Int.reduceEq, Int.reduceLT, Int.reduceLE, Int.reduceNeg, Int.reduceAdd, Int.reduceSub, Int.reduceMul, Int.reduceNe, Int.reduceBNe, Int.reduceBEq, f_added_spans, idx_sp0, idx_sp1, added_ok ha hc, added_ok hb hd]
  rfl
theorem negated_span_ok : callK G (k + 2) i_negated_span [sp a b] S = some (sp (-b) (-a), S) := by
  rw [call_fn g_negated_span rfl]
  simp only [E1, E2, E3, E4, E5, E6, E7, E8, E9, List.map_cons, List.map_nil, List.cons_append, List.nil_append, List.append_nil, List.length_cons, List.length_nil, List.replicate_zero, List.replicate_succ, Nat.sub_self, Nat.zero_add, List.getElem?_cons_zero, List.getElem?_cons_succ, List.set_cons_zero, List.set_cons_succ, if_true, if_false, Bool.false_eq_true, decide_true, decide_false, Bool.not_true, Bool.not_false, decide_eq_true_eq, eq_self, Int.cast_ofNat_Int, Int.natCast_zero, Int.natCast_one, Nat.reduceLeDiff, Nat.reduceSub, Nat.reduceAdd, Nat.reduceLT, reduceIte, reduceCtorEq, Int.reduceEq, Int.reduceLT, Int.reduceLE, Int.reduceNeg, Int.reduceAdd, Int.reduceSub, Int.reduceMul, Int.reduceNe, Int.reduceBNe, Int.reduceBEq, f_negated_span, idx_sp0, idx_sp1, negated_ok]
  rfl
theorem taken_spans_ok (ha : Sm 4000 a) (hb : Sm 4000 b) (hc : Sm 4000 c) (hd : Sm 4000 d) : callK G (k + 5) i_taken_spans [sp a b, sp c d] S = some (sp (a - d) (b - c), S) := by
  rw [call_fn g_taken_spans rfl, Rat.sub_eq_add_neg, Rat.sub_eq_add_neg]
  simp only [E1, E2, E3, E4, E5, E6, E7, E8, E9, List.map_cons, List.map_nil, List.cons_append, List.nil_append, List.append_nil, List.length_cons, List.length_nil, List.replicate_zero, List.replicate_succ, Nat.sub_self, Nat.zero_add, List.getElem?_cons_zero, List.getElem?_cons_succ, List.set_cons_zero, List.set_cons_succ, if_true, if_false, Bool.false_eq_true, decide_true, decide_false, Bool.not_true, Bool.not_false, decide_eq_true_eq, eq_self, Int.cast_ofNat_Int, Int.natCast_zero, Int.natCast_one, Nat.reduceLeDiff, Nat.reduceSub, Nat.reduceAdd, Nat.reduceLT, reduceIte, reduceCtorEq, Int.reduceEq, Int.reduceLT, Int.reduceLE, Int.reduceNeg, Int.reduceAdd, Int.reduceSub, Int.reduceMul, Int.reduceNe, Int.reduceBNe, Int.reduceBEq, f_taken_spans, negated_span_ok, added_spans_ok ha hb hd.neg hc.neg]
theorem two_in {cl : Nat → List D → Sto → Rs D} {e : ME} {x y : Option D} {u v r s d0 : D} {all : List D} (h1 : evE G cl e [x, y, some u, some r] S = some (v, S)) (h2 : evE G cl e [x, y, some u, some s] S = some (d0, S)) (acc : List D) : compL none all (ctn G cl e (.name 3) .none [x, y, some u, none]) [r, s] S acc = some (acc ++ [v, d0], S) := by
  have e1 : ctn G cl e (.name 3) .none [x, y, some u, none] r S = some (some v, S) := by
    unfold ctn
    simp only [E1, E2, E3, E4, E5, E6, E7, E8, E9, List.map_cons, List.map_nil, List.cons_append, List.nil_append, List.append_nil, List.length_cons, List.length_nil, List.replicate_zero, List.replicate_succ, Nat.sub_self, Nat.zero_add, List.getElem?_cons_zero, List.getElem?_cons_succ, List.set_cons_zero, List.set_cons_succ, if_true, if_false, Bool.false_eq_true, decide_true, decide_false, Bool.not_true, Bool.not_false, decide_eq_true_eq, eq_self, Int.cast_ofNat_Int, Int.natCast_zero, Int.natCast_one, Nat.reduceLeDiff, Nat.reduceSub, Nat.reduceAdd, Nat.reduceLT, reduceIte, reduceCtorEq, Int.reduceEq, Int.reduceLT, Int.reduceLE, Int.reduceNeg, Int.reduceAdd, Int.reduceSub, Int.reduceMul, Int.reduceNe, Int.reduceBNe, Int.reduceBEq, h1]
  have e2 : ctn G cl e (.name 3) .none [x, y, some u, none] s S = some (some d0, S) := by
    unfold ctn
    simp only [E1, E2, E3, E4, E5, E6, E7, E8, E9, List.map_cons, List.map_nil, List.cons_append, List.nil_append, List.append_nil, List.length_cons, List.length_nil, List.replicate_zero, List.replicate_succ, Nat.sub_self, Nat.zero_add, List.getElem?_cons_zero, List.getElem?_cons_succ, List.set_cons_zero, List.set_cons_succ, if_true, if_false, Bool.false_eq_true, decide_true, decide_false, Bool.not_true, Bool.not_false, decide_eq_true_eq, eq_self, Int.cast_ofNat_Int, Int.natCast_zero, Int.natCast_one, Nat.reduceLeDiff, Nat.reduceSub, Nat.reduceAdd, Nat.reduceLT, reduceIte, reduceCtorEq, Int.reduceEq, Int.reduceLT, Int.reduceLE, Int.reduceNeg, Int.reduceAdd, Int.reduceSub, Int.reduceMul, Int.reduceNe, Int.reduceBNe, Int.reduceBEq, h2]
  rw [compL_some e1, compL_some e2, compL_nil, List.append_assoc]
  rfl
theorem times_spans_ok (ha : Sm 2000 a) (hb : Sm 2000 b) (hc : Sm 2000 c) (hd : Sm 2000 d) : callK G (k + 4) i_times_spans [sp a b, sp c d] S = some (spH (hull4 (· * ·) a b c d), S) := by
  rw [call_fn g_times_spans rfl]
  have m : ∀ {p : Rat}, Sm 2000 p → Sm 4000 p := fun h => h.mono (by decide)
  have h1 : ∀ acc : List D, acc.length + 2 ≤ sizeLine → ctn2 G (callK G (k + 3)) e_times_spans_0 (.name 2) .none [3] (.name 3) (.seq (.var 1)) .none [some (sp a b), some (sp c d), none, none] (fr a) S acc = some (acc ++ [fr (a * c), fr (a * d)], S) := fun acc hl => by
    unfold ctn2
    have := two_in (S := S) (cl := callK G (k + 3)) (e := e_times_spans_0) (x := some (sp a b)) (y := some (sp c d)) (u := fr a) (r := fr c) (s := fr d) (v := fr (a * c)) (d0 := fr (a * d)) (all := [fr c, fr d]) (by simp only [E1, E2, E3, E4, E5, E6, E7, E8, E9, List.map_cons, List.map_nil, List.cons_append, List.nil_append, List.append_nil, List.length_cons, List.length_nil, List.replicate_zero, List.replicate_succ, Nat.sub_self, Nat.zero_add, List.getElem?_cons_zero, List.getElem?_cons_succ, List.set_cons_zero, List.set_cons_succ, if_true, if_false, Bool.false_eq_true, decide_true, decide_false, Bool.not_true, Bool.not_false, decide_eq_true_eq, eq_self, Int.cast_ofNat_Int, Int.natCast_zero, Int.natCast_one, Nat.reduceLeDiff, Nat.reduceSub, Nat.reduceAdd, Nat.reduceLT, reduceIte, reduceCtorEq, Int.reduceEq, Int.reduceLT, Int.reduceLE, Int.reduceNeg, Int.reduceAdd, Int.reduceSub, Int.reduceMul, Int.reduceNe, Int.reduceBNe, Int.reduceBEq, e_times_spans_0, times_ok (m ha) (m hc)]) (by simp only [E1, E2, E3, E4, E5, E6, E7, E8, E9, List.map_cons, List.map_nil, List.cons_append, List.nil_append, List.append_nil, List.length_cons, List.length_nil, List.replicate_zero, List.replicate_succ, Nat.sub_self, Nat.zero_add, List.getElem?_cons_zero, List.getElem?_cons_succ, List.set_cons_zero, List.set_cons_succ, if_true, if_false, Bool.false_eq_true, decide_true, decide_false, Bool.not_true, Bool.not_false, decide_eq_true_eq, eq_self, Int.cast_ofNat_Int, Int.natCast_zero, Int.natCast_one, Nat.reduceLeDiff, Nat.reduceSub, Nat.reduceAdd, Nat.reduceLT, reduceIte, reduceCtorEq, Int.reduceEq, Int.reduceLT, Int.reduceLE, Int.reduceNeg, Int.reduceAdd, Int.reduceSub, Int.reduceMul, Int.reduceNe, Int.reduceBNe, Int.reduceBEq, e_times_spans_0, times_ok (m ha) (m hd)]) acc
    simp only [E1, E2, E3, E4, E5, E6, E7, E8, E9, List.map_cons, List.map_nil, List.cons_append, List.nil_append, List.append_nil, List.length_cons, List.length_nil, List.replicate_zero, List.replicate_succ, Nat.sub_self, Nat.zero_add, List.getElem?_cons_zero, List.getElem?_cons_succ, List.set_cons_zero, List.set_cons_succ, if_true, if_false, Bool.false_eq_true, decide_true, decide_false, Bool.not_true, Bool.not_false, decide_eq_true_eq, eq_self, Int.cast_ofNat_Int, Int.natCast_zero, Int.natCast_one, Nat.reduceLeDiff, Nat.reduceSub, Nat.reduceAdd, Nat.reduceLT, reduceIte, reduceCtorEq, Int.reduceEq, Int.reduceLT, Int.reduceLE, Int.reduceNeg, Int.reduceAdd, Int.reduceSub, Int.reduceMul, Int.reduceNe, Int.reduceBNe, Int.reduceBEq, it_sp, hl, wipe_nil, wipe_cons, this]
  have h2 : ∀ acc : List D, acc.length + 2 ≤ sizeLine → ctn2 G (callK G (k + 3)) e_times_spans_0 (.name 2) .none [3] (.name 3) (.seq (.var 1)) .none [some (sp a b), some (sp c d), none, none] (fr b) S acc = some (acc ++ [fr (b * c), fr (b * d)], S) := fun acc hl => by
    unfold ctn2
    have := two_in (S := S) (cl := callK G (k + 3)) (e := e_times_spans_0) (x := some (sp a b)) (y := some (sp c d)) (u := fr b) (r := fr c) (s := fr d) (v := fr (b * c)) (d0 := fr (b * d)) (all := [fr c, fr d]) (by simp only [E1, E2, E3, E4, E5, E6, E7, E8, E9, List.map_cons, List.map_nil, List.cons_append, List.nil_append, List.append_nil, List.length_cons, List.length_nil, List.replicate_zero, List.replicate_succ, Nat.sub_self, Nat.zero_add, List.getElem?_cons_zero, List.getElem?_cons_succ, List.set_cons_zero, List.set_cons_succ, if_true, if_false, Bool.false_eq_true, decide_true, decide_false, Bool.not_true, Bool.not_false, decide_eq_true_eq, eq_self, Int.cast_ofNat_Int, Int.natCast_zero, Int.natCast_one, Nat.reduceLeDiff, Nat.reduceSub, Nat.reduceAdd, Nat.reduceLT, reduceIte, reduceCtorEq, Int.reduceEq, Int.reduceLT, Int.reduceLE, Int.reduceNeg, Int.reduceAdd, Int.reduceSub, Int.reduceMul, Int.reduceNe, Int.reduceBNe, Int.reduceBEq, e_times_spans_0, times_ok (m hb) (m hc)]) (by simp only [E1, E2, E3, E4, E5, E6, E7, E8, E9, List.map_cons, List.map_nil, List.cons_append, List.nil_append, List.append_nil, List.length_cons, List.length_nil, List.replicate_zero, List.replicate_succ, Nat.sub_self, Nat.zero_add, List.getElem?_cons_zero, List.getElem?_cons_succ, List.set_cons_zero, List.set_cons_succ, if_true, if_false, Bool.false_eq_true, decide_true, decide_false, Bool.not_true, Bool.not_false, decide_eq_true_eq, eq_self, Int.cast_ofNat_Int, Int.natCast_zero, Int.natCast_one, Nat.reduceLeDiff, Nat.reduceSub, Nat.reduceAdd, Nat.reduceLT, reduceIte, reduceCtorEq, Int.reduceEq, Int.reduceLT, Int.reduceLE, Int.reduceNeg, Int.reduceAdd, Int.reduceSub, Int.reduceMul, Int.reduceNe, Int.reduceBNe, Int.reduceBEq, e_times_spans_0, times_ok (m hb) (m hd)]) acc
    simp only [E1, E2, E3, E4, E5, E6, E7, E8, E9, List.map_cons, List.map_nil, List.cons_append, List.nil_append, List.append_nil, List.length_cons, List.length_nil, List.replicate_zero, List.replicate_succ, Nat.sub_self, Nat.zero_add, List.getElem?_cons_zero, List.getElem?_cons_succ, List.set_cons_zero, List.set_cons_succ, if_true, if_false, Bool.false_eq_true, decide_true, decide_false, Bool.not_true, Bool.not_false, decide_eq_true_eq, eq_self, Int.cast_ofNat_Int, Int.natCast_zero, Int.natCast_one, Nat.reduceLeDiff, Nat.reduceSub, Nat.reduceAdd, Nat.reduceLT, reduceIte, reduceCtorEq, Int.reduceEq, Int.reduceLT, Int.reduceLE, Int.reduceNeg, Int.reduceAdd, Int.reduceSub, Int.reduceMul, Int.reduceNe, Int.reduceBNe, Int.reduceBEq, it_sp, hl, wipe_nil, wipe_cons, this]
  have hA : compA none [fr a, fr b] (ctn2 G (callK G (k + 3)) e_times_spans_0 (.name 2) .none [3] (.name 3) (.seq (.var 1)) .none [some (sp a b), some (sp c d), none, none]) [fr a, fr b] S [] = some ([fr (a * c), fr (a * d), fr (b * c), fr (b * d)], S) := by
    rw [compA_cons (h1 [] (le_size (by decide))), compA_cons (h2 _ (le_size (by show 4 ≤ 1000000; decide))), compA_nil]
    rfl
  have hh := hull_of_ok (k := k) (S := S) (x := a * c) (xs := [a * d, b * c, b * d]) (by
    intro q hq
    simp only [List.mem_cons, List.not_mem_nil, or_false] at hq
    rcases hq with rfl | rfl | rfl | rfl
    · exact (ha.mul hc).mono (by decide)
    · exact (ha.mul hd).mono (by decide)
    · exact (hb.mul hc).mono (by decide)
    · exact (hb.mul hd).mono (by decide))
  simp only [List.map_cons, List.map_nil] at hh
  simp only [E1, E2, E3, E4, E5, E6, E7, E8, E9, List.map_cons, List.map_nil, List.cons_append, List.nil_append, List.append_nil, List.length_cons, List.length_nil, List.replicate_zero, List.replicate_succ, Nat.sub_self, Nat.zero_add, List.getElem?_cons_zero, List.getElem?_cons_succ, List.set_cons_zero, List.set_cons_succ, if_true, if_false, Bool.false_eq_true, decide_true, decide_false, Bool.not_true, Bool.not_false, decide_eq_true_eq, eq_self, Int.cast_ofNat_Int, Int.natCast_zero, Int.natCast_one, Nat.reduceLeDiff, Nat.reduceSub, Nat.reduceAdd, Nat.reduceLT, reduceIte, reduceCtorEq, Int.reduceEq, Int.reduceLT, Int.reduceLE, Int.reduceNeg, Int.reduceAdd, Int.reduceSub, Int.reduceMul, Int.reduceNe, Int.reduceBNe, Int.reduceBEq, f_times_spans, it_sp, wipe_nil, wipe_cons, hA, hh]
  rfl
theorem num_le0 : p.num ≤ 0 ↔ p ≤ 0 := by
  rw [Rat.le_iff]
  simp
theorem num_ge0 : 0 ≤ p.num ↔ 0 ≤ p := by
  rw [Rat.le_iff]
  simp
theorem has_nothing_ok : callK G (k + 1) i_has_nothing [sp a b] S = some (.bl (decide (a ≤ 0) && decide (0 ≤ b)), S) := by
  rw [call_fn g_has_nothing rfl]
  have h1 : decide (a.num ≤ 0) = decide (a ≤ 0) := by rw [decide_eq_decide]; exact num_le0
  have h2 : decide (0 ≤ b.num) = decide (0 ≤ b) := by rw [decide_eq_decide]; exact num_ge0
  by_cases e : a ≤ 0
  · simp only [E1, E2, E3, E4, E5, E6, E7, E8, E9, List.map_cons, List.map_nil, List.cons_append, List.nil_append, List.append_nil, List.length_cons, List.length_nil, List.replicate_zero, List.replicate_succ, Nat.sub_self, Nat.zero_add, List.getElem?_cons_zero, List.getElem?_cons_succ, List.set_cons_zero, List.set_cons_succ, if_true, if_false, Bool.false_eq_true, decide_true, decide_false, Bool.not_true, Bool.not_false, decide_eq_true_eq, eq_self, Int.cast_ofNat_Int, Int.natCast_zero, Int.natCast_one, Nat.reduceLeDiff, Nat.reduceSub, Nat.reduceAdd, Nat.reduceLT, reduceIte, reduceCtorEq, Int.reduceEq, Int.reduceLT, Int.reduceLE, Int.reduceNeg, Int.reduceAdd, Int.reduceSub, Int.reduceMul, Int.reduceNe, Int.reduceBNe, Int.reduceBEq, f_has_nothing, idx_sp0, idx_sp1, idx_fr0, h1, h2, e, Bool.true_and]
  · simp only [E1, E2, E3, E4, E5, E6, E7, E8, E9, List.map_cons, List.map_nil, List.cons_append, List.nil_append, List.append_nil, List.length_cons, List.length_nil, List.replicate_zero, List.replicate_succ, Nat.sub_self, Nat.zero_add, List.getElem?_cons_zero, List.getElem?_cons_succ, List.set_cons_zero, List.set_cons_succ, if_true, if_false, Bool.false_eq_true, decide_true, decide_false, Bool.not_true, Bool.not_false, decide_eq_true_eq, eq_self, Int.cast_ofNat_Int, Int.natCast_zero, Int.natCast_one, Nat.reduceLeDiff, Nat.reduceSub, Nat.reduceAdd, Nat.reduceLT, reduceIte, reduceCtorEq, Int.reduceEq, Int.reduceLT, Int.reduceLE, Int.reduceNeg, Int.reduceAdd, Int.reduceSub, Int.reduceMul, Int.reduceNe, Int.reduceBNe, Int.reduceBEq, f_has_nothing, idx_sp0, idx_sp1, idx_fr0, h1, h2, e, Bool.false_and]
theorem over_spans_none (hz : c ≤ 0) (hy : 0 ≤ d) : callK G (k + 5) i_over_spans [sp a b, sp c d] S = some (.non, S) := by
  rw [call_fn g_over_spans rfl]
  have h0 := has_nothing_ok (k := k + 3) (S := S) (a := c) (b := d)
  rw [decide_eq_true hz, decide_eq_true hy] at h0
  simp only [E1, E2, E3, E4, E5, E6, E7, E8, E9, List.map_cons, List.map_nil, List.cons_append, List.nil_append, List.append_nil, List.length_cons, List.length_nil, List.replicate_zero, List.replicate_succ, Nat.sub_self, Nat.zero_add, List.getElem?_cons_zero, List.getElem?_cons_succ, List.set_cons_zero, List.set_cons_succ, if_true, if_false, Bool.false_eq_true, decide_true, decide_false, Bool.not_true, Bool.not_false, decide_eq_true_eq, eq_self, Int.cast_ofNat_Int, Int.natCast_zero, Int.natCast_one, Nat.reduceLeDiff, Nat.reduceSub, Nat.reduceAdd, Nat.reduceLT, reduceIte, reduceCtorEq, Int.reduceEq, Int.reduceLT, Int.reduceLE, Int.reduceNeg, Int.reduceAdd, Int.reduceSub, Int.reduceMul, Int.reduceNe, Int.reduceBNe, Int.reduceBEq, f_over_spans, h0, Bool.and_self]
theorem over_spans_ok (ha : Sm 2000 a) (hb : Sm 2000 b) (hc : Sm 2000 c) (hd : Sm 2000 d) (hcd : c ≤ d) (hz : 0 < c ∨ d < 0) : callK G (k + 5) i_over_spans [sp a b, sp c d] S = some (spH (hull4 (· / ·) a b c d), S) := by
  rw [call_fn g_over_spans rfl]
  have m : ∀ {p : Rat}, Sm 2000 p → Sm 4000 p := fun h => h.mono (by decide)
  have zc : c ≠ 0 := by grind
  have zd : d ≠ 0 := by grind
  have h0 := has_nothing_ok (k := k + 3) (S := S) (a := c) (b := d)
  rw [show (decide (c ≤ 0) && decide (0 ≤ d)) = false by
    rcases hz with h | h
    · rw [decide_eq_false (by grind)]; rfl
    · rw [decide_eq_false (p := 0 ≤ d) (by grind)]; simp] at h0
  have h1 : ∀ acc : List D, acc.length + 2 ≤ sizeLine → ctn2 G (callK G (k + 4)) e_over_spans_0 (.name 2) .none [3] (.name 3) (.seq (.var 1)) .none [some (sp a b), some (sp c d), none, none] (fr a) S acc = some (acc ++ [fr (a / c), fr (a / d)], S) := fun acc hl => by
    unfold ctn2
    have := two_in (S := S) (cl := callK G (k + 4)) (e := e_over_spans_0) (x := some (sp a b)) (y := some (sp c d)) (u := fr a) (r := fr c) (s := fr d) (v := fr (a / c)) (d0 := fr (a / d)) (all := [fr c, fr d]) (by simp only [E1, E2, E3, E4, E5, E6, E7, E8, E9, List.map_cons, List.map_nil, List.cons_append, List.nil_append, List.append_nil, List.length_cons, List.length_nil, List.replicate_zero, List.replicate_succ, Nat.sub_self, Nat.zero_add, List.getElem?_cons_zero, List.getElem?_cons_succ, List.set_cons_zero, List.set_cons_succ, if_true, if_false, Bool.false_eq_true, decide_true, decide_false, Bool.not_true, Bool.not_false, decide_eq_true_eq, eq_self, Int.cast_ofNat_Int, Int.natCast_zero, Int.natCast_one, Nat.reduceLeDiff, Nat.reduceSub, Nat.reduceAdd, Nat.reduceLT, reduceIte, reduceCtorEq, Int.reduceEq, Int.reduceLT, Int.reduceLE, Int.reduceNeg, Int.reduceAdd, Int.reduceSub, Int.reduceMul, Int.reduceNe, Int.reduceBNe, Int.reduceBEq, e_over_spans_0, quotient_ok (m ha) (m hc) zc]) (by simp only [E1, E2, E3, E4, E5, E6, E7, E8, E9, List.map_cons, List.map_nil, List.cons_append, List.nil_append, List.append_nil, List.length_cons, List.length_nil, List.replicate_zero, List.replicate_succ, Nat.sub_self, Nat.zero_add, List.getElem?_cons_zero, List.getElem?_cons_succ, List.set_cons_zero, List.set_cons_succ, if_true, if_false, Bool.false_eq_true, decide_true, decide_false, Bool.not_true, Bool.not_false, decide_eq_true_eq, eq_self, Int.cast_ofNat_Int, Int.natCast_zero, Int.natCast_one, Nat.reduceLeDiff, Nat.reduceSub, Nat.reduceAdd, Nat.reduceLT, reduceIte, reduceCtorEq, Int.reduceEq, Int.reduceLT, Int.reduceLE, Int.reduceNeg, Int.reduceAdd, Int.reduceSub, Int.reduceMul, Int.reduceNe, Int.reduceBNe, Int.reduceBEq, e_over_spans_0, quotient_ok (m ha) (m hd) zd]) acc
    simp only [E1, E2, E3, E4, E5, E6, E7, E8, E9, List.map_cons, List.map_nil, List.cons_append, List.nil_append, List.append_nil, List.length_cons, List.length_nil, List.replicate_zero, List.replicate_succ, Nat.sub_self, Nat.zero_add, List.getElem?_cons_zero, List.getElem?_cons_succ, List.set_cons_zero, List.set_cons_succ, if_true, if_false, Bool.false_eq_true, decide_true, decide_false, Bool.not_true, Bool.not_false, decide_eq_true_eq, eq_self, Int.cast_ofNat_Int, Int.natCast_zero, Int.natCast_one, Nat.reduceLeDiff, Nat.reduceSub, Nat.reduceAdd, Nat.reduceLT, reduceIte, reduceCtorEq, Int.reduceEq, Int.reduceLT, Int.reduceLE, Int.reduceNeg, Int.reduceAdd, Int.reduceSub, Int.reduceMul, Int.reduceNe, Int.reduceBNe, Int.reduceBEq, it_sp, hl, wipe_nil, wipe_cons, this]
  have h2 : ∀ acc : List D, acc.length + 2 ≤ sizeLine → ctn2 G (callK G (k + 4)) e_over_spans_0 (.name 2) .none [3] (.name 3) (.seq (.var 1)) .none [some (sp a b), some (sp c d), none, none] (fr b) S acc = some (acc ++ [fr (b / c), fr (b / d)], S) := fun acc hl => by
    unfold ctn2
    have := two_in (S := S) (cl := callK G (k + 4)) (e := e_over_spans_0) (x := some (sp a b)) (y := some (sp c d)) (u := fr b) (r := fr c) (s := fr d) (v := fr (b / c)) (d0 := fr (b / d)) (all := [fr c, fr d]) (by simp only [E1, E2, E3, E4, E5, E6, E7, E8, E9, List.map_cons, List.map_nil, List.cons_append, List.nil_append, List.append_nil, List.length_cons, List.length_nil, List.replicate_zero, List.replicate_succ, Nat.sub_self, Nat.zero_add, List.getElem?_cons_zero, List.getElem?_cons_succ, List.set_cons_zero, List.set_cons_succ, if_true, if_false, Bool.false_eq_true, decide_true, decide_false, Bool.not_true, Bool.not_false, decide_eq_true_eq, eq_self, Int.cast_ofNat_Int, Int.natCast_zero, Int.natCast_one, Nat.reduceLeDiff, Nat.reduceSub, Nat.reduceAdd, Nat.reduceLT, reduceIte, reduceCtorEq, Int.reduceEq, Int.reduceLT, Int.reduceLE, Int.reduceNeg, Int.reduceAdd, Int.reduceSub, Int.reduceMul, Int.reduceNe, Int.reduceBNe, Int.reduceBEq, e_over_spans_0, quotient_ok (m hb) (m hc) zc]) (by simp only [E1, E2, E3, E4, E5, E6, E7, E8, E9, List.map_cons, List.map_nil, List.cons_append, List.nil_append, List.append_nil, List.length_cons, List.length_nil, List.replicate_zero, List.replicate_succ, Nat.sub_self, Nat.zero_add, List.getElem?_cons_zero, List.getElem?_cons_succ, List.set_cons_zero, List.set_cons_succ, if_true, if_false, Bool.false_eq_true, decide_true, decide_false, Bool.not_true, Bool.not_false, decide_eq_true_eq, eq_self, Int.cast_ofNat_Int, Int.natCast_zero, Int.natCast_one, Nat.reduceLeDiff, Nat.reduceSub, Nat.reduceAdd, Nat.reduceLT, reduceIte, reduceCtorEq, Int.reduceEq, Int.reduceLT, Int.reduceLE, Int.reduceNeg, Int.reduceAdd, Int.reduceSub, Int.reduceMul, Int.reduceNe, Int.reduceBNe, Int.reduceBEq, e_over_spans_0, quotient_ok (m hb) (m hd) zd]) acc
    simp only [E1, E2, E3, E4, E5, E6, E7, E8, E9, List.map_cons, List.map_nil, List.cons_append, List.nil_append, List.append_nil, List.length_cons, List.length_nil, List.replicate_zero, List.replicate_succ, Nat.sub_self, Nat.zero_add, List.getElem?_cons_zero, List.getElem?_cons_succ, List.set_cons_zero, List.set_cons_succ, if_true, if_false, Bool.false_eq_true, decide_true, decide_false, Bool.not_true, Bool.not_false, decide_eq_true_eq, eq_self, Int.cast_ofNat_Int, Int.natCast_zero, Int.natCast_one, Nat.reduceLeDiff, Nat.reduceSub, Nat.reduceAdd, Nat.reduceLT, reduceIte, reduceCtorEq, Int.reduceEq, Int.reduceLT, Int.reduceLE, Int.reduceNeg, Int.reduceAdd, Int.reduceSub, Int.reduceMul, Int.reduceNe, Int.reduceBNe, Int.reduceBEq, it_sp, hl, wipe_nil, wipe_cons, this]
  have hA : compA none [fr a, fr b] (ctn2 G (callK G (k + 4)) e_over_spans_0 (.name 2) .none [3] (.name 3) (.seq (.var 1)) .none [some (sp a b), some (sp c d), none, none]) [fr a, fr b] S [] = some ([fr (a / c), fr (a / d), fr (b / c), fr (b / d)], S) := by
    rw [compA_cons (h1 [] (le_size (by decide))), compA_cons (h2 _ (le_size (by show 4 ≤ 1000000; decide))), compA_nil]
    rfl
  have hh := hull_of_ok (k := k + 1) (S := S) (x := a / c) (xs := [a / d, b / c, b / d]) (by
    intro q hq
    simp only [List.mem_cons, List.not_mem_nil, or_false] at hq
    rcases hq with rfl | rfl | rfl | rfl
    · exact (ha.quo hc zc).mono (by decide)
    · exact (ha.quo hd zd).mono (by decide)
    · exact (hb.quo hc zc).mono (by decide)
    · exact (hb.quo hd zd).mono (by decide))
  simp only [List.map_cons, List.map_nil] at hh
  simp only [E1, E2, E3, E4, E5, E6, E7, E8, E9, List.map_cons, List.map_nil, List.cons_append, List.nil_append, List.append_nil, List.length_cons, List.length_nil, List.replicate_zero, List.replicate_succ, Nat.sub_self, Nat.zero_add, List.getElem?_cons_zero, List.getElem?_cons_succ, List.set_cons_zero, List.set_cons_succ, if_true, if_false, Bool.false_eq_true, decide_true, decide_false, Bool.not_true, Bool.not_false, decide_eq_true_eq, eq_self, Int.cast_ofNat_Int, Int.natCast_zero, Int.natCast_one, Nat.reduceLeDiff, Nat.reduceSub, Nat.reduceAdd, Nat.reduceLT, reduceIte, reduceCtorEq, Int.reduceEq, Int.reduceLT, Int.reduceLE, Int.reduceNeg, Int.reduceAdd, Int.reduceSub, Int.reduceMul, Int.reduceNe, Int.reduceBNe, Int.reduceBEq, f_over_spans, h0, it_sp, wipe_nil, wipe_cons, hA, hh]
  rfl
theorem most_size_ok (ha : Sm 4000 a) (hb : Sm 4000 b) : callK G (k + 3) i_most_size [sp a b] S = some (fr (hi2 a.abs b.abs), S) := by
  rw [call_fn g_most_size rfl]
  simp only [E1, E2, E3, E4, E5, E6, E7, E8, E9, List.map_cons, List.map_nil, List.cons_append, List.nil_append, List.append_nil, List.length_cons, List.length_nil, List.replicate_zero, List.replicate_succ, Nat.sub_self, Nat.zero_add, List.getElem?_cons_zero, List.getElem?_cons_succ, List.set_cons_zero, List.set_cons_succ, if_true, if_false, Bool.false_eq_true, decide_true, decide_false, Bool.not_true, Bool.not_false, decide_eq_true_eq, eq_self, Int.cast_ofNat_Int, Int.natCast_zero, Int.natCast_one, Nat.reduceLeDiff, Nat.reduceSub, Nat.reduceAdd, Nat.reduceLT, reduceIte, reduceCtorEq, Int.reduceEq, Int.reduceLT, Int.reduceLE, Int.reduceNeg, Int.reduceAdd, Int.reduceSub, Int.reduceMul, Int.reduceNe, Int.reduceBNe, Int.reduceBEq, f_most_size, idx_sp0, idx_sp1, size_ok, greater_ok' ha.abs hb.abs]
/-- the span of sizes -/
def szS (a b : Rat) : Rat × Rat := if a ≤ 0 ∧ 0 ≤ b then (0, hi2 a.abs b.abs) else hullF a.abs [b.abs]
theorem size_span_ok (ha : Sm 4000 a) (hb : Sm 4000 b) : callK G (k + 4) i_size_span [sp a b] S = some (spH (szS a b), S) := by
  rw [call_fn g_size_span rfl]
  have h0 := has_nothing_ok (k := k + 2) (S := S) (a := a) (b := b)
  have hh := hull_of_ok (k := k) (S := S) (x := a.abs) (xs := [b.abs]) (by
    intro q hq
    simp only [List.mem_cons, List.not_mem_nil, or_false] at hq
    rcases hq with rfl | rfl
    · exact ha.abs
    · exact hb.abs)
  simp only [List.map_cons, List.map_nil] at hh
  unfold szS
  by_cases e : a ≤ 0 ∧ 0 ≤ b
  · rw [decide_eq_true e.1, decide_eq_true e.2] at h0
    rw [if_pos e]
    simp only [E1, E2, E3, E4, E5, E6, E7, E8, E9, List.map_cons, List.map_nil, List.cons_append, List.nil_append, List.append_nil, List.length_cons, List.length_nil, List.replicate_zero, List.replicate_succ, Nat.sub_self, Nat.zero_add, List.getElem?_cons_zero, List.getElem?_cons_succ, List.set_cons_zero, List.set_cons_succ, if_true, if_false, Bool.false_eq_true, decide_true, decide_false, Bool.not_true, Bool.not_false, decide_eq_true_eq, eq_self, Int.cast_ofNat_Int, Int.natCast_zero, Int.natCast_one, Nat.reduceLeDiff, Nat.reduceSub, Nat.reduceAdd, Nat.reduceLT, reduceIte, reduceCtorEq, Int.reduceEq, Int.reduceLT, Int.reduceLE, Int.reduceNeg, Int.reduceAdd, Int.reduceSub, Int.reduceMul, Int.reduceNe, Int.reduceBNe, Int.reduceBEq, f_size_span, h0, Bool.and_self, c_NOTHING, most_size_ok ha hb]
    rfl
  · rw [show (decide (a ≤ 0) && decide (0 ≤ b)) = false by
      by_cases h : a ≤ 0
      · rw [decide_eq_false (p := 0 ≤ b) fun g => e ⟨h, g⟩]; simp
      · rw [decide_eq_false h]; rfl] at h0
    rw [if_neg e]
    simp only [E1, E2, E3, E4, E5, E6, E7, E8, E9, List.map_cons, List.map_nil, List.cons_append, List.nil_append, List.append_nil, List.length_cons, List.length_nil, List.replicate_zero, List.replicate_succ, Nat.sub_self, Nat.zero_add, List.getElem?_cons_zero, List.getElem?_cons_succ, List.set_cons_zero, List.set_cons_succ, if_true, if_false, Bool.false_eq_true, decide_true, decide_false, Bool.not_true, Bool.not_false, decide_eq_true_eq, eq_self, Int.cast_ofNat_Int, Int.natCast_zero, Int.natCast_one, Nat.reduceLeDiff, Nat.reduceSub, Nat.reduceAdd, Nat.reduceLT, reduceIte, reduceCtorEq, Int.reduceEq, Int.reduceLT, Int.reduceLE, Int.reduceNeg, Int.reduceAdd, Int.reduceSub, Int.reduceMul, Int.reduceNe, Int.reduceBNe, Int.reduceBEq, f_size_span, h0, idx_sp0, idx_sp1, size_ok, hh]
theorem least_size_ok (ha : Sm 4000 a) (hb : Sm 4000 b) : callK G (k + 5) i_least_size [sp a b] S = some (fr (szS a b).1, S) := by
  rw [call_fn g_least_size rfl]
  simp only [E1, E2, E3, E4, E5, E6, E7, E8, E9, List.map_cons, List.map_nil, List.cons_append, List.nil_append, List.append_nil, List.length_cons, List.length_nil, List.replicate_zero, List.replicate_succ, Nat.sub_self, Nat.zero_add, List.getElem?_cons_zero, List.getElem?_cons_succ, List.set_cons_zero, List.set_cons_succ, if_true, if_false, Bool.false_eq_true, decide_true, decide_false, Bool.not_true, Bool.not_false, decide_eq_true_eq, eq_self, Int.cast_ofNat_Int, Int.natCast_zero, Int.natCast_one, Nat.reduceLeDiff, Nat.reduceSub, Nat.reduceAdd, Nat.reduceLT, reduceIte, reduceCtorEq, Int.reduceEq, Int.reduceLT, Int.reduceLE, Int.reduceNeg, Int.reduceAdd, Int.reduceSub, Int.reduceMul, Int.reduceNe, Int.reduceBNe, Int.reduceBEq, f_least_size, size_span_ok ha hb, spH, idx_sp0]
theorem widened_ok (ha : Sm 4000 a) (hb : Sm 4000 b) (hc : Sm 4000 c) : callK G (k + 5) i_widened_by [sp a b, fr c] S = some (sp (a - c) (b + c), S) := by
  rw [call_fn g_widened_by rfl]
  simp only [E1, E2, E3, E4, E5, E6, E7, E8, E9, List.map_cons, List.map_nil, List.cons_append, List.nil_append, List.append_nil, List.length_cons, List.length_nil, List.replicate_zero, List.replicate_succ, Nat.sub_self, Nat.zero_add, List.getElem?_cons_zero, List.getElem?_cons_succ, List.set_cons_zero, List.set_cons_succ, if_true, if_false, Bool.false_eq_true, decide_true, decide_false, Bool.not_true, Bool.not_false, decide_eq_true_eq, eq_self, Int.cast_ofNat_Int, Int.natCast_zero, Int.natCast_one, Nat.reduceLeDiff, Nat.reduceSub, Nat.reduceAdd, Nat.reduceLT, reduceIte, reduceCtorEq, Int.reduceEq, Int.reduceLT, Int.reduceLE, Int.reduceNeg, Int.reduceAdd, Int.reduceSub, Int.reduceMul, Int.reduceNe, Int.reduceBNe, Int.reduceBEq, f_widened_by, idx_sp0, idx_sp1, taken_ok ha hc, added_ok hb hc]
  rfl
theorem least_span_ok (ha : Sm 4000 a) (hb : Sm 4000 b) (hc : Sm 4000 c) (hd : Sm 4000 d) : callK G (k + 3) i_least_span [sp a b, sp c d] S = some (sp (lo2 a c) (lo2 b d), S) := by
  rw [call_fn g_least_span rfl]
  simp only [E1, E2, E3, E4, E5, E6, E7, E8, E9, List.map_cons, List.map_nil, List.cons_append, List.nil_append, List.append_nil, List.length_cons, List.length_nil, List.replicate_zero, List.replicate_succ, Nat.sub_self, Nat.zero_add, List.getElem?_cons_zero, List.getElem?_cons_succ, List.set_cons_zero, List.set_cons_succ, if_true, if_false, Bool.false_eq_true, decide_true, decide_false, Bool.not_true, Bool.not_false, decide_eq_true_eq, eq_self, Int.cast_ofNat_Int, Int.natCast_zero, Int.natCast_one, Nat.reduceLeDiff, Nat.reduceSub, Nat.reduceAdd, Nat.reduceLT, reduceIte, reduceCtorEq, Int.reduceEq, Int.reduceLT, Int.reduceLE, Int.reduceNeg, Int.reduceAdd, Int.reduceSub, Int.reduceMul, Int.reduceNe, Int.reduceBNe, Int.reduceBEq, f_least_span, idx_sp0, idx_sp1, lesser_ok' ha hc, lesser_ok' hb hd]
  rfl
theorem most_span_ok (ha : Sm 4000 a) (hb : Sm 4000 b) (hc : Sm 4000 c) (hd : Sm 4000 d) : callK G (k + 3) i_most_span [sp a b, sp c d] S = some (sp (hi2 a c) (hi2 b d), S) := by
  rw [call_fn g_most_span rfl]
  simp only [E1, E2, E3, E4, E5, E6, E7, E8, E9, List.map_cons, List.map_nil, List.cons_append, List.nil_append, List.append_nil, List.length_cons, List.length_nil, List.replicate_zero, List.replicate_succ, Nat.sub_self, Nat.zero_add, List.getElem?_cons_zero, List.getElem?_cons_succ, List.set_cons_zero, List.set_cons_succ, if_true, if_false, Bool.false_eq_true, decide_true, decide_false, Bool.not_true, Bool.not_false, decide_eq_true_eq, eq_self, Int.cast_ofNat_Int, Int.natCast_zero, Int.natCast_one, Nat.reduceLeDiff, Nat.reduceSub, Nat.reduceAdd, Nat.reduceLT, reduceIte, reduceCtorEq, Int.reduceEq, Int.reduceLT, Int.reduceLE, Int.reduceNeg, Int.reduceAdd, Int.reduceSub, Int.reduceMul, Int.reduceNe, Int.reduceBNe, Int.reduceBEq, f_most_span, idx_sp0, idx_sp1, greater_ok' ha hc, greater_ok' hb hd]
  rfl
theorem width_ok (ha : Sm 4000 a) (hb : Sm 4000 b) : callK G (k + 5) i_width_of [sp a b] S = some (fr (b - a), S) := by
  rw [call_fn g_width_of rfl]
  simp only [E1, E2, E3, E4, E5, E6, E7, E8, E9, List.map_cons, List.map_nil, List.cons_append, List.nil_append, List.append_nil, List.length_cons, List.length_nil, List.replicate_zero, List.replicate_succ, Nat.sub_self, Nat.zero_add, List.getElem?_cons_zero, List.getElem?_cons_succ, List.set_cons_zero, List.set_cons_succ, if_true, if_false, Bool.false_eq_true, decide_true, decide_false, Bool.not_true, Bool.not_false, decide_eq_true_eq, eq_self, Int.cast_ofNat_Int, Int.natCast_zero, Int.natCast_one, Nat.reduceLeDiff, Nat.reduceSub, Nat.reduceAdd, Nat.reduceLT, reduceIte, reduceCtorEq, Int.reduceEq, Int.reduceLT, Int.reduceLE, Int.reduceNeg, Int.reduceAdd, Int.reduceSub, Int.reduceMul, Int.reduceNe, Int.reduceBNe, Int.reduceBEq, f_width_of, idx_sp0, idx_sp1, taken_ok hb ha]
theorem middle_ok (ha : Sm 1000 a) (hb : Sm 1000 b) : callK G (k + 4) i_middle_of [sp a b] S = some (fr (mid a b), S) := by
  rw [call_fn g_middle_of rfl]
  have m : ∀ {p : Rat}, Sm 1000 p → Sm 4000 p := fun h => h.mono (by decide)
  have h1 := times_ok (k := k) (S := S) (p := a + b) (q := 1 / 2) ((ha.add hb).mono (by decide)) (sm_half.mono (by decide))
  rw [fr_half] at h1
  simp only [E1, E2, E3, E4, E5, E6, E7, E8, E9, List.map_cons, List.map_nil, List.cons_append, List.nil_append, List.append_nil, List.length_cons, List.length_nil, List.replicate_zero, List.replicate_succ, Nat.sub_self, Nat.zero_add, List.getElem?_cons_zero, List.getElem?_cons_succ, List.set_cons_zero, List.set_cons_succ, if_true, if_false, Bool.false_eq_true, decide_true, decide_false, Bool.not_true, Bool.not_false, decide_eq_true_eq, eq_self, Int.cast_ofNat_Int, Int.natCast_zero, Int.natCast_one, Nat.reduceLeDiff, Nat.reduceSub, Nat.reduceAdd, Nat.reduceLT, reduceIte, reduceCtorEq, Int.reduceEq, Int.reduceLT, Int.reduceLE, Int.reduceNeg, Int.reduceAdd, Int.reduceSub, Int.reduceMul, Int.reduceNe, Int.reduceBNe, Int.reduceBEq, f_middle_of, idx_sp0, idx_sp1, added_ok (m ha) (m hb), h1]
  rfl
theorem halves_ok (ha : Sm 1000 a) (hb : Sm 1000 b) : callK G (k + 5) i_halves [sp a b] S = some (.tup [sp a (mid a b), sp (mid a b) b], S) := by
  rw [call_fn g_halves rfl]
  simp only [E1, E2, E3, E4, E5, E6, E7, E8, E9, List.map_cons, List.map_nil, List.cons_append, List.nil_append, List.append_nil, List.length_cons, List.length_nil, List.replicate_zero, List.replicate_succ, Nat.sub_self, Nat.zero_add, List.getElem?_cons_zero, List.getElem?_cons_succ, List.set_cons_zero, List.set_cons_succ, if_true, if_false, Bool.false_eq_true, decide_true, decide_false, Bool.not_true, Bool.not_false, decide_eq_true_eq, eq_self, Int.cast_ofNat_Int, Int.natCast_zero, Int.natCast_one, Nat.reduceLeDiff, Nat.reduceSub, Nat.reduceAdd, Nat.reduceLT, reduceIte, reduceCtorEq, Int.reduceEq, Int.reduceLT, Int.reduceLE, Int.reduceNeg, Int.reduceAdd, Int.reduceSub, Int.reduceMul, Int.reduceNe, Int.reduceBNe, Int.reduceBEq, f_halves, idx_sp0, idx_sp1, middle_ok ha hb]
  rfl
end

end Rw.Pk08

namespace Rw.Pk08
open PySem L2 Rw
section
theorem q_negate_size : (("negate" : Str) = ("size" : Str)) = False := eq_false (by decide +kernel)
theorem q_negate_joined : (("negate" : Str) = ("joined" : Str)) = False := eq_false (by decide +kernel)
theorem q_negate_add : (("negate" : Str) = ("add" : Str)) = False := eq_false (by decide +kernel)
theorem q_negate_less : (("negate" : Str) = ("less" : Str)) = False := eq_false (by decide +kernel)
theorem q_negate_times : (("negate" : Str) = ("times" : Str)) = False := eq_false (by decide +kernel)
theorem q_negate_over : (("negate" : Str) = ("over" : Str)) = False := eq_false (by decide +kernel)
theorem q_negate_least : (("negate" : Str) = ("least" : Str)) = False := eq_false (by decide +kernel)
theorem q_negate_most : (("negate" : Str) = ("most" : Str)) = False := eq_false (by decide +kernel)
theorem q_size_negate : (("size" : Str) = ("negate" : Str)) = False := eq_false (by decide +kernel)
theorem q_size_joined : (("size" : Str) = ("joined" : Str)) = False := eq_false (by decide +kernel)
theorem q_size_add : (("size" : Str) = ("add" : Str)) = False := eq_false (by decide +kernel)
theorem q_size_less : (("size" : Str) = ("less" : Str)) = False := eq_false (by decide +kernel)
theorem q_size_times : (("size" : Str) = ("times" : Str)) = False := eq_false (by decide +kernel)
theorem q_size_over : (("size" : Str) = ("over" : Str)) = False := eq_false (by decide +kernel)
theorem q_size_least : (("size" : Str) = ("least" : Str)) = False := eq_false (by decide +kernel)
theorem q_size_most : (("size" : Str) = ("most" : Str)) = False := eq_false (by decide +kernel)
theorem q_joined_negate : (("joined" : Str) = ("negate" : Str)) = False := eq_false (by decide +kernel)
theorem q_joined_size : (("joined" : Str) = ("size" : Str)) = False := eq_false (by decide +kernel)
theorem q_joined_add : (("joined" : Str) = ("add" : Str)) = False := eq_false (by decide +kernel)
theorem q_joined_less : (("joined" : Str) = ("less" : Str)) = False := eq_false (by decide +kernel)
theorem q_joined_times : (("joined" : Str) = ("times" : Str)) = False := eq_false (by decide +kernel)
theorem q_joined_over : (("joined" : Str) = ("over" : Str)) = False := eq_false (by decide +kernel)
theorem q_joined_least : (("joined" : Str) = ("least" : Str)) = False := eq_false (by decide +kernel)
theorem q_joined_most : (("joined" : Str) = ("most" : Str)) = False := eq_false (by decide +kernel)
theorem q_add_negate : (("add" : Str) = ("negate" : Str)) = False := eq_false (by decide +kernel)
theorem q_add_size : (("add" : Str) = ("size" : Str)) = False := eq_false (by decide +kernel)
theorem q_add_joined : (("add" : Str) = ("joined" : Str)) = False := eq_false (by decide +kernel)
theorem q_add_less : (("add" : Str) = ("less" : Str)) = False := eq_false (by decide +kernel)
theorem q_add_times : (("add" : Str) = ("times" : Str)) = False := eq_false (by decide +kernel)
theorem q_add_over : (("add" : Str) = ("over" : Str)) = False := eq_false (by decide +kernel)
theorem q_add_least : (("add" : Str) = ("least" : Str)) = False := eq_false (by decide +kernel)
theorem q_add_most : (("add" : Str) = ("most" : Str)) = False := eq_false (by decide +kernel)
theorem q_less_negate : (("less" : Str) = ("negate" : Str)) = False := eq_false (by decide +kernel)
theorem q_less_size : (("less" : Str) = ("size" : Str)) = False := eq_false (by decide +kernel)
theorem q_less_joined : (("less" : Str) = ("joined" : Str)) = False := eq_false (by decide +kernel)
theorem q_less_add : (("less" : Str) = ("add" : Str)) = False := eq_false (by decide +kernel)
theorem q_less_times : (("less" : Str) = ("times" : Str)) = False := eq_false (by decide +kernel)
theorem q_less_over : (("less" : Str) = ("over" : Str)) = False := eq_false (by decide +kernel)
theorem q_less_least : (("less" : Str) = ("least" : Str)) = False := eq_false (by decide +kernel)
theorem q_less_most : (("less" : Str) = ("most" : Str)) = False := eq_false (by decide +kernel)
theorem q_times_negate : (("times" : Str) = ("negate" : Str)) = False := eq_false (by decide +kernel)
theorem q_times_size : (("times" : Str) = ("size" : Str)) = False := eq_false (by decide +kernel)
theorem q_times_joined : (("times" : Str) = ("joined" : Str)) = False := eq_false (by decide +kernel)
theorem q_times_add : (("times" : Str) = ("add" : Str)) = False := eq_false (by decide +kernel)
theorem q_times_less : (("times" : Str) = ("less" : Str)) = False := eq_false (by decide +kernel)
theorem q_times_over : (("times" : Str) = ("over" : Str)) = False := eq_false (by decide +kernel)
theorem q_times_least : (("times" : Str) = ("least" : Str)) = False := eq_false (by decide +kernel)
theorem q_times_most : (("times" : Str) = ("most" : Str)) = False := eq_false (by decide +kernel)
theorem q_over_negate : (("over" : Str) = ("negate" : Str)) = False := eq_false (by decide +kernel)
theorem q_over_size : (("over" : Str) = ("size" : Str)) = False := eq_false (by decide +kernel)
theorem q_over_joined : (("over" : Str) = ("joined" : Str)) = False := eq_false (by decide +kernel)
theorem q_over_add : (("over" : Str) = ("add" : Str)) = False := eq_false (by decide +kernel)
theorem q_over_less : (("over" : Str) = ("less" : Str)) = False := eq_false (by decide +kernel)
theorem q_over_times : (("over" : Str) = ("times" : Str)) = False := eq_false (by decide +kernel)
theorem q_over_least : (("over" : Str) = ("least" : Str)) = False := eq_false (by decide +kernel)
theorem q_over_most : (("over" : Str) = ("most" : Str)) = False := eq_false (by decide +kernel)
theorem q_least_negate : (("least" : Str) = ("negate" : Str)) = False := eq_false (by decide +kernel)
theorem q_least_size : (("least" : Str) = ("size" : Str)) = False := eq_false (by decide +kernel)
theorem q_least_joined : (("least" : Str) = ("joined" : Str)) = False := eq_false (by decide +kernel)
theorem q_least_add : (("least" : Str) = ("add" : Str)) = False := eq_false (by decide +kernel)
theorem q_least_less : (("least" : Str) = ("less" : Str)) = False := eq_false (by decide +kernel)
theorem q_least_times : (("least" : Str) = ("times" : Str)) = False := eq_false (by decide +kernel)
theorem q_least_over : (("least" : Str) = ("over" : Str)) = False := eq_false (by decide +kernel)
theorem q_least_most : (("least" : Str) = ("most" : Str)) = False := eq_false (by decide +kernel)
theorem q_most_negate : (("most" : Str) = ("negate" : Str)) = False := eq_false (by decide +kernel)
theorem q_most_size : (("most" : Str) = ("size" : Str)) = False := eq_false (by decide +kernel)
theorem q_most_joined : (("most" : Str) = ("joined" : Str)) = False := eq_false (by decide +kernel)
theorem q_most_add : (("most" : Str) = ("add" : Str)) = False := eq_false (by decide +kernel)
theorem q_most_less : (("most" : Str) = ("less" : Str)) = False := eq_false (by decide +kernel)
theorem q_most_times : (("most" : Str) = ("times" : Str)) = False := eq_false (by decide +kernel)
theorem q_most_over : (("most" : Str) = ("over" : Str)) = False := eq_false (by decide +kernel)
theorem q_most_least : (("most" : Str) = ("least" : Str)) = False := eq_false (by decide +kernel)
theorem q_lt_le : (("<" : Str) = ("<=" : Str)) = False := eq_false (by decide +kernel)
theorem q_le_lt : (("<=" : Str) = ("<" : Str)) = False := eq_false (by decide +kernel)
end
section
variable {k : Nat} {S T : Sto} {p q r s o u v l h : Rat} {L : List D} {a b : Int} {x0 x1 x2 x3 x4 x5 x6 x7 x8 x9 x10 x11 x12 x13 x14 x15 x16 x17 x18 x19 x20 x21 : Option D}
abbrev Q (p : Rat) : Prop := Sm 12 p
theorem Q4 (h : Q p) : Sm 4000 p := Sm.mono h (by decide)
theorem Q2 (h : Q p) : Sm 2000 p := Sm.mono h (by decide)
theorem Q1 (h : Q p) : Sm 1000 p := Sm.mono h (by decide)
theorem S4 (h : Sm 60 p) : Sm 4000 p := Sm.mono h (by decide)
def IntL (L : List D) : Prop := ∀ d ∈ L, ∃ x : Int, d = .int x
theorem same_fr : callK G (k + 1) i__law_same [fr p, fr p] S = some (.bl true, S) := same_ok (n := 1) rfl (by decide) (by show (1 + (1 + (1 + 0))) ≤ 1000000; decide)
theorem same_bl {b : Bool} : callK G (k + 1) i__law_same [.bl b, .bl b] S = some (.bl true, S) := same_ok (n := 1) rfl (by decide) (by show (1 : Nat) ≤ 1000000; decide)
theorem same_non : callK G (k + 1) i__law_same [.non, .non] S = some (.bl true, S) := same_ok (n := 1) rfl (by decide) (by show (1 : Nat) ≤ 1000000; decide)
theorem same_sp : callK G (k + 1) i__law_same [sp p q, sp p q] S = some (.bl true, S) := same_ok (n := 2) rfl (by decide) (by show (1 + ((1 + (1 + (1 + 0))) + ((1 + (1 + (1 + 0))) + 0))) ≤ 1000000; decide)
theorem same_sp2 : callK G (k + 1) i__law_same [.tup [sp p q, sp r s], .tup [sp p q, sp r s]] S = some (.bl true, S) := same_ok (n := 3) rfl (by decide) (by show (1 + ((1 + ((1 + (1 + (1 + 0))) + ((1 + (1 + (1 + 0))) + 0))) + ((1 + ((1 + (1 + (1 + 0))) + ((1 + (1 + (1 + 0))) + 0))) + 0))) ≤ 1000000; decide)
theorem same_spH {x : Rat × Rat} : callK G (k + 1) i__law_same [spH x, spH x] S = some (.bl true, S) := same_sp
theorem asg_sp {ts : MGs} {ρ : Env} : asgG (.tup ts) (sp p q) ρ = asgGs ts [fr p, fr q] ρ := nrfl rfl
theorem lst_sp : biD S .list [sp p q] = some (.lst [fr p, fr q]) := nrfl rfl
/-- the law's order, hull, sum -/
theorem lless (h : Sm 4000 p) (g : Sm 4000 q) : callK G (k + 1) i__law_less [fr p, fr q] S = some (.bl (decide (p < q)), S) := by
  rw [call_fn g__law_less rfl, ← lt_eq]
  have h1 := h.nm.mulOk g.dn (by decide)
  have h2 := g.nm.mulOk h.dn (by decide)
  simp only [E1, E2, E3, E4, E5, E6, E7, E8, E9, List.map_cons, List.map_nil, List.cons_append, List.nil_append, List.append_nil, List.length_cons, List.length_nil, List.replicate_zero, List.replicate_succ, Nat.sub_self, Nat.zero_add, List.getElem?_cons_zero, List.getElem?_cons_succ, List.set_cons_zero, List.set_cons_succ, if_true, if_false, Bool.false_eq_true, decide_true, decide_false, Bool.not_true, Bool.not_false, decide_eq_true_eq, eq_self, Int.cast_ofNat_Int, Int.natCast_zero, Int.natCast_one, Nat.reduceLeDiff, Nat.reduceSub, Nat.reduceAdd, Nat.reduceLT, reduceIte, reduceCtorEq, Int.reduceEq, Int.reduceLT, Int.reduceLE, Int.reduceNeg, Int.reduceAdd, Int.reduceSub, Int.reduceMul, Int.reduceNe, Int.reduceBNe, Int.reduceBEq, f__law_less, fr, h1, h2]
theorem lless_0 (h : Sm 4000 p) : callK G (k + 1) i__law_less [.tup [.int 0, .int 1], fr p] S = some (.bl (decide (0 < p)), S) := lless (p := 0) ⟨by decide +kernel, by decide +kernel⟩ h
theorem lless_1 (h : Sm 4000 p) : callK G (k + 1) i__law_less [fr p, .tup [.int 0, .int 1]] S = some (.bl (decide (p < 0)), S) := lless (q := 0) h ⟨by decide +kernel, by decide +kernel⟩
theorem lhull_loop {all : List D} {x : Option D} : ∀ (xs : List Rat) (lo hi : Rat) (y : Option D), Sm 4000 lo → Sm 4000 hi → (∀ q ∈ xs, Sm 4000 q) → ∃ y', forL none all (fbd G (callK G (k + 1)) (.name 3) b__law_hull_0) (xs.map fr) [x, some (fr lo), some (fr hi), y] S = some (.nx [x, some (fr (xs.foldl lo2 lo)), some (fr (xs.foldl hi2 hi)), y'], S)
  | [], lo, hi, y, _, _, _ => ⟨y, forL_nil⟩
  | z :: xs, lo, hi, y, h1, h2, h3 => by
    have hx := h3 z List.mem_cons_self
    obtain ⟨y', e⟩ := lhull_loop xs (lo2 lo z) (hi2 hi z) (some (fr z)) (h1.lo hx) (h2.hi hx) fun q hq => h3 q (List.mem_cons_of_mem _ hq)
    refine ⟨y', (forL_cons ?_).trans e⟩
    unfold fbd
    unfold lo2 hi2
    by_cases c1 : z < lo
    · by_cases c2 : hi < z
      · simp only [E1, E2, E3, E4, E5, E6, E7, E8, E9, List.map_cons, List.map_nil, List.cons_append, List.nil_append, List.append_nil, List.length_cons, List.length_nil, List.replicate_zero, List.replicate_succ, Nat.sub_self, Nat.zero_add, List.getElem?_cons_zero, List.getElem?_cons_succ, List.set_cons_zero, List.set_cons_succ, if_true, if_false, Bool.false_eq_true, decide_true, decide_false, Bool.not_true, Bool.not_false, decide_eq_true_eq, eq_self, Int.cast_ofNat_Int, Int.natCast_zero, Int.natCast_one, Nat.reduceLeDiff, Nat.reduceSub, Nat.reduceAdd, Nat.reduceLT, reduceIte, reduceCtorEq, Int.reduceEq, Int.reduceLT, Int.reduceLE, Int.reduceNeg, Int.reduceAdd, Int.reduceSub, Int.reduceMul, Int.reduceNe, Int.reduceBNe, Int.reduceBEq, b__law_hull_0, lless hx h1, lless h2 hx, c1, c2]
      · simp only [E1, E2, E3, E4, E5, E6, E7, E8, E9, List.map_cons, List.map_nil, List.cons_append, List.nil_append, List.append_nil, List.length_cons, List.length_nil, List.replicate_zero, List.replicate_succ, Nat.sub_self, Nat.zero_add, List.getElem?_cons_zero, List.getElem?_cons_succ, List.set_cons_zero, List.set_cons_succ, if_true, if_false, Bool.false_eq_true, decide_true, decide_false, Bool.not_true, Bool.not_false, decide_eq_true_eq, eq_self, Int.cast_ofNat_Int, Int.natCast_zero, Int.natCast_one, Nat.reduceLeDiff, Nat.reduceSub, Nat.reduceAdd, Nat.reduceLT, reduceIte, reduceCtorEq, Int.reduceEq, Int.reduceLT, Int.reduceLE, Int.reduceNeg, Int.reduceAdd, Int.reduceSub, Int.reduceMul, Int.reduceNe, Int.reduceBNe, Int.reduceBEq, b__law_hull_0, lless hx h1, lless h2 hx, c1, c2]
    · by_cases c2 : hi < z
      · simp only [E1, E2, E3, E4, E5, E6, E7, E8, E9, List.map_cons, List.map_nil, List.cons_append, List.nil_append, List.append_nil, List.length_cons, List.length_nil, List.replicate_zero, List.replicate_succ, Nat.sub_self, Nat.zero_add, List.getElem?_cons_zero, List.getElem?_cons_succ, List.set_cons_zero, List.set_cons_succ, if_true, if_false, Bool.false_eq_true, decide_true, decide_false, Bool.not_true, Bool.not_false, decide_eq_true_eq, eq_self, Int.cast_ofNat_Int, Int.natCast_zero, Int.natCast_one, Nat.reduceLeDiff, Nat.reduceSub, Nat.reduceAdd, Nat.reduceLT, reduceIte, reduceCtorEq, Int.reduceEq, Int.reduceLT, Int.reduceLE, Int.reduceNeg, Int.reduceAdd, Int.reduceSub, Int.reduceMul, Int.reduceNe, Int.reduceBNe, Int.reduceBEq, b__law_hull_0, lless hx h1, lless h2 hx, c1, c2]
      · simp only [E1, E2, E3, E4, E5, E6, E7, E8, E9, List.map_cons, List.map_nil, List.cons_append, List.nil_append, List.append_nil, List.length_cons, List.length_nil, List.replicate_zero, List.replicate_succ, Nat.sub_self, Nat.zero_add, List.getElem?_cons_zero, List.getElem?_cons_succ, List.set_cons_zero, List.set_cons_succ, if_true, if_false, Bool.false_eq_true, decide_true, decide_false, Bool.not_true, Bool.not_false, decide_eq_true_eq, eq_self, Int.cast_ofNat_Int, Int.natCast_zero, Int.natCast_one, Nat.reduceLeDiff, Nat.reduceSub, Nat.reduceAdd, Nat.reduceLT, reduceIte, reduceCtorEq, Int.reduceEq, Int.reduceLT, Int.reduceLE, Int.reduceNeg, Int.reduceAdd, Int.reduceSub, Int.reduceMul, Int.reduceNe, Int.reduceBNe, Int.reduceBEq, b__law_hull_0, lless hx h1, lless h2 hx, c1, c2]
theorem lhull_ok {x : Rat} {xs : List Rat} (h : ∀ q ∈ x :: xs, Sm 4000 q) : callK G (k + 2) i__law_hull [.lst (fr x :: xs.map fr)] S = some (spH (hullF x xs), S) := by
  rw [call_fn g__law_hull rfl, ← hull_self]
  have hx := h x List.mem_cons_self
  obtain ⟨y', e⟩ := lhull_loop (k := k) (S := S) (all := fr x :: xs.map fr) (x := some (.lst (fr x :: xs.map fr))) (x :: xs) x x none hx hx h
  have e : forL none (fr x :: xs.map fr) (fbd G (callK G (k + 1)) (.name 3) b__law_hull_0) (fr x :: xs.map fr) [some (.lst (fr x :: xs.map fr)), some (fr x), some (fr x), none] S = some (.nx [some (.lst (fr x :: xs.map fr)), some (fr ((x :: xs).foldl lo2 x)), some (fr ((x :: xs).foldl hi2 x)), y'], S) := e
  simp only [E1, E2, E3, E4, E5, E6, E7, E8, E9, List.map_cons, List.map_nil, List.cons_append, List.nil_append, List.append_nil, List.length_cons, List.length_nil, List.replicate_zero, List.replicate_succ, Nat.sub_self, Nat.zero_add, List.getElem?_cons_zero, List.getElem?_cons_succ, List.set_cons_zero, List.set_cons_succ, if_true, if_false, Bool.false_eq_true, decide_true, decide_false, Bool.not_true, Bool.not_false, decide_eq_true_eq, eq_self, Int.cast_ofNat_Int, Int.natCast_zero, Int.natCast_one, Nat.reduceLeDiff, Nat.reduceSub, Nat.reduceAdd, Nat.reduceLT, reduceIte, reduceCtorEq, Int.reduceEq, Int.reduceLT, Int.reduceLE, Int.reduceNeg, Int.reduceAdd, Int.reduceSub, Int.reduceMul, Int.reduceNe, Int.reduceBNe, Int.reduceBEq, f__law_hull, e]
  rfl
theorem sum2 (h : Sm 60 p) (g : Sm 60 q) : callK G (k + 2) i__law_sum [.lst [fr p, fr q]] S = some (fr (p + q), S) := by
  have := lsum_ok (k := k) (S := S) (n := 60) (qs := [p, q]) (by
    intro z hz
    simp only [List.mem_cons, List.not_mem_nil, or_false] at hz
    rcases hz with rfl | rfl
    · exact h
    · exact g) (by decide) (by show 1 + 2 * (60 + 1) ≤ 4000; decide)
  rw [show frSum [p, q] = p + q by simp [frSum, Rat.zero_add]] at this
  exact this
theorem sum2m (h : Sm 60 p) (g : Sm 60 q) : callK G (k + 2) i__law_sum [.lst [fr p, .tup [.int (0 - q.num), .int (q.den : Int)]]] S = some (fr (p - q), S) := by
  have := sum2 (k := k) (S := S) h g.neg
  rw [fr_neg] at this
  rw [Rat.sub_eq_add_neg, Int.zero_sub]
  exact this
/-- what a step gives, exactly -/
theorem in_add : cmpD S .In (.str "add") (.tup [.str "add", .str "less"]) = some true := in_strT (xs := ["add", "less"]) (by decide +kernel) (by decide) (by decide +kernel)
theorem in_less : cmpD S .In (.str "less") (.tup [.str "add", .str "less"]) = some true := in_strT (xs := ["add", "less"]) (by decide +kernel) (by decide) (by decide +kernel)
theorem in_times : cmpD S .In (.str "times") (.tup [.str "add", .str "less"]) = some false := in_strT (xs := ["add", "less"]) (by decide +kernel) (by decide) (by decide +kernel)
theorem in_over : cmpD S .In (.str "over") (.tup [.str "add", .str "less"]) = some false := in_strT (xs := ["add", "less"]) (by decide +kernel) (by decide) (by decide +kernel)
theorem in_least : cmpD S .In (.str "least") (.tup [.str "add", .str "less"]) = some false := in_strT (xs := ["add", "less"]) (by decide +kernel) (by decide) (by decide +kernel)
theorem in_most : cmpD S .In (.str "most") (.tup [.str "add", .str "less"]) = some false := in_strT (xs := ["add", "less"]) (by decide +kernel) (by decide) (by decide +kernel)
theorem x_add (h : Sm 60 p) (g : Sm 60 q) : callK G (k + 3) i__law_exact [.str "add", fr p, fr q] S = some (fr (p + q), S) := by
  rw [call_fn g__law_exact rfl]
  simp only [E1, E2, E3, E4, E5, E6, E7, E8, E9, List.map_cons, List.map_nil, List.cons_append, List.nil_append, List.append_nil, List.length_cons, List.length_nil, List.replicate_zero, List.replicate_succ, Nat.sub_self, Nat.zero_add, List.getElem?_cons_zero, List.getElem?_cons_succ, List.set_cons_zero, List.set_cons_succ, if_true, if_false, Bool.false_eq_true, decide_true, decide_false, Bool.not_true, Bool.not_false, decide_eq_true_eq, eq_self, Int.cast_ofNat_Int, Int.natCast_zero, Int.natCast_one, Nat.reduceLeDiff, Nat.reduceSub, Nat.reduceAdd, Nat.reduceLT, reduceIte, reduceCtorEq, Int.reduceEq, Int.reduceLT, Int.reduceLE, Int.reduceNeg, Int.reduceAdd, Int.reduceSub, Int.reduceMul, Int.reduceNe, Int.reduceBNe, Int.reduceBEq, f__law_exact, in_add, sum2 h g]
theorem x_less (h : Sm 60 p) (g : Sm 60 q) : callK G (k + 3) i__law_exact [.str "less", fr p, fr q] S = some (fr (p - q), S) := by
  rw [call_fn g__law_exact rfl]
  simp only [E1, E2, E3, E4, E5, E6, E7, E8, E9, List.map_cons, List.map_nil, List.cons_append, List.nil_append, List.append_nil, List.length_cons, List.length_nil, List.replicate_zero, List.replicate_succ, Nat.sub_self, Nat.zero_add, List.getElem?_cons_zero, List.getElem?_cons_succ, List.set_cons_zero, List.set_cons_succ, if_true, if_false, Bool.false_eq_true, decide_true, decide_false, Bool.not_true, Bool.not_false, decide_eq_true_eq, eq_self, Int.cast_ofNat_Int, Int.natCast_zero, Int.natCast_one, Nat.reduceLeDiff, Nat.reduceSub, Nat.reduceAdd, Nat.reduceLT, reduceIte, reduceCtorEq, Int.reduceEq, Int.reduceLT, Int.reduceLE, Int.reduceNeg, Int.reduceAdd, Int.reduceSub, Int.reduceMul, Int.reduceNe, Int.reduceBNe, Int.reduceBEq, f__law_exact, in_less, q_less_add, idx_fr0, idx_fr1, sum2m h g]
theorem x_times (h : Sm 60 p) (g : Sm 60 q) : callK G (k + 3) i__law_exact [.str "times", fr p, fr q] S = some (fr (p * q), S) := by
  rw [call_fn g__law_exact rfl]
  have o1 := (S4 h).nm.mulOk (S4 g).nm (by decide)
  have o2 := (S4 h).dn.mulOk (S4 g).dn (by decide)
  simp only [E1, E2, E3, E4, E5, E6, E7, E8, E9, List.map_cons, List.map_nil, List.cons_append, List.nil_append, List.append_nil, List.length_cons, List.length_nil, List.replicate_zero, List.replicate_succ, Nat.sub_self, Nat.zero_add, List.getElem?_cons_zero, List.getElem?_cons_succ, List.set_cons_zero, List.set_cons_succ, if_true, if_false, Bool.false_eq_true, decide_true, decide_false, Bool.not_true, Bool.not_false, decide_eq_true_eq, eq_self, Int.cast_ofNat_Int, Int.natCast_zero, Int.natCast_one, Nat.reduceLeDiff, Nat.reduceSub, Nat.reduceAdd, Nat.reduceLT, reduceIte, reduceCtorEq, Int.reduceEq, Int.reduceLT, Int.reduceLE, Int.reduceNeg, Int.reduceAdd, Int.reduceSub, Int.reduceMul, Int.reduceNe, Int.reduceBNe, Int.reduceBEq, f__law_exact, in_times, idx_fr0, idx_fr1, o1, o2, least_mul (S4 h) (S4 g)]
theorem x_over (h : Sm 60 p) (g : Sm 60 q) (z : q ≠ 0) : callK G (k + 3) i__law_exact [.str "over", fr p, fr q] S = some (fr (p / q), S) := by
  rw [call_fn g__law_exact rfl]
  have b1 : Bd 1 1 := by show (1 : Nat) < 2 ^ 1; decide
  have b2 : Bd 1 (-1) := by show (1 : Nat) < 2 ^ 1; decide
  have zn := num_ne z
  by_cases c : 0 < q.num
  · have o1 := b1.mulOk (S4 h).nm (by decide)
    have o2 := b1.mulOk (S4 h).dn (by decide)
    have o3 := (S4 h).nm.mulOk (S4 g).dn (by decide)
    have o4 := (S4 h).dn.mulOk (S4 g).nm (by decide)
    have e := least_quo (k := k + 1) (S := S) (S4 h) (S4 g) zn
    simp only [E1, E2, E3, E4, E5, E6, E7, E8, E9, List.map_cons, List.map_nil, List.cons_append, List.nil_append, List.append_nil, List.length_cons, List.length_nil, List.replicate_zero, List.replicate_succ, Nat.sub_self, Nat.zero_add, List.getElem?_cons_zero, List.getElem?_cons_succ, List.set_cons_zero, List.set_cons_succ, if_true, if_false, Bool.false_eq_true, decide_true, decide_false, Bool.not_true, Bool.not_false, decide_eq_true_eq, eq_self, Int.cast_ofNat_Int, Int.natCast_zero, Int.natCast_one, Nat.reduceLeDiff, Nat.reduceSub, Nat.reduceAdd, Nat.reduceLT, reduceIte, reduceCtorEq, Int.reduceEq, Int.reduceLT, Int.reduceLE, Int.reduceNeg, Int.reduceAdd, Int.reduceSub, Int.reduceMul, Int.reduceNe, Int.reduceBNe, Int.reduceBEq, f__law_exact, in_over, q_over_times, idx_fr0, idx_fr1, c, o1, o2, Int.one_mul, o3, o4, e]
  · have o1 := b2.mulOk (S4 h).nm (by decide)
    have o2 := b2.mulOk (S4 h).dn (by decide)
    have o3 := (S4 h).nm.neg.mulOk (S4 g).dn (by decide)
    have o4 := (S4 h).dn.neg.mulOk (S4 g).nm (by decide)
    have e := least_ok (k := k + 1) (S := S) (u := -p.num * (q.den : Int)) (l := -(p.den : Int) * q.num) (Int.mul_ne_zero (by have := den_ne (q := p); omega) zn) (((S4 h).dn.neg.mul (S4 g).nm).mono (by decide))
    have e2 : Rat.divInt (-p.num * (q.den : Int)) (-(p.den : Int) * q.num) = p / q := by
      rw [div_eq, Int.neg_mul, Int.neg_mul]
      exact Rat.neg_divInt_neg _ _
    rw [e2] at e
    simp only [E1, E2, E3, E4, E5, E6, E7, E8, E9, List.map_cons, List.map_nil, List.cons_append, List.nil_append, List.append_nil, List.length_cons, List.length_nil, List.replicate_zero, List.replicate_succ, Nat.sub_self, Nat.zero_add, List.getElem?_cons_zero, List.getElem?_cons_succ, List.set_cons_zero, List.set_cons_succ, if_true, if_false, Bool.false_eq_true, decide_true, decide_false, Bool.not_true, Bool.not_false, decide_eq_true_eq, eq_self, Int.cast_ofNat_Int, Int.natCast_zero, Int.natCast_one, Nat.reduceLeDiff, Nat.reduceSub, Nat.reduceAdd, Nat.reduceLT, reduceIte, reduceCtorEq, Int.reduceEq, Int.reduceLT, Int.reduceLE, Int.reduceNeg, Int.reduceAdd, Int.reduceSub, Int.reduceMul, Int.reduceNe, Int.reduceBNe, Int.reduceBEq, f__law_exact, in_over, q_over_times, idx_fr0, idx_fr1, c, o1, o2, Int.neg_one_mul, o3, o4, e]
theorem x_least (h : Sm 60 p) (g : Sm 60 q) : callK G (k + 3) i__law_exact [.str "least", fr p, fr q] S = some (fr (lo2 p q), S) := by
  rw [call_fn g__law_exact rfl]
  have e1 := lless (k := k + 1) (S := S) (S4 h) (S4 g)
  by_cases c : p < q
  · have : lo2 p q = p := by unfold lo2; grind
    rw [this]
    simp only [E1, E2, E3, E4, E5, E6, E7, E8, E9, List.map_cons, List.map_nil, List.cons_append, List.nil_append, List.append_nil, List.length_cons, List.length_nil, List.replicate_zero, List.replicate_succ, Nat.sub_self, Nat.zero_add, List.getElem?_cons_zero, List.getElem?_cons_succ, List.set_cons_zero, List.set_cons_succ, if_true, if_false, Bool.false_eq_true, decide_true, decide_false, Bool.not_true, Bool.not_false, decide_eq_true_eq, eq_self, Int.cast_ofNat_Int, Int.natCast_zero, Int.natCast_one, Nat.reduceLeDiff, Nat.reduceSub, Nat.reduceAdd, Nat.reduceLT, reduceIte, reduceCtorEq, Int.reduceEq, Int.reduceLT, Int.reduceLE, Int.reduceNeg, Int.reduceAdd, Int.reduceSub, Int.reduceMul, Int.reduceNe, Int.reduceBNe, Int.reduceBEq, f__law_exact, in_least, q_least_times, q_least_over, e1, c]
  · have : lo2 p q = q := by unfold lo2; grind
    rw [this]
    simp only [E1, E2, E3, E4, E5, E6, E7, E8, E9, List.map_cons, List.map_nil, List.cons_append, List.nil_append, List.append_nil, List.length_cons, List.length_nil, List.replicate_zero, List.replicate_succ, Nat.sub_self, Nat.zero_add, List.getElem?_cons_zero, List.getElem?_cons_succ, List.set_cons_zero, List.set_cons_succ, if_true, if_false, Bool.false_eq_true, decide_true, decide_false, Bool.not_true, Bool.not_false, decide_eq_true_eq, eq_self, Int.cast_ofNat_Int, Int.natCast_zero, Int.natCast_one, Nat.reduceLeDiff, Nat.reduceSub, Nat.reduceAdd, Nat.reduceLT, reduceIte, reduceCtorEq, Int.reduceEq, Int.reduceLT, Int.reduceLE, Int.reduceNeg, Int.reduceAdd, Int.reduceSub, Int.reduceMul, Int.reduceNe, Int.reduceBNe, Int.reduceBEq, f__law_exact, in_least, q_least_times, q_least_over, e1, c]
theorem x_most (h : Sm 60 p) (g : Sm 60 q) : callK G (k + 3) i__law_exact [.str "most", fr p, fr q] S = some (fr (hi2 p q), S) := by
  rw [call_fn g__law_exact rfl]
  have e1 := lless (k := k + 1) (S := S) (S4 h) (S4 g)
  by_cases c : p < q
  · have : hi2 p q = q := by unfold hi2; grind
    rw [this]
    simp only [E1, E2, E3, E4, E5, E6, E7, E8, E9, List.map_cons, List.map_nil, List.cons_append, List.nil_append, List.append_nil, List.length_cons, List.length_nil, List.replicate_zero, List.replicate_succ, Nat.sub_self, Nat.zero_add, List.getElem?_cons_zero, List.getElem?_cons_succ, List.set_cons_zero, List.set_cons_succ, if_true, if_false, Bool.false_eq_true, decide_true, decide_false, Bool.not_true, Bool.not_false, decide_eq_true_eq, eq_self, Int.cast_ofNat_Int, Int.natCast_zero, Int.natCast_one, Nat.reduceLeDiff, Nat.reduceSub, Nat.reduceAdd, Nat.reduceLT, reduceIte, reduceCtorEq, Int.reduceEq, Int.reduceLT, Int.reduceLE, Int.reduceNeg, Int.reduceAdd, Int.reduceSub, Int.reduceMul, Int.reduceNe, Int.reduceBNe, Int.reduceBEq, f__law_exact, in_most, q_most_times, q_most_over, q_most_least, e1, c]
  · have : hi2 p q = p := by unfold hi2; grind
    rw [this]
    simp only [E1, E2, E3, E4, E5, E6, E7, E8, E9, List.map_cons, List.map_nil, List.cons_append, List.nil_append, List.append_nil, List.length_cons, List.length_nil, List.replicate_zero, List.replicate_succ, Nat.sub_self, Nat.zero_add, List.getElem?_cons_zero, List.getElem?_cons_succ, List.set_cons_zero, List.set_cons_succ, if_true, if_false, Bool.false_eq_true, decide_true, decide_false, Bool.not_true, Bool.not_false, decide_eq_true_eq, eq_self, Int.cast_ofNat_Int, Int.natCast_zero, Int.natCast_one, Nat.reduceLeDiff, Nat.reduceSub, Nat.reduceAdd, Nat.reduceLT, reduceIte, reduceCtorEq, Int.reduceEq, Int.reduceLT, Int.reduceLE, Int.reduceNeg, Int.reduceAdd, Int.reduceSub, Int.reduceMul, Int.reduceNe, Int.reduceBNe, Int.reduceBEq, f__law_exact, in_most, q_most_times, q_most_over, q_most_least, e1, c]
/-- the program's steps -/
theorem none_in {xs : List (Rat × Rat)} (hl : xs.length ≤ 1000) : cmpD S .In .non (.lst (xs.map spH)) = some false := by
  rw [inN, in_l (n := 0) (m := 3) rfl (by decide) (okD_lst (okDs_all (by
    intro x hx
    obtain ⟨y, _, rfl⟩ := List.mem_map.mp hx
    rfl)) (le_size (by simp; omega))) (by decide)]
  congr 1
  rw [List.any_eq_false]
  intro x hx
  obtain ⟨y, _, rfl⟩ := List.mem_map.mp hx
  exact Bool.false_ne_true
theorem none_in1 : cmpD S .In .non (.lst [sp p q]) = some false := none_in (xs := [(p, q)]) (by show 1 ≤ 1000; decide)
theorem none_in2 : cmpD S .In .non (.lst [sp p q, sp r s]) = some false := none_in (xs := [(p, q), (r, s)]) (by show 2 ≤ 1000; decide)
theorem none_in3 : cmpD S .In .non (.lst [sp p q, sp r s, sp u v]) = some false := none_in (xs := [(p, q), (r, s), (u, v)]) (by show 3 ≤ 1000; decide)
theorem none_inN : cmpD S .In .non (.lst [sp p q, .non]) = some true := by
  rw [inN, in_l (n := 0) (m := 3) rfl (by decide) (okD_lst rfl (le_size (by show 2 ≤ 1000000; decide))) (by decide)]
  congr 1

theorem step_negate : callK G (k + 7) i_span_of_step [.str "negate", .lst [sp p q]] S = some (sp (-q) (-p), S) := by
  rw [call_fn g_span_of_step rfl]
  simp only [E1, E2, E3, E4, E5, E6, E7, E8, E9, List.map_cons, List.map_nil, List.cons_append, List.nil_append, List.append_nil, List.length_cons, List.length_nil, List.replicate_zero, List.replicate_succ, Nat.sub_self, Nat.zero_add, List.getElem?_cons_zero, List.getElem?_cons_succ, List.set_cons_zero, List.set_cons_succ, if_true, if_false, Bool.false_eq_true, decide_true, decide_false, Bool.not_true, Bool.not_false, decide_eq_true_eq, eq_self, Int.cast_ofNat_Int, Int.natCast_zero, Int.natCast_one, Nat.reduceLeDiff, Nat.reduceSub, Nat.reduceAdd, Nat.reduceLT, reduceIte, reduceCtorEq, Int.reduceEq, Int.reduceLT, Int.reduceLE, Int.reduceNeg, Int.reduceAdd, Int.reduceSub, Int.reduceMul, Int.reduceNe, Int.reduceBNe, Int.reduceBEq, f_span_of_step, s_span_of_step_0_0, s_span_of_step_0_1, s_span_of_step_0_2, s_span_of_step_0_3, s_span_of_step_0_4, s_span_of_step_0_5, s_span_of_step_0_6, s_span_of_step_0_7, s_span_of_step_0_8, s_span_of_step_0_9, none_in1, negated_span_ok]
theorem step_size (h : Sm 4000 p) (g : Sm 4000 q) : callK G (k + 7) i_span_of_step [.str "size", .lst [sp p q]] S = some (spH (szS p q), S) := by
  rw [call_fn g_span_of_step rfl]
  simp only [E1, E2, E3, E4, E5, E6, E7, E8, E9, List.map_cons, List.map_nil, List.cons_append, List.nil_append, List.append_nil, List.length_cons, List.length_nil, List.replicate_zero, List.replicate_succ, Nat.sub_self, Nat.zero_add, List.getElem?_cons_zero, List.getElem?_cons_succ, List.set_cons_zero, List.set_cons_succ, if_true, if_false, Bool.false_eq_true, decide_true, decide_false, Bool.not_true, Bool.not_false, decide_eq_true_eq, eq_self, Int.cast_ofNat_Int, Int.natCast_zero, Int.natCast_one, Nat.reduceLeDiff, Nat.reduceSub, Nat.reduceAdd, Nat.reduceLT, reduceIte, reduceCtorEq, Int.reduceEq, Int.reduceLT, Int.reduceLE, Int.reduceNeg, Int.reduceAdd, Int.reduceSub, Int.reduceMul, Int.reduceNe, Int.reduceBNe, Int.reduceBEq, f_span_of_step, s_span_of_step_0_0, s_span_of_step_0_1, s_span_of_step_0_2, s_span_of_step_0_3, s_span_of_step_0_4, s_span_of_step_0_5, s_span_of_step_0_6, s_span_of_step_0_7, s_span_of_step_0_8, s_span_of_step_0_9, none_in1, q_size_negate, size_span_ok h g]
theorem step_none : callK G (k + 7) i_span_of_step [.str "add", .lst [sp p q, .non]] S = some (.non, S) := by
  rw [call_fn g_span_of_step rfl]
  simp only [E1, E2, E3, E4, E5, E6, E7, E8, E9, List.map_cons, List.map_nil, List.cons_append, List.nil_append, List.append_nil, List.length_cons, List.length_nil, List.replicate_zero, List.replicate_succ, Nat.sub_self, Nat.zero_add, List.getElem?_cons_zero, List.getElem?_cons_succ, List.set_cons_zero, List.set_cons_succ, if_true, if_false, Bool.false_eq_true, decide_true, decide_false, Bool.not_true, Bool.not_false, decide_eq_true_eq, eq_self, Int.cast_ofNat_Int, Int.natCast_zero, Int.natCast_one, Nat.reduceLeDiff, Nat.reduceSub, Nat.reduceAdd, Nat.reduceLT, reduceIte, reduceCtorEq, Int.reduceEq, Int.reduceLT, Int.reduceLE, Int.reduceNeg, Int.reduceAdd, Int.reduceSub, Int.reduceMul, Int.reduceNe, Int.reduceBNe, Int.reduceBEq, f_span_of_step, s_span_of_step_0_0, s_span_of_step_0_1, s_span_of_step_0_2, s_span_of_step_0_3, s_span_of_step_0_4, s_span_of_step_0_5, s_span_of_step_0_6, s_span_of_step_0_7, s_span_of_step_0_8, s_span_of_step_0_9, none_inN]
theorem hull_sm {n : Nat} {x : Rat} {xs : List Rat} (h : ∀ q ∈ x :: xs, Sm n q) : Sm n (hullF x xs).1 ∧ Sm n (hullF x xs).2 := ⟨h _ (lo_fold xs x).2, h _ (hi_fold xs x).2⟩
theorem hull4_sm (hp : Q p) (hq : Q q) (hr : Q r) (hs : Q s) : Sm 60 (hull4 (· * ·) p q r s).1 ∧ Sm 60 (hull4 (· * ·) p q r s).2 := hull_sm (by
  intro z hz
  simp only [List.mem_cons, List.not_mem_nil, or_false] at hz
  rcases hz with rfl | rfl | rfl | rfl
  · exact (Sm.mul hp hr).mono (by decide)
  · exact (Sm.mul hp hs).mono (by decide)
  · exact (Sm.mul hq hr).mono (by decide)
  · exact (Sm.mul hq hs).mono (by decide))
theorem step_joined (hp : Q p) (hq : Q q) (hr : Q r) (hs : Q s) : callK G (k + 7) i_span_of_step [.str "joined", .lst [sp p q, sp r s, sp p q]] S = some (sp ((hull4 (· * ·) p q r s).1 + p) ((hull4 (· * ·) p q r s).2 + q), S) := by
  rw [call_fn g_span_of_step rfl]
  obtain ⟨h1, h2⟩ := hull4_sm hp hq hr hs
  simp only [E1, E2, E3, E4, E5, E6, E7, E8, E9, List.map_cons, List.map_nil, List.cons_append, List.nil_append, List.append_nil, List.length_cons, List.length_nil, List.replicate_zero, List.replicate_succ, Nat.sub_self, Nat.zero_add, List.getElem?_cons_zero, List.getElem?_cons_succ, List.set_cons_zero, List.set_cons_succ, if_true, if_false, Bool.false_eq_true, decide_true, decide_false, Bool.not_true, Bool.not_false, decide_eq_true_eq, eq_self, Int.cast_ofNat_Int, Int.natCast_zero, Int.natCast_one, Nat.reduceLeDiff, Nat.reduceSub, Nat.reduceAdd, Nat.reduceLT, reduceIte, reduceCtorEq, Int.reduceEq, Int.reduceLT, Int.reduceLE, Int.reduceNeg, Int.reduceAdd, Int.reduceSub, Int.reduceMul, Int.reduceNe, Int.reduceBNe, Int.reduceBEq, f_span_of_step, s_span_of_step_0_0, s_span_of_step_0_1, s_span_of_step_0_2, s_span_of_step_0_3, s_span_of_step_0_4, s_span_of_step_0_5, s_span_of_step_0_6, s_span_of_step_0_7, s_span_of_step_0_8, s_span_of_step_0_9, none_in3, q_joined_negate, q_joined_size, times_spans_ok (Q2 hp) (Q2 hq) (Q2 hr) (Q2 hs), spH, added_spans_ok (S4 h1) (S4 h2) (Q4 hp) (Q4 hq)]
theorem step_add (hp : Q p) (hq : Q q) (hr : Q r) (hs : Q s) : callK G (k + 7) i_span_of_step [.str "add", .lst [sp p q, sp r s]] S = some (sp (p + r) (q + s), S) := by
  rw [call_fn g_span_of_step rfl]
  simp only [E1, E2, E3, E4, E5, E6, E7, E8, E9, List.map_cons, List.map_nil, List.cons_append, List.nil_append, List.append_nil, List.length_cons, List.length_nil, List.replicate_zero, List.replicate_succ, Nat.sub_self, Nat.zero_add, List.getElem?_cons_zero, List.getElem?_cons_succ, List.set_cons_zero, List.set_cons_succ, if_true, if_false, Bool.false_eq_true, decide_true, decide_false, Bool.not_true, Bool.not_false, decide_eq_true_eq, eq_self, Int.cast_ofNat_Int, Int.natCast_zero, Int.natCast_one, Nat.reduceLeDiff, Nat.reduceSub, Nat.reduceAdd, Nat.reduceLT, reduceIte, reduceCtorEq, Int.reduceEq, Int.reduceLT, Int.reduceLE, Int.reduceNeg, Int.reduceAdd, Int.reduceSub, Int.reduceMul, Int.reduceNe, Int.reduceBNe, Int.reduceBEq, f_span_of_step, s_span_of_step_0_0, s_span_of_step_0_1, s_span_of_step_0_2, s_span_of_step_0_3, s_span_of_step_0_4, s_span_of_step_0_5, s_span_of_step_0_6, s_span_of_step_0_7, s_span_of_step_0_8, s_span_of_step_0_9, none_in2, q_add_negate, q_add_size, q_add_joined, q_add_less, q_add_times, q_add_over, q_add_least, q_add_most, added_spans_ok (Q4 hp) (Q4 hq) (Q4 hr) (Q4 hs), spH]
theorem step_less (hp : Q p) (hq : Q q) (hr : Q r) (hs : Q s) : callK G (k + 7) i_span_of_step [.str "less", .lst [sp p q, sp r s]] S = some (sp (p - s) (q - r), S) := by
  rw [call_fn g_span_of_step rfl]
  simp only [E1, E2, E3, E4, E5, E6, E7, E8, E9, List.map_cons, List.map_nil, List.cons_append, List.nil_append, List.append_nil, List.length_cons, List.length_nil, List.replicate_zero, List.replicate_succ, Nat.sub_self, Nat.zero_add, List.getElem?_cons_zero, List.getElem?_cons_succ, List.set_cons_zero, List.set_cons_succ, if_true, if_false, Bool.false_eq_true, decide_true, decide_false, Bool.not_true, Bool.not_false, decide_eq_true_eq, eq_self, Int.cast_ofNat_Int, Int.natCast_zero, Int.natCast_one, Nat.reduceLeDiff, Nat.reduceSub, Nat.reduceAdd, Nat.reduceLT, reduceIte, reduceCtorEq, Int.reduceEq, Int.reduceLT, Int.reduceLE, Int.reduceNeg, Int.reduceAdd, Int.reduceSub, Int.reduceMul, Int.reduceNe, Int.reduceBNe, Int.reduceBEq, f_span_of_step, s_span_of_step_0_0, s_span_of_step_0_1, s_span_of_step_0_2, s_span_of_step_0_3, s_span_of_step_0_4, s_span_of_step_0_5, s_span_of_step_0_6, s_span_of_step_0_7, s_span_of_step_0_8, s_span_of_step_0_9, none_in2, q_less_negate, q_less_size, q_less_joined, q_less_add, q_less_times, q_less_over, q_less_least, q_less_most, taken_spans_ok (Q4 hp) (Q4 hq) (Q4 hr) (Q4 hs), spH]
theorem step_times (hp : Q p) (hq : Q q) (hr : Q r) (hs : Q s) : callK G (k + 7) i_span_of_step [.str "times", .lst [sp p q, sp r s]] S = some (sp ((hull4 (· * ·) p q r s).1) ((hull4 (· * ·) p q r s).2), S) := by
  rw [call_fn g_span_of_step rfl]
  simp only [E1, E2, E3, E4, E5, E6, E7, E8, E9, List.map_cons, List.map_nil, List.cons_append, List.nil_append, List.append_nil, List.length_cons, List.length_nil, List.replicate_zero, List.replicate_succ, Nat.sub_self, Nat.zero_add, List.getElem?_cons_zero, List.getElem?_cons_succ, List.set_cons_zero, List.set_cons_succ, if_true, if_false, Bool.false_eq_true, decide_true, decide_false, Bool.not_true, Bool.not_false, decide_eq_true_eq, eq_self, Int.cast_ofNat_Int, Int.natCast_zero, Int.natCast_one, Nat.reduceLeDiff, Nat.reduceSub, Nat.reduceAdd, Nat.reduceLT, reduceIte, reduceCtorEq, Int.reduceEq, Int.reduceLT, Int.reduceLE, Int.reduceNeg, Int.reduceAdd, Int.reduceSub, Int.reduceMul, Int.reduceNe, Int.reduceBNe, Int.reduceBEq, f_span_of_step, s_span_of_step_0_0, s_span_of_step_0_1, s_span_of_step_0_2, s_span_of_step_0_3, s_span_of_step_0_4, s_span_of_step_0_5, s_span_of_step_0_6, s_span_of_step_0_7, s_span_of_step_0_8, s_span_of_step_0_9, none_in2, q_times_negate, q_times_size, q_times_joined, q_times_add, q_times_less, q_times_over, q_times_least, q_times_most, times_spans_ok (Q2 hp) (Q2 hq) (Q2 hr) (Q2 hs), spH]
theorem step_over (hp : Q p) (hq : Q q) (hr : Q r) (hs : Q s) (hrs : r ≤ s) (hz : 0 < r ∨ s < 0) : callK G (k + 7) i_span_of_step [.str "over", .lst [sp p q, sp r s]] S = some (sp ((hull4 (· / ·) p q r s).1) ((hull4 (· / ·) p q r s).2), S) := by
  rw [call_fn g_span_of_step rfl]
  simp only [E1, E2, E3, E4, E5, E6, E7, E8, E9, List.map_cons, List.map_nil, List.cons_append, List.nil_append, List.append_nil, List.length_cons, List.length_nil, List.replicate_zero, List.replicate_succ, Nat.sub_self, Nat.zero_add, List.getElem?_cons_zero, List.getElem?_cons_succ, List.set_cons_zero, List.set_cons_succ, if_true, if_false, Bool.false_eq_true, decide_true, decide_false, Bool.not_true, Bool.not_false, decide_eq_true_eq, eq_self, Int.cast_ofNat_Int, Int.natCast_zero, Int.natCast_one, Nat.reduceLeDiff, Nat.reduceSub, Nat.reduceAdd, Nat.reduceLT, reduceIte, reduceCtorEq, Int.reduceEq, Int.reduceLT, Int.reduceLE, Int.reduceNeg, Int.reduceAdd, Int.reduceSub, Int.reduceMul, Int.reduceNe, Int.reduceBNe, Int.reduceBEq, f_span_of_step, s_span_of_step_0_0, s_span_of_step_0_1, s_span_of_step_0_2, s_span_of_step_0_3, s_span_of_step_0_4, s_span_of_step_0_5, s_span_of_step_0_6, s_span_of_step_0_7, s_span_of_step_0_8, s_span_of_step_0_9, none_in2, q_over_negate, q_over_size, q_over_joined, q_over_add, q_over_less, q_over_times, q_over_least, q_over_most, over_spans_ok (Q2 hp) (Q2 hq) (Q2 hr) (Q2 hs) hrs hz, spH]
theorem step_least (hp : Q p) (hq : Q q) (hr : Q r) (hs : Q s) : callK G (k + 7) i_span_of_step [.str "least", .lst [sp p q, sp r s]] S = some (sp (lo2 p r) (lo2 q s), S) := by
  rw [call_fn g_span_of_step rfl]
  simp only [E1, E2, E3, E4, E5, E6, E7, E8, E9, List.map_cons, List.map_nil, List.cons_append, List.nil_append, List.append_nil, List.length_cons, List.length_nil, List.replicate_zero, List.replicate_succ, Nat.sub_self, Nat.zero_add, List.getElem?_cons_zero, List.getElem?_cons_succ, List.set_cons_zero, List.set_cons_succ, if_true, if_false, Bool.false_eq_true, decide_true, decide_false, Bool.not_true, Bool.not_false, decide_eq_true_eq, eq_self, Int.cast_ofNat_Int, Int.natCast_zero, Int.natCast_one, Nat.reduceLeDiff, Nat.reduceSub, Nat.reduceAdd, Nat.reduceLT, reduceIte, reduceCtorEq, Int.reduceEq, Int.reduceLT, Int.reduceLE, Int.reduceNeg, Int.reduceAdd, Int.reduceSub, Int.reduceMul, Int.reduceNe, Int.reduceBNe, Int.reduceBEq, f_span_of_step, s_span_of_step_0_0, s_span_of_step_0_1, s_span_of_step_0_2, s_span_of_step_0_3, s_span_of_step_0_4, s_span_of_step_0_5, s_span_of_step_0_6, s_span_of_step_0_7, s_span_of_step_0_8, s_span_of_step_0_9, none_in2, q_least_negate, q_least_size, q_least_joined, q_least_add, q_least_less, q_least_times, q_least_over, q_least_most, least_span_ok (Q4 hp) (Q4 hq) (Q4 hr) (Q4 hs), spH]
theorem step_most (hp : Q p) (hq : Q q) (hr : Q r) (hs : Q s) : callK G (k + 7) i_span_of_step [.str "most", .lst [sp p q, sp r s]] S = some (sp (hi2 p r) (hi2 q s), S) := by
  rw [call_fn g_span_of_step rfl]
  simp only [E1, E2, E3, E4, E5, E6, E7, E8, E9, List.map_cons, List.map_nil, List.cons_append, List.nil_append, List.append_nil, List.length_cons, List.length_nil, List.replicate_zero, List.replicate_succ, Nat.sub_self, Nat.zero_add, List.getElem?_cons_zero, List.getElem?_cons_succ, List.set_cons_zero, List.set_cons_succ, if_true, if_false, Bool.false_eq_true, decide_true, decide_false, Bool.not_true, Bool.not_false, decide_eq_true_eq, eq_self, Int.cast_ofNat_Int, Int.natCast_zero, Int.natCast_one, Nat.reduceLeDiff, Nat.reduceSub, Nat.reduceAdd, Nat.reduceLT, reduceIte, reduceCtorEq, Int.reduceEq, Int.reduceLT, Int.reduceLE, Int.reduceNeg, Int.reduceAdd, Int.reduceSub, Int.reduceMul, Int.reduceNe, Int.reduceBNe, Int.reduceBEq, f_span_of_step, s_span_of_step_0_0, s_span_of_step_0_1, s_span_of_step_0_2, s_span_of_step_0_3, s_span_of_step_0_4, s_span_of_step_0_5, s_span_of_step_0_6, s_span_of_step_0_7, s_span_of_step_0_8, s_span_of_step_0_9, none_in2, q_most_negate, q_most_size, q_most_joined, q_most_add, q_most_less, q_most_times, q_most_over, q_most_least, most_span_ok (Q4 hp) (Q4 hq) (Q4 hr) (Q4 hs), spH]
theorem step_over0 (h1 : r ≤ 0) (h2 : 0 ≤ s) : callK G (k + 7) i_span_of_step [.str "over", .lst [sp p q, sp r s]] S = some (.non, S) := by
  rw [call_fn g_span_of_step rfl]
  simp only [E1, E2, E3, E4, E5, E6, E7, E8, E9, List.map_cons, List.map_nil, List.cons_append, List.nil_append, List.append_nil, List.length_cons, List.length_nil, List.replicate_zero, List.replicate_succ, Nat.sub_self, Nat.zero_add, List.getElem?_cons_zero, List.getElem?_cons_succ, List.set_cons_zero, List.set_cons_succ, if_true, if_false, Bool.false_eq_true, decide_true, decide_false, Bool.not_true, Bool.not_false, decide_eq_true_eq, eq_self, Int.cast_ofNat_Int, Int.natCast_zero, Int.natCast_one, Nat.reduceLeDiff, Nat.reduceSub, Nat.reduceAdd, Nat.reduceLT, reduceIte, reduceCtorEq, Int.reduceEq, Int.reduceLT, Int.reduceLE, Int.reduceNeg, Int.reduceAdd, Int.reduceSub, Int.reduceMul, Int.reduceNe, Int.reduceBNe, Int.reduceBEq, f_span_of_step, s_span_of_step_0_0, s_span_of_step_0_1, s_span_of_step_0_2, s_span_of_step_0_3, s_span_of_step_0_4, s_span_of_step_0_5, s_span_of_step_0_6, s_span_of_step_0_7, s_span_of_step_0_8, s_span_of_step_0_9, none_in2, q_over_negate, q_over_size, q_over_joined, q_over_add, q_over_less, q_over_times, q_over_least, q_over_most, over_spans_none h1 h2]
/-- the span drawn -/
theorem span_ok (hL : IntL L) (ha : 0 ≤ a) : ∃ p q, Q p ∧ Q q ∧ p ≤ q ∧ callK G (k + 15) i__law_span [.ref 0] (wC L a :: T) = some (sp p q, wC L (a + 4) :: T) := by
  obtain ⟨v1, h1, h2, h3⟩ := next_ok (k := k + 13) (T := T) (m := 17) hL (by decide) ha
  obtain ⟨v2, h4, h5, h6⟩ := next_ok (k := k + 13) (T := T) (a := a + 1) (m := 3) hL (by decide) (by omega)
  obtain ⟨v3, h7, h8, h9⟩ := next_ok (k := k + 13) (T := T) (a := a + 1 + 1) (m := 9) hL (by decide) (by omega)
  obtain ⟨v4, h10, h11, h12⟩ := next_ok (k := k + 13) (T := T) (a := a + 1 + 1 + 1) (m := 2) hL (by decide) (by omega)
  have s1 : Sm 5 (Rat.divInt (v1 - 8) (1 + v2)) := ⟨Nat.lt_of_le_of_lt num_le (by omega), Nat.lt_of_le_of_lt (den_le (by omega)) (by omega)⟩
  have s2 : Sm 5 (Rat.divInt v3 (1 + v4)) := ⟨Nat.lt_of_le_of_lt num_le (by omega), Nat.lt_of_le_of_lt (den_le (by omega)) (by omega)⟩
  have hn : 0 ≤ Rat.divInt v3 (1 + v4) := Rat.divInt_nonneg h7 (by omega)
  refine ⟨Rat.divInt (v1 - 8) (1 + v2), Rat.divInt (v1 - 8) (1 + v2) + Rat.divInt v3 (1 + v4), s1.mono (by decide), (s1.add s2).mono (by decide), by grind, ?_⟩
  have hb : ∀ l : Int, l.natAbs < 2 ^ 4 → Bd 8999 l := fun l h => Nat.lt_of_lt_of_le h (Nat.pow_le_pow_right (by decide) (by decide))
  have l1 := fun S => least_ok (k := k + 13) (S := S) (u := v1 - 8) (l := 1 + v2) (by omega) (hb _ (by omega))
  have l2 := fun S => least_ok (k := k + 13) (S := S) (u := v3) (l := 1 + v4) (by omega) (hb _ (by omega))
  have l3 := fun S => sum2 (k := k + 12) (S := S) (s1.mono (m := 60) (by decide)) (s2.mono (m := 60) (by decide))
  have pl : ∀ d, prune (wC L a :: T) d (wC L (a + 1 + 1 + 1 + 1) :: T) = (d, wC L (a + 1 + 1 + 1 + 1) :: T) := fun d => prune_len rfl
  rw [call_fn g__law_span rfl]
  simp only [E1, E2, E3, E4, E5, E6, E7, E8, E9, List.map_cons, List.map_nil, List.cons_append, List.nil_append, List.append_nil, List.length_cons, List.length_nil, List.replicate_zero, List.replicate_succ, Nat.sub_self, Nat.zero_add, List.getElem?_cons_zero, List.getElem?_cons_succ, List.set_cons_zero, List.set_cons_succ, if_true, if_false, Bool.false_eq_true, decide_true, decide_false, Bool.not_true, Bool.not_false, decide_eq_true_eq, eq_self, Int.cast_ofNat_Int, Int.natCast_zero, Int.natCast_one, Nat.reduceLeDiff, Nat.reduceSub, Nat.reduceAdd, Nat.reduceLT, reduceIte, reduceCtorEq, Int.reduceEq, Int.reduceLT, Int.reduceLE, Int.reduceNeg, Int.reduceAdd, Int.reduceSub, Int.reduceMul, Int.reduceNe, Int.reduceBNe, Int.reduceBEq, f__law_span, h3, h6, h9, h12, l1, l2, l3, pl]
  rw [show a + 1 + 1 + 1 + 1 = a + 4 by omega]
  rfl
end
end Rw.Pk08

namespace Rw.Pk08
open PySem L2 Rw
section
variable {k : Nat} {S T : Sto} {p q r s o u v l h : Rat} {L : List D} {a b : Int} {x0 x1 x2 x3 x4 x5 x6 x7 x8 x9 x10 x11 x12 x13 x14 x15 x16 x17 x18 x19 x20 x21 : Option D}
theorem st0 {S1 S2 : Sto} (h1 : callK G (k + 15) i__law_span [.ref 0] S = some (sp p q, S1)) (h2 : callK G (k + 15) i__law_span [.ref 0] S1 = some (sp r s, S2)) : evS G (callK G (k + 15)) s_law_1_0 [x0, some (.ref 0), x2, x3, x4, x5, x6, x7, x8, x9, x10, x11, x12, x13, x14, x15, x16, x17, x18, x19, x20, x21] S = some (.nx [x0, some (.ref 0), x2, some (sp p q), some (sp r s), x5, x6, x7, x8, x9, x10, x11, x12, x13, x14, x15, x16, x17, x18, x19, x20, x21], S2) := by
  simp only [E1, E2, E3, E4, E5, E6, E7, E8, E9, List.map_cons, List.map_nil, List.cons_append, List.nil_append, List.append_nil, List.length_cons, List.length_nil, List.replicate_zero, List.replicate_succ, Nat.sub_self, Nat.zero_add, List.getElem?_cons_zero, List.getElem?_cons_succ, List.set_cons_zero, List.set_cons_succ, if_true, if_false, Bool.false_eq_true, decide_true, decide_false, Bool.not_true, Bool.not_false, decide_eq_true_eq, eq_self, Int.cast_ofNat_Int, Int.natCast_zero, Int.natCast_one, Nat.reduceLeDiff, Nat.reduceSub, Nat.reduceAdd, Nat.reduceLT, reduceIte, reduceCtorEq, Int.reduceEq, Int.reduceLT, Int.reduceLE, Int.reduceNeg, Int.reduceAdd, Int.reduceSub, Int.reduceMul, Int.reduceNe, Int.reduceBNe, Int.reduceBEq, s_law_1_0, h1, h2]
theorem t1 {d : D} {b : Bool} (h : callK G (k + 15) i_is_span [d] S = some (.bl b, S)) : fbd G (callK G (k + 15)) (.tup (.cons (.name 5) (.cons (.name 6) .nil))) b_law_2 (.tup [d, .bl b]) [x0, x1, x2, x3, x4, x5, x6, x7, x8, x9, x10, x11, x12, x13, x14, x15, x16, x17, x18, x19, x20, x21] S = some (.nx [x0, x1, x2, x3, x4, some (d), some (.bl b), x7, x8, x9, x10, x11, x12, x13, x14, x15, x16, x17, x18, x19, x20, x21], S) := by
  unfold fbd
  simp only [E1, E2, E3, E4, E5, E6, E7, E8, E9, List.map_cons, List.map_nil, List.cons_append, List.nil_append, List.append_nil, List.length_cons, List.length_nil, List.replicate_zero, List.replicate_succ, Nat.sub_self, Nat.zero_add, List.getElem?_cons_zero, List.getElem?_cons_succ, List.set_cons_zero, List.set_cons_succ, if_true, if_false, Bool.false_eq_true, decide_true, decide_false, Bool.not_true, Bool.not_false, decide_eq_true_eq, eq_self, Int.cast_ofNat_Int, Int.natCast_zero, Int.natCast_one, Nat.reduceLeDiff, Nat.reduceSub, Nat.reduceAdd, Nat.reduceLT, reduceIte, reduceCtorEq, Int.reduceEq, Int.reduceLT, Int.reduceLE, Int.reduceNeg, Int.reduceAdd, Int.reduceSub, Int.reduceMul, Int.reduceNe, Int.reduceBNe, Int.reduceBEq, b_law_2, h, same_bl]
theorem isf_fr : callK G (k + 10) i_is_fraction [fr p] S = some (.bl true, S) := by
  have := is_fraction_ii (k := k + 7) (S := S) (a := p.num) (b := (p.den : Int))
  have h1 : (1 : Int) ≤ (p.den : Int) := by have := den_pos (q := p); omega
  have h2 : (Int.gcd p.num (p.den : Int) : Int) = 1 := by
    have := p.reduced
    have e : Int.gcd p.num (p.den : Int) = 1 := this
    rw [e]
    rfl
  rw [decide_eq_true h1, decide_eq_true h2] at this
  exact this
theorem isf_24 : callK G (k + 10) i_is_fraction [.tup [.int 2, .int 4]] S = some (.bl false, S) := is_fraction_ii (k := k + 7)
theorem is_tuple_of_int {x m : Int} : callK G (k + 1) i_is_tuple_of [.int x, .int m] S = some (.bl false, S) := by
  rw [call_fn g_is_tuple_of rfl]
  simp only [E1, E2, E3, E4, E5, E6, E7, E8, E9, List.map_cons, List.map_nil, List.cons_append, List.nil_append, List.append_nil, List.length_cons, List.length_nil, List.replicate_zero, List.replicate_succ, Nat.sub_self, Nat.zero_add, List.getElem?_cons_zero, List.getElem?_cons_succ, List.set_cons_zero, List.set_cons_succ, if_true, if_false, Bool.false_eq_true, decide_true, decide_false, Bool.not_true, Bool.not_false, decide_eq_true_eq, eq_self, Int.cast_ofNat_Int, Int.natCast_zero, Int.natCast_one, Nat.reduceLeDiff, Nat.reduceSub, Nat.reduceAdd, Nat.reduceLT, reduceIte, reduceCtorEq, Int.reduceEq, Int.reduceLT, Int.reduceLE, Int.reduceNeg, Int.reduceAdd, Int.reduceSub, Int.reduceMul, Int.reduceNe, Int.reduceBNe, Int.reduceBEq, f_is_tuple_of]
theorem isf_int {x : Int} : callK G (k + 10) i_is_fraction [.int x] S = some (.bl false, S) := by
  rw [call_fn g_is_fraction rfl]
  simp only [E1, E2, E3, E4, E5, E6, E7, E8, E9, List.map_cons, List.map_nil, List.cons_append, List.nil_append, List.append_nil, List.length_cons, List.length_nil, List.replicate_zero, List.replicate_succ, Nat.sub_self, Nat.zero_add, List.getElem?_cons_zero, List.getElem?_cons_succ, List.set_cons_zero, List.set_cons_succ, if_true, if_false, Bool.false_eq_true, decide_true, decide_false, Bool.not_true, Bool.not_false, decide_eq_true_eq, eq_self, Int.cast_ofNat_Int, Int.natCast_zero, Int.natCast_one, Nat.reduceLeDiff, Nat.reduceSub, Nat.reduceAdd, Nat.reduceLT, reduceIte, reduceCtorEq, Int.reduceEq, Int.reduceLT, Int.reduceLE, Int.reduceNeg, Int.reduceAdd, Int.reduceSub, Int.reduceMul, Int.reduceNe, Int.reduceBNe, Int.reduceBEq, f_is_fraction, is_tuple_of_int]
theorem is_tuple_of_sp {m : Int} : callK G (k + 1) i_is_tuple_of [sp p q, .int m] S = some (.bl (decide ((2 : Int) = m)), S) := is_tuple_of_tup
theorem iss_sp (hp : Q p) (hq : Q q) : callK G (k + 15) i_is_span [sp p q] S = some (.bl (decide (p ≤ q)), S) := by
  rw [call_fn g_is_span rfl]
  simp only [E1, E2, E3, E4, E5, E6, E7, E8, E9, List.map_cons, List.map_nil, List.cons_append, List.nil_append, List.append_nil, List.length_cons, List.length_nil, List.replicate_zero, List.replicate_succ, Nat.sub_self, Nat.zero_add, List.getElem?_cons_zero, List.getElem?_cons_succ, List.set_cons_zero, List.set_cons_succ, if_true, if_false, Bool.false_eq_true, decide_true, decide_false, Bool.not_true, Bool.not_false, decide_eq_true_eq, eq_self, Int.cast_ofNat_Int, Int.natCast_zero, Int.natCast_one, Nat.reduceLeDiff, Nat.reduceSub, Nat.reduceAdd, Nat.reduceLT, reduceIte, reduceCtorEq, Int.reduceEq, Int.reduceLT, Int.reduceLE, Int.reduceNeg, Int.reduceAdd, Int.reduceSub, Int.reduceMul, Int.reduceNe, Int.reduceBNe, Int.reduceBEq, f_is_span, is_tuple_of_sp, idx_sp0, idx_sp1, isf_fr, is_most_ok (Q4 hp) (Q4 hq)]
theorem iss_lst {xs : List D} : callK G (k + 15) i_is_span [.lst xs] S = some (.bl false, S) := by
  rw [call_fn g_is_span rfl]
  simp only [E1, E2, E3, E4, E5, E6, E7, E8, E9, List.map_cons, List.map_nil, List.cons_append, List.nil_append, List.append_nil, List.length_cons, List.length_nil, List.replicate_zero, List.replicate_succ, Nat.sub_self, Nat.zero_add, List.getElem?_cons_zero, List.getElem?_cons_succ, List.set_cons_zero, List.set_cons_succ, if_true, if_false, Bool.false_eq_true, decide_true, decide_false, Bool.not_true, Bool.not_false, decide_eq_true_eq, eq_self, Int.cast_ofNat_Int, Int.natCast_zero, Int.natCast_one, Nat.reduceLeDiff, Nat.reduceSub, Nat.reduceAdd, Nat.reduceLT, reduceIte, reduceCtorEq, Int.reduceEq, Int.reduceLT, Int.reduceLE, Int.reduceNeg, Int.reduceAdd, Int.reduceSub, Int.reduceMul, Int.reduceNe, Int.reduceBNe, Int.reduceBEq, f_is_span, is_tuple_of_lst]
theorem iss_one {d : D} : callK G (k + 15) i_is_span [.tup [d]] S = some (.bl false, S) := by
  rw [call_fn g_is_span rfl]
  simp only [E1, E2, E3, E4, E5, E6, E7, E8, E9, List.map_cons, List.map_nil, List.cons_append, List.nil_append, List.append_nil, List.length_cons, List.length_nil, List.replicate_zero, List.replicate_succ, Nat.sub_self, Nat.zero_add, List.getElem?_cons_zero, List.getElem?_cons_succ, List.set_cons_zero, List.set_cons_succ, if_true, if_false, Bool.false_eq_true, decide_true, decide_false, Bool.not_true, Bool.not_false, decide_eq_true_eq, eq_self, Int.cast_ofNat_Int, Int.natCast_zero, Int.natCast_one, Nat.reduceLeDiff, Nat.reduceSub, Nat.reduceAdd, Nat.reduceLT, reduceIte, reduceCtorEq, Int.reduceEq, Int.reduceLT, Int.reduceLE, Int.reduceNeg, Int.reduceAdd, Int.reduceSub, Int.reduceMul, Int.reduceNe, Int.reduceBNe, Int.reduceBEq, f_is_span, is_tuple_of_tup]
theorem iss_01 : callK G (k + 15) i_is_span [.tup [.int 0, .int 1]] S = some (.bl false, S) := by
  rw [call_fn g_is_span rfl]
  simp only [E1, E2, E3, E4, E5, E6, E7, E8, E9, List.map_cons, List.map_nil, List.cons_append, List.nil_append, List.append_nil, List.length_cons, List.length_nil, List.replicate_zero, List.replicate_succ, Nat.sub_self, Nat.zero_add, List.getElem?_cons_zero, List.getElem?_cons_succ, List.set_cons_zero, List.set_cons_succ, if_true, if_false, Bool.false_eq_true, decide_true, decide_false, Bool.not_true, Bool.not_false, decide_eq_true_eq, eq_self, Int.cast_ofNat_Int, Int.natCast_zero, Int.natCast_one, Nat.reduceLeDiff, Nat.reduceSub, Nat.reduceAdd, Nat.reduceLT, reduceIte, reduceCtorEq, Int.reduceEq, Int.reduceLT, Int.reduceLE, Int.reduceNeg, Int.reduceAdd, Int.reduceSub, Int.reduceMul, Int.reduceNe, Int.reduceBNe, Int.reduceBEq, f_is_span, is_tuple_of_tup, isf_int]
theorem iss_24 {d : D} : callK G (k + 15) i_is_span [.tup [.tup [.int 2, .int 4], d]] S = some (.bl false, S) := by
  rw [call_fn g_is_span rfl]
  simp only [E1, E2, E3, E4, E5, E6, E7, E8, E9, List.map_cons, List.map_nil, List.cons_append, List.nil_append, List.append_nil, List.length_cons, List.length_nil, List.replicate_zero, List.replicate_succ, Nat.sub_self, Nat.zero_add, List.getElem?_cons_zero, List.getElem?_cons_succ, List.set_cons_zero, List.set_cons_succ, if_true, if_false, Bool.false_eq_true, decide_true, decide_false, Bool.not_true, Bool.not_false, decide_eq_true_eq, eq_self, Int.cast_ofNat_Int, Int.natCast_zero, Int.natCast_one, Nat.reduceLeDiff, Nat.reduceSub, Nat.reduceAdd, Nat.reduceLT, reduceIte, reduceCtorEq, Int.reduceEq, Int.reduceLT, Int.reduceLE, Int.reduceNeg, Int.reduceAdd, Int.reduceSub, Int.reduceMul, Int.reduceNe, Int.reduceBNe, Int.reduceBEq, f_is_span, is_tuple_of_tup, isf_24]
theorem iss_non : callK G (k + 15) i_is_span [.non] S = some (.bl false, S) := by
  rw [call_fn g_is_span rfl]
  simp only [E1, E2, E3, E4, E5, E6, E7, E8, E9, List.map_cons, List.map_nil, List.cons_append, List.nil_append, List.append_nil, List.length_cons, List.length_nil, List.replicate_zero, List.replicate_succ, Nat.sub_self, Nat.zero_add, List.getElem?_cons_zero, List.getElem?_cons_succ, List.set_cons_zero, List.set_cons_succ, if_true, if_false, Bool.false_eq_true, decide_true, decide_false, Bool.not_true, Bool.not_false, decide_eq_true_eq, eq_self, Int.cast_ofNat_Int, Int.natCast_zero, Int.natCast_one, Nat.reduceLeDiff, Nat.reduceSub, Nat.reduceAdd, Nat.reduceLT, reduceIte, reduceCtorEq, Int.reduceEq, Int.reduceLT, Int.reduceLE, Int.reduceNeg, Int.reduceAdd, Int.reduceSub, Int.reduceMul, Int.reduceNe, Int.reduceBNe, Int.reduceBEq, f_is_span, is_tuple_of_non]
theorem st1 (hp : Q p) (hq : Q q) (hpq : p ≤ q) : evS G (callK G (k + 15)) s_law_1_1 [x0, x1, x2, some (sp p q), x4, x5, x6, x7, x8, x9, x10, x11, x12, x13, x14, x15, x16, x17, x18, x19, x20, x21] S = some (.nx [x0, x1, x2, some (sp p q), x4, some (.non), some (.bl false), x7, x8, x9, x10, x11, x12, x13, x14, x15, x16, x17, x18, x19, x20, x21], S) := by
  have e1 := iss_sp (k := k) (S := S) hp hq
  rw [decide_eq_true hpq] at e1
  have e2 := iss_sp (k := k) (S := S) hq hp
  rw [show decide (q ≤ p) = decide (p = q) by rw [decide_eq_decide]; exact ⟨fun h => Rat.le_antisymm hpq h, fun h => by rw [h]; exact Rat.le_refl⟩] at e2
  have e2 : callK G (k + 15) i_is_span [.tup [fr q, fr p]] S = some (.bl (decide (p = q)), S) := e2
  have hf : ∀ all x5 x6, forL none all (fbd G (callK G (k + 15)) (.tup (.cons (.name 5) (.cons (.name 6) .nil))) b_law_2) [.tup [sp p q, .bl true], .tup [.tup [fr q, fr p], .bl (decide (p = q))], .tup [.lst [fr p, fr q], .bl false], .tup [.tup [fr p], .bl false], .tup [.tup [.int 0, .int 1], .bl false], .tup [.tup [.tup [.int 2, .int 4], .tup [.int 3, .int 1]], .bl false], .tup [.non, .bl false]] [x0, x1, x2, some (sp p q), x4, x5, x6, x7, x8, x9, x10, x11, x12, x13, x14, x15, x16, x17, x18, x19, x20, x21] S = some (.nx [x0, x1, x2, some (sp p q), x4, some (.non), some (.bl false), x7, x8, x9, x10, x11, x12, x13, x14, x15, x16, x17, x18, x19, x20, x21], S) := fun all x5 x6 => by
    rw [forL_cons (t1 e1), forL_cons (t1 e2), forL_cons (t1 iss_lst), forL_cons (t1 iss_one), forL_cons (t1 iss_01), forL_cons (t1 iss_24), forL_cons (t1 iss_non), forL_nil]
  simp only [E1, E2, E3, E4, E5, E6, E7, E8, E9, List.map_cons, List.map_nil, List.cons_append, List.nil_append, List.append_nil, List.length_cons, List.length_nil, List.replicate_zero, List.replicate_succ, Nat.sub_self, Nat.zero_add, List.getElem?_cons_zero, List.getElem?_cons_succ, List.set_cons_zero, List.set_cons_succ, if_true, if_false, Bool.false_eq_true, decide_true, decide_false, Bool.not_true, Bool.not_false, decide_eq_true_eq, eq_self, Int.cast_ofNat_Int, Int.natCast_zero, Int.natCast_one, Nat.reduceLeDiff, Nat.reduceSub, Nat.reduceAdd, Nat.reduceLT, reduceIte, reduceCtorEq, Int.reduceEq, Int.reduceLT, Int.reduceLE, Int.reduceNeg, Int.reduceAdd, Int.reduceSub, Int.reduceMul, Int.reduceNe, Int.reduceBNe, Int.reduceBEq, s_law_1_1, idx_sp0, idx_sp1, eq_fr, lst_sp, hf]
theorem st2 : evS G (callK G (k + 15)) s_law_1_2 [x0, x1, x2, x3, x4, x5, x6, x7, x8, x9, x10, x11, x12, x13, x14, x15, x16, x17, x18, x19, x20, x21] S = some (.nx [x0, x1, x2, x3, x4, x5, x6, some (.lst []), x8, x9, x10, x11, x12, x13, x14, x15, x16, x17, x18, x19, x20, x21], S) := by
  simp only [E1, E2, E3, E4, E5, E6, E7, E8, E9, List.map_cons, List.map_nil, List.cons_append, List.nil_append, List.append_nil, List.length_cons, List.length_nil, List.replicate_zero, List.replicate_succ, Nat.sub_self, Nat.zero_add, List.getElem?_cons_zero, List.getElem?_cons_succ, List.set_cons_zero, List.set_cons_succ, if_true, if_false, Bool.false_eq_true, decide_true, decide_false, Bool.not_true, Bool.not_false, decide_eq_true_eq, eq_self, Int.cast_ofNat_Int, Int.natCast_zero, Int.natCast_one, Nat.reduceLeDiff, Nat.reduceSub, Nat.reduceAdd, Nat.reduceLT, reduceIte, reduceCtorEq, Int.reduceEq, Int.reduceLT, Int.reduceLE, Int.reduceNeg, Int.reduceAdd, Int.reduceSub, Int.reduceMul, Int.reduceNe, Int.reduceBNe, Int.reduceBEq, s_law_1_2]
theorem t3 {xs : List D} (hl : xs.length ≤ 1000) (hr : Q r) (hs : Q s) : fbd G (callK G (k + 15)) (.name 8) b_law_3 (fr u) [x0, x1, x2, x3, some (sp r s), x5, x6, some (.lst xs), x8, x9, x10, x11, x12, x13, x14, x15, x16, x17, x18, x19, x20, x21] S = some (.nx [x0, x1, x2, x3, some (sp r s), x5, x6, some (.lst (xs ++ [sp u r, sp u s, sp u (mid r s)])), some (fr u), x9, x10, x11, x12, x13, x14, x15, x16, x17, x18, x19, x20, x21], S) := by
  have hc : ∀ all x7, compL none all (ctn G (callK G (k + 15)) e_law_4 (.name 20) .none [x0, x1, x2, x3, some (sp r s), x5, x6, x7, some (fr u), x9, x10, x11, x12, x13, x14, x15, x16, x17, x18, x19, none, x21]) [fr r, fr s, fr (mid r s)] S [] = some ([sp u r, sp u s, sp u (mid r s)], S) := fun all x7 => by
    have t : ∀ (v : Rat) x7 x20, ctn G (callK G (k + 15)) e_law_4 (.name 20) .none [x0, x1, x2, x3, some (sp r s), x5, x6, x7, some (fr u), x9, x10, x11, x12, x13, x14, x15, x16, x17, x18, x19, x20, x21] (fr v) S = some (some (sp u v), S) := fun v x7 x20 => by
      unfold ctn
      simp only [E1, E2, E3, E4, E5, E6, E7, E8, E9, List.map_cons, List.map_nil, List.cons_append, List.nil_append, List.append_nil, List.length_cons, List.length_nil, List.replicate_zero, List.replicate_succ, Nat.sub_self, Nat.zero_add, List.getElem?_cons_zero, List.getElem?_cons_succ, List.set_cons_zero, List.set_cons_succ, if_true, if_false, Bool.false_eq_true, decide_true, decide_false, Bool.not_true, Bool.not_false, decide_eq_true_eq, eq_self, Int.cast_ofNat_Int, Int.natCast_zero, Int.natCast_one, Nat.reduceLeDiff, Nat.reduceSub, Nat.reduceAdd, Nat.reduceLT, reduceIte, reduceCtorEq, Int.reduceEq, Int.reduceLT, Int.reduceLE, Int.reduceNeg, Int.reduceAdd, Int.reduceSub, Int.reduceMul, Int.reduceNe, Int.reduceBNe, Int.reduceBEq, e_law_4]
      rfl
    rw [compL_some (t r _ _), compL_some (t s _ _), compL_some (t (mid r s) _ _), compL_nil]
    rfl
  have hl2 : xs.length + 3 ≤ sizeLine := le_size (by omega)
  unfold fbd
  simp only [E1, E2, E3, E4, E5, E6, E7, E8, E9, List.map_cons, List.map_nil, List.cons_append, List.nil_append, List.append_nil, List.length_cons, List.length_nil, List.replicate_zero, List.replicate_succ, Nat.sub_self, Nat.zero_add, List.getElem?_cons_zero, List.getElem?_cons_succ, List.set_cons_zero, List.set_cons_succ, if_true, if_false, Bool.false_eq_true, decide_true, decide_false, Bool.not_true, Bool.not_false, decide_eq_true_eq, eq_self, Int.cast_ofNat_Int, Int.natCast_zero, Int.natCast_one, Nat.reduceLeDiff, Nat.reduceSub, Nat.reduceAdd, Nat.reduceLT, reduceIte, reduceCtorEq, Int.reduceEq, Int.reduceLT, Int.reduceLE, Int.reduceNeg, Int.reduceAdd, Int.reduceSub, Int.reduceMul, Int.reduceNe, Int.reduceBNe, Int.reduceBEq, b_law_3, idx_sp0, idx_sp1, middle_ok (Q1 hr) (Q1 hs), wipe_nil, wipe_cons, hc, hl2]
def PT (p q r s : Rat) : List D := (pts p q r s).map spH
theorem st3 (hp : Q p) (hq : Q q) (hr : Q r) (hs : Q s) : evS G (callK G (k + 15)) s_law_1_3 [x0, x1, x2, some (sp p q), some (sp r s), x5, x6, some (.lst []), x8, x9, x10, x11, x12, x13, x14, x15, x16, x17, x18, x19, x20, x21] S = some (.nx [x0, x1, x2, some (sp p q), some (sp r s), x5, x6, some (.lst (PT p q r s)), some (fr (mid p q)), x9, x10, x11, x12, x13, x14, x15, x16, x17, x18, x19, x20, x21], S) := by
  have hf : ∀ all x8, forL none all (fbd G (callK G (k + 15)) (.name 8) b_law_3) [fr p, fr q, fr (mid p q)] [x0, x1, x2, some (sp p q), some (sp r s), x5, x6, some (.lst []), x8, x9, x10, x11, x12, x13, x14, x15, x16, x17, x18, x19, x20, x21] S = some (.nx [x0, x1, x2, some (sp p q), some (sp r s), x5, x6, some (.lst (PT p q r s)), some (fr (mid p q)), x9, x10, x11, x12, x13, x14, x15, x16, x17, x18, x19, x20, x21], S) := fun all x8 => by
    rw [forL_cons (t3 (by decide) hr hs), forL_cons (t3 (by show 3 ≤ 1000; decide) hr hs), forL_cons (t3 (by show 6 ≤ 1000; decide) hr hs), forL_nil]
    rfl
  simp only [E1, E2, E3, E4, E5, E6, E7, E8, E9, List.map_cons, List.map_nil, List.cons_append, List.nil_append, List.append_nil, List.length_cons, List.length_nil, List.replicate_zero, List.replicate_succ, Nat.sub_self, Nat.zero_add, List.getElem?_cons_zero, List.getElem?_cons_succ, List.set_cons_zero, List.set_cons_succ, if_true, if_false, Bool.false_eq_true, decide_true, decide_false, Bool.not_true, Bool.not_false, decide_eq_true_eq, eq_self, Int.cast_ofNat_Int, Int.natCast_zero, Int.natCast_one, Nat.reduceLeDiff, Nat.reduceSub, Nat.reduceAdd, Nat.reduceLT, reduceIte, reduceCtorEq, Int.reduceEq, Int.reduceLT, Int.reduceLE, Int.reduceNeg, Int.reduceAdd, Int.reduceSub, Int.reduceMul, Int.reduceNe, Int.reduceBNe, Int.reduceBEq, s_law_1_3, idx_sp0, idx_sp1, middle_ok (Q1 hp) (Q1 hq), hf]
theorem pts_sm (hp : Q p) (hq : Q q) (hr : Q r) (hs : Q s) : ∀ x ∈ pts p q r s, Sm 27 x.1 ∧ Sm 27 x.2 := by
  have h1 : Sm 27 p := Sm.mono hp (by decide)
  have h2 : Sm 27 q := Sm.mono hq (by decide)
  have h3 : Sm 27 r := Sm.mono hr (by decide)
  have h4 : Sm 27 s := Sm.mono hs (by decide)
  have h5 : Sm 27 (mid p q) := Sm.mid hp hq
  have h6 : Sm 27 (mid r s) := Sm.mid hr hs
  exact pts_all ⟨h1, h3⟩ ⟨h1, h4⟩ ⟨h1, h6⟩ ⟨h2, h3⟩ ⟨h2, h4⟩ ⟨h2, h6⟩ ⟨h5, h3⟩ ⟨h5, h4⟩ ⟨h5, h6⟩
theorem s27 (h : Sm 27 p) : Sm 60 p := h.mono (by decide)
/-- the exact values of a step at all points, and that they lie in the span -/
theorem tE {K : Str} {f : Rat → Rat → Rat} (hx : callK G (k + 15) i__law_exact [.str K, fr u, fr v] S = some (fr (f u v), S)) : ctn G (callK G (k + 15)) e_law_6 (.tup (.cons (.name 8) (.cons (.name 20) .nil))) .none [x0, x1, x2, x3, x4, x5, x6, x7, x8, some (.str K), x10, x11, x12, x13, x14, x15, x16, x17, x18, x19, x20, x21] (spH (u, v)) S = some (some (fr (f u v)), S) := by
  unfold ctn spH
  simp only [E1, E2, E3, E4, E5, E6, E7, E8, E9, List.map_cons, List.map_nil, List.cons_append, List.nil_append, List.append_nil, List.length_cons, List.length_nil, List.replicate_zero, List.replicate_succ, Nat.sub_self, Nat.zero_add, List.getElem?_cons_zero, List.getElem?_cons_succ, List.set_cons_zero, List.set_cons_succ, if_true, if_false, Bool.false_eq_true, decide_true, decide_false, Bool.not_true, Bool.not_false, decide_eq_true_eq, eq_self, Int.cast_ofNat_Int, Int.natCast_zero, Int.natCast_one, Nat.reduceLeDiff, Nat.reduceSub, Nat.reduceAdd, Nat.reduceLT, reduceIte, reduceCtorEq, Int.reduceEq, Int.reduceLT, Int.reduceLE, Int.reduceNeg, Int.reduceAdd, Int.reduceSub, Int.reduceMul, Int.reduceNe, Int.reduceBNe, Int.reduceBEq, e_law_6, asg_sp, hx]
theorem tF (hl : Sm 4000 l) (hh : Sm 4000 h) (hu : Sm 4000 u) (h1 : l ≤ u) (h2 : u ≤ h) : ctn G (callK G (k + 15)) e_law_7 (.name 21) k_law_7 [x0, x1, x2, x3, x4, x5, x6, x7, x8, x9, some (sp l h), x11, x12, x13, x14, x15, x16, x17, x18, x19, x20, x21] (fr u) S = some (none, S) := by
  unfold ctn
  simp only [E1, E2, E3, E4, E5, E6, E7, E8, E9, List.map_cons, List.map_nil, List.cons_append, List.nil_append, List.append_nil, List.length_cons, List.length_nil, List.replicate_zero, List.replicate_succ, Nat.sub_self, Nat.zero_add, List.getElem?_cons_zero, List.getElem?_cons_succ, List.set_cons_zero, List.set_cons_succ, if_true, if_false, Bool.false_eq_true, decide_true, decide_false, Bool.not_true, Bool.not_false, decide_eq_true_eq, eq_self, Int.cast_ofNat_Int, Int.natCast_zero, Int.natCast_one, Nat.reduceLeDiff, Nat.reduceSub, Nat.reduceAdd, Nat.reduceLT, reduceIte, reduceCtorEq, Int.reduceEq, Int.reduceLT, Int.reduceLE, Int.reduceNeg, Int.reduceAdd, Int.reduceSub, Int.reduceMul, Int.reduceNe, Int.reduceBNe, Int.reduceBEq, e_law_7, k_law_7, is_in_ok hl hh hu, h1, h2, Bool.and_self]
def VL (f : Rat → Rat → Rat) (p q r s : Rat) : List D := (pts p q r s).map fun x => fr (f x.1 x.2)
def zr (r s : Rat) : Bool := !decide (0 < r) && !decide (s < 0)
theorem vals {K : Str} {f : Rat → Rat → Rat} (hx : ∀ x ∈ pts p q r s, callK G (k + 15) i__law_exact [.str K, fr x.1, fr x.2] S = some (fr (f x.1 x.2), S)) (all : List D) : compL none all (ctn G (callK G (k + 15)) e_law_6 (.tup (.cons (.name 8) (.cons (.name 20) .nil))) .none [x0, x1, x2, x3, x4, x5, x6, x7, x8, some (.str K), x10, x11, x12, x13, x14, x15, x16, x17, x18, x19, x20, x21]) (PT p q r s) S [] = some (VL f p q r s, S) := by
  have := compL_mapT (all := all) (turn := ctn G (callK G (k + 15)) e_law_6 (.tup (.cons (.name 8) (.cons (.name 20) .nil))) .none [x0, x1, x2, x3, x4, x5, x6, x7, x8, some (.str K), x10, x11, x12, x13, x14, x15, x16, x17, x18, x19, x20, x21]) (S := S) (g := spH) (f := fun x => fr (f x.1 x.2)) (xs := pts p q r s) (acc := []) fun x h => by
    obtain ⟨u, v⟩ := x
    exact tE (hx (u, v) h)
  rw [List.nil_append] at this
  exact this
theorem none_out {f : Rat → Rat → Rat} (hh : IsHull f p q r s l h) (hs : ∀ x ∈ pts p q r s, Sm 4000 (f x.1 x.2)) (all : List D) : compL none all (ctn G (callK G (k + 15)) e_law_7 (.name 21) k_law_7 [x0, x1, x2, x3, x4, x5, x6, x7, x8, x9, some (sp l h), x11, x12, x13, x14, x15, x16, x17, x18, x19, x20, x21]) (VL f p q r s) S [] = some ([], S) := by
  obtain ⟨h1, ⟨y1, m1, e1⟩, ⟨y2, m2, e2⟩⟩ := hh
  unfold VL
  exact compL_noneT fun x hx => tF (e1 ▸ hs y1 m1) (e2 ▸ hs y2 m2) (hs x hx) (h1 x hx).1 (h1 x hx).2
theorem pts_map {f : Rat → Rat → Rat} : (pts p q r s).map (fun x => f x.1 x.2) = [f p r, f p s, f p (mid r s), f q r, f q s, f q (mid r s), f (mid p q) r, f (mid p q) s, f (mid p q) (mid r s)] := rfl
theorem vhull {f : Rat → Rat → Rat} (hh : IsHull f p q r s l h) (hs : ∀ x ∈ pts p q r s, Sm 4000 (f x.1 x.2)) : callK G (k + 15) i__law_hull [.lst (VL f p q r s)] S = some (sp l h, S) := by
  have := lhull_ok (k := k + 13) (S := S) (x := f p r) (xs := [f p s, f p (mid r s), f q r, f q s, f q (mid r s), f (mid p q) r, f (mid p q) s, f (mid p q) (mid r s)]) (by
    intro z hz
    rw [← pts_map (f := f)] at hz
    obtain ⟨x, hx, rfl⟩ := List.mem_map.mp hz
    exact hs x hx)
  have e := hull9 hh.1 hh.2.1 hh.2.2
  rw [pts_map] at e
  rw [← hull_self, e] at this
  have e2 : VL f p q r s = ([f p r, f p s, f p (mid r s), f q r, f q s, f q (mid r s), f (mid p q) r, f (mid p q) s, f (mid p q) (mid r s)] : List Rat).map fr := by
    unfold VL
    rw [← pts_map (f := f), List.map_map]
    rfl
  rw [e2]
  exact this
theorem len9 {f : Rat → Rat → Rat} : (VL f p q r s).length = 9 := nrfl rfl
theorem lenP : (PT p q r s).length = 9 := nrfl rfl
theorem it_PT : itemsOf S (.lst (PT p q r s)) = some (PT p q r s, none) := nrfl rfl
theorem sz9 : (9 ≤ sizeLine) = True := sz_9
theorem b_add (hp : Q p) (hq : Q q) (hr : Q r) (hs : Q s) (hpq : p ≤ q) (hrs : r ≤ s) : fbd G (callK G (k + 15)) (.name 9) b_law_5 (.str "add") [x0, x1, x2, some (sp p q), some (sp r s), x5, x6, some (.lst (PT p q r s)), x8, x9, x10, x11, x12, x13, x14, x15, x16, x17, x18, x19, x20, x21] S = some (.nx [x0, x1, x2, some (sp p q), some (sp r s), x5, x6, some (.lst (PT p q r s)), x8, some (.str "add"), some (sp (p + r) (q + s)), some (.bl (zr r s)), some (.lst (VL (· + ·) p q r s)), x13, x14, x15, x16, x17, x18, x19, x20, x21], S) := by
  have hh : IsHull (· + ·) p q r s (p + r) (q + s) := is_add hpq hrs
  have hm : ∀ x ∈ pts p q r s, Sm 4000 ((· + ·) x.1 x.2) := fun x hx => by
    obtain ⟨h1, h2⟩ := pts_sm hp hq hr hs x hx
    exact (h1.add h2).mono (by decide)
  have hx : ∀ x ∈ pts p q r s, callK G (k + 15) i__law_exact [.str "add", fr x.1, fr x.2] S = some (fr ((· + ·) x.1 x.2), S) := fun x hx => by
    obtain ⟨h1, h2⟩ := pts_sm hp hq hr hs x hx
    exact x_add (k := k + 12) (s27 h1) (s27 h2)
  have e1 := step_add (k := k + 8) (S := S) hp hq hr hs
  have e2 := vhull (k := k) (S := S) hh hm

  have hv : ∀ all, compL none all (ctn G (callK G (k + 15)) e_law_6 (.tup (.cons (.name 8) (.cons (.name 20) .nil))) .none [x0, x1, x2, some (sp p q), some (sp r s), x5, x6, some (.lst (PT p q r s)), none, some (.str "add"), some (sp (p + r) (q + s)), some (.bl (zr r s)), x12, x13, x14, x15, x16, x17, x18, x19, none, x21]) (PT p q r s) S [] = some (VL (· + ·) p q r s, S) := fun all => vals hx all
  have hn : ∀ all, compL none all (ctn G (callK G (k + 15)) e_law_7 (.name 21) k_law_7 [x0, x1, x2, some (sp p q), some (sp r s), x5, x6, some (.lst (PT p q r s)), x8, some (.str "add"), some (sp (p + r) (q + s)), some (.bl (zr r s)), some (.lst (VL (· + ·) p q r s)), x13, x14, x15, x16, x17, x18, x19, x20, none]) (VL (· + ·) p q r s) S [] = some ([], S) := fun all => none_out hh hm all
  have z1 := lless_0 (k := k + 14) (S := S) (Q4 hr)
  have z2 := lless_1 (k := k + 14) (S := S) (Q4 hs)
  unfold fbd
  by_cases c : 0 < r
  · have zf : zr r s = false := by unfold zr; rw [decide_eq_true c]; rfl
    rw [zf] at hv hn ⊢
    simp only [E1, E2, E3, E4, E5, E6, E7, E8, E9, List.map_cons, List.map_nil, List.cons_append, List.nil_append, List.append_nil, List.length_cons, List.length_nil, List.replicate_zero, List.replicate_succ, Nat.sub_self, Nat.zero_add, List.getElem?_cons_zero, List.getElem?_cons_succ, List.set_cons_zero, List.set_cons_succ, if_true, if_false, Bool.false_eq_true, decide_true, decide_false, Bool.not_true, Bool.not_false, decide_eq_true_eq, eq_self, Int.cast_ofNat_Int, Int.natCast_zero, Int.natCast_one, Nat.reduceLeDiff, Nat.reduceSub, Nat.reduceAdd, Nat.reduceLT, reduceIte, reduceCtorEq, Int.reduceEq, Int.reduceLT, Int.reduceLE, Int.reduceNeg, Int.reduceAdd, Int.reduceSub, Int.reduceMul, Int.reduceNe, Int.reduceBNe, Int.reduceBEq, b_law_5, e1, q_add_negate, q_add_size, q_add_joined, q_add_less, q_add_times, q_add_over, q_add_least, q_add_most, added_spans_ok (Q4 hp) (Q4 hq) (Q4 hr) (Q4 hs), same_sp, idx_sp0, idx_sp1, z1, z2, c, it_PT, lenP, len9, wipe_nil, wipe_cons, hv, e2, hn, ne_l0]
  · have zf : (!decide (s < 0)) = zr r s := by unfold zr; rw [decide_eq_false c]; rfl
    simp only [E1, E2, E3, E4, E5, E6, E7, E8, E9, List.map_cons, List.map_nil, List.cons_append, List.nil_append, List.append_nil, List.length_cons, List.length_nil, List.replicate_zero, List.replicate_succ, Nat.sub_self, Nat.zero_add, List.getElem?_cons_zero, List.getElem?_cons_succ, List.set_cons_zero, List.set_cons_succ, if_true, if_false, Bool.false_eq_true, decide_true, decide_false, Bool.not_true, Bool.not_false, decide_eq_true_eq, eq_self, Int.cast_ofNat_Int, Int.natCast_zero, Int.natCast_one, Nat.reduceLeDiff, Nat.reduceSub, Nat.reduceAdd, Nat.reduceLT, reduceIte, reduceCtorEq, Int.reduceEq, Int.reduceLT, Int.reduceLE, Int.reduceNeg, Int.reduceAdd, Int.reduceSub, Int.reduceMul, Int.reduceNe, Int.reduceBNe, Int.reduceBEq, b_law_5, e1, q_add_negate, q_add_size, q_add_joined, q_add_less, q_add_times, q_add_over, q_add_least, q_add_most, added_spans_ok (Q4 hp) (Q4 hq) (Q4 hr) (Q4 hs), same_sp, idx_sp0, idx_sp1, z1, z2, c, zf, it_PT, lenP, len9, wipe_nil, wipe_cons, hv, e2, hn, ne_l0]
theorem b_less (hp : Q p) (hq : Q q) (hr : Q r) (hs : Q s) (hpq : p ≤ q) (hrs : r ≤ s) : fbd G (callK G (k + 15)) (.name 9) b_law_5 (.str "less") [x0, x1, x2, some (sp p q), some (sp r s), x5, x6, some (.lst (PT p q r s)), x8, x9, x10, x11, x12, x13, x14, x15, x16, x17, x18, x19, x20, x21] S = some (.nx [x0, x1, x2, some (sp p q), some (sp r s), x5, x6, some (.lst (PT p q r s)), x8, some (.str "less"), some (sp (p - s) (q - r)), some (.bl (zr r s)), some (.lst (VL (· - ·) p q r s)), x13, x14, x15, x16, x17, x18, x19, x20, x21], S) := by
  have hh : IsHull (· - ·) p q r s (p - s) (q - r) := is_less hpq hrs
  have hm : ∀ x ∈ pts p q r s, Sm 4000 ((· - ·) x.1 x.2) := fun x hx => by
    obtain ⟨h1, h2⟩ := pts_sm hp hq hr hs x hx
    exact by show Sm 4000 (x.1 - x.2); rw [Rat.sub_eq_add_neg]; exact (h1.add h2.neg).mono (by decide)
  have hx : ∀ x ∈ pts p q r s, callK G (k + 15) i__law_exact [.str "less", fr x.1, fr x.2] S = some (fr ((· - ·) x.1 x.2), S) := fun x hx => by
    obtain ⟨h1, h2⟩ := pts_sm hp hq hr hs x hx
    exact x_less (k := k + 12) (s27 h1) (s27 h2)
  have e1 := step_less (k := k + 8) (S := S) hp hq hr hs
  have e2 := vhull (k := k) (S := S) hh hm

  have hv : ∀ all, compL none all (ctn G (callK G (k + 15)) e_law_6 (.tup (.cons (.name 8) (.cons (.name 20) .nil))) .none [x0, x1, x2, some (sp p q), some (sp r s), x5, x6, some (.lst (PT p q r s)), none, some (.str "less"), some (sp (p - s) (q - r)), some (.bl (zr r s)), x12, x13, x14, x15, x16, x17, x18, x19, none, x21]) (PT p q r s) S [] = some (VL (· - ·) p q r s, S) := fun all => vals hx all
  have hn : ∀ all, compL none all (ctn G (callK G (k + 15)) e_law_7 (.name 21) k_law_7 [x0, x1, x2, some (sp p q), some (sp r s), x5, x6, some (.lst (PT p q r s)), x8, some (.str "less"), some (sp (p - s) (q - r)), some (.bl (zr r s)), some (.lst (VL (· - ·) p q r s)), x13, x14, x15, x16, x17, x18, x19, x20, none]) (VL (· - ·) p q r s) S [] = some ([], S) := fun all => none_out hh hm all
  have z1 := lless_0 (k := k + 14) (S := S) (Q4 hr)
  have z2 := lless_1 (k := k + 14) (S := S) (Q4 hs)
  unfold fbd
  by_cases c : 0 < r
  · have zf : zr r s = false := by unfold zr; rw [decide_eq_true c]; rfl
    rw [zf] at hv hn ⊢
    simp only [E1, E2, E3, E4, E5, E6, E7, E8, E9, List.map_cons, List.map_nil, List.cons_append, List.nil_append, List.append_nil, List.length_cons, List.length_nil, List.replicate_zero, List.replicate_succ, Nat.sub_self, Nat.zero_add, List.getElem?_cons_zero, List.getElem?_cons_succ, List.set_cons_zero, List.set_cons_succ, if_true, if_false, Bool.false_eq_true, decide_true, decide_false, Bool.not_true, Bool.not_false, decide_eq_true_eq, eq_self, Int.cast_ofNat_Int, Int.natCast_zero, Int.natCast_one, Nat.reduceLeDiff, Nat.reduceSub, Nat.reduceAdd, Nat.reduceLT, reduceIte, reduceCtorEq, Int.reduceEq, Int.reduceLT, Int.reduceLE, Int.reduceNeg, Int.reduceAdd, Int.reduceSub, Int.reduceMul, Int.reduceNe, Int.reduceBNe, Int.reduceBEq, b_law_5, e1, q_less_negate, q_less_size, q_less_joined, q_less_add, q_less_times, q_less_over, q_less_least, q_less_most, taken_spans_ok (Q4 hp) (Q4 hq) (Q4 hr) (Q4 hs), same_sp, idx_sp0, idx_sp1, z1, z2, c, it_PT, lenP, len9, wipe_nil, wipe_cons, hv, e2, hn, ne_l0]
  · have zf : (!decide (s < 0)) = zr r s := by unfold zr; rw [decide_eq_false c]; rfl
    simp only [E1, E2, E3, E4, E5, E6, E7, E8, E9, List.map_cons, List.map_nil, List.cons_append, List.nil_append, List.append_nil, List.length_cons, List.length_nil, List.replicate_zero, List.replicate_succ, Nat.sub_self, Nat.zero_add, List.getElem?_cons_zero, List.getElem?_cons_succ, List.set_cons_zero, List.set_cons_succ, if_true, if_false, Bool.false_eq_true, decide_true, decide_false, Bool.not_true, Bool.not_false, decide_eq_true_eq, eq_self, Int.cast_ofNat_Int, Int.natCast_zero, Int.natCast_one, Nat.reduceLeDiff, Nat.reduceSub, Nat.reduceAdd, Nat.reduceLT, reduceIte, reduceCtorEq, Int.reduceEq, Int.reduceLT, Int.reduceLE, Int.reduceNeg, Int.reduceAdd, Int.reduceSub, Int.reduceMul, Int.reduceNe, Int.reduceBNe, Int.reduceBEq, b_law_5, e1, q_less_negate, q_less_size, q_less_joined, q_less_add, q_less_times, q_less_over, q_less_least, q_less_most, taken_spans_ok (Q4 hp) (Q4 hq) (Q4 hr) (Q4 hs), same_sp, idx_sp0, idx_sp1, z1, z2, c, zf, it_PT, lenP, len9, wipe_nil, wipe_cons, hv, e2, hn, ne_l0]
theorem b_times (hp : Q p) (hq : Q q) (hr : Q r) (hs : Q s) (hpq : p ≤ q) (hrs : r ≤ s) : fbd G (callK G (k + 15)) (.name 9) b_law_5 (.str "times") [x0, x1, x2, some (sp p q), some (sp r s), x5, x6, some (.lst (PT p q r s)), x8, x9, x10, x11, x12, x13, x14, x15, x16, x17, x18, x19, x20, x21] S = some (.nx [x0, x1, x2, some (sp p q), some (sp r s), x5, x6, some (.lst (PT p q r s)), x8, some (.str "times"), some (sp ((hull4 (· * ·) p q r s).1) ((hull4 (· * ·) p q r s).2)), some (.bl (zr r s)), some (.lst (VL (· * ·) p q r s)), x13, x14, x15, x16, x17, x18, x19, x20, x21], S) := by
  have hh : IsHull (· * ·) p q r s ((hull4 (· * ·) p q r s).1) ((hull4 (· * ·) p q r s).2) := is_times
  have hm : ∀ x ∈ pts p q r s, Sm 4000 ((· * ·) x.1 x.2) := fun x hx => by
    obtain ⟨h1, h2⟩ := pts_sm hp hq hr hs x hx
    exact (h1.mul h2).mono (by decide)
  have hx : ∀ x ∈ pts p q r s, callK G (k + 15) i__law_exact [.str "times", fr x.1, fr x.2] S = some (fr ((· * ·) x.1 x.2), S) := fun x hx => by
    obtain ⟨h1, h2⟩ := pts_sm hp hq hr hs x hx
    exact x_times (k := k + 12) (s27 h1) (s27 h2)
  have e1 := step_times (k := k + 8) (S := S) hp hq hr hs
  have e2 := vhull (k := k) (S := S) hh hm

  have hv : ∀ all, compL none all (ctn G (callK G (k + 15)) e_law_6 (.tup (.cons (.name 8) (.cons (.name 20) .nil))) .none [x0, x1, x2, some (sp p q), some (sp r s), x5, x6, some (.lst (PT p q r s)), none, some (.str "times"), some (sp ((hull4 (· * ·) p q r s).1) ((hull4 (· * ·) p q r s).2)), some (.bl (zr r s)), x12, x13, x14, x15, x16, x17, x18, x19, none, x21]) (PT p q r s) S [] = some (VL (· * ·) p q r s, S) := fun all => vals hx all
  have hn : ∀ all, compL none all (ctn G (callK G (k + 15)) e_law_7 (.name 21) k_law_7 [x0, x1, x2, some (sp p q), some (sp r s), x5, x6, some (.lst (PT p q r s)), x8, some (.str "times"), some (sp ((hull4 (· * ·) p q r s).1) ((hull4 (· * ·) p q r s).2)), some (.bl (zr r s)), some (.lst (VL (· * ·) p q r s)), x13, x14, x15, x16, x17, x18, x19, x20, none]) (VL (· * ·) p q r s) S [] = some ([], S) := fun all => none_out hh hm all
  have z1 := lless_0 (k := k + 14) (S := S) (Q4 hr)
  have z2 := lless_1 (k := k + 14) (S := S) (Q4 hs)
  unfold fbd
  by_cases c : 0 < r
  · have zf : zr r s = false := by unfold zr; rw [decide_eq_true c]; rfl
    rw [zf] at hv hn ⊢
    simp only [E1, E2, E3, E4, E5, E6, E7, E8, E9, List.map_cons, List.map_nil, List.cons_append, List.nil_append, List.append_nil, List.length_cons, List.length_nil, List.replicate_zero, List.replicate_succ, Nat.sub_self, Nat.zero_add, List.getElem?_cons_zero, List.getElem?_cons_succ, List.set_cons_zero, List.set_cons_succ, if_true, if_false, Bool.false_eq_true, decide_true, decide_false, Bool.not_true, Bool.not_false, decide_eq_true_eq, eq_self, Int.cast_ofNat_Int, Int.natCast_zero, Int.natCast_one, Nat.reduceLeDiff, Nat.reduceSub, Nat.reduceAdd, Nat.reduceLT, reduceIte, reduceCtorEq, Int.reduceEq, Int.reduceLT, Int.reduceLE, Int.reduceNeg, Int.reduceAdd, Int.reduceSub, Int.reduceMul, Int.reduceNe, Int.reduceBNe, Int.reduceBEq, b_law_5, e1, q_times_negate, q_times_size, q_times_joined, q_times_add, q_times_less, q_times_over, q_times_least, q_times_most, times_spans_ok (Q2 hp) (Q2 hq) (Q2 hr) (Q2 hs), spH, same_sp, idx_sp0, idx_sp1, z1, z2, c, it_PT, lenP, len9, wipe_nil, wipe_cons, hv, e2, hn, ne_l0]
  · have zf : (!decide (s < 0)) = zr r s := by unfold zr; rw [decide_eq_false c]; rfl
    simp only [E1, E2, E3, E4, E5, E6, E7, E8, E9, List.map_cons, List.map_nil, List.cons_append, List.nil_append, List.append_nil, List.length_cons, List.length_nil, List.replicate_zero, List.replicate_succ, Nat.sub_self, Nat.zero_add, List.getElem?_cons_zero, List.getElem?_cons_succ, List.set_cons_zero, List.set_cons_succ, if_true, if_false, Bool.false_eq_true, decide_true, decide_false, Bool.not_true, Bool.not_false, decide_eq_true_eq, eq_self, Int.cast_ofNat_Int, Int.natCast_zero, Int.natCast_one, Nat.reduceLeDiff, Nat.reduceSub, Nat.reduceAdd, Nat.reduceLT, reduceIte, reduceCtorEq, Int.reduceEq, Int.reduceLT, Int.reduceLE, Int.reduceNeg, Int.reduceAdd, Int.reduceSub, Int.reduceMul, Int.reduceNe, Int.reduceBNe, Int.reduceBEq, b_law_5, e1, q_times_negate, q_times_size, q_times_joined, q_times_add, q_times_less, q_times_over, q_times_least, q_times_most, times_spans_ok (Q2 hp) (Q2 hq) (Q2 hr) (Q2 hs), spH, same_sp, idx_sp0, idx_sp1, z1, z2, c, zf, it_PT, lenP, len9, wipe_nil, wipe_cons, hv, e2, hn, ne_l0]
theorem b_over (hp : Q p) (hq : Q q) (hr : Q r) (hs : Q s) (hpq : p ≤ q) (hrs : r ≤ s) (hz : 0 < r ∨ s < 0) : fbd G (callK G (k + 15)) (.name 9) b_law_5 (.str "over") [x0, x1, x2, some (sp p q), some (sp r s), x5, x6, some (.lst (PT p q r s)), x8, x9, x10, x11, x12, x13, x14, x15, x16, x17, x18, x19, x20, x21] S = some (.nx [x0, x1, x2, some (sp p q), some (sp r s), x5, x6, some (.lst (PT p q r s)), x8, some (.str "over"), some (sp ((hull4 (· / ·) p q r s).1) ((hull4 (· / ·) p q r s).2)), some (.bl (zr r s)), some (.lst (VL (· / ·) p q r s)), x13, x14, x15, x16, x17, x18, x19, x20, x21], S) := by
  have hnz : ∀ x ∈ pts p q r s, x.2 ≠ 0 := fun x hx => by
    have := pts_in hpq hrs x hx
    grind
  have hh : IsHull (· / ·) p q r s ((hull4 (· / ·) p q r s).1) ((hull4 (· / ·) p q r s).2) := is_over hrs hz
  have hm : ∀ x ∈ pts p q r s, Sm 4000 ((· / ·) x.1 x.2) := fun x hx => by
    obtain ⟨h1, h2⟩ := pts_sm hp hq hr hs x hx
    exact (h1.quo h2 (hnz x hx)).mono (by decide)
  have hx : ∀ x ∈ pts p q r s, callK G (k + 15) i__law_exact [.str "over", fr x.1, fr x.2] S = some (fr ((· / ·) x.1 x.2), S) := fun x hx => by
    obtain ⟨h1, h2⟩ := pts_sm hp hq hr hs x hx
    exact x_over (k := k + 12) (s27 h1) (s27 h2) (hnz x hx)
  have e1 := step_over (k := k + 8) (S := S) hp hq hr hs hrs hz
  have e2 := vhull (k := k) (S := S) hh hm

  have hv : ∀ all, compL none all (ctn G (callK G (k + 15)) e_law_6 (.tup (.cons (.name 8) (.cons (.name 20) .nil))) .none [x0, x1, x2, some (sp p q), some (sp r s), x5, x6, some (.lst (PT p q r s)), none, some (.str "over"), some (sp ((hull4 (· / ·) p q r s).1) ((hull4 (· / ·) p q r s).2)), some (.bl (zr r s)), x12, x13, x14, x15, x16, x17, x18, x19, none, x21]) (PT p q r s) S [] = some (VL (· / ·) p q r s, S) := fun all => vals hx all
  have hn : ∀ all, compL none all (ctn G (callK G (k + 15)) e_law_7 (.name 21) k_law_7 [x0, x1, x2, some (sp p q), some (sp r s), x5, x6, some (.lst (PT p q r s)), x8, some (.str "over"), some (sp ((hull4 (· / ·) p q r s).1) ((hull4 (· / ·) p q r s).2)), some (.bl (zr r s)), some (.lst (VL (· / ·) p q r s)), x13, x14, x15, x16, x17, x18, x19, x20, none]) (VL (· / ·) p q r s) S [] = some ([], S) := fun all => none_out hh hm all
  have z1 := lless_0 (k := k + 14) (S := S) (Q4 hr)
  have z2 := lless_1 (k := k + 14) (S := S) (Q4 hs)
  have zf : zr r s = false := by
    unfold zr
    rcases hz with h | h
    · rw [decide_eq_true h]; rfl
    · rw [decide_eq_true h]; simp
  rw [zf] at hv hn ⊢
  unfold fbd
  by_cases c : 0 < r
  · simp only [E1, E2, E3, E4, E5, E6, E7, E8, E9, List.map_cons, List.map_nil, List.cons_append, List.nil_append, List.append_nil, List.length_cons, List.length_nil, List.replicate_zero, List.replicate_succ, Nat.sub_self, Nat.zero_add, List.getElem?_cons_zero, List.getElem?_cons_succ, List.set_cons_zero, List.set_cons_succ, if_true, if_false, Bool.false_eq_true, decide_true, decide_false, Bool.not_true, Bool.not_false, decide_eq_true_eq, eq_self, Int.cast_ofNat_Int, Int.natCast_zero, Int.natCast_one, Nat.reduceLeDiff, Nat.reduceSub, Nat.reduceAdd, Nat.reduceLT, reduceIte, reduceCtorEq, Int.reduceEq, Int.reduceLT, Int.reduceLE, Int.reduceNeg, Int.reduceAdd, Int.reduceSub, Int.reduceMul, Int.reduceNe, Int.reduceBNe, Int.reduceBEq, b_law_5, e1, q_over_negate, q_over_size, q_over_joined, q_over_add, q_over_less, q_over_times, q_over_least, q_over_most, over_spans_ok (Q2 hp) (Q2 hq) (Q2 hr) (Q2 hs) hrs hz, spH, same_sp, idx_sp0, idx_sp1, z1, z2, c, it_PT, lenP, len9, wipe_nil, wipe_cons, hv, e2, hn, ne_l0]
  · have c2 : s < 0 := by rcases hz with h | h; exact absurd h c; exact h
    simp only [E1, E2, E3, E4, E5, E6, E7, E8, E9, List.map_cons, List.map_nil, List.cons_append, List.nil_append, List.append_nil, List.length_cons, List.length_nil, List.replicate_zero, List.replicate_succ, Nat.sub_self, Nat.zero_add, List.getElem?_cons_zero, List.getElem?_cons_succ, List.set_cons_zero, List.set_cons_succ, if_true, if_false, Bool.false_eq_true, decide_true, decide_false, Bool.not_true, Bool.not_false, decide_eq_true_eq, eq_self, Int.cast_ofNat_Int, Int.natCast_zero, Int.natCast_one, Nat.reduceLeDiff, Nat.reduceSub, Nat.reduceAdd, Nat.reduceLT, reduceIte, reduceCtorEq, Int.reduceEq, Int.reduceLT, Int.reduceLE, Int.reduceNeg, Int.reduceAdd, Int.reduceSub, Int.reduceMul, Int.reduceNe, Int.reduceBNe, Int.reduceBEq, b_law_5, e1, q_over_negate, q_over_size, q_over_joined, q_over_add, q_over_less, q_over_times, q_over_least, q_over_most, over_spans_ok (Q2 hp) (Q2 hq) (Q2 hr) (Q2 hs) hrs hz, spH, same_sp, idx_sp0, idx_sp1, z1, z2, c, c2, it_PT, lenP, len9, wipe_nil, wipe_cons, hv, e2, hn, ne_l0]
theorem b_least (hp : Q p) (hq : Q q) (hr : Q r) (hs : Q s) (hpq : p ≤ q) (hrs : r ≤ s) : fbd G (callK G (k + 15)) (.name 9) b_law_5 (.str "least") [x0, x1, x2, some (sp p q), some (sp r s), x5, x6, some (.lst (PT p q r s)), x8, x9, x10, x11, x12, x13, x14, x15, x16, x17, x18, x19, x20, x21] S = some (.nx [x0, x1, x2, some (sp p q), some (sp r s), x5, x6, some (.lst (PT p q r s)), x8, some (.str "least"), some (sp (lo2 p r) (lo2 q s)), some (.bl (zr r s)), some (.lst (VL lo2 p q r s)), x13, x14, x15, x16, x17, x18, x19, x20, x21], S) := by
  have hh : IsHull lo2 p q r s (lo2 p r) (lo2 q s) := is_least hpq hrs
  have hm : ∀ x ∈ pts p q r s, Sm 4000 (lo2 x.1 x.2) := fun x hx => by
    obtain ⟨h1, h2⟩ := pts_sm hp hq hr hs x hx
    exact (h1.lo h2).mono (by decide)
  have hx : ∀ x ∈ pts p q r s, callK G (k + 15) i__law_exact [.str "least", fr x.1, fr x.2] S = some (fr (lo2 x.1 x.2), S) := fun x hx => by
    obtain ⟨h1, h2⟩ := pts_sm hp hq hr hs x hx
    exact x_least (k := k + 12) (s27 h1) (s27 h2)
  have e1 := step_least (k := k + 8) (S := S) hp hq hr hs
  have e2 := vhull (k := k) (S := S) hh hm

  have hv : ∀ all, compL none all (ctn G (callK G (k + 15)) e_law_6 (.tup (.cons (.name 8) (.cons (.name 20) .nil))) .none [x0, x1, x2, some (sp p q), some (sp r s), x5, x6, some (.lst (PT p q r s)), none, some (.str "least"), some (sp (lo2 p r) (lo2 q s)), some (.bl (zr r s)), x12, x13, x14, x15, x16, x17, x18, x19, none, x21]) (PT p q r s) S [] = some (VL lo2 p q r s, S) := fun all => vals hx all
  have hn : ∀ all, compL none all (ctn G (callK G (k + 15)) e_law_7 (.name 21) k_law_7 [x0, x1, x2, some (sp p q), some (sp r s), x5, x6, some (.lst (PT p q r s)), x8, some (.str "least"), some (sp (lo2 p r) (lo2 q s)), some (.bl (zr r s)), some (.lst (VL lo2 p q r s)), x13, x14, x15, x16, x17, x18, x19, x20, none]) (VL lo2 p q r s) S [] = some ([], S) := fun all => none_out hh hm all
  have z1 := lless_0 (k := k + 14) (S := S) (Q4 hr)
  have z2 := lless_1 (k := k + 14) (S := S) (Q4 hs)
  unfold fbd
  by_cases c : 0 < r
  · have zf : zr r s = false := by unfold zr; rw [decide_eq_true c]; rfl
    rw [zf] at hv hn ⊢
    simp only [E1, E2, E3, E4, E5, E6, E7, E8, E9, List.map_cons, List.map_nil, List.cons_append, List.nil_append, List.append_nil, List.length_cons, List.length_nil, List.replicate_zero, List.replicate_succ, Nat.sub_self, Nat.zero_add, List.getElem?_cons_zero, List.getElem?_cons_succ, List.set_cons_zero, List.set_cons_succ, if_true, if_false, Bool.false_eq_true, decide_true, decide_false, Bool.not_true, Bool.not_false, decide_eq_true_eq, eq_self, Int.cast_ofNat_Int, Int.natCast_zero, Int.natCast_one, Nat.reduceLeDiff, Nat.reduceSub, Nat.reduceAdd, Nat.reduceLT, reduceIte, reduceCtorEq, Int.reduceEq, Int.reduceLT, Int.reduceLE, Int.reduceNeg, Int.reduceAdd, Int.reduceSub, Int.reduceMul, Int.reduceNe, Int.reduceBNe, Int.reduceBEq, b_law_5, e1, q_least_negate, q_least_size, q_least_joined, q_least_add, q_least_less, q_least_times, q_least_over, q_least_most, least_span_ok (Q4 hp) (Q4 hq) (Q4 hr) (Q4 hs), same_sp, idx_sp0, idx_sp1, z1, z2, c, it_PT, lenP, len9, wipe_nil, wipe_cons, hv, e2, hn, ne_l0]
  · have zf : (!decide (s < 0)) = zr r s := by unfold zr; rw [decide_eq_false c]; rfl
    simp only [E1, E2, E3, E4, E5, E6, E7, E8, E9, List.map_cons, List.map_nil, List.cons_append, List.nil_append, List.append_nil, List.length_cons, List.length_nil, List.replicate_zero, List.replicate_succ, Nat.sub_self, Nat.zero_add, List.getElem?_cons_zero, List.getElem?_cons_succ, List.set_cons_zero, List.set_cons_succ, if_true, if_false, Bool.false_eq_true, decide_true, decide_false, Bool.not_true, Bool.not_false, decide_eq_true_eq, eq_self, Int.cast_ofNat_Int, Int.natCast_zero, Int.natCast_one, Nat.reduceLeDiff, Nat.reduceSub, Nat.reduceAdd, Nat.reduceLT, reduceIte, reduceCtorEq, Int.reduceEq, Int.reduceLT, Int.reduceLE, Int.reduceNeg, Int.reduceAdd, Int.reduceSub, Int.reduceMul, Int.reduceNe, Int.reduceBNe, Int.reduceBEq, b_law_5, e1, q_least_negate, q_least_size, q_least_joined, q_least_add, q_least_less, q_least_times, q_least_over, q_least_most, least_span_ok (Q4 hp) (Q4 hq) (Q4 hr) (Q4 hs), same_sp, idx_sp0, idx_sp1, z1, z2, c, zf, it_PT, lenP, len9, wipe_nil, wipe_cons, hv, e2, hn, ne_l0]
theorem b_most (hp : Q p) (hq : Q q) (hr : Q r) (hs : Q s) (hpq : p ≤ q) (hrs : r ≤ s) : fbd G (callK G (k + 15)) (.name 9) b_law_5 (.str "most") [x0, x1, x2, some (sp p q), some (sp r s), x5, x6, some (.lst (PT p q r s)), x8, x9, x10, x11, x12, x13, x14, x15, x16, x17, x18, x19, x20, x21] S = some (.nx [x0, x1, x2, some (sp p q), some (sp r s), x5, x6, some (.lst (PT p q r s)), x8, some (.str "most"), some (sp (hi2 p r) (hi2 q s)), some (.bl (zr r s)), some (.lst (VL hi2 p q r s)), x13, x14, x15, x16, x17, x18, x19, x20, x21], S) := by
  have hh : IsHull hi2 p q r s (hi2 p r) (hi2 q s) := is_most hpq hrs
  have hm : ∀ x ∈ pts p q r s, Sm 4000 (hi2 x.1 x.2) := fun x hx => by
    obtain ⟨h1, h2⟩ := pts_sm hp hq hr hs x hx
    exact (h1.hi h2).mono (by decide)
  have hx : ∀ x ∈ pts p q r s, callK G (k + 15) i__law_exact [.str "most", fr x.1, fr x.2] S = some (fr (hi2 x.1 x.2), S) := fun x hx => by
    obtain ⟨h1, h2⟩ := pts_sm hp hq hr hs x hx
    exact x_most (k := k + 12) (s27 h1) (s27 h2)
  have e1 := step_most (k := k + 8) (S := S) hp hq hr hs
  have e2 := vhull (k := k) (S := S) hh hm

  have hv : ∀ all, compL none all (ctn G (callK G (k + 15)) e_law_6 (.tup (.cons (.name 8) (.cons (.name 20) .nil))) .none [x0, x1, x2, some (sp p q), some (sp r s), x5, x6, some (.lst (PT p q r s)), none, some (.str "most"), some (sp (hi2 p r) (hi2 q s)), some (.bl (zr r s)), x12, x13, x14, x15, x16, x17, x18, x19, none, x21]) (PT p q r s) S [] = some (VL hi2 p q r s, S) := fun all => vals hx all
  have hn : ∀ all, compL none all (ctn G (callK G (k + 15)) e_law_7 (.name 21) k_law_7 [x0, x1, x2, some (sp p q), some (sp r s), x5, x6, some (.lst (PT p q r s)), x8, some (.str "most"), some (sp (hi2 p r) (hi2 q s)), some (.bl (zr r s)), some (.lst (VL hi2 p q r s)), x13, x14, x15, x16, x17, x18, x19, x20, none]) (VL hi2 p q r s) S [] = some ([], S) := fun all => none_out hh hm all
  have z1 := lless_0 (k := k + 14) (S := S) (Q4 hr)
  have z2 := lless_1 (k := k + 14) (S := S) (Q4 hs)
  unfold fbd
  by_cases c : 0 < r
  · have zf : zr r s = false := by unfold zr; rw [decide_eq_true c]; rfl
    rw [zf] at hv hn ⊢
    simp only [E1, E2, E3, E4, E5, E6, E7, E8, E9, List.map_cons, List.map_nil, List.cons_append, List.nil_append, List.append_nil, List.length_cons, List.length_nil, List.replicate_zero, List.replicate_succ, Nat.sub_self, Nat.zero_add, List.getElem?_cons_zero, List.getElem?_cons_succ, List.set_cons_zero, List.set_cons_succ, if_true, if_false, Bool.false_eq_true, decide_true, decide_false, Bool.not_true, Bool.not_false, decide_eq_true_eq, eq_self, Int.cast_ofNat_Int, Int.natCast_zero, Int.natCast_one, Nat.reduceLeDiff, Nat.reduceSub, Nat.reduceAdd, Nat.reduceLT, reduceIte, reduceCtorEq, Int.reduceEq, Int.reduceLT, Int.reduceLE, Int.reduceNeg, Int.reduceAdd, Int.reduceSub, Int.reduceMul, Int.reduceNe, Int.reduceBNe, Int.reduceBEq, b_law_5, e1, q_most_negate, q_most_size, q_most_joined, q_most_add, q_most_less, q_most_times, q_most_over, q_most_least, most_span_ok (Q4 hp) (Q4 hq) (Q4 hr) (Q4 hs), same_sp, idx_sp0, idx_sp1, z1, z2, c, it_PT, lenP, len9, wipe_nil, wipe_cons, hv, e2, hn, ne_l0]
  · have zf : (!decide (s < 0)) = zr r s := by unfold zr; rw [decide_eq_false c]; rfl
    simp only [E1, E2, E3, E4, E5, E6, E7, E8, E9, List.map_cons, List.map_nil, List.cons_append, List.nil_append, List.append_nil, List.length_cons, List.length_nil, List.replicate_zero, List.replicate_succ, Nat.sub_self, Nat.zero_add, List.getElem?_cons_zero, List.getElem?_cons_succ, List.set_cons_zero, List.set_cons_succ, if_true, if_false, Bool.false_eq_true, decide_true, decide_false, Bool.not_true, Bool.not_false, decide_eq_true_eq, eq_self, Int.cast_ofNat_Int, Int.natCast_zero, Int.natCast_one, Nat.reduceLeDiff, Nat.reduceSub, Nat.reduceAdd, Nat.reduceLT, reduceIte, reduceCtorEq, Int.reduceEq, Int.reduceLT, Int.reduceLE, Int.reduceNeg, Int.reduceAdd, Int.reduceSub, Int.reduceMul, Int.reduceNe, Int.reduceBNe, Int.reduceBEq, b_law_5, e1, q_most_negate, q_most_size, q_most_joined, q_most_add, q_most_less, q_most_times, q_most_over, q_most_least, most_span_ok (Q4 hp) (Q4 hq) (Q4 hr) (Q4 hs), same_sp, idx_sp0, idx_sp1, z1, z2, c, zf, it_PT, lenP, len9, wipe_nil, wipe_cons, hv, e2, hn, ne_l0]
theorem isnt_non : isNone .non = true := nrfl rfl
theorem b_over0 (hr : Q r) (hs : Q s) (h1 : r ≤ 0) (h2 : 0 ≤ s) : fbd G (callK G (k + 15)) (.name 9) b_law_5 (.str "over") [x0, x1, x2, some (sp p q), some (sp r s), x5, x6, some (.lst (PT p q r s)), x8, x9, x10, x11, x12, x13, x14, x15, x16, x17, x18, x19, x20, x21] S = some (.nx [x0, x1, x2, some (sp p q), some (sp r s), x5, x6, some (.lst (PT p q r s)), x8, some (.str "over"), some (.non), some (.bl (zr r s)), x12, x13, x14, x15, x16, x17, x18, x19, x20, x21], S) := by
  have e1 := step_over0 (k := k + 8) (S := S) (p := p) (q := q) h1 h2
  have e0 := over_spans_none (k := k + 10) (S := S) (a := p) (b := q) h1 h2
  have z1 := lless_0 (k := k + 14) (S := S) (Q4 hr)
  have z2 := lless_1 (k := k + 14) (S := S) (Q4 hs)
  have c : ¬ 0 < r := by grind
  have c2 : ¬ s < 0 := by grind
  have zf : zr r s = true := by unfold zr; rw [decide_eq_false c, decide_eq_false c2]; rfl
  rw [zf]
  unfold fbd
  simp only [E1, E2, E3, E4, E5, E6, E7, E8, E9, List.map_cons, List.map_nil, List.cons_append, List.nil_append, List.append_nil, List.length_cons, List.length_nil, List.replicate_zero, List.replicate_succ, Nat.sub_self, Nat.zero_add, List.getElem?_cons_zero, List.getElem?_cons_succ, List.set_cons_zero, List.set_cons_succ, if_true, if_false, Bool.false_eq_true, decide_true, decide_false, Bool.not_true, Bool.not_false, decide_eq_true_eq, eq_self, Int.cast_ofNat_Int, Int.natCast_zero, Int.natCast_one, Nat.reduceLeDiff, Nat.reduceSub, Nat.reduceAdd, Nat.reduceLT, reduceIte, reduceCtorEq, Int.reduceEq, Int.reduceLT, Int.reduceLE, Int.reduceNeg, Int.reduceAdd, Int.reduceSub, Int.reduceMul, Int.reduceNe, Int.reduceBNe, Int.reduceBEq, b_law_5, e1, q_over_negate, q_over_size, q_over_joined, q_over_add, q_over_less, q_over_times, q_over_least, q_over_most, e0, same_non, idx_sp0, idx_sp1, z1, z2, c, c2, isnt_non]
theorem st4 (hp : Q p) (hq : Q q) (hr : Q r) (hs : Q s) (hpq : p ≤ q) (hrs : r ≤ s) : evS G (callK G (k + 15)) s_law_1_4 [x0, x1, x2, some (sp p q), some (sp r s), x5, x6, some (.lst (PT p q r s)), x8, x9, x10, x11, x12, x13, x14, x15, x16, x17, x18, x19, x20, x21] S = some (.nx [x0, x1, x2, some (sp p q), some (sp r s), x5, x6, some (.lst (PT p q r s)), x8, some (.str "most"), some (sp (hi2 p r) (hi2 q s)), some (.bl (zr r s)), some (.lst (VL hi2 p q r s)), x13, x14, x15, x16, x17, x18, x19, x20, x21], S) := by
  have hf : ∀ all, forL none all (fbd G (callK G (k + 15)) (.name 9) b_law_5) [.str "add", .str "less", .str "times", .str "over", .str "least", .str "most"] [x0, x1, x2, some (sp p q), some (sp r s), x5, x6, some (.lst (PT p q r s)), x8, x9, x10, x11, x12, x13, x14, x15, x16, x17, x18, x19, x20, x21] S = some (.nx [x0, x1, x2, some (sp p q), some (sp r s), x5, x6, some (.lst (PT p q r s)), x8, some (.str "most"), some (sp (hi2 p r) (hi2 q s)), some (.bl (zr r s)), some (.lst (VL hi2 p q r s)), x13, x14, x15, x16, x17, x18, x19, x20, x21], S) := fun all => by
    by_cases z : 0 < r ∨ s < 0
    · rw [forL_cons (b_add hp hq hr hs hpq hrs), forL_cons (b_less hp hq hr hs hpq hrs), forL_cons (b_times hp hq hr hs hpq hrs), forL_cons (b_over hp hq hr hs hpq hrs z), forL_cons (b_least hp hq hr hs hpq hrs), forL_cons (b_most hp hq hr hs hpq hrs), forL_nil]
    · rw [forL_cons (b_add hp hq hr hs hpq hrs), forL_cons (b_less hp hq hr hs hpq hrs), forL_cons (b_times hp hq hr hs hpq hrs), forL_cons (b_over0 hr hs (by grind) (by grind)), forL_cons (b_least hp hq hr hs hpq hrs), forL_cons (b_most hp hq hr hs hpq hrs), forL_nil]
  simp only [E1, E2, E3, E4, E5, E6, E7, E8, E9, List.map_cons, List.map_nil, List.cons_append, List.nil_append, List.append_nil, List.length_cons, List.length_nil, List.replicate_zero, List.replicate_succ, Nat.sub_self, Nat.zero_add, List.getElem?_cons_zero, List.getElem?_cons_succ, List.set_cons_zero, List.set_cons_succ, if_true, if_false, Bool.false_eq_true, decide_true, decide_false, Bool.not_true, Bool.not_false, decide_eq_true_eq, eq_self, Int.cast_ofNat_Int, Int.natCast_zero, Int.natCast_one, Nat.reduceLeDiff, Nat.reduceSub, Nat.reduceAdd, Nat.reduceLT, reduceIte, reduceCtorEq, Int.reduceEq, Int.reduceLT, Int.reduceLE, Int.reduceNeg, Int.reduceAdd, Int.reduceSub, Int.reduceMul, Int.reduceNe, Int.reduceBNe, Int.reduceBEq, s_law_1_4, hf]
theorem has_zr : (decide (r ≤ 0) && decide (0 ≤ s)) = zr r s := by
  unfold zr
  rw [show decide (r ≤ 0) = !decide (0 < r) by rw [← decide_not, decide_eq_decide]; grind, show decide (0 ≤ s) = !decide (s < 0) by rw [← decide_not, decide_eq_decide]; grind]
theorem neg_mk : D.tup [.int (0 - p.num), .int (p.den : Int)] = fr (-p) := by rw [Int.zero_sub]; rfl
theorem st5 : evS G (callK G (k + 15)) s_law_1_5 [x0, x1, x2, some (sp p q), some (sp r s), x5, x6, x7, x8, x9, x10, some (.bl (zr r s)), x12, x13, x14, x15, x16, x17, x18, x19, x20, x21] S = some (.nx [x0, x1, x2, some (sp p q), some (sp r s), x5, x6, x7, x8, x9, x10, some (.bl (zr r s)), x12, x13, x14, x15, x16, x17, x18, x19, x20, x21], S) := by
  have e1 := has_nothing_ok (k := k + 14) (S := S) (a := r) (b := s)
  rw [has_zr] at e1
  simp only [E1, E2, E3, E4, E5, E6, E7, E8, E9, List.map_cons, List.map_nil, List.cons_append, List.nil_append, List.append_nil, List.length_cons, List.length_nil, List.replicate_zero, List.replicate_succ, Nat.sub_self, Nat.zero_add, List.getElem?_cons_zero, List.getElem?_cons_succ, List.set_cons_zero, List.set_cons_succ, if_true, if_false, Bool.false_eq_true, decide_true, decide_false, Bool.not_true, Bool.not_false, decide_eq_true_eq, eq_self, Int.cast_ofNat_Int, Int.natCast_zero, Int.natCast_one, Nat.reduceLeDiff, Nat.reduceSub, Nat.reduceAdd, Nat.reduceLT, reduceIte, reduceCtorEq, Int.reduceEq, Int.reduceLT, Int.reduceLE, Int.reduceNeg, Int.reduceAdd, Int.reduceSub, Int.reduceMul, Int.reduceNe, Int.reduceBNe, Int.reduceBEq, s_law_1_5, e1, same_bl, negated_span_ok, idx_sp0, idx_sp1, idx_fr0, idx_fr1, neg_mk, sp_mk, same_sp]
/-- sizes -/
def szL (p q : Rat) : List Rat := if p ≤ 0 ∧ 0 ≤ q then [p.abs, q.abs, 0] else [p.abs, q.abs]
theorem max_abs : D.tup [.int (if (0 : Int) - p.num > p.num then (0 : Int) - p.num else p.num), .int (p.den : Int)] = fr p.abs := by
  rw [fr_abs', show (if (0 : Int) - p.num > p.num then (0 : Int) - p.num else p.num) = (p.num.natAbs : Int) by split <;> omega]
theorem rep1 : repOk 1 1 := ⟨by decide, by decide, le_size (by decide)⟩
theorem rep0 : repOk 1 0 := ⟨by decide, by decide, le_size (by decide)⟩
theorem st6 : evS G (callK G (k + 15)) s_law_1_6 [x0, x1, x2, some (sp p q), x4, x5, x6, x7, x8, x9, x10, x11, x12, x13, x14, x15, x16, x17, x18, x19, x20, x21] S = some (.nx [x0, x1, x2, some (sp p q), x4, x5, x6, x7, x8, x9, x10, x11, x12, some (.lst ((szL p q).map fr)), x14, x15, x16, x17, x18, x19, x20, x21], S) := by
  have t : ∀ (u : Rat) x21, ctn G (callK G (k + 15)) e_law_8 (.name 21) .none [x0, x1, x2, some (sp p q), x4, x5, x6, x7, x8, x9, x10, x11, x12, x13, x14, x15, x16, x17, x18, x19, x20, x21] (fr u) S = some (some (fr u.abs), S) := fun u x21 => by
    unfold ctn
    simp only [E1, E2, E3, E4, E5, E6, E7, E8, E9, List.map_cons, List.map_nil, List.cons_append, List.nil_append, List.append_nil, List.length_cons, List.length_nil, List.replicate_zero, List.replicate_succ, Nat.sub_self, Nat.zero_add, List.getElem?_cons_zero, List.getElem?_cons_succ, List.set_cons_zero, List.set_cons_succ, if_true, if_false, Bool.false_eq_true, decide_true, decide_false, Bool.not_true, Bool.not_false, decide_eq_true_eq, eq_self, Int.cast_ofNat_Int, Int.natCast_zero, Int.natCast_one, Nat.reduceLeDiff, Nat.reduceSub, Nat.reduceAdd, Nat.reduceLT, reduceIte, reduceCtorEq, Int.reduceEq, Int.reduceLT, Int.reduceLE, Int.reduceNeg, Int.reduceAdd, Int.reduceSub, Int.reduceMul, Int.reduceNe, Int.reduceBNe, Int.reduceBEq, e_law_8, idx_fr0, idx_fr1, max_abs]
  have hc : ∀ all x21, compL none all (ctn G (callK G (k + 15)) e_law_8 (.name 21) .none [x0, x1, x2, some (sp p q), x4, x5, x6, x7, x8, x9, x10, x11, x12, x13, x14, x15, x16, x17, x18, x19, x20, x21]) [fr p, fr q] S [] = some ([fr p.abs, fr q.abs], S) := fun all x21 => by
    rw [compL_some (t p _), compL_some (t q _), compL_nil]
    rfl
  have e1 := has_nothing_ok (k := k + 14) (S := S) (a := p) (b := q)
  unfold szL
  by_cases c : p ≤ 0 ∧ 0 ≤ q
  · rw [decide_eq_true c.1, decide_eq_true c.2] at e1
    rw [if_pos c]
    have hb : b2i true = 1 := rfl
    simp only [E1, E2, E3, E4, E5, E6, E7, E8, E9, List.map_cons, List.map_nil, List.cons_append, List.nil_append, List.append_nil, List.length_cons, List.length_nil, List.replicate_zero, List.replicate_succ, Nat.sub_self, Nat.zero_add, List.getElem?_cons_zero, List.getElem?_cons_succ, List.set_cons_zero, List.set_cons_succ, if_true, if_false, Bool.false_eq_true, decide_true, decide_false, Bool.not_true, Bool.not_false, decide_eq_true_eq, eq_self, Int.cast_ofNat_Int, Int.natCast_zero, Int.natCast_one, Nat.reduceLeDiff, Nat.reduceSub, Nat.reduceAdd, Nat.reduceLT, reduceIte, reduceCtorEq, Int.reduceEq, Int.reduceLT, Int.reduceLE, Int.reduceNeg, Int.reduceAdd, Int.reduceSub, Int.reduceMul, Int.reduceNe, Int.reduceBNe, Int.reduceBEq, s_law_1_6, it_sp, wipe_nil, wipe_cons, hc, e1, Bool.and_self, hb, rep_l, rep1]
    rfl
  · rw [show (decide (p ≤ 0) && decide (0 ≤ q)) = false by
      by_cases h : p ≤ 0
      · rw [decide_eq_false (p := 0 ≤ q) fun g => c ⟨h, g⟩]; simp
      · rw [decide_eq_false h]; rfl] at e1
    rw [if_neg c]
    have hb : b2i false = 0 := rfl
    simp only [E1, E2, E3, E4, E5, E6, E7, E8, E9, List.map_cons, List.map_nil, List.cons_append, List.nil_append, List.append_nil, List.length_cons, List.length_nil, List.replicate_zero, List.replicate_succ, Nat.sub_self, Nat.zero_add, List.getElem?_cons_zero, List.getElem?_cons_succ, List.set_cons_zero, List.set_cons_succ, if_true, if_false, Bool.false_eq_true, decide_true, decide_false, Bool.not_true, Bool.not_false, decide_eq_true_eq, eq_self, Int.cast_ofNat_Int, Int.natCast_zero, Int.natCast_one, Nat.reduceLeDiff, Nat.reduceSub, Nat.reduceAdd, Nat.reduceLT, reduceIte, reduceCtorEq, Int.reduceEq, Int.reduceLT, Int.reduceLE, Int.reduceNeg, Int.reduceAdd, Int.reduceSub, Int.reduceMul, Int.reduceNe, Int.reduceBNe, Int.reduceBEq, s_law_1_6, it_sp, wipe_nil, wipe_cons, hc, e1, hb, rep_l, rep0]
    rfl
theorem sz_hull (hp : Q p) (hq : Q q) : callK G (k + 15) i__law_hull [.lst ((szL p q).map fr)] S = some (spH (szS p q), S) := by
  unfold szL szS
  have h0 : Sm 4000 0 := ⟨by decide +kernel, by decide +kernel⟩
  by_cases c : p ≤ 0 ∧ 0 ≤ q
  · rw [if_pos c, if_pos c]
    have := lhull_ok (k := k + 13) (S := S) (x := p.abs) (xs := [q.abs, 0]) (by
      intro z hz
      simp only [List.mem_cons, List.not_mem_nil, or_false] at hz
      rcases hz with rfl | rfl | rfl
      · exact (Q4 hp).abs
      · exact (Q4 hq).abs
      · exact h0)
    rw [← hull_self, size_zero c.1 c.2] at this
    exact this
  · rw [if_neg c, if_neg c]
    exact lhull_ok (k := k + 13) (S := S) (x := p.abs) (xs := [q.abs]) (by
      intro z hz
      simp only [List.mem_cons, List.not_mem_nil, or_false] at hz
      rcases hz with rfl | rfl
      · exact (Q4 hp).abs
      · exact (Q4 hq).abs)
theorem szS2 : (szS p q).2 = hi2 p.abs q.abs := by
  unfold szS
  split
  · rfl
  · rfl
theorem idx_H0 {x : Rat × Rat} : idxD S (spH x) (.int 0) = some (fr x.1) := at_0
theorem idx_H1 {x : Rat × Rat} : idxD S (spH x) (.int 1) = some (fr x.2) := at_1
theorem st7 (hp : Q p) (hq : Q q) : evS G (callK G (k + 15)) s_law_1_7 [x0, x1, x2, some (sp p q), x4, x5, x6, x7, x8, x9, x10, x11, x12, some (.lst ((szL p q).map fr)), x14, x15, x16, x17, x18, x19, x20, x21] S = some (.nx [x0, x1, x2, some (sp p q), x4, x5, x6, x7, x8, x9, x10, x11, x12, some (.lst ((szL p q).map fr)), x14, x15, x16, x17, x18, x19, x20, x21], S) := by
  simp only [E1, E2, E3, E4, E5, E6, E7, E8, E9, List.map_cons, List.map_nil, List.cons_append, List.nil_append, List.append_nil, List.length_cons, List.length_nil, List.replicate_zero, List.replicate_succ, Nat.sub_self, Nat.zero_add, List.getElem?_cons_zero, List.getElem?_cons_succ, List.set_cons_zero, List.set_cons_succ, if_true, if_false, Bool.false_eq_true, decide_true, decide_false, Bool.not_true, Bool.not_false, decide_eq_true_eq, eq_self, Int.cast_ofNat_Int, Int.natCast_zero, Int.natCast_one, Nat.reduceLeDiff, Nat.reduceSub, Nat.reduceAdd, Nat.reduceLT, reduceIte, reduceCtorEq, Int.reduceEq, Int.reduceLT, Int.reduceLE, Int.reduceNeg, Int.reduceAdd, Int.reduceSub, Int.reduceMul, Int.reduceNe, Int.reduceBNe, Int.reduceBEq, s_law_1_7, size_span_ok (Q4 hp) (Q4 hq), sz_hull hp hq, same_spH, most_size_ok (Q4 hp) (Q4 hq), idx_H0, idx_H1, szS2, same_fr, least_size_ok (Q4 hp) (Q4 hq)]
theorem st8 (hp : Q p) (hq : Q q) : evS G (callK G (k + 15)) s_law_1_8 [x0, x1, x2, some (sp p q), x4, x5, x6, x7, x8, x9, x10, x11, x12, x13, x14, x15, x16, x17, x18, x19, x20, x21] S = some (.nx [x0, x1, x2, some (sp p q), x4, x5, x6, x7, x8, x9, x10, x11, x12, x13, x14, x15, x16, x17, x18, x19, x20, x21], S) := by
  simp only [E1, E2, E3, E4, E5, E6, E7, E8, E9, List.map_cons, List.map_nil, List.cons_append, List.nil_append, List.append_nil, List.length_cons, List.length_nil, List.replicate_zero, List.replicate_succ, Nat.sub_self, Nat.zero_add, List.getElem?_cons_zero, List.getElem?_cons_succ, List.set_cons_zero, List.set_cons_succ, if_true, if_false, Bool.false_eq_true, decide_true, decide_false, Bool.not_true, Bool.not_false, decide_eq_true_eq, eq_self, Int.cast_ofNat_Int, Int.natCast_zero, Int.natCast_one, Nat.reduceLeDiff, Nat.reduceSub, Nat.reduceAdd, Nat.reduceLT, reduceIte, reduceCtorEq, Int.reduceEq, Int.reduceLT, Int.reduceLE, Int.reduceNeg, Int.reduceAdd, Int.reduceSub, Int.reduceMul, Int.reduceNe, Int.reduceBNe, Int.reduceBEq, s_law_1_8, step_negate, negated_span_ok, same_sp, step_size (Q4 hp) (Q4 hq), size_span_ok (Q4 hp) (Q4 hq), same_spH, step_none, isnt_non]
theorem st9 (hp : Q p) (hq : Q q) (hr : Q r) (hs : Q s) : evS G (callK G (k + 15)) s_law_1_9 [x0, x1, x2, some (sp p q), some (sp r s), x5, x6, x7, x8, x9, x10, x11, x12, x13, x14, x15, x16, x17, x18, x19, x20, x21] S = some (.nx [x0, x1, x2, some (sp p q), some (sp r s), x5, x6, x7, x8, x9, x10, x11, x12, x13, x14, x15, x16, x17, x18, x19, x20, x21], S) := by
  obtain ⟨h1, h2⟩ := hull4_sm hp hq hr hs
  simp only [E1, E2, E3, E4, E5, E6, E7, E8, E9, List.map_cons, List.map_nil, List.cons_append, List.nil_append, List.append_nil, List.length_cons, List.length_nil, List.replicate_zero, List.replicate_succ, Nat.sub_self, Nat.zero_add, List.getElem?_cons_zero, List.getElem?_cons_succ, List.set_cons_zero, List.set_cons_succ, if_true, if_false, Bool.false_eq_true, decide_true, decide_false, Bool.not_true, Bool.not_false, decide_eq_true_eq, eq_self, Int.cast_ofNat_Int, Int.natCast_zero, Int.natCast_one, Nat.reduceLeDiff, Nat.reduceSub, Nat.reduceAdd, Nat.reduceLT, reduceIte, reduceCtorEq, Int.reduceEq, Int.reduceLT, Int.reduceLE, Int.reduceNeg, Int.reduceAdd, Int.reduceSub, Int.reduceMul, Int.reduceNe, Int.reduceBNe, Int.reduceBEq, s_law_1_9, step_joined hp hq hr hs, times_spans_ok (Q2 hp) (Q2 hq) (Q2 hr) (Q2 hs), spH, added_spans_ok (S4 h1) (S4 h2) (Q4 hp) (Q4 hq), same_sp]
theorem hull_two (hpq : p ≤ q) (hrs : r ≤ s) : hullF p [q, r, s] = (lo2 p r, hi2 q s) := by
  refine hull_eq ?_ ?_ ?_
  · intro y hy
    simp only [List.mem_cons, List.not_mem_nil, or_false] at hy
    unfold lo2 hi2
    rcases hy with rfl | rfl | rfl | rfl <;> grind
  · unfold lo2
    split <;> simp
  · unfold hi2
    split <;> simp
theorem st10 (hp : Q p) (hq : Q q) (hr : Q r) (hs : Q s) (hpq : p ≤ q) (hrs : r ≤ s) : evS G (callK G (k + 15)) s_law_1_10 [x0, x1, x2, some (sp p q), some (sp r s), x5, x6, x7, x8, x9, x10, x11, x12, x13, x14, x15, x16, x17, x18, x19, x20, x21] S = some (.nx [x0, x1, x2, some (sp p q), some (sp r s), x5, x6, x7, x8, x9, x10, x11, x12, x13, x14, x15, x16, x17, x18, x19, x20, x21], S) := by
  have e1 := lhull_ok (k := k + 13) (S := S) (x := p) (xs := [q, r, s]) (by
    intro z hz
    simp only [List.mem_cons, List.not_mem_nil, or_false] at hz
    rcases hz with rfl | rfl | rfl | rfl
    · exact Q4 hp
    · exact Q4 hq
    · exact Q4 hr
    · exact Q4 hs)
  simp only [List.map_cons, List.map_nil] at e1
  rw [hull_two hpq hrs] at e1
  simp only [E1, E2, E3, E4, E5, E6, E7, E8, E9, List.map_cons, List.map_nil, List.cons_append, List.nil_append, List.append_nil, List.length_cons, List.length_nil, List.replicate_zero, List.replicate_succ, Nat.sub_self, Nat.zero_add, List.getElem?_cons_zero, List.getElem?_cons_succ, List.set_cons_zero, List.set_cons_succ, if_true, if_false, Bool.false_eq_true, decide_true, decide_false, Bool.not_true, Bool.not_false, decide_eq_true_eq, eq_self, Int.cast_ofNat_Int, Int.natCast_zero, Int.natCast_one, Nat.reduceLeDiff, Nat.reduceSub, Nat.reduceAdd, Nat.reduceLT, reduceIte, reduceCtorEq, Int.reduceEq, Int.reduceLT, Int.reduceLE, Int.reduceNeg, Int.reduceAdd, Int.reduceSub, Int.reduceMul, Int.reduceNe, Int.reduceBNe, Int.reduceBEq, s_law_1_10, hull_ok (Q4 hp) (Q4 hq) (Q4 hr) (Q4 hs), lst_sp, e1, spH, same_sp]
theorem st11 (hp : Q p) (hq : Q q) (hr : Q r) (hs : Q s) : evS G (callK G (k + 15)) s_law_1_11 [x0, x1, x2, some (sp p q), some (sp r s), x5, x6, x7, x8, x9, x10, x11, x12, x13, x14, x15, x16, x17, x18, x19, x20, x21] S = some (.nx [x0, x1, x2, some (sp p q), some (sp r s), x5, x6, x7, x8, x9, x10, x11, x12, x13, x14, x15, x16, x17, x18, x19, x20, x21], S) := by
  have hz : ∀ z ∈ [q, r, p], Sm 4000 z := by
    intro z hz
    simp only [List.mem_cons, List.not_mem_nil, or_false] at hz
    rcases hz with rfl | rfl | rfl
    · exact Q4 hq
    · exact Q4 hr
    · exact Q4 hp
  have e1 := lhull_ok (k := k + 13) (S := S) hz
  have e2 := hull_of_ok (k := k + 12) (S := S) hz
  simp only [List.map_cons, List.map_nil] at e1 e2
  simp only [E1, E2, E3, E4, E5, E6, E7, E8, E9, List.map_cons, List.map_nil, List.cons_append, List.nil_append, List.append_nil, List.length_cons, List.length_nil, List.replicate_zero, List.replicate_succ, Nat.sub_self, Nat.zero_add, List.getElem?_cons_zero, List.getElem?_cons_succ, List.set_cons_zero, List.set_cons_succ, if_true, if_false, Bool.false_eq_true, decide_true, decide_false, Bool.not_true, Bool.not_false, decide_eq_true_eq, eq_self, Int.cast_ofNat_Int, Int.natCast_zero, Int.natCast_one, Nat.reduceLeDiff, Nat.reduceSub, Nat.reduceAdd, Nat.reduceLT, reduceIte, reduceCtorEq, Int.reduceEq, Int.reduceLT, Int.reduceLE, Int.reduceNeg, Int.reduceAdd, Int.reduceSub, Int.reduceMul, Int.reduceNe, Int.reduceBNe, Int.reduceBEq, s_law_1_11, idx_sp0, idx_sp1, e1, e2, same_spH, point_ok, sp_mk, same_sp]
theorem not_lt {x y : Rat} : (!decide (x < y)) = decide (y ≤ x) := by
  rw [← decide_not, decide_eq_decide, Rat.not_lt]
def insd (p q r s : Rat) : Bool := decide (r ≤ p) && decide (q ≤ s)
theorem st12 (hp : Q p) (hq : Q q) (hr : Q r) (hs : Q s) : evS G (callK G (k + 15)) s_law_1_12 [x0, x1, x2, some (sp p q), some (sp r s), x5, x6, x7, x8, x9, x10, x11, x12, x13, x14, x15, x16, x17, x18, x19, x20, x21] S = some (.nx [x0, x1, x2, some (sp p q), some (sp r s), x5, x6, x7, x8, x9, x10, x11, x12, x13, some (.bl (insd p q r s)), x15, x16, x17, x18, x19, x20, x21], S) := by
  unfold insd
  by_cases c : r ≤ p
  · have c' : ¬ p < r := by grind
    simp only [E1, E2, E3, E4, E5, E6, E7, E8, E9, List.map_cons, List.map_nil, List.cons_append, List.nil_append, List.append_nil, List.length_cons, List.length_nil, List.replicate_zero, List.replicate_succ, Nat.sub_self, Nat.zero_add, List.getElem?_cons_zero, List.getElem?_cons_succ, List.set_cons_zero, List.set_cons_succ, if_true, if_false, Bool.false_eq_true, decide_true, decide_false, Bool.not_true, Bool.not_false, decide_eq_true_eq, eq_self, Int.cast_ofNat_Int, Int.natCast_zero, Int.natCast_one, Nat.reduceLeDiff, Nat.reduceSub, Nat.reduceAdd, Nat.reduceLT, reduceIte, reduceCtorEq, Int.reduceEq, Int.reduceLT, Int.reduceLE, Int.reduceNeg, Int.reduceAdd, Int.reduceSub, Int.reduceMul, Int.reduceNe, Int.reduceBNe, Int.reduceBEq, s_law_1_12, idx_sp0, idx_sp1, lless (Q4 hp) (Q4 hr), lless (Q4 hs) (Q4 hq), c, c', not_lt, Bool.true_and]
  · have c' : p < r := by grind
    simp only [E1, E2, E3, E4, E5, E6, E7, E8, E9, List.map_cons, List.map_nil, List.cons_append, List.nil_append, List.append_nil, List.length_cons, List.length_nil, List.replicate_zero, List.replicate_succ, Nat.sub_self, Nat.zero_add, List.getElem?_cons_zero, List.getElem?_cons_succ, List.set_cons_zero, List.set_cons_succ, if_true, if_false, Bool.false_eq_true, decide_true, decide_false, Bool.not_true, Bool.not_false, decide_eq_true_eq, eq_self, Int.cast_ofNat_Int, Int.natCast_zero, Int.natCast_one, Nat.reduceLeDiff, Nat.reduceSub, Nat.reduceAdd, Nat.reduceLT, reduceIte, reduceCtorEq, Int.reduceEq, Int.reduceLT, Int.reduceLE, Int.reduceNeg, Int.reduceAdd, Int.reduceSub, Int.reduceMul, Int.reduceNe, Int.reduceBNe, Int.reduceBEq, s_law_1_12, idx_sp0, idx_sp1, lless (Q4 hp) (Q4 hr), lless (Q4 hs) (Q4 hq), c, c', Bool.false_and]
theorem st13 (hp : Q p) (hq : Q q) (hr : Q r) (hs : Q s) : evS G (callK G (k + 15)) s_law_1_13 [x0, x1, x2, some (sp p q), some (sp r s), x5, x6, x7, x8, x9, x10, x11, x12, x13, some (.bl (insd p q r s)), x15, x16, x17, x18, x19, x20, x21] S = some (.nx [x0, x1, x2, some (sp p q), some (sp r s), x5, x6, x7, x8, x9, x10, x11, x12, x13, some (.bl (insd p q r s)), x15, x16, x17, x18, x19, x20, x21], S) := by
  have e1 : callK G (k + 15) i_is_inside [sp p q, sp r s] S = some (.bl (insd p q r s), S) := is_inside_ok (k := k + 13) (Q4 hp) (Q4 hq) (Q4 hr) (Q4 hs)
  by_cases c : p ≤ r
  · have c' : ¬ r < p := by grind
    simp only [E1, E2, E3, E4, E5, E6, E7, E8, E9, List.map_cons, List.map_nil, List.cons_append, List.nil_append, List.append_nil, List.length_cons, List.length_nil, List.replicate_zero, List.replicate_succ, Nat.sub_self, Nat.zero_add, List.getElem?_cons_zero, List.getElem?_cons_succ, List.set_cons_zero, List.set_cons_succ, if_true, if_false, Bool.false_eq_true, decide_true, decide_false, Bool.not_true, Bool.not_false, decide_eq_true_eq, eq_self, Int.cast_ofNat_Int, Int.natCast_zero, Int.natCast_one, Nat.reduceLeDiff, Nat.reduceSub, Nat.reduceAdd, Nat.reduceLT, reduceIte, reduceCtorEq, Int.reduceEq, Int.reduceLT, Int.reduceLE, Int.reduceNeg, Int.reduceAdd, Int.reduceSub, Int.reduceMul, Int.reduceNe, Int.reduceBNe, Int.reduceBEq, s_law_1_13, idx_sp0, idx_sp1, e1, same_bl, is_in_ok (Q4 hp) (Q4 hq) (Q4 hr), lless (Q4 hr) (Q4 hp), lless (Q4 hq) (Q4 hr), c, c', not_lt, Bool.true_and]
  · have c' : r < p := by grind
    simp only [E1, E2, E3, E4, E5, E6, E7, E8, E9, List.map_cons, List.map_nil, List.cons_append, List.nil_append, List.append_nil, List.length_cons, List.length_nil, List.replicate_zero, List.replicate_succ, Nat.sub_self, Nat.zero_add, List.getElem?_cons_zero, List.getElem?_cons_succ, List.set_cons_zero, List.set_cons_succ, if_true, if_false, Bool.false_eq_true, decide_true, decide_false, Bool.not_true, Bool.not_false, decide_eq_true_eq, eq_self, Int.cast_ofNat_Int, Int.natCast_zero, Int.natCast_one, Nat.reduceLeDiff, Nat.reduceSub, Nat.reduceAdd, Nat.reduceLT, reduceIte, reduceCtorEq, Int.reduceEq, Int.reduceLT, Int.reduceLE, Int.reduceNeg, Int.reduceAdd, Int.reduceSub, Int.reduceMul, Int.reduceNe, Int.reduceBNe, Int.reduceBEq, s_law_1_13, idx_sp0, idx_sp1, e1, same_bl, is_in_ok (Q4 hp) (Q4 hq) (Q4 hr), lless (Q4 hr) (Q4 hp), lless (Q4 hq) (Q4 hr), c, c', Bool.false_and]
theorem Q60 (h : Q p) : Sm 60 p := Sm.mono h (by decide)
theorem st14 (hp : Q p) (hq : Q q) : evS G (callK G (k + 15)) s_law_1_14 [x0, x1, x2, some (sp p q), x4, x5, x6, x7, x8, x9, x10, x11, x12, x13, x14, x15, x16, x17, x18, x19, x20, x21] S = some (.nx [x0, x1, x2, some (sp p q), x4, x5, x6, x7, x8, x9, x10, x11, x12, x13, x14, some (fr (q - p)), x16, x17, x18, x19, x20, x21], S) := by
  simp only [E1, E2, E3, E4, E5, E6, E7, E8, E9, List.map_cons, List.map_nil, List.cons_append, List.nil_append, List.append_nil, List.length_cons, List.length_nil, List.replicate_zero, List.replicate_succ, Nat.sub_self, Nat.zero_add, List.getElem?_cons_zero, List.getElem?_cons_succ, List.set_cons_zero, List.set_cons_succ, if_true, if_false, Bool.false_eq_true, decide_true, decide_false, Bool.not_true, Bool.not_false, decide_eq_true_eq, eq_self, Int.cast_ofNat_Int, Int.natCast_zero, Int.natCast_one, Nat.reduceLeDiff, Nat.reduceSub, Nat.reduceAdd, Nat.reduceLT, reduceIte, reduceCtorEq, Int.reduceEq, Int.reduceLT, Int.reduceLE, Int.reduceNeg, Int.reduceAdd, Int.reduceSub, Int.reduceMul, Int.reduceNe, Int.reduceBNe, Int.reduceBEq, s_law_1_14, idx_sp0, idx_sp1, idx_fr0, idx_fr1, sum2m (Q60 hq) (Q60 hp)]
theorem half_of (h : Sm 60 p) : callK G (k + 15) i__law_least [.int p.num, .int ((p.den : Int) * 2)] S = some (fr (p * (1 / 2)), S) := by
  have h1 : (1 / 2 : Rat).num = 1 := by decide +kernel
  have h2 : (1 / 2 : Rat).den = 2 := by decide +kernel
  have := least_mul (k := k + 14) (S := S) (S4 h) (q := 1 / 2) (sm_half.mono (by decide))
  rw [h1, h2, Int.mul_one] at this
  exact this
theorem st15 (hp : Q p) (hq : Q q) : evS G (callK G (k + 15)) s_law_1_15 [x0, x1, x2, some (sp p q), x4, x5, x6, x7, x8, x9, x10, x11, x12, x13, x14, some (fr (q - p)), x16, x17, x18, x19, x20, x21] S = some (.nx [x0, x1, x2, some (sp p q), x4, x5, x6, x7, x8, x9, x10, x11, x12, x13, x14, some (fr (q - p)), some (fr (mid p q)), x17, x18, x19, x20, x21], S) := by
  have b2 : Bd 2 2 := by show (2 : Nat) < 2 ^ 2; decide
  have hw : Sm 25 (q - p) := Sm.sub hq hp
  have o := (S4 (hw.mono (by decide))).dn.mulOk b2 (by decide)
  have e1 := half_of (k := k) (S := S) (p := q - p) (hw.mono (by decide))
  have e2 := sum2 (k := k + 13) (S := S) (p := p) (q := (q - p) * (1 / 2)) (Q60 hp) ((hw.mul sm_half).mono (by decide))
  rw [show p + (q - p) * (1 / 2) = mid p q by unfold mid; grind] at e2
  simp only [E1, E2, E3, E4, E5, E6, E7, E8, E9, List.map_cons, List.map_nil, List.cons_append, List.nil_append, List.append_nil, List.length_cons, List.length_nil, List.replicate_zero, List.replicate_succ, Nat.sub_self, Nat.zero_add, List.getElem?_cons_zero, List.getElem?_cons_succ, List.set_cons_zero, List.set_cons_succ, if_true, if_false, Bool.false_eq_true, decide_true, decide_false, Bool.not_true, Bool.not_false, decide_eq_true_eq, eq_self, Int.cast_ofNat_Int, Int.natCast_zero, Int.natCast_one, Nat.reduceLeDiff, Nat.reduceSub, Nat.reduceAdd, Nat.reduceLT, reduceIte, reduceCtorEq, Int.reduceEq, Int.reduceLT, Int.reduceLE, Int.reduceNeg, Int.reduceAdd, Int.reduceSub, Int.reduceMul, Int.reduceNe, Int.reduceBNe, Int.reduceBEq, s_law_1_15, idx_sp0, idx_fr0, idx_fr1, o, e1, e2]
theorem st16 (hp : Q p) (hq : Q q) : evS G (callK G (k + 15)) s_law_1_16 [x0, x1, x2, some (sp p q), x4, x5, x6, x7, x8, x9, x10, x11, x12, x13, x14, some (fr (q - p)), some (fr (mid p q)), x17, x18, x19, x20, x21] S = some (.nx [x0, x1, x2, some (sp p q), x4, x5, x6, x7, x8, x9, x10, x11, x12, x13, x14, some (fr (q - p)), some (fr (mid p q)), x17, x18, x19, x20, x21], S) := by
  simp only [E1, E2, E3, E4, E5, E6, E7, E8, E9, List.map_cons, List.map_nil, List.cons_append, List.nil_append, List.append_nil, List.length_cons, List.length_nil, List.replicate_zero, List.replicate_succ, Nat.sub_self, Nat.zero_add, List.getElem?_cons_zero, List.getElem?_cons_succ, List.set_cons_zero, List.set_cons_succ, if_true, if_false, Bool.false_eq_true, decide_true, decide_false, Bool.not_true, Bool.not_false, decide_eq_true_eq, eq_self, Int.cast_ofNat_Int, Int.natCast_zero, Int.natCast_one, Nat.reduceLeDiff, Nat.reduceSub, Nat.reduceAdd, Nat.reduceLT, reduceIte, reduceCtorEq, Int.reduceEq, Int.reduceLT, Int.reduceLE, Int.reduceNeg, Int.reduceAdd, Int.reduceSub, Int.reduceMul, Int.reduceNe, Int.reduceBNe, Int.reduceBEq, s_law_1_16, width_ok (Q4 hp) (Q4 hq), middle_ok (Q1 hp) (Q1 hq), halves_ok (Q1 hp) (Q1 hq), same_fr, idx_sp0, idx_sp1, sp_mk, same_sp2]
theorem off_ok (hL : IntL L) (ha : 0 ≤ a) : ∃ o, Q o ∧ ∀ {x0 x2 x3 x4 x5 x6 x7 x8 x9 x10 x11 x12 x13 x14 x15 x16 x17 x18 x19 x20 x21 : Option D}, evS G (callK G (k + 15)) s_law_1_17 [x0, some (.ref 0), x2, x3, x4, x5, x6, x7, x8, x9, x10, x11, x12, x13, x14, x15, x16, x17, x18, x19, x20, x21] (wC L a :: T) = some (.nx [x0, some (.ref 0), x2, x3, x4, x5, x6, x7, x8, x9, x10, x11, x12, x13, x14, x15, x16, some (fr o), x18, x19, x20, x21], wC L (a + 1) :: T) := by
  obtain ⟨v1, h1, h2, h3⟩ := next_ok (k := k + 14) (T := T) (m := 5) hL (by decide) ha
  refine ⟨Rat.divInt v1 2, ⟨Nat.lt_of_le_of_lt num_le (by omega), Nat.lt_of_le_of_lt (den_le (by omega)) (by decide)⟩, ?_⟩
  intros
  have l1 := fun S => least_ok (k := k + 14) (S := S) (u := v1) (l := 2) (by omega) (show (2 : Nat) < 2 ^ 8999 from Nat.lt_of_lt_of_le (show 2 < 2 ^ 4 by decide) (Nat.pow_le_pow_right (by decide) (by decide)))
  simp only [E1, E2, E3, E4, E5, E6, E7, E8, E9, List.map_cons, List.map_nil, List.cons_append, List.nil_append, List.append_nil, List.length_cons, List.length_nil, List.replicate_zero, List.replicate_succ, Nat.sub_self, Nat.zero_add, List.getElem?_cons_zero, List.getElem?_cons_succ, List.set_cons_zero, List.set_cons_succ, if_true, if_false, Bool.false_eq_true, decide_true, decide_false, Bool.not_true, Bool.not_false, decide_eq_true_eq, eq_self, Int.cast_ofNat_Int, Int.natCast_zero, Int.natCast_one, Nat.reduceLeDiff, Nat.reduceSub, Nat.reduceAdd, Nat.reduceLT, reduceIte, reduceCtorEq, Int.reduceEq, Int.reduceLT, Int.reduceLE, Int.reduceNeg, Int.reduceAdd, Int.reduceSub, Int.reduceMul, Int.reduceNe, Int.reduceBNe, Int.reduceBEq, s_law_1_17, h3, l1]
theorem st18 (hp : Q p) (hq : Q q) (ho : Q o) : evS G (callK G (k + 15)) s_law_1_18 [x0, x1, x2, some (sp p q), x4, x5, x6, x7, x8, x9, x10, x11, x12, x13, x14, x15, x16, some (fr o), x18, x19, x20, x21] S = some (.nx [x0, x1, x2, some (sp p q), x4, x5, x6, x7, x8, x9, x10, x11, x12, x13, x14, x15, x16, some (fr o), x18, x19, x20, x21], S) := by
  simp only [E1, E2, E3, E4, E5, E6, E7, E8, E9, List.map_cons, List.map_nil, List.cons_append, List.nil_append, List.append_nil, List.length_cons, List.length_nil, List.replicate_zero, List.replicate_succ, Nat.sub_self, Nat.zero_add, List.getElem?_cons_zero, List.getElem?_cons_succ, List.set_cons_zero, List.set_cons_succ, if_true, if_false, Bool.false_eq_true, decide_true, decide_false, Bool.not_true, Bool.not_false, decide_eq_true_eq, eq_self, Int.cast_ofNat_Int, Int.natCast_zero, Int.natCast_one, Nat.reduceLeDiff, Nat.reduceSub, Nat.reduceAdd, Nat.reduceLT, reduceIte, reduceCtorEq, Int.reduceEq, Int.reduceLT, Int.reduceLE, Int.reduceNeg, Int.reduceAdd, Int.reduceSub, Int.reduceMul, Int.reduceNe, Int.reduceBNe, Int.reduceBEq, s_law_1_18, widened_ok (Q4 hp) (Q4 hq) (Q4 ho), idx_sp0, idx_sp1, idx_fr0, idx_fr1, sum2m (Q60 hp) (Q60 ho), sum2 (Q60 hq) (Q60 ho), sp_mk, same_sp]
/-- sure comparisons -/
def BL (f : Rat × Rat → Bool) (p q r s : Rat) : List D := (pts p q r s).map fun x => .bl (f x)
theorem in_bl {f : Rat × Rat → Bool} {b : Bool} : cmpD S .NotIn (.bl b) (.lst (BL f p q r s)) = some (!(pts p q r s).any fun x => f x == b) := by
  rw [inN', in_l (n := 0) (m := 1) rfl (by decide) (okD_lst (okDs_all (by
    intro x hx
    obtain ⟨y, _, rfl⟩ := List.mem_map.mp hx
    rfl)) (le_size (by show 9 ≤ 1000000; decide))) (by decide)]
  unfold BL
  rw [List.any_map]
  congr 2
theorem any_f {f : Rat × Rat → Bool} {c : Prop} [Decidable c] (h : (∀ x ∈ pts p q r s, f x = true) ↔ c) : (!(pts p q r s).any fun x => f x == false) = decide c := by
  by_cases hc : c
  · rw [decide_eq_true hc]
    have := h.mpr hc
    rw [Bool.not_eq_true', List.any_eq_false]
    intro x hx
    rw [this x hx]
    decide
  · rw [decide_eq_false hc]
    rw [Bool.not_eq_false', List.any_eq_true]
    have h2 : ¬ ∀ x ∈ pts p q r s, f x = true := fun g => hc (h.mp g)
    refine Classical.byContradiction fun g => h2 fun x hx => ?_
    cases e : f x with
    | true => rfl
    | false => exact absurd ⟨x, hx, by rw [e]; rfl⟩ g
theorem any_t {f : Rat × Rat → Bool} {c : Prop} [Decidable c] (h : (∀ x ∈ pts p q r s, f x = false) ↔ c) : (!(pts p q r s).any fun x => f x == true) = decide c := by
  by_cases hc : c
  · rw [decide_eq_true hc]
    have := h.mpr hc
    rw [Bool.not_eq_true', List.any_eq_false]
    intro x hx
    rw [this x hx]
    decide
  · rw [decide_eq_false hc]
    rw [Bool.not_eq_false', List.any_eq_true]
    have h2 : ¬ ∀ x ∈ pts p q r s, f x = false := fun g => hc (h.mp g)
    refine Classical.byContradiction fun g => h2 fun x hx => ?_
    cases e : f x with
    | false => rfl
    | true => exact absurd ⟨x, hx, by rw [e]; rfl⟩ g
theorem it_BL {f : Rat × Rat → Bool} : itemsOf S (.lst (BL f p q r s)) = some (BL f p q r s, none) := nrfl rfl
def ltS (p q r s : Rat) : D := if q < r then .bl true else if s ≤ p then .bl false else .non
def leS (p q r s : Rat) : D := if q ≤ r then .bl true else if s < p then .bl false else .non
theorem same_ltS : callK G (k + 1) i__law_same [ltS p q r s, ltS p q r s] S = some (.bl true, S) := by
  unfold ltS
  split
  · exact same_bl
  · split
    · exact same_bl
    · exact same_non
theorem same_leS : callK G (k + 1) i__law_same [leS p q r s, leS p q r s] S = some (.bl true, S) := by
  unfold leS
  split
  · exact same_bl
  · split
    · exact same_bl
    · exact same_non
theorem surely_lt (hp : Q p) (hq : Q q) (hr : Q r) (hs : Q s) : callK G (k + 15) i_is_surely [.str "<", sp p q, sp r s] S = some (ltS p q r s, S) := by
  rw [call_fn g_is_surely rfl]
  unfold ltS
  have e1 := is_less_ok (k := k + 13) (S := S) (Q4 hq) (Q4 hr)
  have e2 := is_less_ok (k := k + 13) (S := S) (Q4 hs) (Q4 hp)
  have e3 := is_most_ok (k := k + 13) (S := S) (Q4 hs) (Q4 hp)
  by_cases c1 : q < r
  · simp only [E1, E2, E3, E4, E5, E6, E7, E8, E9, List.map_cons, List.map_nil, List.cons_append, List.nil_append, List.append_nil, List.length_cons, List.length_nil, List.replicate_zero, List.replicate_succ, Nat.sub_self, Nat.zero_add, List.getElem?_cons_zero, List.getElem?_cons_succ, List.set_cons_zero, List.set_cons_succ, if_true, if_false, Bool.false_eq_true, decide_true, decide_false, Bool.not_true, Bool.not_false, decide_eq_true_eq, eq_self, Int.cast_ofNat_Int, Int.natCast_zero, Int.natCast_one, Nat.reduceLeDiff, Nat.reduceSub, Nat.reduceAdd, Nat.reduceLT, reduceIte, reduceCtorEq, Int.reduceEq, Int.reduceLT, Int.reduceLE, Int.reduceNeg, Int.reduceAdd, Int.reduceSub, Int.reduceMul, Int.reduceNe, Int.reduceBNe, Int.reduceBEq, f_is_surely, idx_sp0, idx_sp1, e1, e2, e3, c1]
  · by_cases c2 : s < p
    · have c3 : s ≤ p := by grind
      simp only [E1, E2, E3, E4, E5, E6, E7, E8, E9, List.map_cons, List.map_nil, List.cons_append, List.nil_append, List.append_nil, List.length_cons, List.length_nil, List.replicate_zero, List.replicate_succ, Nat.sub_self, Nat.zero_add, List.getElem?_cons_zero, List.getElem?_cons_succ, List.set_cons_zero, List.set_cons_succ, if_true, if_false, Bool.false_eq_true, decide_true, decide_false, Bool.not_true, Bool.not_false, decide_eq_true_eq, eq_self, Int.cast_ofNat_Int, Int.natCast_zero, Int.natCast_one, Nat.reduceLeDiff, Nat.reduceSub, Nat.reduceAdd, Nat.reduceLT, reduceIte, reduceCtorEq, Int.reduceEq, Int.reduceLT, Int.reduceLE, Int.reduceNeg, Int.reduceAdd, Int.reduceSub, Int.reduceMul, Int.reduceNe, Int.reduceBNe, Int.reduceBEq, f_is_surely, idx_sp0, idx_sp1, e1, e2, e3, c1, c2, c3, q_lt_le]
    · by_cases c3 : s ≤ p
      · simp only [E1, E2, E3, E4, E5, E6, E7, E8, E9, List.map_cons, List.map_nil, List.cons_append, List.nil_append, List.append_nil, List.length_cons, List.length_nil, List.replicate_zero, List.replicate_succ, Nat.sub_self, Nat.zero_add, List.getElem?_cons_zero, List.getElem?_cons_succ, List.set_cons_zero, List.set_cons_succ, if_true, if_false, Bool.false_eq_true, decide_true, decide_false, Bool.not_true, Bool.not_false, decide_eq_true_eq, eq_self, Int.cast_ofNat_Int, Int.natCast_zero, Int.natCast_one, Nat.reduceLeDiff, Nat.reduceSub, Nat.reduceAdd, Nat.reduceLT, reduceIte, reduceCtorEq, Int.reduceEq, Int.reduceLT, Int.reduceLE, Int.reduceNeg, Int.reduceAdd, Int.reduceSub, Int.reduceMul, Int.reduceNe, Int.reduceBNe, Int.reduceBEq, f_is_surely, idx_sp0, idx_sp1, e1, e2, e3, c1, c2, c3, q_lt_le]
      · simp only [E1, E2, E3, E4, E5, E6, E7, E8, E9, List.map_cons, List.map_nil, List.cons_append, List.nil_append, List.append_nil, List.length_cons, List.length_nil, List.replicate_zero, List.replicate_succ, Nat.sub_self, Nat.zero_add, List.getElem?_cons_zero, List.getElem?_cons_succ, List.set_cons_zero, List.set_cons_succ, if_true, if_false, Bool.false_eq_true, decide_true, decide_false, Bool.not_true, Bool.not_false, decide_eq_true_eq, eq_self, Int.cast_ofNat_Int, Int.natCast_zero, Int.natCast_one, Nat.reduceLeDiff, Nat.reduceSub, Nat.reduceAdd, Nat.reduceLT, reduceIte, reduceCtorEq, Int.reduceEq, Int.reduceLT, Int.reduceLE, Int.reduceNeg, Int.reduceAdd, Int.reduceSub, Int.reduceMul, Int.reduceNe, Int.reduceBNe, Int.reduceBEq, f_is_surely, idx_sp0, idx_sp1, e1, e2, e3, c1, c2, c3, q_lt_le]
theorem surely_le (hp : Q p) (hq : Q q) (hr : Q r) (hs : Q s) : callK G (k + 15) i_is_surely [.str "<=", sp p q, sp r s] S = some (leS p q r s, S) := by
  rw [call_fn g_is_surely rfl]
  unfold leS
  have e1 := is_less_ok (k := k + 13) (S := S) (Q4 hq) (Q4 hr)
  have e2 := is_less_ok (k := k + 13) (S := S) (Q4 hs) (Q4 hp)
  have e3 := is_most_ok (k := k + 13) (S := S) (Q4 hq) (Q4 hr)
  by_cases c1 : q < r
  · have c3 : q ≤ r := by grind
    simp only [E1, E2, E3, E4, E5, E6, E7, E8, E9, List.map_cons, List.map_nil, List.cons_append, List.nil_append, List.append_nil, List.length_cons, List.length_nil, List.replicate_zero, List.replicate_succ, Nat.sub_self, Nat.zero_add, List.getElem?_cons_zero, List.getElem?_cons_succ, List.set_cons_zero, List.set_cons_succ, if_true, if_false, Bool.false_eq_true, decide_true, decide_false, Bool.not_true, Bool.not_false, decide_eq_true_eq, eq_self, Int.cast_ofNat_Int, Int.natCast_zero, Int.natCast_one, Nat.reduceLeDiff, Nat.reduceSub, Nat.reduceAdd, Nat.reduceLT, reduceIte, reduceCtorEq, Int.reduceEq, Int.reduceLT, Int.reduceLE, Int.reduceNeg, Int.reduceAdd, Int.reduceSub, Int.reduceMul, Int.reduceNe, Int.reduceBNe, Int.reduceBEq, f_is_surely, idx_sp0, idx_sp1, e1, e2, e3, c1, c3]
  · by_cases c3 : q ≤ r
    · simp only [E1, E2, E3, E4, E5, E6, E7, E8, E9, List.map_cons, List.map_nil, List.cons_append, List.nil_append, List.append_nil, List.length_cons, List.length_nil, List.replicate_zero, List.replicate_succ, Nat.sub_self, Nat.zero_add, List.getElem?_cons_zero, List.getElem?_cons_succ, List.set_cons_zero, List.set_cons_succ, if_true, if_false, Bool.false_eq_true, decide_true, decide_false, Bool.not_true, Bool.not_false, decide_eq_true_eq, eq_self, Int.cast_ofNat_Int, Int.natCast_zero, Int.natCast_one, Nat.reduceLeDiff, Nat.reduceSub, Nat.reduceAdd, Nat.reduceLT, reduceIte, reduceCtorEq, Int.reduceEq, Int.reduceLT, Int.reduceLE, Int.reduceNeg, Int.reduceAdd, Int.reduceSub, Int.reduceMul, Int.reduceNe, Int.reduceBNe, Int.reduceBEq, f_is_surely, idx_sp0, idx_sp1, e1, e2, e3, c1, c3]
    · by_cases c2 : s < p
      · simp only [E1, E2, E3, E4, E5, E6, E7, E8, E9, List.map_cons, List.map_nil, List.cons_append, List.nil_append, List.append_nil, List.length_cons, List.length_nil, List.replicate_zero, List.replicate_succ, Nat.sub_self, Nat.zero_add, List.getElem?_cons_zero, List.getElem?_cons_succ, List.set_cons_zero, List.set_cons_succ, if_true, if_false, Bool.false_eq_true, decide_true, decide_false, Bool.not_true, Bool.not_false, decide_eq_true_eq, eq_self, Int.cast_ofNat_Int, Int.natCast_zero, Int.natCast_one, Nat.reduceLeDiff, Nat.reduceSub, Nat.reduceAdd, Nat.reduceLT, reduceIte, reduceCtorEq, Int.reduceEq, Int.reduceLT, Int.reduceLE, Int.reduceNeg, Int.reduceAdd, Int.reduceSub, Int.reduceMul, Int.reduceNe, Int.reduceBNe, Int.reduceBEq, f_is_surely, idx_sp0, idx_sp1, e1, e2, e3, c1, c2, c3, q_le_lt]
      · simp only [E1, E2, E3, E4, E5, E6, E7, E8, E9, List.map_cons, List.map_nil, List.cons_append, List.nil_append, List.append_nil, List.length_cons, List.length_nil, List.replicate_zero, List.replicate_succ, Nat.sub_self, Nat.zero_add, List.getElem?_cons_zero, List.getElem?_cons_succ, List.set_cons_zero, List.set_cons_succ, if_true, if_false, Bool.false_eq_true, decide_true, decide_false, Bool.not_true, Bool.not_false, decide_eq_true_eq, eq_self, Int.cast_ofNat_Int, Int.natCast_zero, Int.natCast_one, Nat.reduceLeDiff, Nat.reduceSub, Nat.reduceAdd, Nat.reduceLT, reduceIte, reduceCtorEq, Int.reduceEq, Int.reduceLT, Int.reduceLE, Int.reduceNeg, Int.reduceAdd, Int.reduceSub, Int.reduceMul, Int.reduceNe, Int.reduceBNe, Int.reduceBEq, f_is_surely, idx_sp0, idx_sp1, e1, e2, e3, c1, c2, c3, q_le_lt]
theorem tB_lt (h : Sm 27 u ∧ Sm 27 v) : ctn G (callK G (k + 15)) e_law_10 (.tup (.cons (.name 8) (.cons (.name 20) .nil))) .none [x0, x1, x2, x3, x4, x5, x6, x7, x8, x9, x10, x11, x12, x13, x14, x15, x16, x17, some (.str "<"), x19, x20, x21] (spH (u, v)) S = some (some (.bl ((fun x => decide (x.1 < x.2)) (u, v))), S) := by
  have e1 := lless (k := k + 14) (S := S) (S4 (s27 h.1)) (S4 (s27 h.2))
  unfold ctn spH
  by_cases c : u < v
  · simp only [E1, E2, E3, E4, E5, E6, E7, E8, E9, List.map_cons, List.map_nil, List.cons_append, List.nil_append, List.append_nil, List.length_cons, List.length_nil, List.replicate_zero, List.replicate_succ, Nat.sub_self, Nat.zero_add, List.getElem?_cons_zero, List.getElem?_cons_succ, List.set_cons_zero, List.set_cons_succ, if_true, if_false, Bool.false_eq_true, decide_true, decide_false, Bool.not_true, Bool.not_false, decide_eq_true_eq, eq_self, Int.cast_ofNat_Int, Int.natCast_zero, Int.natCast_one, Nat.reduceLeDiff, Nat.reduceSub, Nat.reduceAdd, Nat.reduceLT, reduceIte, reduceCtorEq, Int.reduceEq, Int.reduceLT, Int.reduceLE, Int.reduceNeg, Int.reduceAdd, Int.reduceSub, Int.reduceMul, Int.reduceNe, Int.reduceBNe, Int.reduceBEq, e_law_10, asg_sp, e1, c]
  · simp only [E1, E2, E3, E4, E5, E6, E7, E8, E9, List.map_cons, List.map_nil, List.cons_append, List.nil_append, List.append_nil, List.length_cons, List.length_nil, List.replicate_zero, List.replicate_succ, Nat.sub_self, Nat.zero_add, List.getElem?_cons_zero, List.getElem?_cons_succ, List.set_cons_zero, List.set_cons_succ, if_true, if_false, Bool.false_eq_true, decide_true, decide_false, Bool.not_true, Bool.not_false, decide_eq_true_eq, eq_self, Int.cast_ofNat_Int, Int.natCast_zero, Int.natCast_one, Nat.reduceLeDiff, Nat.reduceSub, Nat.reduceAdd, Nat.reduceLT, reduceIte, reduceCtorEq, Int.reduceEq, Int.reduceLT, Int.reduceLE, Int.reduceNeg, Int.reduceAdd, Int.reduceSub, Int.reduceMul, Int.reduceNe, Int.reduceBNe, Int.reduceBEq, e_law_10, asg_sp, e1, c, q_lt_le]
theorem b9_lt (hp : Q p) (hq : Q q) (hr : Q r) (hs : Q s) (hpq : p ≤ q) (hrs : r ≤ s) : fbd G (callK G (k + 15)) (.name 18) b_law_9 (.str "<") [x0, x1, x2, some (sp p q), some (sp r s), x5, x6, some (.lst (PT p q r s)), x8, x9, x10, x11, x12, x13, x14, x15, x16, x17, x18, x19, x20, x21] S = some (.nx [x0, x1, x2, some (sp p q), some (sp r s), x5, some (ltS p q r s), some (.lst (PT p q r s)), x8, x9, x10, x11, x12, x13, x14, x15, x16, x17, some (.str "<"), some (.lst (BL (fun x => decide (x.1 < x.2)) p q r s)), x20, x21], S) := by
  have hc : ∀ all, compL none all (ctn G (callK G (k + 15)) e_law_10 (.tup (.cons (.name 8) (.cons (.name 20) .nil))) .none [x0, x1, x2, some (sp p q), some (sp r s), x5, x6, some (.lst (PT p q r s)), none, x9, x10, x11, x12, x13, x14, x15, x16, x17, some (.str "<"), x19, none, x21]) (PT p q r s) S [] = some (BL (fun x => decide (x.1 < x.2)) p q r s, S) := fun all => by
    have := compL_mapT (all := all) (turn := ctn G (callK G (k + 15)) e_law_10 (.tup (.cons (.name 8) (.cons (.name 20) .nil))) .none [x0, x1, x2, some (sp p q), some (sp r s), x5, x6, some (.lst (PT p q r s)), none, x9, x10, x11, x12, x13, x14, x15, x16, x17, some (.str "<"), x19, none, x21]) (S := S) (g := spH) (f := fun x => .bl ((fun x => decide (x.1 < x.2)) x)) (xs := pts p q r s) (acc := []) fun x h => by
      obtain ⟨u, v⟩ := x
      exact tB_lt (pts_sm hp hq hr hs (u, v) h)
    rw [List.nil_append] at this
    exact this
  have n1 : (!(pts p q r s).any fun x => (fun x => decide (x.1 < x.2)) x == false) = decide (q < r) := any_f (by
    rw [← all_lt hpq hrs]
    simp only [decide_eq_true_eq])
  have n2 : (!(pts p q r s).any fun x => (fun x => decide (x.1 < x.2)) x == true) = decide (s ≤ p) := any_t (by
    rw [← no_lt hpq hrs]
    simp only [decide_eq_false_iff_not])
  have i1 := in_bl (S := S) (f := fun x => decide (x.1 < x.2)) (b := false) (p := p) (q := q) (r := r) (s := s)
  have i2 := in_bl (S := S) (f := fun x => decide (x.1 < x.2)) (b := true) (p := p) (q := q) (r := r) (s := s)
  rw [n1] at i1
  rw [n2] at i2
  have e3 := surely_lt (k := k) (S := S) hp hq hr hs
  have e4 := same_ltS (k := k + 14) (S := S) (p := p) (q := q) (r := r) (s := s)
  unfold fbd
  unfold ltS at e3 e4 ⊢
  by_cases c1 : q < r
  · simp only [c1, if_true] at e3 e4 ⊢
    simp only [E1, E2, E3, E4, E5, E6, E7, E8, E9, List.map_cons, List.map_nil, List.cons_append, List.nil_append, List.append_nil, List.length_cons, List.length_nil, List.replicate_zero, List.replicate_succ, Nat.sub_self, Nat.zero_add, List.getElem?_cons_zero, List.getElem?_cons_succ, List.set_cons_zero, List.set_cons_succ, if_true, if_false, Bool.false_eq_true, decide_true, decide_false, Bool.not_true, Bool.not_false, decide_eq_true_eq, eq_self, Int.cast_ofNat_Int, Int.natCast_zero, Int.natCast_one, Nat.reduceLeDiff, Nat.reduceSub, Nat.reduceAdd, Nat.reduceLT, reduceIte, reduceCtorEq, Int.reduceEq, Int.reduceLT, Int.reduceLE, Int.reduceNeg, Int.reduceAdd, Int.reduceSub, Int.reduceMul, Int.reduceNe, Int.reduceBNe, Int.reduceBEq, b_law_9, it_PT, lenP, wipe_nil, wipe_cons, hc, i1, i2, c1, e3, e4]
  · simp only [c1, if_false] at e3 e4 ⊢
    by_cases c2 : s ≤ p
    · simp only [c2, if_true] at e3 e4 ⊢
      simp only [E1, E2, E3, E4, E5, E6, E7, E8, E9, List.map_cons, List.map_nil, List.cons_append, List.nil_append, List.append_nil, List.length_cons, List.length_nil, List.replicate_zero, List.replicate_succ, Nat.sub_self, Nat.zero_add, List.getElem?_cons_zero, List.getElem?_cons_succ, List.set_cons_zero, List.set_cons_succ, if_true, if_false, Bool.false_eq_true, decide_true, decide_false, Bool.not_true, Bool.not_false, decide_eq_true_eq, eq_self, Int.cast_ofNat_Int, Int.natCast_zero, Int.natCast_one, Nat.reduceLeDiff, Nat.reduceSub, Nat.reduceAdd, Nat.reduceLT, reduceIte, reduceCtorEq, Int.reduceEq, Int.reduceLT, Int.reduceLE, Int.reduceNeg, Int.reduceAdd, Int.reduceSub, Int.reduceMul, Int.reduceNe, Int.reduceBNe, Int.reduceBEq, b_law_9, it_PT, lenP, wipe_nil, wipe_cons, hc, i1, i2, c1, c2, e3, e4]
    · simp only [c2, if_false] at e3 e4 ⊢
      simp only [E1, E2, E3, E4, E5, E6, E7, E8, E9, List.map_cons, List.map_nil, List.cons_append, List.nil_append, List.append_nil, List.length_cons, List.length_nil, List.replicate_zero, List.replicate_succ, Nat.sub_self, Nat.zero_add, List.getElem?_cons_zero, List.getElem?_cons_succ, List.set_cons_zero, List.set_cons_succ, if_true, if_false, Bool.false_eq_true, decide_true, decide_false, Bool.not_true, Bool.not_false, decide_eq_true_eq, eq_self, Int.cast_ofNat_Int, Int.natCast_zero, Int.natCast_one, Nat.reduceLeDiff, Nat.reduceSub, Nat.reduceAdd, Nat.reduceLT, reduceIte, reduceCtorEq, Int.reduceEq, Int.reduceLT, Int.reduceLE, Int.reduceNeg, Int.reduceAdd, Int.reduceSub, Int.reduceMul, Int.reduceNe, Int.reduceBNe, Int.reduceBEq, b_law_9, it_PT, lenP, wipe_nil, wipe_cons, hc, i1, i2, c1, c2, e3, e4]
theorem tB_le (h : Sm 27 u ∧ Sm 27 v) : ctn G (callK G (k + 15)) e_law_10 (.tup (.cons (.name 8) (.cons (.name 20) .nil))) .none [x0, x1, x2, x3, x4, x5, x6, x7, x8, x9, x10, x11, x12, x13, x14, x15, x16, x17, some (.str "<="), x19, x20, x21] (spH (u, v)) S = some (some (.bl ((fun x => decide (x.1 ≤ x.2)) (u, v))), S) := by
  have e1 := lless (k := k + 14) (S := S) (S4 (s27 h.1)) (S4 (s27 h.2))
  unfold ctn spH
  by_cases c : u < v
  · have c2 : u ≤ v := by grind
    simp only [E1, E2, E3, E4, E5, E6, E7, E8, E9, List.map_cons, List.map_nil, List.cons_append, List.nil_append, List.append_nil, List.length_cons, List.length_nil, List.replicate_zero, List.replicate_succ, Nat.sub_self, Nat.zero_add, List.getElem?_cons_zero, List.getElem?_cons_succ, List.set_cons_zero, List.set_cons_succ, if_true, if_false, Bool.false_eq_true, decide_true, decide_false, Bool.not_true, Bool.not_false, decide_eq_true_eq, eq_self, Int.cast_ofNat_Int, Int.natCast_zero, Int.natCast_one, Nat.reduceLeDiff, Nat.reduceSub, Nat.reduceAdd, Nat.reduceLT, reduceIte, reduceCtorEq, Int.reduceEq, Int.reduceLT, Int.reduceLE, Int.reduceNeg, Int.reduceAdd, Int.reduceSub, Int.reduceMul, Int.reduceNe, Int.reduceBNe, Int.reduceBEq, e_law_10, asg_sp, e1, c, c2]
  · have c2 : decide (u ≤ v) = decide (u = v) := by rw [decide_eq_decide]; grind
    simp only [E1, E2, E3, E4, E5, E6, E7, E8, E9, List.map_cons, List.map_nil, List.cons_append, List.nil_append, List.append_nil, List.length_cons, List.length_nil, List.replicate_zero, List.replicate_succ, Nat.sub_self, Nat.zero_add, List.getElem?_cons_zero, List.getElem?_cons_succ, List.set_cons_zero, List.set_cons_succ, if_true, if_false, Bool.false_eq_true, decide_true, decide_false, Bool.not_true, Bool.not_false, decide_eq_true_eq, eq_self, Int.cast_ofNat_Int, Int.natCast_zero, Int.natCast_one, Nat.reduceLeDiff, Nat.reduceSub, Nat.reduceAdd, Nat.reduceLT, reduceIte, reduceCtorEq, Int.reduceEq, Int.reduceLT, Int.reduceLE, Int.reduceNeg, Int.reduceAdd, Int.reduceSub, Int.reduceMul, Int.reduceNe, Int.reduceBNe, Int.reduceBEq, e_law_10, asg_sp, e1, c, eq_fr, c2]
theorem b9_le (hp : Q p) (hq : Q q) (hr : Q r) (hs : Q s) (hpq : p ≤ q) (hrs : r ≤ s) : fbd G (callK G (k + 15)) (.name 18) b_law_9 (.str "<=") [x0, x1, x2, some (sp p q), some (sp r s), x5, x6, some (.lst (PT p q r s)), x8, x9, x10, x11, x12, x13, x14, x15, x16, x17, x18, x19, x20, x21] S = some (.nx [x0, x1, x2, some (sp p q), some (sp r s), x5, some (leS p q r s), some (.lst (PT p q r s)), x8, x9, x10, x11, x12, x13, x14, x15, x16, x17, some (.str "<="), some (.lst (BL (fun x => decide (x.1 ≤ x.2)) p q r s)), x20, x21], S) := by
  have hc : ∀ all, compL none all (ctn G (callK G (k + 15)) e_law_10 (.tup (.cons (.name 8) (.cons (.name 20) .nil))) .none [x0, x1, x2, some (sp p q), some (sp r s), x5, x6, some (.lst (PT p q r s)), none, x9, x10, x11, x12, x13, x14, x15, x16, x17, some (.str "<="), x19, none, x21]) (PT p q r s) S [] = some (BL (fun x => decide (x.1 ≤ x.2)) p q r s, S) := fun all => by
    have := compL_mapT (all := all) (turn := ctn G (callK G (k + 15)) e_law_10 (.tup (.cons (.name 8) (.cons (.name 20) .nil))) .none [x0, x1, x2, some (sp p q), some (sp r s), x5, x6, some (.lst (PT p q r s)), none, x9, x10, x11, x12, x13, x14, x15, x16, x17, some (.str "<="), x19, none, x21]) (S := S) (g := spH) (f := fun x => .bl ((fun x => decide (x.1 ≤ x.2)) x)) (xs := pts p q r s) (acc := []) fun x h => by
      obtain ⟨u, v⟩ := x
      exact tB_le (pts_sm hp hq hr hs (u, v) h)
    rw [List.nil_append] at this
    exact this
  have n1 : (!(pts p q r s).any fun x => (fun x => decide (x.1 ≤ x.2)) x == false) = decide (q ≤ r) := any_f (by
    rw [← all_le hpq hrs]
    simp only [decide_eq_true_eq])
  have n2 : (!(pts p q r s).any fun x => (fun x => decide (x.1 ≤ x.2)) x == true) = decide (s < p) := any_t (by
    rw [← no_le hpq hrs]
    simp only [decide_eq_false_iff_not])
  have i1 := in_bl (S := S) (f := fun x => decide (x.1 ≤ x.2)) (b := false) (p := p) (q := q) (r := r) (s := s)
  have i2 := in_bl (S := S) (f := fun x => decide (x.1 ≤ x.2)) (b := true) (p := p) (q := q) (r := r) (s := s)
  rw [n1] at i1
  rw [n2] at i2
  have e3 := surely_le (k := k) (S := S) hp hq hr hs
  have e4 := same_leS (k := k + 14) (S := S) (p := p) (q := q) (r := r) (s := s)
  unfold fbd
  unfold leS at e3 e4 ⊢
  by_cases c1 : q ≤ r
  · simp only [c1, if_true] at e3 e4 ⊢
    simp only [E1, E2, E3, E4, E5, E6, E7, E8, E9, List.map_cons, List.map_nil, List.cons_append, List.nil_append, List.append_nil, List.length_cons, List.length_nil, List.replicate_zero, List.replicate_succ, Nat.sub_self, Nat.zero_add, List.getElem?_cons_zero, List.getElem?_cons_succ, List.set_cons_zero, List.set_cons_succ, if_true, if_false, Bool.false_eq_true, decide_true, decide_false, Bool.not_true, Bool.not_false, decide_eq_true_eq, eq_self, Int.cast_ofNat_Int, Int.natCast_zero, Int.natCast_one, Nat.reduceLeDiff, Nat.reduceSub, Nat.reduceAdd, Nat.reduceLT, reduceIte, reduceCtorEq, Int.reduceEq, Int.reduceLT, Int.reduceLE, Int.reduceNeg, Int.reduceAdd, Int.reduceSub, Int.reduceMul, Int.reduceNe, Int.reduceBNe, Int.reduceBEq, b_law_9, it_PT, lenP, wipe_nil, wipe_cons, hc, i1, i2, c1, e3, e4]
  · simp only [c1, if_false] at e3 e4 ⊢
    by_cases c2 : s < p
    · simp only [c2, if_true] at e3 e4 ⊢
      simp only [E1, E2, E3, E4, E5, E6, E7, E8, E9, List.map_cons, List.map_nil, List.cons_append, List.nil_append, List.append_nil, List.length_cons, List.length_nil, List.replicate_zero, List.replicate_succ, Nat.sub_self, Nat.zero_add, List.getElem?_cons_zero, List.getElem?_cons_succ, List.set_cons_zero, List.set_cons_succ, if_true, if_false, Bool.false_eq_true, decide_true, decide_false, Bool.not_true, Bool.not_false, decide_eq_true_eq, eq_self, Int.cast_ofNat_Int, Int.natCast_zero, Int.natCast_one, Nat.reduceLeDiff, Nat.reduceSub, Nat.reduceAdd, Nat.reduceLT, reduceIte, reduceCtorEq, Int.reduceEq, Int.reduceLT, Int.reduceLE, Int.reduceNeg, Int.reduceAdd, Int.reduceSub, Int.reduceMul, Int.reduceNe, Int.reduceBNe, Int.reduceBEq, b_law_9, it_PT, lenP, wipe_nil, wipe_cons, hc, i1, i2, c1, c2, e3, e4]
    · simp only [c2, if_false] at e3 e4 ⊢
      simp only [E1, E2, E3, E4, E5, E6, E7, E8, E9, List.map_cons, List.map_nil, List.cons_append, List.nil_append, List.append_nil, List.length_cons, List.length_nil, List.replicate_zero, List.replicate_succ, Nat.sub_self, Nat.zero_add, List.getElem?_cons_zero, List.getElem?_cons_succ, List.set_cons_zero, List.set_cons_succ, if_true, if_false, Bool.false_eq_true, decide_true, decide_false, Bool.not_true, Bool.not_false, decide_eq_true_eq, eq_self, Int.cast_ofNat_Int, Int.natCast_zero, Int.natCast_one, Nat.reduceLeDiff, Nat.reduceSub, Nat.reduceAdd, Nat.reduceLT, reduceIte, reduceCtorEq, Int.reduceEq, Int.reduceLT, Int.reduceLE, Int.reduceNeg, Int.reduceAdd, Int.reduceSub, Int.reduceMul, Int.reduceNe, Int.reduceBNe, Int.reduceBEq, b_law_9, it_PT, lenP, wipe_nil, wipe_cons, hc, i1, i2, c1, c2, e3, e4]
theorem st19 (hp : Q p) (hq : Q q) (hr : Q r) (hs : Q s) (hpq : p ≤ q) (hrs : r ≤ s) : evS G (callK G (k + 15)) s_law_1_19 [x0, x1, x2, some (sp p q), some (sp r s), x5, x6, some (.lst (PT p q r s)), x8, x9, x10, x11, x12, x13, x14, x15, x16, x17, x18, x19, x20, x21] S = some (.nx [x0, x1, x2, some (sp p q), some (sp r s), x5, some (leS p q r s), some (.lst (PT p q r s)), x8, x9, x10, x11, x12, x13, x14, x15, x16, x17, some (.str "<="), some (.lst (BL (fun x => decide (x.1 ≤ x.2)) p q r s)), x20, x21], S) := by
  have hf : ∀ all, forL none all (fbd G (callK G (k + 15)) (.name 18) b_law_9) [.str "<", .str "<="] [x0, x1, x2, some (sp p q), some (sp r s), x5, x6, some (.lst (PT p q r s)), x8, x9, x10, x11, x12, x13, x14, x15, x16, x17, x18, x19, x20, x21] S = some (.nx [x0, x1, x2, some (sp p q), some (sp r s), x5, some (leS p q r s), some (.lst (PT p q r s)), x8, x9, x10, x11, x12, x13, x14, x15, x16, x17, some (.str "<="), some (.lst (BL (fun x => decide (x.1 ≤ x.2)) p q r s)), x20, x21], S) := fun all => by
    rw [forL_cons (b9_lt hp hq hr hs hpq hrs), forL_cons (b9_le hp hq hr hs hpq hrs), forL_nil]
  simp only [E1, E2, E3, E4, E5, E6, E7, E8, E9, List.map_cons, List.map_nil, List.cons_append, List.nil_append, List.append_nil, List.length_cons, List.length_nil, List.replicate_zero, List.replicate_succ, Nat.sub_self, Nat.zero_add, List.getElem?_cons_zero, List.getElem?_cons_succ, List.set_cons_zero, List.set_cons_succ, if_true, if_false, Bool.false_eq_true, decide_true, decide_false, Bool.not_true, Bool.not_false, decide_eq_true_eq, eq_self, Int.cast_ofNat_Int, Int.natCast_zero, Int.natCast_one, Nat.reduceLeDiff, Nat.reduceSub, Nat.reduceAdd, Nat.reduceLT, reduceIte, reduceCtorEq, Int.reduceEq, Int.reduceLT, Int.reduceLE, Int.reduceNeg, Int.reduceAdd, Int.reduceSub, Int.reduceMul, Int.reduceNe, Int.reduceBNe, Int.reduceBEq, s_law_1_19, hf]
theorem turn_ok (hL : IntL L) (ha : 0 ≤ a) : ∃ (y0 y1 y2 y3 y4 y5 y6 y7 y8 y9 y10 y11 y12 y13 y14 y15 y16 y17 y18 y19 y20 y21 : Option D) (b : Int), 0 ≤ b ∧ evSs G (callK G (k + 15)) b_law_0 [x0, some (.ref 0), x2, x3, x4, x5, x6, x7, x8, x9, x10, x11, x12, x13, x14, x15, x16, x17, x18, x19, x20, x21] [wC L a] = some (.nx [y0, some (.ref 0), y2, y3, y4, y5, y6, y7, y8, y9, y10, y11, y12, y13, y14, y15, y16, y17, y18, y19, y20, y21], [wC L b]) := by
  obtain ⟨p, q, hp, hq, hpq, e1⟩ := span_ok (k := k) (T := []) hL ha
  obtain ⟨r, s, hr, hs, hrs, e2⟩ := span_ok (k := k) (T := []) (a := a + 4) hL (by omega)
  obtain ⟨o, ho, e3⟩ := off_ok (k := k) (T := []) (a := a + 4 + 4) hL (by omega)
  refine ⟨x0, none, x2, some (sp p q), some (sp r s), some (.non), some (leS p q r s), some (.lst (PT p q r s)), some (fr (mid p q)), some (.str "most"), some (sp (hi2 p r) (hi2 q s)), some (.bl (zr r s)), some (.lst (VL hi2 p q r s)), some (.lst ((szL p q).map fr)), some (.bl (insd p q r s)), some (fr (q - p)), some (fr (mid p q)), some (fr o), some (.str "<="), some (.lst (BL (fun x => decide (x.1 ≤ x.2)) p q r s)), x20, x21, a + 4 + 4 + 1, by omega, ?_⟩
  unfold b_law_0
  rw [ev_sC, st0 e1 e2, sq_nx, ev_sC, st1 hp hq hpq, sq_nx, ev_sC, st2, sq_nx, ev_sC, st3 hp hq hr hs, sq_nx, ev_sC, st4 hp hq hr hs hpq hrs, sq_nx, ev_sC, st5, sq_nx, ev_sC, st6, sq_nx, ev_sC, st7 hp hq, sq_nx, ev_sC, st8 hp hq, sq_nx, ev_sC, st9 hp hq hr hs, sq_nx,
    ev_sC, st10 hp hq hr hs hpq hrs, sq_nx, ev_sC, st11 hp hq hr hs, sq_nx, ev_sC, st12 hp hq hr hs, sq_nx, ev_sC, st13 hp hq hr hs, sq_nx, ev_sC, st14 hp hq, sq_nx, ev_sC, st15 hp hq, sq_nx, ev_sC, st16 hp hq, sq_nx, ev_sC, e3, sq_nx, ev_sC, st18 hp hq ho, sq_nx, ev_sC, st19 hp hq hr hs hpq hrs, sq_nx, ev_sN]
end
def depth : Nat := 20
theorem law_true (ns : List Int) (hn : ns.length ≤ 63) : ∃ S', callK G depth i_law [.flst (ns.map D.int)] [] = some (.bl true, S') := by
  obtain ⟨L, hd⟩ := draws_ok (k := 18) (S := []) (ns := ns) (m := 130) hn (by decide)
  have hL : IntL (L.map D.int) := fun d h => by
    obtain ⟨x, _, rfl⟩ := List.mem_map.mp h
    exact ⟨x, rfl⟩
  have r5 : rngD [.int 4] = some ((List.range 4).map fun (i : Nat) => D.int (i : Int)) := rng_nat (n := 4) (by decide)
  obtain ⟨ρ, S1, h, hI⟩ := forL_run (all := (List.range 4).map fun (i : Nat) => D.int (i : Int)) (body := fbd G (callK G 19) (.name 2) b_law_0) (xs := (List.range 4).map fun (i : Nat) => D.int (i : Int)) (ρ := [some (.flst (ns.map D.int)), some (.ref 0), none, none, none, none, none, none, none, none, none, none, none, none, none, none, none, none, none, none, none, none]) (S := [wC (L.map D.int) 0])
    (I := fun _ ρ S => ∃ (x0 x1 x2 x3 x4 x5 x6 x7 x8 x9 x10 x11 x12 x13 x14 x15 x16 x17 x18 x19 x20 x21 : Option D) (a : Int), ρ = [x0, some (.ref 0), x2, x3, x4, x5, x6, x7, x8, x9, x10, x11, x12, x13, x14, x15, x16, x17, x18, x19, x20, x21] ∧ S = [wC (L.map D.int) a] ∧ 0 ≤ a)
    (by
      rintro i x ρ S hx ⟨x0, x1, x2, x3, x4, x5, x6, x7, x8, x9, x10, x11, x12, x13, x14, x15, x16, x17, x18, x19, x20, x21, a, rfl, rfl, ha⟩
      obtain ⟨y0, y1, y2, y3, y4, y5, y6, y7, y8, y9, y10, y11, y12, y13, y14, y15, y16, y17, y18, y19, y20, y21, b, hb, e⟩ := turn_ok (k := 4) hL ha (x0 := x0) (x2 := some x) (x3 := x3) (x4 := x4) (x5 := x5) (x6 := x6) (x7 := x7) (x8 := x8) (x9 := x9) (x10 := x10) (x11 := x11) (x12 := x12) (x13 := x13) (x14 := x14) (x15 := x15) (x16 := x16) (x17 := x17) (x18 := x18) (x19 := x19) (x20 := x20) (x21 := x21)
      refine ⟨_, _, ?_, y0, y1, y2, y3, y4, y5, y6, y7, y8, y9, y10, y11, y12, y13, y14, y15, y16, y17, y18, y19, y20, y21, b, rfl, rfl, hb⟩
      unfold fbd
      simp only [E1, E2, E3, E4, E5, E6, E7, E8, E9, List.map_cons, List.map_nil, List.cons_append, List.nil_append, List.append_nil, List.length_cons, List.length_nil, List.replicate_zero, List.replicate_succ, Nat.sub_self, Nat.zero_add, List.getElem?_cons_zero, List.getElem?_cons_succ, List.set_cons_zero, List.set_cons_succ, if_true, if_false, Bool.false_eq_true, decide_true, decide_false, Bool.not_true, Bool.not_false, decide_eq_true_eq, eq_self, Int.cast_ofNat_Int, Int.natCast_zero, Int.natCast_one, Nat.reduceLeDiff, Nat.reduceSub, Nat.reduceAdd, Nat.reduceLT, reduceIte, reduceCtorEq, Int.reduceEq, Int.reduceLT, Int.reduceLE, Int.reduceNeg, Int.reduceAdd, Int.reduceSub, Int.reduceMul, Int.reduceNe, Int.reduceBNe, Int.reduceBEq, e])
    ⟨some (.flst (ns.map D.int)), none, none, none, none, none, none, none, none, none, none, none, none, none, none, none, none, none, none, none, none, none, 0, rfl, rfl, Int.le_refl _⟩
  have hk : keysD [(.str "draws", .lst (L.map D.int)), (.str "at", .int 0)] = some [(.inr "draws", .lst (L.map D.int)), (.inr "at", .int 0)] := rfl
  have hs : ¬ (("draws" : Str) = ("at" : Str)) := by decide +kernel
  have hm : mergeKD [] [((.inr "draws" : Key), D.lst (L.map D.int)), (.inr "at", .int 0)] = [((.inr "draws" : Key), D.lst (L.map D.int)), (.inr "at", .int 0)] := by
    simp [mergeKD, storeK, hs]
  have hw : [Cell.dk [((.inr "draws" : Key), D.lst (L.map D.int)), (.inr "at", .int 0)]] = [wC (L.map D.int) 0] := rfl
  obtain ⟨x0, x1, x2, x3, x4, x5, x6, x7, x8, x9, x10, x11, x12, x13, x14, x15, x16, x17, x18, x19, x20, x21, a, rfl, rfl, ha⟩ := hI
  have hp : prune [] (.bl true) [wC (L.map D.int) a] = (.bl true, []) := prune_new (S := []) rfl
  refine ⟨[], ?_⟩
  unfold depth
  rw [call_fn g_law rfl]
  have hd' : callK G 19 i__law_draws [.flst (ns.map D.int), .int 130] [] = some (.lst (L.map D.int), []) := hd
  have hr : (2 : Nat) ≤ 15 := by decide
  simp only [E1, E2, E3, E4, E5, E6, E7, E8, E9, List.map_cons, List.map_nil, List.cons_append, List.nil_append, List.append_nil, List.length_cons, List.length_nil, List.replicate_zero, List.replicate_succ, Nat.sub_self, Nat.zero_add, List.getElem?_cons_zero, List.getElem?_cons_succ, List.set_cons_zero, List.set_cons_succ, if_true, if_false, Bool.false_eq_true, decide_true, decide_false, Bool.not_true, Bool.not_false, decide_eq_true_eq, eq_self, Int.cast_ofNat_Int, Int.natCast_zero, Int.natCast_one, Nat.reduceLeDiff, Nat.reduceSub, Nat.reduceAdd, Nat.reduceLT, reduceIte, reduceCtorEq, Int.reduceEq, Int.reduceLT, Int.reduceLE, Int.reduceNeg, Int.reduceAdd, Int.reduceSub, Int.reduceMul, Int.reduceNe, Int.reduceBNe, Int.reduceBEq, f_law, hd', hk, hm, hr, List.nil_append, hw, r5, h, hp]
end Rw.Pk08

namespace Rw.Pk08
open PySem PySem.Spec PyProof.Rows L2 Rw
def top (i : Nat) : Stmt := PySem.Challenge.pw_roundedwithin_k08_spans.main.body.getD i (.Pass ⟨0, 0, 0, 0⟩)
abbrev R : PySem.W.OpenRow := PySem.W.OpenLaw.row PySem.Challenge.rw_roundedwithin_k08_spans
abbrev hk : PySem.W.Hook := hookR 2 (faOf T) (fnOf' top T) (exOf T)
def loose0 : List Str := ["is_number", "is_from", "is_tuple_of", "NOTHING", "common", "fraction", "is_fraction", "added", "negated", "taken", "times", "quotient", "size", "is_less", "is_most", "lesser", "greater", "is_span", "is_in", "is_inside", "hull", "hull_of", "point", "added_spans", "negated_span", "taken_spans", "times_spans", "has_nothing", "over_spans", "size_span"]
def loose1 : List Str := ["most_size", "least_size", "widened_by", "least_span", "most_span", "width_of", "middle_of", "halves", "is_surely", "span_of_step", "_law_draws", "_law_next", "_law_same", "_law_least", "_law_sum", "_law_less", "_law_span", "_law_hull", "_law_exact"]
def loose : List Str := loose0 ++ loose1
theorem chk : chkT top T = true := by decide +kernel
def ob (s : PySem.W.SharedT) : hk.α := (He.obsDG 2 (faOf T) (fnOf' top T) (HandSHeadRun.getT s), exOf T (He.frG (HandSHeadRun.getT s) (He.asD (HandSHeadRun.getT s) 2)))
theorem ob_eq (s : PySem.W.SharedT) : ob s = hk.obs s.abs := by
  have e : HandSHeadRun.getT s = s.abs.heap.get? := funext (HandSHeadRun.getT_eq s)
  unfold ob
  rw [e]
  rfl
theorem run (w : World) : HandSHeadRun.RunEq R (PySem.W.view R.prog [53]) hk ob 3000 loose w := by
  intro os
  kernel_rfl
end Rw.Pk08

open PySem PySem.W PySem.Calls PyProof.Rows
theorem PySem.Challenge.cw_roundedwithin_k08_spans_holds : PySem.Challenge.rw_roundedwithin_k08_spans.Holds := by
  w_on; o_law
  refine HandSHeadRun.head_any (r := OpenLaw.row PySem.Challenge.rw_roundedwithin_k08_spans) (q := view (OpenLaw.row PySem.Challenge.rw_roundedwithin_k08_spans).prog [53]) (H := Rw.Pk08.hk) (ob := Rw.Pk08.ob) (M := 3000) (loose := Rw.Pk08.loose) (d := HandSHeadRun.topDef (OpenLaw.row PySem.Challenge.rw_roundedwithin_k08_spans).prog 53) (kwd := []) Rw.Pk08.ob_eq
    (by kernel_rfl) (fun s => by kernel_rfl) Rw.Pk08.run (by kernel_rfl) (by kernel_rfl) (by kernel_rfl) (by rfl) (by first | assumption | decide +kernel) (by decide +kernel) ⟨rfl, rfl, rfl, rfl, rfl, by decide +kernel⟩ ?hw ?hc
  case hw => w_witness2
  case hc => exact Rw.law_walk (l := PySem.Challenge.rw_roundedwithin_k08_spans) (top := Rw.Pk08.top) (T := Rw.Pk08.T) (n := 2) (g := 60) (k := Rw.Pk08.depth) (i := 53) (f := Rw.Pk08.f_law) rfl (by kernel_rfl) ⟨rfl, by decide, by decide⟩ (by kernel_rfl) Rw.Pk08.chk rfl (by kernel_rfl) Rw.Pk08.law_true

