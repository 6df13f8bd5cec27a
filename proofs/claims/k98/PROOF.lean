import PyProof.Rows.All
import Wide.All
import OpenK.AllK
import Wide.FinOn
import HandS.ForMost
import HandS.Star
import HandS.IsInst
import HandS.Comp
import HandS.Text
import HandS.DeepEq
import PyProof.ReprRoads
import HandS.SlotsOwn
import HandS.MakeKw
import HandS.Dict
import PyProof.InstNe
import KE.KFmtOwn
import KE.KFromBytes
import KE.KTypeName
import KE.KTypeOf
import HandS.Exc
import HandS.Nested
import KE.KSuper
import HandS.Head0
import HandS.Head1
import HandS.Head2
import HandS.HeadEnd
import HandS.HeadHook1
import HandS.HeadHook2
import HandS.HeadWalk
import PySem.Challenge.RW_whoneedswhom_k98_papers_on_rest_keep_the
set_option Elab.async false
set_option linter.all false
set_option maxRecDepth 100000
set_option maxHeartbeats 0
/-! Part A: data as trees, the inner language, its evaluator. Plain Lean. -/
namespace G
open PySem
inductive D where
  | non | bl (b : Bool) | int (i : Int) | str (s : Str)
  | tup (l : List D) | lst (l : List D) | dic (ks vs : List D) | ins (c : Str) (ns : List Str) (vs : List D)
  | loc (n : Nat) | fn (n : Nat) | scr (l : List D)
/-- what stands in the store -/
inductive O where
  | lst (l : List D) | dic (ks vs : List D) | ins (c : Str) (ns : List Str) (vs : List D)
abbrev Sto := List O
abbrev Sl := List (Option D)
mutual
/-- no store's place within -/
def D.lf : D → Bool
  | .loc _ => false
  | .scr _ => false
  | .tup l => lfs l
  | .lst l => lfs l
  | .dic ks vs => lfs ks && lfs vs
  | .ins _ _ vs => lfs vs
  | _ => true
def lfs : List D → Bool
  | [] => true
  | d :: r => d.lf && lfs r
end
/-- == of values without parts; none: not told here -/
def eqA : D → D → Option Bool
  | .non, e => match e with | .non => some true | .bl _ | .int _ | .str _ | .tup _ | .lst _ | .dic .. => some false | _ => none
  | .bl a, e => match e with | .bl b => some (a == b) | .int b => some ((if a then 1 else 0) == b) | .non | .str _ | .tup _ | .lst _ | .dic .. => some false | _ => none
  | .int a, e => match e with | .int b => some (a == b) | .bl b => some (a == (if b then 1 else 0)) | .non | .str _ | .tup _ | .lst _ | .dic .. => some false | _ => none
  | .str a, e => match e with | .str b => some (a == b) | .non | .bl _ | .int _ | .tup _ | .lst _ | .dic .. => some false | _ => none
  | .tup _, e => match e with | .non | .bl _ | .int _ | .str _ | .lst _ | .dic .. => some false | _ => none
  | .lst _, e => match e with | .non | .bl _ | .int _ | .str _ | .tup _ | .dic .. => some false | _ => none
  | .dic .., e => match e with | .non | .bl _ | .int _ | .str _ | .tup _ | .lst _ => some false | _ => none
  | _, _ => none
mutual
def D.eqv : D → D → Option Bool
  | .tup a, e => match e with | .tup b => eqvs a b | e => eqA (.tup a) e
  | .lst a, e => match e with | .lst b => if a.length = b.length then eqvs a b else some false | e => eqA (.lst a) e
  | .dic ks vs, e => match e with | .dic ks' vs' => (match ks, ks' with | [], [] => some true | _, _ => none) | e => eqA (.dic ks vs) e
  | d, e => eqA d e
def eqvs : List D → List D → Option Bool
  | [], [] => some true
  | [], _ :: _ => some false
  | _ :: _, [] => some false
  | a :: as, b :: bs => (a.eqv b).bind fun x => (eqvs as bs).map fun y => x && y
end
mutual
/-- how deep lists and tuples are nested -/
def D.dep : D → Nat
  | .tup l => 1 + deps l
  | .lst l => 1 + deps l
  | _ => 1
def deps : List D → Nat
  | [] => 0
  | d :: r => Nat.max d.dep (deps r)
end

def D.isDic : D → Bool
  | .dic .. => true
  | _ => false

inductive Bop where | add | sub | mul | fdiv | mod | pow
inductive Cop where | eq | ne | lt | le | gt | ge | isN | notN
inductive Bi where | len | int | abs | tuple | repr | bool
/-- what isinstance asks -/
inductive Ty where | ty (n : String) | cls (c : Str)

inductive Tg where
  | nm (i : Nat) | tup (l : List Tg)
inductive E where
  | v (i : Nat) | k (d : D)
  | bin (op : Bop) (a b : E) | neg (a : E)
  | cmp (op : Cop) (a b : E) | and (a b : E) | or (a b : E) | not (a : E) | ife (c a b : E)
  | tup (l : List E) | lst (own : Bool) (l : List E)
  | ix (a i : E) | slu (a b : E) | fld (a : E) (f : Str)
  | call (f : Nat) (iso : Bool) (l : List E) | new (c : Str) (l : List E) | newk (c : Str) (pm : List Nat) (l l' : List E) | callk (f : Nat) (iso : Bool) (pm : List Nat) (l l' : List E)
  | sup (c : Str) (f : Nat) (l : List E)
  | bi (b : Bi) (l : List E) | isi (a : E) (ts : List Ty) | tnl (a : E) | eqo (neg : Bool) (a b : E) | bo (a : E)
  | lc (it : E) (t : Tg) (c : Option E) (e : E) (w : List Nat)
  | lcr (n : E) (t : Tg) (c : Option E) (e : E) (w : List Nat)
/-- what a statement stores to -/
inductive TgS where
  | nm (i : Nat) | fld (o : E) (f : Str) | sub (o i : E) | tup (l : List TgS)
inductive S where
  | set (t : TgS) (e : E) | par (i j : Nat) (a b : E)
  | expr (e : E) | ret (e : E) | retN | pass | raise
  | ite (c : E) (a b : List S) | for (it : E) (t : Tg) (b : List S) | forr (n : E) (t : Tg) (b : List S)

/-! ### values -/
def intB (x : Int) : Bool := decide (-(2 ^ 64) < x) && decide (x < 2 ^ 64)
def binI : Bop → Int → Int → Option D
  | .add, i, j => some (.int (i + j))
  | .sub, i, j => some (.int (i - j))
  | .mul, i, j => if intB i || intB j then some (.int (i * j)) else none
  | .fdiv, i, j => if 0 < j ∧ j < 1073741824 then some (.int (i / j)) else none
  | .mod, i, j => if 0 < j then some (.int (i % j)) else none
  | .pow, i, j => if 0 ≤ j ∧ j ≤ 1000000 ∧ i.natAbs < 2 ^ 64 then some (.int (i ^ j.toNat)) else none
def mostL : Nat := 100000
def binD : Bop → D → D → Option D
  | op, .int i, y => (match y with | .int j => binI op i j | _ => none)
  | op, .lst l, y => (match op, y with
    | .add, .lst r => if l.length + r.length ≤ mostL then some (.lst (l ++ r)) else none
    | .mul, .int n => if 0 ≤ n ∧ n ≤ 1000 ∧ l.length * n.toNat ≤ mostL then some (.lst (List.replicate n.toNat l).flatten) else none
    | _, _ => none)
  | _, _, _ => none
def cmpD : Cop → D → D → Option Bool
  | .eq, x, y => if x.dep ≤ 60 then x.eqv y else none
  | .ne, x, y => if x.dep ≤ 60 ∧ x.isDic = false ∧ y.isDic = false then (x.eqv y).map (!·) else none
  | .lt, .int i, .int j => some (decide (i < j))
  | .le, .int i, .int j => some (decide (i ≤ j))
  | .gt, .int i, .int j => some (decide (j < i))
  | .ge, .int i, .int j => some (decide (j ≤ i))
  | .isN, x, .non => (match x with | .non => some true | _ => some false)
  | .notN, x, .non => (match x with | .non => some false | _ => some true)
  | _, _, _ => none
/-- the items of a list or a tuple -/
def itemsD (s : Sto) : D → Option (List D)
  | .lst l => some l
  | .tup l => some l
  | .loc n => (match s[n]? with | some (.lst l) => some l | _ => none)
  | _ => none
def atD (l : List D) (i : Int) : Option D := L2.atI l i
def ixD (s : Sto) (x i : D) : Option D := match i with
  | .int i => (itemsD s x).bind fun l => atD l i
  | _ => none
def sluD (x j : D) : Option D := match x, j with
  | .lst l, .int j => some (.lst (l.take (HT.sIx l.length l.length (some j))))
  | .scr l, .int j => some (.lst (l.take (HT.sIx l.length l.length (some j))))
  | _, _ => none
def lookF (f : Str) : List Str → List D → Option D
  | n :: ns, v :: vs => if n = f then some v else lookF f ns vs
  | _, _ => none
def putN (f : Str) : List Str → List Str
  | [] => [f]
  | n :: ns => if n = f then n :: ns else n :: putN f ns
def putV (f : Str) (d : D) : List Str → List D → List D
  | n :: ns, v :: vs => if n = f then d :: vs else v :: putV f d ns vs
  | _, _ => [d]
def fldD (s : Sto) (f : Str) : D → Option D
  | .ins _ ns vs => lookF f ns vs
  | .loc n => (match s[n]? with | some (.ins _ ns vs) => lookF f ns vs | _ => none)
  | _ => none
/-- the class of an instance -/
def clsD (s : Sto) : D → Option Str
  | .ins c _ _ => some c
  | .loc n => (match s[n]? with | some (.ins c _ _) => some c | _ => none)
  | _ => none

/-! ### repr -/
mutual
/-- the tree as the library tells repr of -/
def D.py : D → Option PyData
  | .non => some .none
  | .bl b => some (.bool b)
  | .int i => some (.int i)
  | .str z => some (.str z)
  | .tup l => (pys l).map .tuple
  | .lst l => (pys l).map .list
  | .dic ks us => (match ks with | [] => some (.dict []) | _ => none)
  | _ => none
def pys : List D → Option (List PyData)
  | [] => some []
  | d :: r => d.py.bind fun y => (pys r).map fun ys => y :: ys
end
end G

/-! Part B: what a tree stands for in the heap. -/
namespace G
open PySem L2

/-- where the store's objects stand; other stores' objects; the addresses of hidden tables; the abstract heap -/
structure Wd where
  rs : List Addr
  V : Addr → Prop
  C : Addr → Prop
  H : Hp
/-- what may change: the store's objects, those of other stores, hidden tables -/
def Wd.mut (w : Wd) (a : Addr) : Prop := a ∈ w.rs ∨ w.V a ∨ w.C a

structure Le (w w' : Wd) : Prop where
  rs : ∃ more, w'.rs = w.rs ++ more ∧ ∀ a ∈ more, w.H a = none
  v : w'.V = w.V
  c : ∀ a, w'.C a → w.C a ∨ w.H a = none
  cc : ∀ a, w.C a → w'.C a
  kept : ∀ a o, w.H a = some o → a ∉ w.rs → ¬ w.C a → w'.H a = some o
  live : ∀ a, w'.H a = none → w.H a = none

theorem Le.keep {w w' : Wd} (l : Le w w') (a : Addr) (o : HO) (h : w.H a = some o) (n : ¬ w.mut a) : w'.H a = some o := l.kept a o h (fun z => n (.inl z)) fun z => n (.inr (.inr z))
theorem Le.refl (w : Wd) : Le w w := ⟨⟨[], by simp, fun _ h => nomatch h⟩, rfl, fun _ h => .inl h, fun _ h => h, fun _ _ h _ _ => h, fun _ h => h⟩
theorem Le.mut {w w' : Wd} (l : Le w w') {a : Addr} (h : w'.mut a) : w.mut a ∨ w.H a = none := by
  obtain ⟨more, e, hm⟩ := l.rs
  rcases h with h | h | h
  · rw [e, List.mem_append] at h
    rcases h with h | h
    · exact .inl (.inl h)
    · exact .inr (hm a h)
  · rw [l.v] at h
    exact .inl (.inr (.inl h))
  · rcases l.c a h with h | h
    · exact .inl (.inr (.inr h))
    · exact .inr h
theorem Le.nmut {w w' : Wd} (l : Le w w') {a : Addr} {o : HO} (h : w.H a = some o) (n : ¬ w.mut a) : ¬ w'.mut a := fun q => by
  rcases l.mut q with q | q
  · exact n q
  · rw [h] at q; cases q
theorem Le.trans {w w1 w2 : Wd} (a : Le w w1) (b : Le w1 w2) : Le w w2 where
  rs := by
    obtain ⟨m1, e1, h1⟩ := a.rs
    obtain ⟨m2, e2, h2⟩ := b.rs
    refine ⟨m1 ++ m2, by rw [e2, e1, List.append_assoc], fun x hx => ?_⟩
    rcases List.mem_append.mp hx with hx | hx
    · exact h1 x hx
    · exact a.live x (h2 x hx)
  c := fun x h => by
    rcases b.c x h with h | h
    · exact a.c x h
    · exact .inr (a.live x h)
  cc := fun x h => b.cc x (a.cc x h)
  v := b.v.trans a.v
  kept := fun x o h n c => b.kept x o (a.kept x o h n c) (fun z => by
    obtain ⟨m1, e1, h1⟩ := a.rs
    rw [e1, List.mem_append] at z
    rcases z with z | z
    · exact n z
    · rw [h1 x z] at h; cases h) fun z => by
    rcases a.c x z with z | z
    · exact c z
    · rw [z] at h; cases h
  live := fun x h => a.live x (b.live x h)

/-- what is left standing of what nobody may change -/
structure Lw (w w' : Wd) : Prop where
  rs : ∃ more, w'.rs = w.rs ++ more
  keep : ∀ a o, w.H a = some o → ¬ w.mut a → w'.H a = some o ∧ ¬ w'.mut a
theorem Le.lw {w w' : Wd} (l : Le w w') : Lw w w' := ⟨let ⟨m, e, _⟩ := l.rs; ⟨m, e⟩, fun a o h n => ⟨l.keep a o h n, l.nmut h n⟩⟩
theorem Lw.nmut {w w' : Wd} (l : Lw w w') {a : Addr} {o : HO} (h : w.H a = some o) (n : ¬ w.mut a) : ¬ w'.mut a := (l.keep a o h n).2
/-- the classes' places, the written part -/
structure Pc where
  K : PySem.W.Frag
  cad : Str → Addr
  fad : Nat → Addr

def RdT (X : Pc) (w : Wd) (a : Addr) (vs : List V) : Prop := (Rd w.H a (.tup vs) ∧ ¬ w.mut a) ∨
  ∃ (o : Obj) (its : Array Value) (n : Nat), X.K.lookup a = some o ∧ o.cls = .type "tuple" ∧ o.data = .seq its n ∧ its.size ≤ sizeLine ∧ Vals vs its.toList
def RdL (X : Pc) (w : Wd) (a : Addr) (vs : List V) : Prop := w.H a = some (.lst vs) ∧ ¬ w.mut a
theorem RdT.sq {X : Pc} {w : Wd} {a : Addr} {vs : List V} (h : RdT X w a vs) : SqT X.K w.H a vs := by
  rcases h with h | h
  · exact .inl h.1
  · exact .inr h
theorem Lw.rd {w w' : Wd} (l : Lw w w') {a : Addr} {u : HO} (h : Rd w.H a u) (n : ¬ w.mut a) : Rd w'.H a u ∧ ¬ w'.mut a := by
  rcases h with h | ⟨o, h⟩
  · exact ⟨.inl ((l.keep _ _ h n).1), l.nmut h n⟩
  · exact ⟨.inr ⟨o, (l.keep _ _ h n).1⟩, l.nmut h n⟩
theorem RdT.monoW {X : Pc} {w w' : Wd} (l : Lw w w') {a : Addr} {vs : List V} (h : RdT X w a vs) : RdT X w' a vs := by
  rcases h with ⟨h, n⟩ | h
  · exact .inl (l.rd h n)
  · exact .inr h
theorem RdL.monoW {X : Pc} {w w' : Wd} (l : Lw w w') {a : Addr} {vs : List V} (h : RdL X w a vs) : RdL X w' a vs := l.keep _ _ h.1 h.2
theorem RdL.sq {X : Pc} {w : Wd} {a : Addr} {vs : List V} (h : RdL X w a vs) : SqL X.K w.H a vs := .inl (.inl h.1)

/-- what holds of the fields that an instance may have -/
def InsOk (X : Pc) (c : Str) (ns : List Str) : Prop := Cls X.K (X.cad c) ∧ ∀ f ∈ ns, NoAttr X.K (X.cad c) f
mutual
/-- the value v is the tree d -/
def Rep (X : Pc) (w : Wd) : D → V → Prop
  | .non, v => v = .non
  | .bl b, v => v = .bl b
  | .int i, v => v = .int i
  | .str s, v => v = .str s
  | .tup l, v => ∃ a vs, v = .ref a ∧ RdT X w a vs ∧ Reps X w l vs
  | .lst l, v => ∃ a vs, v = .ref a ∧ RdL X w a vs ∧ Reps X w l vs
  | .dic ks us, v => ∃ a kvs, v = .ref a ∧ w.H a = some (.dK kvs) ∧ ¬ w.mut a ∧ Reps X w ks (kvs.map fun p => kV p.1) ∧ Reps X w us (kvs.map fun p => p.2)
  | .ins c ns us, v => ∃ a dx fs, v = .ref a ∧ w.H a = some (.ins (X.cad c) dx fs) ∧ ¬ w.mut a ∧ fs.map (·.1) = ns ∧ InsOk X c ns ∧ Reps X w us (fs.map (·.2))
  | .loc n, v => ∃ a, w.rs[n]? = some a ∧ v = .ref a
  | .fn n, v => v = .ref (X.fad n)
  | .scr l, v => ∃ a vs, v = .ref a ∧ (Rd w.H a (.lst vs) ∧ ¬ w.mut a) ∧ Reps X w l vs
def Reps (X : Pc) (w : Wd) : List D → List V → Prop
  | [], vs => vs = []
  | d :: r, vs => ∃ v us, vs = v :: us ∧ Rep X w d v ∧ Reps X w r us
end
mutual
theorem Rep.monoW {X : Pc} {w w' : Wd} (l : Lw w w') : ∀ (d : D) {v : V}, Rep X w d v → Rep X w' d v
  | .non, _, h => h
  | .bl _, _, h => h
  | .int _, _, h => h
  | .str _, _, h => h
  | .tup _, _, ⟨a, vs, e, h, r⟩ => ⟨a, vs, e, h.monoW l, Reps.monoW l _ r⟩
  | .lst _, _, ⟨a, vs, e, h, r⟩ => ⟨a, vs, e, h.monoW l, Reps.monoW l _ r⟩
  | .dic _ _, _, ⟨a, kvs, e, h, n, r, q⟩ => ⟨a, kvs, e, (l.keep _ _ h n).1, (l.keep _ _ h n).2, Reps.monoW l _ r, Reps.monoW l _ q⟩
  | .ins _ _ _, _, ⟨a, dx, fs, e, h, n, z, y, r⟩ => ⟨a, dx, fs, e, (l.keep _ _ h n).1, (l.keep _ _ h n).2, z, y, Reps.monoW l _ r⟩
  | .loc n, _, ⟨a, h, e⟩ => ⟨a, by
      obtain ⟨more, q⟩ := l.rs
      rw [q, List.getElem?_append_left (List.getElem?_eq_some_iff.mp h).1]
      exact h, e⟩
  | .fn _, _, h => h
  | .scr _, _, ⟨a, vs, e, h, r⟩ => ⟨a, vs, e, l.rd h.1 h.2, Reps.monoW l _ r⟩
theorem Reps.monoW {X : Pc} {w w' : Wd} (l : Lw w w') : ∀ (ds : List D) {vs : List V}, Reps X w ds vs → Reps X w' ds vs
  | [], _, h => h
  | d :: r, _, ⟨v, us, e, h, q⟩ => ⟨v, us, e, Rep.monoW l d h, Reps.monoW l r q⟩
end
theorem Rep.mono {X : Pc} {w w' : Wd} (l : Le w w') (d : D) {v : V} (h : Rep X w d v) : Rep X w' d v := Rep.monoW l.lw d h
theorem Reps.mono {X : Pc} {w w' : Wd} (l : Le w w') (ds : List D) {vs : List V} (h : Reps X w ds vs) : Reps X w' ds vs := Reps.monoW l.lw ds h
theorem RdT.mono {X : Pc} {w w' : Wd} (l : Le w w') {a : Addr} {vs : List V} (h : RdT X w a vs) : RdT X w' a vs := h.monoW l.lw
theorem RdL.mono {X : Pc} {w w' : Wd} (l : Le w w') {a : Addr} {vs : List V} (h : RdL X w a vs) : RdL X w' a vs := h.monoW l.lw
theorem Reps.length {X : Pc} {w : Wd} : ∀ {ds : List D} {vs : List V}, Reps X w ds vs → vs.length = ds.length
  | [], _, h => by rw [show _ = [] from h]; rfl
  | d :: r, _, ⟨v, us, e, h, q⟩ => by subst e; simp [Reps.length q]
theorem Reps.get {X : Pc} {w : Wd} : ∀ {ds : List D} {vs : List V} {i : Nat} {d : D}, Reps X w ds vs → ds[i]? = some d → ∃ v, vs[i]? = some v ∧ Rep X w d v
  | [], _, _, _, _, e => by simp at e
  | d :: r, _, 0, _, ⟨v, us, e, h, q⟩, z => by subst e; simp at z; subst z; exact ⟨v, rfl, h⟩
  | d :: r, _, i + 1, _, ⟨v, us, e, h, q⟩, z => by
    subst e
    obtain ⟨u, h1, h2⟩ := Reps.get (i := i) q (by simpa using z)
    exact ⟨u, by simpa using h1, h2⟩
theorem Reps.append {X : Pc} {w : Wd} : ∀ {ds es : List D} {vs us : List V}, Reps X w ds vs → Reps X w es us → Reps X w (ds ++ es) (vs ++ us)
  | [], _, _, _, h, q => by rw [show _ = [] from h]; exact q
  | d :: r, _, _, _, ⟨v, us, e, h, q⟩, z => by subst e; exact ⟨v, _, rfl, h, Reps.append q z⟩
theorem Reps.take {X : Pc} {w : Wd} : ∀ {ds : List D} {vs : List V} (n : Nat), Reps X w ds vs → Reps X w (ds.take n) (vs.take n)
  | _, _, 0, _ => by simp [Reps]
  | [], _, n + 1, h => by rw [show _ = [] from h]; simp [Reps]
  | d :: r, _, n + 1, ⟨v, us, e, h, q⟩ => by subst e; exact ⟨v, _, rfl, h, Reps.take n q⟩
theorem Reps.one {X : Pc} {w : Wd} {d : D} {v : V} (h : Rep X w d v) : Reps X w [d] [v] := ⟨v, [], rfl, h, rfl⟩
theorem Reps.set {X : Pc} {w : Wd} {d : D} {v : V} (h : Rep X w d v) : ∀ {ds : List D} {vs : List V} (n : Nat), Reps X w ds vs → Reps X w (ds.set n d) (vs.set n v)
  | [], _, _, q => by rw [show _ = [] from q]; simp [Reps]
  | e :: r, _, 0, ⟨u, us, z, _, q⟩ => by subst z; exact ⟨v, _, rfl, h, q⟩
  | e :: r, _, n + 1, ⟨u, us, z, g, q⟩ => by subst z; exact ⟨u, _, rfl, g, Reps.set h n q⟩
theorem Reps.flat {X : Pc} {w : Wd} {ds : List D} {vs : List V} (h : Reps X w ds vs) : ∀ n : Nat, Reps X w (List.replicate n ds).flatten (List.replicate n vs).flatten
  | 0 => by simp [Reps]
  | n + 1 => by simp only [List.replicate_succ, List.flatten_cons]; exact h.append (Reps.flat h n)

/-- an object of the store -/
def ORep (X : Pc) (w : Wd) : O → Addr → Prop
  | .lst l, a => ∃ vs, w.H a = some (.lst vs) ∧ Reps X w l vs
  | .dic ks us, a => ∃ kvs, w.H a = some (.dK kvs) ∧ Reps X w ks (kvs.map fun p => kV p.1) ∧ Reps X w us (kvs.map fun p => p.2)
  | .ins c ns us, a => ∃ dx fs, w.H a = some (.ins (X.cad c) dx fs) ∧ fs.map (·.1) = ns ∧ InsOk X c ns ∧ Reps X w us (fs.map (·.2))

theorem nd_ix : ∀ {l : List Addr} {i j : Nat} {a : Addr}, l.Nodup → l[i]? = some a → l[j]? = some a → i = j
  | [], i, _, _, _, h, _ => by simp at h
  | b :: r, 0, 0, _, _, _, _ => rfl
  | b :: r, 0, j + 1, a, n, h, q => by
    simp at h q
    subst h
    exact absurd (List.mem_of_getElem? q) (List.nodup_cons.mp n).1
  | b :: r, i + 1, 0, a, n, h, q => by
    simp at h q
    subst q
    exact absurd (List.mem_of_getElem? h) (List.nodup_cons.mp n).1
  | b :: r, i + 1, j + 1, a, n, h, q => by
    simp at h q
    rw [nd_ix (List.nodup_cons.mp n).2 h q]
/-- what holds of the hidden tables: kept by new objects and by stores to others -/
structure Gi where
  P : (Addr → Prop) → Hp → Prop
  new : ∀ {C H p o}, P C H → H p = none → (∀ c dx fs, o = HO.ins c dx fs → fs = []) → P C (upd H p o)
  put : ∀ {C H a o o'}, P C H → H a = some o → ¬ C a → (∀ c dx fs, o' = HO.ins c dx fs → ∃ gs, o = HO.ins c dx gs ∧ ∃ f v, fs = putF f v gs ∧ f ≠ "known") → P C (upd H a o')

structure SG (X : Pc) (g : Gi) (w : Wd) (s : Sto) : Prop where
  len : s.length = w.rs.length
  nd : w.rs.Nodup
  dis : ∀ a ∈ w.rs, ¬ w.C a
  cl : ∀ a, w.C a → w.H a ≠ none
  vl : ∀ a, w.V a → w.H a ≠ none
  dv : ∀ a ∈ w.rs, ¬ w.V a
  obj : ∀ (n : Nat) (o : O), s[n]? = some o → ∃ a, w.rs[n]? = some a ∧ ORep X w o a
  gi : g.P w.C w.H
/-- slots -/
def SlV (X : Pc) (w : Wd) (l : Sl) (σ : St) : Prop := l.length = σ.length ∧ ∀ (i : Nat) (d : D), l[i]? = some (some d) → ∃ v, σ[i]? = some (some v) ∧ Rep X w d v
theorem SlV.mono {X : Pc} {w w' : Wd} (q : Le w w') {l : Sl} {σ : St} (h : SlV X w l σ) : SlV X w' l σ :=
  ⟨h.1, fun i d e => let ⟨v, a, b⟩ := h.2 i d e; ⟨v, a, Rep.mono q d b⟩⟩
theorem SlV.set {X : Pc} {w : Wd} {l : Sl} {σ : St} {d : D} {v : V} (h : SlV X w l σ) (i : Nat) (r : Rep X w d v) : SlV X w (l.set i (some d)) (σ.set i (some v)) := by
  refine ⟨by simp [h.1], fun j e hj => ?_⟩
  by_cases q : i = j
  · subst q
    have hi : i < l.length := by
      have := (List.getElem?_eq_some_iff.mp hj).1
      simpa using this
    rw [List.getElem?_set_self hi] at hj
    cases hj
    exact ⟨v, by rw [List.getElem?_set_self (h.1 ▸ hi)], r⟩
  · rw [List.getElem?_set_ne q] at hj
    obtain ⟨u, a, b⟩ := h.2 j e hj
    exact ⟨u, by rw [List.getElem?_set_ne q]; exact a, b⟩

theorem ORep.mono {X : Pc} {w w' : Wd} (l : Le w w') {o : O} {a : Addr} (h : ORep X w o a) (k : ∀ u, w.H a = some u → w'.H a = some u) : ORep X w' o a := by
  cases o with
  | lst ds => obtain ⟨vs, e, r⟩ := h; exact ⟨vs, k _ e, Reps.mono l _ r⟩
  | dic ks us => obtain ⟨kvs, e, r, q⟩ := h; exact ⟨kvs, k _ e, Reps.mono l _ r, Reps.mono l _ q⟩
  | ins c ns us => obtain ⟨dx, fs, e, z, y, r⟩ := h; exact ⟨dx, fs, k _ e, z, y, Reps.mono l _ r⟩
theorem ORep.there {X : Pc} {w : Wd} {o : O} {a : Addr} (h : ORep X w o a) : ∃ u, w.H a = some u := by
  cases o with
  | lst ds => obtain ⟨vs, e, r⟩ := h; exact ⟨_, e⟩
  | dic ks us => obtain ⟨kvs, e, r, q⟩ := h; exact ⟨_, e⟩
  | ins c ns us => obtain ⟨dx, fs, e, z, y, r⟩ := h; exact ⟨_, e⟩

/-- a new object -/
abbrev Wd.add (w : Wd) (p : Addr) (o : HO) : Wd := { w with H := upd w.H p o }
/-- a new object of the store -/
abbrev Wd.own (w : Wd) (p : Addr) (o : HO) : Wd := { w with rs := w.rs ++ [p], H := upd w.H p o }
theorem Le.add {w : Wd} {p : Addr} {o : HO} (h : w.H p = none) : Le w (w.add p o) where
  rs := ⟨[], by simp, fun _ h => nomatch h⟩
  v := rfl
  c := fun _ h => .inl h
  cc := fun _ h => h
  kept := fun a u e _ _ => by rw [show (w.add p o).H = upd w.H p o from rfl, upd_ne (ne_of_none e h)]; exact e
  live := fun a e => by
    by_cases q : a = p
    · rw [q]; exact h
    · rw [show (w.add p o).H = upd w.H p o from rfl, upd_ne q] at e; exact e
theorem Le.own {w : Wd} {p : Addr} {o : HO} (h : w.H p = none) : Le w (w.own p o) where
  rs := ⟨[p], rfl, fun a q => by rw [List.mem_singleton.mp q]; exact h⟩
  v := rfl
  c := fun _ h => .inl h
  cc := fun _ h => h
  kept := fun a u e _ _ => by rw [show (w.own p o).H = upd w.H p o from rfl, upd_ne (ne_of_none e h)]; exact e
  live := fun a e => by
    by_cases q : a = p
    · rw [q]; exact h
    · rw [show (w.own p o).H = upd w.H p o from rfl, upd_ne q] at e; exact e
theorem Le.put {w : Wd} {a : Addr} {o : HO} (h : a ∈ w.rs) {u : HO} (hu : w.H a = some u) : Le w (w.add a o) where
  rs := ⟨[], by simp, fun _ h => nomatch h⟩
  v := rfl
  c := fun _ h => .inl h
  cc := fun _ h => h
  kept := fun b u e n _ => by
    by_cases q : b = a
    · subst q; exact absurd h n
    · rw [show (w.add a o).H = upd w.H a o from rfl, upd_ne q]; exact e
  live := fun b e => by
    by_cases q : b = a
    · rw [show (w.add a o).H = upd w.H a o from rfl, q, upd_same] at e; cases e
    · rw [show (w.add a o).H = upd w.H a o from rfl, upd_ne q] at e; exact e
/-- of a kind that a rule may lay -/
def Fine (o : HO) : Prop := ∀ c dx fs, o = HO.ins c dx fs → fs = []
theorem Fine.tup {vs : List V} : Fine (.tup vs) := fun _ _ _ h => nomatch h
theorem Fine.lst {vs : List V} : Fine (.lst vs) := fun _ _ _ h => nomatch h
theorem Fine.dK {vs : List (Key × V)} : Fine (.dK vs) := fun _ _ _ h => nomatch h
theorem Fine.own {x : Addr} : Fine (.own x) := fun _ _ _ h => nomatch h
theorem SG.fresh {X : Pc} {g : Gi} {w : Wd} {s : Sto} (h : SG X g w s) {p : Addr} (n : w.H p = none) : ¬ w.mut p := fun q => by
  rcases q with q | q | q
  · obtain ⟨i, hi⟩ := List.getElem?_of_mem q
    have : i < s.length := by rw [h.len]; exact (List.getElem?_eq_some_iff.mp hi).1
    obtain ⟨b, h1, h2⟩ := h.obj i s[i] (by simp [this])
    rw [hi] at h1; cases h1
    obtain ⟨z, hz⟩ := h2.there
    rw [n] at hz; cases hz
  · exact h.vl p q n
  · exact h.cl p q n
theorem SG.add {X : Pc} {g : Gi} {w : Wd} {s : Sto} (h : SG X g w s) {p : Addr} {o : HO} (n : w.H p = none) (f : Fine o) : SG X g (w.add p o) s where
  len := h.len
  nd := h.nd
  dis := h.dis
  cl := fun a ha => by
    rw [show (w.add p o).H = upd w.H p o from rfl]
    by_cases q : a = p
    · rw [q, upd_same]; exact fun z => nomatch z
    · rw [upd_ne q]; exact h.cl a ha
  vl := fun a ha => by
    rw [show (w.add p o).H = upd w.H p o from rfl]
    by_cases q : a = p
    · rw [q, upd_same]; exact fun z => nomatch z
    · rw [upd_ne q]; exact h.vl a ha
  dv := h.dv
  obj := fun n' o' e => by
    obtain ⟨a, h1, h2⟩ := h.obj n' o' e
    exact ⟨a, h1, h2.mono (Le.add n) fun u q => by rw [show (w.add p o).H = upd w.H p o from rfl, upd_ne (ne_of_none q n)]; exact q⟩
  gi := g.new h.gi n f
theorem SG.own {X : Pc} {g : Gi} {w : Wd} {s : Sto} (h : SG X g w s) {p : Addr} {o : HO} {u : O} (n : w.H p = none) (f : Fine o) (r : ORep X (w.own p o) u p) : SG X g (w.own p o) (s ++ [u]) where
  len := by simp [h.len]
  nd := by
    refine List.nodup_append.mpr ⟨h.nd, by simp, fun a ha b hb e => ?_⟩
    rw [List.mem_singleton.mp hb] at e
    subst e
    exact h.fresh n (.inl ha)
  dis := fun a ha => by
    rcases List.mem_append.mp ha with q | q
    · exact h.dis a q
    · rw [List.mem_singleton.mp q]; exact fun z => h.fresh n (.inr (.inr z))
  dv := fun a ha => by
    rcases List.mem_append.mp ha with q | q
    · exact h.dv a q
    · rw [List.mem_singleton.mp q]; exact fun z => h.fresh n (.inr (.inl z))
  vl := fun a ha => by
    rw [show (w.own p o).H = upd w.H p o from rfl]
    by_cases q : a = p
    · rw [q, upd_same]; exact fun z => nomatch z
    · rw [upd_ne q]; exact h.vl a ha
  cl := fun a ha => by
    rw [show (w.own p o).H = upd w.H p o from rfl]
    by_cases q : a = p
    · rw [q, upd_same]; exact fun z => nomatch z
    · rw [upd_ne q]; exact h.cl a ha
  obj := fun n' o' e => by
    by_cases q : n' < s.length
    · rw [List.getElem?_append_left q] at e
      obtain ⟨a, h1, h2⟩ := h.obj n' o' e
      refine ⟨a, ?_, h2.mono (Le.own n) fun u q => by rw [show (w.own p o).H = upd w.H p o from rfl, upd_ne (ne_of_none q n)]; exact q⟩
      show (w.rs ++ [p])[n']? = some a
      rw [List.getElem?_append_left (by rw [← h.len]; exact q)]
      exact h1
    · have e2 : n' = s.length := by
        have := (List.getElem?_eq_some_iff.mp e).1
        simp at this
        omega
      subst e2
      have e3 : u = o' := by simpa using e
      subst e3
      exact ⟨p, by show (w.rs ++ [p])[s.length]? = some p; rw [h.len]; simp, r⟩
  gi := g.new h.gi n f
/-- a store to the n-th object -/
theorem SG.put {X : Pc} {g : Gi} {w : Wd} {s : Sto} (h : SG X g w s) {n : Nat} {a : Addr} {o o' : HO} {u : O} (hn : w.rs[n]? = some a) (ha : w.H a = some o) (hk : ∀ c dx fs, o' = HO.ins c dx fs → ∃ gs, o = HO.ins c dx gs ∧ ∃ f v, fs = putF f v gs ∧ f ≠ "known")
    (r : ORep X (w.add a o') u a) : SG X g (w.add a o') (s.set n u) where
  len := by simp [h.len]
  nd := h.nd
  dis := h.dis
  cl := fun b hb => by
    rw [show (w.add a o').H = upd w.H a o' from rfl]
    by_cases q : b = a
    · rw [q, upd_same]; exact fun z => nomatch z
    · rw [upd_ne q]; exact h.cl b hb
  vl := fun b hb => by
    rw [show (w.add a o').H = upd w.H a o' from rfl]
    by_cases q : b = a
    · rw [q, upd_same]; exact fun z => nomatch z
    · rw [upd_ne q]; exact h.vl b hb
  dv := h.dv
  obj := fun n' o2 e => by
    by_cases q : n = n'
    · subst q
      have hl : n < s.length := by rw [h.len]; exact (List.getElem?_eq_some_iff.mp hn).1
      rw [List.getElem?_set_self hl] at e
      cases e
      exact ⟨a, hn, r⟩
    · rw [List.getElem?_set_ne q] at e
      obtain ⟨b, h1, h2⟩ := h.obj n' o2 e
      refine ⟨b, h1, h2.mono (Le.put (List.mem_of_getElem? hn) ha) fun v hv => ?_⟩
      have : b ≠ a := fun z => by
        subst z
        exact q (nd_ix h.nd hn h1)
      rw [show (w.add a o').H = upd w.H a o' from rfl, upd_ne this]; exact hv
  gi := g.put h.gi ha (h.dis a (List.mem_of_getElem? hn)) hk
theorem Lw.trans {w w1 w2 : Wd} (a : Lw w w1) (b : Lw w1 w2) : Lw w w2 := ⟨by
  obtain ⟨m1, e1⟩ := a.rs
  obtain ⟨m2, e2⟩ := b.rs
  exact ⟨m1 ++ m2, by rw [e2, e1, List.append_assoc]⟩, fun x o h n => by
  obtain ⟨h1, n1⟩ := a.keep x o h n
  exact b.keep x o h1 n1⟩
/-- other foreign objects -/
abbrev Wd.wV (w : Wd) (V : Addr → Prop) : Wd := { w with V := V }
theorem Le.wV {a b : Wd} (l : Le a b) (V : Addr → Prop) : Le (a.wV V) (b.wV V) := ⟨l.rs, rfl, l.c, l.cc, l.kept, l.live⟩
theorem Le.late {w u : Wd} (l : Le w u) {p : Addr} {o : HO} (h : w.H p = none) (hc : ¬ u.C p) : Le w (u.add p o) where
  rs := l.rs
  v := l.v
  c := l.c
  cc := l.cc
  kept := fun a x e n c => by
    rw [show (u.add p o).H = upd u.H p o from rfl, upd_ne (ne_of_none e h)]
    exact l.kept a x e n c
  live := fun a e => by
    by_cases q : a = p
    · rw [q]; exact h
    · rw [show (u.add p o).H = upd u.H p o from rfl, upd_ne q] at e
      exact l.live a e
/-! ### an object that another one fills: a comprehension's list -/
theorem ORep.monoW {X : Pc} {w w' : Wd} (l : Lw w w') {o : O} {a : Addr} (h : ORep X w o a) (k : ∀ u, w.H a = some u → w'.H a = some u) : ORep X w' o a := by
  cases o with
  | lst ds => obtain ⟨vs, e, r⟩ := h; exact ⟨vs, k _ e, Reps.monoW l _ r⟩
  | dic ks us => obtain ⟨kvs, e, r, q⟩ := h; exact ⟨kvs, k _ e, Reps.monoW l _ r, Reps.monoW l _ q⟩
  | ins c ns us => obtain ⟨dx, fs, e, z, y, r⟩ := h; exact ⟨dx, fs, k _ e, z, y, Reps.monoW l _ r⟩
/-- the list begun: foreign -/
abbrev Wd.beg (w : Wd) (p : Addr) (o : HO) : Wd := { w with V := fun a => a = p ∨ w.V a, H := upd w.H p o }
theorem Lw.beg {w : Wd} {p : Addr} {o : HO} (h : w.H p = none) : Lw w (w.beg p o) := ⟨⟨[], by simp⟩, fun a u e n => by
  have ne := ne_of_none e h
  refine ⟨by rw [show (w.beg p o).H = upd w.H p o from rfl, upd_ne ne]; exact e, fun z => ?_⟩
  rcases z with z | (z | z) | z
  · exact n (.inl z)
  · exact ne z
  · exact n (.inr (.inl z))
  · exact n (.inr (.inr z))⟩
/-- a foreign object changes -/
theorem Lw.putV {w : Wd} {p : Addr} {o : HO} (h : w.V p) : Lw w (w.add p o) := ⟨⟨[], by simp⟩, fun a u e n => by
  have ne : a ≠ p := fun z => by subst z; exact n (.inr (.inl h))
  exact ⟨by rw [show (w.add p o).H = upd w.H p o from rfl, upd_ne ne]; exact e, n⟩⟩
theorem SG.beg {X : Pc} {g : Gi} {w : Wd} {s : Sto} (h : SG X g w s) {p : Addr} {o : HO} (n : w.H p = none) (f : Fine o) : SG X g (w.beg p o) s where
  len := h.len
  nd := h.nd
  dis := h.dis
  cl := (h.add n f).cl
  vl := fun a ha => by
    rcases ha with ha | ha
    · rw [ha, show (w.beg p o).H = upd w.H p o from rfl, upd_same]; exact fun z => nomatch z
    · exact (h.add n f).vl a ha
  dv := fun a ha z => by
    rcases z with z | z
    · subst z
      exact h.fresh n (.inl ha)
    · exact h.dv a ha z
  obj := fun n' o' e => by
    obtain ⟨a, h1, h2⟩ := h.obj n' o' e
    exact ⟨a, h1, h2.monoW (Lw.beg n) fun u q => by rw [show (w.beg p o).H = upd w.H p o from rfl, upd_ne (ne_of_none q n)]; exact q⟩
  gi := g.new h.gi n f
theorem SG.putV {X : Pc} {g : Gi} {w : Wd} {s : Sto} (h : SG X g w s) {p : Addr} {o o' : HO} (hv : w.V p) (hc : ¬ w.C p) (ho : w.H p = some o) (f : ∀ c dx fs, o' ≠ HO.ins c dx fs) : SG X g (w.add p o') s where
  len := h.len
  nd := h.nd
  dis := h.dis
  cl := fun a ha => by
    rw [show (w.add p o').H = upd w.H p o' from rfl]
    by_cases q : a = p
    · rw [q, upd_same]; exact fun z => nomatch z
    · rw [upd_ne q]; exact h.cl a ha
  vl := fun a ha => by
    rw [show (w.add p o').H = upd w.H p o' from rfl]
    by_cases q : a = p
    · rw [q, upd_same]; exact fun z => nomatch z
    · rw [upd_ne q]; exact h.vl a ha
  dv := h.dv
  obj := fun n' o2 e => by
    obtain ⟨a, h1, h2⟩ := h.obj n' o2 e
    refine ⟨a, h1, h2.monoW (Lw.putV hv) fun u q => ?_⟩
    have ne : a ≠ p := fun z => by subst z; exact h.dv a (List.mem_of_getElem? h1) hv
    rw [show (w.add p o').H = upd w.H p o' from rfl, upd_ne ne]; exact q
  gi := g.put h.gi ho hc fun c dx fs e => absurd e (f c dx fs)
/-- a new list, tuple at hand -/
theorem Rep.newL {X : Pc} {g : Gi} {w : Wd} {s : Sto} (h : SG X g w s) {np : Addr} (hp : w.H np = none) {ds : List D} {vs : List V} (r : Reps X w ds vs) : Rep X (w.add np (.lst vs)) (.lst ds) (.ref np) :=
  ⟨np, vs, rfl, ⟨upd_same, h.fresh hp⟩, Reps.mono (Le.add hp) _ r⟩
theorem Rep.newT {X : Pc} {g : Gi} {w : Wd} {s : Sto} (h : SG X g w s) {np : Addr} (hp : w.H np = none) {ds : List D} {vs : List V} (r : Reps X w ds vs) : Rep X (w.add np (.tup vs)) (.tup ds) (.ref np) :=
  ⟨np, vs, rfl, .inl ⟨.inl upd_same, h.fresh hp⟩, Reps.mono (Le.add hp) _ r⟩
end G

/-! Part C: the evaluator. -/
namespace G
open PySem

structure Cl where
  init : Nat
  low : Str
  attrs : List Str
  meths : List (Str × Nat)
inductive Out where | nx | ret (d : D)
/-- the program: its classes, what isinstance says -/
structure Tb where
  cl : Str → Option Cl
  isa : Ty → Ty → Option Bool
  /-- the right one's class is not below the left one's -/
  nf : Str → Ty → Bool
structure Mch where
  tb : Tb
  call : Nat → List D → Sto → Option (D × Sto)
  init : Nat → List D → Sto → Option (D × Sto)

def tyD (s : Sto) : D → Option Ty
  | .non => some (.ty "NoneType")
  | .bl _ => some (.ty "bool")
  | .int _ => some (.ty "int")
  | .str _ => some (.ty "str")
  | .tup _ => some (.ty "tuple")
  | .lst _ => some (.ty "list")
  | .dic .. => some (.ty "dict")
  | .ins c _ _ => some (.cls c)
  | .loc n => (match s[n]? with | some (.ins c _ _) => some (.cls c) | _ => none)
  | .fn _ => none
  | .scr _ => none
def anyIs (tb : Tb) (t : Ty) : List Ty → Option Bool
  | [] => some false
  | T :: Ts => match tb.isa t T with
    | some true => some true
    | some false => anyIs tb t Ts
    | none => none
def maxRep : Nat := 1000000
def reprD (d : D) : Option D := d.py.bind fun y => if y.showable = true ∧ y.depth ≤ 100 ∧ y.shown.length ≤ maxRep then some (.str y.shown) else none
/-- built-ins that neither look at the store nor change it, but for len -/
def biD (s : Sto) : Bi → List D → Option D
  | .len, [x] => (itemsD s x).map fun l => .int l.length
  | .int, [x] => (match x with | .int i => some (.int i) | .bl b => some (.int (if b then 1 else 0)) | _ => none)
  | .abs, [x] => (match x with | .int i => some (.int (if i < 0 then -i else i)) | _ => none)
  | .bool, [x] => (match x with | .bl b => some (.bl b) | _ => none)
  | .tuple, [x] => (match x with | .lst l => some (.tup l) | .tup l => some (.tup l) | _ => none)
  | .repr, [x] => reprD x
  | _, _ => none
/-- the instance at the store's end, frozen -/
def frozenIns (s : Sto) : Option D := match s with
  | .ins c ns vs :: _ => if lfs vs then some (.ins c ns vs) else none
  | _ => none
def wipeD (l : Sl) : List Nat → Sl
  | [] => l
  | v :: vs => (wipeD l vs).set v none
mutual
/-- a target takes a value -/
def asg : Tg → D → Sl → Option Sl
  | .nm i, d, l => some (l.set i (some d))
  | .tup ts, d, l => match d with
    | .tup ds => asgs ts ds l
    | _ => none
def asgs : List Tg → List D → Sl → Option Sl
  | [], [], l => some l
  | t :: ts, d :: ds, l => (asg t d l).bind fun l1 => asgs ts ds l1
  | _, _, _ => none
end
/-- the turns of a comprehension -/
def turns (f : D → Sto → Option (Option D × Sto)) : List D → Sto → Option (List D × Sto)
  | [], s => some ([], s)
  | x :: xs, s => (f x s).bind fun p => (turns f xs p.2).map fun q => (match p.1 with | some y => y :: q.1 | none => q.1, q.2)
def rangeD (n : Int) : List D := (List.range n.toNat).map fun (i : Nat) => D.int (i : Int)

def rngD : D → Option (List D)
  | .int n => if -(2 ^ 62) ≤ n ∧ n ≤ mostL then some (rangeD n) else none
  | _ => none
/-- a new instance, frozen -/
def newD (M : Mch) (c : Str) (ds : List D) (s : Sto) : Option (D × Sto) := (M.tb.cl c).bind fun C =>
  if lfs ds then (M.init C.init (.loc 0 :: ds) [O.ins c [] []]).bind fun q => (match q.1 with | .non => frozenIns q.2 | _ => none).map fun d => (d, s) else none
/-- a call, in our store or in one of its own -/
def callD (M : Mch) (f : Nat) (iso : Bool) (ds : List D) (s : Sto) : Option (D × Sto) := match iso with
  | false => M.call f ds s
  | true => if lfs ds then (M.call f ds []).bind fun q => if q.1.lf then some (q.1, s) else none else none
/-- named values in the parameters' order -/
def permD {α : Type} (pm : List Nat) (l : List α) : List α := pm.filterMap fun i => l[i]?
/-- == by the left one's own __eq__ -/
def eqoD (M : Mch) (neg : Bool) (x y : D) (s : Sto) : Option (D × Sto) := (clsD s x).bind fun c => (tyD s y).bind fun t => (M.tb.cl c).bind fun C => (C.meths.lookup ("__eq__" : Str)).bind fun f =>
  if M.tb.nf c t = true then (M.init f [x, y] s).bind fun q => match q.1 with | .bl b => some (.bl (b != neg), q.2) | _ => none else none
/-- bool(x) by its own __bool__ -/
def boD (M : Mch) (x : D) (s : Sto) : Option (D × Sto) := (clsD s x).bind fun c => (M.tb.cl c).bind fun C => (C.meths.lookup ("__bool__" : Str)).bind fun f =>
  (M.init f [x] s).bind fun q => match q.1 with | .bl b => some (.bl b, q.2) | _ => none
def tnlD (M : Mch) (x : D) (s : Sto) : Option D := (clsD s x).bind fun c => (M.tb.cl c).map fun C => .str C.low
def some1 (q : D × Sto) : Option D × Sto := (some q.1, q.2)
def seqD : D → Option (List D)
  | .lst ds => some ds
  | .tup ds => some ds
  | _ => none
mutual
def evE (M : Mch) : E → Sl → Sto → Option (D × Sto)
  | .v i, l, s => (match l[i]? with | some (some d) => some (d, s) | _ => none)
  | .k d, _, s => some (d, s)
  | .bin op a b, l, s => (evE M a l s).bind fun p => (evE M b l p.2).bind fun q => (binD op p.1 q.1).map fun d => (d, q.2)
  | .neg a, l, s => (evE M a l s).bind fun p => match p.1 with | .int i => some (.int (-i), p.2) | _ => none
  | .cmp op a b, l, s => (evE M a l s).bind fun p => (evE M b l p.2).bind fun q => (cmpD op p.1 q.1).map fun d => (.bl d, q.2)
  | .and a b, l, s => (evE M a l s).bind fun p => match p.1 with | .bl true => evE M b l p.2 | .bl false => some (.bl false, p.2) | _ => none
  | .or a b, l, s => (evE M a l s).bind fun p => match p.1 with | .bl false => evE M b l p.2 | .bl true => some (.bl true, p.2) | _ => none
  | .not a, l, s => (evE M a l s).bind fun p => match p.1 with | .bl b => some (.bl (!b), p.2) | _ => none
  | .ife c a b, l, s => (evE M c l s).bind fun p => match p.1 with | .bl true => evE M a l p.2 | .bl false => evE M b l p.2 | _ => none
  | .tup es, l, s => (evEs M es l s).bind fun p => if p.1.length ≤ mostL then some (.tup p.1, p.2) else none
  | .lst own es, l, s => (evEs M es l s).bind fun p => if p.1.length ≤ mostL then (match own with
    | true => some (.loc p.2.length, p.2 ++ [O.lst p.1])
    | false => some (.lst p.1, p.2)) else none
  | .ix a i, l, s => (evE M a l s).bind fun p => (evE M i l p.2).bind fun q => (ixD q.2 p.1 q.1).map fun d => (d, q.2)
  | .slu a b, l, s => (evE M a l s).bind fun p => (evE M b l p.2).bind fun q => (sluD p.1 q.1).map fun d => (d, q.2)
  | .fld a f, l, s => (evE M a l s).bind fun p => (fldD p.2 f p.1).map fun d => (d, p.2)
  | .call f iso es, l, s => (evEs M es l s).bind fun p => callD M f iso p.1 p.2
  | .new c es, l, s => (evEs M es l s).bind fun p => newD M c p.1 p.2
  | .newk c pm es es', l, s => (evEs M es l s).bind fun p => (evEs M es' l p.2).bind fun q => newD M c (p.1 ++ permD pm q.1) q.2
  | .callk f iso pm es es', l, s => (evEs M es l s).bind fun p => (evEs M es' l p.2).bind fun q => callD M f iso (p.1 ++ permD pm q.1) q.2
  | .sup c f es, l, s => match l[0]? with
    | some (some d0) => if clsD s d0 = some c then (evEs M es l s).bind fun p => M.call f (d0 :: p.1) p.2 else none
    | _ => none
  | .bi b es, l, s => (evEs M es l s).bind fun p => (biD p.2 b p.1).map fun d => (d, p.2)
  | .isi a ts, l, s => (evE M a l s).bind fun p => ((tyD p.2 p.1).bind fun t => anyIs M.tb t ts).map fun b => (.bl b, p.2)
  | .tnl a, l, s => (evE M a l s).bind fun p => (tnlD M p.1 p.2).map fun d => (d, p.2)
  | .eqo neg a b, l, s => (evE M a l s).bind fun p => (evE M b l p.2).bind fun q => eqoD M neg p.1 q.1 q.2
  | .bo a, l, s => (evE M a l s).bind fun p => boD M p.1 p.2
  | .lc it t c e w, l, s => (evE M it l s).bind fun p => (seqD p.1).bind fun ds =>
      (turns (fun d s => (asg t d (wipeD l w)).bind fun l1 => match c with
        | none => (evE M e l1 s).map some1
        | some c => (evE M c l1 s).bind fun q => match q.1 with
          | .bl true => (evE M e l1 q.2).map some1
          | .bl false => some (none, q.2)
          | _ => none) ds p.2).bind fun q => if q.1.length ≤ mostL then some (.lst q.1, q.2) else none
  | .lcr n t c e w, l, s => (evE M n l s).bind fun p => (rngD p.1).bind fun ds =>
      (turns (fun d s => (asg t d (wipeD l w)).bind fun l1 => match c with
        | none => (evE M e l1 s).map some1
        | some c => (evE M c l1 s).bind fun q => match q.1 with
          | .bl true => (evE M e l1 q.2).map some1
          | .bl false => some (none, q.2)
          | _ => none) ds p.2).bind fun q => if q.1.length ≤ mostL then some (.lst q.1, q.2) else none
def evEs (M : Mch) : List E → Sl → Sto → Option (List D × Sto)
  | [], _, s => some ([], s)
  | e :: es, l, s => (evE M e l s).bind fun p => (evEs M es l p.2).map fun q => (p.1 :: q.1, q.2)
end

/-! ### statements -/
/-- the turns of a for -/
def fors (f : D → Sl → Sto → Option (Out × Sl × Sto)) : List D → Sl → Sto → Option (Out × Sl × Sto)
  | [], l, s => some (.nx, l, s)
  | x :: xs, l, s => (f x l s).bind fun p => match p.1 with | .nx => fors f xs p.2.1 p.2.2 | .ret d => some (.ret d, p.2.1, p.2.2)
/-- a store to a field of the n-th object -/
def setfD (M : Mch) (f : Str) (d : D) (s : Sto) : D → Option Sto
  | .loc n => (match s[n]? with
    | some (.ins c ns vs) => (M.tb.cl c).bind fun C => if C.attrs.contains f && decide (ns.length < 100) && decide (f ≠ "known") then some (s.set n (.ins c (putN f ns) (putV f d ns vs))) else none
    | _ => none)
  | _ => none
def setxD (i d : D) (s : Sto) : D → Option Sto
  | .loc n => (match s[n]?, i with
    | some (.lst l), .int i => if 0 ≤ i ∧ i < l.length then some (s.set n (.lst (l.set i.toNat d))) else none
    | _, _ => none)
  | _ => none
mutual
/-- a store of a statement -/
def asgS (M : Mch) : TgS → D → Sl → Sto → Option (Sl × Sto)
  | .nm i, d, l, s => some (l.set i (some d), s)
  | .fld o f, d, l, s => (evE M o l s).bind fun q => (setfD M f d q.2 q.1).map fun s1 => (l, s1)
  | .sub o i, d, l, s => (evE M o l s).bind fun q => (evE M i l q.2).bind fun r => (setxD r.1 d r.2 q.1).map fun s1 => (l, s1)
  | .tup ts, d, l, s => match d with
    | .tup ds => asgSs M ts ds l s
    | _ => none
def asgSs (M : Mch) : List TgS → List D → Sl → Sto → Option (Sl × Sto)
  | [], [], l, s => some (l, s)
  | t :: ts, d :: ds, l, s => (asgS M t d l s).bind fun q => asgSs M ts ds q.1 q.2
  | _, _, _, _ => none
end
mutual
def evS (M : Mch) : S → Sl → Sto → Option (Out × Sl × Sto)
  | .set t e, l, s => (evE M e l s).bind fun p => (asgS M t p.1 l p.2).map fun q => (.nx, q.1, q.2)
  | .par i j a b, l, s => (evE M a l s).bind fun p => (evE M b l p.2).map fun q => (.nx, (l.set i (some p.1)).set j (some q.1), q.2)
  | .expr e, l, s => (evE M e l s).map fun p => (.nx, l, p.2)
  | .ret e, l, s => (evE M e l s).map fun p => (.ret p.1, l, p.2)
  | .retN, l, s => some (.ret .non, l, s)
  | .pass, l, s => some (.nx, l, s)
  | .raise, _, _ => none
  | .ite c a b, l, s => (evE M c l s).bind fun p => match p.1 with | .bl true => evSs M a l p.2 | .bl false => evSs M b l p.2 | _ => none
  | .for it t b, l, s => (evE M it l s).bind fun p => (seqD p.1).bind fun ds => fors (fun d l s => (asg t d l).bind fun l1 => evSs M b l1 s) ds l p.2
  | .forr n t b, l, s => (evE M n l s).bind fun p => (rngD p.1).bind fun ds => fors (fun d l s => (asg t d l).bind fun l1 => evSs M b l1 s) ds l p.2
def evSs (M : Mch) : List S → Sl → Sto → Option (Out × Sl × Sto)
  | [], l, s => some (.nx, l, s)
  | a :: r, l, s => (evS M a l s).bind fun p => match p.1 with | .nx => evSs M r p.2.1 p.2.2 | .ret d => some (.ret d, p.2.1, p.2.2)
end

/-! ### defs -/
structure Fn where
  /-- slots, parameters, is the last one *args -/
  nS : Nat
  nP : Nat
  star : Bool
  body : List S
/-- the slots at the start -/
def startD (F : Fn) (ds : List D) : Option Sl := match F.star with
  | false => if ds.length = F.nP then some (ds.map some ++ List.replicate (F.nS - F.nP) none) else none
  | true => if F.nP ≤ ds.length + 1 ∧ ds.length ≤ mostL then some ((ds.take (F.nP - 1)).map some ++ some (.tup (ds.drop (F.nP - 1))) :: List.replicate (F.nS - F.nP) none) else none
def outD : Out × Sl × Sto → D × Sto
  | (.nx, _, s) => (.non, s)
  | (.ret d, _, s) => (d, s)
def callF (tb : Tb) (fn : Nat → Option Fn) : Nat → Nat → List D → Sto → Option (D × Sto)
  | 0, _, _, _ => none
  | k + 1, f, ds, s => (fn f).bind fun F => (startD F ds).bind fun l => (evSs ⟨tb, callF tb fn k, callF tb fn (k - 2)⟩ F.body l s).map outD
end G

/-! Part D: the rules, over the hand layer's. -/
namespace G
open PySem L2

/-- an expression's own reading -/
def semE (X : Cx) (e : Expr) : TE := fun σ H Q => ∀ (pins : List (Addr × Obj)) (s : Shared), Inv X pins σ H s → wpAny (model X.prog X.w) X.A (eval e X.env) (EP X pins σ Q) X.xe s
def semT (X : Cx) (e : Expr) : TT := fun σ H Q => ∀ (pins : List (Addr × Obj)) (s : Shared), Inv X pins σ H s → wpAny (model X.prog X.w) X.A (isTrue e X.env (eval e X.env)) (TP X pins σ Q) X.xe s
def semW (X : Cx) (e : Expr) : TT := fun σ H Q => ∀ (whole : Sem Value) (pins : List (Addr × Obj)) (s : Shared), Inv X pins σ H s → wpAny (model X.prog X.w) X.A (isTrue e X.env whole) (TP X pins σ Q) X.xe s
def semA (X : Cx) (es : List Expr) : TA := fun σ H Q => ∀ (pos : Pos) (pins : List (Addr × Obj)) (s : Shared), Inv X pins σ H s → wpAny (model X.prog X.w) X.A (spliced (backTo pos (starEach es X.env))) (AP X pins σ Q) X.xe s
theorem pe_sem {X : Cx} {e : Expr} : PE X e (semE X e) := ⟨fun pins s _ _ _ I h => h pins s I⟩
theorem pt_sem {X : Cx} {e : Expr} : PT X e (semT X e) := ⟨fun pins s _ _ _ I h => h pins s I⟩
theorem pw_sem {X : Cx} {e : Expr} : PW X e (semW X e) := ⟨fun wh pins s _ _ _ I h => h wh pins s I⟩
theorem pa_sem {X : Cx} {es : List Expr} : PA X es (semA X es) := ⟨fun pos pins s _ _ _ I h => h pos pins s I⟩
theorem semE.of {X : Cx} {e : Expr} {t : TE} {σ : St} {H : Hp} {Q : VK} (p : PE X e t) (h : t σ H Q) : semE X e σ H Q := fun pins s I => p.run pins s σ H Q I h
theorem semT.of {X : Cx} {e : Expr} {t : TT} {σ : St} {H : Hp} {Q : Bool → Hp → Prop} (p : PT X e t) (h : t σ H Q) : semT X e σ H Q := fun pins s I => p.run pins s σ H Q I h
theorem semW.of {X : Cx} {e : Expr} {t : TT} {σ : St} {H : Hp} {Q : Bool → Hp → Prop} (p : PW X e t) (h : t σ H Q) : semW X e σ H Q := fun wh pins s I => p.run wh pins s σ H Q I h
theorem semA.of {X : Cx} {e : List Expr} {t : TA} {σ : St} {H : Hp} {Q : List V → Hp → Prop} (p : PA X e t) (h : t σ H Q) : semA X e σ H Q := fun pos pins s I => p.run pos pins s σ H Q I h

/-- the arguments bind as these values in a row do -/
def SameB (K : PySem.W.Frag) (f : Addr) (args : Args) (us : List Value) : Prop := ∀ o fd, K.lookup f = some o → o.data = .func fd → bindArgs fd args = bindArgs fd ⟨us, []⟩
/-- a promise by values in a row, where no repr goes on -/
def FnQ (P : Program) (w : World) (K : PySem.W.Frag) (mg : Str → Option Value) (base : Heap) (k : Nat) (f : Addr) (sp : Sp) : Prop :=
  ∀ (A : Around) (out : List Env) (s : Shared) (H : Hp) (args : Args) (us : List Value) (vs : List V) (Q : VK) (E : XK),
    Room k A → A.guards = some [] → Env0 P w K mg base A out s H → SameB K f args us → Vals vs us → sp vs H Q E → codeAny (model P w) A (.call (.ref f) args) (CR CX0 out P w H s Q E) s
theorem FnQ.mono {P : Program} {w : World} {K : PySem.W.Frag} {mg : Str → Option Value} {base : Heap} {j k : Nat} {f : Addr} {sp : Sp} (F : FnQ P w K mg base j f sp) (h : j ≤ k) : FnQ P w K mg base k f sp :=
  fun A out s H args us vs Q E hr => F A out s H args us vs Q E (hr.mono h)
theorem FnQ.imp {P : Program} {w : World} {K : PySem.W.Frag} {mg : Str → Option Value} {base : Heap} {k : Nat} {f : Addr} {sp sp' : Sp} (F : FnQ P w K mg base k f sp) (h : ∀ vs H Q E, sp' vs H Q E → sp vs H Q E) : FnQ P w K mg base k f sp' :=
  fun A out s H args us vs Q E hr hg e0 sb r q => F A out s H args us vs Q E hr hg e0 sb r (h _ _ _ _ q)
section
variable {X : Cx} {pins : List (Addr × Obj)} {σ : St} {H : Hp} {s : Shared}
theorem run_fnQ {k : Nat} {f : Addr} {sp : Sp} {E : XK} {Q : VK} {args : Args} {us : List Value} {vs : List V} (sb : SameB X.K f args us) (F : FnQ X.prog X.w X.K X.mg X.base k f sp) (hr : Room k X.A) (gd : X.A.guards = some []) (I : Inv X pins σ H s) (r : Vals vs us) (h : sp vs H Q E) :
    codeAny (model X.prog X.w) X.A (.call (.ref f) args) (fun z s' => match z with | .ok (.ret v) => EP X pins σ Q v s' | .ok _ => False | .error e => X.xe e s') s := by
  refine codeAny_mono (F X.A X.stack s H args us vs Q E hr gd I.env0 sb r h) fun z s' hq => ?_
  match z, hq with
  | .error e, hq => exact pass0 pins σ H s e s' I hq
  | .ok (.ret u), hq => exact I.after hq
/-- a plain call of a def -/
theorem pe_callQ {k : Nat} {f : Addr} {sp : Sp} {E : XK} {n : Str} {e : Expr} {es : List Expr} {t : TA} {p pos : Pos} (F : FnQ X.prog X.w X.K X.mg X.base k f sp) (hr : Room k X.A) (gd : X.A.guards = some []) (hk : PySem.W.keepIn X.K (.ref f) = true)
    (hg : Gl X n) (hm : X.mg n = some (.ref f)) (ha : PA X (e :: es) t) (hd : (n == ("__debug__" : Str)) = false) (he : starEach (e :: es) X.env = (false, eval e X.env) :: starEach es X.env)
    (hp : (backTo pos (starEach es X.env)).any (·.1) = false) : PE X (.Call (.Name n p) (e :: es) [] pos) (fun σ H Q => t σ H fun vs H1 => sp vs H1 Q E) := by
  refine ⟨fun pins s σ H Q I h => wpAny_Call_Name_kw (ld_glob I hg hm ?_ hd)⟩
  refine PySem.W.callWith_K (h₀ := X.base) I.ok.mod.kin hk (thn (ha.run pos pins s σ H _ I h) fun us s1 q => ?_) he hp
  obtain ⟨vs, H1, I1, r, q⟩ := q
  exact ⟨I1.kIn, wpAny_call (run_fnQ (fun _ _ _ _ => rfl) F hr gd I1 r q)⟩
theorem make_g {A : Around} {C : Addr} {us : List Value} {kw : List (Str × Value)} : (A.under (.builtin "type.__call__" ⟨.ref C :: us, kw⟩)).guards = A.guards := by
  first | rfl | simp [Around.under, Code.isGuard, Code.guards, guardIds, pushGuards]
theorem deeper_g {A : Around} {e : Env} : (A.deeper e).guards = A.guards := rfl
theorem in1_g {A : Around} : A.in1.guards = A.guards := rfl
/-- an instance is made: its __init__ runs -/
theorem run_makeQ {k : Nat} {C f : Addr} {sp : Sp} {E : XK} {Q : VK} {us ws : List Value} {kw : List (Str × Value)} {vs : List V} (sb : ∀ u, SameB X.K f ⟨u :: ws, kw⟩ (u :: us)) (m : Mk X.K C f) (F : FnQ X.prog X.w X.K X.mg X.base k f sp) (hr : Room (k + 1) X.A) (gd : X.A.guards = some []) (I : Inv X pins σ H s) (r : Vals vs us)
    (h : ∀ i d, H i = none → H d = none → d ≠ i → sp (V.ref i :: vs) (upd (upd H d (.own i)) i (.ins C d [])) (fun v H2 => v = .non ∧ Q (.ref i) H2) E) :
    wpAny (model X.prog X.w) X.A (call (.ref C) ws kw) (EP X pins σ Q) X.xe s := by
  have h1 := h _ _ (I.hok.fresh (Nat.le_succ _)) (I.hok.fresh (Nat.le_refl _)) (Nat.ne_of_lt (Nat.lt_succ_self _))
  have J := Inv.made (C := C) I
  refine wpAny_call (make_map (f := f) I.kIn m.makes m.init (beq_iff_eq.mp m.fn) (codeAny_mono (F _ X.stack _ _ _ (.ref (s.heap.objs.size + 1) :: us) _ _ E (hr.make C ws kw) (make_g.trans gd) (J.env0.make C ws kw) (sb _) (Paired.cons (show RelV (V.ref (s.heap.objs.size + 1)) (Value.ref (s.heap.objs.size + 1)) from rfl) r) h1) fun z s' hq => ?_))
  match z, hq with
  | .error e, hq => exact pass0 pins σ _ _ e s' J hq
  | .ok (.ret u), hq =>
    obtain ⟨v, H', J3, rv, ev, q3⟩ := J.after hq
    subst ev
    exact ⟨rv, V.ref (s.heap.objs.size + 1), H', J3, rfl, q3⟩
theorem pe_makeQ {k : Nat} {C f : Addr} {sp : Sp} {E : XK} {n : Str} {e : Expr} {es : List Expr} {t : TA} {p pos : Pos} (m : Mk X.K C f) (F : FnQ X.prog X.w X.K X.mg X.base k f sp) (hr : Room (k + 1) X.A) (gd : X.A.guards = some [])
    (hg : Gl X n) (hm : X.mg n = some (.ref C)) (ha : PA X (e :: es) t) (hd : (n == ("__debug__" : Str)) = false) (he : starEach (e :: es) X.env = (false, eval e X.env) :: starEach es X.env)
    (hp : (backTo pos (starEach es X.env)).any (·.1) = false) : PE X (.Call (.Name n p) (e :: es) [] pos) (StX.tMakeR C sp E t) := by
  refine ⟨fun pins s σ H Q I h => wpAny_Call_Name_kw (ld_glob I hg hm ?_ hd)⟩
  refine PySem.W.callWith_K (h₀ := X.base) I.ok.mod.kin m.kp (thn (ha.run pos pins s σ H _ I h) fun us s1 q => ?_) he hp
  obtain ⟨vs, H1, I1, r, q⟩ := q
  exact ⟨I1.kIn, run_makeQ (fun _ _ _ _ _ => rfl) m F hr gd I1 r q⟩
end

/-- a call's promise, by the evaluator -/
def spD (X : Pc) (g : Gi) (call : Nat → List D → Sto → Option (D × Sto)) (f : Nat) : Sp := fun vs H Q _ => ∃ (w : Wd) (ds : List D) (s : Sto) (d : D) (s' : Sto), w.H = H ∧ call f ds s = some (d, s') ∧ Reps X w ds vs ∧ SG X g w s ∧
  ∀ v w', Le w w' → Rep X w' d v → SG X g w' s' → Q v w'.H

/-- the program as it stands -/
structure Pg where
  P : Program
  w : World
  mg : Str → Option Value
  base : Heap
  /-- a def's name, where it is the module's -/
  nm : Nat → Option Str
/-- a class as the top has made it -/
structure ClOk (X : Pc) (p : Pg) (M : Mch) (c : Str) (C : Cl) : Prop where
  tn : ∃ (o : Obj) (z : Str) (t : Tok), X.K.lookup (X.cad c) = some o ∧ o.cls = .type "type" ∧ (o.slots[2]?).join = some (.str z t) ∧ z.length ≤ 5592405 ∧ Txt.lower z = C.low ∧ PySem.W.readsIn X.K (X.cad c) (.type "type") = true ∧
    PySem.W.findCls X.K (.ref (X.cad c)) (.type "type") "__name__" = some (.get (.builtin "getset_descriptor.__get__") (.builtin "type.__name__") (.ref (X.cad c)) (.type "type"))
  cl : Cls X.K (X.cad c)
  mg : p.mg c = some (.ref (X.cad c))
  na : ∀ f ∈ C.attrs, NoAttr X.K (X.cad c) f
  me : ∀ q ∈ C.meths, Meth X.K (X.cad c) q.1 (X.fad q.2)
  mkr : Mk X.K (X.cad c) (X.fad C.init)
/-- the type of a value, as the model names it -/
def tyV (X : Pc) : Ty → Value
  | .ty n => .type n
  | .cls c => .ref (X.cad c)
/-- what stands at the run: k the room -/
structure Mok (X : Pc) (g : Gi) (p : Pg) (M : Mch) (k : Nat) : Prop where
  call : ∀ f, FnQ p.P p.w X.K p.mg p.base k (X.fad f) (spD X g M.call f)
  init : (∃ j, j + 2 ≤ k ∧ ∀ f, FnQ p.P p.w X.K p.mg p.base j (X.fad f) (spD X g M.init f)) ∨ ∀ f ds s, M.init f ds s = none
  sm : ∃ o, p.base.get? sysModules = some o
  blt : ∀ b ∈ ["len", "int", "abs", "tuple", "repr", "bool", "isinstance", "type", "range", "list", "str", "dict"], p.mg (Str.ofString b) = none
  nm : ∀ f x, p.nm f = some x → p.mg x = some (.ref (X.fad f)) ∧ PySem.W.keepIn X.K (.ref (X.fad f)) = true
  cls : ∀ c C, M.tb.cl c = some C → ClOk X p M c C
  nf : ∀ c t, M.tb.nf c t = true → PySem.W.notFirst X.K (X.cad c) (tyV X t) = true
  nes : ∀ c C, M.tb.cl c = some C → ∀ f, C.meths.lookup ("__eq__" : Str) = some f → PySem.W.findIn X.K (.ref (X.cad c)) "__eq__" = some (some (.ref (X.fad f))) ∧ PySem.W.isFn X.K (.ref (X.fad f)) = true ∧ PySem.W.findIn X.K (.ref (X.cad c)) "__ne__" = some (some (.builtin "object.__ne__"))
  bls : ∀ c C, M.tb.cl c = some C → ∀ f, C.meths.lookup ("__bool__" : Str) = some f → PySem.W.findIn X.K (.ref (X.cad c)) "__bool__" = some (some (.ref (X.fad f))) ∧ PySem.W.isFn X.K (.ref (X.fad f)) = true
  ism : ∀ c T b, M.tb.isa (.cls c) T = some b → ∃ C, M.tb.cl c = some C
  isa : ∀ t T b, M.tb.isa t T = some b → PySem.W.kitOne X.K (tyV X t) (tyV X T) = some b
  isc : ∀ c C, M.tb.cl c = some C → PySem.W.findIn X.K (.ref (X.cad c)) "__class__" = some (some (.builtin "object.__class__")) ∧ PySem.W.mroIn X.K (X.cad c) (.type "object") = some true
  oc : PySem.W.specialIn X.K (.builtin "object.__class__") "__get__" = some (some (.builtin "getset_descriptor.__get__")) ∧ PySem.W.takesIn X.K (.builtin "object.__class__") = some true
/-- where a def's body, or a comprehension's block, runs -/
structure Con1 (X : Pc) (p : Pg) (k : Nat) (N : List Str) (sc : Scope) (x : Cx) : Prop where
  P : x.prog = p.P
  w : x.w = p.w
  K : x.K = X.K
  mg : x.mg = p.mg
  base : x.base = p.base
  N : x.N = N
  sc : x.env.scope = sc
  calm : x.calm = true
  room : Room k x.A
  nd : x.N.Nodup
  gd : x.A.guards = some []

section
variable (X : Pc) (g : Gi) (p : Pg) (M : Mch) (k : Nat) (N : List Str) (sc : Scope)
/-- an expression of the inner language tells what the written one does -/
def EOk (e : E) (a : Expr) : Prop := ∀ (x : Cx), Con1 X p k N sc x → ∀ (w : Wd) (l : Sl) (s : Sto) (d : D) (s' : Sto) (σ : St), evE M e l s = some (d, s') → SG X g w s → SlV X w l σ →
  ∀ Q : VK, (∀ v w', Le w w' → Rep X w' d v → SG X g w' s' → Q v w'.H) → semE x a σ w.H Q
def TOk (e : E) (a : Expr) : Prop := ∀ (x : Cx), Con1 X p k N sc x → ∀ (w : Wd) (l : Sl) (s : Sto) (b : Bool) (s' : Sto) (σ : St), evE M e l s = some (.bl b, s') → SG X g w s → SlV X w l σ →
  ∀ Q : Bool → Hp → Prop, (∀ w', Le w w' → SG X g w' s' → Q b w'.H) → semT x a σ w.H Q
def WOk (e : E) (a : Expr) : Prop := ∀ (x : Cx), Con1 X p k N sc x → ∀ (w : Wd) (l : Sl) (s : Sto) (b : Bool) (s' : Sto) (σ : St), evE M e l s = some (.bl b, s') → SG X g w s → SlV X w l σ →
  ∀ Q : Bool → Hp → Prop, (∀ w', Le w w' → SG X g w' s' → Q b w'.H) → semW x a σ w.H Q
def AOk (es : List E) (as : List Expr) : Prop := ∀ (x : Cx), Con1 X p k N sc x → ∀ (w : Wd) (l : Sl) (s : Sto) (ds : List D) (s' : Sto) (σ : St), evEs M es l s = some (ds, s') → SG X g w s → SlV X w l σ →
  ∀ Q : List V → Hp → Prop, (∀ vs w', Le w w' → Reps X w' ds vs → SG X g w' s' → Q vs w'.H) → semA x as σ w.H Q
end
end G

namespace G
open PySem L2
section
variable {X : Pc} {g : Gi} {p : Pg} {M : Mch} {k : Nat} {N : List Str} {sc : Scope}
variable {x : Cx} {w : Wd} {l : Sl} {s s1 s2 s' : Sto} {σ : St} {d d1 d2 : D}

/-- two values in a row -/
theorem two {a b : E} {ea eb : Expr} (ha : EOk X g p M k N sc a ea) (hb : EOk X g p M k N sc b eb) (hx : Con1 X p k N sc x) (h1 : evE M a l s = some (d1, s1)) (h2 : evE M b l s1 = some (d2, s2)) (sg : SG X g w s) (sl : SlV X w l σ) {r : R2} {Q : VK}
    (h : ∀ v1 v2 w', Le w w' → Rep X w' d1 v1 → Rep X w' d2 v2 → SG X g w' s2 → r v1 v2 w'.H Q) : tOp r (semE x ea) (semE x eb) σ w.H Q :=
  ha x hx w l s d1 s1 σ h1 sg sl _ fun v1 w1 l1 r1 g1 => hb x hx w1 l s1 d2 s2 σ h2 g1 (sl.mono l1) _ fun v2 w2 l2 r2 g2 => h v1 v2 w2 (l1.trans l2) (r1.mono l2 d1) r2 g2

theorem inv2 {α β γ : Type} {o : Option α} {f : α → Option β} {r : β} (h : o.bind f = some r) : ∃ a, o = some a ∧ f a = some r := Option.bind_eq_some_iff.mp h
theorem invm {α β : Type} {o : Option α} {f : α → β} {r : β} (h : o.map f = some r) : ∃ a, o = some a ∧ f a = r := Option.map_eq_some_iff.mp h

theorem ok_v {i : Nat} {n : Str} {pos : Pos} (hN : N[i]? = some n) (hv : Vis sc n) (hd : (n == ("__debug__" : Str)) = false) (hcd : (n == ("__classdict__" : Str)) = false) : EOk X g p M k N sc (.v i) (.Name n pos) := by
  intro x hx w l s d s' σ h sg sl Q q
  unfold evE at h
  split at h
  · rename_i d0 e0
    cases h
    obtain ⟨v, e1, r⟩ := sl.2 i _ e0
    exact semE.of (pe_var (by rw [hx.N]; exact hN) (by rw [hx.sc]; exact hv) hd hcd) ⟨v, e1, q v w (Le.refl w) r sg⟩
  · cases h

/-- a written constant -/
inductive KOk : D → Const → Prop
  | non : KOk .non .none
  | bl (b : Bool) : KOk (.bl b) (.bool b)
  | int (i : Int) : KOk (.int i) (.int i)
  | str (z : Str) : KOk (.str z) (.str z)
theorem ok_k {d : D} {c : Const} {j : Nat} {pos : Pos} (h : KOk d c) : EOk X g p M k N sc (.k d) (.Constant c j pos) := by
  intro x hx w l s d' s' σ e sg sl Q q
  unfold evE at e
  cases e
  cases h with
  | non => exact semE.of pe_non (q _ w (Le.refl w) rfl sg)
  | bl b => exact semE.of pe_bl (q _ w (Le.refl w) rfl sg)
  | int i => exact semE.of pe_int (q _ w (Le.refl w) rfl sg)
  | str z => exact semE.of pe_str (q _ w (Le.refl w) rfl sg)

theorem intB_ok {i : Int} (h : intB i = true) : -(2 ^ 64) < i ∧ i < 2 ^ 64 := by
  unfold intB at h
  simp only [Bool.and_eq_true, decide_eq_true_eq] at h
  exact h
def bopA : Bop → Operator
  | .add => .Add | .sub => .Sub | .mul => .Mult | .fdiv => .FloorDiv | .mod => .Mod | .pow => .Pow
theorem bin_int {op : Bop} {i j : Int} {d : D} {x : Cx} (h : binI op i j = some d) {v1 v2 : V} (r1 : v1 = .int i) (r2 : v2 = .int j) : ∃ r : R2, OpR x (binaryOp (bopA op)) r ∧ ∃ n, d = .int n ∧ ∀ H Q, Q (.int n) H → r v1 v2 H Q := by
  subst r1 r2
  cases op with
  | add => cases h; exact ⟨_, op_add, _, rfl, fun H Q q => ⟨i, j, rfl, rfl, q⟩⟩
  | sub => cases h; exact ⟨_, op_sub, _, rfl, fun H Q q => ⟨i, j, rfl, rfl, q⟩⟩
  | mul =>
    simp only [binI] at h
    split at h
    · rename_i c
      cases h
      refine ⟨_, op_mul, _, rfl, fun H Q q => ⟨i, j, rfl, rfl, ?_, q⟩⟩
      rcases Bool.or_eq_true_iff.mp c with c | c
      · exact .inl (intB_ok c)
      · exact .inr (intB_ok c)
    · cases h
  | fdiv =>
    simp only [binI] at h
    split at h
    · rename_i c; cases h; exact ⟨_, op_fdiv, _, rfl, fun H Q q => ⟨i, j, rfl, rfl, c, q⟩⟩
    · cases h
  | mod =>
    simp only [binI] at h
    split at h
    · rename_i c; cases h; exact ⟨_, op_mod, _, rfl, fun H Q q => ⟨i, j, rfl, rfl, c, q⟩⟩
    · cases h
  | pow =>
    simp only [binI] at h
    split at h
    · rename_i c; cases h; exact ⟨_, op_pow, _, rfl, fun H Q q => ⟨i, j, rfl, rfl, c, q⟩⟩
    · cases h
theorem mostL_line {n : Nat} (h : n ≤ mostL) : n ≤ sizeLine := Nat.le_trans h (by decide)
theorem mostL_lt {n : Nat} (h : n ≤ mostL) : n < sizeLine := Nat.lt_of_le_of_lt h (by decide)

theorem ok_bin {op : Bop} {a b : E} {ea eb : Expr} {pos : Pos} (ha : EOk X g p M k N sc a ea) (hb : EOk X g p M k N sc b eb) : EOk X g p M k N sc (.bin op a b) (.BinOp ea (bopA op) eb pos) := by
  intro x hx w l s d s' σ h sg sl Q q
  unfold evE at h
  obtain ⟨⟨d1, s1⟩, h1, h⟩ := inv2 (γ := Unit) h
  obtain ⟨⟨d2, s2⟩, h2, h⟩ := inv2 (γ := Unit) h
  obtain ⟨d0, h3, h⟩ := invm h
  cases h
  cases d1 with
  | int i =>
    cases d2 with
    | int j =>
      have h4 : binI op i j = some d := h3
      obtain ⟨r, ho, n, e, hr⟩ := bin_int (x := x) h4 (v1 := .int i) (v2 := .int j) rfl rfl
      subst e
      refine semE.of (pe_op ho pe_sem pe_sem) (two ha hb hx h1 h2 sg sl fun v1 v2 w' le r1 r2 sg' => ?_)
      cases r1
      cases r2
      exact hr _ _ (q _ w' le rfl sg')
    | _ => cases h3
  | lst l1 =>
    cases op with
    | add =>
      cases d2 with
      | lst l2 =>
        have h4 : (if l1.length + l2.length ≤ mostL then some (D.lst (l1 ++ l2)) else none) = some d := h3
        split at h4
        · rename_i hz
          cases h4
          refine semE.of (pe_op op_cat pe_sem pe_sem) (two ha hb hx h1 h2 sg sl fun v1 v2 w' le r1 r2 sg' => ?_)
          obtain ⟨a1, vs1, e1, q1, t1⟩ := r1
          obtain ⟨a2, vs2, e2, q2, t2⟩ := r2
          refine ⟨a1, a2, vs1, vs2, e1, e2, q1.1, q2.1, mostL_line (by rw [t1.length, t2.length]; exact hz), fun np hp => ?_⟩
          exact q _ _ (le.trans (Le.add hp)) (.newL sg' hp (t1.append t2)) (sg'.add hp Fine.lst)
        · cases h4
      | _ => cases h3
    | mul =>
      cases d2 with
      | int n =>
        have h4 : (if 0 ≤ n ∧ n ≤ 1000 ∧ l1.length * n.toNat ≤ mostL then some (D.lst (List.replicate n.toNat l1).flatten) else none) = some d := h3
        split at h4
        · rename_i hz
          cases h4
          refine semE.of (pe_op op_rep pe_sem pe_sem) (two ha hb hx h1 h2 sg sl fun v1 v2 w' le r1 r2 sg' => ?_)
          obtain ⟨a1, vs1, e1, q1, t1⟩ := r1
          cases r2
          refine ⟨a1, n, vs1, e1, rfl, q1.1, by omega, by omega, mostL_line (by rw [t1.length]; exact hz.2.2), fun np hp => ?_⟩
          exact q _ _ (le.trans (Le.add hp)) (.newL sg' hp (t1.flat _)) (sg'.add hp Fine.lst)
        · cases h4
      | _ => cases h3
    | _ => cases h3
  | _ => cases h3
end
end G

/-! Part F: == of trees. -/
namespace G
open PySem L2 PySem.SeqAt
/-- a dict's object -/
abbrev dcO (dd : Option Addr) (es : Array DictEntry) (n : Nat) (sl : Array (Option Value)) : Obj := { cls := .type "dict", dict := dd, data := .dict es n, slots := sl }
abbrev sqO (c : String) (dd : Option Addr) (its : Array Value) (n : Nat) (sl : Array (Option Value)) : Obj := { cls := .type c, dict := dd, data := .seq its n, slots := sl }
abbrev IsDc (h : Heap) (a : Addr) : Prop := ∃ (dd : Option Addr) (es : Array DictEntry) (n : Nat) (sl : Array (Option Value)), h.get? a = some (dcO dd es n sl)
/-- two values that are not one, by their rich comparison -/
theorem eq_rcL {A : Around} {s : Shared} {a : Addr} {v : Value} {b : Bool} (hne : (Value.ref a == v) = false) (h : RcAt A s (.ref a) v b) : EqAt A s (.ref a) v b := fun prog w E Q q => by
  unfold eqBool
  refine wpAny_holding (wpAny_ite_split (fun e => ?_) fun _ => ?_)
  · rw [hne] at e; cases e
  · exact wpAny_bind (h prog w E _ (wpAny_truthy_bool q))
theorem eq_rcR {A : Around} {s : Shared} {a : Addr} {v : Value} {b : Bool} (hf : ∀ i t, v ≠ .float i t) (hne : (v == Value.ref a) = false) (h : RcAt A s v (.ref a) b) : EqAt A s v (.ref a) b := fun prog w E Q q => by
  unfold eqBool
  refine wpAny_holding (wpAny_ite_split (fun e => ?_) fun _ => ?_)
  · rw [hne] at e; cases e
  · cases v with
    | float i t => exact absurd rfl (hf i t)
    | _ => exact wpAny_bind (h prog w E _ (wpAny_truthy_bool q))
theorem dcNone (a : Addr) (dd : Option Addr) (es : Array DictEntry) (n : Nat) (sl : Array (Option Value)) : Meets (Builtin.«dict.__eq__» ⟨[.ref a, .none], []⟩) (fun _ R s => s.heap.get? a = some (dcO dd es n sl) ∧ R (.ok (.ret .notImplemented)) s) :=
  .of_wp fun _ _ _ _ s h => by
    obtain ⟨_, _, _, _, _⟩ := s
    obtain ⟨ho0, h⟩ := h
    have f1 := F.sub_NoneType_dict
    wp_walk using wpAny_loadPart' ho0
    exact ⟨_, rfl, h⟩
theorem dcBool (a : Addr) (dd : Option Addr) (es : Array DictEntry) (n : Nat) (sl : Array (Option Value)) (b : Bool) : Meets (Builtin.«dict.__eq__» ⟨[.ref a, .bool b], []⟩) (fun _ R s => s.heap.get? a = some (dcO dd es n sl) ∧ R (.ok (.ret .notImplemented)) s) :=
  .of_wp fun _ _ _ _ s h => by
    obtain ⟨_, _, _, _, _⟩ := s
    obtain ⟨ho0, h⟩ := h
    have f1 := F.sub_bool_dict
    wp_walk using wpAny_loadPart' ho0
    exact ⟨_, rfl, h⟩
theorem dcInt (a : Addr) (dd : Option Addr) (es : Array DictEntry) (n : Nat) (sl : Array (Option Value)) (i : Int) (u : Tok) : Meets (Builtin.«dict.__eq__» ⟨[.ref a, .int i u], []⟩) (fun _ R s => s.heap.get? a = some (dcO dd es n sl) ∧ R (.ok (.ret .notImplemented)) s) :=
  .of_wp fun _ _ _ _ s h => by
    obtain ⟨_, _, _, _, _⟩ := s
    obtain ⟨ho0, h⟩ := h
    have f1 := F.sub_int_dict
    wp_walk using wpAny_loadPart' ho0
    exact ⟨_, rfl, h⟩
theorem dcStr (a : Addr) (dd : Option Addr) (es : Array DictEntry) (n : Nat) (sl : Array (Option Value)) (z : Str) (u : Tok) : Meets (Builtin.«dict.__eq__» ⟨[.ref a, .str z u], []⟩) (fun _ R s => s.heap.get? a = some (dcO dd es n sl) ∧ R (.ok (.ret .notImplemented)) s) :=
  .of_wp fun _ _ _ _ s h => by
    obtain ⟨_, _, _, _, _⟩ := s
    obtain ⟨ho0, h⟩ := h
    have f1 := F.sub_str_dict
    wp_walk using wpAny_loadPart' ho0
    exact ⟨_, rfl, h⟩
theorem dc_list (a : Addr) (dd : Option Addr) (es : Array DictEntry) (n : Nat) (sl : Array (Option Value)) (l : Addr) (ld : Option Addr) (its : Array Value) (m : Nat) (ls : Array (Option Value)) : Meets (Builtin.«dict.__eq__» ⟨[.ref a, .ref l], []⟩) (fun _ R s => s.heap.get? a = some (dcO dd es n sl) ∧ s.heap.get? l = some (sqO "list" ld its m ls) ∧ R (.ok (.ret .notImplemented)) s) :=
  .of_wp fun _ _ _ _ s h => by
    obtain ⟨_, _, _, _, _⟩ := s
    obtain ⟨ho0, ho1, h⟩ := h
    have f1 := F.sub_list_dict
    wp_walk using wpAny_loadPart' ho0, wpAny_loadPart' ho1
    exact ⟨_, rfl, h⟩
theorem list_dc (a : Addr) (dd : Option Addr) (es : Array DictEntry) (n : Nat) (sl : Array (Option Value)) (l : Addr) (ld : Option Addr) (its : Array Value) (m : Nat) (ls : Array (Option Value)) : Meets (Builtin.«list.__eq__» ⟨[.ref l, .ref a], []⟩) (fun _ R s => s.heap.get? l = some (sqO "list" ld its m ls) ∧ s.heap.get? a = some (dcO dd es n sl) ∧ R (.ok (.ret .notImplemented)) s) :=
  .of_wp fun _ _ _ _ s h => by
    obtain ⟨_, _, _, _, _⟩ := s
    obtain ⟨ho0, ho1, h⟩ := h
    have f1 := F.sub_dict_list
    wp_walk using wpAny_loadPart' ho0, wpAny_loadPart' ho1
    exact ⟨_, rfl, h⟩
theorem dc_tuple (a : Addr) (dd : Option Addr) (es : Array DictEntry) (n : Nat) (sl : Array (Option Value)) (l : Addr) (ld : Option Addr) (its : Array Value) (m : Nat) (ls : Array (Option Value)) : Meets (Builtin.«dict.__eq__» ⟨[.ref a, .ref l], []⟩) (fun _ R s => s.heap.get? a = some (dcO dd es n sl) ∧ s.heap.get? l = some (sqO "tuple" ld its m ls) ∧ R (.ok (.ret .notImplemented)) s) :=
  .of_wp fun _ _ _ _ s h => by
    obtain ⟨_, _, _, _, _⟩ := s
    obtain ⟨ho0, ho1, h⟩ := h
    have f1 := F.sub_tuple_dict
    wp_walk using wpAny_loadPart' ho0, wpAny_loadPart' ho1
    exact ⟨_, rfl, h⟩
theorem tuple_dc (a : Addr) (dd : Option Addr) (es : Array DictEntry) (n : Nat) (sl : Array (Option Value)) (l : Addr) (ld : Option Addr) (its : Array Value) (m : Nat) (ls : Array (Option Value)) : Meets (Builtin.«tuple.__eq__» ⟨[.ref l, .ref a], []⟩) (fun _ R s => s.heap.get? l = some (sqO "tuple" ld its m ls) ∧ s.heap.get? a = some (dcO dd es n sl) ∧ R (.ok (.ret .notImplemented)) s) :=
  .of_wp fun _ _ _ _ s h => by
    obtain ⟨_, _, _, _, _⟩ := s
    obtain ⟨ho0, ho1, h⟩ := h
    have f1 := F.sub_dict_tuple
    wp_walk using wpAny_loadPart' ho0, wpAny_loadPart' ho1
    exact ⟨_, rfl, h⟩
theorem dcrBool (a : Addr) (dd : Option Addr) (es : Array DictEntry) (n : Nat) (sl : Array (Option Value)) (b : Bool) : Meets (Builtin.«int.__eq__» ⟨[.bool b, .ref a], []⟩) (fun _ R s => s.heap.get? a = some (dcO dd es n sl) ∧ R (.ok (.ret .notImplemented)) s) :=
  .of_wp fun _ _ _ _ s h => by
    obtain ⟨_, _, _, _, _⟩ := s
    obtain ⟨ho0, h⟩ := h
    have f1 := F.sub_dict_int
    wp_walk using wpAny_loadPart' ho0
    exact ⟨_, rfl, h⟩
theorem dcrInt (a : Addr) (dd : Option Addr) (es : Array DictEntry) (n : Nat) (sl : Array (Option Value)) (i : Int) (u : Tok) : Meets (Builtin.«int.__eq__» ⟨[.int i u, .ref a], []⟩) (fun _ R s => s.heap.get? a = some (dcO dd es n sl) ∧ R (.ok (.ret .notImplemented)) s) :=
  .of_wp fun _ _ _ _ s h => by
    obtain ⟨_, _, _, _, _⟩ := s
    obtain ⟨ho0, h⟩ := h
    have f1 := F.sub_dict_int
    wp_walk using wpAny_loadPart' ho0
    exact ⟨_, rfl, h⟩
theorem dcrStr (a : Addr) (dd : Option Addr) (es : Array DictEntry) (n : Nat) (sl : Array (Option Value)) (z : Str) (u : Tok) : Meets (Builtin.«str.__eq__» ⟨[.str z u, .ref a], []⟩) (fun _ R s => s.heap.get? a = some (dcO dd es n sl) ∧ R (.ok (.ret .notImplemented)) s) :=
  .of_wp fun _ _ _ _ s h => by
    obtain ⟨_, _, _, _, _⟩ := s
    obtain ⟨ho0, h⟩ := h
    have f1 := F.sub_dict_str
    wp_walk using wpAny_loadPart' ho0
    exact ⟨_, rfl, h⟩
section
variable {A : Around} {s : Shared} {a : Addr}
theorem rc_dcNone (h : IsDc s.heap a) (hu : A.units < cLine) : RcAt A s (.ref a) (.none) false := fun prog w E Q q => by
  obtain ⟨dd, es, n, sl, ho⟩ := h
  exact rc_eq_decline_or (k := false) ⟨_, ho, rfl⟩ rfl (by decide) F.sub_NoneType_dict F.slot_dict_eq F.slot_NoneType_eq_refl
    (fun _ q => call_meets F.slot_dict_eq ⟨_, ho, rfl⟩ F.entry_dict_eq (F.args_dict_eq_2 _ _) (dcNone a dd es n sl ) ⟨ho, q⟩)
    (fun _ q => call_gives F.slot_NoneType_eq_refl rfl F.entry_NoneType_eq (F.args_NoneType_eq_2 _ _) (NoneType___eq___none_ref_0 a) q) (fun _ q => wpAny_of_eq rfl q) (.inr hu) q
theorem eq_dcNone (h : IsDc s.heap a) (hu : A.units < cLine) : EqAt A s (.ref a) (.none) false := eq_rcL rfl (rc_dcNone  h hu)
theorem rc_Nonedc (h : IsDc s.heap a) (hu : A.units < cLine) : RcAt A s (.none) (.ref a) false := fun prog w E Q q => by
  obtain ⟨dd, es, n, sl, ho⟩ := h
  exact rc_eq_decline_or (k := false) rfl ⟨_, ho, rfl⟩ (by decide) F.sub_dict_NoneType F.slot_NoneType_eq F.slot_dict_eq_refl
    (fun _ q => call_gives F.slot_NoneType_eq rfl F.entry_NoneType_eq (F.args_NoneType_eq_2 _ _) (NoneType___eq___none_ref_0 a) q)
    (fun _ q => call_meets F.slot_dict_eq_refl ⟨_, ho, rfl⟩ F.entry_dict_eq (F.args_dict_eq_2 _ _) (dcNone a dd es n sl ) ⟨ho, q⟩) (fun _ q => wpAny_of_eq rfl q) (.inr hu) q
theorem eq_Nonedc (h : IsDc s.heap a) (hu : A.units < cLine) : EqAt A s (.none) (.ref a) false := eq_rcR (fun _ _ z => nomatch z) rfl (rc_Nonedc  h hu)
theorem rc_dcBool (b : Bool) (h : IsDc s.heap a) (hu : A.units < cLine) : RcAt A s (.ref a) (.bool b) false := fun prog w E Q q => by
  obtain ⟨dd, es, n, sl, ho⟩ := h
  exact rc_eq_decline_or (k := false) ⟨_, ho, rfl⟩ rfl (by decide) F.sub_bool_dict F.slot_dict_eq F.slot_bool_eq_refl
    (fun _ q => call_meets F.slot_dict_eq ⟨_, ho, rfl⟩ F.entry_dict_eq (F.args_dict_eq_2 _ _) (dcBool a dd es n sl b) ⟨ho, q⟩)
    (fun _ q => call_meets F.slot_bool_eq_refl rfl F.entry_int_eq (F.args_int_eq_2 _ _) (dcrBool a dd es n sl b) ⟨ho, q⟩) (fun _ q => wpAny_of_eq rfl q) (.inr hu) q
theorem eq_dcBool (b : Bool) (h : IsDc s.heap a) (hu : A.units < cLine) : EqAt A s (.ref a) (.bool b) false := eq_rcL rfl (rc_dcBool b h hu)
theorem rc_Booldc (b : Bool) (h : IsDc s.heap a) (hu : A.units < cLine) : RcAt A s (.bool b) (.ref a) false := fun prog w E Q q => by
  obtain ⟨dd, es, n, sl, ho⟩ := h
  exact rc_eq_decline_or (k := false) rfl ⟨_, ho, rfl⟩ (by decide) F.sub_dict_bool F.slot_bool_eq F.slot_dict_eq_refl
    (fun _ q => call_meets F.slot_bool_eq rfl F.entry_int_eq (F.args_int_eq_2 _ _) (dcrBool a dd es n sl b) ⟨ho, q⟩)
    (fun _ q => call_meets F.slot_dict_eq_refl ⟨_, ho, rfl⟩ F.entry_dict_eq (F.args_dict_eq_2 _ _) (dcBool a dd es n sl b) ⟨ho, q⟩) (fun _ q => wpAny_of_eq rfl q) (.inr hu) q
theorem eq_Booldc (b : Bool) (h : IsDc s.heap a) (hu : A.units < cLine) : EqAt A s (.bool b) (.ref a) false := eq_rcR (fun _ _ z => nomatch z) rfl (rc_Booldc b h hu)
theorem rc_dcInt (i : Int) (u : Tok) (h : IsDc s.heap a) (hu : A.units < cLine) : RcAt A s (.ref a) (.int i u) false := fun prog w E Q q => by
  obtain ⟨dd, es, n, sl, ho⟩ := h
  exact rc_eq_decline_or (k := false) ⟨_, ho, rfl⟩ rfl (by decide) F.sub_int_dict F.slot_dict_eq F.slot_int_eq_refl
    (fun _ q => call_meets F.slot_dict_eq ⟨_, ho, rfl⟩ F.entry_dict_eq (F.args_dict_eq_2 _ _) (dcInt a dd es n sl i u) ⟨ho, q⟩)
    (fun _ q => call_meets F.slot_int_eq_refl rfl F.entry_int_eq (F.args_int_eq_2 _ _) (dcrInt a dd es n sl i u) ⟨ho, q⟩) (fun _ q => wpAny_of_eq rfl q) (.inr hu) q
theorem eq_dcInt (i : Int) (u : Tok) (h : IsDc s.heap a) (hu : A.units < cLine) : EqAt A s (.ref a) (.int i u) false := eq_rcL rfl (rc_dcInt i u h hu)
theorem rc_Intdc (i : Int) (u : Tok) (h : IsDc s.heap a) (hu : A.units < cLine) : RcAt A s (.int i u) (.ref a) false := fun prog w E Q q => by
  obtain ⟨dd, es, n, sl, ho⟩ := h
  exact rc_eq_decline_or (k := false) rfl ⟨_, ho, rfl⟩ (by decide) F.sub_dict_int F.slot_int_eq F.slot_dict_eq_refl
    (fun _ q => call_meets F.slot_int_eq rfl F.entry_int_eq (F.args_int_eq_2 _ _) (dcrInt a dd es n sl i u) ⟨ho, q⟩)
    (fun _ q => call_meets F.slot_dict_eq_refl ⟨_, ho, rfl⟩ F.entry_dict_eq (F.args_dict_eq_2 _ _) (dcInt a dd es n sl i u) ⟨ho, q⟩) (fun _ q => wpAny_of_eq rfl q) (.inr hu) q
theorem eq_Intdc (i : Int) (u : Tok) (h : IsDc s.heap a) (hu : A.units < cLine) : EqAt A s (.int i u) (.ref a) false := eq_rcR (fun _ _ z => nomatch z) rfl (rc_Intdc i u h hu)
theorem rc_dcStr (z : Str) (u : Tok) (h : IsDc s.heap a) (hu : A.units < cLine) : RcAt A s (.ref a) (.str z u) false := fun prog w E Q q => by
  obtain ⟨dd, es, n, sl, ho⟩ := h
  exact rc_eq_decline_or (k := false) ⟨_, ho, rfl⟩ rfl (by decide) F.sub_str_dict F.slot_dict_eq F.slot_str_eq_refl
    (fun _ q => call_meets F.slot_dict_eq ⟨_, ho, rfl⟩ F.entry_dict_eq (F.args_dict_eq_2 _ _) (dcStr a dd es n sl z u) ⟨ho, q⟩)
    (fun _ q => call_meets F.slot_str_eq_refl rfl F.entry_str_eq (F.args_str_eq_2 _ _) (dcrStr a dd es n sl z u) ⟨ho, q⟩) (fun _ q => wpAny_of_eq rfl q) (.inr hu) q
theorem eq_dcStr (z : Str) (u : Tok) (h : IsDc s.heap a) (hu : A.units < cLine) : EqAt A s (.ref a) (.str z u) false := eq_rcL rfl (rc_dcStr z u h hu)
theorem rc_Strdc (z : Str) (u : Tok) (h : IsDc s.heap a) (hu : A.units < cLine) : RcAt A s (.str z u) (.ref a) false := fun prog w E Q q => by
  obtain ⟨dd, es, n, sl, ho⟩ := h
  exact rc_eq_decline_or (k := false) rfl ⟨_, ho, rfl⟩ (by decide) F.sub_dict_str F.slot_str_eq F.slot_dict_eq_refl
    (fun _ q => call_meets F.slot_str_eq rfl F.entry_str_eq (F.args_str_eq_2 _ _) (dcrStr a dd es n sl z u) ⟨ho, q⟩)
    (fun _ q => call_meets F.slot_dict_eq_refl ⟨_, ho, rfl⟩ F.entry_dict_eq (F.args_dict_eq_2 _ _) (dcStr a dd es n sl z u) ⟨ho, q⟩) (fun _ q => wpAny_of_eq rfl q) (.inr hu) q
theorem eq_Strdc (z : Str) (u : Tok) (h : IsDc s.heap a) (hu : A.units < cLine) : EqAt A s (.str z u) (.ref a) false := eq_rcR (fun _ _ z => nomatch z) rfl (rc_Strdc z u h hu)
theorem ne_dc_list {l : Addr} {its : Array Value} (h : IsDc s.heap a) (hl : s.heap.IsList l its) : a ≠ l := by
  obtain ⟨dd, es, n, sl, ho⟩ := h
  obtain ⟨⟨lc, ld, ldt, ls⟩, hl, c, m, e⟩ := hl
  simp only at c e
  subst c e
  exact fun z => by rw [z, hl] at ho; exact absurd (congrArg Obj.cls (Option.some.inj ho)) (by simp)
theorem rc_dc_list {l : Addr} {its : Array Value} (h : IsDc s.heap a) (hl : s.heap.IsList l its) (hu : A.units < cLine) : RcAt A s (.ref a) (.ref l) false := fun prog w E Q q => by
  have ne := ne_dc_list h hl
  obtain ⟨dd, es, n, sl, ho⟩ := h
  obtain ⟨⟨lc, ld, ldt, ls⟩, hl, c, m, e⟩ := hl
  simp only at c e
  subst c e
  exact rc_eq_decline_or (k := false) ⟨_, ho, rfl⟩ ⟨_, hl, rfl⟩ (by decide) F.sub_list_dict F.slot_dict_eq F.slot_list_eq_refl
    (fun _ q => call_meets F.slot_dict_eq ⟨_, ho, rfl⟩ F.entry_dict_eq (F.args_dict_eq_2 _ _) (dc_list a dd es n sl l ld its m ls) ⟨ho, hl, q⟩)
    (fun _ q => call_meets F.slot_list_eq_refl ⟨_, hl, rfl⟩ F.entry_list_eq (F.args_list_eq_2 _ _) (list_dc a dd es n sl l ld its m ls) ⟨hl, ho, q⟩) (fun _ q => wpAny_isSame_ref_other' ne ho hl (by simp) q) (.inr hu) q
theorem rc_list_dc {l : Addr} {its : Array Value} (h : IsDc s.heap a) (hl : s.heap.IsList l its) (hu : A.units < cLine) : RcAt A s (.ref l) (.ref a) false := fun prog w E Q q => by
  have ne := (ne_dc_list h hl).symm
  obtain ⟨dd, es, n, sl, ho⟩ := h
  obtain ⟨⟨lc, ld, ldt, ls⟩, hl, c, m, e⟩ := hl
  simp only at c e
  subst c e
  exact rc_eq_decline_or (k := false) ⟨_, hl, rfl⟩ ⟨_, ho, rfl⟩ (by decide) F.sub_dict_list F.slot_list_eq F.slot_dict_eq_refl
    (fun _ q => call_meets F.slot_list_eq ⟨_, hl, rfl⟩ F.entry_list_eq (F.args_list_eq_2 _ _) (list_dc a dd es n sl l ld its m ls) ⟨hl, ho, q⟩)
    (fun _ q => call_meets F.slot_dict_eq_refl ⟨_, ho, rfl⟩ F.entry_dict_eq (F.args_dict_eq_2 _ _) (dc_list a dd es n sl l ld its m ls) ⟨ho, hl, q⟩) (fun _ q => wpAny_isSame_ref_other' ne hl ho (by simp) q) (.inr hu) q
theorem eq_dc_list {l : Addr} {its : Array Value} (h : IsDc s.heap a) (hl : s.heap.IsList l its) (hu : A.units < cLine) : EqAt A s (.ref a) (.ref l) false := .of_refs (ne_dc_list h hl) (rc_dc_list h hl hu)
theorem eq_list_dc {l : Addr} {its : Array Value} (h : IsDc s.heap a) (hl : s.heap.IsList l its) (hu : A.units < cLine) : EqAt A s (.ref l) (.ref a) false := .of_refs (ne_dc_list h hl).symm (rc_list_dc h hl hu)
theorem ne_dc_tuple {l : Addr} {its : Array Value} (h : IsDc s.heap a) (hl : s.heap.IsTuple l its) : a ≠ l := by
  obtain ⟨dd, es, n, sl, ho⟩ := h
  obtain ⟨⟨lc, ld, ldt, ls⟩, hl, c, m, e⟩ := hl
  simp only at c e
  subst c e
  exact fun z => by rw [z, hl] at ho; exact absurd (congrArg Obj.cls (Option.some.inj ho)) (by simp)
theorem rc_dc_tuple {l : Addr} {its : Array Value} (h : IsDc s.heap a) (hl : s.heap.IsTuple l its) (hu : A.units < cLine) : RcAt A s (.ref a) (.ref l) false := fun prog w E Q q => by
  have ne := ne_dc_tuple h hl
  obtain ⟨dd, es, n, sl, ho⟩ := h
  obtain ⟨⟨lc, ld, ldt, ls⟩, hl, c, m, e⟩ := hl
  simp only at c e
  subst c e
  exact rc_eq_decline_or (k := false) ⟨_, ho, rfl⟩ ⟨_, hl, rfl⟩ (by decide) F.sub_tuple_dict F.slot_dict_eq F.slot_tuple_eq_refl
    (fun _ q => call_meets F.slot_dict_eq ⟨_, ho, rfl⟩ F.entry_dict_eq (F.args_dict_eq_2 _ _) (dc_tuple a dd es n sl l ld its m ls) ⟨ho, hl, q⟩)
    (fun _ q => call_meets F.slot_tuple_eq_refl ⟨_, hl, rfl⟩ F.entry_tuple_eq (F.args_tuple_eq_2 _ _) (tuple_dc a dd es n sl l ld its m ls) ⟨hl, ho, q⟩) (fun _ q => wpAny_isSame_ref_other ne ho hl (by simp) q) (.inr hu) q
theorem rc_tuple_dc {l : Addr} {its : Array Value} (h : IsDc s.heap a) (hl : s.heap.IsTuple l its) (hu : A.units < cLine) : RcAt A s (.ref l) (.ref a) false := fun prog w E Q q => by
  have ne := (ne_dc_tuple h hl).symm
  obtain ⟨dd, es, n, sl, ho⟩ := h
  obtain ⟨⟨lc, ld, ldt, ls⟩, hl, c, m, e⟩ := hl
  simp only at c e
  subst c e
  exact rc_eq_decline_or (k := false) ⟨_, hl, rfl⟩ ⟨_, ho, rfl⟩ (by decide) F.sub_dict_tuple F.slot_tuple_eq F.slot_dict_eq_refl
    (fun _ q => call_meets F.slot_tuple_eq ⟨_, hl, rfl⟩ F.entry_tuple_eq (F.args_tuple_eq_2 _ _) (tuple_dc a dd es n sl l ld its m ls) ⟨hl, ho, q⟩)
    (fun _ q => call_meets F.slot_dict_eq_refl ⟨_, ho, rfl⟩ F.entry_dict_eq (F.args_dict_eq_2 _ _) (dc_tuple a dd es n sl l ld its m ls) ⟨ho, hl, q⟩) (fun _ q => wpAny_isSame_ref_other' ne hl ho (by simp) q) (.inr hu) q
theorem eq_dc_tuple {l : Addr} {its : Array Value} (h : IsDc s.heap a) (hl : s.heap.IsTuple l its) (hu : A.units < cLine) : EqAt A s (.ref a) (.ref l) false := .of_refs (ne_dc_tuple h hl) (rc_dc_tuple h hl hu)
theorem eq_tuple_dc {l : Addr} {its : Array Value} (h : IsDc s.heap a) (hl : s.heap.IsTuple l its) (hu : A.units < cLine) : EqAt A s (.ref l) (.ref a) false := .of_refs (ne_dc_tuple h hl).symm (rc_tuple_dc h hl hu)
end
end G

namespace G
open PySem L2 PySem.SeqAt
section
variable {X : Pc} {x : Cx} {w : Wd} {σ : St} {pins : List (Addr × Obj)} {sh : Shared}
theorem seq_T (I : Inv x pins σ w.H sh) (hK : x.K = X.K) {a : Addr} {vs : List V} (h : RdT X w a vs) : ∃ its : List Value, Vals vs its ∧ sh.heap.IsTuple a its.toArray := by
  obtain ⟨its, r, t, _⟩ := I.tuple (hK ▸ h.sq)
  exact ⟨its, r, t⟩
theorem seq_L (I : Inv x pins σ w.H sh) {a : Addr} {vs : List V} (h : RdL X w a vs) : ∃ its : List Value, Vals vs its ∧ sh.heap.IsList a its.toArray := by
  obtain ⟨its, r, t, _⟩ := I.list (SqL.of h.1)
  exact ⟨its, r, t.isList⟩
theorem emptyD (I : Inv x pins σ w.H sh) {a : Addr} {kvs : List (Key × V)} (h : w.H a = some (.dK kvs)) : IsDc sh.heap a ∧ (a == sysModules) = false ∧ (kvs = [] → ∀ (prog : Program) (w : World), sh.heap.DictOf (mixKind prog w) a []) := by
  obtain ⟨_, ne, vs, kv, o, es, ep, h1, h2, h3, h4, h5⟩ := (show ObjOk x.prog x.w w.H sh.heap a (.dK kvs) from I.hok a _ h)
  refine ⟨?_, ne, fun e => ?_⟩
  · obtain ⟨oc, od, odt, osl⟩ := o
    have c : oc = .type "dict" := h2.1
    simp only at h3
    subst c h3
    exact ⟨_, _, _, _, h1⟩
  · subst e
    cases kv
    obtain ⟨q, _⟩ := h5
    have e0 : es.toList = [] := by
      generalize es.toList = l at q
      cases q
      rfl
    exact fun prog w => ⟨o, es, ep, h1, h2, h3, fun z hz => by rw [← Array.mem_toList_iff, e0] at hz; exact absurd hz (by simp), by rw [e0]; exact .nil, by simp⟩

theorem dc_dc (hs : {a : Addr} → w.H a = some (.dK []) → ∀ (P : Program) (y : World), sh.heap.DictOf (mixKind P y) a []) {a b : Addr} (ha : w.H a = some (.dK [])) (hb : w.H b = some (.dK [])) (na : (a == sysModules) = false) (nb : (b == sysModules) = false) {A : Around} (hu : A.units < cLine) :
    EqAt A sh (.ref a) (.ref b) true := by
  by_cases e : a = b
  · subst e; exact .same _
  · exact .of_refs e fun P y E Q q => PySem.W.rcP_dicts (r := true) na nb (hs ha P y) (hs hb P y) hu (fun _ => .nil) E Q q

/-- the same value has the same tree, where trees are compared -/
theorem RdT.inj (I : Inv x pins σ w.H sh) (hK : x.K = X.K) {a : Addr} {vs us : List V} (h : RdT X w a vs) (q : RdT X w a us) : vs = us := I.tuple_inj (hK ▸ h.sq) (hK ▸ q.sq)
mutual
theorem eqv_same (I : Inv x pins σ w.H sh) (hK : x.K = X.K) : ∀ (d1 : D) {d2 : D} {v : V} {b : Bool}, Rep X w d1 v → Rep X w d2 v → d1.eqv d2 = some b → b = true
  | .non, d2, v, b, h, q, e => by
    cases h
    cases d2 <;> first | (cases e; done) | (cases q; done) | (cases e; rfl; done) | (obtain ⟨_, _, z, _⟩ := q; cases z; done)
  | .bl y, d2, v, b, h, q, e => by
    cases h
    cases d2 <;> first | (cases e; done) | (cases q; done) | (cases q; cases e; simp; done) | (obtain ⟨_, _, z, _⟩ := q; cases z; done)
  | .int y, d2, v, b, h, q, e => by
    cases h
    cases d2 <;> first | (cases e; done) | (cases q; done) | (cases q; cases e; simp; done) | (obtain ⟨_, _, z, _⟩ := q; cases z; done)
  | .str y, d2, v, b, h, q, e => by
    cases h
    cases d2 <;> first | (cases e; done) | (cases q; done) | (cases q; cases e; simp; done) | (obtain ⟨_, _, z, _⟩ := q; cases z; done)
  | .tup l, d2, v, b, h, q, e => by
    obtain ⟨a, vs, rfl, t, r⟩ := h
    cases d2 with
    | tup l2 =>
      obtain ⟨a2, vs2, z, t2, r2⟩ := q
      cases z
      cases t.inj I hK t2
      exact eqvs_same I hK l r r2 e
    | lst l2 =>
      obtain ⟨a2, vs2, z, t2, r2⟩ := q
      cases z
      obtain ⟨i1, _, k1⟩ := seq_T I hK t
      obtain ⟨i2, _, k2⟩ := seq_L I t2
      exact absurd rfl (ne_of_list_tuple k2 k1)
    | dic ks us =>
      obtain ⟨a2, kvs, z, t2, _⟩ := q
      cases z
      obtain ⟨i1, _, o, k1, k2, _⟩ := seq_T I hK t
      obtain ⟨⟨dd, es, n, sl, k3⟩, _⟩ := emptyD I t2
      rw [k1] at k3
      exact absurd (k2.symm.trans (congrArg Obj.cls (Option.some.inj k3))) (by simp)
    | non => cases q
    | bl _ => cases q
    | int _ => cases q
    | str _ => cases q
    | _ => cases e
  | .lst l, d2, v, b, h, q, e => by
    obtain ⟨a, vs, rfl, t, r⟩ := h
    cases d2 with
    | lst l2 =>
      obtain ⟨a2, vs2, z, t2, r2⟩ := q
      cases z
      have ev : vs = vs2 := by
        have := t.1.symm.trans t2.1
        cases this
        rfl
      cases ev
      have hl : l.length = l2.length := r.length.symm.trans r2.length
      have e2 : (if l.length = l2.length then eqvs l l2 else some false) = some b := e
      rw [if_pos hl] at e2
      exact eqvs_same I hK l r r2 e2
    | tup l2 =>
      obtain ⟨a2, vs2, z, t2, r2⟩ := q
      cases z
      obtain ⟨i1, _, k1⟩ := seq_L I t
      obtain ⟨i2, _, k2⟩ := seq_T I hK t2
      exact absurd rfl (ne_of_list_tuple k1 k2)
    | dic ks us =>
      obtain ⟨a2, kvs, z, t2, _⟩ := q
      cases z
      have := t.1.symm.trans t2
      cases this
    | non => cases q
    | bl _ => cases q
    | int _ => cases q
    | str _ => cases q
    | _ => cases e
  | .dic ks us, d2, v, b, h, q, e => by
    obtain ⟨a, kvs, rfl, t, _⟩ := h
    cases d2 with
    | dic ks2 us2 =>
      cases ks with
      | nil => cases ks2 with
        | nil => cases e; rfl
        | cons _ _ => cases e
      | cons _ _ => cases e
    | lst l2 =>
      obtain ⟨a2, vs2, z, t2, r2⟩ := q
      cases z
      have := t.symm.trans t2.1
      cases this
    | tup l2 =>
      obtain ⟨a2, vs2, z, t2, r2⟩ := q
      cases z
      obtain ⟨i1, _, o, k1, k2, _⟩ := seq_T I hK t2
      obtain ⟨⟨dd, es, n, sl, k3⟩, _⟩ := emptyD I t
      rw [k1] at k3
      exact absurd (k2.symm.trans (congrArg Obj.cls (Option.some.inj k3))) (by simp)
    | non => cases q
    | bl _ => cases q
    | int _ => cases q
    | str _ => cases q
    | _ => cases e
  | .ins _ _ _, d2, v, b, h, q, e => by cases e
  | .loc _, d2, v, b, h, q, e => by cases e
  | .fn _, d2, v, b, h, q, e => by cases e
  | .scr _, d2, v, b, h, q, e => by cases e
theorem eqvs_same (I : Inv x pins σ w.H sh) (hK : x.K = X.K) : ∀ (l1 : List D) {l2 : List D} {vs : List V} {b : Bool}, Reps X w l1 vs → Reps X w l2 vs → eqvs l1 l2 = some b → b = true
  | [], [], _, _, _, _, e => by cases e; rfl
  | [], d :: r, _, _, h, ⟨v, us, z, _⟩, _ => by rw [z] at h; cases h
  | d :: r, [], _, _, ⟨v, us, z, _⟩, h, _ => by rw [z] at h; cases h
  | d :: r, d2 :: r2, _, b, ⟨v, us, z, h1, h2⟩, ⟨v', us', z', q1, q2⟩, e => by
    subst z
    cases z'
    obtain ⟨y1, e1, e⟩ := Option.bind_eq_some_iff.mp e
    obtain ⟨y2, e2, e⟩ := Option.map_eq_some_iff.mp e
    rw [← e, eqv_same I hK d h1 q1 e1, eqvs_same I hK r h2 q2 e2]
    rfl
end

theorem Reps.vget {ds : List D} {vs : List V} {us : List Value} (r : Reps X w ds vs) (q : Vals vs us) : us.length = ds.length := by rw [← q.length, r.length]
theorem in1_units {A : Around} : A.in1.units = A.units + 1 := rfl
mutual
theorem eq_at (I : Inv x pins σ w.H sh) (hK : x.K = X.K) : ∀ (d1 : D) {d2 : D} {v1 v2 : V} {u1 u2 : Value} {b : Bool} {A : Around}, Rep X w d1 v1 → Rep X w d2 v2 → RelV v1 u1 → RelV v2 u2 → d1.eqv d2 = some b → A.units + d1.dep < cLine → EqAt A sh u1 u2 b
  | .non, d2, v1, v2, u1, u2, b, A, h, q, r1, r2, e, hu => by
    have hu' : A.units < cLine := Nat.lt_of_le_of_lt (Nat.le_add_right _ _) hu
    cases h
    cases r1
    cases d2 with
    | non => cases q; cases r2; cases e; exact .same _
    | bl c => cases q; cases r2; cases e; exact EqAt.none_bool c
    | int c => cases q; obtain ⟨t, rfl⟩ := r2; cases e; exact EqAt.none_int c t
    | str c => cases q; obtain ⟨t, rfl⟩ := r2; cases e; exact EqAt.none_str c t
    | tup l => obtain ⟨a, vs, rfl, t, _⟩ := q; cases r2; cases e; obtain ⟨_, _, k⟩ := seq_T I hK t; exact EqAt.none_tuple k hu'
    | lst l => obtain ⟨a, vs, rfl, t, _⟩ := q; cases r2; cases e; obtain ⟨_, _, k⟩ := seq_L I t; exact EqAt.none_list k hu'
    | dic ks us => obtain ⟨a, kvs, rfl, t, _⟩ := q; cases r2; cases e; exact eq_Nonedc (emptyD I t).1 hu'
    | _ => cases e
  | .bl y, d2, v1, v2, u1, u2, b, A, h, q, r1, r2, e, hu => by
    have hu' : A.units < cLine := Nat.lt_of_le_of_lt (Nat.le_add_right _ _) hu
    cases h
    cases r1
    cases d2 with
    | non => cases q; cases r2; cases e; exact EqAt.bool_none y
    | bl c => cases q; cases r2; cases e; exact EqAt.bool_bool y c
    | int c => cases q; obtain ⟨t, rfl⟩ := r2; cases e; exact EqAt.bool_int y c t
    | str c => cases q; obtain ⟨t, rfl⟩ := r2; cases e; exact EqAt.bool_str y c t
    | tup l => obtain ⟨a, vs, rfl, t, _⟩ := q; cases r2; cases e; obtain ⟨_, _, k⟩ := seq_T I hK t; exact EqAt.bool_tuple y k hu'
    | lst l => obtain ⟨a, vs, rfl, t, _⟩ := q; cases r2; cases e; obtain ⟨_, _, k⟩ := seq_L I t; exact EqAt.bool_list y k hu'
    | dic ks us => obtain ⟨a, kvs, rfl, t, _⟩ := q; cases r2; cases e; exact eq_Booldc y (emptyD I t).1 hu'
    | _ => cases e
  | .int y, d2, v1, v2, u1, u2, b, A, h, q, r1, r2, e, hu => by
    have hu' : A.units < cLine := Nat.lt_of_le_of_lt (Nat.le_add_right _ _) hu
    cases h
    obtain ⟨t1, rfl⟩ := r1
    cases d2 with
    | non => cases q; cases r2; cases e; exact EqAt.int_none y t1
    | bl c => cases q; cases r2; cases e; exact EqAt.int_bool y t1 c
    | int c => cases q; obtain ⟨t, rfl⟩ := r2; cases e; exact EqAt.int_int y t1 c t
    | str c => cases q; obtain ⟨t, rfl⟩ := r2; cases e; exact EqAt.int_str y t1 c t
    | tup l => obtain ⟨a, vs, rfl, t, _⟩ := q; cases r2; cases e; obtain ⟨_, _, k⟩ := seq_T I hK t; exact EqAt.int_tuple y t1 k hu'
    | lst l => obtain ⟨a, vs, rfl, t, _⟩ := q; cases r2; cases e; obtain ⟨_, _, k⟩ := seq_L I t; exact EqAt.int_list y t1 k hu'
    | dic ks us => obtain ⟨a, kvs, rfl, t, _⟩ := q; cases r2; cases e; exact eq_Intdc y t1 (emptyD I t).1 hu'
    | _ => cases e
  | .str y, d2, v1, v2, u1, u2, b, A, h, q, r1, r2, e, hu => by
    have hu' : A.units < cLine := Nat.lt_of_le_of_lt (Nat.le_add_right _ _) hu
    cases h
    obtain ⟨t1, rfl⟩ := r1
    cases d2 with
    | non => cases q; cases r2; cases e; exact EqAt.str_none y t1
    | bl c => cases q; cases r2; cases e; exact EqAt.str_bool y t1 c
    | int c => cases q; obtain ⟨t, rfl⟩ := r2; cases e; exact EqAt.str_int y t1 c t
    | str c => cases q; obtain ⟨t, rfl⟩ := r2; cases e; exact EqAt.str_str y t1 c t
    | tup l => obtain ⟨a, vs, rfl, t, _⟩ := q; cases r2; cases e; obtain ⟨_, _, k⟩ := seq_T I hK t; exact EqAt.str_tuple y t1 k hu'
    | lst l => obtain ⟨a, vs, rfl, t, _⟩ := q; cases r2; cases e; obtain ⟨_, _, k⟩ := seq_L I t; exact EqAt.str_list y t1 k hu'
    | dic ks us => obtain ⟨a, kvs, rfl, t, _⟩ := q; cases r2; cases e; exact eq_Strdc y t1 (emptyD I t).1 hu'
    | _ => cases e
  | .tup l1, d2, v1, v2, u1, u2, b, A, h, q, r1, r2, e, hu => by
    have hu' : A.units < cLine := Nat.lt_of_le_of_lt (Nat.le_add_right _ _) hu
    have h0 := h
    obtain ⟨a1, vs1, rfl, t1, k1⟩ := h
    obtain ⟨is1, rv1, s1⟩ := seq_T I hK t1
    cases r1
    cases d2 with
    | non => cases q; cases r2; cases e; exact EqAt.tuple_none s1 hu'
    | bl c => cases q; cases r2; cases e; exact EqAt.tuple_bool c s1 hu'
    | int c => cases q; obtain ⟨t, rfl⟩ := r2; cases e; exact EqAt.tuple_int c t s1 hu'
    | str c => cases q; obtain ⟨t, rfl⟩ := r2; cases e; exact EqAt.tuple_str c t s1 hu'
    | tup l2 =>
      by_cases hv : V.ref a1 = v2
      · subst hv
        cases r2
        rw [eqv_same I hK (.tup l1) h0 q e]
        exact .same _
      · obtain ⟨a2, vs2, rfl, t2, k2⟩ := q
        cases r2
        obtain ⟨is2, rv2, s2⟩ := seq_T I hK t2
        obtain ⟨f, eb, hf⟩ := eqs_at I hK l1 e
        have ne : a1 ≠ a2 := fun z => hv (by rw [z])
        have z := EqAt.of_refs ne (RcAt.tuples (A := A) s1 s2 hu' fun j h1 h2 => hf is1 is2 vs1 vs2 A.in1 k1 k2 rv1 rv2 (by
          have : A.units + (1 + deps l1) < cLine := hu
          rw [in1_units]; omega) j (by simpa using h1) (by simpa using h2))
        rw [List.size_toArray, List.size_toArray, k1.vget rv1, k2.vget rv2, ← eb] at z
        exact z
    | lst l2 =>
      obtain ⟨a2, vs2, rfl, t2, k2⟩ := q
      cases r2
      cases e
      obtain ⟨is2, rv2, s2⟩ := seq_L I t2
      exact EqAt.tuple_list s1 s2 hu'
    | dic ks us => obtain ⟨a, kvs, rfl, t, _⟩ := q; cases r2; cases e; exact eq_tuple_dc (emptyD I t).1 s1 hu'
    | _ => cases e
  | .lst l1, d2, v1, v2, u1, u2, b, A, h, q, r1, r2, e, hu => by
    have hu' : A.units < cLine := Nat.lt_of_le_of_lt (Nat.le_add_right _ _) hu
    have h0 := h
    obtain ⟨a1, vs1, rfl, t1, k1⟩ := h
    obtain ⟨is1, rv1, s1⟩ := seq_L I t1
    cases r1
    cases d2 with
    | non => cases q; cases r2; cases e; exact EqAt.list_none s1 hu'
    | bl c => cases q; cases r2; cases e; exact EqAt.list_bool c s1 hu'
    | int c => cases q; obtain ⟨t, rfl⟩ := r2; cases e; exact EqAt.list_int c t s1 hu'
    | str c => cases q; obtain ⟨t, rfl⟩ := r2; cases e; exact EqAt.list_str c t s1 hu'
    | lst l2 =>
      by_cases hv : V.ref a1 = v2
      · subst hv
        cases r2
        rw [eqv_same I hK (.lst l1) h0 q e]
        exact .same _
      · obtain ⟨a2, vs2, rfl, t2, k2⟩ := q
        cases r2
        obtain ⟨is2, rv2, s2⟩ := seq_L I t2
        have ne : a1 ≠ a2 := fun z => hv (by rw [z])
        have e2 : (if l1.length = l2.length then eqvs l1 l2 else some false) = some b := e
        have n1 := k1.vget rv1
        have n2 := k2.vget rv2
        by_cases hl : l1.length = l2.length
        · rw [if_pos hl] at e2
          obtain ⟨f, eb, hf⟩ := eqs_at I hK l1 e2
          have z := EqAt.of_refs ne (RcAt.lists (A := A) s1 s2 (by rw [List.size_toArray, List.size_toArray]; omega) hu' fun j h1 h2 => hf is1 is2 vs1 vs2 A.in1 k1 k2 rv1 rv2 (by
            have : A.units + (1 + deps l1) < cLine := hu
            rw [in1_units]; omega) j (by simpa using h1) (by simpa using h2))
          rw [List.size_toArray, n1] at z
          rw [eb, ← hl, Nat.min_self, beq_self_eq_true, Bool.and_true]
          exact z
        · rw [if_neg hl] at e2
          cases e2
          exact .of_refs ne (RcAt.lists_lengths s1 s2 (by rw [List.size_toArray, List.size_toArray, n1, n2]; simpa using hl) hu')
    | tup l2 =>
      obtain ⟨a2, vs2, rfl, t2, k2⟩ := q
      cases r2
      cases e
      obtain ⟨is2, rv2, s2⟩ := seq_T I hK t2
      exact EqAt.list_tuple s1 s2 hu'
    | dic ks us => obtain ⟨a, kvs, rfl, t, _⟩ := q; cases r2; cases e; exact eq_list_dc (emptyD I t).1 s1 hu'
    | _ => cases e
  | .dic ks us, d2, v1, v2, u1, u2, b, A, h, q, r1, r2, e, hu => by
    have hu' : A.units < cLine := Nat.lt_of_le_of_lt (Nat.le_add_right _ _) hu
    obtain ⟨a1, kvs, rfl, t1, _, k1, _⟩ := h
    have s1 := (emptyD I t1).1
    cases r1
    cases d2 with
    | non => cases q; cases r2; cases e; exact eq_dcNone s1 hu'
    | bl c => cases q; cases r2; cases e; exact eq_dcBool c s1 hu'
    | int c => cases q; obtain ⟨t, rfl⟩ := r2; cases e; exact eq_dcInt c t s1 hu'
    | str c => cases q; obtain ⟨t, rfl⟩ := r2; cases e; exact eq_dcStr c t s1 hu'
    | tup l2 => obtain ⟨a2, vs2, rfl, t2, _⟩ := q; cases r2; cases e; obtain ⟨_, _, k⟩ := seq_T I hK t2; exact eq_dc_tuple s1 k hu'
    | lst l2 => obtain ⟨a2, vs2, rfl, t2, _⟩ := q; cases r2; cases e; obtain ⟨_, _, k⟩ := seq_L I t2; exact eq_dc_list s1 k hu'
    | dic ks2 us2 =>
      obtain ⟨a2, kvs2, rfl, t2, _, k2, _⟩ := q
      cases r2
      cases ks with
      | cons _ _ => cases e
      | nil =>
        cases ks2 with
        | cons _ _ => cases e
        | nil =>
          cases e
          have e1 : kvs = [] := List.map_eq_nil_iff.mp k1
          have e2 : kvs2 = [] := List.map_eq_nil_iff.mp k2
          subst e1 e2
          exact dc_dc (fun {a} ha => (emptyD I ha).2.2 rfl) t1 t2 (emptyD I t1).2.1 (emptyD I t2).2.1 hu'
    | _ => cases e
  | .ins _ _ _, d2, v1, v2, u1, u2, b, A, h, q, r1, r2, e, hu => by cases e
  | .loc _, d2, v1, v2, u1, u2, b, A, h, q, r1, r2, e, hu => by cases e
  | .fn _, d2, v1, v2, u1, u2, b, A, h, q, r1, r2, e, hu => by cases e
  | .scr _, d2, v1, v2, u1, u2, b, A, h, q, r1, r2, e, hu => by cases e
theorem eqs_at (I : Inv x pins σ w.H sh) (hK : x.K = X.K) : ∀ (l1 : List D) {l2 : List D} {b : Bool}, eqvs l1 l2 = some b → ∃ f : Nat → Bool, b = ((List.range (min l1.length l2.length)).all f && l1.length == l2.length) ∧
    ∀ (us1 us2 : List Value) (vs1 vs2 : List V) (A : Around), Reps X w l1 vs1 → Reps X w l2 vs2 → Vals vs1 us1 → Vals vs2 us2 → A.units + deps l1 < cLine → ∀ j (h1 : j < us1.length) (h2 : j < us2.length), EqAt A sh us1[j] us2[j] (f j)
  | [], [], _, e => by
    cases e
    refine ⟨fun _ => true, rfl, fun us1 us2 vs1 vs2 A h1 h2 q1 q2 hu j k1 k2 => ?_⟩
    have n1 := h1.vget q1
    rw [n1] at k1
    exact absurd k1 (Nat.not_lt_zero _)
  | [], d :: r, _, e => by
    cases e
    refine ⟨fun _ => true, by simp, fun us1 us2 vs1 vs2 A h1 h2 q1 q2 hu j k1 k2 => ?_⟩
    have n1 := h1.vget q1
    rw [n1] at k1
    exact absurd k1 (Nat.not_lt_zero _)
  | d :: r, [], _, e => by
    cases e
    refine ⟨fun _ => true, by simp, fun us1 us2 vs1 vs2 A h1 h2 q1 q2 hu j k1 k2 => ?_⟩
    have n2 := h2.vget q2
    rw [n2] at k2
    exact absurd k2 (Nat.not_lt_zero _)
  | d :: r, d2 :: r2, b, e => by
    obtain ⟨y1, e1, e⟩ := Option.bind_eq_some_iff.mp e
    obtain ⟨y2, e2, e⟩ := Option.map_eq_some_iff.mp e
    obtain ⟨f, eb, hf⟩ := eqs_at I hK r e2
    refine ⟨fun j => match j with | 0 => y1 | j + 1 => f j, ?_, ?_⟩
    · rw [← e, eb]
      simp only [List.length_cons, Nat.succ_min_succ, List.range_succ_eq_map, List.all_cons, List.all_map]
      rw [Bool.and_assoc]
      congr 1
      have : (r.length == r2.length) = (r.length + 1 == r2.length + 1) := by
        rw [Bool.eq_iff_iff, beq_iff_eq, beq_iff_eq]; omega
      rw [this]
      rfl
    · intro us1 us2 vs1 vs2 A h1 h2 q1 q2 hu j k1 k2
      obtain ⟨v, w1, rfl, a1, a2⟩ := h1
      obtain ⟨v', w2, rfl, b1, b2⟩ := h2
      have hu1 : A.units + d.dep < cLine := Nat.lt_of_le_of_lt (Nat.add_le_add_left (Nat.le_max_left _ _) _) hu
      have hu2 : A.units + deps r < cLine := Nat.lt_of_le_of_lt (Nat.add_le_add_left (Nat.le_max_right _ _) _) hu
      cases q1 with
      | cons c1 c2 =>
        cases q2 with
        | cons c3 c4 =>
          cases j with
          | zero => exact eq_at I hK d a1 b1 c1 c3 e1 hu1
          | succ j => exact hf _ _ _ _ A a2 b2 c2 c4 hu2 j (by simpa using k1) (by simpa using k2)
end
end
end G

namespace G
open PySem L2 PySem.SeqAt
section
variable {X : Pc} {x : Cx} {w : Wd} {σ : St} {pins : List (Addr × Obj)} {sh : Shared}
theorem rc_at (I : Inv x pins σ w.H sh) (hK : x.K = X.K) (d1 : D) {d2 : D} {v1 v2 : V} {u1 u2 : Value} {b : Bool} {A : Around} (h : Rep X w d1 v1) (q : Rep X w d2 v2) (r1 : RelV v1 u1) (r2 : RelV v2 u2) (e : d1.eqv d2 = some b) (hu : A.units + d1.dep < cLine) : RcAt A sh u1 u2 b := by
  have hu' : A.units < cLine := Nat.lt_of_le_of_lt (Nat.le_add_right _ _) hu
  cases d1 with
  | non =>
    cases h
    cases r1
    cases d2 with
    | non => cases q; cases r2; cases e; exact RcAt.none_none  
    | bl c => cases q; cases r2; cases e; exact RcAt.none_bool  c
    | int c => cases q; obtain ⟨t, rfl⟩ := r2; cases e; exact RcAt.none_int  c t
    | str c => cases q; obtain ⟨t, rfl⟩ := r2; cases e; exact RcAt.none_str  c t
    | tup l => obtain ⟨a, vs, rfl, t, _⟩ := q; cases r2; cases e; obtain ⟨_, _, k⟩ := seq_T I hK t; exact RcAt.none_tuple  k hu'
    | lst l => obtain ⟨a, vs, rfl, t, _⟩ := q; cases r2; cases e; obtain ⟨_, _, k⟩ := seq_L I t; exact RcAt.none_list  k hu'
    | dic ks us => obtain ⟨a, kvs, rfl, t, _⟩ := q; cases r2; cases e; exact rc_Nonedc  (emptyD I t).1 hu'
    | _ => cases e
  | bl y =>
    cases h
    cases r1
    cases d2 with
    | non => cases q; cases r2; cases e; exact RcAt.bool_none y 
    | bl c => cases q; cases r2; cases e; exact RcAt.bool_bool y c
    | int c => cases q; obtain ⟨t, rfl⟩ := r2; cases e; exact RcAt.bool_int y c t
    | str c => cases q; obtain ⟨t, rfl⟩ := r2; cases e; exact RcAt.bool_str y c t
    | tup l => obtain ⟨a, vs, rfl, t, _⟩ := q; cases r2; cases e; obtain ⟨_, _, k⟩ := seq_T I hK t; exact RcAt.bool_tuple y k hu'
    | lst l => obtain ⟨a, vs, rfl, t, _⟩ := q; cases r2; cases e; obtain ⟨_, _, k⟩ := seq_L I t; exact RcAt.bool_list y k hu'
    | dic ks us => obtain ⟨a, kvs, rfl, t, _⟩ := q; cases r2; cases e; exact rc_Booldc y (emptyD I t).1 hu'
    | _ => cases e
  | int y =>
    cases h
    obtain ⟨t1, rfl⟩ := r1
    cases d2 with
    | non => cases q; cases r2; cases e; exact RcAt.int_none y t1 
    | bl c => cases q; cases r2; cases e; exact RcAt.int_bool y t1 c
    | int c => cases q; obtain ⟨t, rfl⟩ := r2; cases e; exact RcAt.int_int y t1 c t
    | str c => cases q; obtain ⟨t, rfl⟩ := r2; cases e; exact RcAt.int_str y t1 c t
    | tup l => obtain ⟨a, vs, rfl, t, _⟩ := q; cases r2; cases e; obtain ⟨_, _, k⟩ := seq_T I hK t; exact RcAt.int_tuple y t1 k hu'
    | lst l => obtain ⟨a, vs, rfl, t, _⟩ := q; cases r2; cases e; obtain ⟨_, _, k⟩ := seq_L I t; exact RcAt.int_list y t1 k hu'
    | dic ks us => obtain ⟨a, kvs, rfl, t, _⟩ := q; cases r2; cases e; exact rc_Intdc y t1 (emptyD I t).1 hu'
    | _ => cases e
  | str y =>
    cases h
    obtain ⟨t1, rfl⟩ := r1
    cases d2 with
    | non => cases q; cases r2; cases e; exact RcAt.str_none y t1 
    | bl c => cases q; cases r2; cases e; exact RcAt.str_bool y t1 c
    | int c => cases q; obtain ⟨t, rfl⟩ := r2; cases e; exact RcAt.str_int y t1 c t
    | str c => cases q; obtain ⟨t, rfl⟩ := r2; cases e; exact RcAt.str_str y t1 c t
    | tup l => obtain ⟨a, vs, rfl, t, _⟩ := q; cases r2; cases e; obtain ⟨_, _, k⟩ := seq_T I hK t; exact RcAt.str_tuple y t1 k hu'
    | lst l => obtain ⟨a, vs, rfl, t, _⟩ := q; cases r2; cases e; obtain ⟨_, _, k⟩ := seq_L I t; exact RcAt.str_list y t1 k hu'
    | dic ks us => obtain ⟨a, kvs, rfl, t, _⟩ := q; cases r2; cases e; exact rc_Strdc y t1 (emptyD I t).1 hu'
    | _ => cases e
  | tup l1 =>
    obtain ⟨a1, vs1, rfl, t1, k1⟩ := h
    obtain ⟨is1, rv1, s1⟩ := seq_T I hK t1
    cases r1
    cases d2 with
    | non => cases q; cases r2; cases e; exact RcAt.tuple_none  s1 hu'
    | bl c => cases q; cases r2; cases e; exact RcAt.tuple_bool c s1 hu'
    | int c => cases q; obtain ⟨t, rfl⟩ := r2; cases e; exact RcAt.tuple_int c t s1 hu'
    | str c => cases q; obtain ⟨t, rfl⟩ := r2; cases e; exact RcAt.tuple_str c t s1 hu'
    | tup l2 =>
      obtain ⟨a2, vs2, rfl, t2, k2⟩ := q
      cases r2
      obtain ⟨is2, rv2, s2⟩ := seq_T I hK t2
      obtain ⟨f, eb, hf⟩ := eqs_at I hK l1 e
      have z := RcAt.tuples (A := A) s1 s2 hu' fun j h1 h2 => hf is1 is2 vs1 vs2 A.in1 k1 k2 rv1 rv2 (by
        have : A.units + (1 + deps l1) < cLine := hu
        rw [in1_units]; omega) j (by simpa using h1) (by simpa using h2)
      rw [List.size_toArray, List.size_toArray, k1.vget rv1, k2.vget rv2, ← eb] at z
      exact z
    | lst l2 => obtain ⟨a2, vs2, rfl, t2, k2⟩ := q; cases r2; cases e; obtain ⟨is2, rv2, s2⟩ := seq_L I t2; exact RcAt.tuple_list s1 s2 hu'
    | dic ks us => obtain ⟨a, kvs, rfl, t, _⟩ := q; cases r2; cases e; exact rc_tuple_dc (emptyD I t).1 s1 hu'
    | _ => cases e
  | lst l1 =>
    obtain ⟨a1, vs1, rfl, t1, k1⟩ := h
    obtain ⟨is1, rv1, s1⟩ := seq_L I t1
    cases r1
    cases d2 with
    | non => cases q; cases r2; cases e; exact RcAt.list_none  s1 hu'
    | bl c => cases q; cases r2; cases e; exact RcAt.list_bool c s1 hu'
    | int c => cases q; obtain ⟨t, rfl⟩ := r2; cases e; exact RcAt.list_int c t s1 hu'
    | str c => cases q; obtain ⟨t, rfl⟩ := r2; cases e; exact RcAt.list_str c t s1 hu'
    | tup l2 => obtain ⟨a2, vs2, rfl, t2, k2⟩ := q; cases r2; cases e; obtain ⟨is2, rv2, s2⟩ := seq_T I hK t2; exact RcAt.list_tuple s1 s2 hu'
    | lst l2 =>
      obtain ⟨a2, vs2, rfl, t2, k2⟩ := q
      cases r2
      obtain ⟨is2, rv2, s2⟩ := seq_L I t2
      have e2 : (if l1.length = l2.length then eqvs l1 l2 else some false) = some b := e
      have n1 := k1.vget rv1
      have n2 := k2.vget rv2
      by_cases hl : l1.length = l2.length
      · rw [if_pos hl] at e2
        obtain ⟨f, eb, hf⟩ := eqs_at I hK l1 e2
        have z := RcAt.lists (A := A) s1 s2 (by rw [List.size_toArray, List.size_toArray]; omega) hu' fun j h1 h2 => hf is1 is2 vs1 vs2 A.in1 k1 k2 rv1 rv2 (by
          have : A.units + (1 + deps l1) < cLine := hu
          rw [in1_units]; omega) j (by simpa using h1) (by simpa using h2)
        rw [List.size_toArray, n1] at z
        rw [eb, ← hl, Nat.min_self, beq_self_eq_true, Bool.and_true]
        exact z
      · rw [if_neg hl] at e2
        cases e2
        exact RcAt.lists_lengths s1 s2 (by rw [List.size_toArray, List.size_toArray, n1, n2]; simpa using hl) hu'
    | dic ks us => obtain ⟨a, kvs, rfl, t, _⟩ := q; cases r2; cases e; exact rc_list_dc (emptyD I t).1 s1 hu'
    | _ => cases e
  | dic ks us =>
    obtain ⟨a1, kvs, rfl, t1, _, k1, _⟩ := h
    have s1 := (emptyD I t1).1
    cases r1
    cases d2 with
    | non => cases q; cases r2; cases e; exact rc_dcNone s1 hu'
    | bl c => cases q; cases r2; cases e; exact rc_dcBool c s1 hu'
    | int c => cases q; obtain ⟨t, rfl⟩ := r2; cases e; exact rc_dcInt c t s1 hu'
    | str c => cases q; obtain ⟨t, rfl⟩ := r2; cases e; exact rc_dcStr c t s1 hu'
    | tup l2 => obtain ⟨a2, vs2, rfl, t2, _⟩ := q; cases r2; cases e; obtain ⟨_, _, k⟩ := seq_T I hK t2; exact rc_dc_tuple s1 k hu'
    | lst l2 => obtain ⟨a2, vs2, rfl, t2, _⟩ := q; cases r2; cases e; obtain ⟨_, _, k⟩ := seq_L I t2; exact rc_dc_list s1 k hu'
    | dic ks2 us2 =>
      obtain ⟨a2, kvs2, rfl, t2, _, k2, _⟩ := q
      cases r2
      cases ks with
      | cons _ _ => cases e
      | nil =>
        cases ks2 with
        | cons _ _ => cases e
        | nil =>
          cases e
          have e1 : kvs = [] := List.map_eq_nil_iff.mp k1
          have e2 : kvs2 = [] := List.map_eq_nil_iff.mp k2
          subst e1 e2
          exact fun P y E Q q => PySem.W.rcP_dicts (r := true) (emptyD I t1).2.1 (emptyD I t2).2.1 ((emptyD I t1).2.2 rfl P y) ((emptyD I t2).2.2 rfl P y) hu' (fun _ => .nil) E Q q
    | _ => cases e
  | _ => cases e
theorem rn_at (I : Inv x pins σ w.H sh) (hK : x.K = X.K) (d1 : D) {d2 : D} {v1 v2 : V} {u1 u2 : Value} {b : Bool} {A : Around} (h : Rep X w d1 v1) (q : Rep X w d2 v2) (r1 : RelV v1 u1) (r2 : RelV v2 u2) (e : d1.eqv d2 = some b) (hu : A.units + d1.dep < cLine) (nd : ∀ ks us, d1 ≠ .dic ks us ∧ d2 ≠ .dic ks us) : RcNeAt A sh u1 u2 (!b) := by
  have hu' : A.units < cLine := Nat.lt_of_le_of_lt (Nat.le_add_right _ _) hu
  cases d1 with
  | non =>
    cases h
    cases r1
    cases d2 with
    | non => cases q; cases r2; cases e; exact RcNeAt.none_none  
    | bl c => cases q; cases r2; cases e; exact RcNeAt.none_bool  c
    | int c => cases q; obtain ⟨t, rfl⟩ := r2; cases e; exact RcNeAt.none_int  c t
    | str c => cases q; obtain ⟨t, rfl⟩ := r2; cases e; exact RcNeAt.none_str  c t
    | tup l => obtain ⟨a, vs, rfl, t, _⟩ := q; cases r2; cases e; obtain ⟨_, _, k⟩ := seq_T I hK t; exact RcNeAt.none_tuple  k hu'
    | lst l => obtain ⟨a, vs, rfl, t, _⟩ := q; cases r2; cases e; obtain ⟨_, _, k⟩ := seq_L I t; exact RcNeAt.none_list  k hu'
    | dic ks us => exact absurd rfl (nd ks us).2
    | _ => cases e
  | bl y =>
    cases h
    cases r1
    cases d2 with
    | non => cases q; cases r2; cases e; exact RcNeAt.bool_none y 
    | bl c => cases q; cases r2; cases e; exact RcNeAt.bool_bool y c
    | int c => cases q; obtain ⟨t, rfl⟩ := r2; cases e; exact RcNeAt.bool_int y c t
    | str c => cases q; obtain ⟨t, rfl⟩ := r2; cases e; exact RcNeAt.bool_str y c t
    | tup l => obtain ⟨a, vs, rfl, t, _⟩ := q; cases r2; cases e; obtain ⟨_, _, k⟩ := seq_T I hK t; exact RcNeAt.bool_tuple y k hu'
    | lst l => obtain ⟨a, vs, rfl, t, _⟩ := q; cases r2; cases e; obtain ⟨_, _, k⟩ := seq_L I t; exact RcNeAt.bool_list y k hu'
    | dic ks us => exact absurd rfl (nd ks us).2
    | _ => cases e
  | int y =>
    cases h
    obtain ⟨t1, rfl⟩ := r1
    cases d2 with
    | non => cases q; cases r2; cases e; exact RcNeAt.int_none y t1 
    | bl c => cases q; cases r2; cases e; exact RcNeAt.int_bool y t1 c
    | int c => cases q; obtain ⟨t, rfl⟩ := r2; cases e; exact RcNeAt.int_int y t1 c t
    | str c => cases q; obtain ⟨t, rfl⟩ := r2; cases e; exact RcNeAt.int_str y t1 c t
    | tup l => obtain ⟨a, vs, rfl, t, _⟩ := q; cases r2; cases e; obtain ⟨_, _, k⟩ := seq_T I hK t; exact RcNeAt.int_tuple y t1 k hu'
    | lst l => obtain ⟨a, vs, rfl, t, _⟩ := q; cases r2; cases e; obtain ⟨_, _, k⟩ := seq_L I t; exact RcNeAt.int_list y t1 k hu'
    | dic ks us => exact absurd rfl (nd ks us).2
    | _ => cases e
  | str y =>
    cases h
    obtain ⟨t1, rfl⟩ := r1
    cases d2 with
    | non => cases q; cases r2; cases e; exact RcNeAt.str_none y t1 
    | bl c => cases q; cases r2; cases e; exact RcNeAt.str_bool y t1 c
    | int c => cases q; obtain ⟨t, rfl⟩ := r2; cases e; exact RcNeAt.str_int y t1 c t
    | str c => cases q; obtain ⟨t, rfl⟩ := r2; cases e; exact RcNeAt.str_str y t1 c t
    | tup l => obtain ⟨a, vs, rfl, t, _⟩ := q; cases r2; cases e; obtain ⟨_, _, k⟩ := seq_T I hK t; exact RcNeAt.str_tuple y t1 k hu'
    | lst l => obtain ⟨a, vs, rfl, t, _⟩ := q; cases r2; cases e; obtain ⟨_, _, k⟩ := seq_L I t; exact RcNeAt.str_list y t1 k hu'
    | dic ks us => exact absurd rfl (nd ks us).2
    | _ => cases e
  | tup l1 =>
    obtain ⟨a1, vs1, rfl, t1, k1⟩ := h
    obtain ⟨is1, rv1, s1⟩ := seq_T I hK t1
    cases r1
    cases d2 with
    | non => cases q; cases r2; cases e; exact RcNeAt.tuple_none  s1 hu'
    | bl c => cases q; cases r2; cases e; exact RcNeAt.tuple_bool c s1 hu'
    | int c => cases q; obtain ⟨t, rfl⟩ := r2; cases e; exact RcNeAt.tuple_int c t s1 hu'
    | str c => cases q; obtain ⟨t, rfl⟩ := r2; cases e; exact RcNeAt.tuple_str c t s1 hu'
    | tup l2 =>
      obtain ⟨a2, vs2, rfl, t2, k2⟩ := q
      cases r2
      obtain ⟨is2, rv2, s2⟩ := seq_T I hK t2
      obtain ⟨f, eb, hf⟩ := eqs_at I hK l1 e
      have z := RcNeAt.tuples (A := A) s1 s2 hu' fun j h1 h2 => hf is1 is2 vs1 vs2 A.in1 k1 k2 rv1 rv2 (by
        have : A.units + (1 + deps l1) < cLine := hu
        rw [in1_units]; omega) j (by simpa using h1) (by simpa using h2)
      rw [List.size_toArray, List.size_toArray, k1.vget rv1, k2.vget rv2, ← eb] at z
      exact z
    | lst l2 => obtain ⟨a2, vs2, rfl, t2, k2⟩ := q; cases r2; cases e; obtain ⟨is2, rv2, s2⟩ := seq_L I t2; exact RcNeAt.tuple_list s1 s2 hu'
    | dic ks us => exact absurd rfl (nd ks us).2
    | _ => cases e
  | lst l1 =>
    obtain ⟨a1, vs1, rfl, t1, k1⟩ := h
    obtain ⟨is1, rv1, s1⟩ := seq_L I t1
    cases r1
    cases d2 with
    | non => cases q; cases r2; cases e; exact RcNeAt.list_none  s1 hu'
    | bl c => cases q; cases r2; cases e; exact RcNeAt.list_bool c s1 hu'
    | int c => cases q; obtain ⟨t, rfl⟩ := r2; cases e; exact RcNeAt.list_int c t s1 hu'
    | str c => cases q; obtain ⟨t, rfl⟩ := r2; cases e; exact RcNeAt.list_str c t s1 hu'
    | tup l2 => obtain ⟨a2, vs2, rfl, t2, k2⟩ := q; cases r2; cases e; obtain ⟨is2, rv2, s2⟩ := seq_T I hK t2; exact RcNeAt.list_tuple s1 s2 hu'
    | lst l2 =>
      obtain ⟨a2, vs2, rfl, t2, k2⟩ := q
      cases r2
      obtain ⟨is2, rv2, s2⟩ := seq_L I t2
      have e2 : (if l1.length = l2.length then eqvs l1 l2 else some false) = some b := e
      have n1 := k1.vget rv1
      have n2 := k2.vget rv2
      by_cases hl : l1.length = l2.length
      · rw [if_pos hl] at e2
        obtain ⟨f, eb, hf⟩ := eqs_at I hK l1 e2
        have z := RcNeAt.lists (A := A) s1 s2 (by rw [List.size_toArray, List.size_toArray]; omega) hu' fun j h1 h2 => hf is1 is2 vs1 vs2 A.in1 k1 k2 rv1 rv2 (by
          have : A.units + (1 + deps l1) < cLine := hu
          rw [in1_units]; omega) j (by simpa using h1) (by simpa using h2)
        rw [List.size_toArray, n1] at z
        rw [eb, ← hl, Nat.min_self, beq_self_eq_true, Bool.and_true]
        exact z
      · rw [if_neg hl] at e2
        cases e2
        exact RcNeAt.lists_lengths s1 s2 (by rw [List.size_toArray, List.size_toArray, n1, n2]; simpa using hl) hu'
    | dic ks us => exact absurd rfl (nd ks us).2
    | _ => cases e
  | dic ks us => exact absurd rfl (nd ks us).1
  | _ => cases e
end
end G

/-! Part I: rules for expressions. -/
namespace G
open PySem L2 PySem.SeqAt
section
variable {X : Pc} {g : Gi} {p : Pg} {M : Mch} {k : Nat} {N : List Str} {sc : Scope}
variable {x : Cx} {w : Wd} {l : Sl} {s s1 s2 s' : Sto} {σ : St} {d d1 d2 : D}

/-! ### comparisons -/
def rEqT (X : Pc) (b : Bool) : R2 := fun v1 v2 H Q => (∃ w d1 d2, w.H = H ∧ Rep X w d1 v1 ∧ Rep X w d2 v2 ∧ d1.eqv d2 = some b ∧ d1.dep ≤ 60) ∧ Q (.bl b) H
def rNeT (X : Pc) (b : Bool) : R2 := fun v1 v2 H Q => (∃ w d1 d2, w.H = H ∧ Rep X w d1 v1 ∧ Rep X w d2 v2 ∧ d1.eqv d2 = some b ∧ d1.dep ≤ 60 ∧ d1.isDic = false ∧ d2.isDic = false) ∧ Q (.bl (!b)) H
theorem op_eqT {b : Bool} (hK : x.K = X.K) (hr : Room k x.A) : OpR x (compareOp .Eq) (rEqT X b) := by
  intro pins s σ H v1 v2 u1 u2 Q I r1 r2 h
  obtain ⟨⟨w, d1, d2, rfl, q1, q2, e, hd⟩, q⟩ := h
  have hu := hr.units
  exact rc_at I hK d1 q1 q2 r1 r2 e (by omega) x.prog x.w x.xe _ ⟨.bl b, w.H, I, rfl, q⟩
theorem op_neT {b : Bool} (hK : x.K = X.K) (hr : Room k x.A) : OpR x (compareOp .NotEq) (rNeT X b) := by
  intro pins s σ H v1 v2 u1 u2 Q I r1 r2 h
  obtain ⟨⟨w, d1, d2, rfl, q1, q2, e, hd, n1, n2⟩, q⟩ := h
  have hu := hr.units
  refine rn_at I hK d1 q1 q2 r1 r2 e (by omega) (fun ks us => ⟨fun z => ?_, fun z => ?_⟩) x.prog x.w x.xe _ ⟨.bl (!b), w.H, I, rfl, q⟩
  · rw [z] at n1; cases n1
  · rw [z] at n2; cases n2
def copA : Cop → CmpOp
  | .eq => .Eq | .ne => .NotEq | .lt => .Lt | .le => .LtE | .gt => .Gt | .ge => .GtE | .isN => .Is | .notN => .IsNot
theorem copA_mark (op : Cop) (b : Expr) : behindInMarks (copA op) b = false := nobehind b (by cases op <;> decide) (by cases op <;> decide)
/-- the comparison's rule for two values at hand -/
theorem cmp_rule {op : Cop} {b : Bool} (hx : Con1 X p k N sc x) (h : cmpD op d1 d2 = some b) : ∃ r : R2, OpR x (compareOp (copA op)) r ∧ ∀ w v1 v2 (Q : VK), Rep X w d1 v1 → Rep X w d2 v2 → Q (.bl b) w.H → r v1 v2 w.H Q := by
  cases op with
  | eq =>
    have h' : (if d1.dep ≤ 60 then d1.eqv d2 else none) = some b := h
    split at h'
    · rename_i hd
      exact ⟨_, op_eqT (X := X) hx.K hx.room, fun w v1 v2 Q r1 r2 q => ⟨⟨w, d1, d2, rfl, r1, r2, h', hd⟩, q⟩⟩
    · cases h'
  | ne =>
    have h' : (if d1.dep ≤ 60 ∧ d1.isDic = false ∧ d2.isDic = false then (d1.eqv d2).map (!·) else none) = some b := h
    split at h'
    · rename_i hd
      obtain ⟨c, e, z⟩ := Option.map_eq_some_iff.mp h'
      subst z
      exact ⟨_, op_neT (X := X) hx.K hx.room, fun w v1 v2 Q r1 r2 q => ⟨⟨w, d1, d2, rfl, r1, r2, e, hd.1, hd.2.1, hd.2.2⟩, q⟩⟩
    · cases h'
  | lt =>
    cases d1 with
    | int i => cases d2 with
      | int j => cases h; exact ⟨_, op_lt, fun w v1 v2 Q r1 r2 q => ⟨i, j, r1, r2, q⟩⟩
      | _ => cases h
    | _ => cases h
  | le =>
    cases d1 with
    | int i => cases d2 with
      | int j => cases h; exact ⟨_, op_le, fun w v1 v2 Q r1 r2 q => ⟨i, j, r1, r2, q⟩⟩
      | _ => cases h
    | _ => cases h
  | gt =>
    cases d1 with
    | int i => cases d2 with
      | int j => cases h; exact ⟨_, op_gt, fun w v1 v2 Q r1 r2 q => ⟨i, j, r1, r2, q⟩⟩
      | _ => cases h
    | _ => cases h
  | ge =>
    cases d1 with
    | int i => cases d2 with
      | int j => cases h; exact ⟨_, op_ge, fun w v1 v2 Q r1 r2 q => ⟨i, j, r1, r2, q⟩⟩
      | _ => cases h
    | _ => cases h
  | isN =>
    cases d2 with
    | non =>
      refine ⟨_, op_isN, fun w v1 v2 Q r1 r2 q => ⟨r2, ?_⟩⟩
      have e : decide (v1 = V.non) = b := by
        cases d1 with
        | non => cases r1; cases h; rfl
        | bl _ => cases r1; cases h; rfl
        | int _ => cases r1; cases h; rfl
        | str _ => cases r1; cases h; rfl
        | fn _ => cases r1; cases h; rfl
        | loc _ => obtain ⟨a, _, rfl⟩ := r1; cases h; rfl
        | ins _ _ _ => obtain ⟨a, _, _, rfl, _⟩ := r1; cases h; rfl
        | tup _ => obtain ⟨a, _, rfl, _⟩ := r1; cases h; rfl
        | lst _ => obtain ⟨a, _, rfl, _⟩ := r1; cases h; rfl
        | scr _ => obtain ⟨a, _, rfl, _⟩ := r1; cases h; rfl
        | dic _ _ => obtain ⟨a, _, rfl, _⟩ := r1; cases h; rfl
      rw [e]; exact q
    | _ => cases h
  | notN =>
    cases d2 with
    | non =>
      refine ⟨_, op_notN, fun w v1 v2 Q r1 r2 q => ⟨r2, ?_⟩⟩
      have e : (!decide (v1 = V.non)) = b := by
        cases d1 with
        | non => cases r1; cases h; rfl
        | bl _ => cases r1; cases h; rfl
        | int _ => cases r1; cases h; rfl
        | str _ => cases r1; cases h; rfl
        | fn _ => cases r1; cases h; rfl
        | loc _ => obtain ⟨a, _, rfl⟩ := r1; cases h; rfl
        | ins _ _ _ => obtain ⟨a, _, _, rfl, _⟩ := r1; cases h; rfl
        | tup _ => obtain ⟨a, _, rfl, _⟩ := r1; cases h; rfl
        | lst _ => obtain ⟨a, _, rfl, _⟩ := r1; cases h; rfl
        | scr _ => obtain ⟨a, _, rfl, _⟩ := r1; cases h; rfl
        | dic _ _ => obtain ⟨a, _, rfl, _⟩ := r1; cases h; rfl
      rw [e]; exact q
    | _ => cases h
theorem ok_cmp {op : Cop} {a b : E} {ea eb : Expr} {pos : Pos} (ha : EOk X g p M k N sc a ea) (hb : EOk X g p M k N sc b eb) : EOk X g p M k N sc (.cmp op a b) (.Compare ea [copA op] [eb] pos) := by
  intro x hx w l s d s' σ h sg sl Q q
  unfold evE at h
  obtain ⟨⟨d1, s1⟩, h1, h⟩ := inv2 (γ := Unit) h
  obtain ⟨⟨d2, s2⟩, h2, h⟩ := inv2 (γ := Unit) h
  obtain ⟨c, h3, h⟩ := invm h
  cases h
  obtain ⟨r, ho, hr⟩ := cmp_rule (x := x) hx h3
  exact semE.of (pe_cmpR ho pe_sem pe_sem (copA_mark _ _)) (two ha hb hx h1 h2 sg sl fun v1 v2 w' le r1 r2 sg' => hr w' v1 v2 Q r1 r2 (q _ w' le rfl sg'))
theorem tk_cmp {op : Cop} {a b : E} {ea eb : Expr} {pos : Pos} (ha : EOk X g p M k N sc a ea) (hb : EOk X g p M k N sc b eb) : TOk X g p M k N sc (.cmp op a b) (.Compare ea [copA op] [eb] pos) := by
  intro x hx w l s b s' σ h sg sl Q q
  unfold evE at h
  obtain ⟨⟨d1, s1⟩, h1, h⟩ := inv2 (γ := Unit) h
  obtain ⟨⟨d2, s2⟩, h2, h⟩ := inv2 (γ := Unit) h
  obtain ⟨c, h3, h⟩ := invm h
  cases h
  obtain ⟨r, ho, hr⟩ := cmp_rule (x := x) hx h3
  exact semT.of (pt_cmpR ho pe_sem pe_sem (copA_mark _ _)) (two ha hb hx h1 h2 sg sl fun v1 v2 w' le r1 r2 sg' => hr w' v1 v2 _ r1 r2 ⟨_, rfl, q w' le sg'⟩)

/-! ### and, or, not, if -/
theorem ok_and {a b : E} {ea eb : Expr} {rest : List Expr} {pos : Pos} (ha : EOk X g p M k N sc a ea) (hb : EOk X g p M k N sc b (.BoolOp .And (eb :: rest) pos)) : EOk X g p M k N sc (.and a b) (.BoolOp .And (ea :: eb :: rest) pos) := by
  intro x hx w l s d s' σ h sg sl Q q
  unfold evE at h
  obtain ⟨⟨d1, s1⟩, h1, h⟩ := inv2 (γ := Unit) h
  refine semE.of (pe_and pe_sem pe_sem) (ha x hx w l s d1 s1 σ h1 sg sl _ fun v1 w1 l1 r1 g1 => ?_)
  cases d1 with
  | bl c =>
    cases r1
    refine ⟨c, rfl, ?_⟩
    cases c with
    | true => exact iteT (hb x hx w1 l s1 d s' σ h g1 (sl.mono l1) _ fun v w' l2 r g' => q v w' (l1.trans l2) r g')
    | false => cases h; exact iteF (q _ w1 l1 rfl g1)
  | _ => cases h
theorem ok_or {a b : E} {ea eb : Expr} {rest : List Expr} {pos : Pos} (ha : EOk X g p M k N sc a ea) (hb : EOk X g p M k N sc b (.BoolOp .Or (eb :: rest) pos)) : EOk X g p M k N sc (.or a b) (.BoolOp .Or (ea :: eb :: rest) pos) := by
  intro x hx w l s d s' σ h sg sl Q q
  unfold evE at h
  obtain ⟨⟨d1, s1⟩, h1, h⟩ := inv2 (γ := Unit) h
  refine semE.of (pe_or pe_sem pe_sem) (ha x hx w l s d1 s1 σ h1 sg sl _ fun v1 w1 l1 r1 g1 => ?_)
  cases d1 with
  | bl c =>
    cases r1
    refine ⟨c, rfl, ?_⟩
    cases c with
    | false => exact iteF (hb x hx w1 l s1 d s' σ h g1 (sl.mono l1) _ fun v w' l2 r g' => q v w' (l1.trans l2) r g')
    | true => cases h; exact iteT (q _ w1 l1 rfl g1)
  | _ => cases h
theorem ok_one {a : E} {op : BoolOp} {ea : Expr} {pos : Pos} (ha : EOk X g p M k N sc a ea) : EOk X g p M k N sc a (.BoolOp op [ea] pos) :=
  fun x hx w l s d s' σ h sg sl Q q => semE.of (pe_one pe_sem) (ha x hx w l s d s' σ h sg sl Q q)
theorem ok_not {a : E} {ea : Expr} {pos : Pos} (ha : EOk X g p M k N sc a ea) : EOk X g p M k N sc (.not a) (.UnaryOp .Not ea pos) := by
  intro x hx w l s d s' σ h sg sl Q q
  unfold evE at h
  obtain ⟨⟨d1, s1⟩, h1, h⟩ := inv2 (γ := Unit) h
  refine semE.of (pe_not pe_sem) (ha x hx w l s d1 s1 σ h1 sg sl _ fun v1 w1 l1 r1 g1 => ?_)
  cases d1 with
  | bl c => cases h; exact ⟨c, r1, q _ w1 l1 rfl g1⟩
  | _ => cases h
theorem wk_and {a b : E} {ea eb : Expr} {rest : List Expr} {pos : Pos} (ha : TOk X g p M k N sc a ea) (hb : WOk X g p M k N sc b (.BoolOp .And (eb :: rest) pos)) : WOk X g p M k N sc (.and a b) (.BoolOp .And (ea :: eb :: rest) pos) := by
  intro x hx w l s d s' σ h sg sl Q q
  unfold evE at h
  obtain ⟨⟨d1, s1⟩, h1, h⟩ := inv2 (γ := Unit) h
  cases d1 with
  | bl c =>
    refine semW.of (pw_and pt_sem pw_sem) (ha x hx w l s c s1 σ h1 sg sl _ fun w1 l1 g1 => ?_)
    cases c with
    | true => exact iteT (hb x hx w1 l s1 d s' σ h g1 (sl.mono l1) _ fun w' l2 g' => q w' (l1.trans l2) g')
    | false => cases h; exact iteF (q w1 l1 g1)
  | _ => cases h
theorem wk_or {a b : E} {ea eb : Expr} {rest : List Expr} {pos : Pos} (ha : TOk X g p M k N sc a ea) (hb : WOk X g p M k N sc b (.BoolOp .Or (eb :: rest) pos)) : WOk X g p M k N sc (.or a b) (.BoolOp .Or (ea :: eb :: rest) pos) := by
  intro x hx w l s d s' σ h sg sl Q q
  unfold evE at h
  obtain ⟨⟨d1, s1⟩, h1, h⟩ := inv2 (γ := Unit) h
  cases d1 with
  | bl c =>
    refine semW.of (pw_or pt_sem pw_sem) (ha x hx w l s c s1 σ h1 sg sl _ fun w1 l1 g1 => ?_)
    cases c with
    | false => exact iteF (hb x hx w1 l s1 d s' σ h g1 (sl.mono l1) _ fun w' l2 g' => q w' (l1.trans l2) g')
    | true => cases h; exact iteT (q w1 l1 g1)
  | _ => cases h
theorem wk_and1 {a : E} {ea : Expr} {pos : Pos} (ha : TOk X g p M k N sc a ea) : WOk X g p M k N sc a (.BoolOp .And [ea] pos) :=
  fun x hx w l s b s' σ h sg sl Q q => semW.of (pw_and1 pt_sem) (ha x hx w l s b s' σ h sg sl Q q)
theorem wk_or1 {a : E} {ea : Expr} {pos : Pos} (ha : TOk X g p M k N sc a ea) : WOk X g p M k N sc a (.BoolOp .Or [ea] pos) :=
  fun x hx w l s b s' σ h sg sl Q q => semW.of (pw_or1 pt_sem) (ha x hx w l s b s' σ h sg sl Q q)
theorem tk_w {a : E} {ea : Expr} (h : WOk X g p M k N sc a ea) : TOk X g p M k N sc a ea :=
  fun x hx w l s b s' σ e sg sl Q q pins sh I => h x hx w l s b s' σ e sg sl Q q _ pins sh I
theorem tk_not {a : E} {ea : Expr} {pos : Pos} (ha : TOk X g p M k N sc a ea) : TOk X g p M k N sc (.not a) (.UnaryOp .Not ea pos) := by
  intro x hx w l s b s' σ h sg sl Q q
  unfold evE at h
  obtain ⟨⟨d1, s1⟩, h1, h⟩ := inv2 (γ := Unit) h
  cases d1 with
  | bl c => cases h; exact semT.of (pt_not pt_sem) (ha x hx w l s c s1 σ h1 sg sl _ fun w1 l1 g1 => q w1 l1 g1)
  | _ => cases h
/-- an expression whose truth is its value's -/
def PlainT (a : Expr) : Prop := ∀ (env : Env) (whole : Sem Value), isTrue a env whole = (do let v ← whole; standAt a.pos; holding [v] (truthy v))
theorem tk_of {a : E} {ea : Expr} (hp : PlainT ea) (ha : EOk X g p M k N sc a ea) : TOk X g p M k N sc a ea := by
  intro x hx w l s b s' σ h sg sl Q q
  refine semT.of (pt_val pe_sem (hp x.env)) (ha x hx w l s (.bl b) s' σ h sg sl _ fun v w' l1 r g' => ?_)
  exact ⟨b, r, q w' l1 g'⟩
theorem ok_ife {c a b : E} {ec ea eb : Expr} {pos : Pos} (hc : TOk X g p M k N sc c ec) (ha : EOk X g p M k N sc a ea) (hb : EOk X g p M k N sc b eb) : EOk X g p M k N sc (.ife c a b) (.IfExp ec ea eb pos) := by
  intro x hx w l s d s' σ h sg sl Q q
  unfold evE at h
  obtain ⟨⟨d1, s1⟩, h1, h⟩ := inv2 (γ := Unit) h
  cases d1 with
  | bl y =>
    refine semE.of (pe_ifExp pt_sem pe_sem pe_sem) (hc x hx w l s y s1 σ h1 sg sl _ fun w1 l1 g1 => ?_)
    cases y with
    | true => exact iteT (ha x hx w1 l s1 d s' σ h g1 (sl.mono l1) _ fun v w' l2 r g' => q v w' (l1.trans l2) r g')
    | false => exact iteF (hb x hx w1 l s1 d s' σ h g1 (sl.mono l1) _ fun v w' l2 r g' => q v w' (l1.trans l2) r g')
  | _ => cases h

/-! ### displays -/
/-- an argument without a star -/
def NoStar (e : Expr) : Prop := ∀ (es : List Expr) (env : Env), starEach (e :: es) env = (false, eval e env) :: starEach es env
theorem ak_nil : AOk X g p M k N sc [] [] := by
  intro x hx w l s ds s' σ h sg sl Q q
  unfold evEs at h
  cases h
  exact semA.of pa_nil (q [] w (Le.refl w) rfl sg)
theorem ak_cons {a : E} {as : List E} {ea : Expr} {es : List Expr} (hs : NoStar ea) (ha : EOk X g p M k N sc a ea) (hr : AOk X g p M k N sc as es) : AOk X g p M k N sc (a :: as) (ea :: es) := by
  intro x hx w l s ds s' σ h sg sl Q q
  unfold evEs at h
  obtain ⟨⟨d1, s1⟩, h1, h⟩ := inv2 (γ := Unit) h
  obtain ⟨⟨ds2, s2⟩, h2, h⟩ := invm h
  cases h
  refine semA.of (pa_cons pe_sem pa_sem (hs _ _)) (ha x hx w l s d1 s1 σ h1 sg sl _ fun v1 w1 l1 r1 g1 => ?_)
  exact hr x hx w1 l s1 ds2 s2 σ h2 g1 (sl.mono l1) _ fun vs w2 l2 r2 g2 => q _ w2 (l1.trans l2) ⟨v1, vs, rfl, r1.mono l2 d1, r2⟩ g2
theorem ok_tup {as : List E} {es : List Expr} {j} {pos : Pos} (ha : AOk X g p M k N sc as es) : EOk X g p M k N sc (.tup as) (.Tuple es j pos) := by
  intro x hx w l s d s' σ h sg sl Q q
  unfold evE at h
  obtain ⟨⟨ds, s1⟩, h1, h⟩ := inv2 (γ := Unit) h
  split at h
  · rename_i hz
    cases h
    refine semE.of (pe_tup pa_sem) (ha x hx w l s ds _ σ h1 sg sl _ fun vs w1 l1 r1 g1 => ⟨mostL_line (by rw [r1.length]; exact hz), fun np hp => ?_⟩)
    exact q _ _ (l1.trans (Le.add hp)) (.newT g1 hp r1) (g1.add hp Fine.tup)
  · cases h
theorem ok_lst {own : Bool} {as : List E} {es : List Expr} {pos : Pos} (ha : AOk X g p M k N sc as es) : EOk X g p M k N sc (.lst own as) (.List es pos) := by
  intro x hx w l s d s' σ h sg sl Q q
  unfold evE at h
  obtain ⟨⟨ds, s1⟩, h1, h⟩ := inv2 (γ := Unit) h
  split at h
  · rename_i hz
    refine semE.of (pe_lst pa_sem) (ha x hx w l s ds s1 σ h1 sg sl _ fun vs w1 l1 r1 g1 => ⟨mostL_line (by rw [r1.length]; exact hz), fun np hp => ?_⟩)
    cases own with
    | false => cases h; exact q _ _ (l1.trans (Le.add hp)) (.newL g1 hp r1) (g1.add hp Fine.lst)
    | true =>
      cases h
      refine q _ (w1.own np (.lst vs)) (l1.trans (Le.own hp)) ⟨np, ?_, rfl⟩ (g1.own hp Fine.lst ⟨vs, upd_same, Reps.mono (Le.own hp) _ r1⟩)
      show (w1.rs ++ [np])[s1.length]? = some np
      rw [g1.len]; simp
  · cases h

/-! ### items, slices, fields -/
theorem atI_rep {w : Wd} {ds : List D} {vs : List V} {i : Int} {d : D} (r : Reps X w ds vs) (h : atD ds i = some d) : ∃ v, atI vs i = some v ∧ Rep X w d v := by
  unfold atD atI at h
  obtain ⟨j, e1, e2⟩ := Option.bind_eq_some_iff.mp h
  obtain ⟨v, e3, r3⟩ := r.get e2
  refine ⟨v, ?_, r3⟩
  unfold atI
  rw [r.length, e1]
  exact e3
/-- a list or a tuple to be read: where it stands -/
theorem seq_rd {w : Wd} {s : Sto} {d : D} {v : V} {ds : List D} (sg : SG X g w s) (h : itemsD s d = some ds) (r : Rep X w d v) : ∃ a vs, v = .ref a ∧ (SqL X.K w.H a vs ∨ SqT X.K w.H a vs) ∧ Reps X w ds vs := by
  cases d with
  | lst l => cases h; obtain ⟨a, vs, e, t, q⟩ := r; exact ⟨a, vs, e, .inl t.sq, q⟩
  | tup l => cases h; obtain ⟨a, vs, e, t, q⟩ := r; exact ⟨a, vs, e, .inr t.sq, q⟩
  | loc n =>
    obtain ⟨a, hn, e⟩ := r
    have h' : (match s[n]? with | some (O.lst l) => some l | _ => none) = some ds := h
    split at h'
    · rename_i l2 e2
      cases h'
      obtain ⟨b, h1, vs, h2, h3⟩ := sg.obj n _ e2
      rw [hn] at h1; cases h1
      exact ⟨a, vs, e, .inl (SqL.of h2), h3⟩
    · cases h'
  | _ => cases h
def PlainI (b : Expr) : Prop := PlainIx b
theorem ok_ix {a i : E} {ea ei : Expr} {pos : Pos} (hp : PlainIx ei) (ha : EOk X g p M k N sc a ea) (hi : EOk X g p M k N sc i ei) : EOk X g p M k N sc (.ix a i) (.Subscript ea ei pos) := by
  intro x hx w l s d s' σ h sg sl Q q
  unfold evE at h
  obtain ⟨⟨d1, s1⟩, h1, h⟩ := inv2 (γ := Unit) h
  obtain ⟨⟨d2, s2⟩, h2, h⟩ := inv2 (γ := Unit) h
  obtain ⟨c, h3, h⟩ := invm h
  cases h
  cases d2 with
  | int j =>
    obtain ⟨ds, e1, e2⟩ := Option.bind_eq_some_iff.mp (show (itemsD s2 d1).bind (fun l => atD l j) = some d from h3)
    refine semE.of (pe_ix (r := fun v u H Q => rIxL x.K v u H Q ∨ rIxT x.K v u H Q) (IxR.or ix_list ix_tup) pe_sem pe_sem hp) (two ha hi hx h1 h2 sg sl fun v1 v2 w' le r1 r2 sg' => ?_)
    obtain ⟨b, vs, rfl, hs, rs⟩ := seq_rd sg' e1 r1
    obtain ⟨v, e3, r3⟩ := atI_rep rs e2
    rw [hx.K]
    rcases hs with hs | hs
    · exact .inl ⟨b, vs, j, v, rfl, r2, hs, e3, q v w' le r3 sg'⟩
    · exact .inr ⟨b, vs, j, v, rfl, r2, hs, e3, q v w' le r3 sg'⟩
  | _ => cases h3
theorem ok_slu {a b : E} {ea eb : Expr} {p2 pos : Pos} (ha : EOk X g p M k N sc a ea) (hb : EOk X g p M k N sc b eb) : EOk X g p M k N sc (.slu a b) (.Subscript ea (.Slice none (some eb) none p2) pos) := by
  intro x hx w l s d s' σ h sg sl Q q
  unfold evE at h
  obtain ⟨⟨d1, s1⟩, h1, h⟩ := inv2 (γ := Unit) h
  obtain ⟨⟨d2, s2⟩, h2, h⟩ := inv2 (γ := Unit) h
  obtain ⟨c, h3, h⟩ := invm h
  cases h
  refine semE.of (pe_slice sl_list pe_sem po_none (po_some pe_sem)) (ha x hx w l s d1 s1 σ h1 sg sl _ fun v1 w1 l1 r1 g1 => ?_)
  refine hb x hx w1 l s1 d2 _ σ h2 g1 (sl.mono l1) _ fun v2 w2 l2 r2 g2 => ?_
  have r1' := r1.mono l2 d1
  have fin : ∀ (ds : List D) (j : Int) (a : Addr) (vs : List V), d2 = .int j → d = .lst (ds.take (HT.sIx ds.length ds.length (some j))) → v1 = .ref a → SqL X.K w2.H a vs → Reps X w2 ds vs →
      (∃ i, v2 = .int i ∧ rSlL x.K v1 none (some i) w2.H Q) := fun ds j a vs e1 e2 e3 hs rs => by
    subst e1 e2 e3
    refine ⟨j, r2, a, vs, rfl, by rw [hx.K]; exact hs, fun np hp => ?_⟩
    have e : cutV vs none (some j) = vs.take (HT.sIx vs.length vs.length (some j)) := by
      unfold cutV
      rw [HT.sIx_none]
      simp
    rw [e, rs.length]
    exact q _ _ ((l1.trans l2).trans (Le.add hp)) (.newL g2 hp (rs.take _)) (g2.add hp Fine.lst)
  cases d2 with
  | int j =>
    cases d1 with
    | lst ds => cases h3; obtain ⟨a, vs, e, t, rs⟩ := r1'; exact fin ds j a vs rfl rfl e t.sq rs
    | scr ds => cases h3; obtain ⟨a, vs, e, t, rs⟩ := r1'; exact fin ds j a vs rfl rfl e (.inl t.1) rs
    | _ => cases h3
  | _ => (cases d1 <;> cases h3)
end
end G

/-! Part J: rules for fields and calls. -/
namespace G
open PySem L2 PySem.SeqAt
section
variable {X : Pc} {g : Gi} {p : Pg} {M : Mch} {k : Nat} {N : List Str} {sc : Scope}
variable {x : Cx} {w : Wd} {l : Sl} {s s1 s2 s' : Sto} {σ : St} {d d1 d2 : D}
/-- arguments without stars -/
def NoStars (es : List Expr) : Prop := ∀ (pos : Pos) (env : Env), (backTo pos (starEach es env)).any (·.1) = false
theorem NoStars.nil : NoStars [] := fun _ _ => rfl
theorem NoStars.cons {e : Expr} {es : List Expr} (h : NoStar e) (hs : NoStars es) : NoStars (e :: es) := fun pos env => by
  have z := hs pos env
  rw [h es env]
  unfold backTo at z ⊢
  rw [List.map_cons, List.any_cons, z]
  rfl

theorem ok_neg {a : E} {ea : Expr} {pos : Pos} (ha : EOk X g p M k N sc a ea) : EOk X g p M k N sc (.neg a) (.UnaryOp .USub ea pos) := by
  intro x hx w l s d s' σ h sg sl Q q
  unfold evE at h
  obtain ⟨⟨d1, s1⟩, h1, h⟩ := inv2 (γ := Unit) h
  refine semE.of (pe_un un_neg pe_sem) (ha x hx w l s d1 s1 σ h1 sg sl _ fun v1 w1 l1 r1 g1 => ?_)
  cases d1 with
  | int i => cases h; exact ⟨i, r1, q _ w1 l1 rfl g1⟩
  | _ => cases h

theorem lookF_rep {w : Wd} {f : Str} : ∀ {ns : List Str} {ds : List D} {fs : List (Str × V)} {d : D}, fs.map (·.1) = ns → Reps X w ds (fs.map (·.2)) → lookF f ns ds = some d → ∃ v, fs.lookup f = some v ∧ Rep X w d v ∧ f ∈ ns
  | [], ds, fs, d, _, _, h => by cases ds <;> cases h
  | n :: ns, [], fs, d, _, _, h => by cases h
  | n :: ns, e :: ds, fs, d, h1, h2, h => by
    cases fs with
    | nil => cases h1
    | cons q fs =>
      obtain ⟨n', v⟩ := q
      simp only [List.map_cons, List.cons.injEq] at h1
      obtain ⟨rfl, h1⟩ := h1
      obtain ⟨v', us, e1, r1, r2⟩ := h2
      simp only [List.map_cons, List.cons.injEq] at e1
      obtain ⟨e1, e2⟩ := e1
      subst e1 e2
      unfold lookF at h
      by_cases q : n' = f
      · rw [if_pos q] at h
        cases h
        subst q
        exact ⟨v, by simp [List.lookup_cons], r1, by simp⟩
      · rw [if_neg q] at h
        obtain ⟨u, a, b, c⟩ := lookF_rep h1 r2 h
        refine ⟨u, ?_, b, List.mem_cons_of_mem _ c⟩
        rw [List.lookup_cons, show (f == n') = false from beq_eq_false_iff_ne.mpr fun z => q z.symm]
        exact a
/-- an instance that is read: where it stands -/
theorem ins_rd {w : Wd} {s : Sto} {f : Str} {d e : D} {v : V} (sg : SG X g w s) (h : fldD s f d = some e) (r : Rep X w d v) : ∃ a C dx fs u, v = .ref a ∧ w.H a = some (.ins C dx fs) ∧ Cls X.K C ∧ NoAttr X.K C f ∧ fs.lookup f = some u ∧ Rep X w e u := by
  cases d with
  | ins c ns vs =>
    obtain ⟨a, dx, fs, e1, e2, _, e3, e4, e5⟩ := r
    obtain ⟨u, q1, q2, q3⟩ := lookF_rep e3 e5 h
    exact ⟨a, _, dx, fs, u, e1, e2, e4.1, e4.2 f q3, q1, q2⟩
  | loc n =>
    obtain ⟨a, hn, e1⟩ := r
    have h' : (match s[n]? with | some (O.ins _ ns vs) => lookF f ns vs | _ => none) = some e := h
    split at h'
    · rename_i c ns vs hs
      obtain ⟨b, h1, dx, fs, e2, e3, e4, e5⟩ := sg.obj n _ hs
      rw [hn] at h1; cases h1
      obtain ⟨u, q1, q2, q3⟩ := lookF_rep e3 e5 h'
      exact ⟨a, _, dx, fs, u, e1, e2, e4.1, e4.2 f q3, q1, q2⟩
    · cases h'
  | _ => cases h
/-- an expression that is no super() -/
def PlainB (a : Expr) : Prop := ∀ (f : Str) (env : Env), attributeBase a f env (eval a env) = eval a env
theorem ok_fld {a : E} {ea : Expr} {f : Str} {pos : Pos} (hb : PlainB ea) (ha : EOk X g p M k N sc a ea) : EOk X g p M k N sc (.fld a f) (.Attribute ea f pos) := by
  intro x hx w l s d s' σ h sg sl Q q
  unfold evE at h
  obtain ⟨⟨d1, s1⟩, h1, h⟩ := inv2 (γ := Unit) h
  obtain ⟨c, h3, h⟩ := invm h
  cases h
  refine semE.of (pe_fld pe_sem (hb _ _)) (ha x hx w l s d1 s1 σ h1 sg sl _ fun v1 w1 l1 r1 g1 => ?_)
  obtain ⟨a, C, dx, fs, u, e1, e2, e3, e4, e5, e6⟩ := ins_rd g1 h3 r1
  rw [hx.K]
  exact ⟨a, C, dx, fs, u, e1, e2, e3, e4, e5, q u w1 l1 e6 g1⟩

/-- another store's world: nothing of ours can be met there -/
def Wd.iso (w : Wd) : Wd := ⟨[], fun a => a ∈ w.rs ∨ w.V a, w.C, w.H⟩
theorem iso_mut {w : Wd} {a : Addr} (h : ¬ w.mut a) : ¬ w.iso.mut a := fun q => by
  rcases q with q | q | q
  · exact nomatch q
  · rcases q with q | q
    · exact h (.inl q)
    · exact h (.inr (.inl q))
  · exact h (.inr (.inr q))
mutual
theorem Rep.to_iso {w : Wd} : ∀ (d : D) {v : V}, d.lf = true → Rep X w d v → Rep X w.iso d v
  | .non, _, _, h => h
  | .bl _, _, _, h => h
  | .int _, _, _, h => h
  | .str _, _, _, h => h
  | .tup _, _, z, ⟨a, vs, e, h, r⟩ => ⟨a, vs, e, h.imp (fun q => ⟨q.1, iso_mut q.2⟩) fun q => q, Reps.to_iso _ z r⟩
  | .lst _, _, z, ⟨a, vs, e, h, r⟩ => ⟨a, vs, e, ⟨h.1, iso_mut h.2⟩, Reps.to_iso _ z r⟩
  | .dic _ _, _, z, ⟨a, kvs, e, h, n, r, q⟩ => ⟨a, kvs, e, h, iso_mut n, Reps.to_iso _ (Bool.and_eq_true_iff.mp z).1 r, Reps.to_iso _ (Bool.and_eq_true_iff.mp z).2 q⟩
  | .ins _ _ _, _, z, ⟨a, dx, fs, e, h, n, y, u, r⟩ => ⟨a, dx, fs, e, h, iso_mut n, y, u, Reps.to_iso _ z r⟩
  | .loc _, _, z, _ => nomatch z
  | .fn _, _, _, h => h
  | .scr _, _, z, _ => nomatch z
theorem Reps.to_iso {w : Wd} : ∀ (ds : List D) {vs : List V}, lfs ds = true → Reps X w ds vs → Reps X w.iso ds vs
  | [], _, _, h => h
  | d :: r, _, z, ⟨v, us, e, h, q⟩ => ⟨v, us, e, Rep.to_iso d (Bool.and_eq_true_iff.mp z).1 h, Reps.to_iso r (Bool.and_eq_true_iff.mp z).2 q⟩
end
/-- back from another store: w' is where it ended -/
def Wd.back (w w' : Wd) : Wd := ⟨w.rs, w.V, w'.C, w'.H⟩
theorem back_mut {w w1 w' : Wd} (hv : w1.V = fun a => a ∈ w.rs ∨ w.V a) (le : Le w1 w') {a : Addr} (h : ¬ w'.mut a) : ¬ (w.back w').mut a := fun q => by
  rcases q with q | q | q
  · exact h (.inr (.inl (by rw [le.v, hv]; exact .inl q)))
  · exact h (.inr (.inl (by rw [le.v, hv]; exact .inr q)))
  · exact h (.inr (.inr q))
mutual
theorem Rep.back {w w1 w' : Wd} (hv : w1.V = fun a => a ∈ w.rs ∨ w.V a) (le : Le w1 w') : ∀ (d : D) {v : V}, d.lf = true → Rep X w' d v → Rep X (w.back w') d v
  | .non, _, _, h => h
  | .bl _, _, _, h => h
  | .int _, _, _, h => h
  | .str _, _, _, h => h
  | .tup _, _, z, ⟨a, vs, e, h, r⟩ => ⟨a, vs, e, h.imp (fun q => ⟨q.1, back_mut hv le q.2⟩) fun q => q, Reps.back hv le _ z r⟩
  | .lst _, _, z, ⟨a, vs, e, h, r⟩ => ⟨a, vs, e, ⟨h.1, back_mut hv le h.2⟩, Reps.back hv le _ z r⟩
  | .dic _ _, _, z, ⟨a, kvs, e, h, n, r, q⟩ => ⟨a, kvs, e, h, back_mut hv le n, Reps.back hv le _ (Bool.and_eq_true_iff.mp z).1 r, Reps.back hv le _ (Bool.and_eq_true_iff.mp z).2 q⟩
  | .ins _ _ _, _, z, ⟨a, dx, fs, e, h, n, y, u, r⟩ => ⟨a, dx, fs, e, h, back_mut hv le n, y, u, Reps.back hv le _ z r⟩
  | .loc _, _, z, _ => nomatch z
  | .fn _, _, _, h => h
  | .scr _, _, z, _ => nomatch z
theorem Reps.back {w w1 w' : Wd} (hv : w1.V = fun a => a ∈ w.rs ∨ w.V a) (le : Le w1 w') : ∀ (ds : List D) {vs : List V}, lfs ds = true → Reps X w' ds vs → Reps X (w.back w') ds vs
  | [], _, _, h => h
  | d :: r, _, z, ⟨v, us, e, h, q⟩ => ⟨v, us, e, Rep.back hv le d (Bool.and_eq_true_iff.mp z).1 h, Reps.back hv le r (Bool.and_eq_true_iff.mp z).2 q⟩
end
theorem SG.there {w : Wd} {s : Sto} (h : SG X g w s) {a : Addr} (ha : a ∈ w.rs) : ∃ u, w.H a = some u := by
  obtain ⟨i, hi⟩ := List.getElem?_of_mem ha
  have : i < s.length := by rw [h.len]; exact (List.getElem?_eq_some_iff.mp hi).1
  obtain ⟨b, h1, h2⟩ := h.obj i s[i] (by simp [this])
  rw [hi] at h1; cases h1
  exact h2.there
/-- w1 is another store's world, begun at ours with new objects only (news), ended at w' -/
theorem iso_le {w w1 w' : Wd} {s s' : Sto} (sg : SG X g w s) (h0 : ∀ a o, w.H a = some o → w1.H a = some o ∧ a ∉ w1.rs) (hc : w1.C = w.C) (le : Le w1 w') (sg' : SG X g w' s') (hl : ∀ a, w1.H a = none → w.H a = none) : Le w (w.back w') ∧ SG X g (w.back w') s := by
  have hk : ∀ a o, w.H a = some o → ¬ w.C a → w'.H a = some o := fun a o e n => le.kept a o (h0 a o e).1 (h0 a o e).2 (by rw [hc]; exact n)
  have le2 : Le w (w.back w') := ⟨⟨[], by simp [Wd.back], fun _ h => nomatch h⟩, rfl, fun a h => by
      rcases le.c a h with h | h
      · rw [hc] at h; exact .inl h
      · exact .inr (hl a h), fun a h => le.cc a (by rw [hc]; exact h), fun a o e _ n => hk a o e n, fun a e => hl a (le.live a e)⟩
  refine ⟨le2, sg.len, sg.nd, fun a ha z => ?_, fun a ha => sg'.cl a ha, fun a ha z => ?_, sg.dv, fun n o e => ?_, sg'.gi⟩
  · obtain ⟨u, hu⟩ := sg.there ha
    rcases le.c a z with z | z
    · rw [hc] at z; exact sg.dis a ha z
    · rw [hl a z] at hu; cases hu
  · exact sg.vl a ha (hl a (le.live a z))
  · obtain ⟨a, h1, h2⟩ := sg.obj n o e
    exact ⟨a, h1, h2.mono le2 fun u q => hk a u q (sg.dis a (List.mem_of_getElem? h1))⟩
theorem SG.iso {w : Wd} {s : Sto} (sg : SG X g w s) : SG X g w.iso [] where
  len := rfl
  nd := List.nodup_nil
  dis := fun _ h => nomatch h
  cl := sg.cl
  vl := fun a h => by
    rcases h with h | h
    · obtain ⟨u, hu⟩ := sg.there h
      rw [show w.iso.H = w.H from rfl, hu]; exact fun z => nomatch z
    · exact sg.vl a h
  dv := fun _ h => nomatch h
  obj := fun n o e => by cases n <;> cases e
  gi := sg.gi

/-- what a call's promise asks -/
theorem call_sp {f : Nat} {iso : Bool} {ds : List D} {vs : List V} {w : Wd} {s s' : Sto} {d : D} {Q : VK} (h : callD M f iso ds s = some (d, s')) (sg : SG X g w s) (r : Reps X w ds vs) (q : ∀ v w', Le w w' → Rep X w' d v → SG X g w' s' → Q v w'.H) : spD X g M.call f vs w.H Q E0 := by
  cases iso with
  | false => exact ⟨w, ds, s, d, s', rfl, h, r, sg, q⟩
  | true =>
    have h' : (if lfs ds = true then (M.call f ds []).bind fun q => if q.1.lf = true then some (q.1, s) else none else none) = some (d, s') := h
    split at h'
    · rename_i hl
      obtain ⟨⟨d0, s0⟩, h2, h3⟩ := inv2 (γ := Unit) h'
      split at h3
      · rename_i hd0
        cases h3
        refine ⟨w.iso, ds, [], d0, s0, rfl, h2, Reps.to_iso _ hl r, sg.iso, fun v w' le r g' => ?_⟩
        obtain ⟨z1, z2⟩ := iso_le (w1 := w.iso) sg (fun a o e => ⟨e, List.not_mem_nil⟩) rfl le g' fun _ z => z
        exact q v (w.back w') z1 (Rep.back (w1 := w.iso) rfl le d0 hd0 r) z2
      · cases h3
    · cases h'
theorem ok_call {f : Nat} {iso : Bool} {a : E} {as : List E} {ea : Expr} {es : List Expr} {n : Str} {p1 pos : Pos} (mk : Mok X g p M k) (hn : p.nm f = some n) (hgl : sc.names.lookup n = some .globalImplicit) (hd : (n == ("__debug__" : Str)) = false)
    (hs : NoStar ea) (hss : NoStars es) (ha : AOk X g p M k N sc (a :: as) (ea :: es)) : EOk X g p M k N sc (.call f iso (a :: as)) (.Call (.Name n p1) (ea :: es) [] pos) := by
  intro x hx w l s d s' σ h sg sl Q q
  unfold evE at h
  obtain ⟨⟨ds, s1⟩, h1, h⟩ := inv2 (γ := Unit) h
  have hm := mk.nm f n hn
  have F : FnQ x.prog x.w x.K x.mg x.base k (X.fad f) (spD X g M.call f) := by rw [hx.P, hx.w, hx.K, hx.mg, hx.base]; exact mk.call f
  refine semE.of (pe_callQ (E := E0) F hx.room hx.gd (by rw [hx.K]; exact hm.2) (by show x.env.kindOf n = _; rw [show x.env.kindOf n = x.env.scope.names.lookup n from rfl, hx.sc]; exact hgl) (by rw [hx.mg]; exact hm.1) pa_sem hd (hs _ _) (hss _ _))
    (ha x hx w l s ds s1 σ h1 sg sl _ fun vs w1 l1 r1 g1 => ?_)
  exact call_sp h g1 r1 fun v w' le r g' => q v w' (l1.trans le) r g'
end
end G

/-! Part K: rules for built-ins. -/
namespace G
open PySem L2 PySem.SeqAt
section
variable {X : Pc} {g : Gi} {p : Pg} {M : Mch} {k : Nat} {N : List Str} {sc : Scope}
variable {x : Cx} {w : Wd} {l : Sl} {s s1 s2 s' : Sto} {σ : St} {d d1 d2 : D} {pins : List (Addr × Obj)} {sh : Shared}
mutual
theorem rep_reads (I : Inv x pins σ w.H sh) (hK : x.K = X.K) : ∀ (d : D) {v : V} {u : Value} {y : PyData}, Rep X w d v → RelV v u → d.py = some y → ∃ as, Reads sh.heap u y as ∧ ∀ a ∈ as, w.H a ≠ none
  | .non, _, _, _, h, r, e => by cases h; cases r; cases e; exact ⟨_, .none, fun _ z => nomatch z⟩
  | .bl b, _, _, _, h, r, e => by cases h; cases r; cases e; exact ⟨_, .bool b, fun _ z => nomatch z⟩
  | .int i, _, _, _, h, r, e => by cases h; obtain ⟨t, rfl⟩ := r; cases e; exact ⟨_, .int i t, fun _ z => nomatch z⟩
  | .str i, _, _, _, h, r, e => by cases h; obtain ⟨t, rfl⟩ := r; cases e; exact ⟨_, .str i t, fun _ z => nomatch z⟩
  | .tup l, _, _, _, h, r, e => by
    obtain ⟨a, vs, rfl, t, q⟩ := h
    cases r
    obtain ⟨ys, e1, e2⟩ := Option.map_eq_some_iff.mp e
    subst e2
    obtain ⟨its, rv, ⟨o, ho, hc, n, hd⟩, _⟩ := I.tuple (by rw [hK]; exact t.sq)
    obtain ⟨as, hr, ha⟩ := reps_reads I hK l q rv e1
    exact ⟨as, Reads.tuple ho hc hd hr, ha⟩
  | .lst l, _, _, _, h, r, e => by
    obtain ⟨a, vs, rfl, t, q⟩ := h
    cases r
    obtain ⟨ys, e1, e2⟩ := Option.map_eq_some_iff.mp e
    subst e2
    obtain ⟨its, rv, ⟨o, n, ho, hc, _, hd⟩, _⟩ := I.list (t.sq (X := X) |> fun z => by rw [hK]; exact z)
    obtain ⟨as, hr, ha⟩ := reps_reads I hK l q rv e1
    refine ⟨a :: as, Reads.list ho hc hd hr, fun b hb => ?_⟩
    rcases List.mem_cons.mp hb with hb | hb
    · rw [hb, t.1]; exact fun z => nomatch z
    · exact ha b hb
  | .dic ks us, _, _, y, h, r, e => by
    obtain ⟨a, kvs, rfl, t, _, q, _⟩ := h
    cases r
    cases ks with
    | cons _ _ => cases e
    | nil =>
      have e' : some (PyData.dict []) = some y := e
      cases e'
      have hk : kvs = [] := by
        have : kvs.map (fun p => kV p.1) = [] := q
        simpa using this
      obtain ⟨o, es, ep, h1, h2, h3, h4, h5⟩ := (emptyD I t).2.2 hk x.prog x.w
      obtain ⟨z, _⟩ := h5
      have e0 : es.toList = [] := by
        generalize es.toList = l at z
        cases z
        rfl
      refine ⟨[a], ?_, fun b hb => by rw [List.mem_singleton.mp hb, t]; exact fun z => nomatch z⟩
      exact Reads.dict (as := []) (bs := []) h1 h2.1 h3 (by rw [e0]; exact .nil) (by rw [e0]; exact .nil)
  | .ins _ _ _, _, _, _, _, _, e => by cases e
  | .loc _, _, _, _, _, _, e => by cases e
  | .fn _, _, _, _, _, _, e => by cases e
  | .scr _, _, _, _, _, _, e => by cases e
theorem reps_reads (I : Inv x pins σ w.H sh) (hK : x.K = X.K) : ∀ (ds : List D) {vs : List V} {us : List Value} {ys : List PyData}, Reps X w ds vs → Vals vs us → pys ds = some ys → ∃ as, ReadsAll sh.heap us ys as ∧ ∀ a ∈ as, w.H a ≠ none
  | [], _, _, _, h, r, e => by cases h; cases r; cases e; exact ⟨_, .nil, fun _ z => nomatch z⟩
  | d :: ds, _, _, _, ⟨v, vs, e1, h, q⟩, r, e => by
    subst e1
    cases r with
    | cons r1 r2 =>
      obtain ⟨y, e2, e3⟩ := Option.bind_eq_some_iff.mp e
      obtain ⟨ys, e4, e5⟩ := Option.map_eq_some_iff.mp e3
      subst e5
      obtain ⟨as, h1, a1⟩ := rep_reads I hK d h r1 e2
      obtain ⟨bs, h2, a2⟩ := reps_reads I hK ds q r2 e4
      exact ⟨_, .cons h1 h2, fun b hb => (List.mem_append.mp hb).elim (a1 b) (a2 b)⟩
end
theorem maxRep_line {n : Nat} (h : n ≤ maxRep) : n ≤ sizeLine := Nat.le_trans h (by decide)
def rRep (X : Pc) : List V → Hp → VK → Prop := fun xs H Q => ∃ (w : Wd) (d : D) (v : V) (y : PyData), w.H = H ∧ xs = [v] ∧ Rep X w d v ∧ d.py = some y ∧ y.showable = true ∧ y.depth ≤ 100 ∧ y.shown.length ≤ maxRep ∧ Q (.str y.shown) H
theorem call_rep (hK : x.K = X.K) (hr : Room k x.A) (gd : x.A.guards = some []) (sm : ∃ o, x.base.get? sysModules = some o) : CallR x (.builtin "repr") (rRep X) := by
  intro pins sh0 σ H xs us Q I r h
  obtain ⟨w, d, v, y, rfl, rfl, hv, hy, hs, hd, hl, q⟩ := h
  obtain ⟨u, rfl, r1⟩ := vals1 r
  have hz := maxRep_line hl
  have fin : ∀ {s2 : Shared}, Inv x pins σ w.H s2 → ∀ t, EP x pins σ Q (.str y.shown t) s2 := fun J t => ⟨.str y.shown, w.H, J, ⟨t, rfl⟩, q⟩
  obtain ⟨as, hr1, ha⟩ := rep_reads I hK d hv r1 hy
  have road : ∀ a, u = .ref a → wpAny (model x.prog x.w) x.A (call (.builtin "repr") [u]) (EP x pins σ Q) x.xe sh0 := fun a e => by
    subst e
    refine repr_of_reads' hr1 hs (fun _ hm => ?_) gd (by have := hr.un; omega) (fun _ _ z => z) (fun h' u tk k => fin (I.kept k) u) hz
    obtain ⟨o, ho⟩ := sm
    exact ha _ hm (I.bs _ _ ho).2
  cases hr1 with
  | none => exact PySem.P.repr_of_none (fin (I.tok _) _)
  | bool b => exact PySem.P.repr_of_bool (fin (I.tok _) _)
  | int i t => exact PySem.P.repr_of_int (by simpa [PyData.showable] using hs) (fin (I.tok _) _)
  | str z t => exact PySem.P.repr_of_str (fin (I.tok _) _) hz
  | list => exact road _ rfl
  | tuple => exact road _ rfl
  | dict => exact road _ rfl
end
end G

/-! Part L: rules for built-ins, isinstance, own operators, making. -/
namespace G
open PySem L2 PySem.SeqAt
section
variable {X : Pc} {g : Gi} {p : Pg} {M : Mch} {k : Nat} {N : List Str} {sc : Scope}
variable {x : Cx} {w : Wd} {l : Sl} {s s1 s2 s' : Sto} {σ : St} {d d1 d2 : D} {pins : List (Addr × Obj)} {sh : Shared}
def biN : Bi → Str
  | .len => "len" | .int => "int" | .abs => "abs" | .tuple => "tuple" | .repr => "repr" | .bool => "bool"
/-- a built-in's rule for the values at hand -/
theorem bi_rule {b : Bi} {pos p1 : Pos} {ea : Expr} (mk : Mok X g p M k) (hx : Con1 X p k N sc x) (hgl : sc.names.lookup (biN b) = some .globalImplicit) (hs : NoStar ea) (h : biD s b [d1] = some d) :
    ∃ r : List V → Hp → VK → Prop, PE x (.Call (.Name (biN b) p1) [ea] [] pos) (tCB r (semA x [ea])) ∧ ∀ (w : Wd) (v : V) (Q : VK), SG X g w s → Rep X w d1 v → (∀ v w', Le w w' → Rep X w' d v → SG X g w' s → Q v w'.H) → r [v] w.H Q := by
  have gl : ∀ n : Str, sc.names.lookup n = some .globalImplicit → Gl x n := fun n h => by
    show x.env.kindOf n = _
    rw [show x.env.kindOf n = x.env.scope.names.lookup n from rfl, hx.sc]; exact h
  have nm : ∀ n ∈ (["len", "int", "abs", "tuple", "repr", "bool", "isinstance", "type", "range", "list", "str", "dict"] : List String), x.mg (Str.ofString n) = none := fun n h => by rw [hx.mg]; exact mk.blt n h
  cases b with
  | len =>
    obtain ⟨ds, e1, e2⟩ := Option.map_eq_some_iff.mp (show (itemsD s d1).map (fun l => D.int l.length) = some d from h)
    subst e2
    refine ⟨_, pe_callB (id := "len") call_len_seq (gl _ hgl) (nm "len" (by simp)) (by decide +kernel) pa_sem (he := hs _ _), fun w v Q sg r q => ?_⟩
    obtain ⟨a, vs, rfl, hq, rs⟩ := seq_rd sg e1 r
    refine ⟨a, vs, rfl, by rw [hx.K]; exact hq, q _ w (Le.refl w) ?_ sg⟩
    rw [← rs.length]; rfl
  | int =>
    refine ⟨_, pe_callTy (T := "int") call_int1 (gl _ hgl) (nm "int" (by simp)) (by decide +kernel) pa_sem (he := hs _ _), fun w v Q sg r q => ?_⟩
    cases d1 with
    | int i => cases h; cases r; exact .inl ⟨i, rfl, q _ w (Le.refl w) rfl sg⟩
    | bl b => cases h; cases r; exact .inr ⟨b, rfl, q _ w (Le.refl w) rfl sg⟩
    | _ => cases h
  | abs =>
    refine ⟨_, pe_callB (id := "abs") call_abs (gl _ hgl) (nm "abs" (by simp)) (by decide +kernel) pa_sem (he := hs _ _), fun w v Q sg r q => ?_⟩
    cases d1 with
    | int i => cases h; cases r; exact ⟨i, rfl, q _ w (Le.refl w) rfl sg⟩
    | _ => cases h
  | tuple =>
    refine ⟨_, pe_callTy (T := "tuple") call_tuple_of (gl _ hgl) (nm "tuple" (by simp)) (by decide +kernel) pa_sem (he := hs _ _), fun w v Q sg r q => ?_⟩
    cases d1 with
    | lst ds =>
      cases h
      obtain ⟨a, vs, rfl, t, rs⟩ := r
      exact ⟨a, vs, rfl, .inl ⟨by rw [hx.K]; exact t.sq, fun np hp => q _ _ (Le.add hp) (.newT sg hp rs) (sg.add hp Fine.tup)⟩⟩
    | tup ds =>
      cases h
      obtain ⟨a, vs, rfl, t, rs⟩ := r
      exact ⟨a, vs, rfl, .inr ⟨by rw [hx.K]; exact t.sq, q _ w (Le.refl w) ⟨a, vs, rfl, t, rs⟩ sg⟩⟩
    | _ => cases h
  | bool =>
    refine ⟨_, pe_callTy (T := "bool") call_bool1 (gl _ hgl) (nm "bool" (by simp)) (by decide +kernel) pa_sem (he := hs _ _), fun w v Q sg r q => ?_⟩
    cases d1 with
    | bl b => cases h; cases r; exact .inr ⟨b, rfl, q _ w (Le.refl w) rfl sg⟩
    | _ => cases h
  | repr =>
    obtain ⟨y, e1, e2⟩ := Option.bind_eq_some_iff.mp (show d1.py.bind _ = some d from h)
    split at e2
    · rename_i c
      cases e2
      have sm : ∃ o, x.base.get? sysModules = some o := by rw [hx.base]; exact mk.sm
      refine ⟨_, pe_callB (id := "repr") (call_rep (X := X) hx.K hx.room hx.gd sm) (gl _ hgl) (nm "repr" (by simp)) (by decide +kernel) pa_sem (he := hs _ _), fun w v Q sg r q => ?_⟩
      exact ⟨w, d1, v, y, rfl, rfl, r, e1, c.1, c.2.1, c.2.2, q _ w (Le.refl w) rfl sg⟩
    · cases e2
theorem ok_bi {b : Bi} {a : E} {ea : Expr} {p1 pos : Pos} (mk : Mok X g p M k) (hgl : sc.names.lookup (biN b) = some .globalImplicit) (hs : NoStar ea) (ha : AOk X g p M k N sc [a] [ea]) : EOk X g p M k N sc (.bi b [a]) (.Call (.Name (biN b) p1) [ea] [] pos) := by
  intro x hx w l s d s' σ h sg sl Q q
  unfold evE at h
  obtain ⟨⟨ds, s1⟩, h1, h⟩ := inv2 (γ := Unit) h
  obtain ⟨c, h3, h⟩ := invm h
  cases h
  cases ds with
  | nil => cases b <;> cases h3
  | cons d1 r =>
    cases r with
    | cons d2 r => cases b <;> cases h3
    | nil =>
      obtain ⟨r, pe, hr⟩ := bi_rule (pos := pos) (p1 := p1) mk hx hgl hs h3
      refine semE.of pe (ha x hx w l s [d1] _ σ h1 sg sl _ fun vs w1 l1 r1 g1 => ?_)
      obtain ⟨v, us, rfl, r2, r3⟩ := r1
      rw [show us = [] from r3]
      exact hr w1 v Q g1 r2 fun v w' le r g' => q v w' (l1.trans le) r g'
/-- {} -/
theorem ok_emp {pos : Pos} : EOk X g p M k N sc (.k (.dic [] [])) (.Dict [] [] pos) := by
  intro x hx w l s d s' σ h sg sl Q q
  unfold evE at h
  cases h
  exact semE.of pe_dnewK fun a ha => q _ (w.add a (.dK [])) (Le.add ha) ⟨a, [], rfl, upd_same, sg.fresh ha, rfl, rfl⟩ (sg.add ha Fine.dK)
end
end G

/-! Part M: !=, bool(x) by an own def: for the model. -/
namespace G
open PySem PySem.W
section
variable {prog : Program} {w : World} {A : Around} {E : Value → Shared → Prop} {s : Shared} {K : Frag} {x C f L : Addr} {ox : Obj} {od : Option Obj} {b tb : Value} {h0 : Heap} {m : Str → Option Value}
theorem ne_bind (self : Value) : bindSpecial (.builtin "object.__ne__") self = pure (.builtin "object.__ne__", [self]) :=
  (Slot.of (T := "object") (name := "__ne__") (owner := "object") (n := "__ne__") (by rw [typeLookup_type, builtinLookup_eq_fast]; kernel_rfl) (by decide +kernel) (by decide +kernel) (by decide +kernel)
    (.inl (by decide +kernel)) (by rw [isSubtype_type]; kernel_rfl)).bind self
theorem ne_slot {Q : Value → Shared → Prop} (hu : A.in1.units < cLine) (X : K.In s.heap) (I : InstAt s.heap x ox C od) (hm : mroIn K C (.type "object") = some true) (he : findIn K (.ref C) "__eq__" = some (some (.ref f))) (hf : isFn K (.ref f) = true)
    (h : wpAny (model prog w) A.in1 (call (.ref f) [.ref x, b]) (fun v s' => ∃ y, v = .bool y ∧ Q (.bool (!y)) s') E s) : wpAny (model prog w) A (call (.builtin "object.__ne__") [.ref x, b]) Q E s := by
  refine wpAny_call (codeAny_call_builtin (by decide +kernel) PySem.F.cmpEntry_ne (check_slot (i := "object.__ne__") (owner := "object") (n := "__ne__") PySem.F.cmpKind_ne PySem.F.cmpSplit_ne (I.type.andThen (looks_mroIn X hm)) (PySem.F.cmpArgs_ne _ _) ?_))
  unfold Builtin.«object.__ne__»
  refine wpAny_bind (m := slotArgs "__ne__" 1 _) (wpAny_pure ?_)
  refine wpAny_bind (m := cRoomFor _ _) (wpAny_cRoomFor hu ?_)
  refine wpAny_bind (m := callSpecialIfBound? (.ref x) (Str.ofString "__eq__") _) (ifBound_K X I he hf (wpAny_mono h (fun r s' hq => ?_) fun _ _ y => y))
  obtain ⟨y, rfl, q⟩ := hq
  refine wpAny_bind (m := truthy (.bool _)) (PySem.wpAny_truthy_bool ?_)
  exact wpAny_pure q
theorem ne_own {Q : Value → Shared → Prop} (hu : A.in1.units < cLine) (X : K.In s.heap) (I : InstAt s.heap x ox C od) (hb : Looks (model prog w) s.heap (typeOf b) tb) (hn : notFirst K C tb = true) (hm : mroIn K C (.type "object") = some true)
    (h1 : findIn K (.ref C) "__ne__" = some (some (.builtin "object.__ne__"))) (he : findIn K (.ref C) "__eq__" = some (some (.ref f))) (hf : isFn K (.ref f) = true)
    (h : wpAny (model prog w) A.in1 (call (.ref f) [.ref x, b]) (fun v s' => ∃ y, v = .bool y ∧ Q (.bool (!y)) s') E s) : wpAny (model prog w) A (richCompare .NotEq (.ref x) b) Q E s := by
  have one : wpAny (model prog w) A (tryCompare (.ref x) "__ne__" b) (fun r s' => ∃ v, r = some v ∧ Q v s') E s := by
    unfold tryCompare
    refine wpAny_bind ?_
    have z : wpAny (model prog w) A (call (.builtin "object.__ne__") [.ref x, b]) (fun v s' => ∃ y, v = .bool y ∧ Q v s') E s :=
      ne_slot hu X I hm he hf (wpAny_mono h (fun v s' q => by obtain ⟨y, e, q⟩ := q; exact ⟨y, e, _, rfl, q⟩) fun _ _ y => y)
    simp only [callSpecialIfBound?, bindSpecialIfBound?]
    refine wpAny_holding (wpAny_bind (wpAny_bind (wpAny_bind (I.type.here ((looks_findIn X h1).here ?_)))))
    have z2 : wpAny (model prog w) A (call (.builtin "object.__ne__") ([.ref x] ++ [b]) >>= fun v => pure (some v)) (fun r s' => ∃ y, r = some (.bool y) ∧ Q (.bool y) s') E s :=
      wpAny_bind (wpAny_mono z (fun v s' q => by obtain ⟨y, e, q⟩ := q; subst e; exact wpAny_pure ⟨y, rfl, q⟩) fun _ _ y => y)
    have fin : ∀ {r : Option Value} {s' : Shared}, (∃ y, r = some (.bool y) ∧ Q (.bool y) s') → wpAny (model prog w) A (match r with | some .notImplemented => pure none | some v => pure (some v) | none => pure none) (fun r s' => ∃ v, r = some v ∧ Q v s') E s' := fun {r s'} q => by
      obtain ⟨y, rfl, q⟩ := q
      exact wpAny_pure ⟨_, rfl, q⟩
    refine wpAny_bind (wpAny_askSetting (wpAny_ite ?_))
    split
    · refine wpAny_bind ((Looks.of_pure (ne_bind _)).here (wpAny_pure ?_))
      refine wpAny_mono z2 (fun r s' q => ?_) fun _ _ y => y
      obtain ⟨y, rfl, q⟩ := q
      exact wpAny_pure ⟨_, rfl, q⟩
    · refine wpAny_tryCatch (wpAny_bind ((Looks.of_pure (ne_bind _)).here (wpAny_pure ?_)))
      refine wpAny_mono z2 (fun r s' q => ?_) fun _ _ y => y
      obtain ⟨y, rfl, q⟩ := q
      exact wpAny_pure ⟨_, rfl, q⟩
  have hu0 : A.units < cLine := Nat.lt_of_succ_lt hu
  unfold richCompare
  simp only [oneThing_ref]
  refine wpAny_holding (wpAny_bind (wpAny_cRoomFor hu0 ?_))
  have tail : wpAny (model prog w) A (tryCompare (.ref x) "__ne__" b) (fun r s' => ∃ v, r = some v ∧ Q v s') E s := one
  refine wpAny_bind (I.type.here (wpAny_bind (hb.here ?_)))
  split
  · rename_i q
    have e : subIn K tb (.ref C) = some false := by
      rcases Bool.or_eq_true_iff.mp hn with e | e
      · rw [beq_iff_eq.mp e] at q; simp at q
      · exact beq_iff_eq.mp e
    refine wpAny_bind ((looks_subIn X e).here ?_)
    simp only [Bool.false_eq_true, if_false]
    refine wpAny_bind (wpAny_mono tail (fun r s' z => ?_) fun _ _ e => e)
    obtain ⟨v, rfl, hq⟩ := z
    exact wpAny_pure hq
  · refine wpAny_bind (wpAny_pure ?_)
    simp only [Bool.false_eq_true, if_false]
    refine wpAny_bind (wpAny_mono tail (fun r s' z => ?_) fun _ _ e => e)
    obtain ⟨v, rfl, hq⟩ := z
    exact wpAny_pure hq
theorem bool_own {Q : Value → Shared → Prop} (X : K.In s.heap) (I : InstAt s.heap x ox C od) (hs : findIn K (.ref C) "__bool__" = some (some (.ref f))) (hf : isFn K (.ref f) = true)
    (h : wpAny (model prog w) A.in1.in1 (call (.ref f) [.ref x]) (fun r s1 => ∃ y, r = .bool y ∧ Q (.bool y) s1) E s) : wpAny (model prog w) A (call (.type "bool") [.ref x]) Q E s := by
  refine callType_codes (T := "bool") (Bi := Builtin.«object.__init__») (Q₁ := fun r s1 => ∃ y, r = Value.bool y ∧ Q r s1) PySem.F.called_bool (PySem.F.typeCall_bool_1 _) PySem.F.entry_object_init ?_ ?_
  · refine codeAny_of_tree ?_
    show wpAny _ A.in1.in1 (do checkBuiltinCall "bool.__new__" ⟨[.type "bool", .ref x], []⟩; again (.builtin "bool.__new__" ⟨[.type "bool", .ref x], []⟩)) _ _ s
    refine wpAny_bind (wpAny_of_eq (PySem.F.newCall_bool_1 _) (wpAny_pure ⟨plainId_quiet (by decide +kernel) _, codeAny_builtin PySem.F.entry_bool_new ?_⟩))
    rw [Around.under_plainId (by decide +kernel) _]
    unfold Builtin.«bool.__new__»
    have ty : isType (.type "bool") = pure true := by first | rfl | kernel_rfl | (unfold isType; rw [isSubtype_type]; kernel_rfl)
    refine wpAny_bind (wpAny_of_eq (a := true) ty ?_)
    refine PySem.W.KFB.if_not rfl ?_
    refine wpAny_bind (wpAny_of_eq (a := true) PySem.F.conv_sub_bool ?_)
    refine PySem.W.KFB.if_not rfl ?_
    refine wpAny_bind (m := someArgs _ _ _ _) (wpAny_of_eq (a := [.ref x]) (by first | rfl | kernel_rfl) ?_)
    have tr : ∀ {R : Bool → Shared → Prop} {B : Around}, wpAny (model prog w) B (call (.ref f) [.ref x]) (fun r s1 => ∃ y, r = .bool y ∧ R y s1) E s → wpAny (model prog w) B (truthy (.ref x)) R E s := fun {R B} q => by
      unfold truthy
      refine wpAny_bind (m := callSpecial? (.ref x) (Str.ofString "__bool__")) (special_fn X I hs (beq_iff_eq.mp hf) (wpAny_mono q (fun r s' hr => ?_) fun _ _ y => y))
      obtain ⟨y, rfl, z⟩ := hr
      exact wpAny_pure z
    refine wpAny_bind (m := truthy (.ref x)) (tr (wpAny_mono h (fun r s1 hr => ?_) fun _ _ y => y))
    obtain ⟨y, rfl, q⟩ := hr
    exact ⟨y, rfl, wpAny_pure ⟨y, rfl, q⟩⟩
  · rintro obj s1 ⟨y, rfl, hq⟩
    exact ⟨typeIs_bool _ _, PySem.F.args_object_init_2 _ _, object_init_meets PySem.F.called_bool.init.lookup PySem.F.called_bool.made (by decide) prog w A.in1 _ s1 ⟨typeIs_bool _ _, rfl, hq⟩⟩
end
end G

/-! Part N: type(x).__name__ of an own class. -/
namespace G
open PySem PySem.W Builtin Builtin.ObjectAttr Builtin.Getset_descriptor
section
variable {prog : Program} {w : World} {A : Around} {E : Value → Shared → Prop} {s : Shared} {K : Frag} {C : Addr} {R : Result → Shared → Prop}
theorem nm_dga (d tp : Value) (C : Addr) : descrGetArgs ⟨[d, .ref C, tp], []⟩ = pure (d, some (.ref C), given tp) := by kernel_rfl
theorem nm_get {tp : Value} {o : Obj} {z : Str} {t : Tok} (X : K.In s.heap) (hK : K.lookup C = some o) (hc : o.cls = .type "type") (hs : (o.slots[2]?).join = some (.str z t)) (h : R (.ok (.ret (.str z t))) s) :
    codeAny (model prog w) A (.call (.builtin "getset_descriptor.__get__") ⟨[.builtin "type.__name__", .ref C, tp], []⟩) R s := by
  have ho := X _ _ hK
  obtain ⟨hh, g, dr, tk, os⟩ := s
  have L0 : Looks (model prog w) hh (typeOf (.ref C)) (.type "type") := hc ▸ (Looks.ld ho).andThen .now
  have L1 : Looks (model prog w) hh (isSubtype (.type "type") (.type "type")) true := Looks.of_pure (by rw [isSubtype_type]; kernel_rfl)
  refine codeAny_call_builtin KF.slot_gs.plain KF.entry_gs (KF.slot_gs.check _ _ _ _ _ _ _ _ ktyn_type (KF.args_gs _ _ _) ?_)
  unfold Builtin.«getset_descriptor.__get__» descrGet
  rw [nm_dga]
  refine wpAny_bind (wpAny_pure ?_)
  unfold descrGetter descrCheckInstance descrNameAndClass isInstance
  simp only [ktyn_owner]
  repeat lk
  refine ⟨Code.quiet_builtin _ (by decide +kernel), codeAny_builtin ktyn_entry ?_⟩
  unfold Builtin.«type.__name__» keptObject slotAt
  dsimp only
  refine wpAny_bind (wpAny_bind (wpAny_loadPart ho ?_))
  rw [hs]
  exact wpAny_pure (wpAny_pure h)
theorem nm_attr {expr : Bool} {Q : Value → Shared → Prop} {o : Obj} {z : Str} {t : Tok} (X : K.In s.heap) (hK : K.lookup C = some o) (hc : o.cls = .type "type") (hs : (o.slots[2]?).join = some (.str z t)) (hr : readsIn K C (.type "type") = true)
    (e : findCls K (.ref C) (.type "type") "__name__" = some (.get (.builtin "getset_descriptor.__get__") (.builtin "type.__name__") (.ref C) (.type "type"))) (h : ∀ u, Q (.str z t) { s with toks := u }) :
    wpAny (model prog w) A (getAttr (.ref C) "__name__" expr) Q E s := by
  refine cls_bind X hr e (wpAny_call (nm_get (s := { s with toks := s.toks + 1 }) X hK hc hs ?_))
  exact handed_on rfl (h _)
end
end G

/-! Part O: isinstance, type names, own == and bool. -/
namespace G
open PySem L2 PySem.SeqAt
section
variable {X : Pc} {g : Gi} {p : Pg} {M : Mch} {k : Nat} {N : List Str} {sc : Scope}
variable {x : Cx} {w : Wd} {l : Sl} {s s1 s2 s' : Sto} {σ : St} {d d1 d2 : D} {pins : List (Addr × Obj)} {sh : Shared}
theorem Con1.gl (hx : Con1 X p k N sc x) {n : Str} (h : sc.names.lookup n = some .globalImplicit) : Gl x n := by
  show x.env.kindOf n = _
  rw [show x.env.kindOf n = x.env.scope.names.lookup n from rfl, hx.sc]; exact h
theorem Con1.bl (mk : Mok X g p M k) (hx : Con1 X p k N sc x) (n : String) (h : n ∈ (["len", "int", "abs", "tuple", "repr", "bool", "isinstance", "type", "range", "list", "str", "dict"] : List String)) : x.mg (Str.ofString n) = none := by
  rw [hx.mg]; exact mk.blt n h

/-- the instance's place and class -/
theorem ins_at {c : Str} {v : V} (sg : SG X g w s) (h : clsD s d = some c) (r : Rep X w d v) : ∃ a dx fs, v = .ref a ∧ w.H a = some (.ins (X.cad c) dx fs) ∧ Cls X.K (X.cad c) := by
  cases d with
  | ins c' ns vs =>
    cases h
    obtain ⟨a, dx, fs, e1, e2, _, e3, e4, e5⟩ := r
    exact ⟨a, dx, fs, e1, e2, e4.1⟩
  | loc n =>
    obtain ⟨a, hn, e1⟩ := r
    have h' : (match s[n]? with | some (O.ins c _ _) => some c | _ => none) = some c := h
    split at h'
    · rename_i c0 ns vs hs
      cases h'
      obtain ⟨b, h1, dx, fs, e2, e3, e4, e5⟩ := sg.obj n _ hs
      rw [hn] at h1; cases h1
      exact ⟨a, dx, fs, e1, e2, e4.1⟩
    · cases h'
  | _ => cases h
theorem ty_cls {c : Str} (h : tyD s d = some (.cls c)) : clsD s d = some c := by
  cases d with
  | ins c' ns vs => cases h; rfl
  | loc n =>
    have h' : (match s[n]? with | some (O.ins c _ _) => some (Ty.cls c) | _ => none) = some (Ty.cls c) := h
    show (match s[n]? with | some (O.ins c _ _) => some c | _ => none) = some c
    split at h'
    · rename_i c0 ns vs hs; cases h'; first | rfl | rw [hs]
    · cases h'
  | _ => cases h
/-- the type of a value at hand -/
theorem ty_of {t : Ty} {v : V} (mk : Mok X g p M k) (sg : SG X g w s) (h : tyD s d = some t) (hc : ∀ c, t = .cls c → ∃ C, M.tb.cl c = some C) (r : Rep X w d v) : TyX X.K w.H v (tyV X t) := by
  cases d with
  | non => cases h; cases r; exact .base .non
  | bl b => cases h; cases r; exact .base (.bl b)
  | int b => cases h; cases r; exact .base (.int b)
  | str b => cases h; cases r; exact .base (.str b)
  | lst l => cases h; obtain ⟨a, vs, rfl, t, _⟩ := r; exact .base (.lst t.1)
  | tup l =>
    cases h
    obtain ⟨a, vs, rfl, t, _⟩ := r
    rcases t with ⟨t | ⟨o, t⟩, _⟩ | ⟨o, its, n, t, tc, _⟩
    · exact .base (.tup t)
    · exact .fTuple t
    · exact .kTuple t tc
  | dic ks us => cases h; obtain ⟨a, kvs, rfl, t, _⟩ := r; exact .base (.dK t)
  | ins c ns vs =>
    cases h
    obtain ⟨C, hC⟩ := hc c rfl
    obtain ⟨a, dx, fs, rfl, e, cl⟩ := ins_at sg (d := .ins c ns vs) rfl r
    exact .base (.ins e cl (mk.isc c C hC).1 mk.oc.1 mk.oc.2 (mk.isc c C hC).2)
  | loc n =>
    cases t with
    | ty t =>
      exfalso
      have h' : (match s[n]? with | some (O.ins c _ _) => some (Ty.cls c) | _ => none) = some (Ty.ty t) := h
      split at h' <;> cases h'
    | cls c =>
      obtain ⟨C, hC⟩ := hc c rfl
      obtain ⟨a, dx, fs, rfl, e, cl⟩ := ins_at sg (ty_cls h) r
      exact .base (.ins e cl (mk.isc c C hC).1 mk.oc.1 mk.oc.2 (mk.isc c C hC).2)
  | fn n => cases h
  | scr l => cases h
theorem any_ok (mk : Mok X g p M k) {t : Ty} : ∀ {Ts : List Ty} {b : Bool}, anyIs M.tb t Ts = some b → PySem.W.kitAny X.K (tyV X t) (Ts.map (tyV X)) = some b
  | [], b, h => by cases h; exact kitAny_nil
  | T :: Ts, b, h => by
    unfold anyIs at h
    split at h
    · rename_i e; cases h; exact kitAny_cons (mk.isa _ _ _ e) (fun z => nomatch z) fun _ => rfl
    · rename_i e; exact kitAny_cons (mk.isa _ _ _ e) (fun _ => any_ok mk h) fun z => nomatch z
    · cases h
/-- a class named in the text -/
inductive TyE (X : Pc) (p : Pg) (sc : Scope) : Ty → Expr → Prop
  | blt (n : String) (pos : Pos) (h1 : sc.names.lookup (Str.ofString n) = some .globalImplicit) (h2 : p.mg (Str.ofString n) = none) (h3 : bootBuiltins (Str.ofString n) = some (.type n)) (h4 : (Str.ofString n) ≠ ("__name__" : Str)) (h5 : ((Str.ofString n) == ("__debug__" : Str)) = false) : TyE X p sc (.ty n) (.Name (Str.ofString n) pos)
  | cls (c : Str) (n : Str) (pos : Pos) (h1 : sc.names.lookup n = some .globalImplicit) (h2 : p.mg n = some (.ref (X.cad c))) (h5 : (n == ("__debug__" : Str)) = false) : TyE X p sc (.cls c) (.Name n pos)
def tyW (X : Pc) : Ty → V
  | .ty n => .ty n
  | .cls c => .ref (X.cad c)
theorem tyW_ok (t : Ty) : ClsV (tyW X t) (tyV X t) := by
  cases t with
  | ty n => exact .ty n
  | cls c => exact .own _
theorem pe_ty (hx : Con1 X p k N sc x) {t : Ty} {e : Expr} (h : TyE X p sc t e) : PE x e (tC (tyW X t)) := by
  cases h with
  | blt n pos h1 h2 h3 h4 h5 => exact pe_bltn (hx.gl h1) (by rw [hx.mg]; exact h2) h3 rfl h4 h5
  | cls c n pos h1 h2 h5 => exact pe_glob (hx.gl h1) (by rw [hx.mg]; exact h2) rfl h5
theorem ty_star {t : Ty} {e : Expr} (h : TyE X p sc t e) : NoStar e := by
  cases h <;> exact fun _ _ => rfl
inductive TyEs (X : Pc) (p : Pg) (sc : Scope) : List Ty → List Expr → Prop
  | nil : TyEs X p sc [] []
  | cons {t e ts es} (h : TyE X p sc t e) (r : TyEs X p sc ts es) : TyEs X p sc (t :: ts) (e :: es)
theorem pa_tys (hx : Con1 X p k N sc x) : ∀ {ts : List Ty} {es : List Expr}, TyEs X p sc ts es → ∀ {σ : St} {H : Hp} {Q : List V → Hp → Prop}, Q (ts.map (tyW X)) H → semA x es σ H Q
  | _, _, .nil, σ, H, Q, q => semA.of pa_nil q
  | _, _, .cons h r, σ, H, Q, q => semA.of (pa_cons (pe_ty hx h) pa_sem (ty_star h _ _)) (pa_tys hx r q)
theorem tys_ok : ∀ ts : List Ty, Paired ClsV (ts.map (tyW X)) (ts.map (tyV X))
  | [] => .nil
  | t :: ts => .cons (tyW_ok t) (tys_ok ts)
/-- isinstance(a, T) -/
theorem ok_isi {a : E} {ea et : Expr} {T : Ty} {p1 pos : Pos} (mk : Mok X g p M k) (hgl : sc.names.lookup ("isinstance" : Str) = some .globalImplicit) (hs : NoStar ea) (ht : TyE X p sc T et) (ha : EOk X g p M k N sc a ea) :
    EOk X g p M k N sc (.isi a [T]) (.Call (.Name "isinstance" p1) [ea, et] [] pos) := by
  intro x hx w l s d s' σ h sg sl Q q
  unfold evE at h
  obtain ⟨⟨d1, s1⟩, h1, h⟩ := inv2 (γ := Unit) h
  obtain ⟨b, h3, h⟩ := invm h
  cases h
  obtain ⟨t, h4, h5⟩ := Option.bind_eq_some_iff.mp h3
  have hp : (backTo pos (starEach [et] x.env)).any (·.1) = false := by rw [ty_star ht]; rfl
  refine semE.of (pe_callB (id := "isinstance") (r := rIsi x.K) call_isi (hx.gl hgl) (hx.bl mk "isinstance" (by simp)) (by decide +kernel) (pa_cons pe_sem (pa_cons (pe_ty hx ht) pa_nil (ty_star ht _ _)) (hs _ _)) (he := hs _ _) (hpl := hp))
    (ha x hx w l s d1 _ σ h1 sg sl _ fun v w1 l1 r1 g1 => ?_)
  have hk := any_ok mk h5
  have hc : ∀ c, t = .cls c → ∃ C, M.tb.cl c = some C := fun c e => by
    subst e
    have h6 : (match M.tb.isa (.cls c) T with | some true => some true | some false => anyIs M.tb (.cls c) [] | none => none) = some b := h5
    split at h6
    · rename_i e; exact mk.ism _ _ _ e
    · rename_i e; exact mk.ism _ _ _ e
    · cases h6
  have one : PySem.W.kitOne X.K (tyV X t) (tyV X T) = some b := by
    have z : PySem.W.kitAny X.K (tyV X t) [tyV X T] = some b := hk
    unfold PySem.W.kitAny at z
    split at z
    · rename_i e; cases z; exact e
    · rename_i e; cases z; exact e
    · cases z
  exact ⟨v, tyW X T, tyV X t, tyV X T, b, rfl, tyW_ok T, by rw [hx.K]; exact ty_of mk g1 h4 hc r1, by rw [hx.K]; exact one, q _ w1 l1 rfl g1⟩
/-- isinstance(a, (T, ..)) -/
theorem ok_isiT {a : E} {ea : Expr} {es : List Expr} {T : Ty} {Ts : List Ty} {j} {p1 p2 pos : Pos} (mk : Mok X g p M k) (hgl : sc.names.lookup ("isinstance" : Str) = some .globalImplicit) (hs : NoStar ea) (ht : TyEs X p sc (T :: Ts) es) (hz : Ts.length ≤ 1000)
    (ha : EOk X g p M k N sc a ea) : EOk X g p M k N sc (.isi a (T :: Ts)) (.Call (.Name "isinstance" p1) [ea, .Tuple es j p2] [] pos) := by
  intro x hx w l s d s' σ h sg sl Q q
  unfold evE at h
  obtain ⟨⟨d1, s1⟩, h1, h⟩ := inv2 (γ := Unit) h
  obtain ⟨b, h3, h⟩ := invm h
  cases h
  obtain ⟨t, h4, h5⟩ := Option.bind_eq_some_iff.mp h3
  refine semE.of (pe_callB (id := "isinstance") (r := rIsiT x.K) call_isiT (hx.gl hgl) (hx.bl mk "isinstance" (by simp)) (by decide +kernel) (pa_cons pe_sem (pa_cons (pe_tup pa_sem) pa_nil) (hs _ _)) (he := hs _ _))
    (ha x hx w l s d1 _ σ h1 sg sl _ fun v w1 l1 r1 g1 => ?_)
  have hk := any_ok mk h5
  have hc : ∀ c, t = .cls c → ∃ C, M.tb.cl c = some C := fun c e => by
    subst e
    have h6 : (match M.tb.isa (.cls c) T with | some true => some true | some false => anyIs M.tb (.cls c) Ts | none => none) = some b := h5
    split at h6
    · rename_i e; exact mk.ism _ _ _ e
    · rename_i e; exact mk.ism _ _ _ e
    · cases h6
  refine pa_tys hx ht ⟨?_, fun np hp => ?_⟩
  · rw [List.length_map]
    exact Nat.le_trans (show (T :: Ts).length ≤ 1001 from Nat.succ_le_succ hz) (by decide)
  · refine ⟨v, np, (T :: Ts).map (tyW X), tyV X t, (T :: Ts).map (tyV X), b, rfl, upd_same, tys_ok _, ?_, by rw [hx.K]; exact hk, ?_⟩
    · rw [hx.K]
      exact ty_of mk (g1.add hp Fine.tup) h4 hc (r1.mono (Le.add hp) d1)
    · exact q _ (w1.add np (.tup _)) (l1.trans (Le.add hp)) rfl (g1.add hp Fine.tup)
end
end G

/-! Part P: type names, own == and bool, making. -/
namespace G
open PySem L2 PySem.SeqAt
section
variable {X : Pc} {g : Gi} {p : Pg} {M : Mch} {k : Nat} {N : List Str} {sc : Scope}
variable {x : Cx} {w : Wd} {l : Sl} {s s1 s2 s' : Sto} {σ : St} {d d1 d2 : D} {pins : List (Addr × Obj)} {sh : Shared}
/-- the type of a value, for the model's look -/
theorem ty_looks {t : Ty} {v : V} {u : Value} (hK : x.K = X.K) (I : Inv x pins σ w.H sh) (sg : SG X g w s) (h : tyD s d = some t) (r : Rep X w d v) (rv : RelV v u) {m : Model} : PySem.W.Looks m sh.heap (typeOf u) (tyV X t) := by
  have ld : ∀ {a : Addr} {o : Obj} {c : Value}, sh.heap.get? a = some o → o.cls = c → PySem.W.Looks m sh.heap (typeOf (.ref a)) c := fun {a o c} e q => q ▸ (PySem.W.Looks.ld e).andThen .now
  have ins : ∀ {c : Str}, clsD s d = some c → t = .cls c → PySem.W.Looks m sh.heap (typeOf u) (tyV X t) := fun {c} e q => by
    subst q
    obtain ⟨a, dx, fs, rfl, e, cl⟩ := ins_at sg e r
    cases rv
    obtain ⟨mA, O, _⟩ := ins_get I.hok e
    obtain ⟨od, J, _⟩ := O.look
    exact J.type
  cases d with
  | non => cases h; cases r; cases rv; exact .of_pure rfl
  | bl b => cases h; cases r; cases rv; exact .of_pure rfl
  | int b => cases h; cases r; obtain ⟨t, rfl⟩ := rv; exact .of_pure rfl
  | str b => cases h; cases r; obtain ⟨t, rfl⟩ := rv; exact .of_pure rfl
  | lst l =>
    cases h
    obtain ⟨a, vs, rfl, t, _⟩ := r
    cases rv
    obtain ⟨its, _, ⟨o, n, ho, hc, _, hd⟩, _⟩ := I.list (by rw [hK]; exact t.sq)
    exact ld ho hc
  | tup l =>
    cases h
    obtain ⟨a, vs, rfl, t, _⟩ := r
    cases rv
    obtain ⟨its, _, ⟨o, ho, hc, n, hd⟩, _⟩ := I.tuple (by rw [hK]; exact t.sq)
    exact ld ho hc
  | dic ks us =>
    cases h
    obtain ⟨a, kvs, rfl, t, _⟩ := r
    cases rv
    obtain ⟨⟨dd, es, n, sl, e⟩, _⟩ := emptyD I t
    exact ld e rfl
  | ins c ns vs => cases h; exact ins rfl rfl
  | loc n =>
    cases t with
    | ty t =>
      exfalso
      have h' : (match s[n]? with | some (O.ins c _ _) => some (Ty.cls c) | _ => none) = some (Ty.ty t) := h
      split at h' <;> cases h'
    | cls c => exact ins (ty_cls h) rfl
  | fn n => cases h
  | scr l => cases h

/-- type(a).__name__.lower() -/
theorem ok_tnl {a : E} {ea : Expr} {p1 p2 p3 p4 p5 : Pos} (mk : Mok X g p M k) (hgl : sc.names.lookup ("type" : Str) = some .globalImplicit) (hs : NoStar ea) (hl : (p4.endLine == p5.line) = true) (ha : EOk X g p M k N sc a ea) :
    EOk X g p M k N sc (.tnl a) (.Call (.Attribute (.Attribute (.Call (.Name "type" p1) [ea] [] p2) "__name__" p3) "lower" p4) [] [] p5) := by
  intro x hx w l s d s' σ h sg sl Q q
  unfold evE at h
  obtain ⟨⟨d1, s1⟩, h1, h⟩ := inv2 (γ := Unit) h
  obtain ⟨b, h3, h⟩ := invm h
  cases h
  obtain ⟨c, h4, h5⟩ := Option.bind_eq_some_iff.mp h3
  obtain ⟨C, h6, h7⟩ := Option.map_eq_some_iff.mp h5
  subst h7
  obtain ⟨o, z, t, k1, k2, k3, k4, k5, k6, k7⟩ := (mk.cls c C h6).tn
  -- type(a)
  have R1 : CallR x (.type "type") (fun xs H Q => ∃ (w1 : Wd) (a : Addr) (dx : Addr) (fs : List (Str × V)), w1.H = H ∧ xs = [.ref a] ∧ H a = some (.ins (X.cad c) dx fs) ∧ Q (.ref (X.cad c)) H) := by
    intro pins sh σ H xs us Q I r h
    obtain ⟨w1, a, dx, fs, rfl, rfl, e, q⟩ := h
    obtain ⟨u, rfl, r1⟩ := vals1 r
    cases r1
    obtain ⟨mA, O, _⟩ := ins_get I.hok e
    obtain ⟨od, J, _⟩ := O.look
    exact PySem.W.kto_own J ⟨.ref (X.cad c), _, I, rfl, q⟩
  have P1 := pe_callTy (T := "type") (x := "type") (p := p1) (pos := p2) R1 (hx.gl hgl) (hx.bl mk "type" (by simp)) (by decide +kernel) (pa_sem (X := x) (es := [ea])) (he := hs _ _)
  -- .__name__
  have P2 : PE x (.Attribute (.Call (.Name "type" p1) [ea] [] p2) "__name__" p3) (fun σ H Q => tCB (fun xs H Q => ∃ (w1 : Wd) (a : Addr) (dx : Addr) (fs : List (Str × V)), w1.H = H ∧ xs = [.ref a] ∧ H a = some (.ins (X.cad c) dx fs) ∧ Q (.ref (X.cad c)) H) (semA x [ea]) σ H fun v H1 => v = .ref (X.cad c) ∧ Q (.str z) H1) := by
    refine ⟨fun pins sh σ H Q I h => ?_⟩
    refine attr_of rfl (thn (P1.run pins sh σ H _ I h) fun u sh1 ⟨v, H1, I1, rv, e, q⟩ => ?_)
    subst e
    cases rv
    refine nm_attr (K := X.K) (by rw [← hx.K]; exact I1.kIn) k1 k2 k3 k6 k7 fun tk => ⟨.str z, H1, I1.tok tk, ⟨t, rfl⟩, q⟩
  refine semE.of (pe_lower (apos := p4) (pos := p5) P2 rfl hl) ?_
  have hA := ak_cons (M := M) hs ha ak_nil
  refine hA x hx w l s [d1] s1 σ ?_ sg sl _ fun vs w1 l1 r1 g1 => ?_
  · unfold evEs
    rw [h1]
    unfold evEs
    rfl
  · obtain ⟨v, us, rfl, r2, r3⟩ := r1
    rw [show us = [] from r3]
    obtain ⟨a, dx, fs, rfl, e, cl⟩ := ins_at g1 h4 r2
    refine ⟨w1, a, dx, fs, rfl, rfl, e, rfl, ⟨z, rfl⟩, z, rfl, rfl, k4, ?_⟩
    rw [k5]
    exact q _ w1 l1 rfl g1

/-- the callee of a room's lower level -/
theorem low_fn (mk : Mok X g p M k) {f : Nat} {ds : List D} {s : Sto} {q : D × Sto} (h : M.init f ds s = some q) : ∃ j, j + 2 ≤ k ∧ FnQ p.P p.w X.K p.mg p.base j (X.fad f) (spD X g M.init f) := by
  rcases mk.init with ⟨j, hj, F⟩ | h0
  · exact ⟨j, hj, F f⟩
  · rw [h0] at h; cases h
/-- the callee runs below -/
theorem run_below {A : Around} {j : Nat} {f : Addr} {sp : Sp} {Q : VK} {us : List Value} {vs : List V} {H : Hp} (F : FnQ x.prog x.w x.K x.mg x.base j f sp) (hr : Room j A) (gd : A.guards = some []) (e0 : Env0 x.prog x.w x.K x.mg x.base A x.stack sh H) (I : Inv x pins σ H sh) (r : Vals vs us) (h : sp vs H Q E0) :
    wpAny (model x.prog x.w) A (call (.ref f) us) (EP x pins σ Q) x.xe sh := by
  refine wpAny_call (codeAny_mono (F A x.stack sh H ⟨us, []⟩ us vs Q E0 hr gd e0 (fun _ _ _ _ => rfl) r h) fun z s' hq => ?_)
  match z, hq with
  | .error e, hq => exact pass0 pins σ H sh e s' I hq
  | .ok (.ret u), hq => exact I.after hq
def eqoOp : Bool → CmpOp
  | true => .NotEq
  | false => .Eq
/-- the comparison by an own __eq__, for the values at hand -/
def rEqo (X : Pc) (g : Gi) (d1 d2 : D) (s2 s' : Sto) (b : Bool) : R2 := fun v1 v2 H Q => ∃ w1, w1.H = H ∧ Rep X w1 d1 v1 ∧ Rep X w1 d2 v2 ∧ SG X g w1 s2 ∧ ∀ w', Le w1 w' → SG X g w' s' → Q (.bl b) w'.H
theorem eqo_op {neg : Bool} (mk : Mok X g p M k) (hx : Con1 X p k N sc x) (h : eqoD M neg d1 d2 s2 = some (d, s')) : ∃ b, d = .bl b ∧ OpR x (compareOp (eqoOp neg)) (rEqo X g d1 d2 s2 s' b) := by
  obtain ⟨c, h3, h⟩ := inv2 (γ := Unit) (show (clsD s2 d1).bind _ = some (d, s') from h)
  obtain ⟨t, h4, h⟩ := inv2 (γ := Unit) h
  obtain ⟨C, h5, h⟩ := inv2 (γ := Unit) h
  obtain ⟨f, h6, h⟩ := inv2 (γ := Unit) h
  have h' : (if M.tb.nf c t = true then (M.init f [d1, d2] s2).bind fun q => match q.1 with | .bl b => some (D.bl (b != neg), q.2) | _ => none else none) = some (d, s') := h
  split at h'
  · rename_i hn
    obtain ⟨⟨d3, s3⟩, h7, h8⟩ := inv2 (γ := Unit) h'
    obtain ⟨y, e1, e2⟩ : ∃ y, d3 = .bl y ∧ (D.bl (y != neg), s3) = (d, s') := by
      cases d3 with
      | bl y => exact ⟨y, rfl, Option.some.inj h8⟩
      | _ => cases h8
    subst e1
    cases e2
    obtain ⟨j, hj, F⟩ := low_fn mk h7
    have F' : FnQ x.prog x.w x.K x.mg x.base j (X.fad f) (spD X g M.init f) := by rw [hx.P, hx.w, hx.K, hx.mg, hx.base]; exact F
    obtain ⟨n1, n2, n3⟩ := mk.nes c C h5 f h6
    refine ⟨_, rfl, ?_⟩
    intro pins sh σ H v1 v2 u1 u2 Q I r1 r2 hq
    obtain ⟨w1, rfl, q1, q2, g1, q⟩ := hq
    obtain ⟨a, dx, fs, rfl, e, cl⟩ := ins_at g1 h3 q1
    cases r1
    obtain ⟨mA, O, _⟩ := ins_get I.hok e
    obtain ⟨od, J, _⟩ := O.look
    have lk := ty_looks hx.K I g1 h4 q2 r2 (m := model x.prog x.w)
    obtain ⟨m, hF⟩ := I.fr
    have sp : ∀ Q' : VK, (∀ w', Le w1 w' → SG X g w' s' → Q' (.bl y) w'.H) → spD X g M.init f [.ref a, v2] w1.H Q' E0 := fun Q' q' =>
      ⟨w1, [d1, d2], s2, .bl y, s', rfl, h7, ⟨_, _, rfl, q1, _, _, rfl, q2, rfl⟩, g1, fun v w' le r g' => by cases r; exact q' w' le g'⟩
    have KX : X.K.In sh.heap := by rw [← hx.K]; exact I.kIn
    have rr : Vals [.ref a, v2] [.ref a, u2] := .cons (show RelV (V.ref a) (Value.ref a) from rfl) (.cons r2 .nil)
    cases neg with
    | false =>
      have e : compareOp .Eq (.ref a) u2 = richCompare .Eq (.ref a) u2 := by unfold compareOp; rfl
      show wpAny _ _ (compareOp .Eq (.ref a) u2) _ _ _
      rw [e]
      refine PySem.W.cmp_K (op := .Eq) (tb := tyV X t) hx.room.units0 hF (by rw [← hx.K]; exact I.ok.mod.kin) J lk (mk.nf c t hn) n1 n2 ?_
      refine wpAny_mono (run_below (Q := fun v H => v = .bl y ∧ Q (.bl y) H) F' (hx.room.mono (by omega)) hx.gd I.env0 I rr (sp _ fun w' le g' => ⟨rfl, by simpa using q w' le g'⟩)) (fun v s3 hv => ?_) fun _ _ e => e
      obtain ⟨vv, H', I', rv, ev, qv⟩ := hv
      subst ev
      cases rv
      exact ⟨.bl y, H', I', rfl, qv⟩
    | true =>
      have e : compareOp .NotEq (.ref a) u2 = richCompare .NotEq (.ref a) u2 := by unfold compareOp; rfl
      show wpAny _ _ (compareOp .NotEq (.ref a) u2) _ _ _
      rw [e]
      have hu := hx.room.un
      refine ne_own (show x.A.units + 1 < cLine by omega) KX J lk (mk.nf c t hn) (mk.isc c C h5).2 n3 n1 n2 ?_
      have rj : Room j x.A.in1 := Room.in1 (hx.room.mono (by omega))
      refine wpAny_mono (run_below (Q := fun v H => v = .bl y ∧ Q (.bl (!y)) H) F' rj (in1_g.trans hx.gd) I.env0.in1 I rr (sp _ fun w' le g' => ⟨rfl, by simpa using q w' le g'⟩)) (fun v s3 hv => ?_) fun _ _ e => e
      obtain ⟨vv, H', I', rv, ev, qv⟩ := hv
      subst ev
      cases rv
      exact ⟨y, rfl, .bl (!y), H', I', rfl, qv⟩
  · cases h'
theorem ok_eqo {neg : Bool} {a b : E} {ea eb : Expr} {pos : Pos} (mk : Mok X g p M k) (ha : EOk X g p M k N sc a ea) (hb : EOk X g p M k N sc b eb) : EOk X g p M k N sc (.eqo neg a b) (.Compare ea [eqoOp neg] [eb] pos) := by
  intro x hx w l s d s' σ h sg sl Q q
  unfold evE at h
  obtain ⟨⟨d1, s1⟩, h1, h⟩ := inv2 (γ := Unit) h
  obtain ⟨⟨d2, s2⟩, h2, h⟩ := inv2 (γ := Unit) h
  obtain ⟨b, rfl, op⟩ := eqo_op mk hx h
  exact semE.of (pe_cmpR op pe_sem pe_sem (by cases neg <;> exact nobehind eb (by decide) (by decide))) (two ha hb hx h1 h2 sg sl fun v1 v2 w' le r1 r2 g' => ⟨w', rfl, r1, r2, g', fun w2 l2 g2 => q _ w2 (le.trans l2) rfl g2⟩)
theorem tk_eqo {neg : Bool} {a b : E} {ea eb : Expr} {pos : Pos} (mk : Mok X g p M k) (ha : EOk X g p M k N sc a ea) (hb : EOk X g p M k N sc b eb) : TOk X g p M k N sc (.eqo neg a b) (.Compare ea [eqoOp neg] [eb] pos) := by
  intro x hx w l s d s' σ h sg sl Q q
  unfold evE at h
  obtain ⟨⟨d1, s1⟩, h1, h⟩ := inv2 (γ := Unit) h
  obtain ⟨⟨d2, s2⟩, h2, h⟩ := inv2 (γ := Unit) h
  obtain ⟨b, e, op⟩ := eqo_op mk hx h
  cases e
  exact semT.of (pt_cmpR op pe_sem pe_sem (by cases neg <;> exact nobehind eb (by decide) (by decide))) (two ha hb hx h1 h2 sg sl fun v1 v2 w' le r1 r2 g' => ⟨w', rfl, r1, r2, g', fun w2 l2 g2 => ⟨_, rfl, q w2 (le.trans l2) g2⟩⟩)
theorem ok_bo {a : E} {ea : Expr} {p1 pos : Pos} (mk : Mok X g p M k) (hgl : sc.names.lookup ("bool" : Str) = some .globalImplicit) (hs : NoStar ea) (ha : EOk X g p M k N sc a ea) : EOk X g p M k N sc (.bo a) (.Call (.Name "bool" p1) [ea] [] pos) := by
  intro x hx w l s d s' σ h sg sl Q q
  unfold evE at h
  obtain ⟨⟨d1, s1⟩, h1, h⟩ := inv2 (γ := Unit) h
  obtain ⟨c, h3, h⟩ := inv2 (γ := Unit) h
  obtain ⟨C, h5, h⟩ := inv2 (γ := Unit) h
  obtain ⟨f, h6, h⟩ := inv2 (γ := Unit) h
  obtain ⟨⟨d3, s3⟩, h7, h8⟩ := inv2 (γ := Unit) h
  obtain ⟨y, e1, e2⟩ : ∃ y, d3 = .bl y ∧ (D.bl y, s3) = (d, s') := by
    cases d3 with
    | bl y => exact ⟨y, rfl, Option.some.inj h8⟩
    | _ => cases h8
  subst e1
  cases e2
  obtain ⟨j, hj, F⟩ := low_fn mk h7
  have F' : FnQ x.prog x.w x.K x.mg x.base j (X.fad f) (spD X g M.init f) := by rw [hx.P, hx.w, hx.K, hx.mg, hx.base]; exact F
  obtain ⟨n1, n2⟩ := mk.bls c C h5 f h6
  have R1 : CallR x (.type "bool") (fun xs H Q => ∃ w1 v, w1.H = H ∧ xs = [v] ∧ Rep X w1 d1 v ∧ SG X g w1 s1 ∧ ∀ w', Le w1 w' → SG X g w' s' → Q (.bl y) w'.H) := by
    intro pins sh σ H xs us Q I r hq
    obtain ⟨w1, v, rfl, rfl, q1, g1, q⟩ := hq
    obtain ⟨u, rfl, r1⟩ := vals1 r
    obtain ⟨a, dx, fs, rfl, e, cl⟩ := ins_at g1 h3 q1
    cases r1
    obtain ⟨mA, O, _⟩ := ins_get I.hok e
    obtain ⟨od, J, _⟩ := O.look
    have KX : X.K.In sh.heap := by rw [← hx.K]; exact I.kIn
    have rj : Room j x.A.in1.in1 := (show Room (j + 1) x.A.in1 from Room.in1 (hx.room.mono (by omega))).in1
    refine bool_own KX J n1 n2 (wpAny_mono (run_below (Q := fun v H => v = .bl y ∧ Q (.bl y) H) F' rj (in1_g.trans (in1_g.trans hx.gd)) I.env0.in1.in1 I (.cons (show RelV (V.ref a) (Value.ref a) from rfl) .nil)
      ⟨w1, [d1], s1, .bl y, s', rfl, h7, ⟨_, _, rfl, q1, rfl⟩, g1, fun v w' le r g' => by cases r; exact ⟨rfl, q w' le g'⟩⟩) (fun v s3 hv => ?_) fun _ _ e => e)
    obtain ⟨vv, H', I', rv, ev, qv⟩ := hv
    subst ev
    cases rv
    exact ⟨y, rfl, .bl y, H', I', rfl, qv⟩
  refine semE.of (pe_callTy (T := "bool") (x := "bool") (p := p1) (pos := pos) R1 (hx.gl hgl) (hx.bl mk "bool" (by simp)) (by decide +kernel) (pa_sem (X := x) (es := [ea])) (he := hs _ _)) ?_
  have hA := ak_cons (M := M) hs ha ak_nil
  refine hA x hx w l s [d1] s1 σ ?_ sg sl _ fun vs w1 l1 r1 g1 => ?_
  · unfold evEs
    rw [h1]
    unfold evEs
    rfl
  · obtain ⟨v, us, rfl, r2, r3⟩ := r1
    rw [show us = [] from r3]
    exact ⟨w1, v, rfl, rfl, r2, g1, fun w' le g' => q _ w' (l1.trans le) rfl g'⟩
end
end G

/-! Part Q: calls with keywords, new instances. -/
namespace G
open PySem L2 PySem.SeqAt
section
variable {X : Pc} {g : Gi} {p : Pg} {M : Mch} {k : Nat} {N : List Str} {sc : Scope}
variable {x : Cx} {w : Wd} {l : Sl} {s s1 s2 s' : Sto} {σ : St} {d d1 d2 : D} {pins : List (Addr × Obj)} {sh : Shared}
/-! ### keywords -/
def semK (x : Cx) (kws : List Keyword) : TA := fun σ H Q => ∀ (pos : Pos) (pins : List (Addr × Obj)) (s : Shared), Inv x pins σ H s → wpAny (model x.prog x.w) x.A (evalAll ((backToKw pos (keywordEach kws x.env)).map (·.2))) (AP x pins σ Q) x.xe s
theorem pk_sem {kws : List Keyword} : PK x kws (semK x kws) := ⟨fun pos pins s _ _ _ I h => h pos pins s I⟩
theorem semK.of {kws : List Keyword} {t : TA} {H : Hp} {Q : List V → Hp → Prop} (q : PK x kws t) (h : t σ H Q) : semK x kws σ H Q := fun pos pins s I => q.run pos pins s σ H Q I h
def KAOk (X : Pc) (g : Gi) (p : Pg) (M : Mch) (k : Nat) (N : List Str) (sc : Scope) (es : List E) (kws : List Keyword) : Prop := ∀ (x : Cx), Con1 X p k N sc x → ∀ (w : Wd) (l : Sl) (s : Sto) (ds : List D) (s' : Sto) (σ : St), evEs M es l s = some (ds, s') → SG X g w s → SlV X w l σ →
  ∀ Q : List V → Hp → Prop, (∀ vs w', Le w w' → Reps X w' ds vs → SG X g w' s' → Q vs w'.H) → semK x kws σ w.H Q
theorem kk_nil : KAOk X g p M k N sc [] [] := by
  intro x hx w l s ds s' σ h sg sl Q q
  unfold evEs at h
  cases h
  exact semK.of pk_nil (q [] w (Le.refl w) rfl sg)
theorem kk_cons {a : E} {as : List E} {ea : Expr} {nm : Option Str} {kp : Pos} {kws : List Keyword} (ha : EOk X g p M k N sc a ea) (hr : KAOk X g p M k N sc as kws) : KAOk X g p M k N sc (a :: as) (⟨nm, ea, kp⟩ :: kws) := by
  intro x hx w l s ds s' σ h sg sl Q q
  unfold evEs at h
  obtain ⟨⟨d1, s1⟩, h1, h⟩ := inv2 (γ := Unit) h
  obtain ⟨⟨ds2, s2⟩, h2, h⟩ := invm h
  cases h
  refine semK.of (pk_cons pe_sem pk_sem) (ha x hx w l s d1 s1 σ h1 sg sl _ fun v1 w1 l1 r1 g1 => ?_)
  exact hr x hx w1 l s1 ds2 s2 σ h2 g1 (sl.mono l1) _ fun vs w2 l2 r2 g2 => q _ w2 (l1.trans l2) ⟨v1, vs, rfl, r1.mono l2 d1, r2⟩ g2
/-- the keywords' names -/
inductive Kws : List Str → List Keyword → Prop
  | nil : Kws [] []
  | cons {k : Str} {ks : List Str} {e : Expr} {kp : Pos} {kws : List Keyword} (r : Kws ks kws) : Kws (k :: ks) (⟨some k, e, kp⟩ :: kws)
theorem Kws.all {ks : List Str} {kws : List Keyword} (h : Kws ks kws) (pos : Pos) (env : Env) : (backToKw pos (keywordEach kws env)).all (·.1.isSome) = true ∧ (backToKw pos (keywordEach kws env)).filterMap (·.1) = ks ∧ (backToKw pos (keywordEach kws env)).any (·.1.isNone) = false := by
  induction h with
  | nil => exact ⟨rfl, rfl, rfl⟩
  | @cons k ks e kp kws r ih =>
    obtain ⟨a, b, c⟩ := ih
    refine ⟨?_, ?_, ?_⟩
    · show (true && (backToKw pos (keywordEach kws env)).all (·.1.isSome)) = true
      rw [a]; rfl
    · show k :: (backToKw pos (keywordEach kws env)).filterMap (·.1) = _
      rw [b]
    · show (false || (backToKw pos (keywordEach kws env)).any (·.1.isNone)) = false
      rw [c]; rfl
/-- how the def at f binds n values and the named ones -/
def KwB (K : PySem.W.Frag) (f : Addr) (n : Nat) (ks : List Str) (pm : List Nat) : Prop := ∀ (us ws : List Value), us.length = n → ws.length = ks.length → SameB K f ⟨us, ks.zip ws⟩ (us ++ permD pm ws)
theorem Reps.pick {ds : List D} {vs : List V} {us : List Value} (r : Reps X w ds vs) (rv : Vals vs us) : ∀ pm : List Nat, ∃ vs', Reps X w (permD pm ds) vs' ∧ Vals vs' (permD pm us)
  | [] => ⟨[], rfl, .nil⟩
  | i :: pm => by
    obtain ⟨vs', h1, h2⟩ := Reps.pick r rv pm
    unfold permD at h1 h2 ⊢
    rw [List.filterMap_cons, List.filterMap_cons]
    by_cases hi : i < ds.length
    · have e1 : ds[i]? = some ds[i] := by simp [hi]
      obtain ⟨v, e2, r2⟩ := r.get e1
      have hj : i < us.length := by rw [← rv.length, r.length]; exact hi
      have e3 : us[i]? = some us[i] := by simp [hj]
      refine ⟨v :: vs', ?_, ?_⟩
      · rw [e1]
        exact ⟨v, vs', rfl, r2, h1⟩
      · rw [e3]
        refine .cons ?_ h2
        obtain ⟨u, e4, r4⟩ := Vals.get rv e2
        rw [e3] at e4
        cases e4
        exact r4
    · have e1 : ds[i]? = none := by simp; omega
      have e3 : us[i]? = none := by
        have := rv.length
        have := r.length
        simp; omega
      rw [e1, e3]
      exact ⟨vs', h1, h2⟩
/-! ### new instances -/
/-- what the promise of an __init__ asks for a new instance -/
theorem made_sp {c : Str} {C : Cl} {ds : List D} {vs : List V} {Q : VK} (mk : Mok X g p M k) (hC : M.tb.cl c = some C) (hn : newD M c ds s = some (d, s')) (sg : SG X g w s) (r : Reps X w ds vs)
    (q : ∀ v w', Le w w' → Rep X w' d v → SG X g w' s' → Q v w'.H) {i dd : Addr} (hi : w.H i = none) (hdd : w.H dd = none) (ne : dd ≠ i) : spD X g M.init C.init (.ref i :: vs) (upd (upd w.H dd (.own i)) i (.ins (X.cad c) dd [])) (fun v H2 => v = .non ∧ Q (.ref i) H2) E0 := by
  unfold newD at hn
  rw [hC] at hn
  have hn' : (if lfs ds = true then (M.init C.init (.loc 0 :: ds) [O.ins c [] []]).bind fun q => (match q.1 with | .non => frozenIns q.2 | _ => none).map fun d => (d, s) else none) = some (d, s') := hn
  split at hn'
  · rename_i hl
    obtain ⟨⟨d2, s2⟩, h1, h2⟩ := inv2 (γ := Unit) hn'
    obtain ⟨d3, h3, h4⟩ := invm h2
    cases h4
    cases d2 with
    | non =>
      have h3' : frozenIns s2 = some d := h3
      cases s2 with
      | nil => cases h3'
      | cons o rest =>
        cases o with
        | lst l => cases h3'
        | dic ks us => cases h3'
        | ins c2 ns us =>
          have h5 : (if lfs us = true then some (D.ins c2 ns us) else none) = some d := h3'
          split at h5
          · rename_i hlf
            cases h5
            have cl := (mk.cls c C hC).cl
            have g1 : SG X g (w.iso.add dd (.own i)) [] := sg.iso.add hdd Fine.own
            have hi' : (w.iso.add dd (.own i)).H i = none := by
              show upd w.H dd (.own i) i = none
              rw [upd_ne (Ne.symm ne)]; exact hi
            have fin : Fine (.ins (X.cad c) dd []) := fun _ _ _ e => by cases e; rfl
            have g2 : SG X g ((w.iso.add dd (.own i)).own i (.ins (X.cad c) dd [])) [O.ins c [] []] := g1.own hi' fin ⟨dd, [], upd_same, rfl, ⟨cl, fun _ z => nomatch z⟩, rfl⟩
            have le1 : Le w.iso ((w.iso.add dd (.own i)).own i (.ins (X.cad c) dd [])) := (Le.add (w := w.iso) hdd).trans (Le.own hi')
            refine ⟨(w.iso.add dd (.own i)).own i (.ins (X.cad c) dd []), .loc 0 :: ds, [O.ins c [] []], .non, O.ins c2 ns us :: rest, rfl, h1, ⟨.ref i, vs, rfl, ⟨i, rfl, rfl⟩, Reps.mono le1 _ (Reps.to_iso _ hl r)⟩, g2, fun v w' le rv g' => ⟨rv, ?_⟩⟩
            obtain ⟨z1, z2⟩ := iso_le (w1 := (w.iso.add dd (.own i)).own i (.ins (X.cad c) dd [])) sg (fun a o e => ⟨le1.live a |> fun _ => by
                show upd (upd w.H dd (.own i)) i _ a = some o
                rw [upd_ne (ne_of_none e hi), upd_ne (ne_of_none e hdd)]; exact e, fun z => by
                rw [List.mem_singleton.mp (show a ∈ [i] from z), hi] at e
                cases e⟩) rfl le g' fun a z => le1.live a z
            refine q (.ref i) (w.back w') z1 ?_ z2
            obtain ⟨a, ha, ho⟩ := g'.obj 0 _ rfl
            obtain ⟨more, em, _⟩ := le.rs
            have : a = i := by
              rw [em] at ha
              exact (Option.some.inj ha).symm
            subst this
            obtain ⟨dx, fs, e1, e2, e3, e4⟩ := ho
            refine ⟨a, dx, fs, rfl, e1, fun z => ?_, e2, e3, Reps.back (w1 := (w.iso.add dd (.own a)).own a (.ins (X.cad c) dd [])) rfl le us hlf e4⟩
            rcases z with z | z | z
            · obtain ⟨u, hu⟩ := sg.there z
              rw [hi] at hu; cases hu
            · exact sg.vl a z hi
            · exact g'.dis a (List.mem_of_getElem? ha) z
          · cases h5
    | _ => cases h3
  · cases hn'
theorem ok_new {c : Str} {a : E} {as : List E} {ea : Expr} {es : List Expr} {n : Str} {p1 pos : Pos} (mk : Mok X g p M k) (hn : p.mg n = some (.ref (X.cad c))) (hgl : sc.names.lookup n = some .globalImplicit) (hd : (n == ("__debug__" : Str)) = false)
    (hs : NoStar ea) (hss : NoStars es) (ha : AOk X g p M k N sc (a :: as) (ea :: es)) : EOk X g p M k N sc (.new c (a :: as)) (.Call (.Name n p1) (ea :: es) [] pos) := by
  intro x hx w l s d s' σ h sg sl Q q
  unfold evE at h
  obtain ⟨⟨ds, s1⟩, h1, h⟩ := inv2 (γ := Unit) h
  obtain ⟨C, hC, hN⟩ := inv2 (γ := Unit) (show (M.tb.cl c).bind _ = some (d, s') from h)
  have hi : ∃ q, M.init C.init (.loc 0 :: ds) [O.ins c [] []] = some q := by
    have hN' : (if lfs ds = true then (M.init C.init (.loc 0 :: ds) [O.ins c [] []]).bind fun q => (match q.1 with | .non => frozenIns q.2 | _ => none).map fun d => (d, s1) else none) = some (d, s') := hN
    split at hN'
    · obtain ⟨q, e, _⟩ := inv2 (γ := Unit) hN'; exact ⟨q, e⟩
    · cases hN'
  obtain ⟨_, hi⟩ := hi
  obtain ⟨j, hj, F⟩ := low_fn mk hi
  have F' : FnQ x.prog x.w x.K x.mg x.base j (X.fad C.init) (spD X g M.init C.init) := by rw [hx.P, hx.w, hx.K, hx.mg, hx.base]; exact F
  have m : Mk x.K (X.cad c) (X.fad C.init) := by rw [hx.K]; exact (mk.cls c C hC).mkr
  refine semE.of (pe_makeQ (E := E0) m F' (hx.room.mono (by omega)) hx.gd (hx.gl hgl) (by rw [hx.mg]; exact hn) pa_sem hd (hs _ _) (hss _ _)) (ha x hx w l s ds s1 σ h1 sg sl _ fun vs w1 l1 r1 g1 => ?_)
  intro i dd e1 e2 ne
  exact made_sp mk hC h g1 r1 (fun v w' le r g' => q v w' (l1.trans le) r g') e1 e2 ne
/-! ### calls with keywords -/
theorem evEs_len : ∀ {es : List E} {l : Sl} {s : Sto} {ds : List D} {s' : Sto}, evEs M es l s = some (ds, s') → ds.length = es.length
  | [], l, s, ds, s', h => by unfold evEs at h; cases h; rfl
  | e :: es, l, s, ds, s', h => by
    unfold evEs at h
    obtain ⟨⟨d1, s1⟩, h1, h⟩ := inv2 (γ := Unit) h
    obtain ⟨⟨ds2, s2⟩, h2, h⟩ := invm h
    cases h
    rw [List.length_cons, List.length_cons, evEs_len h2]
section
variable {n : Str} {e : Expr} {es : List Expr} {kws : List Keyword} {p1 pos : Pos} {ks : List Str}
/-- the arguments of a call: named values only -/
theorem args_kw0 {fv : Value} {σ : St} {H : Hp} {Q : VK} (hk : PySem.W.keepIn x.K fv = true) (hks : Kws ks kws) (hld : Gl x n) (hm : x.mg n = some fv) (hd : (n == ("__debug__" : Str)) = false)
    (I : Inv x pins σ H sh) (h : semK x kws σ H fun zs H2 => ∀ (ws : List Value) (s2 : Shared), Inv x pins σ H2 s2 → Vals zs ws → wpAny (model x.prog x.w) x.A (call fv [] (ks.zip ws)) (EP x pins σ Q) x.xe s2) :
    wpAny (model x.prog x.w) x.A (eval (.Call (.Name n p1) [] kws pos) x.env) (EP x pins σ Q) x.xe sh := by
  refine wpAny_Call_Name_kw (ld_glob I hld hm ?_ hd)
  obtain ⟨k1, k2, k3⟩ := hks.all pos x.env
  refine PySem.W.callWith_KW0 (h₀ := x.base) I.ok.mod.kin hk k1 (thn (h pos pins sh I) fun ws s2 q => ?_) (by show (false || _) = false; rw [k3]; rfl)
  obtain ⟨zs, H2, I2, rz, q2⟩ := q
  rw [k2]
  exact ⟨I2.kIn, q2 ws s2 I2 rz⟩
/-- values in a row, then named ones -/
theorem args_kw {fv : Value} {σ : St} {H : Hp} {Q : VK} (hk : PySem.W.keepIn x.K fv = true) (hks : Kws ks kws) (n1 : NoStar e) (n2 : NoStars es) (hld : Gl x n) (hm : x.mg n = some fv) (hd : (n == ("__debug__" : Str)) = false)
    (I : Inv x pins σ H sh) (h : semA x (e :: es) σ H fun vs H1 => semK x kws σ H1 fun zs H2 => ∀ (us ws : List Value) (s2 : Shared), Inv x pins σ H2 s2 → Vals vs us → Vals zs ws → wpAny (model x.prog x.w) x.A (call fv us (ks.zip ws)) (EP x pins σ Q) x.xe s2) :
    wpAny (model x.prog x.w) x.A (eval (.Call (.Name n p1) (e :: es) kws pos) x.env) (EP x pins σ Q) x.xe sh := by
  refine wpAny_Call_Name_kw (ld_glob I hld hm ?_ hd)
  obtain ⟨k1, k2, k3⟩ := hks.all pos x.env
  have hp : ((backTo pos (starEach (e :: es) x.env)).any (·.1) || (backToKw pos (keywordEach kws x.env)).any (·.1.isNone)) = false := by
    rw [k3, n1 es x.env, Bool.or_false]
    exact n2 pos x.env
  refine PySem.W.callWith_KW (h₀ := x.base) I.ok.mod.kin hk k1 (thn (h pos pins sh I) fun us s1 q => ?_) hp (n1 _ _)
  obtain ⟨vs, H1, I1, rv, q1⟩ := q
  refine thn (q1 pos pins s1 I1) fun ws s2 q => ?_
  obtain ⟨zs, H2, I2, rz, q2⟩ := q
  rw [k2]
  exact ⟨I2.kIn, q2 us ws s2 I2 rv rz⟩
end
/-- a call of a def whose arguments are at hand -/
theorem kw_call {f : Nat} {iso : Bool} {n : Nat} {ks : List Str} {pm : List Nat} {ds zs : List D} {vs vz : List V} {us ws : List Value} {w : Wd} {Q : VK} (mk : Mok X g p M k) (hx : Con1 X p k N sc x) (hkw : KwB X.K (X.fad f) n ks pm)
    (h : callD M f iso (ds ++ permD pm zs) s = some (d, s')) (sg : SG X g w s) (r : Reps X w ds vs) (rz : Reps X w zs vz) (hn : ds.length = n) (hk : zs.length = ks.length) (q : ∀ v w', Le w w' → Rep X w' d v → SG X g w' s' → Q v w'.H)
    (I : Inv x pins σ w.H sh) (ru : Vals vs us) (rw' : Vals vz ws) : wpAny (model x.prog x.w) x.A (call (.ref (X.fad f)) us (ks.zip ws)) (EP x pins σ Q) x.xe sh := by
  have F : FnQ x.prog x.w x.K x.mg x.base k (X.fad f) (spD X g M.call f) := by rw [hx.P, hx.w, hx.K, hx.mg, hx.base]; exact mk.call f
  obtain ⟨vz', r1, r2⟩ := Reps.pick rz rw' pm
  have l1 : us.length = n := by rw [← ru.length, r.length, hn]
  have l2 : ws.length = ks.length := by rw [← rw'.length, rz.length, hk]
  refine wpAny_call (run_fnQ (E := E0) (vs := vs ++ vz') (us := us ++ permD pm ws) ?_ F hx.room hx.gd I (ru.append r2) (call_sp h sg (r.append r1) q))
  rw [hx.K]
  exact hkw us ws l1 l2
theorem ok_callk0 {f : Nat} {iso : Bool} {as : List E} {kws : List Keyword} {ks : List Str} {pm : List Nat} {n : Str} {p1 pos : Pos} (mk : Mok X g p M k) (hn : p.nm f = some n) (hgl : sc.names.lookup n = some .globalImplicit) (hd : (n == ("__debug__" : Str)) = false)
    (hks : Kws ks kws) (hl : as.length = ks.length) (hkw : KwB X.K (X.fad f) 0 ks pm) (ha : KAOk X g p M k N sc as kws) : EOk X g p M k N sc (.callk f iso pm [] as) (.Call (.Name n p1) [] kws pos) := by
  intro x hx w l s d s' σ h sg sl Q q pins sh I
  unfold evE at h
  obtain ⟨⟨ds0, s0⟩, h0, h⟩ := inv2 (γ := Unit) h
  unfold evEs at h0
  cases h0
  obtain ⟨⟨zs, s1⟩, h1, h⟩ := inv2 (γ := Unit) h
  have hm := mk.nm f n hn
  refine args_kw0 (by rw [hx.K]; exact hm.2) hks (hx.gl hgl) (by rw [hx.mg]; exact hm.1) hd I ?_
  refine ha x hx w l s zs s1 σ h1 sg sl _ fun vz w1 l1 r1 g1 ws s2 I2 rz => ?_
  exact kw_call mk hx hkw h g1 (show Reps X w1 [] [] from rfl) r1 rfl ((evEs_len h1).trans hl) (fun v w' le r g' => q v w' (l1.trans le) r g') I2 .nil rz
theorem ok_callk {f : Nat} {iso : Bool} {a : E} {as bs : List E} {ea : Expr} {es : List Expr} {kws : List Keyword} {ks : List Str} {pm : List Nat} {n : Str} {p1 pos : Pos} (mk : Mok X g p M k) (hn : p.nm f = some n) (hgl : sc.names.lookup n = some .globalImplicit) (hd : (n == ("__debug__" : Str)) = false)
    (hks : Kws ks kws) (hl : bs.length = ks.length) (hs : NoStar ea) (hss : NoStars es) (hkw : KwB X.K (X.fad f) (as.length + 1) ks pm) (ha : AOk X g p M k N sc (a :: as) (ea :: es)) (hb : KAOk X g p M k N sc bs kws) : EOk X g p M k N sc (.callk f iso pm (a :: as) bs) (.Call (.Name n p1) (ea :: es) kws pos) := by
  intro x hx w l s d s' σ h sg sl Q q pins sh I
  unfold evE at h
  obtain ⟨⟨ds0, s0⟩, h0, h⟩ := inv2 (γ := Unit) h
  obtain ⟨⟨zs, s1⟩, h1, h⟩ := inv2 (γ := Unit) h
  have hm := mk.nm f n hn
  refine args_kw (by rw [hx.K]; exact hm.2) hks hs hss (hx.gl hgl) (by rw [hx.mg]; exact hm.1) hd I ?_
  refine ha x hx w l s ds0 s0 σ h0 sg sl _ fun vs w1 l1 r1 g1 => ?_
  refine hb x hx w1 l s0 zs s1 σ h1 g1 (sl.mono l1) _ fun vz w2 l2 r2 g2 us ws s2 I2 ru rz => ?_
  exact kw_call mk hx hkw h g2 (r1.mono l2 _) r2 (evEs_len h0) ((evEs_len h1).trans hl) (fun v w' le r g' => q v w' ((l1.trans l2).trans le) r g') I2 ru rz
/-- C(k = v, ..) -/
theorem ok_newk0 {c : Str} {C : Cl} {as : List E} {kws : List Keyword} {ks : List Str} {pm : List Nat} {n : Str} {p1 pos : Pos} (mk : Mok X g p M k) (hC : M.tb.cl c = some C) (hn : p.mg n = some (.ref (X.cad c))) (hgl : sc.names.lookup n = some .globalImplicit) (hd : (n == ("__debug__" : Str)) = false)
    (hks : Kws ks kws) (hl : as.length = ks.length) (hkw : KwB X.K (X.fad C.init) 1 ks pm) (ha : KAOk X g p M k N sc as kws) : EOk X g p M k N sc (.newk c pm [] as) (.Call (.Name n p1) [] kws pos) := by
  intro x hx w l s d s' σ h sg sl Q q pins sh I
  unfold evE at h
  obtain ⟨⟨ds0, s0⟩, h0, h⟩ := inv2 (γ := Unit) h
  unfold evEs at h0
  cases h0
  obtain ⟨⟨zs, s1⟩, h1, h⟩ := inv2 (γ := Unit) h
  have m : Mk x.K (X.cad c) (X.fad C.init) := by rw [hx.K]; exact (mk.cls c C hC).mkr
  refine args_kw0 m.kp hks (hx.gl hgl) (by rw [hx.mg]; exact hn) hd I ?_
  refine ha x hx w l s zs s1 σ h1 sg sl _ fun vz w1 l1 r1 g1 ws s2 I2 rz => ?_
  have h' : newD M c (permD pm zs) s1 = some (d, s') := h
  have hi : ∃ q, M.init C.init (.loc 0 :: permD pm zs) [O.ins c [] []] = some q := by
    unfold newD at h'
    rw [hC] at h'
    have hN' : (if lfs (permD pm zs) = true then (M.init C.init (.loc 0 :: permD pm zs) [O.ins c [] []]).bind fun q => (match q.1 with | .non => frozenIns q.2 | _ => none).map fun d => (d, s1) else none) = some (d, s') := h'
    split at hN'
    · obtain ⟨q, e, _⟩ := inv2 (γ := Unit) hN'; exact ⟨q, e⟩
    · cases hN'
  obtain ⟨_, hi⟩ := hi
  obtain ⟨j, hj, F⟩ := low_fn mk hi
  have F' : FnQ x.prog x.w x.K x.mg x.base j (X.fad C.init) (spD X g M.init C.init) := by rw [hx.P, hx.w, hx.K, hx.mg, hx.base]; exact F
  obtain ⟨vz', r3, r4⟩ := Reps.pick r1 rz pm
  have l2 : ws.length = ks.length := by rw [← rz.length, r1.length, evEs_len h1, hl]
  refine run_makeQ (E := E0) (us := permD pm ws) (vs := vz') (fun u => ?_) m F' (hx.room.mono (by omega)) hx.gd I2 r4 fun i dd e1 e2 ne => made_sp mk hC h' g1 r3 (fun v w' le r g' => q v w' (l1.trans le) r g') e1 e2 ne
  rw [hx.K]
  exact hkw [u] ws rfl l2
end
end G

/-! Part R: list comprehensions. -/
namespace G
open PySem L2 PySem.SeqAt
section
variable {X : Pc} {g : Gi} {p : Pg} {M : Mch} {k : Nat} {N : List Str} {sc : Scope}
variable {x : Cx} {w : Wd} {l : Sl} {s s1 s2 s' : Sto} {σ : St} {d d1 d2 : D} {pins : List (Addr × Obj)} {sh : Shared}
/-! ### targets -/
def semG (x : Cx) (e : Expr) : TG := fun v σ H Q => ∀ (pins : List (Addr × Obj)) (s : Shared) (u : Value), Inv x pins σ H s → RelV v u → wpAny (model x.prog x.w) x.A (assign e x.env u) (fun _ s' => ∃ σ' H', Inv x pins σ' H' s' ∧ Q σ' H') x.xe s
def semGs (x : Cx) (es : List Expr) : TGs := fun vs σ H Q => ∀ (pins : List (Addr × Obj)) (s : Shared) (us : List Value), Inv x pins σ H s → Vals vs us → wpAny (model x.prog x.w) x.A (assignInOrder ((assignEach es x.env).map (·.2)) us) (fun _ s' => ∃ σ' H', Inv x pins σ' H' s' ∧ Q σ' H') x.xe s
theorem semG.of {e : Expr} {t : TG} {v : V} {H : Hp} {Q : St → Hp → Prop} (q : PG x e t) (h : t v σ H Q) : semG x e v σ H Q := fun pins s u I r => q.run pins s σ H v u Q I r h
mutual
def Tg.sl : Tg → List Nat
  | .nm i => [i]
  | .tup l => tgSl l
def tgSl : List Tg → List Nat
  | [] => []
  | t :: r => t.sl ++ tgSl r
end
theorem wipe_set {σ : St} {i : Nat} {o : Option V} : ∀ {vs : List Nat}, i ∈ vs → wipe (σ.set i o) vs = wipe σ vs
  | [], h => nomatch h
  | v :: vs, h => by
    unfold wipe
    by_cases q : i ∈ vs
    · rw [wipe_set q]
    · have e : i = v := (List.mem_cons.mp h).resolve_right q
      subst e
      have z : ∀ {τ : St} {us : List Nat}, i ∉ us → wipe (τ.set i o) us = (wipe τ us).set i o := by
        intro τ us
        induction us with
        | nil => exact fun _ => rfl
        | cons u us ih =>
          intro hn
          unfold wipe
          rw [ih fun h => hn (List.mem_cons_of_mem _ h)]
          exact List.set_comm _ _ fun e => hn (by rw [e]; exact List.mem_cons_self)
      rw [z q, List.set_set]
/-- a target of the inner language stores as the written one -/
def GOk (X : Pc) (g : Gi) (p : Pg) (k : Nat) (N : List Str) (sc : Scope) (t : Tg) (e : Expr) : Prop := ∀ (x : Cx), Con1 X p k N sc x → (∀ n, Loc sc n → x.fn n = true ∨ (∀ i ∈ t.sl, N[i]? = some n → sc.names.lookup n = some .local)) → ∀ (w : Wd) (l l1 : Sl) (d : D) (v : V) (σ : St), asg t d l = some l1 → Rep X w d v → SlV X w l σ →
  ∀ Q : St → Hp → Prop, (∀ σ', SlV X w l1 σ' → (∀ vs, (∀ i ∈ t.sl, i ∈ vs) → wipe σ' vs = wipe σ vs) → Q σ' w.H) → semG x e v σ w.H Q
def GsOk (X : Pc) (g : Gi) (p : Pg) (k : Nat) (N : List Str) (sc : Scope) (ts : List Tg) (es : List Expr) : Prop := ∀ (x : Cx), Con1 X p k N sc x → (∀ n, Loc sc n → x.fn n = true ∨ (∀ i ∈ tgSl ts, N[i]? = some n → sc.names.lookup n = some .local)) → ∀ (w : Wd) (l l1 : Sl) (ds : List D) (vs : List V) (σ : St), asgs ts ds l = some l1 → Reps X w ds vs → SlV X w l σ →
  ∀ Q : St → Hp → Prop, (∀ σ', SlV X w l1 σ' → (∀ vs, (∀ i ∈ tgSl ts, i ∈ vs) → wipe σ' vs = wipe σ vs) → Q σ' w.H) → semGs x es vs σ w.H Q
theorem g_name {i : Nat} {n : Str} {pos : Pos} (hN : N[i]? = some n) (hv : Loc sc n) : GOk X g p k N sc (.nm i) (.Name n pos) := by
  intro x hx hf w l l1 d v σ h r sl Q q
  cases h
  have hf' : x.fn n = true ∨ x.env.scope.names.lookup n = some .local := by
    rw [hx.sc]
    rcases hf n hv with h | h
    · exact .inl h
    · exact .inr (h i (by simp [Tg.sl]) hN)
  refine semG.of (pg_name (i := i) hx.nd (by rw [hx.N]; exact hN) (by rw [hx.sc]; exact hv) hf') ?_
  exact q _ (sl.set i r) fun vs hm => wipe_set (hm i (by simp [Tg.sl]))
theorem gs_nil : GsOk X g p k N sc [] [] := by
  intro x hx hf w l l1 ds vs σ h r sl Q q pins s us I rv
  cases ds with
  | nil =>
    cases h
    cases r
    cases rv
    exact PyProof.Rows.assignInOrder_nil ⟨σ, w.H, I, q σ sl fun _ _ => rfl⟩
  | cons _ _ => cases h
theorem gs_cons {t : Tg} {ts : List Tg} {e : Expr} {es : List Expr} (h1 : GOk X g p k N sc t e) (h2 : GsOk X g p k N sc ts es) (hs : ∀ env, (assignEach (e :: es) env).map (·.2) = assign e env :: (assignEach es env).map (·.2)) : GsOk X g p k N sc (t :: ts) (e :: es) := by
  intro x hx hf w l l1 ds vs σ h r sl Q q pins s us I rv
  cases ds with
  | nil => cases h
  | cons d ds =>
    obtain ⟨l2, e1, e2⟩ := Option.bind_eq_some_iff.mp (show (asg t d l).bind (fun l1 => asgs ts ds l1) = some l1 from h)
    obtain ⟨v, vr, rfl, r1, r2⟩ := r
    cases rv with
    | cons rv1 rv2 =>
      rw [hs]
      refine PyProof.Rows.assignInOrder_cons (thn (h1 x hx (fun n hn => (hf n hn).imp id fun z i hi => z i (List.mem_append_left _ hi)) w l l2 d v σ e1 r1 sl (fun σ1 H1 => H1 = w.H ∧ SlV X w l2 σ1 ∧ ∀ vs, (∀ i ∈ t.sl, i ∈ vs) → wipe σ1 vs = wipe σ vs) (fun σ' s1 s2 => ⟨rfl, s1, s2⟩) pins s _ I rv1) fun _ s1 hq => ?_)
      obtain ⟨σ1, H1, I1, rfl, sl1, wp⟩ := hq
      exact h2 x hx (fun n hn => (hf n hn).imp id fun z i hi => z i (List.mem_append_right _ hi)) w l2 l1 ds vr σ1 e2 r2 sl1 Q (fun σ' s1 s2 => q σ' s1 fun vs hm => (s2 vs fun i hi => hm i (List.mem_append_right _ hi)).trans (wp vs fun i hi => hm i (List.mem_append_left _ hi))) pins s1 _ I1 rv2
theorem g_tup {ts : List Tg} {es : List Expr} {j} {pos : Pos} (h : GsOk X g p k N sc ts es) (hl : ∀ env, (assignEach es env).length = ts.length) (hst : ∀ env, (assignEach es env).findIdx? (·.1) = none) : GOk X g p k N sc (.tup ts) (.Tuple es j pos) := by
  intro x hx hf w l l1 d v σ e r sl Q q
  cases d with
  | tup ds =>
    obtain ⟨a, xs, rfl, t, rs⟩ := r
    have e' : asgs ts ds l = some l1 := e
    have hlen : ∀ {ts : List Tg} {ds : List D} {l l1 : Sl}, asgs ts ds l = some l1 → ds.length = ts.length := by
      intro ts
      induction ts with
      | nil => intro ds l l1 h; cases ds with
        | nil => rfl
        | cons _ _ => cases h
      | cons t ts ih => intro ds l l1 h; cases ds with
        | nil => cases h
        | cons d ds =>
          obtain ⟨l2, _, e2⟩ := Option.bind_eq_some_iff.mp (show (asg t d l).bind (fun l1 => asgs ts ds l1) = some l1 from h)
          rw [List.length_cons, List.length_cons, ih e2]
    have pgs : PGs x es (semGs x es) := ⟨fun pins s σ H vs us Q I r h => h pins s us I r⟩
    refine semG.of (pg_tup (n := ts.length) hx.calm pgs (hl _) (hst _)) ⟨a, xs, rfl, by rw [hx.K]; exact t.sq, ?_, ?_⟩
    · rw [rs.length, hlen e']
    · exact h x hx hf w l l1 ds xs σ e' rs sl Q q
  | _ => cases e
/-! ### list comprehensions -/
theorem slv_wipe {w : Wd} {l : Sl} {σ : St} (h : SlV X w l σ) : ∀ vs : List Nat, SlV X w (wipeD l vs) (wipe σ vs)
  | [] => h
  | v :: vs => by
    have ih := slv_wipe h vs
    refine ⟨by unfold wipeD wipe; simp [ih.1], fun i d e => ?_⟩
    unfold wipeD at e
    unfold wipe
    by_cases q : v = i
    · subst q
      rw [List.getElem?_set] at e
      simp at e
    · rw [List.getElem?_set_ne q] at e ⊢
      exact ih.2 i d e
theorem SlV.monoW {w w' : Wd} (q : Lw w w') {l : Sl} {σ : St} (h : SlV X w l σ) : SlV X w' l σ :=
  ⟨h.1, fun i d e => let ⟨v, a, b⟩ := h.2 i d e; ⟨v, a, Rep.monoW q d b⟩⟩
/-- the new list at the i-th turn -/
def LcI (X : Pc) (g : Gi) (w : Wd) (L : Addr) (f : D → Sto → Option (Option D × Sto)) (s' : Sto) (outs ds : List D) (i : Nat) (H : Hp) : Prop :=
  ∃ (u : Wd) (acc : List V) (os rest : List D) (si : Sto), u.H = H ∧ u.H L = some (.lst acc) ∧ Reps X u os acc ∧ SG X g u si ∧ (u.V = fun a => a = L ∨ w.V a) ∧ ¬ u.C L ∧ Lw w u ∧ Le w (u.wV w.V) ∧ turns f (ds.drop i) si = some (rest, s') ∧ outs = os ++ rest
theorem lc_begin {w : Wd} {L : Addr} {f : D → Sto → Option (Option D × Sto)} {s s' : Sto} {outs ds : List D} (sg : SG X g w s) (hL : w.H L = none) (h : turns f ds s = some (outs, s')) : LcI X g w L f s' outs ds 0 (upd w.H L (.lst [])) :=
  ⟨w.beg L (.lst []), [], [], outs, s, rfl, upd_same, rfl, sg.beg hL Fine.lst, rfl, fun z => sg.cl L z hL, Lw.beg hL, Le.add (w := w) hL, by simpa using h, rfl⟩
theorem lc_end {w : Wd} {L : Addr} {f : D → Sto → Option (Option D × Sto)} {s' : Sto} {outs ds : List D} {H : Hp} (hL : w.H L = none) (sg0 : ∀ a, w.V a → w.H a ≠ none) (h : LcI X g w L f s' outs ds ds.length H) : ∃ u, u.H = H ∧ Le w u ∧ Rep X u (.lst outs) (.ref L) ∧ SG X g u s' := by
  obtain ⟨u, acc, os, rest, si, rfl, e1, r, sg, hv, hc, lw, le, ht, eo⟩ := h
  rw [List.drop_length] at ht
  cases ht
  rw [List.append_nil] at eo
  subst eo
  have nm : ∀ a, ¬ u.mut a → ¬ (u.wV w.V).mut a := fun a n z => by
    rcases z with z | z | z
    · exact n (.inl z)
    · exact n (.inr (.inl (by rw [hv]; exact .inr z)))
    · exact n (.inr (.inr z))
  have lw2 : Lw u (u.wV w.V) := ⟨⟨[], by simp⟩, fun a o h n => ⟨h, nm a n⟩⟩
  refine ⟨u.wV w.V, rfl, le, ⟨L, acc, rfl, ⟨e1, fun z => ?_⟩, Reps.monoW lw2 _ r⟩, ?_⟩
  · rcases z with z | z | z
    · exact sg.dv L z (by rw [hv]; exact .inl rfl)
    · exact sg0 L z hL
    · exact hc z
  · exact ⟨sg.len, sg.nd, sg.dis, sg.cl, fun a h => sg.vl a (by rw [hv]; exact .inr h), fun a h z => sg.dv a h (by rw [hv]; exact .inr z), fun n o e => let ⟨a, h1, h2⟩ := sg.obj n o e; ⟨a, h1, h2.monoW lw2 fun _ z => z⟩, sg.gi⟩
theorem turns_cons {f : D → Sto → Option (Option D × Sto)} {d : D} {ds : List D} {s s' : Sto} {rest : List D} (h : turns f (d :: ds) s = some (rest, s')) : ∃ o s1 r1, f d s = some (o, s1) ∧ turns f ds s1 = some (r1, s') ∧ rest = (match o with | some y => y :: r1 | none => r1) := by
  unfold turns at h
  obtain ⟨⟨o, s1⟩, h1, h2⟩ := inv2 (γ := Unit) h
  obtain ⟨⟨r1, s2⟩, h3, h4⟩ := invm h2
  cases h4
  exact ⟨o, s1, r1, h1, h3, rfl⟩
/-- one turn that lays down a value -/
theorem lc_next {w u u2 : Wd} {L : Addr} {f : D → Sto → Option (Option D × Sto)} {s2 s' : Sto} {outs ds os r1 : List D} {y : D} {v : V} {acc : List V} {i : Nat} (hL : w.H L = none) (sg2 : SG X g u2 s2) (hv : u.V = fun a => a = L ∨ w.V a) (hc : ¬ u.C L) (lw : Lw w u) (le : Le w (u.wV w.V)) (e1 : u.H L = some (.lst acc)) (r : Reps X u os acc) (hr : L ∉ u.rs)
    (l2 : Le u u2) (ry : Rep X u2 y v) (ht : turns f (ds.drop (i + 1)) s2 = some (r1, s')) (eo : outs = os ++ y :: r1) : u2.H L = some (.lst acc) ∧ LcI X g w L f s' outs ds (i + 1) (upd u2.H L (.lst (acc ++ [v]))) := by
  have e2 : u2.H L = some (.lst acc) := l2.kept L _ e1 hr hc
  have hc2 : ¬ u2.C L := fun z => by
    rcases l2.c L z with z | z
    · exact hc z
    · rw [e1] at z; cases z
  have v2 : u2.V = fun a => a = L ∨ w.V a := l2.v.trans hv
  have vL : u2.V L := by rw [v2]; exact .inl rfl
  have pl : Lw u2 (u2.add L (.lst (acc ++ [v]))) := Lw.putV vL
  refine ⟨e2, u2.add L (.lst (acc ++ [v])), acc ++ [v], os ++ [y], r1, s2, rfl, upd_same, Reps.monoW pl _ ((r.mono l2 _).append (.one ry)), sg2.putV vL hc2 e2 (fun _ _ _ z => nomatch z), v2, hc2, (lw.trans l2.lw).trans pl, ?_, ht, by rw [eo]; simp⟩
  have l3 : Le w (u2.wV w.V) := le.trans (l2.wV w.V)
  exact l3.late (p := L) hL hc2
/-- one turn that lays down nothing -/
theorem lc_skip {w u u2 : Wd} {L : Addr} {f : D → Sto → Option (Option D × Sto)} {s2 s' : Sto} {outs ds os r1 : List D} {acc : List V} {i : Nat} (sg2 : SG X g u2 s2) (hv : u.V = fun a => a = L ∨ w.V a) (hc : ¬ u.C L) (lw : Lw w u) (le : Le w (u.wV w.V)) (e1 : u.H L = some (.lst acc)) (r : Reps X u os acc) (hr : L ∉ u.rs)
    (l2 : Le u u2) (ht : turns f (ds.drop (i + 1)) s2 = some (r1, s')) (eo : outs = os ++ r1) : LcI X g w L f s' outs ds (i + 1) u2.H := by
  have e2 : u2.H L = some (.lst acc) := l2.kept L _ e1 hr hc
  have hc2 : ¬ u2.C L := fun z => by
    rcases l2.c L z with z | z
    · exact hc z
    · rw [e1] at z; cases z
  exact ⟨u2, acc, os, r1, s2, rfl, e2, r.mono l2 _, sg2, l2.v.trans hv, hc2, lw.trans l2.lw, le.trans (l2.wV w.V), ht, eo⟩
/-- the block's context -/
abbrev Blk (x : Cx) (scope : Scope) (y : Cx) : Prop := ∃ (s : Shared) (H : Hp) (C : Addr) (cl : List (Str × Addr)) (fp : List Addr), y = x.blk s H scope (compEnvC scope cl C x.env) fp
theorem blk_con {scope : Scope} {y : Cx} (hx : Con1 X p k N sc x) (h : Blk x scope y) : Con1 X p k N (relS scope sc) y ∧ y.fn = fun n => scope.names.lookup n == some .cell := by
  obtain ⟨s, H, C, cl, fp, e⟩ := h
  subst e
  refine ⟨{ P := hx.P, w := hx.w, K := hx.K, mg := hx.mg, base := hx.base, N := hx.N, sc := ?_, calm := hx.calm, room := hx.room, nd := hx.nd, gd := hx.gd }, rfl⟩
  show relS scope x.env.scope = _
  rw [hx.sc]
/-- what stands in a comprehension's block -/
structure LcOk (X : Pc) (g : Gi) (p : Pg) (M : Mch) (k : Nat) (N : List Str) (sc scope : Scope) (own : List (Str × Nat)) (t : Tg) (tg : Expr) (c : Option E) (ifs : List Expr) (e : E) (elt : Expr) : Prop where
  blk : BlkOk N sc scope own
  sl : ∀ i ∈ t.sl, i ∈ own.map (·.2)
  fn : ∀ i ∈ t.sl, ∀ n, N[i]? = some n → scope.names.lookup n = some .cell ∨ (relS scope sc).names.lookup n = some .local
  t : GOk X g p k N (relS scope sc) t tg
  c : match c with
    | none => ifs = []
    | some c => ∃ ec, ifs = [ec] ∧ TOk X g p M k N (relS scope sc) c ec
  e : EOk X g p M k N (relS scope sc) e elt
/-- what the evaluator does at a turn -/
def turnF (M : Mch) (l : Sl) (t : Tg) (c : Option E) (e : E) (w : List Nat) (d : D) (s : Sto) : Option (Option D × Sto) := (asg t d (wipeD l w)).bind fun l1 => match c with
  | none => (evE M e l1 s).map some1
  | some c => (evE M c l1 s).bind fun q => match q.1 with
    | .bl true => (evE M e l1 q.2).map some1
    | .bl false => some (none, q.2)
    | _ => none
def gB (x : Cx) (scope : Scope) (tg : Expr) : TG := fun v σ H Q => ∀ y, Blk x scope y → semG y tg v σ H Q
def tB' (x : Cx) (scope : Scope) (ifs : List Expr) : TT := match ifs with
  | [ec] => fun σ H Q => ∀ y, Blk x scope y → semT y ec σ H Q
  | _ => tYes
def eB (x : Cx) (scope : Scope) (elt : Expr) : TE := fun σ H Q => ∀ y, Blk x scope y → semE y elt σ H Q
theorem lc_step {scope : Scope} {own : List (Str × Nat)} {t : Tg} {tg elt : Expr} {c : Option E} {ifs : List Expr} {e : E} {w : Wd} {L : Addr} {ds outs : List D} {i : Nat} {d : D} {v : V} {H : Hp} (hx : Con1 X p k N sc x) (ok : LcOk X g p M k N sc scope own t tg c ifs e elt) (hlen : outs.length ≤ mostL)
    (hL : w.H L = none) (hv : ∀ a, w.V a → w.H a ≠ none) (hd : ds[i]? = some d) (rv : Rep X w d v) (sl : SlV X w l σ) (h : LcI X g w L (turnF M l t c e (own.map (·.2))) s' outs ds i H) :
    gB x scope tg v (wipe σ (own.map (·.2))) H fun σ2 H2 => wipe σ2 (own.map (·.2)) = wipe σ (own.map (·.2)) ∧ tB' x scope ifs σ2 H2 fun b H3 =>
      if b = true then eB x scope elt σ2 H3 fun y H4 => ∃ acc, H4 L = some (.lst acc) ∧ acc.length < sizeLine ∧ LcI X g w L (turnF M l t c e (own.map (·.2))) s' outs ds (i + 1) (upd H4 L (.lst (acc ++ [y])))
      else LcI X g w L (turnF M l t c e (own.map (·.2))) s' outs ds (i + 1) H3 := by
  obtain ⟨u, acc, os, rest, si, rfl, e1, r, sg, huv, hc, lw, le, ht, eo⟩ := h
  have hi : i < ds.length := (List.getElem?_eq_some_iff.mp hd).1
  have ed : ds.drop i = d :: ds.drop (i + 1) := by
    rw [List.drop_eq_getElem_cons hi]
    have := (List.getElem?_eq_some_iff.mp hd).2
    rw [this]
  rw [ed] at ht
  obtain ⟨o, s1, r1, h1, h2, er⟩ := turns_cons ht
  obtain ⟨l1, ha, hb⟩ := Option.bind_eq_some_iff.mp h1
  have hr : L ∉ u.rs := fun z => sg.dv L z (by rw [huv]; exact .inl rfl)
  have hacc : ∀ y' : D, outs = os ++ y' :: r1 → acc.length < sizeLine := fun y' e => by
    have := r.length
    have z : os.length < outs.length := by rw [e]; simp
    exact mostL_lt (by omega)
  intro y hy
  obtain ⟨cy, fy⟩ := blk_con hx hy
  have hfn : ∀ n, Loc (relS scope sc) n → y.fn n = true ∨ (∀ i ∈ t.sl, N[i]? = some n → (relS scope sc).names.lookup n = some .local) := fun n _ => by
    by_cases q : scope.names.lookup n = some .cell
    · left; rw [fy]; simp [q]
    · right
      intro i hi hn
      exact (ok.fn i hi n hn).resolve_left q
  refine ok.t y cy hfn u (wipeD l (own.map (·.2))) l1 d v _ ha (rv.monoW lw d) (slv_wipe (sl.monoW lw) _) _ ?_
  intro σ2 sl2 wp
  refine ⟨?_, ?_⟩
  · rw [wp _ ok.sl]
    have ww : ∀ (vs us : List Nat), (∀ i ∈ us, i ∈ vs) → wipe (wipe σ us) vs = wipe σ vs := by
      intro vs us
      induction us with
      | nil => exact fun _ => rfl
      | cons a us ih =>
        intro hm
        show wipe ((wipe σ us).set a none) vs = _
        rw [wipe_set (hm a List.mem_cons_self)]
        exact ih fun i hi => hm i (List.mem_cons_of_mem _ hi)
    exact ww _ _ fun _ z => z
  · have elt_ok : ∀ {u1 : Wd} {s1' s2 : Sto} {y1 : D}, Le u u1 → SG X g u1 s1' → evE M e l1 s1' = some (y1, s2) → turns (turnF M l t c e (own.map (·.2))) (ds.drop (i + 1)) s2 = some (r1, s') → outs = os ++ y1 :: r1 →
        eB x scope elt σ2 u1.H fun y H4 => ∃ acc, H4 L = some (.lst acc) ∧ acc.length < sizeLine ∧ LcI X g w L (turnF M l t c e (own.map (·.2))) s' outs ds (i + 1) (upd H4 L (.lst (acc ++ [y]))) := by
      intro u1 s1' s2 y1 l1' g1 he ht' eo' z hz
      obtain ⟨cz, fz⟩ := blk_con hx hz
      refine ok.e z cz u1 l1 s1' y1 s2 σ2 he g1 (sl2.mono l1') _ fun v2 u2 le2 r2 g2 => ?_
      obtain ⟨q1, q2⟩ := lc_next (y := y1) (v := v2) hL g2 huv hc lw le e1 r hr (l1'.trans le2) r2 ht' eo'
      exact ⟨acc, q1, hacc y1 eo', q2⟩
    have okc := ok.c
    cases c with
    | none =>
      have okc' : ifs = [] := okc
      subst okc'
      obtain ⟨⟨y1, s2⟩, q1, q2⟩ := invm (show (evE M e l1 si).map some1 = some (o, s1) from hb)
      cases q2
      simp only [tB', tYes, if_true]
      exact elt_ok (Le.refl u) sg q1 h2 (by rw [eo, er])
    | some c =>
      obtain ⟨ec, eq, tc⟩ := (show ∃ ec, ifs = [ec] ∧ TOk X g p M k N (relS scope sc) c ec from okc)
      subst eq
      obtain ⟨⟨dc, s2⟩, q1, q2⟩ := inv2 (γ := Unit) (show (evE M c l1 si).bind _ = some (o, s1) from hb)
      intro z hz
      obtain ⟨cz, fz⟩ := blk_con hx hz
      cases dc with
      | bl b =>
        refine tc z cz u l1 si b s2 σ2 q1 sg sl2 _ fun u1 l2 g2 => ?_
        cases b with
        | true =>
          rw [if_pos rfl]
          obtain ⟨⟨y1, s3⟩, q3, q4⟩ := invm (show (evE M e l1 s2).map some1 = some (o, s1) from q2)
          cases q4
          exact elt_ok l2 g2 q3 h2 (by rw [eo, er])
        | false =>
          have q3 : some ((none : Option D), s2) = some (o, s1) := q2
          cases q3
          rw [if_neg (by decide)]
          exact lc_skip g2 huv hc lw le e1 r hr l2 h2 (by rw [eo, er])
      | _ => cases q2
theorem Reps.got {w : Wd} : ∀ {ds : List D} {vs : List V} {i : Nat} {v : V}, Reps X w ds vs → vs[i]? = some v → ∃ d, ds[i]? = some d ∧ Rep X w d v
  | [], _, i, v, h, e => by rw [show _ = [] from h] at e; simp at e
  | d :: r, _, 0, v, ⟨u, us, e0, h, q⟩, e => by subst e0; simp at e; subst e; exact ⟨d, rfl, h⟩
  | d :: r, _, i + 1, v, ⟨u, us, e0, h, q⟩, e => by
    subst e0
    obtain ⟨d', h1, h2⟩ := Reps.got (i := i) q (by simpa using e)
    exact ⟨d', by simpa using h1, h2⟩
/-- the rules of a block's parts -/
theorem lc_parts {scope : Scope} {own : List (Str × Nat)} {t : Tg} {tg elt : Expr} {c : Option E} {ifs : List Expr} {e : E} (hx : Con1 X p k N sc x) (ok : LcOk X g p M k N sc scope own t tg c ifs e elt) :
    (∀ (s : Shared) (H : Hp) (C : Addr) (cl : List (Str × Addr)) (fp : List Addr), PG (x.blk s H scope (compEnvC scope cl C x.env) fp) tg (gB x scope tg)) ∧ (∀ (s : Shared) (H : Hp) (C : Addr) (cl : List (Str × Addr)) (fp : List Addr), PTs (x.blk s H scope (compEnvC scope cl C x.env) fp) ifs (tB' x scope ifs)) ∧
    (∀ (s : Shared) (H : Hp) (C : Addr) (cl : List (Str × Addr)) (fp : List Addr), PE (x.blk s H scope (compEnvC scope cl C x.env) fp) elt (eB x scope elt)) ∧ BlkOk x.N x.env.scope scope own := by
  refine ⟨fun s H C cl fp => ⟨fun pins s1 σ H' v u Q I r h => h _ ⟨s, H, C, cl, fp, rfl⟩ pins s1 u I r⟩, fun s H C cl fp => ?_, fun s H C cl fp => ⟨fun pins s1 σ H' Q I h => h _ ⟨s, H, C, cl, fp, rfl⟩ pins s1 I⟩, by rw [hx.N, hx.sc]; exact ok.blk⟩
  have okc := ok.c
  cases c with
  | none =>
    have okc' : ifs = [] := okc
    subst okc'
    exact pts_nil
  | some c =>
    obtain ⟨ec, eq, tc⟩ := (show ∃ ec, ifs = [ec] ∧ TOk X g p M k N (relS scope sc) c ec from okc)
    subst eq
    exact pts_one ⟨fun pins s1 σ H' Q I h => h _ ⟨s, H, C, cl, fp, rfl⟩ pins s1 I⟩
theorem lc_read {it : E} {iter tg elt : Expr} {t : Tg} {c : Option E} {ifs : List Expr} {e : E} {scope : Scope} {own : List (Str × Nat)} {w : Wd} {l : Sl} {s s' : Sto} {d : D} {σ : St} (hx : Con1 X p k N sc x) (hit : EOk X g p M k N sc it iter) (ok : LcOk X g p M k N sc scope own t tg c ifs e elt)
    (h : evE M (.lc it t c e (own.map (·.2))) l s = some (d, s')) (sg : SG X g w s) (sl : SlV X w l σ) :
    ∃ wi, PI x tg iter wi ∧ ∀ Q : VK, (∀ v w', Le w w' → Rep X w' d v → SG X g w' s' → Q v w'.H) → tLc wi (gB x scope tg) (tB' x scope ifs) (eB x scope elt) (own.map (·.2)) σ w.H Q := by
  unfold evE at h
  obtain ⟨⟨d0, s0⟩, h0, h⟩ := inv2 (γ := Unit) h
  obtain ⟨ds, h1, h⟩ := inv2 (γ := Unit) h
  obtain ⟨⟨outs, s1⟩, h2, h3⟩ := inv2 (γ := Unit) (show (turns (turnF M l t c e (own.map (·.2))) ds s0).bind _ = some (d, s') from h)
  have h3' : (if outs.length ≤ mostL then some (D.lst outs, s1) else none) = some (d, s') := h3
  split at h3'
  · rename_i hlen
    cases h3'
    cases d0 with
    | lst l0 =>
      cases h1
      refine ⟨_, pi_list pe_sem, fun Q q => hit x hx w l s _ s0 σ h0 sg sl _ fun v w1 l1 r1 g1 => ?_⟩
      obtain ⟨a, vs, rfl, rd, rs⟩ := r1
      refine ⟨a, rfl, ⟨vs, by rw [hx.K]; exact rd.sq⟩, fun L hL => ?_⟩
      refine lc_list (K := x.K) (xs := vs) (LcI X g w1 L (turnF M l t c e (own.map (·.2))) s' outs ds) (lc_begin g1 hL h2) (fun i H hi hq => ?_) (fun i v H hv hq => ?_) fun H hq => ?_
      · obtain ⟨u, acc, os, rest, si, rfl, e1, r, sg, huv, hc, lw, le, ht, eo⟩ := hq
        rw [hx.K]; exact (rd.monoW lw).sq
      · obtain ⟨d, hd, rd'⟩ : ∃ d, ds[i]? = some d ∧ Rep X w1 d v := rs.got hv
        exact lc_step hx ok hlen hL g1.vl hd rd' (sl.mono l1) hq
      · rw [rs.length] at hq
        obtain ⟨u, rfl, q1, q2, q3⟩ := lc_end hL g1.vl hq
        exact q _ u (l1.trans q1) q2 q3
    | tup l0 =>
      cases h1
      refine ⟨_, pi_tup pe_sem, fun Q q => hit x hx w l s _ s0 σ h0 sg sl _ fun v w1 l1 r1 g1 => ?_⟩
      obtain ⟨a, vs, rfl, rd, rs⟩ := r1
      refine ⟨a, rfl, ⟨vs, by rw [hx.K]; exact rd.sq⟩, fun L hL => ?_⟩
      refine lc_tup (K := x.K) (xs := vs) (LcI X g w1 L (turnF M l t c e (own.map (·.2))) s' outs ds) (lc_begin g1 hL h2) (fun i H hi hq => ?_) (fun i v H hv hq => ?_) fun H hq => ?_
      · obtain ⟨u, acc, os, rest, si, rfl, e1, r, sg, huv, hc, lw, le, ht, eo⟩ := hq
        rw [hx.K]; exact (rd.monoW lw).sq
      · obtain ⟨d, hd, rd'⟩ : ∃ d, ds[i]? = some d ∧ Rep X w1 d v := rs.got hv
        exact lc_step hx ok hlen hL g1.vl hd rd' (sl.mono l1) hq
      · rw [rs.length] at hq
        obtain ⟨u, rfl, q1, q2, q3⟩ := lc_end hL g1.vl hq
        exact q _ u (l1.trans q1) q2 q3
    | _ => cases h1
  · cases h3'
theorem ok_lc {it : E} {iter tg elt : Expr} {t : Tg} {c : Option E} {ifs : List Expr} {e : E} {scope : Scope} {own : List (Str × Nat)} {pos : Pos} (hit : EOk X g p M k N sc it iter) (ok : LcOk X g p M k N sc scope own t tg c ifs e elt) (hfs : ∀ env v, foldedSetIterable iter env v = pure v) :
    EOk X g p M k N sc (.lc it t c e (own.map (·.2))) (.ListComp elt [⟨tg, iter, ifs, 0⟩] scope pos) := by
  intro x hx w l s d s' σ h sg sl Q q
  obtain ⟨wi, pi, hr⟩ := lc_read hx hit ok h sg sl
  obtain ⟨pg, pt, pe, bk⟩ := lc_parts hx ok
  exact semE.of (pe_lc hx.calm hx.nd pi bk pg pt pe (hfs _)) (hr Q q)
theorem range_get {n : Int} {i : Nat} (h : i < n.toNat) : (rangeD n)[i]? = some (.int (i : Int)) := by
  unfold rangeD
  simp [h]
theorem range_len {n : Int} : (rangeD n).length = n.toNat := by
  unfold rangeD
  simp
theorem rng_ok {d : D} {ds : List D} (h : rngD d = some ds) : ∃ n : Int, d = .int n ∧ ds = rangeD n ∧ -(2 ^ 62) ≤ n ∧ n < 2 ^ 62 := by
  cases d with
  | int n =>
    have h' : (if -(2 ^ 62) ≤ n ∧ n ≤ mostL then some (rangeD n) else none) = some ds := h
    split at h'
    · rename_i hz
      cases h'
      have : (mostL : Int) = 100000 := rfl
      exact ⟨n, rfl, rfl, hz.1, by omega⟩
    · cases h'
  | _ => cases h
theorem lcr_read {n : E} {en tg elt : Expr} {t : Tg} {c : Option E} {ifs : List Expr} {e : E} {scope : Scope} {own : List (Str × Nat)} {p1 p2 : Pos} {w : Wd} {l : Sl} {s s' : Sto} {d : D} {σ : St} (mk : Mok X g p M k) (hgl : sc.names.lookup ("range" : Str) = some .globalImplicit) (hs : NoStar en) (hx : Con1 X p k N sc x) (hn : AOk X g p M k N sc [n] [en]) (ok : LcOk X g p M k N sc scope own t tg c ifs e elt)
    (h : evE M (.lcr n t c e (own.map (·.2))) l s = some (d, s')) (sg : SG X g w s) (sl : SlV X w l σ) :
    ∃ wi, PI x tg (.Call (.Name "range" p1) [en] [] p2) wi ∧ ∀ Q : VK, (∀ v w', Le w w' → Rep X w' d v → SG X g w' s' → Q v w'.H) → tLc wi (gB x scope tg) (tB' x scope ifs) (eB x scope elt) (own.map (·.2)) σ w.H Q := by
  unfold evE at h
  obtain ⟨⟨d0, s0⟩, h0, h⟩ := inv2 (γ := Unit) h
  obtain ⟨ds, h1, h⟩ := inv2 (γ := Unit) h
  obtain ⟨⟨outs, s1⟩, h2, h3⟩ := inv2 (γ := Unit) (show (turns (turnF M l t c e (own.map (·.2))) ds s0).bind _ = some (d, s') from h)
  have h3' : (if outs.length ≤ mostL then some (D.lst outs, s1) else none) = some (d, s') := h3
  split at h3'
  · rename_i hlen
    cases h3'
    obtain ⟨m, rfl, rfl, z1, z2⟩ := rng_ok h1
    refine ⟨_, pi_range1 (hx.gl hgl) (hx.bl mk "range" (by simp)) pa_sem (by rw [hs]; rfl), fun Q q => hn x hx w l s [.int m] s0 σ ?_ sg sl _ fun vs w1 l1 r1 g1 => ?_⟩
    · unfold evEs
      rw [h0]
      unfold evEs
      rfl
    obtain ⟨v, us, rfl, r2, r3⟩ := r1
    rw [show us = [] from r3]
    refine ⟨m, by rw [show v = _ from r2], z1, z2, fun L hL => ?_⟩
    refine lc_range (LcI X g w1 L (turnF M l t c e (own.map (·.2))) s' outs (rangeD m)) (lc_begin g1 hL h2) (fun i H hi hq => ?_) fun H hq => ?_
    · refine lc_step (v := .int (0 + (i : Int))) hx ok hlen hL g1.vl (range_get hi) ?_ (sl.mono l1) hq
      show _ = _
      rw [Int.zero_add]
    · rw [← range_len] at hq
      obtain ⟨u, rfl, q1, q2, q3⟩ := lc_end hL g1.vl hq
      exact q _ u (l1.trans q1) q2 q3
  · cases h3'
theorem ok_lcr {n : E} {en tg elt : Expr} {t : Tg} {c : Option E} {ifs : List Expr} {e : E} {scope : Scope} {own : List (Str × Nat)} {p1 p2 pos : Pos} (mk : Mok X g p M k) (hgl : sc.names.lookup ("range" : Str) = some .globalImplicit) (hs : NoStar en) (hn : AOk X g p M k N sc [n] [en]) (ok : LcOk X g p M k N sc scope own t tg c ifs e elt) :
    EOk X g p M k N sc (.lcr n t c e (own.map (·.2))) (.ListComp elt [⟨tg, .Call (.Name "range" p1) [en] [] p2, ifs, 0⟩] scope pos) := by
  intro x hx w l s d s' σ h sg sl Q q
  obtain ⟨wi, pi, hr⟩ := lcr_read (p1 := p1) (p2 := p2) mk hgl hs hx hn ok h sg sl
  obtain ⟨pg, pt, pe, bk⟩ := lc_parts hx ok
  exact semE.of (pe_lc hx.calm hx.nd pi bk pg pt pe (fun _ => rfl)) (hr Q q)
end
end G

/-! Part S: statements. -/
namespace G
open PySem L2 PySem.SeqAt
section
variable {X : Pc} {g : Gi} {p : Pg} {M : Mch} {k : Nat} {N : List Str} {sc : Scope}
variable {x : Cx} {w : Wd} {l l' : Sl} {s s1 s2 s' : Sto} {σ : St} {d d1 d2 : D} {pins : List (Addr × Obj)} {sh : Shared}
/-- a def's body -/
structure Con2 (X : Pc) (p : Pg) (k : Nat) (N : List Str) (sc : Scope) (x : Cx) : Prop where
  c : Con1 X p k N sc x
  fn : ∀ n, Loc sc n → x.fn n = true ∨ sc.names.lookup n = some .local
  own : PassesOwn (model x.prog x.w) x.A x.env x.xe
theorem Con2.fnG (hx : Con2 X p k N sc x) {sl : List Nat} (n : Str) (h : Loc sc n) : x.fn n = true ∨ (∀ i ∈ sl, N[i]? = some n → sc.names.lookup n = some .local) := (hx.fn n h).imp id fun z _ _ _ => z
def semS (x : Cx) (st : Stmt) : TS := fun D σ H => ∀ (pins : List (Addr × Obj)) (s : Shared), Inv x pins σ H s → wpAny (model x.prog x.w) x.A (exec st x.env) (SP x pins D) x.xe s
def semSs (x : Cx) (st : List Stmt) : TS := fun D σ H => ∀ (pins : List (Addr × Obj)) (s : Shared), Inv x pins σ H s → wpAny (model x.prog x.w) x.A (execs st x.env) (SP x pins D) x.xe s
theorem ps_sem {st : Stmt} : PS x st (semS x st) := ⟨fun pins s _ _ _ I h => h pins s I⟩
theorem pss_sem {st : List Stmt} : PSs x st (semSs x st) := ⟨fun pins s _ _ _ I h => h pins s I⟩
theorem semS.of {st : Stmt} {t : TS} {H : Hp} {D : Ends} (q : PS x st t) (h : t D σ H) : semS x st D σ H := fun pins s I => q.run pins s σ H D I h
theorem semSs.of {st : List Stmt} {t : TS} {H : Hp} {D : Ends} (q : PSs x st t) (h : t D σ H) : semSs x st D σ H := fun pins s I => q.run pins s σ H D I h
theorem pg_sem {e : Expr} : PG x e (semG x e) := ⟨fun pins s _ _ v u _ I r h => h pins s u I r⟩
theorem pgs_sem {es : List Expr} : PGs x es (semGs x es) := ⟨fun pins s _ _ vs us _ I r h => h pins s us I r⟩
/-- where a run ends -/
def OutK (X : Pc) (g : Gi) (w : Wd) (o : Out × Sl × Sto) (D : Ends) : Prop := match o.1 with
  | .nx => ∀ w' σ', Le w w' → SlV X w' o.2.1 σ' → SG X g w' o.2.2 → D.nx σ' w'.H
  | .ret d => ∀ v w', Le w w' → Rep X w' d v → SG X g w' o.2.2 → D.rt v w'.H
theorem OutK.mono {w w1 : Wd} {o : Out × Sl × Sto} {D : Ends} (le : Le w w1) (h : OutK X g w o D) : OutK X g w1 o D := by
  obtain ⟨o, r⟩ := o
  cases o with
  | nx => exact fun w' σ' l a b => h w' σ' (le.trans l) a b
  | ret d => exact fun v w' l a b => h v w' (le.trans l) a b
def SOk (X : Pc) (g : Gi) (p : Pg) (M : Mch) (k : Nat) (N : List Str) (sc : Scope) (a : S) (st : Stmt) : Prop := ∀ (x : Cx), Con2 X p k N sc x → ∀ (w : Wd) (l : Sl) (s : Sto) (o : Out × Sl × Sto) (σ : St), evS M a l s = some o → SG X g w s → SlV X w l σ → ∀ D : Ends, OutK X g w o D → semS x st D σ w.H
def SsOk (X : Pc) (g : Gi) (p : Pg) (M : Mch) (k : Nat) (N : List Str) (sc : Scope) (a : List S) (st : List Stmt) : Prop := ∀ (x : Cx), Con2 X p k N sc x → ∀ (w : Wd) (l : Sl) (s : Sto) (o : Out × Sl × Sto) (σ : St), evSs M a l s = some o → SG X g w s → SlV X w l σ → ∀ D : Ends, OutK X g w o D → semSs x st D σ w.H
def TSOk (X : Pc) (g : Gi) (p : Pg) (M : Mch) (k : Nat) (N : List Str) (sc : Scope) (t : TgS) (e : Expr) : Prop := ∀ (x : Cx), Con2 X p k N sc x → ∀ (w : Wd) (l l' : Sl) (s s' : Sto) (d : D) (v : V) (σ : St), asgS M t d l s = some (l', s') → SG X g w s → Rep X w d v → SlV X w l σ →
  ∀ Q : St → Hp → Prop, (∀ w' σ', Le w w' → SlV X w' l' σ' → SG X g w' s' → Q σ' w'.H) → semG x e v σ w.H Q
def TSsOk (X : Pc) (g : Gi) (p : Pg) (M : Mch) (k : Nat) (N : List Str) (sc : Scope) (ts : List TgS) (es : List Expr) : Prop := ∀ (x : Cx), Con2 X p k N sc x → ∀ (w : Wd) (l l' : Sl) (s s' : Sto) (ds : List D) (vs : List V) (σ : St), asgSs M ts ds l s = some (l', s') → SG X g w s → Reps X w ds vs → SlV X w l σ →
  ∀ Q : St → Hp → Prop, (∀ w' σ', Le w w' → SlV X w' l' σ' → SG X g w' s' → Q σ' w'.H) → semGs x es vs σ w.H Q

/-! ### stores -/
theorem ts_name {i : Nat} {n : Str} {pos : Pos} (hN : N[i]? = some n) (hv : Loc sc n) : TSOk X g p M k N sc (.nm i) (.Name n pos) := by
  intro x hx w l l' s s' d v σ h sg r sl Q q
  cases h
  exact semG.of (pg_name (i := i) hx.c.nd (by rw [hx.c.N]; exact hN) (by rw [hx.c.sc]; exact hv) (by rw [hx.c.sc]; exact hx.fn n hv)) (q w _ (Le.refl w) (sl.set i r) sg)
theorem putN_keys : ∀ {fs : List (Str × V)} {f : Str} {v : V}, (putF f v fs).map (·.1) = putN f (fs.map (·.1))
  | [], f, v => rfl
  | (n, u) :: r, f, v => by
    show (if n = f then (n, v) :: r else (n, u) :: putF f v r).map (·.1) = (if n = f then n :: r.map (·.1) else n :: putN f (r.map (·.1)))
    by_cases e : n = f
    · rw [if_pos e, if_pos e]; rfl
    · rw [if_neg e, if_neg e, List.map_cons, putN_keys]
theorem putV_reps {w : Wd} {f : Str} {d : D} {v : V} (r : Rep X w d v) : ∀ {fs : List (Str × V)} {us : List D}, Reps X w us (fs.map (·.2)) → Reps X w (putV f d (fs.map (·.1)) us) ((putF f v fs).map (·.2))
  | [], us, h => by
    cases us with
    | nil => exact ⟨v, [], rfl, r, rfl⟩
    | cons _ _ => obtain ⟨_, _, e, _⟩ := h; cases e
  | (n, u) :: fs, us, h => by
    cases us with
    | nil => cases h
    | cons d1 us =>
      obtain ⟨v1, vs, e, h1, h2⟩ := h
      simp only [List.map_cons, List.cons.injEq] at e
      obtain ⟨rfl, rfl⟩ := e
      show Reps X w (if n = f then d :: us else d1 :: putV f d (fs.map (·.1)) us) ((if n = f then (n, v) :: fs else (n, u) :: putF f v fs).map (·.2))
      by_cases e : n = f
      · rw [if_pos e, if_pos e]
        exact ⟨v, _, rfl, r, h2⟩
      · rw [if_neg e, if_neg e]
        exact ⟨u, _, rfl, h1, putV_reps r h2⟩
theorem putN_mem {f n : Str} : ∀ {ns : List Str}, n ∈ putN f ns → n = f ∨ n ∈ ns
  | [], h => .inl (List.mem_singleton.mp h)
  | m :: ns, h => by
    have h' : n ∈ (if m = f then m :: ns else m :: putN f ns) := h
    split at h'
    · exact .inr h'
    · rcases List.mem_cons.mp h' with e | e
      · exact .inr (by rw [e]; exact List.mem_cons_self)
      · exact (putN_mem e).imp id fun z => List.mem_cons_of_mem _ z
/-- o.f = v -/
theorem ts_fld {o : E} {f : Str} {eo : Expr} {pos : Pos} (mk : Mok X g p M k) (ho : EOk X g p M k N sc o eo) : TSOk X g p M k N sc (.fld o f) (.Attribute eo f pos) := by
  intro x hx w l l' s s' d v σ h sg r sl Q q pins sh u I rv
  obtain ⟨⟨d0, s0⟩, h0, h1⟩ := inv2 (γ := Unit) (show (evE M o l s).bind _ = some (l', s') from h)
  obtain ⟨s3, h2, h3⟩ := invm h1
  cases h3
  have one := ho x hx.c w l s d0 s0 σ h0 sg sl (fun ov H => ∃ w1, w1.H = H ∧ Le w w1 ∧ Rep X w1 d0 ov ∧ SG X g w1 s0) (fun ov w1 l1 r1 g1 => ⟨w1, rfl, l1, r1, g1⟩)
  show wpAny _ _ (assign (.Attribute eo f pos) x.env u) _ _ sh
  refine wpAny_bind (wpAny_holding (thn (one pins sh I) fun ov sh1 hq => wpAny_bind (wpAny_standAt ?_)))
  obtain ⟨v0, H1, I1, rv0, w1, rfl, l1, r1, g1⟩ := hq
  cases d0 with
  | loc n =>
    have h2' : (match s0[n]? with
      | some (O.ins c ns vs) => (M.tb.cl c).bind fun C => if C.attrs.contains f && decide (ns.length < 100) && decide (f ≠ "known") then some (s0.set n (O.ins c (putN f ns) (putV f d ns vs))) else none
      | _ => none) = some s' := h2
    split at h2'
    · rename_i c ns vs hs
      obtain ⟨C, hC, h4⟩ := inv2 (γ := Unit) h2'
      split at h4
      · rename_i hc
        cases h4
        simp only [Bool.and_eq_true, decide_eq_true_eq, List.contains_iff_mem] at hc
        obtain ⟨⟨c1, c2⟩, c3⟩ := hc
        obtain ⟨a, hn, rfl⟩ := r1
        cases rv0
        obtain ⟨b, hb, dx, fs, e1, e2, e3, e4⟩ := g1.obj n _ hs
        rw [hn] at hb; cases hb
        have cl := mk.cls c C hC
        have na : NoAttr x.K (X.cad c) f := by rw [hx.c.K]; exact cl.na f c1
        have cc : Cls x.K (X.cad c) := by rw [hx.c.K]; exact e3.1
        have hz : fs.length < 1000 := by
          have : (fs.map (·.1)).length = ns.length := by rw [e2]
          rw [List.length_map] at this
          omega
        refine wpAny_bind (wpAny_holding (setattr_ok I1 e1 cc na hz rv fun sh2 I2 => wpAny_release ⟨σ, _, I2, ?_⟩))
        have le2 : Le w1 (w1.add a (.ins (X.cad c) dx (putF f v fs))) := Le.put (List.mem_of_getElem? hn) e1
        have rr : Rep X (w1.add a (.ins (X.cad c) dx (putF f v fs))) d v := (r.mono l1 d).mono le2 d
        refine q (w1.add a (.ins (X.cad c) dx (putF f v fs))) σ (l1.trans le2) ((sl.mono l1).mono le2) ?_
        refine g1.put hn e1 (fun c' dx' fs' e => ?_) ⟨dx, putF f v fs, upd_same, ?_, ⟨e3.1, fun n' hn' => ?_⟩, ?_⟩
        · cases e
          exact ⟨fs, rfl, f, v, rfl, c3⟩
        · rw [putN_keys, e2]
        · rcases putN_mem hn' with z | z
          · rw [z]; exact cl.na f c1
          · exact e3.2 n' z
        · rw [← e2]
          exact putV_reps rr (Reps.mono le2 _ e4)
      · cases h4
    · cases h2'
  | _ => cases h2
/-- o[i] = v, o a list of the store -/
theorem ts_sub {o i : E} {eo ei : Expr} {pos : Pos} (hnl : ∀ (x : Cx) v, assign (.Subscript eo ei pos) x.env v = (do
      let ov ← holding [v] (eval eo x.env)
      let iv ← holding [v, ov] (eval ei x.env)
      standAt pos
      holding [v, ov, iv] (setItem ov iv v)
      release [v, ov, iv] [])) (ho : EOk X g p M k N sc o eo) (hi : EOk X g p M k N sc i ei) : TSOk X g p M k N sc (.sub o i) (.Subscript eo ei pos) := by
  intro x hx w l l' s s' d v σ h sg r sl Q q
  obtain ⟨⟨d0, s0⟩, h0, h1⟩ := inv2 (γ := Unit) (show (evE M o l s).bind _ = some (l', s') from h)
  obtain ⟨⟨d1, s1⟩, h2, h3⟩ := inv2 (γ := Unit) h1
  obtain ⟨s3, h4, h5⟩ := invm h3
  cases h5
  refine semG.of (pg_sub pe_sem pe_sem set_list (hnl x)) (ho x hx.c w l s d0 s0 σ h0 sg sl _ fun ov w1 l1 r1 g1 => hi x hx.c w1 l s0 d1 s1 σ h2 g1 (sl.mono l1) _ fun iv w2 l2 r2 g2 => ?_)
  cases d0 with
  | loc n =>
    cases d1 with
    | int j =>
      have h4' : (match s1[n]? with | some (.lst l) => if 0 ≤ j ∧ j < l.length then some (s1.set n (.lst (l.set j.toNat d))) else none | _ => none) = some s' := by
        have z : (match s1[n]?, (D.int j) with | some (.lst l), .int i => if 0 ≤ i ∧ i < l.length then some (s1.set n (.lst (l.set i.toNat d))) else none | _, _ => none) = some s' := h4
        cases hs : s1[n]? with
        | none => rw [hs] at z; cases z
        | some o =>
          rw [hs] at z
          cases o with
          | lst l0 => exact z
          | dic _ _ => cases z
          | ins _ _ _ => cases z
      split at h4'
      · rename_i l0 hs
        split at h4'
        · rename_i hz
          cases h4'
          obtain ⟨a, hn, rfl⟩ := r1.mono l2 (.loc n)
          obtain ⟨b, hb, vs, e1, e2⟩ := g2.obj n _ hs
          rw [hn] at hb; cases hb
          have ix : ixN vs.length j = some j.toNat := by
            have := e2.length
            unfold ixN
            rw [if_pos hz.1, if_pos (by omega)]
          refine ⟨a, vs, j, j.toNat, rfl, r2, e1, ix, ?_⟩
          have le2 : Le w2 (w2.add a (.lst (vs.set j.toNat v))) := Le.put (List.mem_of_getElem? hn) e1
          have rr : Rep X (w2.add a (.lst (vs.set j.toNat v))) d v := (r.mono (l1.trans l2) d).mono le2 d
          refine q (w2.add a (.lst (vs.set j.toNat v))) σ ((l1.trans l2).trans le2) ((sl.mono (l1.trans l2)).mono le2) ?_
          exact g2.put hn e1 (fun _ _ _ e => nomatch e) ⟨_, upd_same, Reps.set rr _ (Reps.mono le2 _ e2)⟩
        · cases h4'
      · cases h4'
    | _ => (have z : (match s1[n]?, _ with | some (O.lst l), D.int i => if 0 ≤ i ∧ i < l.length then some (s1.set n (.lst (l.set i.toNat d))) else none | _, _ => none) = some s' := h4; split at z <;> first | cases z | contradiction)
  | _ => cases h4
theorem tss_nil : TSsOk X g p M k N sc [] [] := by
  intro x hx w l l' s s' ds vs σ h sg r sl Q q pins sh us I rv
  cases ds with
  | nil =>
    cases h
    cases r
    cases rv
    exact PyProof.Rows.assignInOrder_nil ⟨σ, w.H, I, q w σ (Le.refl w) sl sg⟩
  | cons _ _ => cases h
theorem tss_cons {t : TgS} {ts : List TgS} {e : Expr} {es : List Expr} (h1 : TSOk X g p M k N sc t e) (h2 : TSsOk X g p M k N sc ts es) (hs : ∀ env, (assignEach (e :: es) env).map (·.2) = assign e env :: (assignEach es env).map (·.2)) : TSsOk X g p M k N sc (t :: ts) (e :: es) := by
  intro x hx w l l' s s' ds vs σ h sg r sl Q q pins sh us I rv
  cases ds with
  | nil => cases h
  | cons d ds =>
    obtain ⟨⟨l2, s2⟩, e1, e2⟩ := Option.bind_eq_some_iff.mp (show (asgS M t d l s).bind (fun q => asgSs M ts ds q.1 q.2) = some (l', s') from h)
    obtain ⟨v, vr, rfl, r1, r2⟩ := r
    cases rv with
    | cons rv1 rv2 =>
      rw [hs]
      refine PyProof.Rows.assignInOrder_cons (thn (h1 x hx w l l2 s s2 d v σ e1 sg r1 sl (fun σ1 H1 => ∃ w1, w1.H = H1 ∧ Le w w1 ∧ SlV X w1 l2 σ1 ∧ SG X g w1 s2) (fun w1 σ1 a b c => ⟨w1, rfl, a, b, c⟩) pins sh _ I rv1) fun _ s1 hq => ?_)
      obtain ⟨σ1, H1, I1, w1, rfl, le1, sl1, g1⟩ := hq
      exact h2 x hx w1 l2 l' s2 s' ds vr σ1 e2 g1 (Reps.mono le1 _ r2) sl1 Q (fun w' σ' a b c => q w' σ' (le1.trans a) b c) pins s1 _ I1 rv2
theorem ts_tup {ts : List TgS} {es : List Expr} {j} {pos : Pos} (h : TSsOk X g p M k N sc ts es) (hl : ∀ env, (assignEach es env).length = ts.length) (hst : ∀ env, (assignEach es env).findIdx? (·.1) = none) : TSOk X g p M k N sc (.tup ts) (.Tuple es j pos) := by
  intro x hx w l l' s s' d v σ e sg r sl Q q
  cases d with
  | tup ds =>
    obtain ⟨a, xs, rfl, t, rs⟩ := r
    have e' : asgSs M ts ds l s = some (l', s') := e
    have hlen : ∀ {ts : List TgS} {ds : List D} {l l1 : Sl} {s s1 : Sto}, asgSs M ts ds l s = some (l1, s1) → ds.length = ts.length := by
      intro ts
      induction ts with
      | nil => intro ds l l1 s s1 h; cases ds with
        | nil => rfl
        | cons _ _ => cases h
      | cons t ts ih => intro ds l l1 s s1 h; cases ds with
        | nil => cases h
        | cons d ds =>
          obtain ⟨⟨l2, s2⟩, _, e2⟩ := Option.bind_eq_some_iff.mp (show (asgS M t d l s).bind (fun q => asgSs M ts ds q.1 q.2) = some (l1, s1) from h)
          rw [List.length_cons, List.length_cons, ih e2]
    refine semG.of (pg_tup (n := ts.length) hx.c.calm pgs_sem (hl _) (hst _)) ⟨a, xs, rfl, by rw [hx.c.K]; exact t.sq, ?_, ?_⟩
    · rw [rs.length, hlen e']
    · exact h x hx w l l' s s' ds xs σ e' sg rs sl Q q
  | _ => cases e

/-! ### statements -/
theorem s_set {t : TgS} {e : E} {tg ee : Expr} {pos : Pos} (ht : TSOk X g p M k N sc t tg) (he : EOk X g p M k N sc e ee) (h1 : ∀ env : Env, env.scope = sc → swapsWithSole [tg] ee pos.line env = pure false) (h2 : ∀ env : Env, env.scope = sc → swappedStores [tg] ee env = pure none)
    (h3 : ∀ env, (assignEach [tg] env).map (·.2) = [assign tg env]) : SOk X g p M k N sc (.set t e) (.Assign [tg] ee pos) := by
  intro x hx w l s o σ h sg sl D q
  unfold evS at h
  obtain ⟨⟨d, s1⟩, e1, h⟩ := inv2 (γ := Unit) h
  obtain ⟨⟨l2, s2⟩, e2, h⟩ := invm h
  cases h
  refine semS.of (ps_asg pe_sem pg_sem (h1 _ hx.c.sc) (h2 _ hx.c.sc) (h3 _)) (he x hx.c w l s d s1 σ e1 sg sl _ fun v w1 le1 r1 g1 => ?_)
  exact ht x hx w1 l l2 s1 s2 d v σ e2 g1 r1 (sl.mono le1) _ fun w' σ' a b c => q w' σ' (le1.trans a) b c
/-- name = e, as the model swaps it in -/
theorem s_setn {i : Nat} {n : Str} {e : E} {ee : Expr} {p1 pos : Pos} (hN : N[i]? = some n) (hv : Loc sc n) (he : EOk X g p M k N sc e ee) (h1 : ∀ env : Env, env.scope = sc → swapsWith ee (some (.Name n p1)) pos.line env = pure false) : SOk X g p M k N sc (.set (.nm i) e) (.Assign [.Name n p1] ee pos) := by
  intro x hx w l s o σ h sg sl D q
  unfold evS at h
  obtain ⟨⟨d, s1⟩, e1, h⟩ := inv2 (γ := Unit) h
  obtain ⟨⟨l2, s2⟩, e2, h⟩ := invm h
  cases h
  cases e2
  refine semS.of (ps_set hx.c.nd (by rw [hx.c.N]; exact hN) (by rw [hx.c.sc]; exact hv) pe_sem (h1 _ hx.c.sc) (by rw [hx.c.sc]; exact hx.fn n hv)) (he x hx.c w l s d s1 σ e1 sg sl _ fun v w1 le1 r1 g1 => ?_)
  exact q w1 _ le1 ((sl.mono le1).set i r1) g1
/-- o.f = e -/
theorem s_fld {a e : E} {f : Str} {ea ee : Expr} {p1 pos : Pos} (mk : Mok X g p M k) (ht : TSOk X g p M k N sc (.fld a f) (.Attribute ea f p1)) (he : EOk X g p M k N sc e ee) (h1 : ∀ env : Env, env.scope = sc → swapsWithSole [.Attribute ea f p1] ee pos.line env = pure false) (h2 : ∀ env : Env, env.scope = sc → swappedStores [.Attribute ea f p1] ee env = pure none) :
    SOk X g p M k N sc (.set (.fld a f) e) (.Assign [.Attribute ea f p1] ee pos) := s_set ht he h1 h2 fun _ => rfl
/-- a, b = x, y: plain local names -/
theorem s_par {i j : Nat} {n m : Str} {a b : E} {ea eb : Expr} {p1 p2 p3 p4 pos : Pos} {kt k2} (hi : N[i]? = some n) (hj : N[j]? = some m) (hij : i ≠ j) (hn : sc.names.lookup n = some .local) (hm : sc.names.lookup m = some .local) (ha : AOk X g p M k N sc [a, b] [ea, eb])
    (h1 : ∀ env : Env, env.scope = sc → swappedStores [.Tuple [.Name n p1, .Name m p2] kt p3] (.Tuple [ea, eb] k2 p4) env = pure (some [n, m])) (h2 : ∀ env : Env, env.scope = sc → swapsWithSole [.Tuple [.Name n p1, .Name m p2] kt p3] (.Tuple [ea, eb] k2 p4) pos.line env = pure false) :
    SOk X g p M k N sc (.par i j a b) (.Assign [.Tuple [.Name n p1, .Name m p2] kt p3] (.Tuple [ea, eb] k2 p4) pos) := by
  intro x hx w l s o σ h sg sl D q
  unfold evS at h
  obtain ⟨⟨d1, s1⟩, e1, h⟩ := inv2 (γ := Unit) h
  obtain ⟨⟨d2, s2⟩, e2, h⟩ := invm h
  cases h
  refine semS.of (ps_par hx.c.calm hx.c.nd (by rw [hx.c.N]; exact hi) (by rw [hx.c.N]; exact hj) hij (by rw [hx.c.sc]; exact hn) (by rw [hx.c.sc]; exact hm) pa_sem (h1 _ hx.c.sc) (h2 _ hx.c.sc)) (ha x hx.c w l s [d1, d2] s2 σ ?_ sg sl _ fun vs w1 le1 r1 g1 => ?_)
  · unfold evEs
    rw [e1]
    unfold evEs
    show ((evE M b l s1).bind _).map _ = _
    rw [e2]
    unfold evEs
    rfl
  · obtain ⟨v1, us, rfl, r2, v2, us2, rfl, r3, r4⟩ := r1
    rw [show us2 = [] from r4]
    exact ⟨v1, v2, rfl, q w1 _ le1 (((sl.mono le1).set i r2).set j r3) g1⟩
theorem s_expr {e : E} {ee : Expr} {pos : Pos} (he : EOk X g p M k N sc e ee) (h1 : ∀ env : Env, env.scope = sc → swapsWith ee none pos.line env = pure false) : SOk X g p M k N sc (.expr e) (.Expr ee pos) := by
  intro x hx w l s o σ h sg sl D q
  unfold evS at h
  obtain ⟨⟨d, s1⟩, e1, h⟩ := invm h
  cases h
  exact semS.of (ps_expr pe_sem (h1 _ hx.c.sc)) (he x hx.c w l s d s1 σ e1 sg sl _ fun v w1 le1 r1 g1 => q w1 σ le1 (sl.mono le1) g1)
theorem s_ret {e : E} {ee : Expr} {pos : Pos} (he : EOk X g p M k N sc e ee) : SOk X g p M k N sc (.ret e) (.Return (some ee) pos) := by
  intro x hx w l s o σ h sg sl D q
  unfold evS at h
  obtain ⟨⟨d, s1⟩, e1, h⟩ := invm h
  cases h
  exact semS.of (ps_ret pe_sem) (he x hx.c w l s d s1 σ e1 sg sl _ fun v w1 le1 r1 g1 => q v w1 le1 r1 g1)
theorem s_retN {pos : Pos} : SOk X g p M k N sc .retN (.Return none pos) := by
  intro x hx w l s o σ h sg sl D q
  unfold evS at h
  cases h
  exact semS.of ps_retN (q .non w (Le.refl w) rfl sg)
theorem s_pass {pos : Pos} : SOk X g p M k N sc .pass (.Pass pos) := by
  intro x hx w l s o σ h sg sl D q
  unfold evS at h
  cases h
  exact semS.of ps_pass (q w σ (Le.refl w) sl sg)
theorem s_raise {st : Stmt} : SOk X g p M k N sc .raise st := by
  intro x hx w l s o σ h sg sl D q
  unfold evS at h
  cases h
theorem ss_nil : SsOk X g p M k N sc [] [] := by
  intro x hx w l s o σ h sg sl D q
  unfold evSs at h
  cases h
  exact semSs.of pss_nil (q w σ (Le.refl w) sl sg)
theorem ss_cons {a : S} {as : List S} {st : Stmt} {sts : List Stmt} (h1 : SOk X g p M k N sc a st) (h2 : SsOk X g p M k N sc as sts) : SsOk X g p M k N sc (a :: as) (st :: sts) := by
  intro x hx w l s o σ h sg sl D q
  unfold evSs at h
  obtain ⟨⟨o1, l1, s1⟩, e1, h⟩ := inv2 (γ := Unit) h
  refine semSs.of (pss_cons ps_sem pss_sem) (h1 x hx w l s _ σ e1 sg sl _ ?_)
  cases o1 with
  | nx => exact fun w' σ' le a b => h2 x hx w' l1 s1 o σ' h b a D (q.mono le)
  | ret d =>
    cases h
    exact q
theorem s_if {c : E} {a b : List S} {ec : Expr} {sa sb : List Stmt} {pos : Pos} (hc : TOk X g p M k N sc c ec) (ha : SsOk X g p M k N sc a sa) (hb : SsOk X g p M k N sc b sb) : SOk X g p M k N sc (.ite c a b) (.If ec sa sb pos) := by
  intro x hx w l s o σ h sg sl D q
  unfold evS at h
  obtain ⟨⟨d, s1⟩, e1, h⟩ := inv2 (γ := Unit) h
  have pt : PT x ec (semT x ec) := pt_sem
  cases d with
  | bl t =>
    refine semS.of (ps_if pt pss_sem pss_sem) (hc x hx.c w l s t s1 σ e1 sg sl _ fun w1 le1 g1 => ?_)
    cases t with
    | true => rw [if_pos rfl]; exact ha x hx w1 l s1 o σ h g1 (sl.mono le1) D (q.mono le1)
    | false => rw [if_neg (by decide)]; exact hb x hx w1 l s1 o σ h g1 (sl.mono le1) D (q.mono le1)
  | _ => cases h
/-! ### for -/
/-- the loop ahead of its i-th turn -/
def ForI (X : Pc) (g : Gi) (w : Wd) (f : D → Sl → Sto → Option (Out × Sl × Sto)) (o : Out × Sl × Sto) (ds : List D) (i : Nat) (σ : St) (H : Hp) : Prop :=
  ∃ (u : Wd) (l : Sl) (s : Sto), u.H = H ∧ Le w u ∧ SlV X u l σ ∧ SG X g u s ∧ fors f (ds.drop i) l s = some o
def forF (M : Mch) (t : Tg) (b : List S) (d : D) (l : Sl) (s : Sto) : Option (Out × Sl × Sto) := (asg t d l).bind fun l1 => evSs M b l1 s
theorem for_step {t : Tg} {b : List S} {tg : Expr} {sb : List Stmt} {w : Wd} {o : Out × Sl × Sto} {ds : List D} {i : Nat} {d : D} {v : V} {H : Hp} {Dn : Ends} (hx : Con2 X p k N sc x) (ht : GOk X g p k N sc t tg) (hb : SsOk X g p M k N sc b sb) (hd : ds[i]? = some d) (rv : Rep X w d v) (q : OutK X g w o Dn)
    (h : ForI X g w (forF M t b) o ds i σ H) : semG x tg v σ H fun σ2 H2 => semSs x sb { Dn with nx := ForI X g w (forF M t b) o ds (i + 1), ct := ForI X g w (forF M t b) o ds (i + 1), bk := Dn.nx } σ2 H2 := by
  obtain ⟨u, l, s, rfl, le, sl, sg, hf⟩ := h
  have hi : i < ds.length := (List.getElem?_eq_some_iff.mp hd).1
  have ed : ds.drop i = d :: ds.drop (i + 1) := by
    rw [List.drop_eq_getElem_cons hi]
    have := (List.getElem?_eq_some_iff.mp hd).2
    rw [this]
  rw [ed] at hf
  unfold fors at hf
  obtain ⟨⟨o1, l1, s1⟩, h1, h2⟩ := inv2 (γ := Unit) hf
  obtain ⟨l2, h3, h4⟩ := Option.bind_eq_some_iff.mp (show (asg t d l).bind (fun l1 => evSs M b l1 s) = some (o1, l1, s1) from h1)
  refine ht x hx.c hx.fnG u l l2 d v σ h3 (rv.mono le d) sl _ ?_
  intro σ2 sl2 _
  refine hb x hx u l2 s (o1, l1, s1) σ2 h4 sg sl2 _ ?_
  cases o1 with
  | nx => exact fun w' σ' le' a c => ⟨w', l1, s1, rfl, le.trans le', a, c, h2⟩
  | ret d1 =>
    cases h2
    exact fun v' w' le' r' c => q v' w' (le.trans le') r' c
theorem for_end {w : Wd} {f : D → Sl → Sto → Option (Out × Sl × Sto)} {o : Out × Sl × Sto} {ds : List D} {H : Hp} {Dn : Ends} (q : OutK X g w o Dn) (h : ForI X g w f o ds ds.length σ H) : Dn.nx σ H := by
  obtain ⟨u, l, s, rfl, le, sl, sg, hf⟩ := h
  rw [List.drop_length] at hf
  cases hf
  exact q u σ le sl sg
theorem s_for {it : E} {t : Tg} {b : List S} {ei tg : Expr} {sb : List Stmt} {pos : Pos} (hi : EOk X g p M k N sc it ei) (ht : GOk X g p k N sc t tg) (hb : SsOk X g p M k N sc b sb) (hfs : ∀ env v, foldedSetIterable ei env v = pure v) : SOk X g p M k N sc (.for it t b) (.For tg ei sb [] pos) := by
  intro x hx w l s o σ h sg sl Dn q
  unfold evS at h
  obtain ⟨⟨d0, s0⟩, h0, h⟩ := inv2 (γ := Unit) h
  obtain ⟨ds, h1, h2⟩ := inv2 (γ := Unit) h
  cases d0 with
  | lst l0 =>
    cases h1
    refine semS.of (ps_for (g := semG x tg) hx.own hx.c.calm (pi_list pe_sem) pg_sem pss_sem (hfs _)) (hi x hx.c w l s _ s0 σ h0 sg sl _ fun v w1 l1 r1 g1 => ?_)
    obtain ⟨a, vs, rfl, rd, rs⟩ := r1
    refine ⟨a, rfl, ⟨vs, by rw [hx.c.K]; exact rd.sq⟩, ?_⟩
    refine for_list (K := x.K) (xs := vs) (ForI X g w1 (forF M t b) o ds) ⟨w1, l, s0, rfl, Le.refl w1, sl.mono l1, g1, by rw [List.drop_zero]; exact h2⟩ (fun i σ H hi hq => ?_) (fun i v σ H hv hq => ?_) fun σ H hq => ?_
    · obtain ⟨u, l, s, rfl, le, sl, sg, hf⟩ := hq
      rw [hx.c.K]; exact (rd.mono le).sq
    · obtain ⟨d, hd, rd'⟩ := rs.got hv
      exact for_step hx ht hb hd rd' (q.mono l1) hq
    · rw [rs.length] at hq
      exact for_end (q.mono l1) hq
  | tup l0 =>
    cases h1
    refine semS.of (ps_for (g := semG x tg) hx.own hx.c.calm (pi_tup pe_sem) pg_sem pss_sem (hfs _)) (hi x hx.c w l s _ s0 σ h0 sg sl _ fun v w1 l1 r1 g1 => ?_)
    obtain ⟨a, vs, rfl, rd, rs⟩ := r1
    refine ⟨a, rfl, ⟨vs, by rw [hx.c.K]; exact rd.sq⟩, ?_⟩
    refine for_tup (K := x.K) (xs := vs) (ForI X g w1 (forF M t b) o ds) ⟨w1, l, s0, rfl, Le.refl w1, sl.mono l1, g1, by rw [List.drop_zero]; exact h2⟩ (fun i σ H hi hq => ?_) (fun i v σ H hv hq => ?_) fun σ H hq => ?_
    · obtain ⟨u, l, s, rfl, le, sl, sg, hf⟩ := hq
      rw [hx.c.K]; exact (rd.mono le).sq
    · obtain ⟨d, hd, rd'⟩ := rs.got hv
      exact for_step hx ht hb hd rd' (q.mono l1) hq
    · rw [rs.length] at hq
      exact for_end (q.mono l1) hq
  | _ => cases h1
theorem s_forr {n : E} {t : Tg} {b : List S} {en tg : Expr} {sb : List Stmt} {p1 p2 pos : Pos} (mk : Mok X g p M k) (hgl : sc.names.lookup ("range" : Str) = some .globalImplicit) (hs : NoStar en) (hn : AOk X g p M k N sc [n] [en]) (ht : GOk X g p k N sc t tg) (hb : SsOk X g p M k N sc b sb) :
    SOk X g p M k N sc (.forr n t b) (.For tg (.Call (.Name "range" p1) [en] [] p2) sb [] pos) := by
  intro x hx w l s o σ h sg sl Dn q
  unfold evS at h
  obtain ⟨⟨d0, s0⟩, h0, h⟩ := inv2 (γ := Unit) h
  obtain ⟨ds, h1, h2⟩ := inv2 (γ := Unit) h
  obtain ⟨m, rfl, rfl, z1, z2⟩ := rng_ok h1
  refine semS.of (ps_for (g := semG x tg) hx.own hx.c.calm (pi_range1 (hx.c.gl hgl) (hx.c.bl mk "range" (by simp)) pa_sem (by rw [hs]; rfl)) pg_sem pss_sem (fun _ => rfl)) (hn x hx.c w l s [.int m] s0 σ ?_ sg sl _ fun vs w1 l1 r1 g1 => ?_)
  · unfold evEs
    rw [h0]
    unfold evEs
    rfl
  obtain ⟨v, us, rfl, r2, r3⟩ := r1
  rw [show us = [] from r3]
  refine ⟨m, by rw [show v = _ from r2], z1, z2, ?_⟩
  refine for_range (ForI X g w1 (forF M t b) o (rangeD m)) ⟨w1, l, s0, rfl, Le.refl w1, sl.mono l1, g1, by rw [List.drop_zero]; exact h2⟩ (fun i σ H hi hq => ?_) fun σ H hq => ?_
  · refine for_step (v := .int (0 + (i : Int))) hx ht hb (range_get hi) ?_ (q.mono l1) hq
    show _ = _
    rw [Int.zero_add]
  · rw [← range_len] at hq
    exact for_end (q.mono l1) hq
/-- name = [.. for ..], as the model swaps it in -/
theorem s_lc {i : Nat} {n : Str} {it : E} {iter tg elt : Expr} {t : Tg} {c : Option E} {ifs : List Expr} {e : E} {scope : Scope} {own : List (Str × Nat)} {p1 pos spos : Pos} (hN : N[i]? = some n) (hv : sc.names.lookup n = some .local) (hit : EOk X g p M k N sc it iter) (ok : LcOk X g p M k N sc scope own t tg c ifs e elt)
    (hfs : ∀ env v, foldedSetIterable iter env v = pure v) (hsw : ∀ env : Env, env.scope = sc → swapsWith (.ListComp elt [⟨tg, iter, ifs, 0⟩] scope pos) (some (.Name n p1)) spos.line env = pure true) :
    SOk X g p M k N sc (.set (.nm i) (.lc it t c e (own.map (·.2)))) (.Assign [.Name n p1] (.ListComp elt [⟨tg, iter, ifs, 0⟩] scope pos) spos) := by
  intro x hx w l s o σ h sg sl Dn q
  unfold evS at h
  obtain ⟨⟨d, s1⟩, e1, h⟩ := inv2 (γ := Unit) h
  obtain ⟨⟨l2, s2⟩, e2, h⟩ := invm h
  cases h
  cases e2
  obtain ⟨wi, pi, hr⟩ := lc_read hx.c hit ok e1 sg sl
  obtain ⟨pg, pt, pe, bk⟩ := lc_parts hx.c ok
  refine semS.of (ps_setLc hx.c.calm hx.c.nd (by rw [hx.c.N]; exact hN) (by rw [hx.c.sc]; exact hv) (hsw _ hx.c.sc) pi bk pg pt pe (hfs _)) (hr _ fun v w1 le1 r1 g1 => ?_)
  exact q w1 _ le1 ((sl.mono le1).set i r1) g1
theorem s_lcr {i : Nat} {nm : Str} {n : E} {en tg elt : Expr} {t : Tg} {c : Option E} {ifs : List Expr} {e : E} {scope : Scope} {own : List (Str × Nat)} {p1 p2 p3 pos spos : Pos} (mk : Mok X g p M k) (hgl : sc.names.lookup ("range" : Str) = some .globalImplicit) (hN : N[i]? = some nm) (hv : sc.names.lookup nm = some .local) (hs : NoStar en) (hn : AOk X g p M k N sc [n] [en]) (ok : LcOk X g p M k N sc scope own t tg c ifs e elt)
    (hsw : ∀ env : Env, env.scope = sc → swapsWith (.ListComp elt [⟨tg, .Call (.Name "range" p1) [en] [] p2, ifs, 0⟩] scope pos) (some (.Name nm p3)) spos.line env = pure true) :
    SOk X g p M k N sc (.set (.nm i) (.lcr n t c e (own.map (·.2)))) (.Assign [.Name nm p3] (.ListComp elt [⟨tg, .Call (.Name "range" p1) [en] [] p2, ifs, 0⟩] scope pos) spos) := by
  intro x hx w l s o σ h sg sl Dn q
  unfold evS at h
  obtain ⟨⟨d, s1⟩, e1, h⟩ := inv2 (γ := Unit) h
  obtain ⟨⟨l2, s2⟩, e2, h⟩ := invm h
  cases h
  cases e2
  obtain ⟨wi, pi, hr⟩ := lcr_read (p1 := p1) (p2 := p2) mk hgl hs hx.c hn ok e1 sg sl
  obtain ⟨pg, pt, pe, bk⟩ := lc_parts hx.c ok
  refine semS.of (ps_setLc hx.c.calm hx.c.nd (by rw [hx.c.N]; exact hN) (by rw [hx.c.sc]; exact hv) (hsw _ hx.c.sc) pi bk pg pt pe (fun _ => rfl)) (hr _ fun v w1 le1 r1 g1 => ?_)
  exact q w1 _ le1 ((sl.mono le1).set i r1) g1
end
end G

/-! Part T: defs. -/
namespace G
open PySem L2 PySem.SeqAt
section
variable {X : Pc} {g : Gi} {p : Pg} {M : Mch} {k : Nat} {N ps : List Str} {sc : Scope}
variable {x : Cx} {w : Wd} {l : Sl} {s s1 s2 s' : Sto} {σ : St} {d d1 d2 : D}
variable {f : Addr} {name qual : Str} {params : Arguments} {body : List Stmt} {dV kV doc pm cdv ct oc : Value} {an od : Option Addr} {osl : Array (Option Value)}
/-- the slots at a body's start -/
theorem slv_start {w : Wd} {ds : List D} {vs : List V} (r : Reps X w ds vs) (hl : ds.length ≤ N.length) : SlV X w (ds.map some ++ List.replicate (N.length - ds.length) none) (start N vs) := by
  have e : start N vs = vs.map some ++ List.replicate (N.length - vs.length) none := rfl
  have h := r.length
  refine ⟨by rw [e]; simp [h], fun i d hd => ?_⟩
  by_cases q : i < ds.length
  · rw [List.getElem?_append_left (by simpa using q)] at hd
    rw [List.getElem?_map] at hd
    cases e1 : ds[i]? with
    | none => rw [e1] at hd; cases hd
    | some d' =>
      rw [e1] at hd
      cases hd
      obtain ⟨v, h1, h2⟩ := r.get e1
      refine ⟨v, ?_, h2⟩
      rw [e, List.getElem?_append_left (by simp; omega), List.getElem?_map, h1]
      rfl
  · rw [List.getElem?_append_right (by simp; omega)] at hd
    rw [List.getElem?_replicate] at hd
    split at hd
    · cases hd
    · cases hd
theorem con_of {A : Around} {out : List Env} {sh : Shared} {H : Hp} {E : XK} (S : FnScope N ps sc) (hr : Room k (A.deeper (PyProof.Rows.envOfC qual sc sh.heap.objs.size f cdv))) (gd : A.guards = some []) : Con2 X p k N sc (cxOf CX0 p.P p.w X.K p.mg p.base N qual sc f cdv A out sh H E) where
  c := { P := rfl, w := rfl, K := rfl, mg := rfl, base := rfl, N := rfl, sc := rfl, calm := rfl, room := hr, nd := S.nd, gd := gd }
  fn := fun _ _ => .inl rfl
  own := passes_of rfl
/-- a written def, its body told by the inner language's -/
theorem def_plain {F : Fn} {n : Nat} (hf : X.fad n = f) (lk : X.K.lookup f = some ⟨oc, od, .func (PySem.W.fnOf name qual params body sc dV kV doc pm an cdv ct), osl⟩) (hcd : PySem.W.codeIn X.K cdv qual = true) (S : FnScope N ps sc)
    (hb : ∀ us : List Value, us.length = ps.length → bindArgs (PySem.W.fnOf name qual params body sc dV kV doc pm an cdv ct) ⟨us, []⟩ = pure (ps.zip us)) (hS : F.nS = N.length) (hP : F.nP = ps.length) (hst : F.star = false)
    (mk : Mok X g p M k) (hbody : SsOk X g p M k N sc F.body body) : FnQ p.P p.w X.K p.mg p.base (k + 1) f (fun vs H Q _ => ∃ (w : Wd) (ds : List D) (s : Sto) (d : D) (s' : Sto), w.H = H ∧ ((startD F ds).bind fun l => (evSs M F.body l s).map outD) = some (d, s') ∧ Reps X w ds vs ∧ SG X g w s ∧
      ∀ v w', Le w w' → Rep X w' d v → SG X g w' s' → Q v w'.H) := by
  intro A out sh H args us vs Q E hr gd e0 sb rv hsp
  obtain ⟨w, ds, s, d, s', rfl, he, r, sg, q⟩ := hsp
  obtain ⟨l, h1, h2⟩ := inv2 (γ := Unit) he
  obtain ⟨o, h3, h4⟩ := invm h2
  have h1' : (if ds.length = F.nP then some (ds.map some ++ List.replicate (F.nS - F.nP) none) else none) = some l := by
    unfold startD at h1
    rw [hst] at h1
    exact h1
  split at h1'
  · rename_i hl
    cases h1'
    have hlv : vs.length = ps.length := by rw [r.length, hl, hP]
    refine StX.run_bnd (CX := CX0) (G := fun xs H2 => xs = vs ∧ H2 = w.H) lk hcd S hr e0 (fun A' Ex Q' h => ?_) fun sh2 H2 xs hg hr' => ?_
    · rw [sb _ _ lk rfl, hb us (by rw [← rv.length, hlv])]
      exact wpAny_pure (h sh w.H vs us e0 Un.refl rfl (fun _ _ z => z) rv hlv ⟨rfl, rfl⟩)
    · obtain ⟨rfl, rfl⟩ := hg
      refine ⟨_, pss_sem, ?_⟩
      have le : ds.length ≤ N.length := by
        have := congrArg List.length S.pre
        rw [List.length_take] at this
        omega
      have sl := slv_start (N := N) r le
      rw [show N.length - ds.length = F.nS - F.nP by rw [hS, hl]] at sl
      refine hbody _ (con_of S hr' gd) w _ s o _ h3 sg sl _ ?_
      obtain ⟨o1, l1, s1⟩ := o
      cases o1 with
      | nx => cases h4; exact fun w' σ' le a b => q .non w' le rfl b
      | ret d1 => cases h4; exact fun v w' le a b => q v w' le a b
  · cases h1'
/-- def f(a, .., *v) -/
theorem def_star {F : Fn} {n : Nat} {pv : Str} (hf : X.fad n = f) (lk : X.K.lookup f = some ⟨oc, od, .func (PySem.W.fnOf name qual params body sc dV kV doc pm an cdv ct), osl⟩) (hcd : PySem.W.codeIn X.K cdv qual = true) (S : FnScope N (ps ++ [pv]) sc)
    (hb : ∀ us rest : List Value, us.length = ps.length → bindArgs (PySem.W.fnOf name qual params body sc dV kV doc pm an cdv ct) ⟨us ++ rest, []⟩ = (newTuple rest >>= fun t => pure (ps.zip us ++ [(pv, t)]))) (hS : F.nS = N.length) (hP : F.nP = ps.length + 1) (hst : F.star = true)
    (mk : Mok X g p M k) (hbody : SsOk X g p M k N sc F.body body) : FnQ p.P p.w X.K p.mg p.base (k + 1) f (fun vs H Q _ => ∃ (w : Wd) (ds : List D) (s : Sto) (d : D) (s' : Sto), w.H = H ∧ ((startD F ds).bind fun l => (evSs M F.body l s).map outD) = some (d, s') ∧ Reps X w ds vs ∧ SG X g w s ∧
      ∀ v w', Le w w' → Rep X w' d v → SG X g w' s' → Q v w'.H) := by
  intro A out sh H args us vs Q E hr gd e0 sb rv hsp
  obtain ⟨w, ds, s, d, s', rfl, he, r, sg, q⟩ := hsp
  obtain ⟨l, h1, h2⟩ := inv2 (γ := Unit) he
  obtain ⟨o, h3, h4⟩ := invm h2
  have h1' : (if F.nP ≤ ds.length + 1 ∧ ds.length ≤ mostL then some ((ds.take (F.nP - 1)).map some ++ some (D.tup (ds.drop (F.nP - 1))) :: List.replicate (F.nS - F.nP) none) else none) = some l := by
    unfold startD at h1
    rw [hst] at h1
    exact h1
  split at h1'
  · rename_i hl
    cases h1'
    have e1 : F.nP - 1 = ps.length := by omega
    rw [e1] at h3
    have hvl := r.length
    obtain ⟨u1, u2, eu, r1, r2⟩ : ∃ u1 u2, us = u1 ++ u2 ∧ Vals (vs.take ps.length) u1 ∧ Vals (vs.drop ps.length) u2 := StX.vals_split (by rw [List.take_append_drop]; exact rv)
    have l1 : u1.length = ps.length := by
      rw [← r1.length, List.length_take]
      omega
    have l2 : u2.length ≤ sizeLine := by
      rw [← r2.length, List.length_drop]
      exact mostL_line (by omega)
    have hn : w.H sh.heap.objs.size = none := e0.hok.fresh (Nat.le_refl _)
    refine StX.run_bnd (CX := CX0) (G := fun xs H2 => ∃ a, w.H a = none ∧ xs = vs.take ps.length ++ [V.ref a] ∧ H2 = upd w.H a (.tup (vs.drop ps.length))) lk hcd S hr e0 (fun A' Ex Q' h => ?_) fun sh2 H2 xs hg hr' => ?_
    · rw [sb _ _ lk rfl, eu, hb u1 u2 l1]
      refine wpAny_bind (wpAny_newTuple (wpAny_pure ?_) l2)
      have new : ObjOk p.P p.w (upd w.H sh.heap.objs.size (.tup (vs.drop ps.length))) (sh.heap.push ({ cls := .type "tuple", data := .seq u2.toArray } : Obj)) sh.heap.objs.size (.tup (vs.drop ps.length)) := ⟨by rw [r2.length]; exact l2, u2, r2, ⟨_, Heap.get?_push_size _ rfl, rfl, _, rfl⟩⟩
      have z := h _ _ (vs.take ps.length ++ [V.ref sh.heap.objs.size]) (u1 ++ [Value.ref sh.heap.objs.size]) (StX.env0_laid e0 new) (StX.un_laid hn) rfl (fun _ _ z => z) (r1.append (.cons (show RelV (V.ref sh.heap.objs.size) (Value.ref sh.heap.objs.size) from rfl) .nil)) (by
        rw [List.length_append, List.length_append, r1.length, l1]; rfl) ⟨_, hn, rfl, rfl⟩
      rw [List.zip_append l1.symm] at z
      exact z
    · obtain ⟨a, ha, rfl, rfl⟩ := hg
      refine ⟨_, pss_sem, ?_⟩
      have hN : ps.length + 1 ≤ N.length := by
        have := congrArg List.length S.pre
        rw [List.length_take, List.length_append] at this
        simp only [List.length_cons, List.length_nil] at this
        omega
      have le1 : Le w (w.add a (.tup (vs.drop ps.length))) := Le.add ha
      have rr : Reps X (w.add a (.tup (vs.drop ps.length))) (ds.take ps.length ++ [D.tup (ds.drop ps.length)]) (vs.take ps.length ++ [V.ref a]) := by
        refine Reps.append (Reps.mono le1 _ (r.take _)) (Reps.one (.newT sg ha ?_))
        have dr : ∀ (n : Nat) {ds : List D} {vs : List V}, Reps X w ds vs → Reps X w (ds.drop n) (vs.drop n) := by
          intro n
          induction n with
          | zero => intro ds vs h; simpa using h
          | succ n ih => intro ds vs h; cases ds with
            | nil => rw [show vs = [] from h]; simp [Reps]
            | cons d ds => obtain ⟨v, us, rfl, _, h2⟩ := h; simpa using ih h2
        exact dr _ r
      have lds : (ds.take ps.length ++ [D.tup (ds.drop ps.length)]).length = ps.length + 1 := by
        rw [List.length_append, List.length_take]
        simp only [List.length_cons, List.length_nil]
        omega
      have sl := slv_start (N := N) rr (by rw [lds]; exact hN)
      rw [lds, List.map_append, List.append_assoc, show N.length - (ps.length + 1) = F.nS - F.nP by rw [hS, hP]] at sl
      refine hbody _ (con_of S hr' gd) _ _ s o _ h3 (sg.add ha Fine.tup) sl _ ?_
      obtain ⟨o1, l1, s1⟩ := o
      cases o1 with
      | nx => cases h4; exact fun w' σ' le a b => q .non w' (le1.trans le) rfl b
      | ret d1 => cases h4; exact fun v w' le a b => q v w' (le1.trans le) a b
  · cases h1'
/-- a def of the program, as the inner language tells it -/
structure DefOk (X : Pc) (g : Gi) (p : Pg) (tb : Tb) (n : Nat) (F : Fn) : Prop where
  run : ∀ (M : Mch) (k : Nat), M.tb = tb → Mok X g p M k → FnQ p.P p.w X.K p.mg p.base (k + 1) (X.fad n) (fun vs H Q _ => ∃ (w : Wd) (ds : List D) (s : Sto) (d : D) (s' : Sto), w.H = H ∧ ((startD F ds).bind fun l => (evSs M F.body l s).map outD) = some (d, s') ∧ Reps X w ds vs ∧ SG X g w s ∧
      ∀ v w', Le w w' → Rep X w' d v → SG X g w' s' → Q v w'.H)
/-- what of the program does not hang on the depth -/
structure Mok0 (X : Pc) (p : Pg) (tb : Tb) : Prop where
  mok : ∀ (g : Gi) (M : Mch) (k : Nat), M.tb = tb → (∀ f, FnQ p.P p.w X.K p.mg p.base k (X.fad f) (spD X g M.call f)) → ((∃ j, j + 2 ≤ k ∧ ∀ f, FnQ p.P p.w X.K p.mg p.base j (X.fad f) (spD X g M.init f)) ∨ ∀ f ds s, M.init f ds s = none) → Mok X g p M k
/-- all defs keep their promises -/
theorem all_ok {tb : Tb} {fn : Nat → Option Fn} (m0 : Mok0 X p tb) (h : ∀ n F, fn n = some F → DefOk X g p tb n F) : ∀ k n, FnQ p.P p.w X.K p.mg p.base k (X.fad n) (spD X g (callF tb fn k) n) := by
  intro k
  induction k using Nat.strongRecOn with
  | ind k ih =>
    intro n
    cases k with
    | zero =>
      intro A out sh H args us vs Q E hr gd e0 sb rv hsp
      obtain ⟨w, ds, s, d, s', _, he, _⟩ := hsp
      unfold callF at he
      cases he
    | succ k =>
      intro A out sh H args us vs Q E hr gd e0 sb rv hsp
      obtain ⟨w, ds, s, d, s', eH, he, r, sg, q⟩ := hsp
      have he' : (fn n).bind (fun F => (startD F ds).bind fun l => (evSs ⟨tb, callF tb fn k, callF tb fn (k - 2)⟩ F.body l s).map outD) = some (d, s') := by
        unfold callF at he
        exact he
      obtain ⟨F, hF, he2⟩ := inv2 (γ := Unit) he'
      have mk : Mok X g p ⟨tb, callF tb fn k, callF tb fn (k - 2)⟩ k := by
        refine m0.mok g _ k rfl (fun f => ih k (Nat.lt_succ_self _) f) ?_
        by_cases hk : 2 ≤ k
        · exact .inl ⟨k - 2, by omega, fun f => ih (k - 2) (by omega) f⟩
        · refine .inr fun f ds s => ?_
          show callF tb fn (k - 2) f ds s = none
          rw [show k - 2 = 0 by omega]
          unfold callF
          rfl
      exact (h n F hF).run _ k rfl mk A out sh H args us vs Q E hr gd e0 sb rv ⟨w, ds, s, d, s', eH, he2, r, sg, q⟩
end
end G

/-! Part U: an __init__ that begins with super().__init__(..). -/
namespace G
open PySem L2 PySem.SeqAt
section
variable {X : Pc} {g : Gi} {p : Pg} {M : Mch} {k : Nat} {N ps : List Str} {sc : Scope}
variable {x : Cx} {w : Wd} {l : Sl} {s s1 s2 s' : Sto} {σ : St} {d d1 d2 : D}
variable {f cc cda B : Addr} {name qual : Str} {params : Arguments} {body rest : List Stmt} {doc pm ct oc : Value} {od : Option Addr} {osl : Array (Option Value)}
theorem Fine.met {a b : Addr} : Fine (.met a b) := fun _ _ _ h => nomatch h
/-- what of the text super() asks: cc the cell of __class__ with the class at B, cda the code, f2 the __init__ that comes next -/
structure SupOk (X : Pc) (p : Pg) (f cc cda B C f2 : Addr) (s0 : Str) : Prop where
  cell : ∃ cl cld csl, X.K.lookup cc = some ⟨cl, cld, .cell (some (.ref B)), csl⟩
  code : ∃ ccl cdd vs ccs file tf, X.K.lookup cda = some ⟨ccl, cdd, .fields vs, ccs⟩ ∧ vs[2]? = some (.str file tf) ∧ ((p.P.main.file : Str) == file) = true
  cls : ∃ cd, PySem.W.clsIn X.K B = some cd
  own : ∃ cd, PySem.W.clsIn X.K C = some cd
  sub : PySem.W.mroIn X.K C (.ref B) = some true
  blt : p.mg "super" = none
  top : (p.P.main.scope.names.lookup ("super" : Str)).isSome = false
  third : PySem.W.nsIn X.K cStatics "thirdparty.any" = some none
  next : PySem.W.ks_superIn X.K C B "__init__" = some (some (.ref f2))
  fn : PySem.W.isFn X.K (.ref f2) = true
  fi : PySem.W.fnIn X.K f2 = true
theorem def_super {F : Fn} {n f2 : Nat} {c s0 : Str} {ar : Arg} {as : List E} {a : E} {e : Expr} {es : List Expr} {rest' : List S} {p0 p1 apos pos pos2 : Pos} (hf : X.fad n = f)
    (lk : X.K.lookup f = some ⟨oc, od, .func (PySem.W.ksFn name qual params body sc .none .none doc pm none (.ref cda) ct cc), osl⟩) (hcd : PySem.W.codeIn X.K (.ref cda) qual = true) (S : NdefX.NScope N (s0 :: ps) ["__class__"] sc)
    (hb : ∀ us : List Value, us.length = (s0 :: ps).length → bindArgs (PySem.W.ksFn name qual params body sc .none .none doc pm none (.ref cda) ct cc) ⟨us, []⟩ = pure ((s0 :: ps).zip us)) (hS : F.nS = N.length) (hP : F.nP = (s0 :: ps).length) (hst : F.star = false)
    (hpar : (params.posonlyargs ++ params.args).head? = some ar) (har : ar.arg = s0) (hF : F.body = .expr (.sup c f2 (a :: as)) :: rest') (hB : body = .Expr (.Call (.Attribute (.Call (.Name "super" p0) [] [] p1) "__init__" apos) (e :: es) [] pos) pos2 :: rest)
    (su : SupOk X p f cc cda B (X.cad c) (X.fad f2) s0) (hks : sc.names.lookup ("super" : Str) = some .globalImplicit) (hsw : ∀ env : Env, env.scope = sc → swapsWith (.Call (.Attribute (.Call (.Name "super" p0) [] [] p1) "__init__" apos) (e :: es) [] pos) none pos2.line env = pure false)
    (hev : ∀ env, ∃ pl : Sem Bool, eval (.Call (.Attribute (.Call (.Name "super" p0) [] [] p1) "__init__" apos) (e :: es) [] pos) env = (do
      let ov ← attributeBase (.Call (.Name "super" p0) [] [] p1) "__init__" env (eval (.Call (.Name "super" p0) [] [] p1) env)
      standAt apos.atName
      let (f, first) ← holding [ov] (getMethod ov "__init__" pl)
      callWith pos f first (backTo pos (starEach (e :: es) env)) []))
    (ns : NoStar e) (nss : NoStars es) (mk : Mok X g p M k) (ha : AOk X g p M k N sc (a :: as) (e :: es)) (hbody : SsOk X g p M k N sc rest' rest) :
    FnQ p.P p.w X.K p.mg p.base (k + 1) f (fun vs H Q _ => ∃ (w : Wd) (ds : List D) (s : Sto) (d : D) (s' : Sto), w.H = H ∧ ((startD F ds).bind fun l => (evSs M F.body l s).map outD) = some (d, s') ∧ Reps X w ds vs ∧ SG X g w s ∧
      ∀ v w', Le w w' → Rep X w' d v → SG X g w' s' → Q v w'.H) := by
  intro A out sh H args us vs Q E hr gd e0 sb rv hsp
  obtain ⟨w, ds, s, d, s', rfl, he, r, sg, q⟩ := hsp
  obtain ⟨l, h1, h2⟩ := inv2 (γ := Unit) he
  obtain ⟨o, h3, h4⟩ := invm h2
  have h1' : (if ds.length = F.nP then some (ds.map some ++ List.replicate (F.nS - F.nP) none) else none) = some l := by
    unfold startD at h1
    rw [hst] at h1
    exact h1
  split at h1'
  · rename_i hl
    cases h1'
    have hlv : vs.length = (s0 :: ps).length := by rw [r.length, hl, hP]
    have KX : X.K.In sh.heap := e0.mod.kin.keeps fun b o z => (e0.bs b o z).1
    have lim : sh.heap.NoLimit := e0.mod.nolimit.keeps fun b o z => (e0.bs b o z).1
    refine codeAny_call_function hr.depth (KX _ _ lk) rfl S.co S.gen rfl (PySem.W.codeRec_of KX hcd) ?_
    rw [sb _ _ lk rfl, hb us (by rw [← rv.length, hlv])]
    refine wpAny_pure (wpAny_newFunctionEnv S.nocell (fun ⟨n, _⟩ hy => S.par n (List.of_mem_zip hy).1) (fun h₁ hns hsb => ⟨lim.fresh _ hsb, ?_⟩) S.kind)
    have kp : ∀ b o, sh.heap.get? b = some o → h₁.get? b = some o := fun b o z => hsb.extBut b o (Nat.ne_of_lt (Heap.lt_size z)) (Heap.get?_push_of_some _ z)
    obtain ⟨cl0, cld, csl, hcell⟩ := su.cell
    let NFr : NdefX.NF := ⟨name, qual, params, body, sc, [("__class__", cc)], cda⟩
    have C : NdefX.CellsAt NFr.cl ["__class__"] [none] sh.heap w.H := by
      refine ⟨rfl, fun y c0 hy => ?_, fun y z c0 h1 h2 => ?_, fun i y hy => ?_⟩
      · have : c0 = cc := by
          have z : ([("__class__", cc)] : List (Str × Addr)).lookup y = some c0 := hy
          rw [List.lookup_cons] at z
          split at z
          · cases z; rfl
          · cases z
        subst this
        exact ⟨(e0.bs _ _ (e0.mod.kin _ _ hcell)).2, _, ⟨_, KX _ _ hcell, rfl⟩⟩
      · have nm : ∀ {y c0}, ([("__class__", cc)] : List (Str × Addr)).lookup y = some c0 → y = "__class__" := fun {y c0} z => by
          rw [List.lookup_cons] at z
          split at z
          · rename_i e; exact beq_iff_eq.mp e
          · cases z
        rw [nm h1, nm h2]
      · cases i with
        | zero =>
          cases hy
          exact ⟨cc, by simp [NFr], fun v z => by cases z⟩
        | succ i => simp at hy
    have hN0 : N[0]? = some s0 := by
      have z := congrArg (fun l => l[0]?) S.pre
      simpa using z
    have hNl : ps.length + 2 ≤ N.length := by
      have z := congrArg List.length S.pre
      rw [List.length_take, List.length_append] at z
      simp only [List.length_cons, List.length_nil] at z
      omega
    have I0 := NdefX.inv_startN (CX := CX0) (P := p.P) (w := p.w) (mg := p.mg) (N := N) (F := NFr) (f := f) (A := A) (outer := out) (E := E) (tk := sh.toks + ((s0 :: ps).zip us).length) S hr.hd e0 hlv rv C hns kp
    generalize hy : NdefX.ncx CX0 p.P p.w X.K p.mg p.base N NFr f A out sh w.H E = y at I0
    have yenv : y.env = NdefX.envF NFr f sh.heap.objs.size := by rw [← hy]; rfl
    have cy : Con1 X p k N sc y := by
      rw [← hy]
      exact { P := rfl, w := rfl, K := rfl, mg := rfl, base := rfl, N := rfl, sc := rfl, calm := rfl, room := hr.deeper _, nd := S.nd, gd := gd }
    have c2 : Con2 X p k N sc y := { c := cy, fn := fun n h => .inr (h.resolve_right fun z => S.nocell (n, .cell) (PySem.mem_of_lookup z) rfl), own := by rw [← hy]; exact passes_of rfl }
    have sl : SlV X w (ds.map some ++ List.replicate (F.nS - F.nP) none) (NdefX.startF N vs [none]) := by
      have e1 := slv_start (N := N) r (by rw [hl, hP]; simp only [List.length_cons]; omega)
      have e2 : NdefX.startF N vs [none] = start N vs := by
        show vs.map some ++ ([none] ++ List.replicate (N.length - vs.length - 1) none) = vs.map some ++ List.replicate (N.length - vs.length) none
        rw [show N.length - vs.length = (N.length - vs.length - 1) + 1 by simp only [List.length_cons] at hlv; omega, List.replicate_succ]
        rfl
      rw [e2]
      rw [show N.length - ds.length = F.nS - F.nP by rw [hS, hl]] at e1
      exact e1
    generalize ds.map some ++ List.replicate (F.nS - F.nP) none = l0 at h1 h3 sl
    generalize NdefX.startF N vs [none] = σ0 at I0 sl
    -- what the evaluator did
    rw [hF] at h3
    unfold evSs at h3
    obtain ⟨⟨o1, l1, s1⟩, e1, h3⟩ := inv2 (γ := Unit) h3
    unfold evS at e1
    obtain ⟨⟨d1, s2⟩, e2, e3⟩ := invm e1
    cases e3
    unfold evE at e2
    split at e2
    · rename_i d0 hd0
      split at e2
      · rename_i hc0
        obtain ⟨⟨ds3, s3⟩, e4, e5⟩ := inv2 (γ := Unit) e2
        obtain ⟨v0, hv0, r0⟩ := sl.2 0 d0 hd0
        obtain ⟨a0, dx, fs, rfl, ea, cl⟩ := ins_at sg hc0 r0
        subst hB
        have K1 : X.K.In h₁ := KX.keeps kp
        obtain ⟨mA, O, _⟩ := ins_get I0.hok ea
        obtain ⟨odx, J, hpl⟩ := O.look
        obtain ⟨ccl, cdd, vA, ccs, file, tf, k1, k2, k3⟩ := su.code
        obtain ⟨cdB, hcdB⟩ := su.cls
        obtain ⟨cdC, hcdC⟩ := su.own
        obtain ⟨oB, hB1, hB2⟩ : ∃ oB, h₁.get? B = some oB ∧ oB.data = .cls cdB := by
          have z := hcdB
          unfold PySem.W.clsIn at z
          split at z
          · rename_i c' d' cd' sl' ho
            cases z
            exact ⟨_, K1 _ _ ho, rfl⟩
          · cases z
        obtain ⟨m, hns1, hlo⟩ := I0.loc
        have hka : sc.names.lookup s0 = some .local := S.par s0 List.mem_cons_self
        obtain ⟨u0, ru0, lk0⟩ := hlo 0 s0 _ (by rw [← hy]; exact hN0) hv0 (by rw [yenv]; exact .inl hka)
        cases ru0
        have hm0 : m s0 = some (.ref a0) := by
          rcases lk0 with ⟨_, z⟩ | ⟨z, _⟩
          · exact z
          · rw [yenv] at z
            have z' : sc.names.lookup s0 = some .cell ∨ sc.names.lookup s0 = some .free := z
            rw [hka] at z'
            rcases z' with z' | z' <;> cases z'
        have hkc : sc.names.lookup ("__class__" : Str) = some .free := S.frk _ (by simp)
        have hnc : ∀ c', (PySem.W.instObj (X.cad c) dx).data ≠ .cls c' := fun c' z => nomatch z
        obtain ⟨mb, hmb, hbb⟩ := I0.mod.blt
        show codeAny _ _ (.func (_ :: rest) (NdefX.envF NFr f sh.heap.objs.size)) _ _
        refine ks_codeAny_funcAt (ks_wpAt_execs_cons ?_)
        have hq0 : interactive (NdefX.envF NFr f sh.heap.objs.size) = false := by rw [← yenv]; exact I0.quiet
        refine ks_wpAt_Expr_any ?_ hq0 (hsw _ rfl)
        obtain ⟨pl, hpl'⟩ := hev (NdefX.envF NFr f sh.heap.objs.size)
        refine ks_wpAt_MethodCall (pl := pl) ?_ hpl'
        refine ks_wpAt_super_base (env := NdefX.envF NFr f sh.heap.objs.size) (f := f) (cc := cda) hks hkc rfl rfl (K1 _ _ lk) rfl hpar rfl (K1 _ _ k1) rfl k2 k3 su.top ?_
        refine PySem.W.ks_loadName_global S.kind hks (Calls.loadGlobal_builtin (env := NdefX.envF NFr f sh.heap.objs.size) (I0.mod.glob.keeps I0.bk) (by rw [show y.mg = p.mg from cy.mg]; exact su.blt) (hmb.keeps I0.bk) ((hbb _ (by decide +kernel)).trans (by decide +kernel)) ⟨rfl, ?_⟩)
        refine wpAny_loadName_free S.kind hkc rfl ⟨_, K1 _ _ hcell, rfl⟩ ?_
        rw [har]
        have hns2 : h₁.Ns (NdefX.envF NFr f sh.heap.objs.size).locals m := by rw [← yenv]; exact hns1
        refine wpAny_loadName_local S.kind hka hns2 hm0 ?_
        refine ks_wpAny_isType_cls hB1 hB2 ⟨rfl, ?_⟩
        refine ks_wpAny_call_super hB1 hB2 J.at_ J.cls hnc (PySem.W.looks_mroIn K1 su.sub) fun h2 eso kp2 => ?_
        have K2 : X.K.In h2 := K1.keeps kp2
        have I1 := I0.kept (h' := h2) (t' := sh.toks + ((s0 :: ps).zip us).length) kp2
        -- the method
        obtain ⟨of, hof, hofc⟩ : ∃ of, h2.get? (X.fad f2) = some of ∧ of.cls = .type "function" := by
          have z : (X.K.lookup (X.fad f2)).map (·.cls) = some (.type "function") := beq_iff_eq.mp su.fn
          cases z2 : X.K.lookup (X.fad f2) with
          | none => rw [z2] at z; cases z
          | some of => rw [z2] at z; exact ⟨of, K2 _ _ z2, Option.some.inj z⟩
        have hal : PySem.W.alongIn X.K "__init__" ((cdC.mro.dropWhile (· != .ref B)).drop 1) = some (some (.ref (X.fad f2))) := by
          have z := su.next
          unfold PySem.W.ks_superIn at z
          rw [hcdC] at z
          exact z
        have hmro : PySem.W.Looks (model p.P p.w) h2 (mroOf (.ref (X.cad c))) cdC.mro := fun A Q E s k q => wpAny_bind ((PySem.W.looks_clsIn K2 hcdC) A _ E s k (wpAny_pure q))
        refine ks_wpAny_getMethod_super eso (PySem.W.looks_opaque K2 su.third) hmro rfl K2 hal hof hofc (PySem.W.ks_ne K1 J hcdC) (by decide +kernel) ?_
        have hq1 : w.H h2.objs.size = none := I1.hok.fresh (Nat.le_refl _)
        have I2 := I1.laid (a := h2.objs.size) (o := .met (X.fad f2) a0) (h' := h2.push (PySem.W.methodObj (.ref (X.fad f2)) (.ref a0))) (t' := sh.toks + ((s0 :: ps).zip us).length + 1) (fun b o z => Heap.get?_push_of_some _ z) (Nat.le_refl _) (Heap.get?_push_size _ rfl)
        have le1 : Le w (w.add h2.objs.size (.met (X.fad f2) a0)) := Le.add hq1
        have F2 : FnQ y.prog y.w y.K y.mg y.base k (X.fad f2) (spD X g M.call f2) := by rw [cy.P, cy.w, cy.K, cy.mg, cy.base]; exact mk.call f2
        have hp : (backTo pos (starEach (e :: es) (NdefX.envF NFr f sh.heap.objs.size))).any (·.1) = false := by
          rw [ns]
          exact nss pos _
        have args := ha y cy (w.add h2.objs.size (.met (X.fad f2) a0)) l0 s ds3 s3 σ0 e4 (sg.add hq1 Fine.met) (sl.mono le1) (fun us H2 => ∃ w2, w2.H = H2 ∧ Le (w.add h2.objs.size (.met (X.fad f2) a0)) w2 ∧ Reps X w2 ds3 us ∧ SG X g w2 s3) (fun us w2 a b c => ⟨w2, rfl, a, b, c⟩)
        have args2 := args pos [] _ I2
        rw [cy.P, cy.w, yenv] at args2
        have hyA : y.A = A.deeper (NdefX.envF NFr f sh.heap.objs.size) := by rw [← hy]; rfl
        rw [hyA] at args2
        have he0 := ns es (NdefX.envF NFr f sh.heap.objs.size)
        rw [he0] at args2 hp ⊢
        refine PySem.W.callWith_of (P := PySem.W.MethP X.K h2.objs.size (X.fad f2) (.ref a0)) (by rw [hp]; rfl) (PySem.W.keeps_M su.fi) (PySem.Calls.evalArgs_plain ?_)
        refine wpAny_mono args2 (fun us sh3 hq3 => ?_) ?_
        · obtain ⟨vs3, H3, I3, rv3, w2, rfl, le2, rs3, g3⟩ := hq3
          have hm2 : w2.H h2.objs.size = some (.met (X.fad f2) a0) := le2.keep _ _ upd_same (sg.fresh hq1)
          have mp := met_P I3 hm2
          rw [cy.K] at mp
          refine ⟨mp, ?_⟩
          have rr0 : Rep X w2 d0 (.ref a0) := (r0.mono le1 d0).mono le2 d0
          have run := run_fnQ (E := E0) (args := ⟨.ref a0 :: us, []⟩) (us := .ref a0 :: us) (vs := .ref a0 :: vs3) (Q := fun v H4 => ∃ w4, w4.H = H4 ∧ Le w2 w4 ∧ SG X g w4 s2) (fun _ _ _ _ => rfl) F2 cy.room cy.gd I3 (.cons (show RelV (V.ref a0) (Value.ref a0) from rfl) rv3)
            ⟨w2, d0 :: ds3, s3, d1, s2, rfl, e5, ⟨_, _, rfl, rr0, rs3⟩, g3, fun v w4 l4 _ g4 => ⟨w4, rfl, l4, g4⟩⟩
          rw [cy.P, cy.w, hyA] at run
          refine wpAny_call (PySem.W.method_call mp.1 (codeAny_mono run fun z sh4 hz => ?_))
          match z, hz with
          | .error ev, hz => subst hy; exact hz
          | .ok (.ret v), hz =>
            obtain ⟨v4, H4, I4, _, w4, rfl, le4, g4⟩ := hz
            have b := hbody y c2 w4 l0 s2 o σ0 h3 g4 (sl.mono ((le1.trans le2).trans le4)) { nx := fun _ H' => Q .non H', rt := Q } (by
              obtain ⟨o1, l1, s1⟩ := o
              cases o1 with
              | nx => cases h4; exact fun w' σ' le a b => q .non w' (((le1.trans le2).trans le4).trans le) rfl b
              | ret d1 => cases h4; exact fun v w' le a b => q v w' (((le1.trans le2).trans le4).trans le) a b) [] sh4 I4
            rw [cy.P, cy.w, hyA, yenv] at b
            refine wpAt_of_wpAny (wpAny_mono b (fun fl s5 hs => ?_) fun ev s5 hs => ?_)
            · subst hy
              have fin : ∀ {σ' : St} {H' : Hp} {v' : V} {u' : Value}, Inv (NdefX.ncx CX0 p.P p.w X.K p.mg p.base N NFr f A out sh w.H E) [] σ' H' s5 → RelV v' u' → Q v' H' → CE out p.P p.w w.H sh Q u' s5 :=
                fun {σ' H' v' u'} J rv' q' => ⟨v', H', J.os, J.bare, J.base, J.hok, rv', q'⟩
              cases fl with
              | ret u' =>
                obtain ⟨v', σ', H', J, rv', q'⟩ := hs
                exact fin J rv' q'
              | next =>
                obtain ⟨σ', H', J, q'⟩ := hs
                exact fin (v' := V.non) (u' := Value.none) J rfl q'
              | brk => obtain ⟨_, _, _, z⟩ := hs; exact z.elim
              | cont => obtain ⟨_, _, _, z⟩ := hs; exact z.elim
            · subst hy; exact hs
        · intro ev sh4 hz
          subst hy
          exact hz
      · cases e2
    · cases e2
  · cases h1'
end
end G

/-! Part V: the checker. -/
namespace G
open PySem L2 PySem.SeqAt
/-! ### what the checker knows -/
structure Ck where
  N : List Str
  nm : Nat → Option Str
  cn : Str → Option Str
  ini : Str → Option Nat
  kws : List (Nat × Nat × List Str × List Nat)
inductive Job where
  | e (a : E) (x : Expr) | t (a : E) (x : Expr) | l (o : Bool) (a : E) (xs : List Expr) | lt (o : Bool) (a : E) (xs : List Expr) | es (as : List E) (xs : List Expr) | ks (as : List E) (xs : List Keyword)
  | st (s : S) (x : Stmt) | sts (s : List S) (xs : List Stmt) | tg (t : TgS) (x : Expr) | tgs (ts : List TgS) (xs : List Expr)
def visB (sc : Scope) (n : Str) : Bool := match sc.names.lookup n with
  | some .local => true
  | some .cell => true
  | some .free => true
  | _ => false
def locB (sc : Scope) (n : Str) : Bool := match sc.names.lookup n with
  | some .local => true
  | some .cell => true
  | _ => false
def gloB (sc : Scope) (n : Str) : Bool := match sc.names.lookup n with
  | some .globalImplicit => true
  | _ => false
def lclB (sc : Scope) (n : Str) : Bool := match sc.names.lookup n with
  | some .local => true
  | _ => false
def okN (n : Str) : Bool := !(n == ("__debug__" : Str)) && !(n == ("__classdict__" : Str))
def noStarB : Expr → Bool
  | .Starred .. => false
  | _ => true
def kB : D → Const → Bool
  | .non, c => (match c with | .none => true | _ => false)
  | .bl b, c => (match c with | .bool b' => b == b' | _ => false)
  | .int i, c => (match c with | .int j => decide (i = j) | _ => false)
  | .str z, c => (match c with | .str y => decide (z = y) | _ => false)
  | _, _ => false
def bopB : Bop → Operator → Bool
  | .add, o => (match o with | .Add => true | _ => false)
  | .sub, o => (match o with | .Sub => true | _ => false)
  | .mul, o => (match o with | .Mult => true | _ => false)
  | .fdiv, o => (match o with | .FloorDiv => true | _ => false)
  | .mod, o => (match o with | .Mod => true | _ => false)
  | .pow, o => (match o with | .Pow => true | _ => false)
def copB (o : Cop) (c : CmpOp) : Bool := decide (copA o = c)
def opB : BoolOp → Bool
  | .And => true
  | .Or => false
def opA : Bool → BoolOp
  | true => .And
  | false => .Or
def noSlB : Expr → Bool
  | .Slice .. => false
  | _ => true
def plB : Expr → Bool
  | .Call (.Name n _) [] [] _ => !(n == ("super" : Str))
  | _ => true
def plT : Expr → Bool
  | .UnaryOp .. => false
  | .BoolOp .. => false
  | .IfExp .. => false
  | .Compare .. => false
  | _ => true
def compB : Expr → Bool
  | .ListComp .. => true
  | .SetComp .. => true
  | .DictComp .. => true
  | _ => false
def kwN : List Keyword → Option (List Str)
  | [] => some []
  | k :: r => match k.arg with
    | some n => (kwN r).map fun ns => n :: ns
    | none => none
def tyNames : List String := ["int", "bool", "str", "list", "tuple", "dict"]
def tyB (c : Ck) (sc : Scope) : Ty → Expr → Bool
  | T, .Name m _ => gloB sc m && okN m && (match T with | .ty n => decide (m = Str.ofString n) && decide (n ∈ tyNames) | .cls cl => decide (c.cn cl = some m))
  | _, _ => false
def tysB (c : Ck) (sc : Scope) : List Ty → List Expr → Bool
  | [], xs => (match xs with | [] => true | _ => false)
  | T :: Ts, xs => (match xs with | x :: r => tyB c sc T x && tysB c sc Ts r | _ => false)
mutual
def ckG (c : Ck) (sc : Scope) : Tg → Expr → Bool
  | .nm i, x => (match x with | .Name m _ => decide (c.N[i]? = some m) && locB sc m | _ => false)
  | .tup ts, x => (match x with | .Tuple es _ _ => ckGs c sc ts es | _ => false)
def ckGs (c : Ck) (sc : Scope) : List Tg → List Expr → Bool
  | [], xs => (match xs with | [] => true | _ => false)
  | t :: ts, xs => (match xs with | x :: r => noStarB x && ckG c sc t x && ckGs c sc ts r | _ => false)
end
/-- the block's own names and their places -/
def ownB (c : Ck) (w : List Nat) : List (Str × Nat) := w.filterMap fun i => (c.N[i]?).map fun n => (n, i)
/-- a comprehension's block -/
def lcB (c : Ck) (sc scope : Scope) (t : Tg) (tg : Expr) (w : List Nat) : Bool :=
  blkC c.N sc scope (ownB c w) && decide ((ownB c w).map (·.2) = w) && t.sl.all (fun i => w.contains i) && ckG c (relS scope sc) t tg &&
    t.sl.all (fun i => match c.N[i]? with | some n => (match scope.names.lookup n with | some .cell => true | _ => false) || lclB (relS scope sc) n | none => true)
/-- name = [.. for ..] is swapped in -/
def swB (sc scope : Scope) (m : Str) (p1 vp : Pos) : Bool := lclB sc m && (p1.line == vp.line) && !(scope.names.any fun (n, k) => n == m && (k == .local || k == .cell))
def kfB (sc : Scope) : Bool := match sc.kind with | .function => true | _ => false
def ck (c : Ck) : Nat → Scope → Job → Bool
  | 0, _, _ => false
  | n + 1, sc, j => match j with
    | .e a x => (match x with
      | .Name m _ => (match a with | .v i => decide (c.N[i]? = some m) && visB sc m && okN m | _ => false)
      | .Constant k _ _ => (match a with | .k d => kB d k | _ => false)
      | .BinOp l op r _ => (match a with | .bin o p q => bopB o op && ck c n sc (.e p l) && ck c n sc (.e q r) | _ => false)
      | .UnaryOp op y _ => (match a with
        | .neg b => (match op with | .USub => ck c n sc (.e b y) | _ => false)
        | .not b => (match op with | .Not => ck c n sc (.e b y) | _ => false)
        | _ => false)
      | .BoolOp op ys _ => ck c n sc (.l (opB op) a ys)
      | .IfExp t y z _ => (match a with | .ife b p q => ck c n sc (.t b t) && ck c n sc (.e p y) && ck c n sc (.e q z) | _ => false)
      | .Compare l ops rs _ => (match ops with
        | [o] => (match rs with
          | [r] => (match a with
            | .cmp op p q => copB op o && ck c n sc (.e p l) && ck c n sc (.e q r)
            | .eqo neg p q => decide (eqoOp neg = o) && ck c n sc (.e p l) && ck c n sc (.e q r)
            | _ => false)
          | _ => false)
        | _ => false)
      | .Tuple es _ _ => (match a with | .tup as => ck c n sc (.es as es) | _ => false)
      | .List es _ => (match a with | .lst _ as => ck c n sc (.es as es) | _ => false)
      | .Dict ds es _ => (match ds with | [] => (match es with | [] => (match a with | .k d => (match d with | .dic k1 k2 => (match k1 with | [] => (match k2 with | [] => true | _ => false) | _ => false) | _ => false) | _ => false) | _ => false) | _ => false)
      | .Subscript y i _ => (match a with
        | .ix p q => noSlB i && ck c n sc (.e p y) && ck c n sc (.e q i)
        | .slu p q => (match i with
          | .Slice lo up stp _ => (match lo with | none => (match stp with | none => (match up with | some u => ck c n sc (.e p y) && ck c n sc (.e q u) | none => false) | some _ => false) | some _ => false)
          | _ => false)
        | _ => false)
      | .Attribute y f _ => (match a with | .fld b f' => decide (f' = f) && plB y && ck c n sc (.e b y) | _ => false)
      | .ListComp elt gens scope _ => (match gens with
        | [gen] => decide (gen.is_async = 0) && (match a with
          | .lc it t cd e w => lcB c sc scope t gen.target w && ck c n sc (.e it gen.iter) && (match gen.iter with | .Set .. => false | _ => true) && ck c n (relS scope sc) (.e e elt) && (match cd with
            | none => (match gen.ifs with | [] => true | _ => false)
            | some d => (match gen.ifs with | [y] => ck c n (relS scope sc) (.t d y) | _ => false))
          | .lcr m t cd e w => lcB c sc scope t gen.target w && gloB sc "range" && (match gen.iter with
            | .Call f es ks _ => (match f with | .Name r _ => decide (r = ("range" : Str)) | _ => false) && (match ks with | [] => true | _ => false) && ck c n sc (.es [m] es)
            | _ => false) && ck c n (relS scope sc) (.e e elt) && (match cd with
            | none => (match gen.ifs with | [] => true | _ => false)
            | some d => (match gen.ifs with | [y] => ck c n (relS scope sc) (.t d y) | _ => false))
          | _ => false)
        | _ => false)
      | .Call f es ks pos => (match f with
        | .Name m _ => gloB sc m && okN m && (match ks with
          | [] => (match a with
            | .call fn _ as => decide (c.nm fn = some m) && decide (as ≠ []) && ck c n sc (.es as es)
            | .new cl as => decide (c.cn cl = some m) && decide (as ≠ []) && ck c n sc (.es as es)
            | .bi b as => decide (m = biN b) && (match as with | [_] => true | _ => false) && ck c n sc (.es as es)
            | .bo b => decide (m = ("bool" : Str)) && (match es with | [y] => noStarB y && ck c n sc (.e b y) | _ => false)
            | .isi b Ts => decide (m = ("isinstance" : Str)) && (match es with
              | [y, z] => noStarB y && ck c n sc (.e b y) && (match z with
                | .Tuple zs _ _ => decide (Ts ≠ []) && decide (Ts.length ≤ 1000) && tysB c sc Ts zs
                | _ => (match Ts with | [T] => tyB c sc T z | _ => false))
              | _ => false)
            | _ => false)
          | _ :: _ => (match a with
            | .callk fn _ pm as bs => decide (c.nm fn = some m) && ck c n sc (.es as es) && ck c n sc (.ks bs ks) && (match kwN ks with | some ns => c.kws.contains (fn, as.length, ns, pm) | none => false)
            | .newk cl pm as bs => decide (c.cn cl = some m) && (match as with | [] => (match es with | [] => true | _ => false) | _ => false) && ck c n sc (.ks bs ks) && (match c.ini cl with | some fn => (match kwN ks with | some ns => c.kws.contains (fn, 1, ns, pm) | none => false) | none => false)
            | _ => false))
        | .Attribute o m p4 => (match a with
          | .tnl b => decide (m = ("lower" : Str)) && (p4.endLine == pos.line) && gloB sc "type" && (match es with | [] => true | _ => false) && (match ks with | [] => true | _ => false) && (match o with
            | .Attribute o2 m2 _ => decide (m2 = ("__name__" : Str)) && (match o2 with
              | .Call f3 es3 ks3 _ => (match f3 with | .Name r _ => decide (r = ("type" : Str)) | _ => false) && (match ks3 with | [] => true | _ => false) && (match es3 with | [y] => noStarB y && ck c n sc (.e b y) | _ => false)
              | _ => false)
            | _ => false)
          | _ => false)
        | _ => false)
      | _ => false)
    | .t a x => (match x with
      | .UnaryOp op y _ => (match a with | .not b => (match op with | .Not => ck c n sc (.t b y) | _ => false) | _ => false)
      | .BoolOp op ys _ => ck c n sc (.lt (opB op) a ys)
      | .Compare l ops rs _ => (match ops with
        | [o] => (match rs with
          | [r] => (match a with
            | .cmp op p q => copB op o && ck c n sc (.e p l) && ck c n sc (.e q r)
            | .eqo neg p q => decide (eqoOp neg = o) && ck c n sc (.e p l) && ck c n sc (.e q r)
            | _ => false)
          | _ => false)
        | _ => false)
      | _ => plT x && ck c n sc (.e a x))
    | .l o a xs => (match xs with
      | [] => false
      | x :: r => (match r with
        | [] => ck c n sc (.e a x)
        | _ :: _ => (match a with
          | .and p q => o && ck c n sc (.e p x) && ck c n sc (.l true q r)
          | .or p q => !o && ck c n sc (.e p x) && ck c n sc (.l false q r)
          | _ => false)))
    | .lt o a xs => (match xs with
      | [] => false
      | x :: r => (match r with
        | [] => ck c n sc (.t a x)
        | _ :: _ => (match a with
          | .and p q => o && ck c n sc (.t p x) && ck c n sc (.lt true q r)
          | .or p q => !o && ck c n sc (.t p x) && ck c n sc (.lt false q r)
          | _ => false)))
    | .es as xs => (match as with
      | [] => (match xs with | [] => true | _ => false)
      | a :: ar => (match xs with | x :: r => noStarB x && ck c n sc (.e a x) && ck c n sc (.es ar r) | _ => false))
    | .ks as xs => (match as with
      | [] => (match xs with | [] => true | _ => false)
      | a :: ar => (match xs with | x :: r => ck c n sc (.e a x.value) && ck c n sc (.ks ar r) | _ => false))
    | .st s x => (match x with
      | .Assign ts v pos => (match ts with
        | [t] => (match s with
          | .set tg e => (match t with
            | .Name m p1 => (match tg with
              | .nm i => decide (c.N[i]? = some m) && locB sc m && ck c n sc (.e e v) && (match v with
                | .ListComp _ _ scope vp => kfB sc && (!swB sc scope m p1 vp || (match e with | .lc .. => true | .lcr .. => true | _ => false))
                | _ => !compB v)
              | _ => false)
            | .Attribute .. => ck c n sc (.tg tg t) && ck c n sc (.e e v)
            | .Subscript .. => ck c n sc (.tg tg t) && ck c n sc (.e e v)
            | .Tuple .. => ck c n sc (.tg tg t) && ck c n sc (.e e v) && (match v with | .Tuple .. => false | _ => true)
            | _ => false)
          | .par i j a b => (match t with
            | .Tuple ts2 _ _ => kfB sc && (match ts2 with
              | [y, z] => (match y with
                | .Name m1 q1 => (match z with
                  | .Name m2 q2 => (match v with
                    | .Tuple vs _ _ => (match vs with
                      | [u1, u2] => decide (c.N[i]? = some m1) && decide (c.N[j]? = some m2) && decide (i ≠ j) && lclB sc m1 && lclB sc m2 && (q2.line == q1.line) && !(m1 == m2) && !([u1, u2].all (foldedForSure 8)) && !([u1, u2].all (constantsAlone 8)) && ck c n sc (.es [a, b] [u1, u2])
                      | _ => false)
                    | _ => false)
                  | _ => false)
                | _ => false)
              | _ => false)
            | _ => false)
          | _ => false)
        | _ => false)
      | .Expr e _ => (match s with | .expr a => !compB e && ck c n sc (.e a e) | _ => false)
      | .Return o _ => (match o with
        | some e => (match s with | .ret a => ck c n sc (.e a e) | _ => false)
        | none => (match s with | .retN => true | _ => false))
      | .Pass _ => (match s with | .pass => true | _ => false)
      | .If t a b _ => (match s with | .ite d p q => ck c n sc (.t d t) && ck c n sc (.sts p a) && ck c n sc (.sts q b) | _ => false)
      | .For tg it b orelse _ => (match orelse with
        | [] => (match s with
          | .for e t p => ckG c sc t tg && ck c n sc (.e e it) && (match it with | .Set .. => false | _ => true) && ck c n sc (.sts p b)
          | .forr m t p => ckG c sc t tg && gloB sc "range" && (match it with
            | .Call f es ks _ => (match f with | .Name r _ => decide (r = ("range" : Str)) | _ => false) && (match ks with | [] => true | _ => false) && ck c n sc (.es [m] es)
            | _ => false) && ck c n sc (.sts p b)
          | _ => false)
        | _ => false)
      | .Raise .. => (match s with | .raise => true | _ => false)
      | _ => false)
    | .sts s xs => (match s with
      | [] => (match xs with | [] => true | _ => false)
      | a :: r => (match xs with | x :: xr => ck c n sc (.st a x) && ck c n sc (.sts r xr) | _ => false))
    | .tg t x => (match x with
      | .Name m _ => (match t with | .nm i => decide (c.N[i]? = some m) && locB sc m | _ => false)
      | .Attribute y f _ => (match t with | .fld o f' => decide (f' = f) && ck c n sc (.e o y) | _ => false)
      | .Subscript y i _ => (match t with | .sub o q => noSlB i && ck c n sc (.e o y) && ck c n sc (.e q i) | _ => false)
      | .Tuple es _ _ => (match t with | .tup ts => ck c n sc (.tgs ts es) | _ => false)
      | _ => false)
    | .tgs ts xs => (match ts with
      | [] => (match xs with | [] => true | _ => false)
      | t :: r => (match xs with | x :: xr => noStarB x && ck c n sc (.tg t x) && ck c n sc (.tgs r xr) | _ => false))
end G

/-! Part W: the checker is right. -/
namespace G
open PySem L2 PySem.SeqAt
section
variable {X : Pc} {g : Gi} {p : Pg} {M : Mch} {k : Nat} {c : Ck} {sc : Scope}
/-- what the checker's words mean -/
structure CkOk (X : Pc) (p : Pg) (tb : Tb) (c : Ck) : Prop where
  nm : ∀ f n, c.nm f = some n → p.nm f = some n
  cn : ∀ cl n, c.cn cl = some n → p.mg n = some (.ref (X.cad cl))
  ini : ∀ cl f, c.ini cl = some f → ∃ C, tb.cl cl = some C ∧ C.init = f
  kw : ∀ t ∈ c.kws, KwB X.K (X.fad t.1) t.2.1 t.2.2.1 t.2.2.2
def JOk (X : Pc) (g : Gi) (p : Pg) (M : Mch) (k : Nat) (N : List Str) (sc : Scope) : Job → Prop
  | .e a x => EOk X g p M k N sc a x
  | .t a x => TOk X g p M k N sc a x
  | .l o a xs => ∀ pos, EOk X g p M k N sc a (.BoolOp (opA o) xs pos)
  | .lt o a xs => ∀ pos, WOk X g p M k N sc a (.BoolOp (opA o) xs pos)
  | .es as xs => AOk X g p M k N sc as xs ∧ (∀ x ∈ xs, NoStar x) ∧ as.length = xs.length
  | .ks as xs => KAOk X g p M k N sc as xs ∧ as.length = xs.length
  | .st s x => SOk X g p M k N sc s x
  | .sts s xs => SsOk X g p M k N sc s xs
  | .tg t x => TSOk X g p M k N sc t x
  | .tgs ts xs => TSsOk X g p M k N sc ts xs ∧ (∀ x ∈ xs, NoStar x) ∧ ts.length = xs.length
theorem visB_ok {n : Str} (h : visB sc n = true) : Vis sc n := by
  unfold visB at h
  split at h
  · rename_i e; exact .inl e
  · rename_i e; exact .inr (.inl e)
  · rename_i e; exact .inr (.inr e)
  · cases h
theorem locB_ok {n : Str} (h : locB sc n = true) : Loc sc n := by
  unfold locB at h
  split at h
  · rename_i e; exact .inl e
  · rename_i e; exact .inr e
  · cases h
theorem gloB_ok {n : Str} (h : gloB sc n = true) : sc.names.lookup n = some .globalImplicit := by
  unfold gloB at h
  split at h
  · rename_i e; exact e
  · cases h
theorem lclB_ok {n : Str} (h : lclB sc n = true) : sc.names.lookup n = some .local := by
  unfold lclB at h
  split at h
  · rename_i e; exact e
  · cases h
theorem okN_ok {n : Str} (h : okN n = true) : (n == ("__debug__" : Str)) = false ∧ (n == ("__classdict__" : Str)) = false := by
  unfold okN at h
  simpa using h
theorem kB_ok {d : D} {cst : Const} (h : kB d cst = true) : KOk d cst := by
  unfold kB at h
  split at h
  · split at h
    · exact .non
    · cases h
  · split at h
    · rw [beq_iff_eq.mp h]; exact .bl _
    · cases h
  · split at h
    · rw [of_decide_eq_true h]; exact .int _
    · cases h
  · split at h
    · rw [of_decide_eq_true h]; exact .str _
    · cases h
  · cases h
theorem bopB_ok {o : Bop} {op : Operator} (h : bopB o op = true) : op = bopA o := by
  cases o <;> cases op <;> first | rfl | exact absurd h (by decide)
theorem noStar_of {x : Expr} (h : noStarB x = true) : NoStar x := by
  cases x with
  | Starred _ _ => cases h
  | _ => exact fun _ _ => rfl
theorem noStars_of : ∀ {xs : List Expr}, (∀ x ∈ xs, NoStar x) → NoStars xs
  | [], _ => .nil
  | x :: r, h => .cons (h x List.mem_cons_self) (noStars_of fun y hy => h y (List.mem_cons_of_mem _ hy))
theorem plainIx_of {x : Expr} (h : noSlB x = true) : PlainIx x := by
  cases x with
  | Slice _ _ _ _ => cases h
  | _ => exact fun _ _ => rfl
theorem plainT_of {x : Expr} (h : plT x = true) : PlainT x := by
  cases x with
  | UnaryOp _ _ _ => cases h
  | BoolOp _ _ _ => cases h
  | IfExp _ _ _ _ => cases h
  | Compare _ _ _ _ => cases h
  | _ => exact fun _ _ => rfl
theorem plainB_of {x : Expr} (h : plB x = true) : PlainB x := by
  cases x with
  | Call f es ks pos =>
    cases f with
    | Name m q =>
      cases es with
      | nil =>
        cases ks with
        | nil =>
          intro f env
          have hm : (m == ("super" : Str)) = false := by
            have z : (!(m == ("super" : Str))) = true := h
            simpa using z
          unfold attributeBase
          have : (m != ("super" : Str)) = true := by simp only [bne, hm]; rfl
          simp only [this, Bool.true_or, if_true]
          first | done | rfl
        | cons _ _ => exact fun _ _ => rfl
      | cons _ _ => exact fun _ _ => rfl
    | _ => exact fun _ _ => rfl
  | _ => exact fun _ _ => rfl
theorem assignEach_cons {x : Expr} (h : NoStar x ∨ noStarB x = true) (hb : noStarB x = true) (es : List Expr) (env : Env) : assignEach (x :: es) env = (false, assign x env) :: assignEach es env := by
  cases x with
  | Starred _ _ => cases hb
  | _ => rfl
theorem mg_ty (mk : Mok X g p M k) {n : String} (h : n ∈ tyNames) : p.mg (Str.ofString n) = none ∧ bootBuiltins (Str.ofString n) = some (.type n) ∧ (Str.ofString n) ≠ ("__name__" : Str) := by
  unfold tyNames at h
  simp only [List.mem_cons, List.not_mem_nil, or_false] at h
  rcases h with rfl | rfl | rfl | rfl | rfl | rfl
  · exact ⟨mk.blt _ (by simp), by decide +kernel, by decide +kernel⟩
  · exact ⟨mk.blt _ (by simp), by decide +kernel, by decide +kernel⟩
  · exact ⟨mk.blt _ (by simp), by decide +kernel, by decide +kernel⟩
  · exact ⟨mk.blt _ (by simp), by decide +kernel, by decide +kernel⟩
  · exact ⟨mk.blt _ (by simp), by decide +kernel, by decide +kernel⟩
  · exact ⟨mk.blt _ (by simp), by decide +kernel, by decide +kernel⟩
theorem tyB_ok {tb : Tb} (co : CkOk X p tb c) (mk : Mok X g p M k) {T : Ty} {x : Expr} (h : tyB c sc T x = true) : TyE X p sc T x := by
  cases x with
  | Name m pos =>
    cases T with
    | ty n =>
      have h' : (gloB sc m && okN m && (decide (m = Str.ofString n) && decide (n ∈ tyNames))) = true := h
      simp only [Bool.and_eq_true, decide_eq_true_eq] at h'
      obtain ⟨⟨h1, h2⟩, rfl, h4⟩ := h'
      obtain ⟨a, b, d⟩ := mg_ty mk h4
      exact .blt n pos (gloB_ok h1) a b d (okN_ok h2).1
    | cls cl =>
      have h' : (gloB sc m && okN m && decide (c.cn cl = some m)) = true := h
      simp only [Bool.and_eq_true, decide_eq_true_eq] at h'
      obtain ⟨⟨h1, h2⟩, h3⟩ := h'
      exact .cls cl m pos (gloB_ok h1) (co.cn cl m h3) (okN_ok h2).1
  | _ => cases T <;> exact absurd (show false = true from h) (by decide)
theorem tysB_ok {tb : Tb} (co : CkOk X p tb c) (mk : Mok X g p M k) : ∀ {Ts : List Ty} {xs : List Expr}, tysB c sc Ts xs = true → TyEs X p sc Ts xs
  | [], [], _ => .nil
  | [], _ :: _, h => absurd (show false = true from h) (by decide)
  | T :: Ts, [], h => absurd (show false = true from h) (by decide)
  | T :: Ts, x :: r, h => by
    have h' : (tyB c sc T x && tysB c sc Ts r) = true := h
    obtain ⟨h1, h2⟩ := Bool.and_eq_true_iff.mp h'
    exact .cons (tyB_ok co mk h1) (tysB_ok co mk h2)
mutual
theorem ckG_ok : ∀ {t : Tg} {x : Expr} {sc : Scope}, ckG c sc t x = true → GOk X g p k c.N sc t x
  | .nm i, x, sc, h => by
    cases x with
    | Name m pos =>
      have h' : (decide (c.N[i]? = some m) && locB sc m) = true := h
      simp only [Bool.and_eq_true, decide_eq_true_eq] at h'
      exact g_name h'.1 (locB_ok h'.2)
    | _ => exact absurd (show false = true from h) (by decide)
  | .tup ts, x, sc, h => by
    cases x with
    | Tuple es j pos =>
      obtain ⟨h1, h2, h3⟩ := ckGs_ok (show ckGs c sc ts es = true from h)
      refine g_tup h1 (fun env => ?_) fun env => ?_
      · exact (h3 env).1
      · exact (h3 env).2
    | _ => exact absurd (show false = true from h) (by decide)
theorem ckGs_ok : ∀ {ts : List Tg} {xs : List Expr} {sc : Scope}, ckGs c sc ts xs = true → GsOk X g p k c.N sc ts xs ∧ ts.length = xs.length ∧ ∀ env, (assignEach xs env).length = ts.length ∧ (assignEach xs env).findIdx? (·.1) = none
  | [], [], sc, _ => ⟨gs_nil, rfl, fun _ => ⟨rfl, rfl⟩⟩
  | [], _ :: _, sc, h => absurd (show false = true from h) (by decide)
  | t :: ts, [], sc, h => absurd (show false = true from h) (by decide)
  | t :: ts, x :: r, sc, h => by
    have h' : (noStarB x && ckG c sc t x && ckGs c sc ts r) = true := h
    simp only [Bool.and_eq_true] at h'
    obtain ⟨⟨h1, h2⟩, h3⟩ := h'
    obtain ⟨a, b, d⟩ := ckGs_ok (ts := ts) (xs := r) h3
    have z := fun env => assignEach_cons (.inr h1) h1 r env
    refine ⟨gs_cons (ckG_ok h2) a fun env => by rw [z env]; rfl, by simp [b], fun env => ?_⟩
    rw [z env]
    refine ⟨by simp [(d env).1], ?_⟩
    have := (d env).2
    simp only [List.findIdx?_cons, this]
    rfl
end
theorem ownB_ix (w : List Nat) : ∀ q ∈ ownB c w, c.N[q.2]? = some q.1 := fun q hq => by
  unfold ownB at hq
  obtain ⟨i, _, h⟩ := List.mem_filterMap.mp hq
  obtain ⟨n, e, h2⟩ := Option.map_eq_some_iff.mp h
  cases h2
  exact e
theorem lcB_ok {scope : Scope} {t : Tg} {tg elt : Expr} {w : List Nat} {d : Option E} {ifs : List Expr} {e : E} (h : lcB c sc scope t tg w = true) (hc : match d with
    | none => ifs = []
    | some y => ∃ ec, ifs = [ec] ∧ TOk X g p M k c.N (relS scope sc) y ec) (he : EOk X g p M k c.N (relS scope sc) e elt) : LcOk X g p M k c.N sc scope (ownB c w) t tg d ifs e elt ∧ (ownB c w).map (·.2) = w := by
  unfold lcB at h
  simp only [Bool.and_eq_true, decide_eq_true_eq] at h
  obtain ⟨⟨⟨⟨h1, h2⟩, h3⟩, h4⟩, h5⟩ := h
  refine ⟨{ blk := blkOk_by h1, sl := fun i hi => ?_, fn := fun i hi n hn => ?_, t := ckG_ok h4, c := hc, e := he }, h2⟩
  · rw [h2]
    have := List.all_eq_true.mp h3 i hi
    simpa using this
  · have z := List.all_eq_true.mp h5 i hi
    rw [hn] at z
    have z' : ((match scope.names.lookup n with | some .cell => true | _ => false) || lclB (relS scope sc) n) = true := z
    rcases Bool.or_eq_true_iff.mp z' with z' | z'
    · left
      split at z'
      · rename_i e; exact e
      · cases z'
    · exact .inr (lclB_ok z')
theorem notSet_ok {x : Expr} (h : (match x with | .Set .. => false | _ => true) = true) (env : Env) (v : Value) : foldedSetIterable x env v = pure v := by
  cases x with
  | Set _ _ _ => cases h
  | _ => rfl
theorem kws_ok : ∀ {ks : List Keyword} {ns : List Str}, kwN ks = some ns → Kws ns ks
  | [], ns, h => by cases h; exact .nil
  | ⟨a, v, q⟩ :: r, ns, h => by
    cases a with
    | none => cases h
    | some n =>
      obtain ⟨ns', h1, h2⟩ := Option.map_eq_some_iff.mp (show (kwN r).map (fun ns => n :: ns) = some ns from h)
      subst h2
      exact .cons (kws_ok h1)
theorem kwN_len : ∀ {ks : List Keyword} {ns : List Str}, kwN ks = some ns → ns.length = ks.length
  | [], ns, h => by cases h; rfl
  | ⟨a, v, q⟩ :: r, ns, h => by
    cases a with
    | none => cases h
    | some n =>
      obtain ⟨ns', h1, h2⟩ := Option.map_eq_some_iff.mp (show (kwN r).map (fun ns => n :: ns) = some ns from h)
      subst h2
      simp [kwN_len h1]
theorem notComp {v : Expr} (h : compB v = false) (t : Option Expr) (l : Nat) (env : Env) : swapsWith v t l env = pure false := by
  cases v with
  | ListComp _ _ _ _ => cases h
  | SetComp _ _ _ _ => cases h
  | DictComp _ _ _ _ _ => cases h
  | _ => rfl
end
end G

/-! Part X: the checker is right, expressions. -/
namespace G
open PySem L2 PySem.SeqAt
section
variable {X : Pc} {g : Gi} {p : Pg} {M : Mch} {k : Nat} {c : Ck} {sc : Scope}
/-- the words of a smaller fuel are right -/
def IH (X : Pc) (g : Gi) (p : Pg) (M : Mch) (k : Nat) (c : Ck) (n : Nat) : Prop := ∀ sc j, ck c n sc j = true → JOk X g p M k c.N sc j
variable {n : Nat}
theorem ck_es {as : List E} {xs : List Expr} (ih : IH X g p M k c n) (h : ck c (n + 1) sc (.es as xs) = true) : JOk X g p M k c.N sc (.es as xs) := by
  cases as with
  | nil => cases xs with
    | nil => exact ⟨ak_nil, (fun _ z => absurd z List.not_mem_nil), rfl⟩
    | cons _ _ => exact absurd (show false = true from h) (by decide)
  | cons a as => cases xs with
    | nil => exact absurd (show false = true from h) (by decide)
    | cons x r =>
      have h' : (noStarB x && ck c n sc (.e a x) && ck c n sc (.es as r)) = true := h
      simp only [Bool.and_eq_true] at h'
      obtain ⟨⟨h1, h2⟩, h3⟩ := h'
      obtain ⟨q1, q2, q3⟩ := ih _ _ h3
      refine ⟨ak_cons (noStar_of h1) (ih _ _ h2) q1, fun y hy => ?_, by simp [q3]⟩
      rcases List.mem_cons.mp hy with e | e
      · rw [e]; exact noStar_of h1
      · exact q2 y e
theorem ck_ks {as : List E} {xs : List Keyword} (ih : IH X g p M k c n) (h : ck c (n + 1) sc (.ks as xs) = true) : JOk X g p M k c.N sc (.ks as xs) := by
  cases as with
  | nil => cases xs with
    | nil => exact ⟨kk_nil, rfl⟩
    | cons _ _ => exact absurd (show false = true from h) (by decide)
  | cons a as => cases xs with
    | nil => exact absurd (show false = true from h) (by decide)
    | cons x r =>
      obtain ⟨nm, v, q⟩ := x
      have h' : (ck c n sc (.e a v) && ck c n sc (.ks as r)) = true := h
      simp only [Bool.and_eq_true] at h'
      obtain ⟨q1, q3⟩ := ih _ _ h'.2
      exact ⟨kk_cons (ih _ _ h'.1) q1, by simp [q3]⟩
theorem ck_l {o : Bool} {a : E} {xs : List Expr} (ih : IH X g p M k c n) (h : ck c (n + 1) sc (.l o a xs) = true) : JOk X g p M k c.N sc (.l o a xs) := by
  intro pos
  cases xs with
  | nil => exact absurd (show false = true from h) (by decide)
  | cons x r =>
    cases r with
    | nil => exact ok_one (ih _ _ (show ck c n sc (.e a x) = true from h))
    | cons y r =>
      cases a with
      | and p q =>
        have h' : (o && ck c n sc (.e p x) && ck c n sc (.l true q (y :: r))) = true := h
        simp only [Bool.and_eq_true] at h'
        obtain ⟨⟨rfl, h2⟩, h3⟩ := h'
        exact ok_and (ih _ _ h2) (ih _ _ h3 pos)
      | or p q =>
        have h' : (!o && ck c n sc (.e p x) && ck c n sc (.l false q (y :: r))) = true := h
        simp only [Bool.and_eq_true, Bool.not_eq_true'] at h'
        obtain ⟨⟨rfl, h2⟩, h3⟩ := h'
        exact ok_or (ih _ _ h2) (ih _ _ h3 pos)
      | _ => exact absurd (show false = true from h) (by decide)
theorem ck_lt {o : Bool} {a : E} {xs : List Expr} (ih : IH X g p M k c n) (h : ck c (n + 1) sc (.lt o a xs) = true) : JOk X g p M k c.N sc (.lt o a xs) := by
  intro pos
  cases xs with
  | nil => exact absurd (show false = true from h) (by decide)
  | cons x r =>
    cases r with
    | nil =>
      have z : TOk X g p M k c.N sc a x := ih _ _ (show ck c n sc (.t a x) = true from h)
      cases o with
      | true => exact wk_and1 z
      | false => exact wk_or1 z
    | cons y r =>
      cases a with
      | and p q =>
        have h' : (o && ck c n sc (.t p x) && ck c n sc (.lt true q (y :: r))) = true := h
        simp only [Bool.and_eq_true] at h'
        obtain ⟨⟨rfl, h2⟩, h3⟩ := h'
        exact wk_and (ih _ _ h2) (ih _ _ h3 pos)
      | or p q =>
        have h' : (!o && ck c n sc (.t p x) && ck c n sc (.lt false q (y :: r))) = true := h
        simp only [Bool.and_eq_true, Bool.not_eq_true'] at h'
        obtain ⟨⟨rfl, h2⟩, h3⟩ := h'
        exact wk_or (ih _ _ h2) (ih _ _ h3 pos)
      | _ => exact absurd (show false = true from h) (by decide)
theorem opA_opB (op : BoolOp) : opA (opB op) = op := by cases op <;> rfl
theorem ck_t {a : E} {x : Expr} (mk : Mok X g p M k) (ih : IH X g p M k c n) (h : ck c (n + 1) sc (.t a x) = true) : JOk X g p M k c.N sc (.t a x) := by
  have rest : plT x = true → (plT x && ck c n sc (.e a x)) = true → TOk X g p M k c.N sc a x := fun h1 h2 => tk_of (plainT_of h1) (ih _ _ (Bool.and_eq_true_iff.mp h2).2)
  cases x with
  | UnaryOp op y pos =>
    cases a with
    | not b =>
      cases op with
      | Not => exact tk_not (ih _ _ (show ck c n sc (.t b y) = true from h))
      | _ => exact absurd (show false = true from h) (by decide)
    | _ => exact absurd (show false = true from h) (by decide)
  | BoolOp op ys pos =>
    have z := ih _ _ (show ck c n sc (.lt (opB op) a ys) = true from h) pos
    rw [opA_opB] at z
    exact tk_w z
  | Compare l ops rs pos =>
    cases ops with
    | nil => exact absurd (show false = true from h) (by decide)
    | cons o r1 =>
      cases r1 with
      | cons _ _ => exact absurd (show false = true from h) (by decide)
      | nil =>
        cases rs with
        | nil => exact absurd (show false = true from h) (by decide)
        | cons r r2 =>
          cases r2 with
          | cons _ _ => exact absurd (show false = true from h) (by decide)
          | nil =>
            cases a with
            | cmp op p q =>
              have h' : (copB op o && ck c n sc (.e p l) && ck c n sc (.e q r)) = true := h
              simp only [Bool.and_eq_true, copB, decide_eq_true_eq] at h'
              obtain ⟨⟨rfl, h2⟩, h3⟩ := h'
              exact tk_cmp (ih _ _ h2) (ih _ _ h3)
            | eqo neg p q =>
              have h' : (decide (eqoOp neg = o) && ck c n sc (.e p l) && ck c n sc (.e q r)) = true := h
              simp only [Bool.and_eq_true, decide_eq_true_eq] at h'
              obtain ⟨⟨rfl, h2⟩, h3⟩ := h'
              exact tk_eqo mk (ih _ _ h2) (ih _ _ h3)
            | _ => exact absurd (show false = true from h) (by decide)
  | IfExp _ _ _ _ => exact absurd (show false = true from h) (by decide)
  | _ => exact rest rfl h
theorem ne_cons {α : Type} {l : List α} (h : l ≠ []) : ∃ a r, l = a :: r := by
  cases l with
  | nil => exact absurd rfl h
  | cons a r => exact ⟨a, r, rfl⟩
theorem kws_mem {t : Nat × Nat × List Str × List Nat} {tb : Tb} (co : CkOk X p tb c) (h : c.kws.contains t = true) : KwB X.K (X.fad t.1) t.2.1 t.2.2.1 t.2.2.2 := co.kw t (by simpa using h)
theorem ck_call {a : E} {m : Str} {q pos : Pos} {es : List Expr} {ks : List Keyword} {tb : Tb} (co : CkOk X p tb c) (ht : M.tb = tb) (mk : Mok X g p M k) (ih : IH X g p M k c n) (h : ck c (n + 1) sc (.e a (.Call (.Name m q) es ks pos)) = true) : EOk X g p M k c.N sc a (.Call (.Name m q) es ks pos) := by
  cases ks with
  | nil =>
    cases a with
    | call fn iso as =>
      have h' : (gloB sc m && okN m && (decide (c.nm fn = some m) && decide (as ≠ []) && ck c n sc (.es as es))) = true := h
      simp only [Bool.and_eq_true, decide_eq_true_eq] at h'
      obtain ⟨⟨h1, h2⟩, ⟨h3, h4⟩, h5⟩ := h'
      obtain ⟨q1, q2, q3⟩ := ih _ _ h5
      obtain ⟨a0, ar, rfl⟩ := ne_cons h4
      cases es with
      | nil => simp at q3
      | cons e er => exact ok_call mk (co.nm fn m h3) (gloB_ok h1) (okN_ok h2).1 (q2 e List.mem_cons_self) (noStars_of fun y hy => q2 y (List.mem_cons_of_mem _ hy)) q1
    | new cl as =>
      have h' : (gloB sc m && okN m && (decide (c.cn cl = some m) && decide (as ≠ []) && ck c n sc (.es as es))) = true := h
      simp only [Bool.and_eq_true, decide_eq_true_eq] at h'
      obtain ⟨⟨h1, h2⟩, ⟨h3, h4⟩, h5⟩ := h'
      obtain ⟨q1, q2, q3⟩ := ih _ _ h5
      obtain ⟨a0, ar, rfl⟩ := ne_cons h4
      cases es with
      | nil => simp at q3
      | cons e er => exact ok_new mk (co.cn cl m h3) (gloB_ok h1) (okN_ok h2).1 (q2 e List.mem_cons_self) (noStars_of fun y hy => q2 y (List.mem_cons_of_mem _ hy)) q1
    | bi b as =>
      have h' : (gloB sc m && okN m && (decide (m = biN b) && (match (generalizing := false) as with | [_] => true | _ => false) && ck c n sc (.es as es))) = true := h
      simp only [Bool.and_eq_true, decide_eq_true_eq] at h'
      obtain ⟨⟨h1, h2⟩, ⟨rfl, h4⟩, h5⟩ := h'
      obtain ⟨q1, q2, q3⟩ := ih _ _ h5
      cases as with
      | nil => cases h4
      | cons a0 ar =>
        cases ar with
        | cons _ _ => cases h4
        | nil =>
          cases es with
          | nil => simp at q3
          | cons e er =>
            cases er with
            | cons _ _ => simp at q3
            | nil => exact ok_bi mk (gloB_ok h1) (q2 e List.mem_cons_self) q1
    | bo b =>
      have h' : (gloB sc m && okN m && (decide (m = ("bool" : Str)) && (match (generalizing := false) es with | [y] => noStarB y && ck c n sc (.e b y) | _ => false))) = true := h
      simp only [Bool.and_eq_true, decide_eq_true_eq] at h'
      obtain ⟨⟨h1, h2⟩, rfl, h5⟩ := h'
      cases es with
      | nil => cases h5
      | cons e er =>
        cases er with
        | cons _ _ => cases h5
        | nil =>
          obtain ⟨h6, h7⟩ := Bool.and_eq_true_iff.mp h5
          exact ok_bo mk (gloB_ok h1) (noStar_of h6) (ih _ _ h7)
    | isi b Ts =>
      have h' : (gloB sc m && okN m && (decide (m = ("isinstance" : Str)) && (match (generalizing := false) es with
              | [y, z] => noStarB y && ck c n sc (.e b y) && (match (generalizing := false) z with
                | .Tuple zs _ _ => decide (Ts ≠ []) && decide (Ts.length ≤ 1000) && tysB c sc Ts zs
                | _ => (match (generalizing := false) Ts with | [T] => tyB c sc T z | _ => false))
              | _ => false))) = true := h
      simp only [Bool.and_eq_true, decide_eq_true_eq] at h'
      obtain ⟨⟨h1, h2⟩, rfl, h5⟩ := h'
      cases es with
      | nil => cases h5
      | cons y er =>
        cases er with
        | nil => cases h5
        | cons z er =>
          cases er with
          | cons _ _ => cases h5
          | nil =>
            obtain ⟨h67, h8⟩ := Bool.and_eq_true_iff.mp h5
            obtain ⟨h6, h7⟩ := Bool.and_eq_true_iff.mp h67
            have one : (match (generalizing := false) Ts with | [T] => tyB c sc T z | _ => false) = true → EOk X g p M k c.N sc (.isi b Ts) (.Call (.Name "isinstance" q) [y, z] [] pos) := fun h9 => by
              cases Ts with
              | nil => cases h9
              | cons T r =>
                cases r with
                | cons _ _ => cases h9
                | nil => exact ok_isi mk (gloB_ok h1) (noStar_of h6) (tyB_ok co mk h9) (ih _ _ h7)
            cases z with
            | Tuple zs j p2 =>
              have h9 : (decide (Ts ≠ []) && decide (Ts.length ≤ 1000) && tysB c sc Ts zs) = true := h8
              simp only [Bool.and_eq_true, decide_eq_true_eq] at h9
              obtain ⟨T, r, rfl⟩ := ne_cons h9.1.1
              exact ok_isiT mk (gloB_ok h1) (noStar_of h6) (tysB_ok co mk h9.2) (by have := h9.1.2; simp at this; omega) (ih _ _ h7)
            | _ => exact one h8
    | _ => exact absurd (Bool.and_eq_true_iff.mp (show (gloB sc m && okN m && false) = true from h)).2 (by decide)
  | cons k0 kr =>
    cases a with
    | callk fn iso pm as bs =>
      have h' : (gloB sc m && okN m && (decide (c.nm fn = some m) && ck c n sc (.es as es) && ck c n sc (.ks bs (k0 :: kr)) && (match (generalizing := false) kwN (k0 :: kr) with | some ns => c.kws.contains (fn, as.length, ns, pm) | none => false))) = true := h
      simp only [Bool.and_eq_true, decide_eq_true_eq] at h'
      obtain ⟨⟨h1, h2⟩, ⟨⟨h3, h4⟩, h5⟩, h6⟩ := h'
      obtain ⟨q1, q2, q3⟩ := ih _ _ h4
      obtain ⟨r1, r2⟩ := ih _ _ h5
      split at h6
      · rename_i ns hns
        have kb := kws_mem co h6
        cases as with
        | nil =>
          cases es with
          | cons _ _ => simp at q3
          | nil => exact ok_callk0 mk (co.nm fn m h3) (gloB_ok h1) (okN_ok h2).1 (kws_ok hns) (by rw [kwN_len hns]; exact r2) kb r1
        | cons a0 ar =>
          cases es with
          | nil => simp at q3
          | cons e er => exact ok_callk mk (co.nm fn m h3) (gloB_ok h1) (okN_ok h2).1 (kws_ok hns) (by rw [kwN_len hns]; exact r2) (q2 e List.mem_cons_self) (noStars_of fun y hy => q2 y (List.mem_cons_of_mem _ hy)) kb q1 r1
      · cases h6
    | newk cl pm as bs =>
      have h' : (gloB sc m && okN m && (decide (c.cn cl = some m) && (match (generalizing := false) as with | [] => (match (generalizing := false) es with | [] => true | _ => false) | _ => false) && ck c n sc (.ks bs (k0 :: kr)) && (match (generalizing := false) c.ini cl with | some fn => (match (generalizing := false) kwN (k0 :: kr) with | some ns => c.kws.contains (fn, 1, ns, pm) | none => false) | none => false))) = true := h
      simp only [Bool.and_eq_true, decide_eq_true_eq] at h'
      obtain ⟨⟨h1, h2⟩, ⟨⟨h3, h4⟩, h5⟩, h6⟩ := h'
      obtain ⟨r1, r2⟩ := ih _ _ h5
      cases as with
      | cons _ _ => cases h4
      | nil =>
        cases es with
        | cons _ _ => cases h4
        | nil =>
          split at h6
          · rename_i fn hfn
            split at h6
            · rename_i ns hns
              obtain ⟨C, hC, rfl⟩ := co.ini cl fn hfn
              rw [← ht] at hC
              have kb := kws_mem co h6
              exact ok_newk0 mk hC (co.cn cl m h3) (gloB_ok h1) (okN_ok h2).1 (kws_ok hns) (by rw [kwN_len hns]; exact r2) kb r1
            · cases h6
          · cases h6
    | _ => exact absurd (Bool.and_eq_true_iff.mp (show (gloB sc m && okN m && false) = true from h)).2 (by decide)
end
end G

/-! Part Y: the checker is right. -/
namespace G
open PySem L2 PySem.SeqAt
section
variable {X : Pc} {g : Gi} {p : Pg} {M : Mch} {k : Nat} {c : Ck} {sc : Scope} {n : Nat}
theorem lc_cond {cd : Option E} {ifs : List Expr} {sc2 : Scope} (ih : IH X g p M k c n) (h : (match (generalizing := false) cd with
            | none => (match (generalizing := false) ifs with | [] => true | _ => false)
            | some d => (match (generalizing := false) ifs with | [y] => ck c n sc2 (.t d y) | _ => false)) = true) : match (generalizing := false) cd with
    | none => ifs = []
    | some y => ∃ ec, ifs = [ec] ∧ TOk X g p M k c.N sc2 y ec := by
  cases cd with
  | none => cases ifs with
    | nil => rfl
    | cons _ _ => cases h
  | some d => cases ifs with
    | nil => cases h
    | cons y r => cases r with
      | nil => exact ⟨y, rfl, ih _ _ h⟩
      | cons _ _ => cases h
theorem range_ok {it : Expr} {m : E} (ih : IH X g p M k c n) (h : (match (generalizing := false) it with
            | .Call f es ks _ => (match (generalizing := false) f with | .Name r _ => decide (r = ("range" : Str)) | _ => false) && (match (generalizing := false) ks with | [] => true | _ => false) && ck c n sc (.es [m] es)
            | _ => false) = true) : ∃ p1 en p2, it = .Call (.Name "range" p1) [en] [] p2 ∧ NoStar en ∧ AOk X g p M k c.N sc [m] [en] := by
  cases it with
  | Call f es ks pos =>
    obtain ⟨h12, h3⟩ := Bool.and_eq_true_iff.mp h
    obtain ⟨h1, h2⟩ := Bool.and_eq_true_iff.mp h12
    obtain ⟨q1, q2, q3⟩ := ih _ _ h3
    cases ks with
    | cons _ _ => cases h2
    | nil =>
      cases es with
      | nil => simp at q3
      | cons e er =>
        cases er with
        | cons _ _ => simp at q3
        | nil =>
          cases f with
          | Name r p1 =>
            have e1 : r = "range" := of_decide_eq_true h1
            subst e1
            exact ⟨p1, e, pos, rfl, q2 e List.mem_cons_self, q1⟩
          | _ => cases h1
  | _ => cases h
theorem ck_e {a : E} {x : Expr} {tb : Tb} (co : CkOk X p tb c) (ht : M.tb = tb) (mk : Mok X g p M k) (ih : IH X g p M k c n) (h : ck c (n + 1) sc (.e a x) = true) : EOk X g p M k c.N sc a x := by
  cases x with
  | Name m pos =>
    cases a with
    | v i =>
      have h' : (decide (c.N[i]? = some m) && visB sc m && okN m) = true := h
      simp only [Bool.and_eq_true, decide_eq_true_eq] at h'
      obtain ⟨⟨h1, h2⟩, h3⟩ := h'
      exact ok_v h1 (visB_ok h2) (okN_ok h3).1 (okN_ok h3).2
    | _ => exact absurd (show false = true from h) (by decide)
  | Constant cst j pos =>
    cases a with
    | k d => exact ok_k (kB_ok (show kB d cst = true from h))
    | _ => exact absurd (show false = true from h) (by decide)
  | BinOp l op r pos =>
    cases a with
    | bin o p q =>
      have h' : (bopB o op && ck c n sc (.e p l) && ck c n sc (.e q r)) = true := h
      simp only [Bool.and_eq_true] at h'
      obtain ⟨⟨h1, h2⟩, h3⟩ := h'
      rw [bopB_ok h1]
      exact ok_bin (ih _ _ h2) (ih _ _ h3)
    | _ => exact absurd (show false = true from h) (by decide)
  | UnaryOp op y pos =>
    cases a with
    | neg b => cases op with
      | USub => exact ok_neg (ih _ _ (show ck c n sc (.e b y) = true from h))
      | _ => exact absurd (show false = true from h) (by decide)
    | not b => cases op with
      | Not => exact ok_not (ih _ _ (show ck c n sc (.e b y) = true from h))
      | _ => exact absurd (show false = true from h) (by decide)
    | _ => exact absurd (show false = true from h) (by decide)
  | BoolOp op ys pos =>
    have z := ih _ _ (show ck c n sc (.l (opB op) a ys) = true from h) pos
    rw [opA_opB] at z
    exact z
  | IfExp t y z pos =>
    cases a with
    | ife b p q =>
      have h' : (ck c n sc (.t b t) && ck c n sc (.e p y) && ck c n sc (.e q z)) = true := h
      simp only [Bool.and_eq_true] at h'
      exact ok_ife (ih _ _ h'.1.1) (ih _ _ h'.1.2) (ih _ _ h'.2)
    | _ => exact absurd (show false = true from h) (by decide)
  | Compare l ops rs pos =>
    cases ops with
    | nil => exact absurd (show false = true from h) (by decide)
    | cons o r1 =>
      cases r1 with
      | cons _ _ => exact absurd (show false = true from h) (by decide)
      | nil =>
        cases rs with
        | nil => exact absurd (show false = true from h) (by decide)
        | cons r r2 =>
          cases r2 with
          | cons _ _ => exact absurd (show false = true from h) (by decide)
          | nil =>
            cases a with
            | cmp op p q =>
              have h' : (copB op o && ck c n sc (.e p l) && ck c n sc (.e q r)) = true := h
              simp only [Bool.and_eq_true, copB, decide_eq_true_eq] at h'
              obtain ⟨⟨rfl, h2⟩, h3⟩ := h'
              exact ok_cmp (ih _ _ h2) (ih _ _ h3)
            | eqo neg p q =>
              have h' : (decide (eqoOp neg = o) && ck c n sc (.e p l) && ck c n sc (.e q r)) = true := h
              simp only [Bool.and_eq_true, decide_eq_true_eq] at h'
              obtain ⟨⟨rfl, h2⟩, h3⟩ := h'
              exact ok_eqo mk (ih _ _ h2) (ih _ _ h3)
            | _ => exact absurd (show false = true from h) (by decide)
  | Tuple es j pos =>
    cases a with
    | tup as => exact ok_tup (ih _ _ (show ck c n sc (.es as es) = true from h)).1
    | _ => exact absurd (show false = true from h) (by decide)
  | List es pos =>
    cases a with
    | lst own as => exact ok_lst (ih _ _ (show ck c n sc (.es as es) = true from h)).1
    | _ => exact absurd (show false = true from h) (by decide)
  | Dict ds es pos =>
    cases ds with
    | cons _ _ => exact absurd (show false = true from h) (by decide)
    | nil => cases es with
      | cons _ _ => exact absurd (show false = true from h) (by decide)
      | nil => cases a with
        | k d => cases d with
          | dic k1 k2 => cases k1 with
            | cons _ _ => exact absurd (show false = true from h) (by decide)
            | nil => cases k2 with
              | cons _ _ => exact absurd (show false = true from h) (by decide)
              | nil => exact ok_emp
          | _ => exact absurd (show false = true from h) (by decide)
        | _ => exact absurd (show false = true from h) (by decide)
  | Subscript y i pos =>
    cases a with
    | ix p q =>
      have h' : (noSlB i && ck c n sc (.e p y) && ck c n sc (.e q i)) = true := h
      simp only [Bool.and_eq_true] at h'
      exact ok_ix (plainIx_of h'.1.1) (ih _ _ h'.1.2) (ih _ _ h'.2)
    | slu p q =>
      cases i with
      | Slice lo up stp p2 =>
        cases lo with
        | some _ => exact absurd (show false = true from h) (by decide)
        | none => cases stp with
          | some _ => exact absurd (show false = true from h) (by decide)
          | none => cases up with
            | none => exact absurd (show false = true from h) (by decide)
            | some u =>
              have h' : (ck c n sc (.e p y) && ck c n sc (.e q u)) = true := h
              simp only [Bool.and_eq_true] at h'
              exact ok_slu (ih _ _ h'.1) (ih _ _ h'.2)
      | _ => exact absurd (show false = true from h) (by decide)
    | _ => exact absurd (show false = true from h) (by decide)
  | Attribute y f pos =>
    cases a with
    | fld b f' =>
      have h' : (decide (f' = f) && plB y && ck c n sc (.e b y)) = true := h
      simp only [Bool.and_eq_true, decide_eq_true_eq] at h'
      obtain ⟨⟨rfl, h2⟩, h3⟩ := h'
      exact ok_fld (plainB_of h2) (ih _ _ h3)
    | _ => exact absurd (show false = true from h) (by decide)
  | ListComp elt gens scope pos =>
    cases gens with
    | nil => exact absurd (show false = true from h) (by decide)
    | cons gen gr =>
      cases gr with
      | cons _ _ => exact absurd (show false = true from h) (by decide)
      | nil =>
        obtain ⟨tg, iter, ifs, asy⟩ := gen
        cases a with
        | lc it t cd e w =>
          have h' : (decide (asy = 0) && (lcB c sc scope t tg w && ck c n sc (.e it iter) && (match (generalizing := false) iter with | .Set .. => false | _ => true) && ck c n (relS scope sc) (.e e elt) && (match (generalizing := false) cd with
            | none => (match (generalizing := false) ifs with | [] => true | _ => false)
            | some d => (match (generalizing := false) ifs with | [y] => ck c n (relS scope sc) (.t d y) | _ => false)))) = true := h
          simp only [Bool.and_eq_true, decide_eq_true_eq] at h'
          obtain ⟨rfl, ⟨⟨⟨h1, h2⟩, h3⟩, h4⟩, h5⟩ := h'
          obtain ⟨ok, ew⟩ := lcB_ok (X := X) (g := g) (p := p) (M := M) (k := k) h1 (lc_cond ih h5) (ih _ _ h4)
          have z := ok_lc (pos := pos) (ih _ _ h2) ok (notSet_ok h3)
          rw [ew] at z
          exact z
        | lcr m t cd e w =>
          have h' : (decide (asy = 0) && (lcB c sc scope t tg w && gloB sc "range" && (match (generalizing := false) iter with
            | .Call f es ks _ => (match (generalizing := false) f with | .Name r _ => decide (r = ("range" : Str)) | _ => false) && (match (generalizing := false) ks with | [] => true | _ => false) && ck c n sc (.es [m] es)
            | _ => false) && ck c n (relS scope sc) (.e e elt) && (match (generalizing := false) cd with
            | none => (match (generalizing := false) ifs with | [] => true | _ => false)
            | some d => (match (generalizing := false) ifs with | [y] => ck c n (relS scope sc) (.t d y) | _ => false)))) = true := h
          simp only [Bool.and_eq_true, decide_eq_true_eq] at h'
          obtain ⟨rfl, ⟨⟨⟨h1, h2⟩, h3⟩, h4⟩, h5⟩ := h'
          obtain ⟨p1, en, p2, rfl, ns, ha⟩ := range_ok ih h3
          obtain ⟨ok, ew⟩ := lcB_ok (X := X) (g := g) (p := p) (M := M) (k := k) h1 (lc_cond ih h5) (ih _ _ h4)
          have z := ok_lcr (p1 := p1) (p2 := p2) (pos := pos) mk (gloB_ok h2) ns ha ok
          rw [ew] at z
          exact z
        | _ => exact absurd (Bool.and_eq_true_iff.mp (show (decide (asy = 0) && false) = true from h)).2 (by decide)
  | Call f es ks pos =>
    cases f with
    | Name m q => exact ck_call co ht mk ih h
    | Attribute o m p4 =>
      cases a with
      | tnl b =>
        have h' : (decide (m = ("lower" : Str)) && (p4.endLine == pos.line) && gloB sc "type" && (match (generalizing := false) es with | [] => true | _ => false) && (match (generalizing := false) ks with | [] => true | _ => false) && (match (generalizing := false) o with
            | .Attribute o2 m2 _ => decide (m2 = ("__name__" : Str)) && (match (generalizing := false) o2 with
              | .Call f3 es3 ks3 _ => (match (generalizing := false) f3 with | .Name r _ => decide (r = ("type" : Str)) | _ => false) && (match (generalizing := false) ks3 with | [] => true | _ => false) && (match (generalizing := false) es3 with | [y] => noStarB y && ck c n sc (.e b y) | _ => false)
              | _ => false)
            | _ => false)) = true := h
        simp only [Bool.and_eq_true, decide_eq_true_eq] at h'
        obtain ⟨⟨⟨⟨⟨rfl, h2⟩, h3⟩, h4⟩, h5⟩, h6⟩ := h'
        cases es with
        | cons _ _ => cases h4
        | nil => cases ks with
          | cons _ _ => cases h5
          | nil => cases o with
            | Attribute o2 m2 p3 =>
              obtain ⟨h7, h8⟩ := Bool.and_eq_true_iff.mp h6
              have e7 : m2 = "__name__" := of_decide_eq_true h7
              subst e7
              cases o2 with
              | Call f3 es3 ks3 p2 =>
                obtain ⟨h910, h11⟩ := Bool.and_eq_true_iff.mp h8
                obtain ⟨h9, h10⟩ := Bool.and_eq_true_iff.mp h910
                cases ks3 with
                | cons _ _ => cases h10
                | nil => cases es3 with
                  | nil => cases h11
                  | cons y r3 => cases r3 with
                    | cons _ _ => cases h11
                    | nil => cases f3 with
                      | Name r p1 =>
                        have e9 : r = "type" := of_decide_eq_true h9
                        subst e9
                        obtain ⟨h12, h13⟩ := Bool.and_eq_true_iff.mp h11
                        exact ok_tnl mk (gloB_ok h3) (noStar_of h12) h2 (ih _ _ h13)
                      | _ => cases h9
              | _ => cases h8
            | _ => cases h6
      | _ => exact absurd (show false = true from h) (by decide)
    | _ => exact absurd (show false = true from h) (by decide)
  | _ => exact absurd (show false = true from h) (by decide)
theorem ck_tg {t : TgS} {x : Expr} (mk : Mok X g p M k) (ih : IH X g p M k c n) (h : ck c (n + 1) sc (.tg t x) = true) : TSOk X g p M k c.N sc t x := by
  cases x with
  | Name m pos =>
    cases t with
    | nm i =>
      have h' : (decide (c.N[i]? = some m) && locB sc m) = true := h
      simp only [Bool.and_eq_true, decide_eq_true_eq] at h'
      exact ts_name h'.1 (locB_ok h'.2)
    | _ => exact absurd (show false = true from h) (by decide)
  | Attribute y f pos =>
    cases t with
    | fld o f' =>
      have h' : (decide (f' = f) && ck c n sc (.e o y)) = true := h
      simp only [Bool.and_eq_true, decide_eq_true_eq] at h'
      obtain ⟨rfl, h2⟩ := h'
      exact ts_fld mk (ih _ _ h2)
    | _ => exact absurd (show false = true from h) (by decide)
  | Subscript y i pos =>
    cases t with
    | sub o q =>
      have h' : (noSlB i && ck c n sc (.e o y) && ck c n sc (.e q i)) = true := h
      simp only [Bool.and_eq_true] at h'
      refine ts_sub (fun x v => ?_) (ih _ _ h'.1.2) (ih _ _ h'.2)
      have h1 := h'.1.1
      cases i with
      | Slice _ _ _ _ => cases h1
      | _ => rfl
    | _ => exact absurd (show false = true from h) (by decide)
  | Tuple es j pos =>
    cases t with
    | tup ts =>
      obtain ⟨q1, q2, q3⟩ := ih _ _ (show ck c n sc (.tgs ts es) = true from h)
      have z : ∀ {ts : List TgS} {es : List Expr}, (∀ x ∈ es, NoStar x) → ts.length = es.length → ∀ env, (assignEach es env).length = ts.length ∧ (assignEach es env).findIdx? (·.1) = none := by
        intro ts es
        induction es generalizing ts with
        | nil => intro _ hl env; cases ts with
          | nil => exact ⟨rfl, rfl⟩
          | cons _ _ => cases hl
        | cons x r ih2 =>
          intro hs hl env
          cases ts with
          | nil => cases hl
          | cons t tr =>
            have hb : noStarB x = true := by
              cases x with
              | Starred v q =>
                have := hs _ List.mem_cons_self [] env
                cases this
              | _ => rfl
            rw [assignEach_cons (.inr hb) hb]
            obtain ⟨a, b⟩ := ih2 (ts := tr) (fun y hy => hs y (List.mem_cons_of_mem _ hy)) (by simpa using hl) env
            refine ⟨by simp [a], ?_⟩
            simp only [List.findIdx?_cons, b]
            rfl
      exact ts_tup q1 (fun env => (z q2 q3 env).1) fun env => (z q2 q3 env).2
    | _ => exact absurd (show false = true from h) (by decide)
  | _ => exact absurd (show false = true from h) (by decide)
theorem ck_tgs {ts : List TgS} {xs : List Expr} (ih : IH X g p M k c n) (h : ck c (n + 1) sc (.tgs ts xs) = true) : JOk X g p M k c.N sc (.tgs ts xs) := by
  cases ts with
  | nil => cases xs with
    | nil => exact ⟨tss_nil, (fun _ z => absurd z List.not_mem_nil), rfl⟩
    | cons _ _ => exact absurd (show false = true from h) (by decide)
  | cons t ts => cases xs with
    | nil => exact absurd (show false = true from h) (by decide)
    | cons x r =>
      have h' : (noStarB x && ck c n sc (.tg t x) && ck c n sc (.tgs ts r)) = true := h
      simp only [Bool.and_eq_true] at h'
      obtain ⟨⟨h1, h2⟩, h3⟩ := h'
      obtain ⟨q1, q2, q3⟩ := ih _ _ h3
      refine ⟨tss_cons (ih _ _ h2) q1 fun env => by rw [assignEach_cons (.inr h1) h1]; rfl, fun y hy => ?_, by simp [q3]⟩
      rcases List.mem_cons.mp hy with e | e
      · rw [e]; exact noStar_of h1
      · exact q2 y e
theorem ck_sts {s : List S} {xs : List Stmt} (ih : IH X g p M k c n) (h : ck c (n + 1) sc (.sts s xs) = true) : SsOk X g p M k c.N sc s xs := by
  cases s with
  | nil => cases xs with
    | nil => exact ss_nil
    | cons _ _ => exact absurd (show false = true from h) (by decide)
  | cons a r => cases xs with
    | nil => exact absurd (show false = true from h) (by decide)
    | cons x xr =>
      have h' : (ck c n sc (.st a x) && ck c n sc (.sts r xr)) = true := h
      simp only [Bool.and_eq_true] at h'
      exact ss_cons (ih _ _ h'.1) (ih _ _ h'.2)
theorem kfB_ok (h : kfB sc = true) : sc.kind = .function := by
  unfold kfB at h
  split at h
  · rename_i e; exact e
  · cases h
theorem lcl_eq (o : Option NameKind) : (o == some NameKind.local) = (match o with | some .local => true | _ => false) := by
  cases o with
  | none => rfl
  | some k => cases k <;> rfl
theorem swap_eq {elt : Expr} {gens : List Comprehension} {scope : Scope} {vp p1 : Pos} {m : Str} {l : Nat} {env : Env} (hk : sc.kind = .function) (he : env.scope = sc) : swapsWith (.ListComp elt gens scope vp) (some (.Name m p1)) l env = pure (swB sc scope m p1 vp) := by
  have hb : env.blockKind = .function := by unfold Env.blockKind; rw [he, hk]; rfl
  have hl : (env.kindOf m == some .local) = lclB sc m := by
    rw [show env.kindOf m = env.scope.names.lookup m from rfl, he, lcl_eq]
    rfl
  unfold swapsWith swB
  simp only [hb, hl, Expr.pos]
  rfl
theorem pair_try {y1 y2 : Str} {q1 q2 p3 p4 : Pos} {u1 u2 : Expr} {kt k2} {env : Env} (hb : env.blockKind = .function) (k1 : env.kindOf y1 = some .local) (k2' : env.kindOf y2 = some .local) (h3 : (q2.line == q1.line) = true)
    (b1 : noStarB u1 = true) (b2 : noStarB u2 = true) (hlen : ([y1, y2] : List Str).eraseDups.length = 2)
    (h5 : [u1, u2].all (foldedForSure 8) = false) (h6 : [u1, u2].all (constantsAlone 8) = false) :
    swappedStores [.Tuple [.Name y1 q1, .Name y2 q2] kt p3] (.Tuple [u1, u2] k2 p4) env = pure (some [y1, y2]) := by
  have e : (q2.line == q1.line) = true := h3
  have c1 : (some NameKind.local == some NameKind.local) = true := rfl
  have c2 : (q1.line == q1.line) = true := beq_self_eq_true _
  unfold swappedStores
  dsimp only
  refine (if_neg (by rw [hb]; exact fun h => absurd (show false = true from h) (by decide))).trans ?_
  refine (if_neg ?_).trans ?_
  · rw [List.any_cons, List.any_cons]
    cases u1 with
    | Starred _ _ => cases b1
    | _ => cases u2 with
      | Starred _ _ => cases b2
      | _ => exact fun h => absurd (show false = true from h) (by decide)
  simp only [List.filterMap_cons, List.filterMap_nil, k1, k2', List.head?_cons, Option.map_some, Option.getD_some, Expr.pos, e, c1, c2, Bool.and_self, if_true]
  refine (if_neg (by rw [hlen]; exact fun h => absurd (show false = true from h) (by decide))).trans ?_
  refine (if_neg (by rw [h5]; decide)).trans ?_
  refine (if_neg (by rw [h6]; decide)).trans ?_
  rfl
theorem pair_eq {y1 y2 : Str} {q1 q2 p3 p4 : Pos} {u1 u2 : Expr} {kt k2} {env : Env} (hk : sc.kind = .function) (he : env.scope = sc) (h1 : sc.names.lookup y1 = some .local) (h2 : sc.names.lookup y2 = some .local) (h3 : (q2.line == q1.line) = true) (h4 : (y1 == y2) = false)
    (h5 : [u1, u2].all (foldedForSure 8) = false) (h6 : [u1, u2].all (constantsAlone 8) = false) (b1 : noStarB u1 = true) (b2 : noStarB u2 = true) :
    swappedStores [.Tuple [.Name y1 q1, .Name y2 q2] kt p3] (.Tuple [u1, u2] k2 p4) env = pure (some [y1, y2]) := by
  have hb : env.blockKind = .function := by unfold Env.blockKind; rw [he, hk]; rfl
  have k1 : env.kindOf y1 = some .local := by rw [show env.kindOf y1 = env.scope.names.lookup y1 from rfl, he]; exact h1
  have k2 : env.kindOf y2 = some .local := by rw [show env.kindOf y2 = env.scope.names.lookup y2 from rfl, he]; exact h2
  have hlen : ([y1, y2] : List Str).eraseDups.length = 2 := by
    have : (y2 == y1) = false := by
      have z := beq_eq_false_iff_ne.mp h4
      exact beq_eq_false_iff_ne.mpr fun e => z e.symm
    simp [List.eraseDups, List.eraseDupsBy, List.eraseDupsBy.loop, this, h4]
  exact pair_try hb k1 k2 h3 b1 b2 hlen h5 h6
theorem noStar_b {x : Expr} (h : NoStar x) : noStarB x = true := by
  cases x with
  | Starred v q =>
    have := h [] { scope := default, locals := 0, globals := 0, cells := [] }
    cases this
  | _ => rfl
theorem ck_lc {a : E} {elt : Expr} {gens : List Comprehension} {scope : Scope} {vp p1 pos : Pos} {i : Nat} {m : Str} (mk : Mok X g p M k) (ih : IH X g p M k c n) (hN : c.N[i]? = some m) (hl : sc.names.lookup m = some .local)
    (hs : ∀ env : Env, env.scope = sc → swapsWith (.ListComp elt gens scope vp) (some (.Name m p1)) pos.line env = pure true) (h : ck c (n + 1) sc (.e a (.ListComp elt gens scope vp)) = true) : SOk X g p M k c.N sc (.set (.nm i) a) (.Assign [.Name m p1] (.ListComp elt gens scope vp) pos) := by
  cases gens with
  | nil => exact absurd (show false = true from h) (by decide)
  | cons gen gr =>
    cases gr with
    | cons _ _ => exact absurd (show false = true from h) (by decide)
    | nil =>
      obtain ⟨tg, iter, ifs, asy⟩ := gen
      cases a with
      | lc it t cd e w =>
        have h' : (decide (asy = 0) && (lcB c sc scope t tg w && ck c n sc (.e it iter) && (match (generalizing := false) iter with | .Set .. => false | _ => true) && ck c n (relS scope sc) (.e e elt) && (match (generalizing := false) cd with
          | none => (match (generalizing := false) ifs with | [] => true | _ => false)
          | some d => (match (generalizing := false) ifs with | [y] => ck c n (relS scope sc) (.t d y) | _ => false)))) = true := h
        simp only [Bool.and_eq_true, decide_eq_true_eq] at h'
        obtain ⟨rfl, ⟨⟨⟨h1, h2⟩, h3⟩, h4⟩, h5⟩ := h'
        obtain ⟨ok, ew⟩ := lcB_ok (X := X) (g := g) (p := p) (M := M) (k := k) h1 (lc_cond ih h5) (ih _ _ h4)
        have z := s_lc (spos := pos) (p1 := p1) hN hl (ih _ _ h2) ok (notSet_ok h3) hs
        rw [ew] at z
        exact z
      | lcr mm t cd e w =>
        have h' : (decide (asy = 0) && (lcB c sc scope t tg w && gloB sc "range" && (match (generalizing := false) iter with
          | .Call f es ks _ => (match (generalizing := false) f with | .Name r _ => decide (r = ("range" : Str)) | _ => false) && (match (generalizing := false) ks with | [] => true | _ => false) && ck c n sc (.es [mm] es)
          | _ => false) && ck c n (relS scope sc) (.e e elt) && (match (generalizing := false) cd with
          | none => (match (generalizing := false) ifs with | [] => true | _ => false)
          | some d => (match (generalizing := false) ifs with | [y] => ck c n (relS scope sc) (.t d y) | _ => false)))) = true := h
        simp only [Bool.and_eq_true, decide_eq_true_eq] at h'
        obtain ⟨rfl, ⟨⟨⟨h1, h2⟩, h3⟩, h4⟩, h5⟩ := h'
        obtain ⟨q1, en, q2, rfl, ns, ha⟩ := range_ok ih h3
        obtain ⟨ok, ew⟩ := lcB_ok (X := X) (g := g) (p := p) (M := M) (k := k) h1 (lc_cond ih h5) (ih _ _ h4)
        have z := s_lcr (spos := pos) (p3 := p1) mk (gloB_ok h2) hN hl ns ha ok hs
        rw [ew] at z
        exact z
      | _ => exact absurd (Bool.and_eq_true_iff.mp (show (decide (asy = 0) && false) = true from h)).2 (by decide)
theorem ck_st {s : S} {x : Stmt} (mk : Mok X g p M k) (ih : IH X g p M k c n) (ihs : ∀ m, m + 1 = n → IH X g p M k c m) (h : ck c (n + 1) sc (.st s x) = true) : SOk X g p M k c.N sc s x := by
  cases x with
  | Assign ts v pos =>
    cases ts with
    | nil => exact absurd (show false = true from h) (by decide)
    | cons t tr =>
      cases tr with
      | cons _ _ => exact absurd (show false = true from h) (by decide)
      | nil =>
        cases s with
        | set tg e =>
          have swp : compB v = false → ∀ env : Env, env.scope = sc → swapsWithSole [t] v pos.line env = pure false := fun hc env _ => notComp hc _ _ _
          have swN : (∀ m q, t ≠ .Name m q) → ∀ env : Env, env.scope = sc → swapsWithSole [t] v pos.line env = pure false := fun hn env _ => by
            show swapsWith v (some t) pos.line env = _
            unfold swapsWith
            cases v with
            | ListComp _ _ _ _ => cases t with
              | Name m q => exact absurd rfl (hn m q)
              | _ => rfl
            | SetComp _ _ _ _ => cases t with
              | Name m q => exact absurd rfl (hn m q)
              | _ => rfl
            | DictComp _ _ _ _ _ => cases t with
              | Name m q => exact absurd rfl (hn m q)
              | _ => rfl
            | _ => rfl
          cases t with
          | Name m p1 =>
            cases tg with
            | nm i =>
              have h' : (decide (c.N[i]? = some m) && locB sc m && ck c n sc (.e e v) && (match (generalizing := false) v with
                | .ListComp _ _ scope vp => kfB sc && (!swB sc scope m p1 vp || (match (generalizing := false) e with | .lc .. => true | .lcr .. => true | _ => false))
                | _ => !compB v)) = true := h
              simp only [Bool.and_eq_true, decide_eq_true_eq] at h'
              obtain ⟨⟨⟨h1, h2⟩, h3⟩, h4⟩ := h'
              have plain : compB v = false → SOk X g p M k c.N sc (.set (.nm i) e) (.Assign [.Name m p1] v pos) := fun hc => s_setn h1 (locB_ok h2) (ih _ _ h3) fun env _ => notComp hc _ _ _
              cases v with
              | ListComp elt gens scope vp =>
                obtain ⟨h5, h6⟩ := Bool.and_eq_true_iff.mp h4
                have hk := kfB_ok h5
                by_cases hsw : swB sc scope m p1 vp = true
                · have hl : sc.names.lookup m = some .local := by
                    unfold swB at hsw
                    simp only [Bool.and_eq_true] at hsw
                    exact lclB_ok hsw.1.1
                  have hs : ∀ env : Env, env.scope = sc → swapsWith (.ListComp elt gens scope vp) (some (.Name m p1)) pos.line env = pure true := fun env he => by rw [swap_eq hk he, hsw]
                  cases n with
                  | zero => cases h3
                  | succ n => exact ck_lc mk (ihs n rfl) h1 hl hs h3
                · have hs : ∀ env : Env, env.scope = sc → swapsWith (.ListComp elt gens scope vp) (some (.Name m p1)) pos.line env = pure false := fun env he => by
                    rw [swap_eq hk he]
                    simp only [Bool.not_eq_true] at hsw
                    rw [hsw]
                  exact s_setn h1 (locB_ok h2) (ih _ _ h3) hs
              | SetComp _ _ _ _ => exact absurd (show false = true from h4) (by decide)
              | DictComp _ _ _ _ _ => exact absurd (show false = true from h4) (by decide)
              | _ => exact plain rfl
            | _ => exact absurd (show false = true from h) (by decide)
          | Attribute y f p1 =>
            have h' : (ck c n sc (.tg tg (.Attribute y f p1)) && ck c n sc (.e e v)) = true := h
            simp only [Bool.and_eq_true] at h'
            exact s_set (ih _ _ h'.1) (ih _ _ h'.2) (swN fun _ _ z => nomatch z) (fun env _ => by cases v <;> rfl) fun _ => rfl
          | Subscript y f p1 =>
            have h' : (ck c n sc (.tg tg (.Subscript y f p1)) && ck c n sc (.e e v)) = true := h
            simp only [Bool.and_eq_true] at h'
            exact s_set (ih _ _ h'.1) (ih _ _ h'.2) (swN fun _ _ z => nomatch z) (fun env _ => by cases v <;> rfl) fun _ => rfl
          | Tuple es j p1 =>
            have h' : (ck c n sc (.tg tg (.Tuple es j p1)) && ck c n sc (.e e v) && (match (generalizing := false) v with | .Tuple .. => false | _ => true)) = true := h
            simp only [Bool.and_eq_true] at h'
            refine s_set (ih _ _ h'.1.1) (ih _ _ h'.1.2) (swN fun _ _ z => nomatch z) (fun env _ => ?_) fun _ => rfl
            have h2 := h'.2
            cases v with
            | Tuple _ _ _ => cases h2
            | _ => rfl
          | _ => exact absurd (show false = true from h) (by decide)
        | par i j a b =>
          cases t with
          | Tuple ts2 kt p3 =>
            obtain ⟨hkf, h⟩ := Bool.and_eq_true_iff.mp (show (kfB sc && _) = true from h)
            cases ts2 with
            | nil => cases h
            | cons y r => cases r with
              | nil => cases h
              | cons z r => cases r with
                | cons _ _ => cases h
                | nil => cases y with
                  | Name m1 q1 => cases z with
                    | Name m2 q2 => cases v with
                      | Tuple vs k2 p4 => cases vs with
                        | nil => cases h
                        | cons u1 r => cases r with
                          | nil => cases h
                          | cons u2 r => cases r with
                            | cons _ _ => cases h
                            | nil =>
                              have h' : (decide (c.N[i]? = some m1) && decide (c.N[j]? = some m2) && decide (i ≠ j) && lclB sc m1 && lclB sc m2 && (q2.line == q1.line) && !(m1 == m2) && !([u1, u2].all (foldedForSure 8)) && !([u1, u2].all (constantsAlone 8)) && ck c n sc (.es [a, b] [u1, u2])) = true := h
                              simp only [Bool.and_eq_true, decide_eq_true_eq, Bool.not_eq_true'] at h'
                              obtain ⟨⟨⟨⟨⟨⟨⟨⟨⟨e1, e2⟩, e3⟩, e4⟩, e5⟩, e6⟩, e7⟩, e8⟩, e9⟩, e10⟩ := h'
                              obtain ⟨g1, g2, _⟩ := ih _ _ e10
                              have b1 := noStar_b (g2 u1 List.mem_cons_self)
                              have b2 := noStar_b (g2 u2 (List.mem_cons_of_mem _ List.mem_cons_self))
                              exact s_par e1 e2 e3 (lclB_ok e4) (lclB_ok e5) g1 (fun env he => pair_eq (kfB_ok hkf) he (lclB_ok e4) (lclB_ok e5) e6 e7 e8 e9 b1 b2) fun env _ => rfl
                      | _ => cases h
                    | _ => cases h
                  | _ => cases h
          | _ => exact absurd (show false = true from h) (by decide)
        | _ => exact absurd (show false = true from h) (by decide)
  | Expr e pos =>
    cases s with
    | expr a =>
      have h' : (!compB e && ck c n sc (.e a e)) = true := h
      simp only [Bool.and_eq_true, Bool.not_eq_true'] at h'
      exact s_expr (ih _ _ h'.2) fun env _ => notComp h'.1 _ _ _
    | _ => exact absurd (show false = true from h) (by decide)
  | Return o pos =>
    cases o with
    | some e => cases s with
      | ret a => exact s_ret (ih _ _ (show ck c n sc (.e a e) = true from h))
      | _ => exact absurd (show false = true from h) (by decide)
    | none => cases s with
      | retN => exact s_retN
      | _ => exact absurd (show false = true from h) (by decide)
  | Pass pos =>
    cases s with
    | pass => exact s_pass
    | _ => exact absurd (show false = true from h) (by decide)
  | If t a b pos =>
    cases s with
    | ite d p q =>
      have h' : (ck c n sc (.t d t) && ck c n sc (.sts p a) && ck c n sc (.sts q b)) = true := h
      simp only [Bool.and_eq_true] at h'
      exact s_if (ih _ _ h'.1.1) (ih _ _ h'.1.2) (ih _ _ h'.2)
    | _ => exact absurd (show false = true from h) (by decide)
  | For tg it b orelse pos =>
    cases orelse with
    | cons _ _ => exact absurd (show false = true from h) (by decide)
    | nil => cases s with
      | «for» e t p =>
        have h' : (ckG c sc t tg && ck c n sc (.e e it) && (match (generalizing := false) it with | .Set .. => false | _ => true) && ck c n sc (.sts p b)) = true := h
        simp only [Bool.and_eq_true] at h'
        exact s_for (ih _ _ h'.1.1.2) (ckG_ok h'.1.1.1) (ih _ _ h'.2) (notSet_ok h'.1.2)
      | forr m t p =>
        have h' : (ckG c sc t tg && gloB sc "range" && (match (generalizing := false) it with
            | .Call f es ks _ => (match (generalizing := false) f with | .Name r _ => decide (r = ("range" : Str)) | _ => false) && (match (generalizing := false) ks with | [] => true | _ => false) && ck c n sc (.es [m] es)
            | _ => false) && ck c n sc (.sts p b)) = true := h
        simp only [Bool.and_eq_true] at h'
        obtain ⟨p1, en, p2, rfl, ns, ha⟩ := range_ok ih h'.1.2
        exact s_forr mk (gloB_ok h'.1.1.2) ns ha (ckG_ok h'.1.1.1) (ih _ _ h'.2)
      | _ => exact absurd (show false = true from h) (by decide)
  | Raise _ _ _ =>
    cases s with
    | raise => exact s_raise
    | _ => exact absurd (show false = true from h) (by decide)
  | _ => exact absurd (show false = true from h) (by decide)
/-- the checker is right -/
theorem ck_ok {tb : Tb} (co : CkOk X p tb c) (ht : M.tb = tb) (mk : Mok X g p M k) : ∀ n, IH X g p M k c n := by
  intro n
  induction n using Nat.strongRecOn with
  | ind n ih =>
    cases n with
    | zero => intro sc j h; cases h
    | succ n =>
      have ih1 := ih n (Nat.lt_succ_self n)
      intro sc j h
      cases j with
      | e a x => exact ck_e co ht mk ih1 h
      | t a x => exact ck_t mk ih1 h
      | l o a xs => exact ck_l ih1 h
      | lt o a xs => exact ck_lt ih1 h
      | es as xs => exact ck_es ih1 h
      | ks as xs => exact ck_ks ih1 h
      | st s x => exact ck_st mk ih1 (fun m hm => ih m (by omega)) h
      | sts s xs => exact ck_sts ih1 h
      | tg t x => exact ck_tg mk ih1 h
      | tgs ts xs => exact ck_tgs ih1 h
end
end G

/-! Part Z: the end of a law. -/
namespace G
open PySem PySem.Spec PyProof.Rows L2
/-- a law's call, by a promise over every base -/
theorem law_callQ {P : Program} {w : World} {K : PySem.W.Frag} {mg mb : Str → Option Value} {k : Nat} {fa a : Addr} {s : Shared} {vs : List Value} {ns : List Int}
    (KX : K.In s.heap) (hns : s.heap.Ns mainGlobals mg) (hb : s.heap.Ns builtinsNs mb) (hbb : ∀ x : Str, x ≠ "__name__" → mb x = bootBuiltins x) (hlim : s.heap.NoLimit) (hg : s.gens = #[])
    (ha : s.heap.get? a = some { cls := .type "list", data := .seq vs.toArray }) (hi : IntsAre vs ns) (hl : ns.length ≤ sizeLine) (hr : Room k callerA) (hk : K.lookup a = none)
    (F : ∀ (base : Heap) (sp : Sp) (H : Hp), K.In base → base.Ns mainGlobals mg → (∀ b, H b ≠ none → b = a) → Rd H a (.lst (ns.map V.int)) → (∃ sp, FnQ P w K mg base k fa sp ∧ sp [.ref a] H (fun v _ => v = .bl true) E0)) :
    codeAny (model P w) callerA (.call (.ref fa) ⟨[.ref a], []⟩) (fun r s' => r = .ok (.ret (.bool true)) ∧ OldK s.heap s'.heap ∧ s'.os = s.os ∧ AllBare s'.gens) s := by
  have rv := vals_ints hi
  let H : Hp := fun b => if b = a then some (.frz { cls := .type "list", data := .seq vs.toArray } (.lst (ns.map V.int))) else none
  have Ha : H a = some (.frz { cls := .type "list", data := .seq vs.toArray } (.lst (ns.map V.int))) := if_pos rfl
  have Hn : ∀ {b}, b ≠ a → H b = none := fun h => if_neg h
  have hA : ∀ b, H b ≠ none → b = a := fun b z => by
    by_cases e : b = a
    · exact e
    · exact absurd (Hn e) z
  have hok : HOk P w H s.heap := fun b u z => by
    by_cases e : b = a
    · subst e
      rw [Ha] at z
      cases z
      exact ⟨ha, by rw [List.length_map]; exact hl, vs, _, rv, ha⟩
    · rw [Hn e] at z; cases z
  have base_of : ∀ {b : Addr} {o : Obj}, s.heap.get? b = some o → b ≠ a → (hidT s.heap H).get? b = some o := fun e n => hidT_get e (Hn n)
  have noA : ∀ {b : Addr} {o : Obj} {es : Array DictEntry} {ep : Nat}, s.heap.get? b = some o → o.data = .dict es ep → b ≠ a := fun {b o es ep} e d z => by
    subst z
    rw [ha] at e; cases e
    cases (show Data.seq vs.toArray _ = Data.dict es ep from d)
  have nsK : ∀ {b : Addr} {m : Str → Option Value}, s.heap.Ns b m → (hidT s.heap H).Ns b m := fun {b m} ⟨o, es, ep, e, d, r⟩ => ⟨o, es, ep, base_of e (noA e d), d, r⟩
  have hKb : K.In (hidT s.heap H) := fun b o e => base_of (KX b o e) fun z => by
    subst z
    rw [hk] at e; cases e
  have hM : Mod K mg (hidT s.heap H) := ⟨hKb, nsK hns, ⟨mb, nsK hb, hbb⟩, let ⟨mc, h1, h2⟩ := hlim; ⟨mc, nsK h1, h2⟩⟩
  have e0 : Env0 P w K mg (hidT s.heap H) callerA [] s H := ⟨rfl, hM, fun b o e => of_hidT e, Nat.le_of_eq (hidT_size _ _), trivial, fun b hb => absurd (show b ∈ ([] : List Addr) from hb) (by simp), hok, .of_eq hg⟩
  obtain ⟨sp, FQ, hsp⟩ := F _ (fun _ _ _ _ => False) H hKb (nsK hns) hA (.inr ⟨_, Ha⟩)
  refine codeAny_mono (FQ callerA [] s H ⟨[.ref a], []⟩ [.ref a] [.ref a] _ E0 hr rfl e0 (fun _ _ _ _ => rfl) (.cons (show RelV (V.ref a) (Value.ref a) from rfl) .nil) hsp) fun r s' h => ?_
  match r, h with
  | .error e, h => exact h.elim
  | .ok (.ret u), h =>
    obtain ⟨v, H', os, bare, un, hok', r', q⟩ := h
    have q' : v = .bl true := q
    subst q'
    obtain rfl : u = Value.bool true := r'
    refine ⟨rfl, OldK.of_keep fun b o e => ?_, os, bare⟩
    by_cases z : b = a
    · subst z
      have z2 := un.frzs b _ _ Ha
      obtain ⟨e1, _⟩ := hok b _ Ha
      obtain ⟨e2, _⟩ := hok' b _ z2
      rw [e] at e1; cases e1
      exact e2
    · exact un.keep b o e (Hn z) (by intro z; exact absurd (show b ∈ ([] : List Addr) from z) (by simp)) (by simp)
end G

/-! Part HA: the head's facts for the inner language. -/
namespace G
open PySem PySem.Spec PyProof.Rows L2
/-- a def of the text: where it stands (a global, a class and its method), its name, qualified name, parameters, body, scope, captured names, defaults -/
structure Df where
  at_ : Str × Option Str
  name : Str
  qual : Str
  params : Arguments
  body : List Stmt
  scope : Scope
  cl : List Str
  dfl : List He.Dv := []
abbrev FnR : Type := Option (Str × Str × Arguments × FuncBody × Scope × Addr × List Str × Addr)
def fnR (K : PySem.W.Frag) (p : Str × Option Str) : FnR := match K.lookup (He.fAd K p) with
  | some ⟨_, _, .func fd, _⟩ => some (fd.name, fd.qualname, fd.params, fd.body, fd.scope, fd.globals, fd.closure.map (·.1), fd.builtins)
  | _ => none
def Df.val (d : Df) : FnR := some (d.name, d.qual, d.params, .stmts d.body, d.scope, mainGlobals, d.cl, builtinsNs)
def noneB : Value → Bool
  | .none => true
  | _ => false
theorem noneB_ok {v : Value} (h : noneB v = true) : v = .none := by cases v <;> first | rfl | cases h
/-- its code, its defaults, no keyword-only ones, no annotations -/
def Df.okB (K : PySem.W.Frag) (d : Df) : Bool := match K.lookup (He.fAd K d.at_) with
  | some ⟨_, _, .func fd, _⟩ => PySem.W.codeIn K fd.code d.qual && (noneB fd.kwdefaults && He.dflB K fd.defaults (d.dfl.map (He.Dv.v K)))
  | _ => false
/-- what is known of it -/
structure DfOk (K : PySem.W.Frag) (d : Df) : Prop where
  ex : ∃ (oc : Value) (od : Option Addr) (dV doc pm : Value) (an : Option Addr) (cdv ct : Value) (osl : Array (Option Value)) (cs : List Addr), cs.length = d.cl.length ∧
    K.lookup (He.fAd K d.at_) = some ⟨oc, od, .func (PySem.W.fnX d.name d.qual d.params d.body d.scope (d.cl.zip cs) dV .none doc pm an cdv ct), osl⟩ ∧ PySem.W.codeIn K cdv d.qual = true ∧ DflV K dV (d.dfl.map (He.Dv.v K))
theorem zip_map : ∀ (l : List (Str × Addr)), l = (l.map (·.1)).zip (l.map (·.2))
  | [] => rfl
  | (a, b) :: r => by simp only [List.map_cons, List.zip_cons_cons, ← zip_map r]
theorem df_ok {K : PySem.W.Frag} {d : Df} (e : fnR K d.at_ = d.val) (c : d.okB K = true) : DfOk K d := by
  unfold fnR at e
  unfold Df.okB at c
  cases q : K.lookup (He.fAd K d.at_) with
  | none => rw [q] at c; cases c
  | some o =>
    obtain ⟨oc, od, dt, osl⟩ := o
    rw [q] at c e
    cases dt with
    | func fd =>
      obtain ⟨n1, n2, n3, n4, n5, n6, n7, n8, n9, n10, n11, n12, n13, n14, n15⟩ := fd
      have e2 : (some (n1, n2, n3, n4, n5, n6, n7.map (·.1), n15) : FnR) = some (d.name, d.qual, d.params, .stmts d.body, d.scope, mainGlobals, d.cl, builtinsNs) := e
      simp only [Option.some.injEq, Prod.mk.injEq] at e2
      obtain ⟨h1, h2, h3, h4, h5, h6, h7, h8⟩ := e2
      have c3 : (PySem.W.codeIn K n13 d.qual && (noneB n9 && He.dflB K n8 (d.dfl.map (He.Dv.v K)))) = true := c
      obtain ⟨k1, k2⟩ := He.ba c3
      obtain ⟨k3, k4⟩ := He.ba k2
      have k3' := noneB_ok k3
      have k5 := He.dflB_ok k4
      subst h1 h2 h3 h4 h5 h6 h8 k3'
      refine ⟨oc, od, n8, n10, n11, n12, n13, n14, osl, n7.map (·.2), by rw [← h7]; simp, ?_, k1, k5⟩
      rw [← h7, ← zip_map n7]
      exact q
    | _ => cases c
/-! ### the Hook -/
/-- what the module's names reach, the tables of the interpreter -/
def asH (g : Addr → Option Obj) (n : Nat) : List Addr := He.asD g n ++ [cStatics, sysModules]
abbrev AlH : Type := Bool × List FnR
def obsH (B : PySem.W.Frag → Bool) (fn : List Df) (K : PySem.W.Frag) : AlH := (B K && fn.all fun d => d.okB K, fn.map fun d => fnR K d.at_)
def valH (fn : List Df) : AlH := (true, fn.map Df.val)
def SaysH (B : PySem.W.Frag → Bool) (fn : List Df) (K : PySem.W.Frag) : Prop := obsH B fn K = valH fn
def obsHG (n : Nat) (B : PySem.W.Frag → Bool) (fn : List Df) (g : Addr → Option Obj) : AlH := obsH B fn (He.frG g (asH g n))
def hookH (n : Nat) (B : PySem.W.Frag → Bool) (fn : List Df) : PySem.W.Hook where
  α := AlH
  obs := fun s => obsHG n B fn s.heap.get?
  val := fun _ => valH fn
  says := fun _ h => ∃ (K : PySem.W.Frag) (as : List Addr) (g : Addr → Option Obj), K = He.frG g as ∧ K.In h ∧ SaysH B fn K
  of := fun _ _ e => ⟨_, _, _, rfl, He.frG_in, e⟩
  keeps := fun _ _ _ ⟨K, as, g, e, hK, c⟩ k => ⟨K, as, g, e, PySem.W.Frag.In.keeps hK k, c⟩
theorem obsHG_eq {n : Nat} {B : PySem.W.Frag → Bool} {fn : List Df} {g : Addr → Option Obj} {s : Shared} (h : ∀ a, g a = s.heap.get? a) : obsHG n B fn g = (hookH n B fn).obs s := by
  have e : g = s.heap.get? := funext h
  rw [e] <;> rfl
theorem SaysH.b {B : PySem.W.Frag → Bool} {fn : List Df} {K : PySem.W.Frag} (c : SaysH B fn K) : B K = true :=
  (He.ba (show (B K && fn.all fun d => d.okB K) = true from congrArg (fun z : AlH => z.1) c)).1
theorem SaysH.def_ {B : PySem.W.Frag → Bool} {fn : List Df} {K : PySem.W.Frag} (c : SaysH B fn K) (i : Nat) {d : Df} (h : fn[i]? = some d := by rfl) : DfOk K d := by
  have c2 := (He.ba (show (B K && fn.all fun d => d.okB K) = true from congrArg (fun z : AlH => z.1) c)).2
  have e : fn.map (fun d => fnR K d.at_) = fn.map Df.val := congrArg (fun z : AlH => z.2) c
  have e2 : (fn.map fun d => fnR K d.at_)[i]? = (fn.map Df.val)[i]? := by rw [e]
  rw [List.getElem?_map, List.getElem?_map, h] at e2
  exact df_ok (Option.some.inj e2) (List.all_eq_true.mp c2 d (List.mem_of_getElem? h))
end G

namespace K98
open PySem L2 G
abbrev prog : Program := PySem.Challenge.pw_whoneedswhom_k98_papers_on_rest_keep_the
def top (i : Nat) : Stmt := prog.main.body.getD i (.Pass ⟨0, 0, 0, 0⟩)
def inC (i j : Nat) : Stmt := match top i with
  | .ClassDef _ _ _ body _ _ _ _ _ _ _ => body.getD j (.Pass ⟨0, 0, 0, 0⟩)
  | s => s
/-- kept -/
def b0 : List S := [.ite (.isi (.v 0) [.ty "list", .ty "tuple"]) [.ret (.bi .tuple [(.lc (.v 0) (.nm 1) none (.call 0 false [(.v 1)]) [1])])] [], .ret (.v 0)]
def N0 : List Str := ["value", "one"]
def f0 : Fn := ⟨2, 1, false, b0⟩
/-- Paper.__init__ -/
def b1 : List S := [.set (.fld (.v 0) "word") (.tnl (.v 0)), .set (.fld (.v 0) "parts") (.call 0 false [(.v 1)])]
def N1 : List Str := ["self", "parts"]
def f1 : Fn := ⟨2, 2, true, b1⟩
/-- Paper.__eq__ -/
def b2 : List S := [.ite (.or (.not (.isi (.v 1) [.cls "Paper"])) (.cmp .ne (.fld (.v 0) "word") (.fld (.v 1) "word"))) [.ret (.k (.bl false))] [], .ret (.bi .bool [(.cmp .eq (.fld (.v 0) "parts") (.fld (.v 1) "parts"))])]
def N2 : List Str := ["self", "other"]
def f2 : Fn := ⟨2, 2, false, b2⟩
/-- Paper.__bool__ -/
def b3 : List S := [.ret (.k (.bl true))]
def N3 : List Str := ["self"]
def f3 : Fn := ⟨1, 1, false, b3⟩
/-- Denial.__bool__ -/
def b4 : List S := [.ret (.k (.bl false))]
def N4 : List Str := ["self"]
def f4 : Fn := ⟨1, 1, false, b4⟩
/-- RestsHere.__init__ -/
def b5 : List S := [.expr (.sup "RestsHere" 1 [(.v 1)]), .set (.fld (.v 0) "settings") (.ix (.fld (.v 0) "parts") (.k (.int 0)))]
def N5 : List Str := ["self", "settings", "__class__"]
def f5 : Fn := ⟨3, 2, false, b5⟩
/-- RestlessHere.__init__ -/
def b6 : List S := [.expr (.sup "RestlessHere" 1 [(.v 1), (.v 2)]), .set (.tup [(.fld (.v 0) "rows"), (.fld (.v 0) "rankings")]) (.fld (.v 0) "parts")]
def N6 : List Str := ["self", "rows", "rankings", "__class__"]
def f6 : Fn := ⟨4, 3, false, b6⟩
/-- Path.__init__ -/
def b7 : List S := [.expr (.sup "Path" 1 [(.v 1)]), .set (.fld (.v 0) "settings") (.ix (.fld (.v 0) "parts") (.k (.int 0)))]
def N7 : List Str := ["self", "settings", "__class__"]
def f7 : Fn := ⟨3, 2, false, b7⟩
/-- Never.__init__ -/
def b8 : List S := [.expr (.sup "Never" 1 [(.v 1)]), .set (.fld (.v 0) "settings") (.ix (.fld (.v 0) "parts") (.k (.int 0)))]
def N8 : List Str := ["self", "settings", "__class__"]
def f8 : Fn := ⟨3, 2, false, b8⟩
/-- Calm.__init__ -/
def b9 : List S := [.expr (.sup "Calm" 1 [(.v 1)]), .set (.fld (.v 0) "order") (.ix (.fld (.v 0) "parts") (.k (.int 0)))]
def N9 : List Str := ["self", "order", "__class__"]
def f9 : Fn := ⟨3, 2, false, b9⟩
/-- Turning.__init__ -/
def b10 : List S := [.expr (.sup "Turning" 1 [(.v 1)]), .set (.fld (.v 0) "ring") (.ix (.fld (.v 0) "parts") (.k (.int 0)))]
def N10 : List Str := ["self", "ring", "__class__"]
def f10 : Fn := ⟨3, 2, false, b10⟩
/-- _law_well -/
def b11 : List S := [.ret (.lst true [(.lc (.slu (.v 0) (.k (.int 60))) (.nm 1) none (.bi .int [(.v 1)]) [1]), (.k (.int 0)), (.k (.int 0))])]
def N11 : List Str := ["script", "cell"]
def f11 : Fn := ⟨2, 1, false, b11⟩
/-- _law_draw -/
def b12 : List S := [.ite (.cmp .lt (.v 1) (.k (.int 2))) [.ret (.k (.int 0))] [], .ite (.cmp .gt (.ix (.v 0) (.k (.int 2))) (.k (.int 0))) [.set (.nm 5) (.bi .int [(.ix (.v 0) (.k (.int 2)))]), .set (.sub (.v 0) (.k (.int 2))) (.bin .fdiv (.v 5) (.v 1)), .ret (.bin .mod (.bi .int [(.v 5)]) (.v 1))] [], .set (.nm 2) (.ix (.v 0) (.k (.int 1))), .set (.sub (.v 0) (.k (.int 1))) (.bin .add (.v 2) (.k (.int 1))), .set (.nm 3) (.bin .add (.bin .mul (.k (.int 71751)) (.v 2)) (.k (.int 9959))), .ite (.cmp .ne (.ix (.v 0) (.k (.int 0))) (.lst false [])) [.set (.nm 3) (.ix (.ix (.v 0) (.k (.int 0))) (.bin .mod (.bi .int [(.v 2)]) (.bi .len [(.ix (.v 0) (.k (.int 0)))])))] [], .ite (.and (.cmp .lt (.v 2) (.bi .len [(.ix (.v 0) (.k (.int 0)))])) (.cmp .ge (.bi .abs [(.v 3)]) (.bin .pow (.k (.int 10)) (.k (.int 18))))) [.set (.nm 5) (.bin .add (.bin .mul (.k (.int 2)) (.bin .sub (.bi .abs [(.v 3)]) (.bin .pow (.k (.int 10)) (.k (.int 18))))) (.bi .int [(.cmp .lt (.v 3) (.k (.int 0)))])), .set (.sub (.v 0) (.k (.int 2))) (.bin .fdiv (.v 5) (.v 1)), .ret (.bin .mod (.bi .int [(.v 5)]) (.v 1))] [], .set (.nm 4) (.bin .mod (.bi .int [(.bin .pow (.bin .add (.bin .add (.bin .mod (.bi .int [(.v 3)]) (.k (.int 2147483549))) (.bin .mul (.k (.int 33457)) (.v 2))) (.k (.int 9959))) (.k (.int 5)))]) (.k (.int 2147483587))), .set (.nm 4) (.bin .mod (.bi .int [(.bin .pow (.bin .add (.bin .add (.bin .mul (.v 4) (.bin .add (.bin .mul (.k (.int 2)) (.v 2)) (.k (.int 6543)))) (.bin .mul (.bin .mul (.k (.int 71751)) (.v 2)) (.v 2))) (.k (.int 33457))) (.k (.int 3)))]) (.k (.int 2147483629))), .ret (.bin .mod (.bi .int [(.bin .fdiv (.v 4) (.k (.int 64)))]) (.v 1))]
def N12 : List Str := ["well", "many", "turn", "cell", "mixed", "rest"]
def f12 : Fn := ⟨6, 2, false, b12⟩
/-- _law_one -/
def b13 : List S := [.ret (.ix (.v 1) (.call 12 false [(.v 0), (.bi .len [(.v 1)])]))]
def N13 : List Str := ["well", "some"]
def f13 : Fn := ⟨2, 2, false, b13⟩
/-- _law_value -/
def b14 : List S := [.set (.nm 2) (.call 12 false [(.v 0), (.ife (.cmp .gt (.v 1) (.k (.int 0))) (.k (.int 7)) (.k (.int 4)))]), .ite (.cmp .lt (.v 2) (.k (.int 4))) [.set (.nm 4) (.call 13 false [(.v 0), (.lst false [(.k .non), (.k (.int 5)), (.k (.str "a")), (.k (.bl true)), (.neg (.k (.int 1))), (.bin .pow (.k (.int 10)) (.k (.int 30))), (.k (.str "")), (.tup []), (.k (.dic [] []))])]), .ret (.tup [(.v 4), (.v 4)])] [], .set (.nm 3) (.lcr (.call 12 false [(.v 0), (.k (.int 3))]) (.nm 7) none (.call 14 false [(.v 0), (.bin .sub (.v 1) (.k (.int 1)))]) [7]), .par 5 6 (.lc (.v 3) (.tup [(.nm 8), (.nm 9)]) none (.v 8) [8, 9]) (.bi .tuple [(.lc (.v 3) (.tup [(.nm 8), (.nm 9)]) none (.v 9) [8, 9])]), .ret (.tup [(.ife (.cmp .gt (.v 2) (.k (.int 4))) (.v 5) (.bi .tuple [(.v 5)])), (.v 6)])]
def N14 : List Str := ["well", "deep", "way", "pairs", "found", "given", "kept_so", "turn", "one", "other"]
def f14 : Fn := ⟨10, 2, false, b14⟩
/-- law -/
def b15 : List S := [.set (.nm 1) (.call 11 false [(.v 0)]), .forr (.k (.int 4)) (.nm 2) [.par 7 8 (.call 14 false [(.v 1), (.k (.int 3))]) (.call 14 false [(.v 1), (.k (.int 3))]), .set (.nm 3) (.lst false [(.new "RestsHere" [(.ix (.v 7) (.k (.int 0)))]), (.new "Path" [(.ix (.v 7) (.k (.int 0)))]), (.new "Never" [(.ix (.v 7) (.k (.int 0)))]), (.new "Calm" [(.ix (.v 7) (.k (.int 0)))]), (.new "Turning" [(.ix (.v 7) (.k (.int 0)))]), (.new "RestlessHere" [(.ix (.v 7) (.k (.int 0))), (.ix (.v 8) (.k (.int 0)))])]), .set (.nm 4) (.lst false [(.newk "RestsHere" [0] [] [(.ix (.v 7) (.k (.int 1)))]), (.newk "Path" [0] [] [(.ix (.v 7) (.k (.int 1)))]), (.newk "Never" [0] [] [(.ix (.v 7) (.k (.int 1)))]), (.newk "Calm" [0] [] [(.ix (.v 7) (.k (.int 1)))]), (.newk "Turning" [0] [] [(.ix (.v 7) (.k (.int 1)))]), (.newk "RestlessHere" [1, 0] [] [(.ix (.v 8) (.k (.int 1))), (.ix (.v 7) (.k (.int 1)))])]), .ite (.cmp .ne (.lc (.v 3) (.nm 9) none (.fld (.v 9) "word") [9]) (.lst false [(.k (.str "restshere")), (.k (.str "path")), (.k (.str "never")), (.k (.str "calm")), (.k (.str "turning")), (.k (.str "restlesshere"))])) [.ret (.k (.bl false))] [], .ite (.or (.cmp .ne (.bi .repr [(.lc (.v 3) (.nm 9) none (.fld (.v 9) "parts") [9])]) (.bi .repr [(.bin .add (.bin .mul (.lst false [(.tup [(.ix (.v 7) (.k (.int 1)))])]) (.k (.int 5))) (.lst false [(.tup [(.ix (.v 7) (.k (.int 1))), (.ix (.v 8) (.k (.int 1)))])]))])) (.cmp .ne (.lc (.v 3) (.nm 9) none (.bo (.v 9)) [9]) (.lst false [(.k (.bl true)), (.k (.bl true)), (.k (.bl false)), (.k (.bl true)), (.k (.bl false)), (.k (.bl false))]))) [.ret (.k (.bl false))] [], .set (.nm 5) (.lst false [(.fld (.ix (.v 3) (.k (.int 0))) "settings"), (.fld (.ix (.v 3) (.k (.int 1))) "settings"), (.fld (.ix (.v 3) (.k (.int 2))) "settings"), (.fld (.ix (.v 3) (.k (.int 3))) "order"), (.fld (.ix (.v 3) (.k (.int 4))) "ring"), (.fld (.ix (.v 3) (.k (.int 5))) "rows"), (.fld (.ix (.v 3) (.k (.int 5))) "rankings")]), .ite (.or (.cmp .ne (.bi .repr [(.v 5)]) (.bi .repr [(.bin .add (.bin .mul (.lst false [(.ix (.v 7) (.k (.int 1)))]) (.k (.int 6))) (.lst false [(.ix (.v 8) (.k (.int 1)))]))])) (.cmp .ne (.lcr (.k (.int 6)) (.nm 6) (some (.or (.eqo true (.ix (.v 3) (.v 6)) (.ix (.v 4) (.v 6))) (.not (.eqo false (.ix (.v 3) (.v 6)) (.ix (.v 4) (.v 6)))))) (.v 6) [6]) (.lst false []))) [.ret (.k (.bl false))] [], .ite (.cmp .ne (.lcr (.k (.int 6)) (.nm 6) (some (.or (.not (.isi (.ix (.v 3) (.v 6)) [.cls "Paper"])) (.cmp .eq (.isi (.ix (.v 3) (.v 6)) [.cls "Denial"]) (.bo (.ix (.v 3) (.v 6)))))) (.v 6) [6]) (.lst false [])) [.ret (.k (.bl false))] [], .forr (.k (.int 6)) (.nm 6) [.ite (.or (.cmp .ne (.lc (.v 3) (.nm 10) (some (.and (.eqo false (.v 10) (.ix (.v 3) (.v 6))) (.cmp .ne (.fld (.v 10) "word") (.fld (.ix (.v 3) (.v 6)) "word")))) (.v 10) [10]) (.lst false [])) (.or (.eqo false (.ix (.v 3) (.v 6)) (.fld (.ix (.v 3) (.v 6)) "parts")) (.eqo false (.ix (.v 3) (.v 6)) (.k (.int 5))))) [.ret (.k (.bl false))] []], .ite (.or (.cmp .ne (.eqo false (.new "RestlessHere" [(.ix (.v 7) (.k (.int 0))), (.ix (.v 8) (.k (.int 0)))]) (.new "RestlessHere" [(.ix (.v 8) (.k (.int 0))), (.ix (.v 7) (.k (.int 0)))])) (.cmp .eq (.ix (.v 7) (.k (.int 1))) (.ix (.v 8) (.k (.int 1))))) (.cmp .ne (.eqo false (.new "Path" [(.ix (.v 7) (.k (.int 0)))]) (.new "Path" [(.ix (.v 8) (.k (.int 0)))])) (.cmp .eq (.ix (.v 7) (.k (.int 1))) (.ix (.v 8) (.k (.int 1)))))) [.ret (.k (.bl false))] []], .ret (.k (.bl true))]
def N15 : List Str := ["script", "well", "turn", "found", "same", "attrs", "at", "one", "two", "paper", "other"]
def f15 : Fn := ⟨11, 1, false, b15⟩
def fns : Nat → Option Fn
  | 0 => some f0
  | 1 => some f1
  | 2 => some f2
  | 3 => some f3
  | 4 => some f4
  | 5 => some f5
  | 6 => some f6
  | 7 => some f7
  | 8 => some f8
  | 9 => some f9
  | 10 => some f10
  | 11 => some f11
  | 12 => some f12
  | 13 => some f13
  | 14 => some f14
  | 15 => some f15
  | _ => none

def nmT : Nat → Option Str
  | 0 => some "kept"
  | 11 => some "_law_well"
  | 12 => some "_law_draw"
  | 13 => some "_law_one"
  | 14 => some "_law_value"
  | 15 => some "law"
  | _ => none
def clsN : List Str := ["Paper", "Denial", "RestsHere", "RestlessHere", "Path", "Never", "Calm", "Turning"]
def ckN (N : List Str) : Ck := ⟨N, nmT, fun c => if c ∈ clsN then some c else none, fun c => (match clsN.findIdx? (· == c) with | some 2 => some 5 | some 3 => some 6 | some 4 => some 7 | some 5 => some 8 | some 6 => some 9 | some 7 => some 10 | _ => none), [(5, 1, ["settings"], [0]), (6, 1, ["rankings", "rows"], [1, 0]), (7, 1, ["settings"], [0]), (8, 1, ["settings"], [0]), (9, 1, ["order"], [0]), (10, 1, ["ring"], [0])]⟩
theorem c0 : ck (ckN N0) 60 (defScope (top 1)) (.sts b0 (defBody (top 1))) = true := by decide +kernel
theorem c1 : ck (ckN N1) 60 (defScope (inC 2 0)) (.sts b1 (defBody (inC 2 0))) = true := by decide +kernel
theorem c2 : ck (ckN N2) 60 (defScope (inC 2 1)) (.sts b2 (defBody (inC 2 1))) = true := by decide +kernel
theorem c3 : ck (ckN N3) 60 (defScope (inC 2 2)) (.sts b3 (defBody (inC 2 2))) = true := by decide +kernel
theorem c4 : ck (ckN N4) 60 (defScope (inC 3 0)) (.sts b4 (defBody (inC 3 0))) = true := by decide +kernel
theorem c5 : ck (ckN N5) 60 (defScope (inC 5 0)) (.sts (b5.drop 1) ((defBody (inC 5 0)).drop 1)) = true := by decide +kernel
theorem c6 : ck (ckN N6) 60 (defScope (inC 6 0)) (.sts (b6.drop 1) ((defBody (inC 6 0)).drop 1)) = true := by decide +kernel
theorem c7 : ck (ckN N7) 60 (defScope (inC 8 0)) (.sts (b7.drop 1) ((defBody (inC 8 0)).drop 1)) = true := by decide +kernel
theorem c8 : ck (ckN N8) 60 (defScope (inC 9 0)) (.sts (b8.drop 1) ((defBody (inC 9 0)).drop 1)) = true := by decide +kernel
theorem c9 : ck (ckN N9) 60 (defScope (inC 10 0)) (.sts (b9.drop 1) ((defBody (inC 10 0)).drop 1)) = true := by decide +kernel
theorem c10 : ck (ckN N10) 60 (defScope (inC 11 0)) (.sts (b10.drop 1) ((defBody (inC 11 0)).drop 1)) = true := by decide +kernel
theorem c11 : ck (ckN N11) 60 (defScope (top 13)) (.sts b11 (defBody (top 13))) = true := by decide +kernel
theorem c12 : ck (ckN N12) 60 (defScope (top 14)) (.sts b12 (defBody (top 14))) = true := by decide +kernel
theorem c13 : ck (ckN N13) 60 (defScope (top 15)) (.sts b13 (defBody (top 15))) = true := by decide +kernel
theorem c14 : ck (ckN N14) 60 (defScope (top 16)) (.sts b14 (defBody (top 16))) = true := by decide +kernel
theorem c15 : ck (ckN N15) 60 (defScope (top 17)) (.sts b15 (defBody (top 17))) = true := by decide +kernel
end K98

namespace K98
open PySem L2 G
def atts : List Str := ["word", "parts", "settings", "rows", "rankings", "order", "ring"]
def pap : Str → Option (Nat × Str × Bool)
  | c => if c = "RestsHere" then some (5, "restshere", true) else if c = "RestlessHere" then some (6, "restlesshere", false) else if c = "Path" then some (7, "path", true) else if c = "Never" then some (8, "never", false)
    else if c = "Calm" then some (9, "calm", true) else if c = "Turning" then some (10, "turning", false) else none
def clT (c : Str) : Option Cl := (pap c).map fun q => ⟨q.1, q.2.1, atts, [("__eq__", 2), ("__bool__", if q.2.2 then 3 else 4)]⟩
def tyL : List String := ["NoneType", "bool", "int", "str", "tuple", "list", "dict"]
def isaT : Ty → Ty → Option Bool
  | .ty n, T => if n ∈ tyL then (match T with
    | .ty m => if m = "list" ∨ m = "tuple" then some (decide (n = m)) else none
    | .cls c => if c = "Paper" then some false else none) else none
  | .cls c, T => (pap c).bind fun q => match T with
    | .cls d => if d = "Paper" then some true else if d = "Denial" then some (!q.2.2) else none
    | .ty m => none
def nfT (c : Str) : Ty → Bool
  | .ty n => (pap c).isSome && (n == "tuple" || n == "int")
  | .cls d => (pap c).isSome && (pap d).isSome
def tb : Tb := ⟨clT, isaT, nfT⟩
def test (l : List Int) : Bool := match callF tb fns 60 15 [.scr (l.map .int)] [] with
  | some (.bl true, _) => true
  | _ => false
end K98

namespace K98
open PySem L2 G
theorem call_succ {k f : Nat} {ds : List D} {s : Sto} {F : Fn} (h : fns f = some F) : callF tb fns (k + 1) f ds s = (startD F ds).bind fun l => (evSs ⟨tb, callF tb fns k, callF tb fns (k - 2)⟩ F.body l s).map outD := by
  rw [callF, h]
  rfl
/-- kept, of a value with parts -/
theorem kept_leaf {k : Nat} {s : Sto} {d : D} {n : String} (ht : tyD s d = some (.ty n)) (hn : n ∈ tyL) (h1 : n ≠ "list") (h2 : n ≠ "tuple") : callF tb fns (k + 1) 0 [d] s = some (d, s) := by
  rw [call_succ (F := f0) rfl]
  have ia : anyIs tb (.ty n) [.ty "list", .ty "tuple"] = some false := by
    simp [anyIs, tb, isaT, hn, h1, h2]
  simp only [startD, f0, b0, evSs, evS, evE, ht, Option.bind_some, ia, Option.map_some, List.length_cons, List.length_nil, List.map_cons, List.map_nil, if_true, outD]
  simp [ht, ia, outD]
end K98
namespace K98
open PySem L2 G
/-- the well -/
structure Wl where
  cs : List Int
  t : Int
  r : Int
def Wl.o (w : Wl) : Sto := [O.lst [.lst (w.cs.map .int), .int w.t, .int w.r]]
structure Wl.Ok (w : Wl) (n : Int) : Prop where
  t0 : 0 ≤ w.t
  tn : w.t ≤ n
  r0 : 0 ≤ w.r
theorem deps_int : ∀ l : List Int, deps (l.map D.int) ≤ 1
  | [] => by simp [deps]
  | i :: r => by
    have := deps_int r
    simp only [List.map_cons, deps]
    have h1 : (D.int i).dep = 1 := rfl
    rw [h1]
    exact Nat.max_le.mpr ⟨Nat.le_refl _, this⟩
theorem ne_empty (l : List Int) : cmpD .ne (.lst (l.map .int)) (.lst []) = some (decide (l ≠ [])) := by
  have hd : (D.lst (l.map .int)).dep ≤ 60 := by
    show 1 + deps _ ≤ 60
    have := deps_int l
    omega
  have h1 : cmpD .ne (.lst (l.map .int)) (.lst []) = if (D.lst (l.map .int)).dep ≤ 60 ∧ (D.lst (l.map .int)).isDic = false ∧ (D.lst []).isDic = false then ((D.lst (l.map .int)).eqv (.lst [])).map (!·) else none := rfl
  rw [h1, if_pos ⟨hd, rfl, rfl⟩]
  cases l with
  | nil => simp [D.eqv, eqvs]
  | cons a r => simp [D.eqv]
theorem at_int (l : List Int) {i : Int} (h0 : 0 ≤ i) (h1 : i < l.length) : ∃ c, atD (l.map .int) i = some (.int c) := by
  refine ⟨l[i.toNat]'(by omega), ?_⟩
  unfold atD L2.atI
  have : ixN (l.map D.int).length i = some i.toNat := by
    unfold ixN
    rw [if_pos h0, if_pos (by rw [List.length_map]; exact h1)]
  rw [this]
  have hlt : i.toNat < l.length := by omega
  simp [hlt]
theorem pow_le {a : Int} {n : Nat} (h : a.natAbs < 2 ^ 64) (hn : n ≤ 1000000) : binD .pow (.int a) (.int n) = some (.int (a ^ n)) := by
  have : binD .pow (.int a) (.int n) = if (0 : Int) ≤ n ∧ (n : Int) ≤ 1000000 ∧ a.natAbs < 2 ^ 64 then some (D.int (a ^ (n : Int).toNat)) else none := rfl
  rw [this, if_pos ⟨by omega, by omega, h⟩]
  simp
theorem fdiv_ok {a b : Int} (h0 : 0 < b) (h1 : b < 1073741824) : binD .fdiv (.int a) (.int b) = some (.int (a / b)) := by
  have : binD .fdiv (.int a) (.int b) = if 0 < b ∧ b < 1073741824 then some (D.int (a / b)) else none := rfl
  rw [this, if_pos ⟨h0, h1⟩]
theorem mod_ok {a b : Int} (h0 : 0 < b) : binD .mod (.int a) (.int b) = some (.int (a % b)) := by
  have : binD .mod (.int a) (.int b) = if 0 < b then some (D.int (a % b)) else none := rfl
  rw [this, if_pos h0]
theorem mul_ok {a b : Int} (h : intB a = true ∨ intB b = true) : binD .mul (.int a) (.int b) = some (.int (a * b)) := by
  have : binD .mul (.int a) (.int b) = if intB a || intB b then some (D.int (a * b)) else none := rfl
  rw [this, if_pos (by simpa using h)]
theorem add_ok {a b : Int} : binD .add (.int a) (.int b) = some (.int (a + b)) := rfl
theorem sub_ok {a b : Int} : binD .sub (.int a) (.int b) = some (.int (a - b)) := rfl
theorem intB_le {a : Int} (h0 : -1000000000000 ≤ a) (h1 : a ≤ 1000000000000) : intB a = true := by
  unfold intB
  simp only [Bool.and_eq_true, decide_eq_true_eq]
  omega
end K98

namespace K98
open PySem L2 G
theorem it_w (w : Wl) : itemsD w.o (.loc 0) = some [.lst (w.cs.map .int), .int w.t, .int w.r] := rfl
theorem ix0 (w : Wl) : ixD w.o (.loc 0) (.int 0) = some (.lst (w.cs.map .int)) := rfl
theorem ix1 (w : Wl) : ixD w.o (.loc 0) (.int 1) = some (.int w.t) := rfl
theorem ix2 (w : Wl) : ixD w.o (.loc 0) (.int 2) = some (.int w.r) := rfl
theorem set1 (w : Wl) (x : Int) : setxD (.int 1) (.int x) w.o (.loc 0) = some ({ w with t := x } : Wl).o := rfl
theorem set2 (w : Wl) (x : Int) : setxD (.int 2) (.int x) w.o (.loc 0) = some ({ w with r := x } : Wl).o := rfl
theorem draw_lt {k : Nat} {w : Wl} {m : Int} (h : m < 2) : callF tb fns (k + 1) 12 [.loc 0, .int m] w.o = some (.int 0, w.o) := by
  rw [call_succ (F := f12) rfl]
  have h1 : cmpD .lt (.int m) (.int 2) = some true := by show some (decide (m < 2)) = _; simp [h]
  simp [startD, f12, b12, evSs, evS, evE, h1, outD]
theorem draw_rest {k : Nat} {w : Wl} {m : Int} (h : 2 ≤ m) (h2 : m < 1000) (hr : 0 < w.r) : callF tb fns (k + 1) 12 [.loc 0, .int m] w.o = some (.int (w.r % m), ({ w with r := w.r / m } : Wl).o) := by
  rw [call_succ (F := f12) rfl]
  have h1 : cmpD .lt (.int m) (.int 2) = some false := by show some (decide (m < 2)) = _; simp; omega
  have h3 : cmpD .gt (.int w.r) (.int 0) = some true := by show some (decide (0 < w.r)) = _; simp [hr]
  have h4 : binD .fdiv (.int w.r) (.int m) = some (.int (w.r / m)) := fdiv_ok (by omega) (by omega)
  have h5 : binD .mod (.int w.r) (.int m) = some (.int (w.r % m)) := mod_ok (by omega)
  have h6 : biD w.o .int [.int w.r] = some (.int w.r) := rfl
  have h7 : ∀ s, biD s .int [.int w.r] = some (.int w.r) := fun _ => rfl
  simp [startD, f12, b12, evSs, evS, evE, evEs, asgS, h1, h3, h4, h5, h7, ix2, set2, outD]
end K98
namespace K98
open PySem L2 G
theorem natAbs_lt {a : Int} (h0 : 0 ≤ a) (h1 : a < 2 ^ 63) : a.natAbs < 2 ^ 64 := by omega
theorem mix {M : Mch} {s : Sto} {t c m : Int} {x4 x5 : Option D} (t0 : 0 ≤ t) (t1 : t ≤ 100000) (m0 : 2 ≤ m) : ∃ v l', evSs M (b12.drop 7) [some (.loc 0), some (.int m), some (.int t), some (.int c), x4, x5] s = some (.ret (.int v), l', s) ∧ 0 ≤ v ∧ v < m := by
  have k1 : ∀ a : Int, binD .mod (.int a) (.int 2147483549) = some (.int (a % 2147483549)) := fun a => mod_ok (by omega)
  have k2 : binD .mul (.int 33457) (.int t) = some (.int (33457 * t)) := mul_ok (.inl (by decide))
  have k3 : binD .pow (.int (c % 2147483549 + 33457 * t + 9959)) (.int 5) = some (.int ((c % 2147483549 + 33457 * t + 9959) ^ 5)) := by
    have h1 : 0 ≤ c % 2147483549 := Int.emod_nonneg _ (by omega)
    have h2 : c % 2147483549 < 2147483549 := Int.emod_lt_of_pos _ (by omega)
    exact pow_le (n := 5) (natAbs_lt (by omega) (by omega)) (by omega)
  have k4 : ∀ a : Int, binD .mod (.int a) (.int 2147483587) = some (.int (a % 2147483587)) := fun a => mod_ok (by omega)
  generalize hx : (c % 2147483549 + 33457 * t + 9959) ^ 5 = x at k3
  have x0 : 0 ≤ x % 2147483587 := Int.emod_nonneg _ (by omega)
  have x1 : x % 2147483587 < 2147483587 := Int.emod_lt_of_pos _ (by omega)
  have k5 : binD .mul (.int 2) (.int t) = some (.int (2 * t)) := mul_ok (.inl (by decide))
  have k6 : binD .mul (.int (x % 2147483587)) (.int (2 * t + 6543)) = some (.int (x % 2147483587 * (2 * t + 6543))) := mul_ok (.inr (intB_le (by omega) (by omega)))
  have k7 : binD .mul (.int 71751) (.int t) = some (.int (71751 * t)) := mul_ok (.inl (by decide))
  have k8 : binD .mul (.int (71751 * t)) (.int t) = some (.int (71751 * t * t)) := mul_ok (.inr (intB_le (by omega) (by omega)))
  have y0 : 0 ≤ x % 2147483587 * (2 * t + 6543) := Int.mul_nonneg x0 (by omega)
  have y1 : x % 2147483587 * (2 * t + 6543) ≤ 2147483587 * 206543 := Int.mul_le_mul (by omega) (by omega) (by omega) (by omega)
  have z0 : 0 ≤ 71751 * t * t := Int.mul_nonneg (by omega) t0
  have z1 : 71751 * t * t ≤ 71751 * 100000 * 100000 := Int.mul_le_mul (by omega) t1 t0 (by omega)
  have k9 : binD .pow (.int (x % 2147483587 * (2 * t + 6543) + 71751 * t * t + 33457)) (.int 3) = some (.int ((x % 2147483587 * (2 * t + 6543) + 71751 * t * t + 33457) ^ 3)) :=
    pow_le (n := 3) (natAbs_lt (by omega) (by omega)) (by omega)
  generalize (x % 2147483587 * (2 * t + 6543) + 71751 * t * t + 33457) ^ 3 = y at k9
  have k10 : binD .mod (.int y) (.int 2147483629) = some (.int (y % 2147483629)) := mod_ok (by omega)
  have k11 : binD .fdiv (.int (y % 2147483629)) (.int 64) = some (.int (y % 2147483629 / 64)) := fdiv_ok (by omega) (by omega)
  have k12 : binD .mod (.int (y % 2147483629 / 64)) (.int m) = some (.int (y % 2147483629 / 64 % m)) := mod_ok (by omega)
  have b : ∀ (s : Sto) (a : Int), biD s .int [.int a] = some (.int a) := fun _ _ => rfl
  refine ⟨y % 2147483629 / 64 % m, [some (.loc 0), some (.int m), some (.int t), some (.int c), some (.int (y % 2147483629)), x5], ?_, Int.emod_nonneg _ (by omega), Int.emod_lt_of_pos _ (by omega)⟩
  simp only [b12, List.drop_succ_cons, List.drop_zero]
  simp [evSs, evS, evE, evEs, asgS, k1, k2, k3, k4, k5, k6, k7, k8, k9, k10, k11, k12, add_ok, b]
end K98

namespace K98
open PySem L2 G
theorem evSs_cons {M : Mch} {a : S} {r : List S} {l : Sl} {s : Sto} : evSs M (a :: r) l s = (evS M a l s).bind fun p => match p.1 with | .nx => evSs M r p.2.1 p.2.2 | .ret d => some (.ret d, p.2.1, p.2.2) := by
  rw [evSs] <;> congr 1
theorem evSs_app {M : Mch} : ∀ (a b : List S) {l : Sl} {s : Sto}, evSs M (a ++ b) l s = (evSs M a l s).bind fun p => match p.1 with | .nx => evSs M b p.2.1 p.2.2 | .ret d => some (.ret d, p.2.1, p.2.2)
  | [], b, l, s => by simp [evSs]
  | x :: a, b, l, s => by
    show evSs M (x :: (a ++ b)) l s = _
    rw [evSs_cons, evSs_cons]
    cases h : evS M x l s with
    | none => rfl
    | some p =>
      obtain ⟨o, l1, s1⟩ := p
      cases o with
      | nx => simp only [Option.bind_some]; exact evSs_app a b
      | ret d => rfl
theorem len_w (w : Wl) (s : Sto) : biD s .len [.lst (w.cs.map .int)] = some (.int w.cs.length) := by
  show (some (w.cs.map D.int)).map (fun l => D.int l.length) = _
  simp
def st6 : S := match b12.drop 6 with | a :: _ => a | [] => .pass
/-- the part after the cell is known -/
theorem tail {M : Mch} {w : Wl} {c m : Int} {x4 x5 : Option D} (t0 : 0 ≤ w.t) (t1 : w.t ≤ 100000) (m0 : 2 ≤ m) (m1 : m < 1000) {t : Int} (h0 : 0 ≤ t) (h1 : t ≤ 100000) (hr : 0 ≤ w.r) :
    ∃ (v : Int) (l' : Sl) (w' : Wl), evSs M (b12.drop 6) [some (.loc 0), some (.int m), some (.int t), some (.int c), x4, x5] w.o = some (.ret (.int v), l', w'.o) ∧ w'.cs = w.cs ∧ w'.t = w.t ∧ 0 ≤ w'.r ∧ 0 ≤ v ∧ v < m := by
  have b : ∀ (s : Sto) (a : Int), biD s .int [.int a] = some (.int a) := fun _ _ => rfl
  have bb : ∀ (s : Sto), biD s .int [.bl (decide (c < 0))] = some (.int (if c < 0 then 1 else 0)) := fun _ => by
    by_cases h : c < 0 <;> simp [biD, h]
  have ba : ∀ (s : Sto) (a : Int), biD s .abs [.int a] = some (.int (if a < 0 then -a else a)) := fun _ _ => rfl
  have p18 : binD .pow (.int 10) (.int 18) = some (.int 1000000000000000000) := by
    have z := pow_le (a := 10) (n := 18) (by decide) (by decide)
    rw [show (10 : Int) ^ 18 = 1000000000000000000 by decide] at z
    exact z
  have lt : ∀ a b : Int, cmpD .lt (.int a) (.int b) = some (decide (a < b)) := fun _ _ => rfl
  have ge : ∀ a b : Int, cmpD .ge (.int a) (.int b) = some (decide (b ≤ a)) := fun _ _ => rfl
  obtain ⟨v, l', hm, v0, v1⟩ := mix (M := M) (s := w.o) (c := c) (x4 := x4) (x5 := x5) h0 h1 m0
  have e : b12.drop 6 = st6 :: b12.drop 7 := rfl
  rw [e]
  by_cases q1 : t < (w.cs.length : Int)
  · by_cases q2 : (1000000000000000000 : Int) ≤ (if c < 0 then -c else c)
    · generalize hx : 2 * ((if c < 0 then -c else c) - 1000000000000000000) + (if c < 0 then 1 else 0) = x
      have x0 : 0 ≤ x := by
        rw [← hx]
        have : (0 : Int) ≤ (if c < 0 then 1 else 0) := by split <;> omega
        generalize (if c < 0 then -c else c) = a at q2 ⊢
        omega
      have k1 : binD .mul (.int 2) (.int ((if c < 0 then -c else c) - 1000000000000000000)) = some (.int (2 * ((if c < 0 then -c else c) - 1000000000000000000))) := mul_ok (.inl (by decide))
      have k2 : binD .fdiv (.int x) (.int m) = some (.int (x / m)) := fdiv_ok (by omega) (by omega)
      have k3 : binD .mod (.int x) (.int m) = some (.int (x % m)) := mod_ok (by omega)
      have k4 : binD .add (.int (2 * ((if c < 0 then -c else c) - 1000000000000000000))) (.int (if c < 0 then 1 else 0)) = some (.int x) := by rw [← hx]; rfl
      refine ⟨x % m, [some (.loc 0), some (.int m), some (.int t), some (.int c), x4, some (.int x)], { w with r := x / m }, ?_, rfl, rfl, Int.ediv_nonneg x0 (by omega), Int.emod_nonneg _ (by omega), Int.emod_lt_of_pos _ (by omega)⟩
      have r1 : evS M st6 [some (.loc 0), some (.int m), some (.int t), some (.int c), x4, x5] w.o = some (.ret (.int (x % m)), [some (.loc 0), some (.int m), some (.int t), some (.int c), x4, some (.int x)], ({ w with r := x / m } : Wl).o) := by
        simp only [st6, b12, List.drop_succ_cons, List.drop_zero]
        simp [evS, evSs, evE, evEs, asgS, ix0, len_w, lt, ge, q1, ba, p18, q2, sub_ok, k1, bb, k4, k2, set2, b, k3]
      show (evS M _ _ _).bind _ = _
      rw [r1]
      rfl
    · have r1 : evS M st6 [some (.loc 0), some (.int m), some (.int t), some (.int c), x4, x5] w.o = some (.nx, [some (.loc 0), some (.int m), some (.int t), some (.int c), x4, x5], w.o) := by
        simp only [st6, b12, List.drop_succ_cons, List.drop_zero]
        simp [evS, evSs, evE, evEs, asgS, ix0, len_w, lt, ge, q1, ba, p18, q2]
      refine ⟨v, l', w, ?_, rfl, rfl, hr, v0, v1⟩
      show (evS M _ _ _).bind _ = _
      rw [r1]
      exact hm
  · have r1 : evS M st6 [some (.loc 0), some (.int m), some (.int t), some (.int c), x4, x5] w.o = some (.nx, [some (.loc 0), some (.int m), some (.int t), some (.int c), x4, x5], w.o) := by
      simp only [st6, b12, List.drop_succ_cons, List.drop_zero]
      simp [evS, evSs, evE, evEs, asgS, ix0, len_w, lt, ge, q1]
    refine ⟨v, l', w, ?_, rfl, rfl, hr, v0, v1⟩
    show (evS M _ _ _).bind _ = _
    rw [r1]
    exact hm
end K98
namespace K98
open PySem L2 G
theorem draw_turn {k : Nat} {w : Wl} {m : Int} (h : 2 ≤ m) (h2 : m < 1000) (hr : w.r = 0) (t0 : 0 ≤ w.t) (t1 : w.t ≤ 99999) :
    ∃ (v : Int) (w' : Wl), callF tb fns (k + 1) 12 [.loc 0, .int m] w.o = some (.int v, w'.o) ∧ w'.cs = w.cs ∧ w'.t = w.t + 1 ∧ 0 ≤ w'.r ∧ 0 ≤ v ∧ v < m := by
  have h1 : cmpD .lt (.int m) (.int 2) = some false := by show some (decide (m < 2)) = _; simp; omega
  have h3 : cmpD .gt (.int w.r) (.int 0) = some false := by show some (decide (0 < w.r)) = _; simp; omega
  have b : ∀ (s : Sto) (a : Int), biD s .int [.int a] = some (.int a) := fun _ _ => rfl
  have k1 : binD .mul (.int 71751) (.int w.t) = some (.int (71751 * w.t)) := mul_ok (.inl (by decide))
  let w1 : Wl := { w with t := w.t + 1 }
  have s1 : setxD (.int 1) (.int (w.t + 1)) w.o (.loc 0) = some w1.o := rfl
  have i0 : ixD w1.o (.loc 0) (.int 0) = some (.lst (w.cs.map .int)) := rfl
  -- the cell
  have cell : ∃ c, evSs (⟨tb, callF tb fns k, callF tb fns (k - 2)⟩ : Mch) b12 [some (.loc 0), some (.int m), none, none, none, none] w.o = evSs (⟨tb, callF tb fns k, callF tb fns (k - 2)⟩ : Mch) (b12.drop 6) [some (.loc 0), some (.int m), some (.int w.t), some (.int c), none, none] w1.o := by
    by_cases q : w.cs = []
    · refine ⟨71751 * w.t + 9959, ?_⟩
      have n1 : cmpD .ne (.lst (w.cs.map .int)) (.lst []) = some false := by rw [ne_empty]; simp [q]
      have e : b12 = b12.take 6 ++ b12.drop 6 := rfl
      have ev : ∀ (M : Mch), evSs M (b12.take 6) [some (.loc 0), some (.int m), none, none, none, none] w.o = some (.nx, [some (.loc 0), some (.int m), some (.int w.t), some (.int (71751 * w.t + 9959)), none, none], w1.o) := fun M => by
        simp only [b12, List.take_succ_cons, List.take_zero]
        simp [evSs, evS, evE, evEs, asgS, h1, h3, ix2, ix1, add_ok, s1, k1, i0, n1]
      rw [e, evSs_app, ev]
      rfl
    · have hl : 0 < w.cs.length := by
        cases hc : w.cs with
        | nil => exact absurd hc q
        | cons _ _ => simp
      have m0 : 0 ≤ w.t % (w.cs.length : Int) := Int.emod_nonneg _ (by omega)
      have m1 : w.t % (w.cs.length : Int) < w.cs.length := Int.emod_lt_of_pos _ (by omega)
      obtain ⟨c, hc⟩ := at_int w.cs m0 m1
      refine ⟨c, ?_⟩
      have n1 : cmpD .ne (.lst (w.cs.map .int)) (.lst []) = some true := by rw [ne_empty]; simp [q]
      have k2 : binD .mod (.int w.t) (.int (w.cs.length : Int)) = some (.int (w.t % (w.cs.length : Int))) := mod_ok (by omega)
      have lw : ∀ s, biD s .len [.lst (w.cs.map .int)] = some (.int w.cs.length) := fun s => len_w w s
      have ixc : ∀ s, ixD s (.lst (w.cs.map .int)) (.int (w.t % (w.cs.length : Int))) = some (.int c) := fun s => hc
      have e : b12 = b12.take 6 ++ b12.drop 6 := rfl
      have ev : ∀ (M : Mch), evSs M (b12.take 6) [some (.loc 0), some (.int m), none, none, none, none] w.o = some (.nx, [some (.loc 0), some (.int m), some (.int w.t), some (.int c), none, none], w1.o) := fun M => by
        simp only [b12, List.take_succ_cons, List.take_zero]
        simp [evSs, evS, evE, evEs, asgS, h1, h3, ix2, ix1, add_ok, s1, k1, i0, n1, b, lw, k2, ixc]
      rw [e, evSs_app, ev]
      rfl
  obtain ⟨c, hc⟩ := cell
  obtain ⟨v, l', w', e1, e2, e3, e4, e5, e6⟩ := tail (M := ⟨tb, callF tb fns k, callF tb fns (k - 2)⟩) (w := w1) (c := c) (m := m) (x4 := none) (x5 := none) (by show 0 ≤ w.t + 1; omega) (by show w.t + 1 ≤ 100000; omega) h h2 t0 (by omega) (by show 0 ≤ w.r; omega)
  refine ⟨v, w', ?_, e2, e3, e4, e5, e6⟩
  rw [call_succ (F := f12) rfl]
  show ((evSs _ b12 [some (.loc 0), some (.int m), none, none, none, none] w.o).map outD) = _
  rw [hc, e1]
  rfl
/-- a draw -/
theorem draw_ok {k : Nat} {w : Wl} {n m : Int} (hw : w.Ok n) (hn : n ≤ 99999) (hm : m < 1000) : ∃ (v : Int) (w' : Wl), callF tb fns (k + 1) 12 [.loc 0, .int m] w.o = some (.int v, w'.o) ∧ w'.Ok (n + 1) ∧ (m < 2 → v = 0) ∧ (2 ≤ m → 0 ≤ v ∧ v < m) := by
  by_cases h : m < 2
  · exact ⟨0, w, draw_lt h, ⟨hw.t0, by have := hw.tn; omega, hw.r0⟩, fun _ => rfl, fun z => absurd z (by omega)⟩
  · by_cases hr : 0 < w.r
    · exact ⟨_, _, draw_rest (by omega) hm hr, ⟨hw.t0, by have := hw.tn; show w.t ≤ _; omega, Int.ediv_nonneg hw.r0 (by omega)⟩, fun z => absurd z h, fun _ => ⟨Int.emod_nonneg _ (by omega), Int.emod_lt_of_pos _ (by omega)⟩⟩
    · obtain ⟨v, w', e1, e2, e3, e4, e5, e6⟩ := draw_turn (k := k) (w := w) (m := m) (by omega) hm (by have := hw.r0; omega) hw.t0 (by have := hw.tn; omega)
      exact ⟨v, w', e1, ⟨by have := hw.t0; omega, by have := hw.tn; omega, e4⟩, fun z => absurd z h, fun _ => ⟨e5, e6⟩⟩
end K98

namespace K98
open PySem L2 G
def baseD : List D := [.non, .int 5, .str "a", .bl true, .int (-1), .int (10 ^ 30), .str "", .tup [], .dic [] []]
/-- pairs, item by item -/
inductive All2 (R : D → D → Prop) : List D → List D → Prop
  | nil : All2 R [] []
  | cons {a b r s} (h : R a b) (t : All2 R r s) : All2 R (a :: r) (b :: s)
/-- a drawn value and what is kept of it, n deep -/
def Vl : Nat → D → D → Prop
  | 0, x, y => x = y ∧ x ∈ baseD
  | n + 1, x, y => (x = y ∧ x ∈ baseD) ∨ ∃ l1 l2, (x = .lst l1 ∨ x = .tup l1) ∧ y = .tup l2 ∧ l1.length ≤ 2 ∧ All2 (Vl n) l1 l2
theorem Vl.base {x : D} (h : x ∈ baseD) : ∀ n, Vl n x x
  | 0 => ⟨rfl, h⟩
  | _ + 1 => .inl ⟨rfl, h⟩
theorem All2.imp {R R' : D → D → Prop} (h : ∀ a b, R a b → R' a b) : ∀ {l1 l2 : List D}, All2 R l1 l2 → All2 R' l1 l2
  | _, _, .nil => .nil
  | _, _, .cons a t => .cons (h _ _ a) (t.imp h)
theorem All2.len {R : D → D → Prop} : ∀ {l1 l2 : List D}, All2 R l1 l2 → l2.length = l1.length
  | _, _, .nil => rfl
  | _, _, .cons _ t => by simp [t.len]
theorem turns_all {f : D → Sto → Option (Option D × Sto)} {s : Sto} {R : D → D → Prop} (h : ∀ a b, R a b → f a s = some (some b, s)) : ∀ {l1 l2 : List D}, All2 R l1 l2 → turns f l1 s = some (l2, s)
  | _, _, .nil => rfl
  | _, _, .cons a t => by
    unfold turns
    rw [h _ _ a]
    simp [turns_all h t]
theorem kept_seq {k : Nat} {s : Sto} {x : D} {l1 l2 : List D} (hx : x = .lst l1 ∨ x = .tup l1) (hl : l1.length ≤ 1000) (h : All2 (fun a b => callF tb fns k 0 [a] s = some (b, s)) l1 l2) : callF tb fns (k + 1) 0 [x] s = some (.tup l2, s) := by
  rw [call_succ (F := f0) rfl]
  obtain ⟨n, it1, it2⟩ : ∃ n, tyD s x = some (.ty n) ∧ anyIs tb (.ty n) [.ty "list", .ty "tuple"] = some true := by
    rcases hx with rfl | rfl
    · exact ⟨"list", rfl, by simp [anyIs, tb, isaT, tyL]⟩
    · exact ⟨"tuple", rfl, by simp [anyIs, tb, isaT, tyL]⟩
  have sq : seqD x = some l1 := by rcases hx with rfl | rfl <;> rfl
  have tr : turns (fun d s => (asg (.nm 1) d (wipeD [some x, none] [1])).bind fun l1 => (evE (⟨tb, callF tb fns k, callF tb fns (k - 2)⟩ : Mch) (.call 0 false [.v 1]) l1 s).map some1) l1 s = some (l2, s) := by
    refine turns_all (fun a b hab => ?_) h
    simp [asg, wipeD, evE, evEs, callD, hab, some1]
  have hz : l2.length ≤ mostL := by rw [h.len]; exact Nat.le_trans hl (by decide)
  simp only [startD, f0, b0]
  simp [evSs, evS, evE, evEs, it1, it2, sq]
  simp [evE, evEs] at tr
  simp [tr, hz, biD, outD]
end K98

namespace K98
open PySem L2 G
theorem atD_ok (l : List D) {i : Int} (h0 : 0 ≤ i) (h1 : i < l.length) : ∃ x, atD l i = some x ∧ x ∈ l := by
  have hlt : i.toNat < l.length := by omega
  refine ⟨l[i.toNat], ?_, List.getElem_mem hlt⟩
  unfold atD L2.atI
  have : ixN l.length i = some i.toNat := by
    unfold ixN
    rw [if_pos h0, if_pos h1]
  rw [this]
  simp [hlt]
theorem one_ok {k : Nat} {w : Wl} {n : Int} {l : List D} (hw : w.Ok n) (hn : n ≤ 99999) (h1 : 2 ≤ l.length) (h2 : l.length < 1000) : ∃ (x : D) (w' : Wl), callF tb fns (k + 2) 13 [.loc 0, .lst l] w.o = some (x, w'.o) ∧ w'.Ok (n + 1) ∧ x ∈ l := by
  obtain ⟨v, w', e1, e2, _, e3⟩ := draw_ok (k := k) (m := l.length) hw hn (by omega)
  obtain ⟨v0, v1⟩ := e3 (by omega)
  obtain ⟨x, hx, hm⟩ := atD_ok l v0 v1
  refine ⟨x, w', ?_, e2, hm⟩
  rw [call_succ (F := f13) rfl]
  have ln : ∀ s, biD s .len [.lst l] = some (.int l.length) := fun _ => rfl
  have ix : ∀ s, ixD s (.lst l) (.int v) = some x := fun _ => hx
  simp [startD, f13, b13, evSs, evS, evE, evEs, callD, ln, e1, ix, outD]
theorem Wl.Ok.up {w : Wl} {n m : Int} (h : w.Ok n) (hm : n ≤ m) : w.Ok m := ⟨h.t0, Int.le_trans h.tn hm, h.r0⟩
/-- a pair -/
def isPair (n : Nat) (d : D) : Prop := ∃ x y, d = .tup [x, y] ∧ Vl n x y
theorem turns_val {f : D → Sto → Option (Option D × Sto)} {j : Nat} {B K : Int} (hB : 0 ≤ B) : ∀ (ds : List D) {w : Wl} {n : Int}, w.Ok n → n + ds.length * B ≤ K →
    (∀ d ∈ ds, ∀ (w : Wl) (n : Int), w.Ok n → n ≤ K → ∃ q w', f d w.o = some (some q, w'.o) ∧ Wl.Ok w' (n + B) ∧ isPair j q) →
    ∃ qs w', turns f ds w.o = some (qs, w'.o) ∧ Wl.Ok w' (n + ds.length * B) ∧ qs.length = ds.length ∧ ∀ q ∈ qs, isPair j q
  | [], w, n, hw, _, _ => ⟨[], w, rfl, hw.up (by simp), rfl, fun _ z => nomatch z⟩
  | d :: ds, w, n, hw, hn, h => by
    have e0 : ((d :: ds).length : Int) * B = ds.length * B + B := by
      rw [List.length_cons]
      push_cast
      rw [Int.add_mul, Int.one_mul]
    rw [e0] at hn ⊢
    have hp : 0 ≤ (ds.length : Int) * B := Int.mul_nonneg (by omega) hB
    obtain ⟨q, w1, e1, o1, p1⟩ := h d List.mem_cons_self w n hw (by omega)
    obtain ⟨qs, w2, e2, o2, l2, p2⟩ := turns_val hB ds o1 (by omega) fun d hd => h d (List.mem_cons_of_mem _ hd)
    refine ⟨q :: qs, w2, ?_, o2.up (by omega), by simp [l2], fun x hx => ?_⟩
    · unfold turns
      rw [e1]
      simp [e2]
    · rcases List.mem_cons.mp hx with z | z
      · rw [z]; exact p1
      · exact p2 x z
/-- the two halves of drawn pairs -/
theorem split_pairs {j : Nat} : ∀ (qs : List D), (∀ q ∈ qs, isPair j q) → ∃ l1 l2, All2 (Vl j) l1 l2 ∧ l1.length = qs.length ∧ All2 (fun q a => ∃ y, q = .tup [a, y]) qs l1 ∧ All2 (fun q b => ∃ x, q = .tup [x, b]) qs l2
  | [], _ => ⟨[], [], .nil, rfl, .nil, .nil⟩
  | q :: qs, h => by
    obtain ⟨x, y, e, v⟩ := h q List.mem_cons_self
    obtain ⟨l1, l2, a, b, c, d⟩ := split_pairs qs fun q hq => h q (List.mem_cons_of_mem _ hq)
    exact ⟨x :: l1, y :: l2, .cons v a, by simp [b], .cons ⟨y, e⟩ c, .cons ⟨x, e⟩ d⟩
def Bd : Nat → Int
  | 0 => 2
  | n + 1 => 2 + 2 * Bd n
theorem Bd_pos : ∀ n, 2 ≤ Bd n
  | 0 => by simp [Bd]
  | n + 1 => by have := Bd_pos n; simp only [Bd]; omega
end K98

namespace K98
open PySem L2 G
theorem base_ev (M : Mch) (l : Sl) (s : Sto) : evE M (.lst false [(.k .non), (.k (.int 5)), (.k (.str "a")), (.k (.bl true)), (.neg (.k (.int 1))), (.bin .pow (.k (.int 10)) (.k (.int 30))), (.k (.str "")), (.tup []), (.k (.dic [] []))]) l s = some (.lst baseD, s) := by
  have p : binD .pow (.int 10) (.int 30) = some (.int (10 ^ 30)) := pow_le (n := 30) (by decide) (by decide)
  simp [evE, evEs, p, mostL, baseD]
/-- the last three statements, the pairs at hand -/
theorem value_end {M : Mch} {s : Sto} {d way : Int} {j : Nat} {qs : List D} {x4 x5 x6 x7 x8 x9 : Option D} (hq : ∀ q ∈ qs, isPair j q) (hl : qs.length ≤ 2) :
    ∃ x y l', evSs M (b14.drop 3) [some (.loc 0), some (.int d), some (.int way), some (.lst qs), x4, x5, x6, x7, x8, x9] s = some (.ret (.tup [x, y]), l', s) ∧ Vl (j + 1) x y := by
  obtain ⟨l1, l2, h1, h2, h3, h4⟩ := split_pairs qs hq
  have z1 : l1.length ≤ mostL := by rw [h2]; exact Nat.le_trans hl (by decide)
  have z2 : l2.length ≤ mostL := by rw [h1.len, h2]; exact Nat.le_trans hl (by decide)
  let l0 : Sl := [some (.loc 0), some (.int d), some (.int way), some (.lst qs), x4, x5, x6, x7, x8, x9]
  have t1 : turns (fun d s => (asg (.tup [.nm 8, .nm 9]) d (wipeD l0 [8, 9])).bind fun l1 => (evE M (.v 8) l1 s).map some1) qs s = some (l1, s) := by
    refine turns_all (R := fun q a => ∃ y, q = .tup [a, y]) (fun a b hab => ?_) h3
    obtain ⟨y, rfl⟩ := hab
    simp [l0, asg, asgs, wipeD, evE, some1]
  have t2 : turns (fun d s => (asg (.tup [.nm 8, .nm 9]) d (wipeD l0 [8, 9])).bind fun l1 => (evE M (.v 9) l1 s).map some1) qs s = some (l2, s) := by
    refine turns_all (R := fun q b => ∃ x, q = .tup [x, b]) (fun a b hab => ?_) h4
    obtain ⟨y, rfl⟩ := hab
    simp [l0, asg, asgs, wipeD, evE, some1]
  have c1 : evE M (.lc (.v 3) (.tup [.nm 8, .nm 9]) none (.v 8) [8, 9]) l0 s = some (.lst l1, s) := by
    have e3 : evE M (.v 3) l0 s = some (.lst qs, s) := by simp [evE, l0]
    rw [evE, e3]
    simp only [Option.bind_some, seqD]
    rw [t1]
    simp [z1]
  have c2 : evE M (.lc (.v 3) (.tup [.nm 8, .nm 9]) none (.v 9) [8, 9]) l0 s = some (.lst l2, s) := by
    have e3 : evE M (.v 3) l0 s = some (.lst qs, s) := by simp [evE, l0]
    rw [evE, e3]
    simp only [Option.bind_some, seqD]
    rw [t2]
    simp [z2]
  have c3 : evE M (.bi .tuple [.lc (.v 3) (.tup [.nm 8, .nm 9]) none (.v 9) [8, 9]]) l0 s = some (.tup l2, s) := by
    rw [evE, evEs, c2]
    simp [evEs, biD]
  have e1 : b14.drop 3 = [.par 5 6 (.lc (.v 3) (.tup [.nm 8, .nm 9]) none (.v 8) [8, 9]) (.bi .tuple [.lc (.v 3) (.tup [.nm 8, .nm 9]) none (.v 9) [8, 9]]), .ret (.tup [(.ife (.cmp .gt (.v 2) (.k (.int 4))) (.v 5) (.bi .tuple [(.v 5)])), (.v 6)])] := rfl
  have gt : cmpD .gt (.int way) (.int 4) = some (decide (4 < way)) := rfl
  rw [e1, evSs_cons, evS, c1]
  simp only [Option.bind_some]
  rw [c3]
  by_cases h : 4 < way
  · refine ⟨.lst l1, .tup l2, [some (.loc 0), some (.int d), some (.int way), some (.lst qs), x4, some (.lst l1), some (.tup l2), x7, x8, x9], ?_, .inr ⟨l1, l2, .inl rfl, rfl, by omega, h1⟩⟩
    simp [evSs, evS, evE, evEs, gt, h, mostL]
  · refine ⟨.tup l1, .tup l2, [some (.loc 0), some (.int d), some (.int way), some (.lst qs), x4, some (.lst l1), some (.tup l2), x7, x8, x9], ?_, .inr ⟨l1, l2, .inr rfl, rfl, by omega, h1⟩⟩
    simp [evSs, evS, evE, evEs, gt, h, mostL, biD]
end K98
namespace K98
open PySem L2 G
theorem value_s0 {M : Mch} {w w1 : Wl} {d way : Int} (h : M.call 12 [.loc 0, .int (if 0 < d then 7 else 4)] w.o = some (.int way, w1.o)) :
    evSs M b14 [some (.loc 0), some (.int d), none, none, none, none, none, none, none, none] w.o = evSs M (b14.drop 1) [some (.loc 0), some (.int d), some (.int way), none, none, none, none, none, none, none] w1.o := by
  have gt : cmpD .gt (.int d) (.int 0) = some (decide (0 < d)) := rfl
  have e : b14 = .set (.nm 2) (.call 12 false [(.v 0), (.ife (.cmp .gt (.v 1) (.k (.int 0))) (.k (.int 7)) (.k (.int 4)))]) :: b14.drop 1 := rfl
  rw [e, evSs_cons]
  by_cases q : 0 < d
  · rw [if_pos q] at h
    simp [evS, evE, evEs, callD, asgS, gt, q, h]
  · rw [if_neg q] at h
    simp [evS, evE, evEs, callD, asgS, gt, q, h]
theorem value_base {M : Mch} {w1 w2 : Wl} {d way : Int} {x : D} (hw : way < 4) (h : M.call 13 [.loc 0, .lst baseD] w1.o = some (x, w2.o)) :
    evSs M (b14.drop 1) [some (.loc 0), some (.int d), some (.int way), none, none, none, none, none, none, none] w1.o = some (.ret (.tup [x, x]), [some (.loc 0), some (.int d), some (.int way), none, some x, none, none, none, none, none], w2.o) := by
  have lt : cmpD .lt (.int way) (.int 4) = some (decide (way < 4)) := rfl
  have e : b14.drop 1 = .ite (.cmp .lt (.v 2) (.k (.int 4))) [.set (.nm 4) (.call 13 false [(.v 0), (.lst false [(.k .non), (.k (.int 5)), (.k (.str "a")), (.k (.bl true)), (.neg (.k (.int 1))), (.bin .pow (.k (.int 10)) (.k (.int 30))), (.k (.str "")), (.tup []), (.k (.dic [] []))])]), .ret (.tup [(.v 4), (.v 4)])] [] :: b14.drop 2 := rfl
  rw [e, evSs_cons]
  have be := base_ev M
  have c : ∀ l : Sl, l[0]? = some (some (.loc 0)) → evE M (.call 13 false [(.v 0), (.lst false [(.k .non), (.k (.int 5)), (.k (.str "a")), (.k (.bl true)), (.neg (.k (.int 1))), (.bin .pow (.k (.int 10)) (.k (.int 30))), (.k (.str "")), (.tup []), (.k (.dic [] []))])]) l w1.o = some (x, w2.o) := fun l hl => by
    rw [evE, evEs, evE, hl]
    simp only [Option.bind_some]
    rw [evEs, be]
    simp [evEs, callD, h]
  have z := c [some (.loc 0), some (.int d), some (.int way), none, none, none, none, none, none, none] rfl
  have cnd : evE M (.cmp .lt (.v 2) (.k (.int 4))) [some (.loc 0), some (.int d), some (.int way), none, none, none, none, none, none, none] w1.o = some (.bl true, w1.o) := by simp [evE, lt, hw]
  rw [evS, cnd]
  simp only [Option.bind_some]
  rw [evSs_cons, evS, z]
  simp [evSs, evS, evE, evEs, asgS, mostL]
theorem value_rec {M : Mch} {w1 w2 w3 : Wl} {d way c : Int} {qs : List D} (hw : 4 ≤ way) (h : M.call 12 [.loc 0, .int 3] w1.o = some (.int c, w2.o)) (hc : -(2 ^ 62) ≤ c ∧ c ≤ mostL)
    (ht : turns (fun (_ : D) s => (M.call 14 [.loc 0, .int (d - 1)] s).map some1) (rangeD c) w2.o = some (qs, w3.o)) (hq : qs.length ≤ mostL) :
    evSs M (b14.drop 1) [some (.loc 0), some (.int d), some (.int way), none, none, none, none, none, none, none] w1.o = evSs M (b14.drop 3) [some (.loc 0), some (.int d), some (.int way), some (.lst qs), none, none, none, none, none, none] w3.o := by
  have lt : cmpD .lt (.int way) (.int 4) = some (decide (way < 4)) := rfl
  have e : b14.drop 1 = .ite (.cmp .lt (.v 2) (.k (.int 4))) [.set (.nm 4) (.call 13 false [(.v 0), (.lst false [(.k .non), (.k (.int 5)), (.k (.str "a")), (.k (.bl true)), (.neg (.k (.int 1))), (.bin .pow (.k (.int 10)) (.k (.int 30))), (.k (.str "")), (.tup []), (.k (.dic [] []))])]), .ret (.tup [(.v 4), (.v 4)])] [] ::
    .set (.nm 3) (.lcr (.call 12 false [(.v 0), (.k (.int 3))]) (.nm 7) none (.call 14 false [(.v 0), (.bin .sub (.v 1) (.k (.int 1)))]) [7]) :: b14.drop 3 := rfl
  have nw : ¬ way < 4 := by omega
  have cnd : evE M (.cmp .lt (.v 2) (.k (.int 4))) [some (.loc 0), some (.int d), some (.int way), none, none, none, none, none, none, none] w1.o = some (.bl false, w1.o) := by simp [evE, lt, nw]
  rw [e, evSs_cons, evS, cnd]
  simp only [Option.bind_some]
  rw [evSs]
  simp only [Option.bind_some]
  rw [evSs_cons, evS]
  have c1 : evE M (.call 12 false [(.v 0), (.k (.int 3))]) [some (.loc 0), some (.int d), some (.int way), none, none, none, none, none, none, none] w1.o = some (.int c, w2.o) := by
    simp [evE, evEs, callD, h]
  have rg : rngD (.int c) = some (rangeD c) := by
    show (if -(2 ^ 62) ≤ c ∧ c ≤ mostL then some (rangeD c) else none) = _
    rw [if_pos hc]
  have t1 : turns (fun d' s => (asg (.nm 7) d' (wipeD [some (.loc 0), some (.int d), some (.int way), none, none, none, none, none, none, none] [7])).bind fun l1 => (evE M (.call 14 false [(.v 0), (.bin .sub (.v 1) (.k (.int 1)))]) l1 s).map some1) (rangeD c) w2.o = some (qs, w3.o) := by
    rw [← ht]
    congr 1
  have c2 : evE M (.lcr (.call 12 false [(.v 0), (.k (.int 3))]) (.nm 7) none (.call 14 false [(.v 0), (.bin .sub (.v 1) (.k (.int 1)))]) [7]) [some (.loc 0), some (.int d), some (.int way), none, none, none, none, none, none, none] w1.o = some (.lst qs, w3.o) := by
    rw [evE, c1]
    simp only [Option.bind_some, rg]
    rw [t1]
    simp [hq]
  rw [c2]
  simp [asgS]
end K98
namespace K98
open PySem L2 G
/-- a drawn value -/
theorem value_ok : ∀ (d : Nat) {k : Nat} {w : Wl} {n : Int}, d ≤ 3 → w.Ok n → n ≤ 90000 - 1000 * (d : Int) → ∃ (x y : D) (w' : Wl), callF tb fns (d + 3 + k) 14 [.loc 0, .int d] w.o = some (.tup [x, y], w'.o) ∧ w'.Ok (n + Bd d) ∧ Vl d x y := by
  intro d
  induction d with
  | zero =>
    intro k w n hd hw hn
    obtain ⟨way, w1, e1, o1, _, r1⟩ := draw_ok (k := k + 1) (m := 4) hw (by omega) (by omega)
    obtain ⟨x, w2, e2, o2, hx⟩ := one_ok (k := k) (l := baseD) o1 (by omega) (by decide) (by decide)
    refine ⟨x, x, w2, ?_, o2.up (by simp [Bd]; omega), Vl.base hx 0⟩
    rw [show (0 + 3 + k : Nat) = (k + 2) + 1 by omega, call_succ (F := f14) rfl]
    show ((evSs _ b14 [some (.loc 0), some (.int (0 : Nat)), none, none, none, none, none, none, none, none] w.o).map outD) = _
    rw [value_s0 (w1 := w1) (way := way) e1, value_base (r1 (by omega)).2 e2]
    rfl
  | succ d ih =>
    intro k w n hd hw hn
    have hB := Bd_pos d
    have hB3 : Bd d ≤ 14 := by
      rcases Nat.lt_or_ge d 1 with q | q
      · have : d = 0 := by omega
        subst this; decide
      · rcases Nat.lt_or_ge d 2 with q | q
        · have : d = 1 := by omega
          subst this; decide
        · have : d = 2 := by omega
          subst this; decide
    obtain ⟨way, w1, e1, o1, _, r1⟩ := draw_ok (k := d + 2 + k) (m := 7) hw (by omega) (by omega)
    rw [show (d + 1 + 3 + k : Nat) = (d + 3 + k) + 1 by omega]
    rw [show d + 2 + k + 1 = d + 3 + k by omega] at e1
    have e1' : callF tb fns (d + 3 + k) 12 [.loc 0, .int (if (0 : Int) < ((d + 1 : Nat) : Int) then 7 else 4)] w.o = some (.int way, w1.o) := by
      rw [if_pos (by omega)]
      exact e1
    by_cases hway : way < 4
    · obtain ⟨x, w2, e2, o2, hx⟩ := one_ok (k := d + 1 + k) (l := baseD) o1 (by omega) (by decide) (by decide)
      rw [show d + 1 + k + 2 = d + 3 + k by omega] at e2
      refine ⟨x, x, w2, ?_, o2.up (by simp only [Bd]; omega), Vl.base hx _⟩
      rw [call_succ (F := f14) rfl]
      show ((evSs _ b14 [some (.loc 0), some (.int ((d + 1 : Nat) : Int)), none, none, none, none, none, none, none, none] w.o).map outD) = _
      rw [value_s0 (w1 := w1) (way := way) e1', value_base hway e2]
      rfl
    · obtain ⟨c, w2, e2, o2, _, r2⟩ := draw_ok (k := d + 2 + k) (m := 3) o1 (by omega) (by omega)
      obtain ⟨c0, c1⟩ := r2 (by omega)
      rw [show d + 2 + k + 1 = d + 3 + k by omega] at e2
      have hlen : (rangeD c).length = c.toNat := range_len
      obtain ⟨qs, w3, e3, o3, l3, p3⟩ := turns_val (f := fun (_ : D) s => (callF tb fns (d + 3 + k) 14 [.loc 0, .int (((d + 1 : Nat) : Int) - 1)] s).map some1) (j := d) (B := Bd d) (K := 90000 - 1000 * (d : Int)) (by omega) (rangeD c) o2 (by
          rw [hlen]
          have : (c.toNat : Int) * Bd d ≤ 2 * 14 := Int.mul_le_mul (by omega) hB3 (by omega) (by omega)
          omega) fun d' _ w n hw hn => by
        obtain ⟨x, y, w', q1, q2, q3⟩ := ih (k := k) (w := w) (n := n) (by omega) hw hn
        refine ⟨.tup [x, y], w', ?_, q2, x, y, rfl, q3⟩
        rw [show (((d + 1 : Nat) : Int) - 1) = (d : Int) by omega, q1]
        rfl
      obtain ⟨x, y, l', q1, q2⟩ := value_end (M := ⟨tb, callF tb fns (d + 3 + k), callF tb fns (d + 3 + k - 2)⟩) (s := w3.o) (d := ((d + 1 : Nat) : Int)) (way := way) (x4 := none) (x5 := none) (x6 := none) (x7 := none) (x8 := none) (x9 := none) p3 (by rw [l3, hlen]; omega)
      refine ⟨x, y, w3, ?_, o3.up ?_, q2⟩
      · rw [call_succ (F := f14) rfl]
        show ((evSs _ b14 [some (.loc 0), some (.int ((d + 1 : Nat) : Int)), none, none, none, none, none, none, none, none] w.o).map outD) = _
        rw [value_s0 (w1 := w1) (way := way) e1', value_rec (by omega) e2 ⟨by omega, by have : (mostL : Int) = 100000 := rfl; omega⟩ e3 (by rw [l3, hlen]; have : mostL = 100000 := rfl; omega), q1]
        rfl
      · rw [hlen]
        have : (c.toNat : Int) * Bd d ≤ 2 * Bd d := Int.mul_le_mul_of_nonneg_right (by omega) (by omega)
        simp only [Bd]
        omega
end K98

namespace K98
open PySem L2 G
theorem kept_base {k : Nat} {s : Sto} {x : D} (h : x ∈ baseD) : callF tb fns (k + 1) 0 [x] s = some (x, s) := by
  unfold baseD at h
  simp only [List.mem_cons, List.not_mem_nil, or_false] at h
  rcases h with rfl | rfl | rfl | rfl | rfl | rfl | rfl | rfl | rfl
  · exact kept_leaf (n := "NoneType") rfl (by decide) (by decide) (by decide)
  · exact kept_leaf (n := "int") rfl (by decide) (by decide) (by decide)
  · exact kept_leaf (n := "str") rfl (by decide) (by decide) (by decide)
  · exact kept_leaf (n := "bool") rfl (by decide) (by decide) (by decide)
  · exact kept_leaf (n := "int") rfl (by decide) (by decide) (by decide)
  · exact kept_leaf (n := "int") rfl (by decide) (by decide) (by decide)
  · exact kept_leaf (n := "str") rfl (by decide) (by decide) (by decide)
  · exact kept_seq (l1 := []) (l2 := []) (.inr rfl) (by decide) .nil
  · exact kept_leaf (n := "dict") rfl (by decide) (by decide) (by decide)
theorem kept_ok : ∀ (n : Nat) {k : Nat} {s : Sto} {x y : D}, Vl n x y → callF tb fns (n + 1 + k) 0 [x] s = some (y, s)
  | 0, k, s, x, y, h => by
    obtain ⟨rfl, hb⟩ := h
    rw [show 0 + 1 + k = k + 1 by omega]
    exact kept_base hb
  | n + 1, k, s, x, y, h => by
    rw [show n + 1 + 1 + k = (n + 1 + k) + 1 by omega]
    rcases h with ⟨rfl, hb⟩ | ⟨l1, l2, hx, rfl, hl, ha⟩
    · exact kept_base hb
    · exact kept_seq hx (by omega) (ha.imp fun a b hab => kept_ok n hab)
end K98
namespace K98
open PySem L2 G
theorem base_lf {x : D} (h : x ∈ baseD) : x.lf = true := by
  unfold baseD at h
  simp only [List.mem_cons, List.not_mem_nil, or_false] at h
  rcases h with rfl | rfl | rfl | rfl | rfl | rfl | rfl | rfl | rfl <;> rfl
theorem lfs_all : ∀ {l : List D}, (∀ x ∈ l, x.lf = true) → lfs l = true
  | [], _ => rfl
  | x :: r, h => by
    show (x.lf && lfs r) = true
    rw [h x List.mem_cons_self, lfs_all fun y hy => h y (List.mem_cons_of_mem _ hy)]
    rfl
theorem All2.both {R : D → D → Prop} {P : D → Prop} (h : ∀ a b, R a b → P a ∧ P b) : ∀ {l1 l2 : List D}, All2 R l1 l2 → (∀ x ∈ l1, P x) ∧ ∀ x ∈ l2, P x
  | _, _, .nil => ⟨fun _ z => absurd z List.not_mem_nil, fun _ z => absurd z List.not_mem_nil⟩
  | _, _, .cons a t => by
    obtain ⟨p, q⟩ := h _ _ a
    obtain ⟨u, v⟩ := All2.both h t
    refine ⟨fun x hx => ?_, fun x hx => ?_⟩
    · rcases List.mem_cons.mp hx with z | z
      · rw [z]; exact p
      · exact u x z
    · rcases List.mem_cons.mp hx with z | z
      · rw [z]; exact q
      · exact v x z
theorem Vl.lf : ∀ (n : Nat) {x y : D}, Vl n x y → x.lf = true ∧ y.lf = true
  | 0, x, y, h => by obtain ⟨rfl, hb⟩ := h; exact ⟨base_lf hb, base_lf hb⟩
  | n + 1, x, y, h => by
    rcases h with ⟨rfl, hb⟩ | ⟨l1, l2, hx, rfl, _, ha⟩
    · exact ⟨base_lf hb, base_lf hb⟩
    · obtain ⟨p, q⟩ := ha.both (P := fun d => d.lf = true) fun a b h => Vl.lf n h
      refine ⟨?_, lfs_all q⟩
      rcases hx with rfl | rfl <;> exact lfs_all p
/-- Paper.__init__ of a new instance -/
theorem init1 {k : Nat} {c low : Str} {i : Nat} {b : Bool} {ds ys : List D} (hp : pap c = some (i, low, b)) (hl : ds.length ≤ 2) (h : All2 (fun a b => ∀ s, callF tb fns k 0 [a] s = some (b, s)) ds ys) :
    callF tb fns (k + 2) 1 (.loc 0 :: ds) [O.ins c [] []] = some (.non, [O.ins c ["word", "parts"] [.str low, .tup ys]]) := by
  rw [call_succ (F := f1) rfl]
  have hc : tb.cl c = some ⟨i, low, atts, [("__eq__", 2), ("__bool__", if b then 3 else 4)]⟩ := by simp [tb, clT, hp]
  have hk : ∀ s, callF tb fns (k + 1) 0 [.tup ds] s = some (.tup ys, s) := fun s => kept_seq (.inr rfl) (by omega) (h.imp fun a b z => z s)
  have hz : ds.length + 1 ≤ mostL := Nat.le_trans (by omega) (show 3 ≤ mostL by decide)
  have s1 : ¬ (("word" : Str) = "known") := by decide
  have s2 : ¬ (("parts" : Str) = "known") := by decide
  have s3 : ¬ (("word" : Str) = "parts") := by decide
  have s4 : ¬ (("parts" : Str) = "word") := by decide
  simp [startD, f1, b1, hz, evSs, evS, evE, evEs, asgS, setfD, tnlD, clsD, hc, atts, putN, putV, callD, hk, outD, s1, s2, s3, s4]
end K98

namespace K98
open PySem L2 G
/-- a paper of one part -/
def mk1 (c low a : Str) (y : D) : D := .ins c ["word", "parts", a] [.str low, .tup [y], y]
def mk2 (y z : D) : D := .ins "RestlessHere" ["word", "parts", "rows", "rankings"] [.str "restlesshere", .tup [y, z], y, z]
/-- the def of an __init__ with one parameter -/
def bOne (c a : Str) : List S := [.expr (.sup c 1 [(.v 1)]), .set (.fld (.v 0) a) (.ix (.fld (.v 0) "parts") (.k (.int 0)))]
theorem initOne {k : Nat} {c low a : Str} {i : Nat} {b : Bool} {F : Fn} {x y : D} (hF : fns i = some F) (h1 : F.nS = 3 ∧ F.nP = 2 ∧ F.star = false) (hb : F.body = bOne c a) (hp : pap c = some (i, low, b)) (ha : a ∈ atts) (n1 : ¬ (("word" : Str) = a)) (n2 : ¬ (("parts" : Str) = a)) (n3 : ¬ (a = "known"))
    (h : ∀ s, callF tb fns k 0 [x] s = some (y, s)) : callF tb fns (k + 3) i [.loc 0, x] [O.ins c [] []] = some (.non, [O.ins c ["word", "parts", a] [.str low, .tup [y], y]]) := by
  rw [call_succ hF]
  obtain ⟨nS, nP, st, bd⟩ := F
  obtain ⟨h1, h2, h3⟩ := h1
  simp only at h1 h2 h3 hb
  subst h1 h2 h3 hb
  have hc : tb.cl c = some ⟨i, low, atts, [("__eq__", 2), ("__bool__", if b then 3 else 4)]⟩ := by simp [tb, clT, hp]
  have hi : callF tb fns (k + 2) 1 [.loc 0, x] [O.ins c [] []] = some (.non, [O.ins c ["word", "parts"] [.str low, .tup [y]]]) := init1 (ds := [x]) (ys := [y]) hp (by simp) (.cons h .nil)
  have at0 : atD [y] 0 = some y := rfl
  have s3 : ¬ (("word" : Str) = "parts") := by decide
  simp [startD, bOne, evSs, evS, evE, evEs, asgS, setfD, clsD, hc, putN, putV, hi, fldD, lookF, ixD, itemsD, at0, outD, ha, n1, n2, n3, s3]
theorem new1 {M : Mch} {c low a : Str} {i : Nat} {b : Bool} {x y : D} {s : Sto} (ht : M.tb = tb) (hp : pap c = some (i, low, b)) (hl : x.lf = true) (hy : y.lf = true) (h : M.init i [.loc 0, x] [O.ins c [] []] = some (.non, [O.ins c ["word", "parts", a] [.str low, .tup [y], y]])) : newD M c [x] s = some (mk1 c low a y, s) := by
  have hc : tb.cl c = some ⟨i, low, atts, [("__eq__", 2), ("__bool__", if b then 3 else 4)]⟩ := by simp [tb, clT, hp]
  unfold newD
  rw [ht, hc]
  have e1 : lfs [x] = true := by simp [lfs, hl]
  have e2 : lfs [D.str low, .tup [y], y] = true := by simp [lfs, D.lf, hy]
  simp [e1, h, frozenIns, e2, mk1]
end K98
namespace K98
open PySem L2 G
theorem init2 {k : Nat} {x y z u : D} (h1 : ∀ s, callF tb fns k 0 [x] s = some (y, s)) (h2 : ∀ s, callF tb fns k 0 [z] s = some (u, s)) :
    callF tb fns (k + 3) 6 [.loc 0, x, z] [O.ins "RestlessHere" [] []] = some (.non, [O.ins "RestlessHere" ["word", "parts", "rows", "rankings"] [.str "restlesshere", .tup [y, u], y, u]]) := by
  rw [call_succ (F := f6) rfl]
  have hc : tb.cl "RestlessHere" = some ⟨6, "restlesshere", atts, [("__eq__", 2), ("__bool__", 4)]⟩ := by
    have hp : pap "RestlessHere" = some (6, ("restlesshere" : Str), false) := by decide +kernel
    simp [tb, clT, hp]
  have hi : callF tb fns (k + 2) 1 [.loc 0, x, z] [O.ins "RestlessHere" [] []] = some (.non, [O.ins "RestlessHere" ["word", "parts"] [.str "restlesshere", .tup [y, u]]]) := init1 (ds := [x, z]) (ys := [y, u]) (i := 6) (b := false) (by decide +kernel) (by simp) (.cons h1 (.cons h2 .nil))
  have s3 : ¬ (("word" : Str) = "parts") := by decide
  have s4 : ¬ (("word" : Str) = "rows") := by decide
  have s5 : ¬ (("parts" : Str) = "rows") := by decide
  have s6 : ¬ (("word" : Str) = "rankings") := by decide
  have s7 : ¬ (("parts" : Str) = "rankings") := by decide
  have s8 : ¬ (("rows" : Str) = "rankings") := by decide
  have s9 : ¬ (("rows" : Str) = "known") := by decide
  have s10 : ¬ (("rankings" : Str) = "known") := by decide
  have m1 : ("rows" : Str) ∈ atts := by decide
  have m2 : ("rankings" : Str) ∈ atts := by decide
  simp [startD, f6, b6, evSs, evS, evE, evEs, asgS, asgSs, setfD, clsD, hc, putN, putV, hi, fldD, lookF, outD, s3, s4, s5, s6, s7, s8, s9, s10, m1, m2]
end K98

namespace K98
open PySem L2 G
/-- a paper of the class c, its word, its parts -/
structure Pp (d : D) (c low : Str) (i : Nat) (b : Bool) (ys : List D) : Prop where
  cls : ∀ s, clsD s d = some c
  ty : ∀ s, tyD s d = some (.cls c)
  pap : pap c = some (i, low, b)
  w : ∀ s, fldD s "word" d = some (.str low)
  p : ∀ s, fldD s "parts" d = some (.tup ys)
theorem pp1 {c low a : Str} {i : Nat} {b : Bool} {y : D} (h : pap c = some (i, low, b)) : Pp (mk1 c low a y) c low i b [y] :=
  ⟨fun _ => rfl, fun _ => rfl, h, fun _ => by simp [mk1, fldD, lookF], fun _ => by
    have s3 : ¬ (("word" : Str) = "parts") := by decide
    simp [mk1, fldD, lookF, s3]⟩
theorem pp2 {y z : D} : Pp (mk2 y z) "RestlessHere" "restlesshere" 6 false [y, z] :=
  ⟨fun _ => rfl, fun _ => rfl, by decide +kernel, fun _ => by simp [mk2, fldD, lookF], fun _ => by
    have s3 : ¬ (("word" : Str) = "parts") := by decide
    simp [mk2, fldD, lookF, s3]⟩
theorem isp {c low : Str} {i : Nat} {b : Bool} (h : pap c = some (i, low, b)) : anyIs tb (.cls c) [.cls "Paper"] = some true := by
  simp [anyIs, tb, isaT, h]
/-- == of papers of other words -/
theorem eq_word {k : Nat} {s : Sto} {d e : D} {c low : Str} {i : Nat} {b : Bool} {ys : List D} {c' low' : Str} {i' : Nat} {b' : Bool} {ys' : List D} (h : Pp d c low i b ys) (h' : Pp e c' low' i' b' ys') (hw : low ≠ low') : callF tb fns (k + 1) 2 [d, e] s = some (.bl false, s) := by
  rw [call_succ (F := f2) rfl]
  have n1 : cmpD .ne (.str low) (.str low') = some true := by simp [cmpD, D.dep, D.isDic, D.eqv, eqA, hw]
  simp [startD, f2, b2, evSs, evS, evE, h'.ty, isp h'.pap, h.w, h'.w, n1, outD]
/-- == of papers of one word -/
theorem eq_parts {k : Nat} {s : Sto} {d e : D} {c low : Str} {i : Nat} {b : Bool} {ys : List D} {c' : Str} {i' : Nat} {b' : Bool} {ys' : List D} {r : Bool} (h : Pp d c low i b ys) (h' : Pp e c' low i' b' ys') (hr : cmpD .eq (.tup ys) (.tup ys') = some r) : callF tb fns (k + 1) 2 [d, e] s = some (.bl r, s) := by
  rw [call_succ (F := f2) rfl]
  have n1 : cmpD .ne (.str low) (.str low) = some false := by simp [cmpD, D.dep, D.isDic, D.eqv, eqA]
  simp [startD, f2, b2, evSs, evS, evE, evEs, h'.ty, isp h'.pap, h.w, h'.w, n1, h.p, h'.p, hr, biD, outD]
/-- == with what is no paper -/
theorem eq_other {k : Nat} {s : Sto} {d e : D} {n : String} (ht : tyD s e = some (.ty n)) (hn : n ∈ tyL) : callF tb fns (k + 1) 2 [d, e] s = some (.bl false, s) := by
  rw [call_succ (F := f2) rfl]
  have ia : anyIs tb (.ty n) [.cls "Paper"] = some false := by simp [anyIs, tb, isaT, hn]
  simp [startD, f2, b2, evSs, evS, evE, ht, ia, outD]
theorem bool3 {k : Nat} {s : Sto} {d : D} : callF tb fns (k + 1) 3 [d] s = some (.bl true, s) := by
  rw [call_succ (F := f3) rfl]
  simp [startD, f3, b3, evSs, evS, evE, outD]
theorem bool4 {k : Nat} {s : Sto} {d : D} : callF tb fns (k + 1) 4 [d] s = some (.bl false, s) := by
  rw [call_succ (F := f4) rfl]
  simp [startD, f4, b4, evSs, evS, evE, outD]
end K98

namespace K98
open PySem L2 G
/-- what is kept: n deep -/
def Kd : Nat → D → Prop
  | 0, y => y ∈ baseD
  | n + 1, y => y ∈ baseD ∨ ∃ l, y = .tup l ∧ l.length ≤ 2 ∧ ∀ x ∈ l, Kd n x
theorem All2.right {R : D → D → Prop} {P : D → Prop} (h : ∀ a b, R a b → P b) : ∀ {l1 l2 : List D}, All2 R l1 l2 → ∀ x ∈ l2, P x
  | _, _, .nil => fun _ z => absurd z List.not_mem_nil
  | _, _, .cons a t => fun x hx => by
    rcases List.mem_cons.mp hx with z | z
    · rw [z]; exact h _ _ a
    · exact All2.right h t x z
theorem Vl.kd : ∀ (n : Nat) {x y : D}, Vl n x y → Kd n y
  | 0, x, y, h => by obtain ⟨rfl, hb⟩ := h; exact hb
  | n + 1, x, y, h => by
    rcases h with ⟨rfl, hb⟩ | ⟨l1, l2, _, rfl, hl, ha⟩
    · exact .inl hb
    · exact .inr ⟨l2, rfl, by rw [ha.len]; exact hl, ha.right fun a b h => Vl.kd n h⟩
theorem base_cases {x : D} (h : x ∈ baseD) : x = .non ∨ x = .int 5 ∨ x = .str "a" ∨ x = .bl true ∨ x = .int (-1) ∨ x = .int (10 ^ 30) ∨ x = .str "" ∨ x = .tup [] ∨ x = .dic [] [] := by
  unfold baseD at h
  simpa using h
/-- == told both ways -/
def Sym (a b : D) : Prop := ∃ r, a.eqv b = some r ∧ b.eqv a = some r
theorem sym_flat {a b : D} (ha : a = .non ∨ (∃ i, a = .int i) ∨ (∃ z, a = .str z) ∨ (∃ t, a = .bl t) ∨ (∃ l, a = .tup l) ∨ a = .dic [] []) (hb : b = .non ∨ (∃ i, b = .int i) ∨ (∃ z, b = .str z) ∨ (∃ t, b = .bl t) ∨ (∃ l, b = .tup l) ∨ b = .dic [] []) (hn : ∀ l l', a = .tup l → b = .tup l' → Sym a b) : Sym a b := by
  rcases ha with rfl | ⟨i, rfl⟩ | ⟨z, rfl⟩ | ⟨t, rfl⟩ | ⟨l, rfl⟩ | rfl <;> rcases hb with rfl | ⟨j, rfl⟩ | ⟨z', rfl⟩ | ⟨t', rfl⟩ | ⟨l', rfl⟩ | rfl
  all_goals first
    | exact hn _ _ rfl rfl
    | exact ⟨_, rfl, rfl⟩
    | (refine ⟨_, rfl, ?_⟩; simp [D.eqv, eqA]; done)
    | (refine ⟨_, rfl, ?_⟩; simp only [D.eqv, eqA]; congr 1; exact beq_eq_beq_swap _ _)
    | skip
  · exact ⟨i == j, rfl, by show some (j == i) = _; rw [BEq.comm]⟩
  · exact ⟨i == (if t' then 1 else 0), rfl, by show some ((if t' then (1 : Int) else 0) == i) = _; rw [BEq.comm]⟩
  · exact ⟨z == z', rfl, by show some (z' == z) = _; rw [BEq.comm]⟩
  · exact ⟨(if t then 1 else 0) == j, rfl, by show some (j == (if t then (1 : Int) else 0)) = _; rw [BEq.comm]⟩
  · exact ⟨t == t', rfl, by show some (t' == t) = _; rw [BEq.comm]⟩
end K98
namespace K98
open PySem L2 G
theorem base_flat {x : D} (h : x ∈ baseD) : x = .non ∨ (∃ i, x = .int i) ∨ (∃ z, x = .str z) ∨ (∃ t, x = .bl t) ∨ (∃ l, x = .tup l) ∨ x = .dic [] [] := by
  rcases base_cases h with rfl | rfl | rfl | rfl | rfl | rfl | rfl | rfl | rfl
  · exact .inl rfl
  · exact .inr (.inl ⟨_, rfl⟩)
  · exact .inr (.inr (.inl ⟨_, rfl⟩))
  · exact .inr (.inr (.inr (.inl ⟨_, rfl⟩)))
  · exact .inr (.inl ⟨_, rfl⟩)
  · exact .inr (.inl ⟨_, rfl⟩)
  · exact .inr (.inr (.inl ⟨_, rfl⟩))
  · exact .inr (.inr (.inr (.inr (.inl ⟨_, rfl⟩))))
  · exact .inr (.inr (.inr (.inr (.inr rfl))))
theorem Kd.flat : ∀ {n : Nat} {x : D}, Kd n x → x = .non ∨ (∃ i, x = .int i) ∨ (∃ z, x = .str z) ∨ (∃ t, x = .bl t) ∨ (∃ l, x = .tup l) ∨ x = .dic [] []
  | 0, _, h => base_flat h
  | _ + 1, _, h => by
    rcases h with h | ⟨l, rfl, _, _⟩
    · exact base_flat h
    · exact .inr (.inr (.inr (.inr (.inl ⟨_, rfl⟩))))
/-- the parts of a kept tuple -/
theorem Kd.parts : ∀ {n : Nat} {l : List D}, Kd n (.tup l) → ∃ m, (m + 1 = n ∨ l = []) ∧ ∀ x ∈ l, Kd m x
  | 0, l, h => by
    rcases base_cases h with e | e | e | e | e | e | e | e | e <;> cases e
    exact ⟨0, .inr rfl, fun _ z => absurd z List.not_mem_nil⟩
  | n + 1, l, h => by
    rcases h with h | ⟨l', e, _, ha⟩
    · rcases base_cases h with e | e | e | e | e | e | e | e | e <;> cases e
      exact ⟨n, .inr rfl, fun _ z => absurd z List.not_mem_nil⟩
    · cases e
      exact ⟨n, .inl rfl, ha⟩
end K98
namespace K98
open PySem L2 G
theorem syms {R : D → D → Prop} : ∀ {l l' : List D}, (∀ a ∈ l, ∀ b ∈ l', Sym a b) → ∃ r, eqvs l l' = some r ∧ eqvs l' l = some r
  | [], [], _ => ⟨true, rfl, rfl⟩
  | [], _ :: _, _ => ⟨false, rfl, rfl⟩
  | _ :: _, [], _ => ⟨false, rfl, rfl⟩
  | a :: l, b :: l', h => by
    obtain ⟨r, h1, h2⟩ := h a List.mem_cons_self b List.mem_cons_self
    obtain ⟨q, h3, h4⟩ := syms (R := R) (l := l) (l' := l') fun x hx y hy => h x (List.mem_cons_of_mem _ hx) y (List.mem_cons_of_mem _ hy)
    refine ⟨r && q, ?_, ?_⟩
    · simp [eqvs, h1, h3]
    · simp [eqvs, h2, h4]
theorem Kd.sym : ∀ (n m : Nat) {a b : D}, Kd n a → Kd m b → Sym a b := by
  intro n
  induction n with
  | zero =>
    intro m a b ha hb
    refine sym_flat ha.flat hb.flat fun l l' e e' => ?_
    subst e e'
    obtain ⟨k, h1, h2⟩ := ha.parts
    have : l = [] := h1.resolve_left (by omega)
    subst this
    cases l' with
    | nil => exact ⟨true, rfl, rfl⟩
    | cons _ _ => exact ⟨false, rfl, rfl⟩
  | succ n ih =>
    intro m a b ha hb
    refine sym_flat ha.flat hb.flat fun l l' e e' => ?_
    subst e e'
    obtain ⟨k, h1, h2⟩ := ha.parts
    obtain ⟨k', _, h4⟩ := hb.parts
    rcases h1 with h1 | h1
    · have : k = n := by omega
      subst this
      obtain ⟨r, e1, e2⟩ := syms (R := fun _ _ => True) (l := l) (l' := l') fun x hx y hy => ih k' (h2 x hx) (h4 y hy)
      exact ⟨r, e1, e2⟩
    · subst h1
      cases l' with
      | nil => exact ⟨true, rfl, rfl⟩
      | cons _ _ => exact ⟨false, rfl, rfl⟩
end K98
namespace K98
open PySem L2 G
theorem refls : ∀ {l : List D}, (∀ a ∈ l, a.eqv a = some true) → eqvs l l = some true
  | [], _ => rfl
  | a :: l, h => by
    have h1 := h a List.mem_cons_self
    have h2 := refls (l := l) fun x hx => h x (List.mem_cons_of_mem _ hx)
    simp [eqvs, h1, h2]
theorem base_refl {x : D} (h : x ∈ baseD) : x.eqv x = some true := by
  rcases base_cases h with rfl | rfl | rfl | rfl | rfl | rfl | rfl | rfl | rfl <;> simp [D.eqv, eqA, eqvs]
theorem Kd.refl : ∀ (n : Nat) {a : D}, Kd n a → a.eqv a = some true
  | 0, a, h => base_refl h
  | n + 1, a, h => by
    rcases h with h | ⟨l, rfl, _, hl⟩
    · exact base_refl h
    · exact refls fun x hx => Kd.refl n (hl x hx)
theorem deps_le {c : Nat} : ∀ {l : List D}, (∀ x ∈ l, x.dep ≤ c) → deps l ≤ c
  | [], _ => Nat.zero_le _
  | a :: l, h => by
    show Nat.max a.dep (deps l) ≤ c
    exact Nat.max_le.mpr ⟨h a List.mem_cons_self, deps_le fun x hx => h x (List.mem_cons_of_mem _ hx)⟩
theorem base_dep {x : D} (h : x ∈ baseD) : x.dep ≤ 1 := by
  rcases base_cases h with rfl | rfl | rfl | rfl | rfl | rfl | rfl | rfl | rfl <;> simp [D.dep, deps]
theorem Kd.dep : ∀ (n : Nat) {a : D}, Kd n a → a.dep ≤ n + 1
  | 0, a, h => base_dep h
  | n + 1, a, h => by
    rcases h with h | ⟨l, rfl, _, hl⟩
    · exact Nat.le_trans (base_dep h) (by omega)
    · show 1 + deps l ≤ _
      have := deps_le (c := n + 1) fun x hx => Kd.dep n (hl x hx)
      omega
end K98

namespace K98
open PySem L2 G
def Ln : Nat → Nat
  | 0 => 40
  | n + 1 => 2 * Ln n + 44
theorem shl {z : Str} : z.length = z.cps.size := rfl
theorem base_py {x : D} (h : x ∈ baseD) : ∃ y, x.py = some y ∧ y.showable = true ∧ y.depth ≤ 1 ∧ y.shown.length ≤ 40 := by
  rcases base_cases h with rfl | rfl | rfl | rfl | rfl | rfl | rfl | rfl | rfl
  all_goals exact ⟨_, rfl, by decide +kernel, by decide +kernel, by decide +kernel⟩
end K98
namespace K98
open PySem L2 G
theorem tup_len (ts : List Str) : (tupleText ts).length ≤ piled ts + 4 := by
  unfold tupleText
  rw [strLen_append, strLen_append]
  have e1 : ((("(" : String) : Str)).length = 1 := rfl
  have e2 : ((if ts.length == 1 then ",)" else ")" : String) : Str).length ≤ 2 := by split <;> decide
  by_cases h : ts = []
  · subst h
    have e3 : (Str.join ", " []).length = 0 := rfl
    omega
  · have := join_length_add ts h
    omega
theorem pys_ok {P : PyData → Prop} : ∀ {l : List D}, (∀ x ∈ l, ∃ y, x.py = some y ∧ P y) → ∃ ys, pys l = some ys ∧ ys.length = l.length ∧ ∀ y ∈ ys, P y
  | [], _ => ⟨[], rfl, rfl, fun _ z => absurd z List.not_mem_nil⟩
  | x :: l, h => by
    obtain ⟨y, e, p⟩ := h x List.mem_cons_self
    obtain ⟨ys, e2, hl, p2⟩ := pys_ok (l := l) fun z hz => h z (List.mem_cons_of_mem _ hz)
    refine ⟨y :: ys, by simp [pys, e, e2], by simp [hl], fun z hz => ?_⟩
    rcases List.mem_cons.mp hz with q | q
    · rw [q]; exact p
    · exact p2 z q
end K98
namespace K98
open PySem L2 G
/-- a shown tree of some bound -/
def Sh (dp ln : Nat) (y : PyData) : Prop := y.showable = true ∧ y.depth ≤ dp ∧ y.shown.length ≤ ln
theorem sh_all {dp ln : Nat} : ∀ {ys : List PyData}, (∀ y ∈ ys, Sh dp ln y) → PyData.showableAll ys = true ∧ PyData.depthAll ys ≤ dp ∧ piled (PyData.shownAll ys) ≤ ys.length * (ln + 2)
  | [], _ => ⟨rfl, Nat.zero_le _, by simp [PyData.shownAll, piled]⟩
  | y :: ys, h => by
    obtain ⟨a, b, c⟩ := h y List.mem_cons_self
    obtain ⟨d, e, f⟩ := sh_all (ys := ys) fun z hz => h z (List.mem_cons_of_mem _ hz)
    refine ⟨by simp [PyData.showableAll, a, d], by simp only [PyData.depthAll]; exact Nat.max_le.mpr ⟨b, e⟩, ?_⟩
    rw [show PyData.shownAll (y :: ys) = y.shown :: PyData.shownAll ys from rfl, piled_cons, List.length_cons, Nat.add_mul]
    omega
theorem sh_tup {dp ln m : Nat} {l : List D} (hl : l.length ≤ m) (h : ∀ x ∈ l, ∃ y, x.py = some y ∧ Sh dp ln y) : ∃ y, (D.tup l).py = some y ∧ Sh (dp + 1) (m * (ln + 2) + 4) y := by
  obtain ⟨ys, e, hn, hp⟩ := pys_ok h
  obtain ⟨a, b, c⟩ := sh_all hp
  refine ⟨.tuple ys, by show (pys l).map PyData.tuple = _; rw [e]; rfl, a, by show PyData.depthAll ys + 1 ≤ _; omega, ?_⟩
  have := tup_len (PyData.shownAll ys)
  have h2 : ys.length * (ln + 2) ≤ m * (ln + 2) := Nat.mul_le_mul_right _ (by omega)
  show (tupleText (PyData.shownAll ys)).length ≤ _
  omega
theorem Kd.sh : ∀ (n : Nat) {a : D}, Kd n a → ∃ y, a.py = some y ∧ Sh (n + 1) (60 * 4 ^ n) y
  | 0, a, h => by
    obtain ⟨y, e, a, b, c⟩ := base_py h
    exact ⟨y, e, a, b, by omega⟩
  | n + 1, a, h => by
    have p1 : 1 ≤ 4 ^ n := Nat.one_le_pow _ _ (by omega)
    rcases h with h | ⟨l, rfl, hl, ha⟩
    · obtain ⟨y, e, a, b, c⟩ := base_py h
      exact ⟨y, e, a, by omega, by rw [Nat.pow_succ]; omega⟩
    · obtain ⟨y, e, a, b, c⟩ := sh_tup hl fun x hx => Kd.sh n (ha x hx)
      exact ⟨y, e, a, by omega, by rw [Nat.pow_succ]; omega⟩
end K98

namespace K98
open PySem L2 G
abbrev MM : Mch := ⟨tb, callF tb fns 59, callF tb fns (59 - 2)⟩
/-- the six papers -/
def Fd (y z : D) : List D := [mk1 "RestsHere" "restshere" "settings" y, mk1 "Path" "path" "settings" y, mk1 "Never" "never" "settings" y, mk1 "Calm" "calm" "order" y, mk1 "Turning" "turning" "ring" y, mk2 y z]
theorem pR : pap "RestsHere" = some (5, ("restshere" : Str), true) := by decide +kernel
theorem pP : pap "Path" = some (7, ("path" : Str), true) := by decide +kernel
theorem pN : pap "Never" = some (8, ("never" : Str), false) := by decide +kernel
theorem pC : pap "Calm" = some (9, ("calm" : Str), true) := by decide +kernel
theorem pT : pap "Turning" = some (10, ("turning" : Str), false) := by decide +kernel
/-- what a value is kept as, at every depth that is needed -/
def Kp (x y : D) : Prop := x.lf = true ∧ y.lf = true ∧ ∀ s, callF tb fns 54 0 [x] s = some (y, s)
theorem Vl.kp {n : Nat} {x y : D} (hn : n ≤ 10) (h : Vl n x y) : Kp x y := ⟨(Vl.lf n h).1, (Vl.lf n h).2, fun s => by
  have z := kept_ok n (k := 53 - n) (s := s) h
  rw [show n + 1 + (53 - n) = 54 by omega] at z
  exact z⟩
theorem newR {x y : D} {s : Sto} (h : Kp x y) : newD MM "RestsHere" [x] s = some (mk1 "RestsHere" "restshere" "settings" y, s) :=
  new1 (M := MM) rfl pR h.1 h.2.1 (initOne (k := 54) (F := f5) rfl ⟨rfl, rfl, rfl⟩ rfl pR (by decide) (by decide) (by decide) (by decide) h.2.2)
theorem newP {x y : D} {s : Sto} (h : Kp x y) : newD MM "Path" [x] s = some (mk1 "Path" "path" "settings" y, s) :=
  new1 (M := MM) rfl pP h.1 h.2.1 (initOne (k := 54) (F := f7) rfl ⟨rfl, rfl, rfl⟩ rfl pP (by decide) (by decide) (by decide) (by decide) h.2.2)
theorem newN {x y : D} {s : Sto} (h : Kp x y) : newD MM "Never" [x] s = some (mk1 "Never" "never" "settings" y, s) :=
  new1 (M := MM) rfl pN h.1 h.2.1 (initOne (k := 54) (F := f8) rfl ⟨rfl, rfl, rfl⟩ rfl pN (by decide) (by decide) (by decide) (by decide) h.2.2)
theorem newC {x y : D} {s : Sto} (h : Kp x y) : newD MM "Calm" [x] s = some (mk1 "Calm" "calm" "order" y, s) :=
  new1 (M := MM) rfl pC h.1 h.2.1 (initOne (k := 54) (F := f9) rfl ⟨rfl, rfl, rfl⟩ rfl pC (by decide) (by decide) (by decide) (by decide) h.2.2)
theorem newT {x y : D} {s : Sto} (h : Kp x y) : newD MM "Turning" [x] s = some (mk1 "Turning" "turning" "ring" y, s) :=
  new1 (M := MM) rfl pT h.1 h.2.1 (initOne (k := 54) (F := f10) rfl ⟨rfl, rfl, rfl⟩ rfl pT (by decide) (by decide) (by decide) (by decide) h.2.2)
theorem newL {x y z u : D} {s : Sto} (h : Kp x y) (h' : Kp z u) : newD MM "RestlessHere" [x, z] s = some (mk2 y u, s) := by
  have hp : pap "RestlessHere" = some (6, ("restlesshere" : Str), false) := by decide +kernel
  have hc : tb.cl "RestlessHere" = some ⟨6, "restlesshere", atts, [("__eq__", 2), ("__bool__", 4)]⟩ := by simp [tb, clT, hp]
  have hi : callF tb fns (59 - 2) 6 [.loc 0, x, z] [O.ins "RestlessHere" [] []] = some (.non, [O.ins "RestlessHere" ["word", "parts", "rows", "rankings"] [.str "restlesshere", .tup [y, u], y, u]]) := init2 (k := 54) h.2.2 h'.2.2
  unfold newD
  rw [show MM.tb = tb from rfl, hc]
  have e1 : lfs [x, z] = true := by simp [lfs, h.1, h'.1]
  have e2 : lfs [D.str "restlesshere", .tup [y, u], y, u] = true := by simp [lfs, D.lf, h.2.1, h'.2.1]
  simp [e1, hi, frozenIns, e2, mk2]
end K98

namespace K98
open PySem L2 G
theorem turns_map {f : D → Sto → Option (Option D × Sto)} {s : Sto} {g : D → D} : ∀ {l : List D}, (∀ d ∈ l, f d s = some (some (g d), s)) → turns f l s = some (l.map g, s)
  | [], _ => rfl
  | d :: l, h => by
    unfold turns
    rw [h d List.mem_cons_self]
    simp [turns_map (l := l) fun x hx => h x (List.mem_cons_of_mem _ hx)]
theorem turns_none {f : D → Sto → Option (Option D × Sto)} {s : Sto} : ∀ {l : List D}, (∀ d ∈ l, f d s = some (none, s)) → turns f l s = some ([], s)
  | [], _ => rfl
  | d :: l, h => by
    unfold turns
    rw [h d List.mem_cons_self]
    simp [turns_none (l := l) fun x hx => h x (List.mem_cons_of_mem _ hx)]
/-- what is kept of a kept value is the value -/
theorem Vl.idem : ∀ (n : Nat) {x y : D}, Vl n x y → Vl n y y
  | 0, x, y, h => by obtain ⟨rfl, hb⟩ := h; exact ⟨rfl, hb⟩
  | n + 1, x, y, h => by
    rcases h with ⟨rfl, hb⟩ | ⟨l1, l2, _, rfl, hl, ha⟩
    · exact .inl ⟨rfl, hb⟩
    · refine .inr ⟨l2, l2, .inr rfl, rfl, by rw [ha.len]; exact hl, ?_⟩
      have go : ∀ {l1 l2 : List D}, All2 (Vl n) l1 l2 → All2 (Vl n) l2 l2 := by
        intro l1 l2 h
        induction h with
        | nil => exact .nil
        | cons a _ ih => exact .cons (Vl.idem n a) ih
      exact go ha
/-- a paper of the six -/
theorem fd_pp {y u d : D} (h : d ∈ Fd y u) : ∃ c low i b ys, Pp d c low i b ys ∧ (ys = [y] ∨ ys = [y, u]) := by
  simp only [Fd, List.mem_cons, List.not_mem_nil, or_false] at h
  rcases h with rfl | rfl | rfl | rfl | rfl | rfl
  · exact ⟨_, _, _, _, _, pp1 pR, .inl rfl⟩
  · exact ⟨_, _, _, _, _, pp1 pP, .inl rfl⟩
  · exact ⟨_, _, _, _, _, pp1 pN, .inl rfl⟩
  · exact ⟨_, _, _, _, _, pp1 pC, .inl rfl⟩
  · exact ⟨_, _, _, _, _, pp1 pT, .inl rfl⟩
  · exact ⟨_, _, _, _, _, pp2, .inr rfl⟩
theorem pap_cl {c low : Str} {i : Nat} {b : Bool} (h : pap c = some (i, low, b)) : tb.cl c = some ⟨i, low, atts, [("__eq__", 2), ("__bool__", if b then 3 else 4)]⟩ := by simp [tb, clT, h]
theorem lk_eq {b : Bool} : List.lookup ("__eq__" : Str) [(("__eq__" : Str), 2), ("__bool__", if b then 3 else 4)] = some 2 := by simp [List.lookup]
theorem lk_bo {b : Bool} : List.lookup ("__bool__" : Str) [(("__eq__" : Str), 2), ("__bool__", if b then 3 else 4)] = some (if b then 3 else 4) := by
  have : (("__bool__" : Str) == "__eq__") = false := by decide
  simp [List.lookup, this]
/-- bool of a paper -/
theorem bo_pp {d : D} {s : Sto} {c low : Str} {i : Nat} {b : Bool} {ys : List D} (h : Pp d c low i b ys) : boD MM d s = some (.bl b, s) := by
  unfold boD
  rw [h.cls, show MM.tb = tb from rfl]
  simp only [Option.bind_some]
  rw [pap_cl h.pap]
  simp only [Option.bind_some]
  rw [lk_bo]
  have : MM.init (if b = true then 3 else 4) [d] s = some (.bl b, s) := by
    cases b
    · exact bool4 (k := 56)
    · exact bool3 (k := 56)
  show (MM.init (if b = true then 3 else 4) [d] s).bind _ = _
  rw [this]
  rfl
theorem eqo_of {d e : D} {s : Sto} {c low : Str} {i : Nat} {b : Bool} {ys : List D} {t : Ty} {r neg : Bool} (h : Pp d c low i b ys) (ht : tyD s e = some t) (hn : nfT c t = true) (hr : callF tb fns 57 2 [d, e] s = some (.bl r, s)) :
    eqoD MM neg d e s = some (.bl (r != neg), s) := by
  unfold eqoD
  rw [h.cls, ht, show MM.tb = tb from rfl]
  simp only [Option.bind_some]
  rw [pap_cl h.pap]
  simp only [Option.bind_some]
  rw [lk_eq, show tb.nf c t = true from hn]
  have : MM.init 2 [d, e] s = some (.bl r, s) := hr
  show (MM.init 2 [d, e] s).bind _ = _
  rw [this]
  rfl
theorem nf_pp {c low c' low' : Str} {i i' : Nat} {b b' : Bool} (h : pap c = some (i, low, b)) (h' : pap c' = some (i', low', b')) : nfT c (.cls c') = true := by simp [nfT, h, h']
theorem nf_ty {c low : Str} {i : Nat} {b : Bool} {n : String} (h : pap c = some (i, low, b)) (hn : n = "tuple" ∨ n = "int") : nfT c (.ty n) = true := by
  rcases hn with rfl | rfl <;> simp [nfT, h]
/-- == of the same paper -/
theorem eqo_same {d : D} {s : Sto} {c low : Str} {i : Nat} {b : Bool} {ys : List D} {neg : Bool} (h : Pp d c low i b ys) (hr : cmpD .eq (.tup ys) (.tup ys) = some true) : eqoD MM neg d d s = some (.bl (true != neg), s) :=
  eqo_of h (h.ty s) (nf_pp h.pap h.pap) (eq_parts (k := 56) h h hr)
theorem eqo_diff {d e : D} {s : Sto} {c low : Str} {i : Nat} {b : Bool} {ys : List D} {c' low' : Str} {i' : Nat} {b' : Bool} {ys' : List D} {neg : Bool} (h : Pp d c low i b ys) (h' : Pp e c' low' i' b' ys') (hw : low ≠ low') : eqoD MM neg d e s = some (.bl (false != neg), s) :=
  eqo_of h (h'.ty s) (nf_pp h.pap h'.pap) (eq_word (k := 56) h h' hw)
end K98

namespace K98
open PySem L2 G
theorem lst_len (ts : List Str) : (listText ts).length ≤ piled ts + 4 := by
  have := listText_len_le ts
  unfold piled
  have e : (ts.map fun t => t.length + 2).sum = (ts.map fun t => t.length).sum + 2 * ts.length := by
    induction ts with
    | nil => rfl
    | cons a r ih => simp only [List.map_cons, List.sum_cons, List.length_cons, ih (listText_len_le r)]; omega
  omega
theorem sh_lst {dp ln m : Nat} {l : List D} (hl : l.length ≤ m) (h : ∀ x ∈ l, ∃ y, x.py = some y ∧ Sh dp ln y) : ∃ y, (D.lst l).py = some y ∧ Sh (dp + 1) (m * (ln + 2) + 4) y := by
  obtain ⟨ys, e, hn, hp⟩ := pys_ok h
  obtain ⟨a, b, c⟩ := sh_all hp
  refine ⟨.list ys, by show (pys l).map PyData.list = _; rw [e]; rfl, a, by show PyData.depthAll ys + 1 ≤ _; omega, ?_⟩
  have := lst_len (PyData.shownAll ys)
  have h2 : ys.length * (ln + 2) ≤ m * (ln + 2) := Nat.mul_le_mul_right _ (by omega)
  show (listText (PyData.shownAll ys)).length ≤ _
  omega
/-- repr of a list of kept values, or of tuples of one or two of them -/
theorem repr_ok {l : List D} {y u : D} (hy : Kd 3 y) (hu : Kd 3 u) (hl : l.length ≤ 7) (h : ∀ x ∈ l, x = y ∨ x = u ∨ x = .tup [y] ∨ x = .tup [y, u]) : ∃ z, reprD (.lst l) = some (.str z) := by
  obtain ⟨py, e1, s1⟩ := Kd.sh 3 hy
  obtain ⟨pu, e2, s2⟩ := Kd.sh 3 hu
  have up : ∀ {v : PyData}, Sh 4 (60 * 4 ^ 3) v → Sh 5 8000 v := fun h => ⟨h.1, by have := h.2.1; omega, by have := h.2.2; omega⟩
  have one : ∀ x ∈ l, ∃ v, x.py = some v ∧ Sh 5 8000 v := fun x hx => by
    rcases h x hx with rfl | rfl | rfl | rfl
    · exact ⟨_, e1, up s1⟩
    · exact ⟨_, e2, up s2⟩
    · obtain ⟨v, e, s⟩ := sh_tup (dp := 4) (ln := 60 * 4 ^ 3) (m := 1) (l := [y]) (by simp) fun x hx => by
        rw [List.mem_singleton.mp hx]; exact ⟨_, e1, s1⟩
      exact ⟨v, e, s.1, s.2.1, Nat.le_trans s.2.2 (by decide)⟩
    · obtain ⟨v, e, s⟩ := sh_tup (dp := 4) (ln := 60 * 4 ^ 3) (m := 2) (l := [y, u]) (by simp) fun x hx => by
        rcases List.mem_cons.mp hx with hx | hx
        · rw [hx]; exact ⟨_, e1, s1⟩
        · rw [List.mem_singleton.mp hx]; exact ⟨_, e2, s2⟩
      exact ⟨v, e, s.1, s.2.1, Nat.le_trans s.2.2 (by decide)⟩
  obtain ⟨v, e, s⟩ := sh_lst (m := 7) hl one
  refine ⟨v.shown, ?_⟩
  have c : v.showable = true ∧ v.depth ≤ 100 ∧ v.shown.length ≤ maxRep := ⟨s.1, by have := s.2.1; omega, Nat.le_trans s.2.2 (by decide)⟩
  unfold reprD
  rw [e]
  simp only [Option.bind_some]
  rw [if_pos c]
theorem ne_str (z : Str) : cmpD .ne (.str z) (.str z) = some false := by simp [cmpD, D.dep, D.isDic, D.eqv, eqA]
end K98

namespace K98
open PySem L2 G
section
variable {M : Mch} {s : Sto} {x y z u : D} {a0 a2 a3 a4 a5 a6 a9 a10 : Option D}
def t1 : S := .set (.nm 3) (.lst false [(.new "RestsHere" [(.ix (.v 7) (.k (.int 0)))]), (.new "Path" [(.ix (.v 7) (.k (.int 0)))]), (.new "Never" [(.ix (.v 7) (.k (.int 0)))]), (.new "Calm" [(.ix (.v 7) (.k (.int 0)))]), (.new "Turning" [(.ix (.v 7) (.k (.int 0)))]), (.new "RestlessHere" [(.ix (.v 7) (.k (.int 0))), (.ix (.v 8) (.k (.int 0)))])])
def t2 : S := .set (.nm 4) (.lst false [(.newk "RestsHere" [0] [] [(.ix (.v 7) (.k (.int 1)))]), (.newk "Path" [0] [] [(.ix (.v 7) (.k (.int 1)))]), (.newk "Never" [0] [] [(.ix (.v 7) (.k (.int 1)))]), (.newk "Calm" [0] [] [(.ix (.v 7) (.k (.int 1)))]), (.newk "Turning" [0] [] [(.ix (.v 7) (.k (.int 1)))]), (.newk "RestlessHere" [1, 0] [] [(.ix (.v 8) (.k (.int 1))), (.ix (.v 7) (.k (.int 1)))])])
abbrev LL (a0 a2 a3 a4 a5 a6 : Option D) (one two : D) (a9 a10 : Option D) : Sl := [a0, some (.loc 0), a2, a3, a4, a5, a6, some one, some two, a9, a10]
theorem at2_0 {a b : D} : atD [a, b] 0 = some a := rfl
theorem at2_1 {a b : D} : atD [a, b] 1 = some b := rfl
theorem ix2_0 {a b : D} : ixD s (.tup [a, b]) (.int 0) = some a := rfl
theorem ix2_1 {a b : D} : ixD s (.tup [a, b]) (.int 1) = some b := rfl
/-- what new instances are -/
structure News (M : Mch) (x y z u : D) : Prop where
  r : ∀ s, newD M "RestsHere" [x] s = some (mk1 "RestsHere" "restshere" "settings" y, s)
  p : ∀ s, newD M "Path" [x] s = some (mk1 "Path" "path" "settings" y, s)
  n : ∀ s, newD M "Never" [x] s = some (mk1 "Never" "never" "settings" y, s)
  c : ∀ s, newD M "Calm" [x] s = some (mk1 "Calm" "calm" "order" y, s)
  t : ∀ s, newD M "Turning" [x] s = some (mk1 "Turning" "turning" "ring" y, s)
  l : ∀ s, newD M "RestlessHere" [x, z] s = some (mk2 y u, s)
theorem news {x y z u : D} (h : Kp x y) (h' : Kp z u) : News MM x y z u := ⟨fun _ => newR h, fun _ => newP h, fun _ => newN h, fun _ => newC h, fun _ => newT h, fun _ => newL h h'⟩
theorem st1 (N : News M x y z u) : evS M t1 (LL a0 a2 a3 a4 a5 a6 (.tup [x, y]) (.tup [z, u]) a9 a10) s = some (.nx, LL a0 a2 (some (.lst (Fd y u))) a4 a5 a6 (.tup [x, y]) (.tup [z, u]) a9 a10, s) := by
  simp [t1, evS, evE, evEs, ix2_0, N.r, N.p, N.n, N.c, N.t, N.l, mostL, asgS, Fd]
theorem st2 (N : News M y y u u) : evS M t2 (LL a0 a2 a3 a4 a5 a6 (.tup [x, y]) (.tup [z, u]) a9 a10) s = some (.nx, LL a0 a2 a3 (some (.lst (Fd y u))) a5 a6 (.tup [x, y]) (.tup [z, u]) a9 a10, s) := by
  simp [t2, evS, evE, evEs, ix2_1, permD, N.r, N.p, N.n, N.c, N.t, N.l, mostL, asgS, Fd]
def t3 : S := .ite (.cmp .ne (.lc (.v 3) (.nm 9) none (.fld (.v 9) "word") [9]) (.lst false [(.k (.str "restshere")), (.k (.str "path")), (.k (.str "never")), (.k (.str "calm")), (.k (.str "turning")), (.k (.str "restlesshere"))])) [.ret (.k (.bl false))] []
theorem wd1 {c low a : Str} : fldD s "word" (mk1 c low a y) = some (.str low) := by simp [mk1, fldD, lookF]
theorem wd2 : fldD s "word" (mk2 y u) = some (.str "restlesshere") := by simp [mk2, fldD, lookF]
theorem pt1 {c low a : Str} : fldD s "parts" (mk1 c low a y) = some (.tup [y]) := by
  have : ¬ (("word" : Str) = "parts") := by decide
  simp [mk1, fldD, lookF, this]
theorem pt2 : fldD s "parts" (mk2 y u) = some (.tup [y, u]) := by
  have : ¬ (("word" : Str) = "parts") := by decide
  simp [mk2, fldD, lookF, this]
theorem fAt {c low a : Str} (h : ¬ (("word" : Str) = a)) (h' : ¬ (("parts" : Str) = a)) : fldD s a (mk1 c low a y) = some y := by simp [mk1, fldD, lookF, h, h']
theorem fAr : fldD s "rows" (mk2 y u) = some y := by
  have h1 : ¬ (("word" : Str) = "rows") := by decide
  have h2 : ¬ (("parts" : Str) = "rows") := by decide
  simp [mk2, fldD, lookF, h1, h2]
theorem fAk : fldD s "rankings" (mk2 y u) = some u := by
  have h1 : ¬ (("word" : Str) = "rankings") := by decide
  have h2 : ¬ (("parts" : Str) = "rankings") := by decide
  have h3 : ¬ (("rows" : Str) = "rankings") := by decide
  simp [mk2, fldD, lookF, h1, h2, h3]
theorem st3 {one two : D} : evS M t3 (LL a0 a2 (some (.lst (Fd y u))) a4 a5 a6 one two a9 a10) s = some (.nx, LL a0 a2 (some (.lst (Fd y u))) a4 a5 a6 one two a9 a10, s) := by
  have c : cmpD .ne (.lst [.str "restshere", .str "path", .str "never", .str "calm", .str "turning", .str "restlesshere"]) (.lst [.str "restshere", .str "path", .str "never", .str "calm", .str "turning", .str "restlesshere"]) = some false := by decide +kernel
  simp [t3, evS, evSs, evE, evEs, seqD, Fd, turns, asg, wipeD, wd1, wd2, some1, mostL, c]
end
end K98

namespace K98
open PySem L2 G
theorem fd_two {y u d e : D} (h : d ∈ Fd y u) (h' : e ∈ Fd y u) : d = e ∨ ∃ c low i b ys c' low' i' b' ys', Pp d c low i b ys ∧ Pp e c' low' i' b' ys' ∧ low ≠ low' := by
  have n : ∀ {a b : Str}, decide (a = b) = false → a ≠ b := fun h => of_decide_eq_false h
  simp only [Fd, List.mem_cons, List.not_mem_nil, or_false] at h h'
  rcases h with rfl | rfl | rfl | rfl | rfl | rfl <;> rcases h' with rfl | rfl | rfl | rfl | rfl | rfl
  all_goals first
    | exact .inl rfl
    | exact .inr ⟨_, _, _, _, _, _, _, _, _, _, pp1 pR, pp1 pP, n (by decide +kernel)⟩
    | exact .inr ⟨_, _, _, _, _, _, _, _, _, _, pp1 pR, pp1 pN, n (by decide +kernel)⟩
    | exact .inr ⟨_, _, _, _, _, _, _, _, _, _, pp1 pR, pp1 pC, n (by decide +kernel)⟩
    | exact .inr ⟨_, _, _, _, _, _, _, _, _, _, pp1 pR, pp1 pT, n (by decide +kernel)⟩
    | exact .inr ⟨_, _, _, _, _, _, _, _, _, _, pp1 pR, pp2, n (by decide +kernel)⟩
    | exact .inr ⟨_, _, _, _, _, _, _, _, _, _, pp1 pP, pp1 pR, n (by decide +kernel)⟩
    | exact .inr ⟨_, _, _, _, _, _, _, _, _, _, pp1 pP, pp1 pN, n (by decide +kernel)⟩
    | exact .inr ⟨_, _, _, _, _, _, _, _, _, _, pp1 pP, pp1 pC, n (by decide +kernel)⟩
    | exact .inr ⟨_, _, _, _, _, _, _, _, _, _, pp1 pP, pp1 pT, n (by decide +kernel)⟩
    | exact .inr ⟨_, _, _, _, _, _, _, _, _, _, pp1 pP, pp2, n (by decide +kernel)⟩
    | exact .inr ⟨_, _, _, _, _, _, _, _, _, _, pp1 pN, pp1 pR, n (by decide +kernel)⟩
    | exact .inr ⟨_, _, _, _, _, _, _, _, _, _, pp1 pN, pp1 pP, n (by decide +kernel)⟩
    | exact .inr ⟨_, _, _, _, _, _, _, _, _, _, pp1 pN, pp1 pC, n (by decide +kernel)⟩
    | exact .inr ⟨_, _, _, _, _, _, _, _, _, _, pp1 pN, pp1 pT, n (by decide +kernel)⟩
    | exact .inr ⟨_, _, _, _, _, _, _, _, _, _, pp1 pN, pp2, n (by decide +kernel)⟩
    | exact .inr ⟨_, _, _, _, _, _, _, _, _, _, pp1 pC, pp1 pR, n (by decide +kernel)⟩
    | exact .inr ⟨_, _, _, _, _, _, _, _, _, _, pp1 pC, pp1 pP, n (by decide +kernel)⟩
    | exact .inr ⟨_, _, _, _, _, _, _, _, _, _, pp1 pC, pp1 pN, n (by decide +kernel)⟩
    | exact .inr ⟨_, _, _, _, _, _, _, _, _, _, pp1 pC, pp1 pT, n (by decide +kernel)⟩
    | exact .inr ⟨_, _, _, _, _, _, _, _, _, _, pp1 pC, pp2, n (by decide +kernel)⟩
    | exact .inr ⟨_, _, _, _, _, _, _, _, _, _, pp1 pT, pp1 pR, n (by decide +kernel)⟩
    | exact .inr ⟨_, _, _, _, _, _, _, _, _, _, pp1 pT, pp1 pP, n (by decide +kernel)⟩
    | exact .inr ⟨_, _, _, _, _, _, _, _, _, _, pp1 pT, pp1 pN, n (by decide +kernel)⟩
    | exact .inr ⟨_, _, _, _, _, _, _, _, _, _, pp1 pT, pp1 pC, n (by decide +kernel)⟩
    | exact .inr ⟨_, _, _, _, _, _, _, _, _, _, pp1 pT, pp2, n (by decide +kernel)⟩
    | exact .inr ⟨_, _, _, _, _, _, _, _, _, _, pp2, pp1 pR, n (by decide +kernel)⟩
    | exact .inr ⟨_, _, _, _, _, _, _, _, _, _, pp2, pp1 pP, n (by decide +kernel)⟩
    | exact .inr ⟨_, _, _, _, _, _, _, _, _, _, pp2, pp1 pN, n (by decide +kernel)⟩
    | exact .inr ⟨_, _, _, _, _, _, _, _, _, _, pp2, pp1 pC, n (by decide +kernel)⟩
    | exact .inr ⟨_, _, _, _, _, _, _, _, _, _, pp2, pp1 pT, n (by decide +kernel)⟩
theorem r6 {d : D} (h : d ∈ rangeD 6) (y u : D) : ∃ i : Int, d = .int i ∧ ∃ e ∈ Fd y u, ∀ s, ixD s (.lst (Fd y u)) (.int i) = some e := by
  have e : rangeD 6 = [.int 0, .int 1, .int 2, .int 3, .int 4, .int 5] := rfl
  rw [e] at h
  simp only [List.mem_cons, List.not_mem_nil, or_false] at h
  rcases h with rfl | rfl | rfl | rfl | rfl | rfl
  all_goals exact ⟨_, rfl, _, by simp [Fd], fun _ => rfl⟩
theorem rng6 : rngD (.int 6) = some (rangeD 6) := rfl
theorem rng4 : rngD (.int 4) = some (rangeD 4) := rfl
/-- == of a paper of the six with itself -/
theorem same_pp {y u e : D} {s : Sto} {neg : Bool} (hy : Kd 3 y) (hu : Kd 3 u) (h : e ∈ Fd y u) : eqoD MM neg e e s = some (.bl (true != neg), s) := by
  obtain ⟨c, low, i, b, ys, hp, hys⟩ := fd_pp h
  refine eqo_same hp ?_
  have r1 := Kd.refl 3 hy
  have r2 := Kd.refl 3 hu
  have d1 := Kd.dep 3 hy
  have d2 := Kd.dep 3 hu
  rcases hys with rfl | rfl
  · have e1 : (D.tup [y]).dep ≤ 60 := by
      show 1 + Nat.max y.dep 0 ≤ 60
      have : Nat.max y.dep 0 = y.dep := Nat.max_eq_left (Nat.zero_le _)
      omega
    show (if _ then _ else none) = _
    rw [if_pos e1]
    simp [D.eqv, eqvs, r1]
  · have e1 : (D.tup [y, u]).dep ≤ 60 := by
      show 1 + Nat.max y.dep (Nat.max u.dep 0) ≤ 60
      have : Nat.max y.dep (Nat.max u.dep 0) ≤ 4 := Nat.max_le.mpr ⟨d1, Nat.max_le.mpr ⟨d2, Nat.zero_le _⟩⟩
      omega
    show (if _ then _ else none) = _
    rw [if_pos e1]
    simp [D.eqv, eqvs, r1, r2]
section
variable {M : Mch} {s : Sto} {x y z u : D} {a0 a2 a3 a4 a5 a6 a9 a10 : Option D}
def t4 : S := .ite (.or (.cmp .ne (.bi .repr [(.lc (.v 3) (.nm 9) none (.fld (.v 9) "parts") [9])]) (.bi .repr [(.bin .add (.bin .mul (.lst false [(.tup [(.ix (.v 7) (.k (.int 1)))])]) (.k (.int 5))) (.lst false [(.tup [(.ix (.v 7) (.k (.int 1))), (.ix (.v 8) (.k (.int 1)))])]))])) (.cmp .ne (.lc (.v 3) (.nm 9) none (.bo (.v 9)) [9]) (.lst false [(.k (.bl true)), (.k (.bl true)), (.k (.bl false)), (.k (.bl true)), (.k (.bl false)), (.k (.bl false))]))) [.ret (.k (.bl false))] []
theorem st4 (hy : Kd 3 y) (hu : Kd 3 u) : evS MM t4 (LL a0 a2 (some (.lst (Fd y u))) a4 a5 a6 (.tup [x, y]) (.tup [z, u]) a9 a10) s = some (.nx, LL a0 a2 (some (.lst (Fd y u))) a4 a5 a6 (.tup [x, y]) (.tup [z, u]) a9 a10, s) := by
  obtain ⟨t, ht⟩ := repr_ok (l := [.tup [y], .tup [y], .tup [y], .tup [y], .tup [y], .tup [y, u]]) hy hu (by simp) (by simp)
  have b1 : ∀ s, boD MM (mk1 "RestsHere" "restshere" "settings" y) s = some (.bl true, s) := fun s => bo_pp (pp1 pR)
  have b2 : ∀ s, boD MM (mk1 "Path" "path" "settings" y) s = some (.bl true, s) := fun s => bo_pp (pp1 pP)
  have b3 : ∀ s, boD MM (mk1 "Never" "never" "settings" y) s = some (.bl false, s) := fun s => bo_pp (pp1 pN)
  have b4 : ∀ s, boD MM (mk1 "Calm" "calm" "order" y) s = some (.bl true, s) := fun s => bo_pp (pp1 pC)
  have b5 : ∀ s, boD MM (mk1 "Turning" "turning" "ring" y) s = some (.bl false, s) := fun s => bo_pp (pp1 pT)
  have b6 : ∀ s, boD MM (mk2 y u) s = some (.bl false, s) := fun s => bo_pp pp2
  have r : ∀ s, biD s .repr [.lst [.tup [y], .tup [y], .tup [y], .tup [y], .tup [y], .tup [y, u]]] = some (.str t) := fun _ => ht
  have m5 : binD .mul (.lst [.tup [y]]) (.int 5) = some (.lst [.tup [y], .tup [y], .tup [y], .tup [y], .tup [y]]) := by simp [binD, mostL, List.replicate]
  have ad : binD .add (.lst [.tup [y], .tup [y], .tup [y], .tup [y], .tup [y]]) (.lst [.tup [y, u]]) = some (.lst [.tup [y], .tup [y], .tup [y], .tup [y], .tup [y], .tup [y, u]]) := by simp [binD, mostL]
  have c : cmpD .ne (.lst [.bl true, .bl true, .bl false, .bl true, .bl false, .bl false]) (.lst [.bl true, .bl true, .bl false, .bl true, .bl false, .bl false]) = some false := by decide +kernel
  generalize MM = M at *
  simp [t4, evS, evSs, evE, evEs, seqD, Fd, turns, asg, wipeD, pt1, pt2, some1, mostL, r, m5, ad, ix2_1, ne_str, b1, b2, b3, b4, b5, b6, c]
def t5 : S := .set (.nm 5) (.lst false [(.fld (.ix (.v 3) (.k (.int 0))) "settings"), (.fld (.ix (.v 3) (.k (.int 1))) "settings"), (.fld (.ix (.v 3) (.k (.int 2))) "settings"), (.fld (.ix (.v 3) (.k (.int 3))) "order"), (.fld (.ix (.v 3) (.k (.int 4))) "ring"), (.fld (.ix (.v 3) (.k (.int 5))) "rows"), (.fld (.ix (.v 3) (.k (.int 5))) "rankings")])
theorem st5 {one two : D} : evS M t5 (LL a0 a2 (some (.lst (Fd y u))) a4 a5 a6 one two a9 a10) s = some (.nx, LL a0 a2 (some (.lst (Fd y u))) a4 (some (.lst [y, y, y, y, y, y, u])) a6 one two a9 a10, s) := by
  have i0 : ixD s (.lst (Fd y u)) (.int 0) = some (mk1 "RestsHere" "restshere" "settings" y) := rfl
  have i1 : ixD s (.lst (Fd y u)) (.int 1) = some (mk1 "Path" "path" "settings" y) := rfl
  have i2 : ixD s (.lst (Fd y u)) (.int 2) = some (mk1 "Never" "never" "settings" y) := rfl
  have i3 : ixD s (.lst (Fd y u)) (.int 3) = some (mk1 "Calm" "calm" "order" y) := rfl
  have i4 : ixD s (.lst (Fd y u)) (.int 4) = some (mk1 "Turning" "turning" "ring" y) := rfl
  have i5 : ixD s (.lst (Fd y u)) (.int 5) = some (mk2 y u) := rfl
  have g1 : ∀ {c low : Str}, fldD s "settings" (mk1 c low "settings" y) = some y := fAt (by decide) (by decide)
  have g2 : ∀ {c low : Str}, fldD s "order" (mk1 c low "order" y) = some y := fAt (by decide) (by decide)
  have g3 : ∀ {c low : Str}, fldD s "ring" (mk1 c low "ring" y) = some y := fAt (by decide) (by decide)
  simp [t5, evS, evE, evEs, i0, i1, i2, i3, i4, i5, g1, g2, g3, fAr, fAk, mostL, asgS]
def t6 : S := .ite (.or (.cmp .ne (.bi .repr [(.v 5)]) (.bi .repr [(.bin .add (.bin .mul (.lst false [(.ix (.v 7) (.k (.int 1)))]) (.k (.int 6))) (.lst false [(.ix (.v 8) (.k (.int 1)))]))])) (.cmp .ne (.lcr (.k (.int 6)) (.nm 6) (some (.or (.eqo true (.ix (.v 3) (.v 6)) (.ix (.v 4) (.v 6))) (.not (.eqo false (.ix (.v 3) (.v 6)) (.ix (.v 4) (.v 6)))))) (.v 6) [6]) (.lst false []))) [.ret (.k (.bl false))] []
theorem ne_nil : cmpD .ne (.lst []) (.lst []) = some false := by decide +kernel
theorem stt6 (hy : Kd 3 y) (hu : Kd 3 u) : evS MM t6 (LL a0 a2 (some (.lst (Fd y u))) (some (.lst (Fd y u))) (some (.lst [y, y, y, y, y, y, u])) a6 (.tup [x, y]) (.tup [z, u]) a9 a10) s = some (.nx, LL a0 a2 (some (.lst (Fd y u))) (some (.lst (Fd y u))) (some (.lst [y, y, y, y, y, y, u])) a6 (.tup [x, y]) (.tup [z, u]) a9 a10, s) := by
  obtain ⟨t, ht⟩ := repr_ok (l := [y, y, y, y, y, y, u]) hy hu (by simp) (by simp)
  have r : ∀ s, biD s .repr [.lst [y, y, y, y, y, y, u]] = some (.str t) := fun _ => ht
  have m5 : binD .mul (.lst [y]) (.int 6) = some (.lst [y, y, y, y, y, y]) := by simp [binD, mostL, List.replicate]
  have ad : binD .add (.lst [y, y, y, y, y, y]) (.lst [u]) = some (.lst [y, y, y, y, y, y, u]) := by simp [binD, mostL]
  have se : ∀ {e : D} {s : Sto} {neg : Bool}, e ∈ Fd y u → eqoD MM neg e e s = some (.bl (true != neg), s) := fun h => same_pp hy hu h
  have hr := fun d (h : d ∈ rangeD 6) => r6 h y u
  have tr : turns (fun d s => (asg (.nm 6) d (wipeD (LL a0 a2 (some (.lst (Fd y u))) (some (.lst (Fd y u))) (some (.lst [y, y, y, y, y, y, u])) a6 (.tup [x, y]) (.tup [z, u]) a9 a10) [6])).bind fun l1 => (evE MM (.or (.eqo true (.ix (.v 3) (.v 6)) (.ix (.v 4) (.v 6))) (.not (.eqo false (.ix (.v 3) (.v 6)) (.ix (.v 4) (.v 6))))) l1 s).bind fun q => match q.1 with
          | .bl true => (evE MM (.v 6) l1 q.2).map some1
          | .bl false => some (none, q.2)
          | _ => none) (rangeD 6) s = some ([], s) := by
    refine turns_none fun d hd => ?_
    obtain ⟨i, rfl, e, he, hi⟩ := hr d hd
    have s1 := fun s => se (s := s) (neg := true) he
    have s2 := fun s => se (s := s) (neg := false) he
    generalize MM = M at *
    simp [asg, wipeD, evE, hi, s1, s2]
  have c1 : evE MM (.lcr (.k (.int 6)) (.nm 6) (some (.or (.eqo true (.ix (.v 3) (.v 6)) (.ix (.v 4) (.v 6))) (.not (.eqo false (.ix (.v 3) (.v 6)) (.ix (.v 4) (.v 6)))))) (.v 6) [6]) (LL a0 a2 (some (.lst (Fd y u))) (some (.lst (Fd y u))) (some (.lst [y, y, y, y, y, y, u])) a6 (.tup [x, y]) (.tup [z, u]) a9 a10) s = some (.lst [], s) := by
    have e6 : ∀ l : Sl, evE MM (.k (.int 6)) l s = some (.int 6, s) := fun l => by simp [evE]
    rw [evE, e6]
    simp only [Option.bind_some, rng6]
    refine (congrArg (fun o : Option (List D × Sto) => o.bind fun q => if q.1.length ≤ mostL then some (D.lst q.1, q.2) else none) tr).trans ?_
    simp [mostL]
  rw [t6, evS, evE, evE]
  have c0 : evE MM (.bi .repr [.v 5]) (LL a0 a2 (some (.lst (Fd y u))) (some (.lst (Fd y u))) (some (.lst [y, y, y, y, y, y, u])) a6 (.tup [x, y]) (.tup [z, u]) a9 a10) s = some (.str t, s) := by simp [evE, evEs, r]
  have c0' : evE MM (.bi .repr [(.bin .add (.bin .mul (.lst false [(.ix (.v 7) (.k (.int 1)))]) (.k (.int 6))) (.lst false [(.ix (.v 8) (.k (.int 1)))]))]) (LL a0 a2 (some (.lst (Fd y u))) (some (.lst (Fd y u))) (some (.lst [y, y, y, y, y, y, u])) a6 (.tup [x, y]) (.tup [z, u]) a9 a10) s = some (.str t, s) := by simp [evE, evEs, r, m5, ad, ix2_1, mostL]
  rw [c0]
  simp only [Option.bind_some]
  rw [c0']
  simp only [Option.bind_some, ne_str, Option.map_some]
  rw [evE, c1]
  simp [evE, evEs, evSs, mostL, ne_nil]
end
end K98

namespace K98
open PySem L2 G
theorem isd {c low : Str} {i : Nat} {b : Bool} (h : pap c = some (i, low, b)) : anyIs tb (.cls c) [.cls "Denial"] = some (!b) := by
  have : ¬ (("Denial" : Str) = "Paper") := by decide
  cases b <;> simp [anyIs, tb, isaT, h, this]
section
variable {s : Sto} {x y z u : D} {a0 a2 a3 a4 a5 a6 a9 a10 : Option D}
def t7 : S := .ite (.cmp .ne (.lcr (.k (.int 6)) (.nm 6) (some (.or (.not (.isi (.ix (.v 3) (.v 6)) [.cls "Paper"])) (.cmp .eq (.isi (.ix (.v 3) (.v 6)) [.cls "Denial"]) (.bo (.ix (.v 3) (.v 6)))))) (.v 6) [6]) (.lst false [])) [.ret (.k (.bl false))] []
theorem st7 {one two : D} : evS MM t7 (LL a0 a2 (some (.lst (Fd y u))) a4 a5 a6 one two a9 a10) s = some (.nx, LL a0 a2 (some (.lst (Fd y u))) a4 a5 a6 one two a9 a10, s) := by
  have hr := fun d (h : d ∈ rangeD 6) => r6 h y u
  have tr : turns (fun d s => (asg (.nm 6) d (wipeD (LL a0 a2 (some (.lst (Fd y u))) a4 a5 a6 one two a9 a10) [6])).bind fun l1 => (evE MM (.or (.not (.isi (.ix (.v 3) (.v 6)) [.cls "Paper"])) (.cmp .eq (.isi (.ix (.v 3) (.v 6)) [.cls "Denial"]) (.bo (.ix (.v 3) (.v 6))))) l1 s).bind fun q => match q.1 with
          | .bl true => (evE MM (.v 6) l1 q.2).map some1
          | .bl false => some (none, q.2)
          | _ => none) (rangeD 6) s = some ([], s) := by
    refine turns_none fun d hd => ?_
    obtain ⟨i, rfl, e, he, hi⟩ := hr d hd
    obtain ⟨c, low, j, b, ys, hp, -⟩ := fd_pp he
    have s1 := fun s => bo_pp (s := s) hp
    have i1 : anyIs MM.tb (.cls c) [.cls "Paper"] = some true := isp hp.pap
    have i2 : anyIs MM.tb (.cls c) [.cls "Denial"] = some (!b) := isd hp.pap
    have ce : cmpD .eq (.bl (!b)) (.bl b) = some false := by cases b <;> decide +kernel
    have ty := hp.ty
    generalize MM = M at *
    simp [asg, wipeD, evE, hi, ty, i1, i2, s1, ce]
  have c1 : evE MM (.lcr (.k (.int 6)) (.nm 6) (some (.or (.not (.isi (.ix (.v 3) (.v 6)) [.cls "Paper"])) (.cmp .eq (.isi (.ix (.v 3) (.v 6)) [.cls "Denial"]) (.bo (.ix (.v 3) (.v 6)))))) (.v 6) [6]) (LL a0 a2 (some (.lst (Fd y u))) a4 a5 a6 one two a9 a10) s = some (.lst [], s) := by
    have e6 : ∀ l : Sl, evE MM (.k (.int 6)) l s = some (.int 6, s) := fun l => by simp [evE]
    rw [evE, e6]
    simp only [Option.bind_some, rng6]
    refine (congrArg (fun o : Option (List D × Sto) => o.bind fun q => if q.1.length ≤ mostL then some (D.lst q.1, q.2) else none) tr).trans ?_
    simp [mostL]
  rw [t7, evS, evE, c1]
  simp [evE, evEs, evSs, mostL, ne_nil]
def t8b : S := .ite (.or (.cmp .ne (.lc (.v 3) (.nm 10) (some (.and (.eqo false (.v 10) (.ix (.v 3) (.v 6))) (.cmp .ne (.fld (.v 10) "word") (.fld (.ix (.v 3) (.v 6)) "word")))) (.v 10) [10]) (.lst false [])) (.or (.eqo false (.ix (.v 3) (.v 6)) (.fld (.ix (.v 3) (.v 6)) "parts")) (.eqo false (.ix (.v 3) (.v 6)) (.k (.int 5))))) [.ret (.k (.bl false))] []
def t8 : S := .forr (.k (.int 6)) (.nm 6) [t8b]
theorem st8b {one two : D} {i : Int} {e : D} (hy : Kd 3 y) (hu : Kd 3 u) (he : e ∈ Fd y u) (hi : ∀ s, ixD s (.lst (Fd y u)) (.int i) = some e) : evS MM t8b (LL a0 a2 (some (.lst (Fd y u))) a4 a5 (some (.int i)) one two a9 a10) s = some (.nx, LL a0 a2 (some (.lst (Fd y u))) a4 a5 (some (.int i)) one two a9 a10, s) := by
  obtain ⟨c, low, j, b, ys, hp, -⟩ := fd_pp he
  have tr : turns (fun d s => (asg (.nm 10) d (wipeD (LL a0 a2 (some (.lst (Fd y u))) a4 a5 (some (.int i)) one two a9 a10) [10])).bind fun l1 => (evE MM (.and (.eqo false (.v 10) (.ix (.v 3) (.v 6))) (.cmp .ne (.fld (.v 10) "word") (.fld (.ix (.v 3) (.v 6)) "word"))) l1 s).bind fun q => match q.1 with
          | .bl true => (evE MM (.v 10) l1 q.2).map some1
          | .bl false => some (none, q.2)
          | _ => none) (Fd y u) s = some ([], s) := by
    refine turns_none fun d hd => ?_
    rcases fd_two hd he with rfl | ⟨c1, low1, i1, b1, ys1, c2, low2, i2, b2, ys2, hp1, hp2, hne⟩
    · have s1 := fun s => same_pp (s := s) (neg := false) hy hu hd
      have w := hp.w
      have n := ne_str low
      generalize MM = M at *
      simp [asg, wipeD, evE, hi, s1, w, n]
    · have s1 := fun s => eqo_diff (s := s) (neg := false) hp1 hp2 hne
      generalize MM = M at *
      simp [asg, wipeD, evE, hi, s1]
  have c1 : evE MM (.lc (.v 3) (.nm 10) (some (.and (.eqo false (.v 10) (.ix (.v 3) (.v 6))) (.cmp .ne (.fld (.v 10) "word") (.fld (.ix (.v 3) (.v 6)) "word")))) (.v 10) [10]) (LL a0 a2 (some (.lst (Fd y u))) a4 a5 (some (.int i)) one two a9 a10) s = some (.lst [], s) := by
    rw [evE]
    have e0 : evE MM (.v 3) (LL a0 a2 (some (.lst (Fd y u))) a4 a5 (some (.int i)) one two a9 a10) s = some (.lst (Fd y u), s) := by simp [evE]
    rw [e0]
    simp only [Option.bind_some, seqD]
    refine (congrArg (fun o : Option (List D × Sto) => o.bind fun q => if q.1.length ≤ mostL then some (D.lst q.1, q.2) else none) tr).trans ?_
    simp [mostL]
  have q1 : ∀ s, eqoD MM false e (.tup ys) s = some (.bl (false != false), s) := fun s => eqo_of hp (t := .ty "tuple") rfl (nf_ty hp.pap (.inl rfl)) (eq_other (k := 56) (n := "tuple") rfl (by decide))
  have q2 : ∀ s, eqoD MM false e (.int 5) s = some (.bl (false != false), s) := fun s => eqo_of hp (t := .ty "int") rfl (nf_ty hp.pap (.inr rfl)) (eq_other (k := 56) (n := "int") rfl (by decide))
  have pp := hp.p
  rw [t8b, evS, evE, evE, c1]
  generalize MM = M at *
  simp [evE, evEs, evSs, mostL, ne_nil, hi, pp, q1, q2]
theorem fors_same {f : D → Sl → Sto → Option (Out × Sl × Sto)} {L : Option D → Sl} {s : Sto} : ∀ {ds : List D} {a : Option D}, (∀ d ∈ ds, ∀ a, f d (L a) s = some (.nx, L (some d), s)) → ∃ a', fors f ds (L a) s = some (.nx, L a', s)
  | [], a, _ => ⟨a, rfl⟩
  | d :: ds, a, h => by
    obtain ⟨a', e⟩ := fors_same (f := f) (L := L) (s := s) (ds := ds) (a := some d) fun x hx => h x (List.mem_cons_of_mem _ hx)
    refine ⟨a', ?_⟩
    unfold fors
    rw [h d List.mem_cons_self a]
    exact e
theorem st8 {one two : D} (hy : Kd 3 y) (hu : Kd 3 u) : ∃ a6', evS MM t8 (LL a0 a2 (some (.lst (Fd y u))) a4 a5 a6 one two a9 a10) s = some (.nx, LL a0 a2 (some (.lst (Fd y u))) a4 a5 a6' one two a9 a10, s) := by
  obtain ⟨a', e⟩ := fors_same (f := fun d l s => (asg (.nm 6) d l).bind fun l1 => evSs MM [t8b] l1 s) (L := fun a6 => LL a0 a2 (some (.lst (Fd y u))) a4 a5 a6 one two a9 a10) (s := s) (ds := rangeD 6) (a := a6) fun d hd a => by
    obtain ⟨i, rfl, e, he, hi⟩ := r6 hd y u
    have z : asg (.nm 6) (.int i) (LL a0 a2 (some (.lst (Fd y u))) a4 a5 a one two a9 a10) = some (LL a0 a2 (some (.lst (Fd y u))) a4 a5 (some (.int i)) one two a9 a10) := by simp [asg]
    show (asg (.nm 6) (.int i) (LL a0 a2 (some (.lst (Fd y u))) a4 a5 a one two a9 a10)).bind _ = _
    rw [z]
    simp only [Option.bind_some]
    rw [evSs_cons, st8b hy hu he hi]
    rfl
  refine ⟨a', ?_⟩
  rw [t8, evS, evE]
  simp only [Option.bind_some, rng6]
  exact e
def t9 : S := .ite (.or (.cmp .ne (.eqo false (.new "RestlessHere" [(.ix (.v 7) (.k (.int 0))), (.ix (.v 8) (.k (.int 0)))]) (.new "RestlessHere" [(.ix (.v 8) (.k (.int 0))), (.ix (.v 7) (.k (.int 0)))])) (.cmp .eq (.ix (.v 7) (.k (.int 1))) (.ix (.v 8) (.k (.int 1))))) (.cmp .ne (.eqo false (.new "Path" [(.ix (.v 7) (.k (.int 0)))]) (.new "Path" [(.ix (.v 8) (.k (.int 0)))])) (.cmp .eq (.ix (.v 7) (.k (.int 1))) (.ix (.v 8) (.k (.int 1)))))) [.ret (.k (.bl false))] []
theorem cmp_eq {a b : D} {r : Bool} (h : a.dep ≤ 60) (e : a.eqv b = some r) : cmpD .eq a b = some r := by
  show (if _ then _ else none) = _
  rw [if_pos h, e]
theorem st9 (hx : Kp x y) (hz : Kp z u) (hy : Kd 3 y) (hu : Kd 3 u) : evS MM t9 (LL a0 a2 a3 a4 a5 a6 (.tup [x, y]) (.tup [z, u]) a9 a10) s = some (.nx, LL a0 a2 a3 a4 a5 a6 (.tup [x, y]) (.tup [z, u]) a9 a10, s) := by
  obtain ⟨r, e1, e2⟩ := Kd.sym 3 3 hy hu
  have d1 := Kd.dep 3 hy
  have d2 := Kd.dep 3 hu
  have N := news hx hz
  have N' := news hz hx
  have q0 : cmpD .eq y u = some r := cmp_eq (by omega) e1
  have q1 : ∀ s, eqoD MM false (mk2 y u) (mk2 u y) s = some (.bl (r != false), s) := fun s => eqo_of pp2 (t := .cls "RestlessHere") rfl (nf_pp (pp2 (y := y) (z := u)).pap (pp2 (y := y) (z := u)).pap) (eq_parts (k := 56) pp2 pp2 (cmp_eq (by
      show 1 + Nat.max y.dep (Nat.max u.dep 0) ≤ 60
      have : Nat.max y.dep (Nat.max u.dep 0) ≤ 4 := Nat.max_le.mpr ⟨d1, Nat.max_le.mpr ⟨d2, Nat.zero_le _⟩⟩
      omega) (by simp [D.eqv, eqvs, e1, e2])))
  have q2 : ∀ s, eqoD MM false (mk1 "Path" "path" "settings" y) (mk1 "Path" "path" "settings" u) s = some (.bl (r != false), s) := fun s => eqo_of (pp1 pP) (t := .cls "Path") rfl (nf_pp pP pP) (eq_parts (k := 56) (pp1 pP) (pp1 pP) (cmp_eq (by
      show 1 + Nat.max y.dep 0 ≤ 60
      have : Nat.max y.dep 0 = y.dep := Nat.max_eq_left (Nat.zero_le _)
      omega) (by simp [D.eqv, eqvs, e1])))
  have nb : cmpD .ne (.bl r) (.bl r) = some false := by cases r <;> decide +kernel
  generalize MM = M at *
  simp [t9, evS, evSs, evE, evEs, ix2_0, ix2_1, N.l, N'.l, N.p, N'.p, q0, q1, q2, nb]
end
end K98

namespace K98
open PySem L2 G
def t0 : S := .par 7 8 (.call 14 false [(.v 1), (.k (.int 3))]) (.call 14 false [(.v 1), (.k (.int 3))])
theorem body_eq : b15 = [.set (.nm 1) (.call 11 false [(.v 0)]), .forr (.k (.int 4)) (.nm 2) [t0, t1, t2, t3, t4, t5, t6, t7, t8, t9], .ret (.k (.bl true))] := rfl
theorem evSs_step {M : Mch} {a : S} {r : List S} {l l' : Sl} {s s' : Sto} (h : evS M a l s = some (.nx, l', s')) : evSs M (a :: r) l s = evSs M r l' s' := by
  rw [evSs_cons, h]
  rfl
theorem st0 {M : Mch} {a0 a2 a3 a4 a5 a6 a7 a8 a9 a10 : Option D} {s s1 s2 : Sto} {one two : D} (c1 : M.call 14 [.loc 0, .int 3] s = some (one, s1)) (c2 : M.call 14 [.loc 0, .int 3] s1 = some (two, s2)) :
    evS M t0 [a0, some (.loc 0), a2, a3, a4, a5, a6, a7, a8, a9, a10] s = some (.nx, LL a0 a2 a3 a4 a5 a6 one two a9 a10, s2) := by
  simp [t0, evS, evE, evEs, callD, c1, c2]
/-- one turn -/
theorem turn_ok {w : Wl} {n : Int} {a0 a2 a3 a4 a5 a6 a7 a8 a9 a10 : Option D} (hw : w.Ok n) (hn : n ≤ 80000) : ∃ (w' : Wl) (a3' a4' a5' a6' a7' a8' : Option D), w'.Ok (n + 100) ∧
    evSs MM [t0, t1, t2, t3, t4, t5, t6, t7, t8, t9] [a0, some (.loc 0), a2, a3, a4, a5, a6, a7, a8, a9, a10] w.o = some (.nx, [a0, some (.loc 0), a2, a3', a4', a5', a6', a7', a8', a9, a10], w'.o) := by
  obtain ⟨x, y, w1, e1, o1, v1⟩ := value_ok 3 (k := 53) (w := w) (n := n) (by omega) hw (by omega)
  obtain ⟨z, u, w2, e2, o2, v2⟩ := value_ok 3 (k := 53) (w := w1) (n := n + Bd 3) (by omega) o1 (by have : Bd 3 = 30 := rfl; omega)
  have b3 : Bd 3 = 30 := rfl
  have hx := Vl.kp (by omega) v1
  have hz := Vl.kp (by omega) v2
  have hy2 := Vl.kp (by omega) (Vl.idem 3 v1)
  have hu2 := Vl.kp (by omega) (Vl.idem 3 v2)
  have ky := Vl.kd 3 v1
  have ku := Vl.kd 3 v2
  obtain ⟨a6', s8⟩ := st8 (s := w2.o) (a0 := a0) (a2 := a2) (a4 := some (.lst (Fd y u))) (a5 := some (.lst [y, y, y, y, y, y, u])) (a6 := a6) (a9 := a9) (a10 := a10) (one := .tup [x, y]) (two := .tup [z, u]) ky ku
  refine ⟨w2, some (.lst (Fd y u)), some (.lst (Fd y u)), some (.lst [y, y, y, y, y, y, u]), a6', some (.tup [x, y]), some (.tup [z, u]), o2.up (by omega), ?_⟩
  have c1 : MM.call 14 [.loc 0, .int 3] w.o = some (.tup [x, y], w1.o) := e1
  have c2 : MM.call 14 [.loc 0, .int 3] w1.o = some (.tup [z, u], w2.o) := e2
  have s0 := st0 (a0 := a0) (a2 := a2) (a3 := a3) (a4 := a4) (a5 := a5) (a6 := a6) (a7 := a7) (a8 := a8) (a9 := a9) (a10 := a10) c1 c2
  have nil : ∀ l s, evSs MM [] l s = some (.nx, l, s) := fun l s => by rw [evSs]
  exact (evSs_step s0).trans <| (evSs_step (st1 (news hx hz))).trans <| (evSs_step (st2 (news hy2 hu2))).trans <| (evSs_step st3).trans <| (evSs_step (st4 ky ku)).trans <| (evSs_step st5).trans <|
    (evSs_step (stt6 ky ku)).trans <| (evSs_step st7).trans <| (evSs_step s8).trans <| (evSs_step (st9 hx hz ky ku)).trans <| nil _ _
end K98

namespace K98
open PySem L2 G
theorem turns4 : ∀ (ds : List D) {w : Wl} {n : Int} {a0 a2 a3 a4 a5 a6 a7 a8 a9 a10 : Option D}, w.Ok n → n + 100 * ds.length ≤ 80000 → ∃ (w' : Wl) (l' : Sl),
    fors (fun d l s => (asg (.nm 2) d l).bind fun l1 => evSs MM [t0, t1, t2, t3, t4, t5, t6, t7, t8, t9] l1 s) ds [a0, some (.loc 0), a2, a3, a4, a5, a6, a7, a8, a9, a10] w.o = some (.nx, l', w'.o)
  | [], w, n, _, _, _, _, _, _, _, _, _, _, _, _ => ⟨w, _, rfl⟩
  | d :: ds, w, n, a0, a2, a3, a4, a5, a6, a7, a8, a9, a10, hw, hn => by
    rw [List.length_cons] at hn
    obtain ⟨w1, b3, b4, b5, b6, b7, b8, o1, e1⟩ := turn_ok (a0 := a0) (a2 := some d) (a3 := a3) (a4 := a4) (a5 := a5) (a6 := a6) (a7 := a7) (a8 := a8) (a9 := a9) (a10 := a10) hw (by omega)
    obtain ⟨w', l', e2⟩ := turns4 ds (a0 := a0) (a2 := some d) (a3 := b3) (a4 := b4) (a5 := b5) (a6 := b6) (a7 := b7) (a8 := b8) (a9 := a9) (a10 := a10) o1 (by omega)
    refine ⟨w', l', ?_⟩
    have z : asg (.nm 2) d [a0, some (.loc 0), a2, a3, a4, a5, a6, a7, a8, a9, a10] = some [a0, some (.loc 0), some d, a3, a4, a5, a6, a7, a8, a9, a10] := by simp [asg]
    unfold fors
    rw [z]
    simp only [Option.bind_some]
    rw [e1]
    exact e2
end K98

namespace K98
open PySem L2 G
/-- the well of a script -/
theorem well_ok {k : Nat} {ns : List Int} (h : ns.length ≤ 63) : ∃ w : Wl, w.Ok 0 ∧ callF tb fns (k + 1) 11 [.scr (ns.map .int)] [] = some (.loc 0, w.o) := by
  refine ⟨⟨ns.take 60, 0, 0⟩, ⟨by simp, by simp, by simp⟩, ?_⟩
  rw [call_succ (F := f11) rfl]
  have sl : sluD (.scr (ns.map .int)) (.int 60) = some (.lst ((ns.take 60).map .int)) := by
    show some (D.lst ((ns.map D.int).take (HT.sIx _ _ (some 60)))) = _
    rw [List.map_take, List.length_map]
    rw [show HT.sIx ns.length ns.length (some 60) = min 60 ns.length from HT.sIx_nat _ _ 60]
    by_cases q : ns.length ≤ 60
    · rw [Nat.min_eq_right q, List.take_of_length_le (by simp), List.take_of_length_le (by simp; exact q)]
    · rw [Nat.min_eq_left (by omega)]
  have tr : turns (fun d s => (asg (.nm 1) d (wipeD [some (D.scr (ns.map .int)), none] [1])).bind fun l1 => (evE (⟨tb, callF tb fns k, callF tb fns (k - 2)⟩ : Mch) (.bi .int [.v 1]) l1 s).map some1) ((ns.take 60).map D.int) [] = some ((ns.take 60).map D.int, []) := by
    have := turns_map (f := fun d s => (asg (.nm 1) d (wipeD [some (D.scr (ns.map .int)), none] [1])).bind fun l1 => (evE (⟨tb, callF tb fns k, callF tb fns (k - 2)⟩ : Mch) (.bi .int [.v 1]) l1 s).map some1) (s := []) (g := id) (l := (ns.take 60).map D.int) fun d hd => by
      obtain ⟨i, _, rfl⟩ := List.mem_map.mp hd
      simp [asg, wipeD, evE, evEs, biD, some1]
    simpa using this
  have hz : ((ns.take 60).map D.int).length ≤ mostL := by
    have : mostL = 100000 := rfl
    rw [List.length_map, List.length_take]; omega
  have c1 : evE (⟨tb, callF tb fns k, callF tb fns (k - 2)⟩ : Mch) (.lc (.slu (.v 0) (.k (.int 60))) (.nm 1) none (.bi .int [(.v 1)]) [1]) [some (D.scr (ns.map .int)), none] [] = some (.lst ((ns.take 60).map D.int), []) := by
    have e0 : evE (⟨tb, callF tb fns k, callF tb fns (k - 2)⟩ : Mch) (.slu (.v 0) (.k (.int 60))) [some (D.scr (ns.map .int)), none] [] = some (.lst ((ns.take 60).map D.int), []) := by simp [evE, sl]
    rw [evE, e0]
    simp only [Option.bind_some, seqD]
    rw [tr]
    simp only [Option.bind_some]
    rw [if_pos hz]
  show ((evSs _ b11 [some (D.scr (ns.map .int)), none] []).map outD) = _
  rw [b11, evSs_cons, evS, evE, evEs, c1]
  simp [evE, evEs, mostL, outD, Wl.o]
end K98

namespace K98
open PySem L2 G
theorem sA {M : Mch} {sc : D} {s s1 : Sto} (c1 : M.call 11 [sc] s = some (.loc 0, s1)) : evS M (.set (.nm 1) (.call 11 false [(.v 0)])) [some sc, none, none, none, none, none, none, none, none, none, none] s = some (.nx, [some sc, some (.loc 0), none, none, none, none, none, none, none, none, none], s1) := by
  simp [evS, evE, evEs, callD, c1, asgS]
theorem sB {M : Mch} {b : List S} {l l' : Sl} {s s' : Sto} (h : fors (fun d l s => (asg (.nm 2) d l).bind fun l1 => evSs M b l1 s) (rangeD 4) l s = some (.nx, l', s')) : evS M (.forr (.k (.int 4)) (.nm 2) b) l s = some (.nx, l', s') := by
  have e6 : evE M (.k (.int 4)) l s = some (.int 4, s) := by simp [evE]
  rw [evS, e6]
  simp only [Option.bind_some, rng4]
  exact h
theorem sC {M : Mch} {l : Sl} {s : Sto} : evSs M [.ret (.k (.bl true))] l s = some (.ret (.bl true), l, s) := by simp [evSs, evS, evE]
theorem sD {M : Mch} {sc : D} {s s1 s2 : Sto} {b : List S} {l' : Sl} (c1 : M.call 11 [sc] s = some (.loc 0, s1))
    (h : fors (fun d l s => (asg (.nm 2) d l).bind fun l1 => evSs M b l1 s) (rangeD 4) [some sc, some (.loc 0), none, none, none, none, none, none, none, none, none] s1 = some (.nx, l', s2)) :
    evSs M [.set (.nm 1) (.call 11 false [(.v 0)]), .forr (.k (.int 4)) (.nm 2) b, .ret (.k (.bl true))] [some sc, none, none, none, none, none, none, none, none, none, none] s = some (.ret (.bl true), l', s2) :=
  (evSs_step (sA c1)).trans <| (evSs_step (sB h)).trans sC
theorem law_ok {ns : List Int} (h : ns.length ≤ 63) : ∃ s', callF tb fns 60 15 [.scr (ns.map .int)] [] = some (.bl true, s') := by
  obtain ⟨w, hw, e1⟩ := well_ok (k := 58) h
  obtain ⟨w', l', e2⟩ := turns4 (rangeD 4) (a0 := some (.scr (ns.map .int))) (a2 := none) (a3 := none) (a4 := none) (a5 := none) (a6 := none) (a7 := none) (a8 := none) (a9 := none) (a10 := none) hw (by
    have : (rangeD 4).length = 4 := rfl
    omega)
  refine ⟨w'.o, ?_⟩
  have e3 := sD (M := MM) e1 e2
  rw [← body_eq] at e3
  have e4 := call_succ (k := 59) (f := 15) (ds := [.scr (ns.map .int)]) (s := []) (F := f15) rfl
  rw [e4]
  show ((evSs MM b15 [some (D.scr (ns.map .int)), none, none, none, none, none, none, none, none, none, none] []).map outD) = _
  rw [e3]
  rfl
end K98

namespace K98
open PySem L2 G PySem.W
def defN : Stmt → Str
  | .FunctionDef n _ _ _ _ _ _ _ _ _ => n
  | _ => ""
def dfT (i : Nat) : Df := ⟨(defN (top i), none), defN (top i), defN (top i), defArgs (top i), defBody (top i), defScope (top i), [], []⟩
def dfC (c q : Str) (i j : Nat) (cl : List Str) : Df := ⟨(c, some (defN (inC i j))), defN (inC i j), q, defArgs (inC i j), defBody (inC i j), defScope (inC i j), cl, []⟩
def dfs : List Df := [dfT 1, dfC "Paper" "Paper.__init__" 2 0 [], dfC "Paper" "Paper.__eq__" 2 1 [], dfC "Paper" "Paper.__bool__" 2 2 [], dfC "Denial" "Denial.__bool__" 3 0 [],
  dfC "RestsHere" "RestsHere.__init__" 5 0 ["__class__"], dfC "RestlessHere" "RestlessHere.__init__" 6 0 ["__class__"], dfC "Path" "Path.__init__" 8 0 ["__class__"], dfC "Never" "Never.__init__" 9 0 ["__class__"], dfC "Calm" "Calm.__init__" 10 0 ["__class__"], dfC "Turning" "Turning.__init__" 11 0 ["__class__"],
  dfT 13, dfT 14, dfT 15, dfT 16, dfT 17]
def pls : List (Str × Option Str) := [("kept", none), ("Paper", some "__init__"), ("Paper", some "__eq__"), ("Paper", some "__bool__"), ("Denial", some "__bool__"), ("RestsHere", some "__init__"), ("RestlessHere", some "__init__"), ("Path", some "__init__"), ("Never", some "__init__"), ("Calm", some "__init__"), ("Turning", some "__init__"),
  ("_law_well", none), ("_law_draw", none), ("_law_one", none), ("_law_value", none), ("law", none)]
def fadK (K : Frag) (n : Nat) : Addr := match pls[n]? with
  | some p => He.fAd K p
  | none => 0
def six : List (Str × Nat × Bool) := [("RestsHere", 5, true), ("RestlessHere", 6, false), ("Path", 7, true), ("Never", 8, false), ("Calm", 9, true), ("Turning", 10, false)]
def strO : Option Value → Option Str
  | some (.str z _) => some z
  | _ => none
def tnB (K : Frag) (c low : Str) : Bool := (match K.lookup (He.ga K c) with
  | some o => (o.cls == .type "type") && (match strO (o.slots[2]?).join with
    | some z => Nat.ble z.length 5592405 && decide (Txt.lower z = low)
    | none => false)
  | none => false) && readsIn K (He.ga K c) (.type "type") && (match findCls K (.ref (He.ga K c)) (.type "type") "__name__" with
    | some (.get (.builtin a) (.builtin b) (.ref d) (.type e)) => decide (a = "getset_descriptor.__get__") && decide (b = "type.__name__") && decide (d = He.ga K c) && decide (e = "type")
    | _ => false)
def eqV (a b : Option (Option Value)) : Bool := He.eqO a b
/-- the facts, in groups -/
def grp (K : Frag) : List (List Bool) := [
  [(K.lookup sysModules).isSome, K.all (fun p => !(p.2.cls == .type "list")), eqV (nsIn K cStatics "thirdparty.any") (some none)],
  (["len", "int", "abs", "tuple", "repr", "bool", "isinstance", "type", "range", "list", "str", "dict", "super"] : List Str).map fun x => (He.Fa.free x).ok K,
  (["kept", "_law_well", "_law_draw", "_law_one", "_law_value", "law"] : List Str).map fun x => (He.Fa.glo x).ok K && (He.Fa.keep x).ok K,
  six.map (fun q => (He.Fa.glo q.1).ok K),
  six.map (fun q => (He.Fa.cls q.1).ok K),
  six.map (fun q => atts.all fun f => (He.Fa.noat q.1 f).ok K),
  six.map (fun q => (He.Fa.meth q.1 "__eq__").ok K && decide (He.ma K (He.ga K q.1) "__eq__" = fadK K 2)),
  six.map (fun q => (He.Fa.meth q.1 "__bool__").ok K && decide (He.ma K (He.ga K q.1) "__bool__" = fadK K (if q.2.2 then 3 else 4))),
  six.map (fun q => (He.Fa.mkr q.1).ok K),
  six.map (fun q => tnB K q.1 (match pap q.1 with | some r => r.2.1 | none => "")),
  six.map (fun q => notFirst K (He.ga K q.1) (.type "tuple") && notFirst K (He.ga K q.1) (.type "int") && six.all fun r => notFirst K (He.ga K q.1) (.ref (He.ga K r.1))),
  six.map (fun q => eqV (findIn K (.ref (He.ga K q.1)) "__ne__") (some (some (.builtin "object.__ne__")))),
  tyL.map (fun n => decide (kitOne K (.type n) (.type "list") = some (decide (n = "list"))) && decide (kitOne K (.type n) (.type "tuple") = some (decide (n = "tuple"))) && decide (kitOne K (.type n) (.ref (He.ga K "Paper")) = some false)),
  six.map (fun q => decide (kitOne K (.ref (He.ga K q.1)) (.ref (He.ga K "Paper")) = some true) && decide (kitOne K (.ref (He.ga K q.1)) (.ref (He.ga K "Denial")) = some (!q.2.2))),
  six.map (fun q => eqV (findIn K (.ref (He.ga K q.1)) "__class__") (some (some (.builtin "object.__class__"))) && decide (mroIn K (He.ga K q.1) (.type "object") = some true)),
  [eqV (specialIn K (.builtin "object.__class__") "__get__") (some (some (.builtin "getset_descriptor.__get__"))), decide (takesIn K (.builtin "object.__class__") = some true)],
  [(He.Fa.glo "Paper").ok K, (He.Fa.glo "Denial").ok K]]
/-- the cell of __class__ that the def at f holds, the class in it, the code -/
def cellK (K : Frag) (f : Addr) : Addr × Addr × Addr := match K.lookup f with
  | some ⟨_, _, .func fd, _⟩ => (match fd.closure with
    | [(_, c)] => (c, (match K.lookup c with
      | some ⟨_, _, .cell (some (.ref b)), _⟩ => b
      | _ => 0), (match fd.code with
      | .ref a => a
      | _ => 0))
    | _ => (0, 0, 0))
  | _ => (0, 0, 0)
def supB (K : Frag) (n : Nat) (c : Str) : List Bool :=
  let q := cellK K (fadK K n)
  [(match K.lookup q.1 with | some ⟨_, _, .cell (some (.ref b)), _⟩ => decide (b = q.2.1) | _ => false),
   (match K.lookup q.2.2 with | some ⟨_, _, .fields vs, _⟩ => (match strO vs[2]? with | some file => (prog.main.file : Str) == file | none => false) | _ => false),
   (clsIn K q.2.1).isSome, (clsIn K (He.ga K c)).isSome,
   decide (mroIn K (He.ga K c) (.ref q.2.1) = some true),
   eqV (ks_superIn K (He.ga K c) q.2.1 "__init__") (some (some (.ref (fadK K 1)))), isFn K (.ref (fadK K 1)), fnIn K (fadK K 1),
   (match K.lookup (fadK K n) with
    | some ⟨_, _, .func fd, _⟩ => fd.annotations.isNone && noneB fd.defaults && (match fd.code with | .ref _ => true | _ => false) && (match fd.closure with | [(x, _)] => decide (x = "__class__") | _ => false)
    | _ => false)]
def grp2 (K : Frag) : List (List Bool) := six.map fun q => supB K q.2.1 q.1
def B98 (K : Frag) : Bool := (grp K).all (fun l => l.all id) && (grp2 K).all fun l => l.all id
end K98

namespace K98
open PySem L2 G PySem.W
def X98 (K : Frag) : Pc := ⟨K, He.ga K, fadK K⟩
section
variable {K : Frag}
theorem grp_all (h : B98 K = true) (i : Nat) {l : List Bool} (e : (grp K)[i]? = some l) : ∀ b ∈ l, b = true := fun b hb => by
  have h1 := (He.ba h).1
  have h2 := List.all_eq_true.mp h1 l (List.mem_of_getElem? e)
  exact List.all_eq_true.mp h2 b hb
theorem grp_map (h : B98 K = true) (i : Nat) {α : Type} {xs : List α} {f : α → Bool} (e : (grp K)[i]? = some (xs.map f)) : ∀ x ∈ xs, f x = true := fun x hx => grp_all h i e _ (List.mem_map_of_mem hx)
theorem grp2_all (h : B98 K = true) {q : Str × Nat × Bool} (hq : q ∈ six) : ∀ b ∈ supB K q.2.1 q.1, b = true := fun b hb => by
  have h1 := (He.ba h).2
  have h2 := List.all_eq_true.mp h1 (supB K q.2.1 q.1) (List.mem_map.mpr ⟨q, hq, rfl⟩)
  exact List.all_eq_true.mp h2 b hb
theorem pap_six {c low : Str} {i : Nat} {b : Bool} (h : pap c = some (i, low, b)) : (c, i, b) ∈ six := by
  unfold pap at h
  dsimp only at h
  split at h
  · rename_i e; cases h; subst e; decide
  split at h
  · rename_i e; cases h; subst e; decide
  split at h
  · rename_i e; cases h; subst e; decide
  split at h
  · rename_i e; cases h; subst e; decide
  split at h
  · rename_i e; cases h; subst e; decide
  split at h
  · rename_i e; cases h; subst e; decide
  cases h
theorem cl_six {c : Str} {C : Cl} (h : clT c = some C) : ∃ i low b, pap c = some (i, low, b) ∧ C = ⟨i, low, atts, [("__eq__", 2), ("__bool__", if b then 3 else 4)]⟩ := by
  obtain ⟨⟨i, low, b⟩, h1, h2⟩ := Option.map_eq_some_iff.mp h
  exact ⟨i, low, b, h1, h2.symm⟩
theorem six_fad {c : Str} {i : Nat} {b : Bool} (h : (c, i, b) ∈ six) : fadK K i = He.ma K (He.ga K c) "__init__" := by
  simp only [six, List.mem_cons, List.not_mem_nil, or_false, Prod.mk.injEq] at h
  rcases h with ⟨rfl, rfl, _⟩ | ⟨rfl, rfl, _⟩ | ⟨rfl, rfl, _⟩ | ⟨rfl, rfl, _⟩ | ⟨rfl, rfl, _⟩ | ⟨rfl, rfl, _⟩ <;> rfl
theorem strO_ok {o : Option Value} {z : Str} (h : strO o = some z) : ∃ t, o = some (.str z t) := by
  unfold strO at h
  split at h
  · cases h; exact ⟨_, rfl⟩
  · cases h
theorem tn_ok {c low : Str} (h : tnB K c low = true) : ∃ (o : Obj) (z : Str) (t : Tok), K.lookup (He.ga K c) = some o ∧ o.cls = .type "type" ∧ (o.slots[2]?).join = some (.str z t) ∧ z.length ≤ 5592405 ∧ Txt.lower z = low ∧ readsIn K (He.ga K c) (.type "type") = true ∧
    findCls K (.ref (He.ga K c)) (.type "type") "__name__" = some (.get (.builtin "getset_descriptor.__get__") (.builtin "type.__name__") (.ref (He.ga K c)) (.type "type")) := by
  unfold tnB at h
  obtain ⟨h1, h2⟩ := He.ba h
  obtain ⟨h3, h4⟩ := He.ba h1
  cases e : K.lookup (He.ga K c) with
  | none => rw [e] at h3; cases h3
  | some o =>
    rw [e] at h3
    obtain ⟨h5, h6⟩ := He.ba h3
    split at h6
    · rename_i z ez
      obtain ⟨h7, h8⟩ := He.ba h6
      obtain ⟨t, et⟩ := strO_ok ez
      refine ⟨o, z, t, rfl, beq_iff_eq.mp h5, et, Nat.le_of_ble_eq_true h7, of_decide_eq_true h8, h4, ?_⟩
      split at h2
      · rename_i a b d e ef
        obtain ⟨k1, k2⟩ := He.ba h2
        obtain ⟨k3, k4⟩ := He.ba k1
        obtain ⟨k5, k6⟩ := He.ba k3
        rw [of_decide_eq_true k2, of_decide_eq_true k4, of_decide_eq_true k5, of_decide_eq_true k6] at ef
        exact ef
      · cases h2
    · cases h6
end
end K98

namespace K98
open PySem L2 G PySem.W
section
variable {P : Program} {w : World} {K : Frag} {mg : Str → Option Value} {base : Heap}
theorem eqV_ok {a b : Option (Option Value)} (h : eqV a b = true) : a = b := He.eqO_ok h
theorem notfirst_six (h : B98 K = true) {c : Str} {t : Ty} (hn : nfT c t = true) : notFirst K (He.ga K c) (tyV (X98 K) t) = true := by
  cases t with
  | ty n =>
    have hn' : ((pap c).isSome && (n == "tuple" || n == "int")) = true := hn
    obtain ⟨h1, h2⟩ := He.ba hn'
    obtain ⟨⟨i, low, b⟩, hp⟩ := Option.isSome_iff_exists.mp h1
    have z := grp_map h 10 (xs := six) (f := fun q => notFirst K (He.ga K q.1) (.type "tuple") && notFirst K (He.ga K q.1) (.type "int") && six.all fun r => notFirst K (He.ga K q.1) (.ref (He.ga K r.1))) rfl _ (pap_six hp)
    obtain ⟨z1, z2⟩ := He.ba z
    obtain ⟨z3, z4⟩ := He.ba z1
    rcases Bool.or_eq_true_iff.mp h2 with e | e
    · rw [beq_iff_eq.mp e]; exact z3
    · rw [beq_iff_eq.mp e]; exact z4
  | cls d =>
    have hn' : ((pap c).isSome && (pap d).isSome) = true := hn
    obtain ⟨h1, h2⟩ := He.ba hn'
    obtain ⟨⟨i, low, b⟩, hp⟩ := Option.isSome_iff_exists.mp h1
    obtain ⟨⟨i', low', b'⟩, hp'⟩ := Option.isSome_iff_exists.mp h2
    have z := grp_map h 10 (xs := six) (f := fun q => notFirst K (He.ga K q.1) (.type "tuple") && notFirst K (He.ga K q.1) (.type "int") && six.all fun r => notFirst K (He.ga K q.1) (.ref (He.ga K r.1))) rfl _ (pap_six hp)
    exact List.all_eq_true.mp (He.ba z).2 _ (pap_six hp')
theorem isa_ok (h : B98 K = true) {t T : Ty} {b : Bool} (hi : isaT t T = some b) : kitOne K (tyV (X98 K) t) (tyV (X98 K) T) = some b := by
  cases t with
  | ty n =>
    have hi' : (if n ∈ tyL then (match T with
      | .ty m => if m = "list" ∨ m = "tuple" then some (decide (n = m)) else none
      | .cls c => if c = "Paper" then some false else none) else none) = some b := hi
    split at hi'
    · rename_i hn
      have z := grp_map h 12 (xs := tyL) (f := fun n => decide (kitOne K (.type n) (.type "list") = some (decide (n = "list"))) && decide (kitOne K (.type n) (.type "tuple") = some (decide (n = "tuple"))) && decide (kitOne K (.type n) (.ref (He.ga K "Paper")) = some false)) rfl _ hn
      obtain ⟨z1, z2⟩ := He.ba z
      obtain ⟨z3, z4⟩ := He.ba z1
      cases T with
      | ty m =>
        have hi2 : (if m = "list" ∨ m = "tuple" then some (decide (n = m)) else none) = some b := hi'
        split at hi2
        · rename_i hm
          cases hi2
          rcases hm with rfl | rfl
          · exact of_decide_eq_true z3
          · exact of_decide_eq_true z4
        · cases hi2
      | cls c =>
        have hi2 : (if c = "Paper" then some false else none) = some b := hi'
        split at hi2
        · rename_i hc
          cases hi2
          subst hc
          exact of_decide_eq_true z2
        · cases hi2
    · cases hi'
  | cls c =>
    obtain ⟨⟨i, low, bb⟩, hp, hi2⟩ := Option.bind_eq_some_iff.mp (show (pap c).bind (fun q => match T with
      | .cls d => if d = "Paper" then some true else if d = "Denial" then some (!q.2.2) else none
      | .ty m => none) = some b from hi)
    have z := grp_map h 13 (xs := six) (f := fun q => decide (kitOne K (.ref (He.ga K q.1)) (.ref (He.ga K "Paper")) = some true) && decide (kitOne K (.ref (He.ga K q.1)) (.ref (He.ga K "Denial")) = some (!q.2.2))) rfl _ (pap_six hp)
    obtain ⟨z1, z2⟩ := He.ba z
    cases T with
    | ty m => cases hi2
    | cls d =>
      have hi3 : (if d = "Paper" then some true else if d = "Denial" then some (!bb) else none) = some b := hi2
      split at hi3
      · rename_i hd; cases hi3; subst hd; exact of_decide_eq_true z1
      · split at hi3
        · rename_i hd; cases hi3; subst hd; exact of_decide_eq_true z2
        · cases hi3
theorem meth_six (h : B98 K = true) {c : Str} {i : Nat} {b : Bool} (hq : (c, i, b) ∈ six) : Meth K (He.ga K c) "__eq__" (fadK K 2) ∧ Meth K (He.ga K c) "__bool__" (fadK K (if b then 3 else 4)) := by
  have z1 := grp_map h 6 (xs := six) (f := fun q => (He.Fa.meth q.1 "__eq__").ok K && decide (He.ma K (He.ga K q.1) "__eq__" = fadK K 2)) rfl _ hq
  have z2 := grp_map h 7 (xs := six) (f := fun q => (He.Fa.meth q.1 "__bool__").ok K && decide (He.ma K (He.ga K q.1) "__bool__" = fadK K (if q.2.2 then 3 else 4))) rfl _ hq
  obtain ⟨a1, a2⟩ := He.ba z1
  obtain ⟨b1, b2⟩ := He.ba z2
  refine ⟨?_, ?_⟩
  · have q := He.meth_ok a1
    rw [of_decide_eq_true a2] at q
    exact q
  · have q := He.meth_ok b1
    rw [of_decide_eq_true b2] at q
    exact q
theorem lk_eq0 {b : Bool} : List.lookup ("__eq__" : Str) [(("__eq__" : Str), 2), ("__bool__", if b then 3 else 4)] = some 2 := by simp [List.lookup]
theorem lk_bo0 {b : Bool} : List.lookup ("__bool__" : Str) [(("__eq__" : Str), 2), ("__bool__", if b then 3 else 4)] = some (if b then 3 else 4) := by
  have : (("__bool__" : Str) == "__eq__") = false := by decide
  simp [List.lookup, this]
/-- what does not hang on the depth -/
theorem mok0 (h : B98 K = true) (X : K.In base) (G : base.Ns mainGlobals mg) : Mok0 (X98 K) ⟨P, w, mg, base, nmT⟩ tb where
  mok := fun g M k ht hc hi => {
    call := hc
    init := hi
    sm := by
      have z := grp_all h 0 rfl _ List.mem_cons_self
      obtain ⟨o, ho⟩ := Option.isSome_iff_exists.mp z
      exact ⟨o, X _ _ ho⟩
    blt := fun b hb => by
      have z := grp_map h 1 (xs := (["len", "int", "abs", "tuple", "repr", "bool", "isinstance", "type", "range", "list", "str", "dict", "super"] : List Str)) (f := fun x => (He.Fa.free x).ok K) rfl
      have e : ∀ b ∈ ["len", "int", "abs", "tuple", "repr", "bool", "isinstance", "type", "range", "list", "str", "dict"], (Str.ofString b) ∈ (["len", "int", "abs", "tuple", "repr", "bool", "isinstance", "type", "range", "list", "str", "dict", "super"] : List Str) := by decide
      exact He.free_ok X G (z _ (e b hb))
    nm := fun f x hx => by
      have z := grp_map h 2 (xs := (["kept", "_law_well", "_law_draw", "_law_one", "_law_value", "law"] : List Str)) (f := fun x => (He.Fa.glo x).ok K && (He.Fa.keep x).ok K) rfl
      have go : ∀ y, y ∈ (["kept", "_law_well", "_law_draw", "_law_one", "_law_value", "law"] : List Str) → fadK K f = He.ga K y → mg y = some (.ref (fadK K f)) ∧ keepIn K (.ref (fadK K f)) = true := fun y hy e => by
        obtain ⟨z1, z2⟩ := He.ba (z y hy)
        rw [e]
        exact ⟨He.glo_ok X G z1, He.keep_ok z2⟩
      have hx' : nmT f = some x := hx
      unfold nmT at hx'
      split at hx' <;> first | (cases hx'; exact go _ (by decide) rfl) | cases hx'
    cls := fun c C hC => by
      have hC' : clT c = some C := by rw [ht] at hC; exact hC
      obtain ⟨i, low, b, hp, rfl⟩ := cl_six hC'
      have hq := pap_six hp
      obtain ⟨m1, m2⟩ := meth_six h hq
      exact {
        tn := by
          have z := grp_map h 9 (xs := six) (f := fun q => tnB K q.1 (match pap q.1 with | some r => r.2.1 | none => "")) rfl _ hq
          have e : (match pap c with | some r => r.2.1 | none => "") = low := by rw [hp]
          rw [show (match pap (c, i, b).1 with | some r => r.2.1 | none => "") = low from e] at z
          exact tn_ok z
        cl := He.cls_ok (grp_map h 4 (xs := six) (f := fun q => (He.Fa.cls q.1).ok K) rfl _ hq)
        mg := He.glo_ok X G (grp_map h 3 (xs := six) (f := fun q => (He.Fa.glo q.1).ok K) rfl _ hq)
        na := fun f hf => He.noat_ok (List.all_eq_true.mp (grp_map h 5 (xs := six) (f := fun q => atts.all fun f => (He.Fa.noat q.1 f).ok K) rfl _ hq) f hf)
        me := fun q hq2 => by
          simp only [List.mem_cons, List.not_mem_nil, or_false] at hq2
          rcases hq2 with rfl | rfl
          · exact m1
          · exact m2
        mkr := by
          have z := He.mkr_ok (grp_map h 8 (xs := six) (f := fun q => (He.Fa.mkr q.1).ok K) rfl _ hq)
          show Mk K (He.ga K c) (fadK K i)
          rw [six_fad hq]
          exact z }
    nf := fun c t hn => notfirst_six h (by rw [ht] at hn; exact hn)
    nes := fun c C hC f hf => by
      have hC' : clT c = some C := by rw [ht] at hC; exact hC
      obtain ⟨i, low, b, hp, rfl⟩ := cl_six hC'
      have hq := pap_six hp
      obtain ⟨m1, m2⟩ := meth_six h hq
      rw [lk_eq0] at hf
      cases hf
      exact ⟨m1.at_, m1.fn, eqV_ok (grp_map h 11 (xs := six) (f := fun q => eqV (findIn K (.ref (He.ga K q.1)) "__ne__") (some (some (.builtin "object.__ne__")))) rfl _ hq)⟩
    bls := fun c C hC f hf => by
      have hC' : clT c = some C := by rw [ht] at hC; exact hC
      obtain ⟨i, low, b, hp, rfl⟩ := cl_six hC'
      obtain ⟨m1, m2⟩ := meth_six h (pap_six hp)
      rw [lk_bo0] at hf
      cases hf
      exact ⟨m2.at_, m2.fn⟩
    ism := fun c T b hi => by
      rw [ht] at hi
      obtain ⟨⟨i, low, bb⟩, hp, _⟩ := Option.bind_eq_some_iff.mp (show (pap c).bind (fun q => match T with
        | .cls d => if d = "Paper" then some true else if d = "Denial" then some (!q.2.2) else none
        | .ty m => none) = some b from hi)
      exact ⟨⟨i, low, atts, [("__eq__", 2), ("__bool__", if bb then 3 else 4)]⟩, by rw [ht]; simp [tb, clT, hp]⟩
    isa := fun t T b hi => isa_ok h (by rw [ht] at hi; exact hi)
    isc := fun c C hC => by
      have hC' : clT c = some C := by rw [ht] at hC; exact hC
      obtain ⟨i, low, b, hp, rfl⟩ := cl_six hC'
      obtain ⟨z1, z2⟩ := He.ba (grp_map h 14 (xs := six) (f := fun q => eqV (findIn K (.ref (He.ga K q.1)) "__class__") (some (some (.builtin "object.__class__"))) && decide (mroIn K (He.ga K q.1) (.type "object") = some true)) rfl _ (pap_six hp))
      exact ⟨eqV_ok z1, of_decide_eq_true z2⟩
    oc := by
      have z := grp_all h 15 rfl
      exact ⟨eqV_ok (z _ List.mem_cons_self), of_decide_eq_true (z _ (List.mem_cons_of_mem _ List.mem_cons_self))⟩ }
end
end K98

namespace G
open PySem L2
/-- a plain def by its facts and the check of its body -/
theorem def_ok {X : Pc} {g : Gi} {p : Pg} {tb : Tb} {c : Ck} {d : Df} {n fuel : Nat} {F : Fn} {ps : List Str} (D : DfOk X.K d) (hcl : d.cl = []) (hf : X.fad n = He.fAd X.K d.at_) (hdf : d.dfl = []) (S : FnScope c.N ps d.scope)
    (hb : ∀ (doc pm : Value) (an : Option Addr) (cdv ct : Value) (us : List Value), us.length = ps.length → bindArgs (PySem.W.fnOf d.name d.qual d.params d.body d.scope .none .none doc pm an cdv ct) ⟨us, []⟩ = pure (ps.zip us))
    (hS : F.nS = c.N.length) (hP : F.nP = ps.length) (hst : F.star = false) (co : CkOk X p tb c) (hck : ck c fuel d.scope (.sts F.body d.body) = true) : DefOk X g p tb n F where
  run := fun M k ht mk => by
    obtain ⟨oc, od, dV, doc, pm, an, cdv, ct, osl, cs, hcs, lk, hcd, hd⟩ := D.ex
    rw [hcl] at lk
    rw [hdf] at hd
    have hdV : dV = .none := by
      rcases hd with ⟨_, z⟩ | ⟨z, _⟩
      · exact z
      · exact absurd rfl z
    subst hdV
    rw [hf]
    exact def_plain (X := X) (g := g) (p := p) (M := M) (k := k) (N := c.N) (ps := ps) (F := F) (n := n) hf lk hcd S (fun us hl => hb doc pm an cdv ct us hl) hS hP hst mk (ck_ok co ht mk fuel _ (.sts F.body d.body) hck)
theorem def_okS {X : Pc} {g : Gi} {p : Pg} {tb : Tb} {c : Ck} {d : Df} {n fuel : Nat} {F : Fn} {ps : List Str} {pv : Str} (D : DfOk X.K d) (hcl : d.cl = []) (hf : X.fad n = He.fAd X.K d.at_) (hdf : d.dfl = []) (S : FnScope c.N (ps ++ [pv]) d.scope)
    (hb : ∀ (doc pm : Value) (an : Option Addr) (cdv ct : Value) (us rest : List Value), us.length = ps.length → bindArgs (PySem.W.fnOf d.name d.qual d.params d.body d.scope .none .none doc pm an cdv ct) ⟨us ++ rest, []⟩ = (newTuple rest >>= fun t => pure (ps.zip us ++ [(pv, t)])))
    (hS : F.nS = c.N.length) (hP : F.nP = ps.length + 1) (hst : F.star = true) (co : CkOk X p tb c) (hck : ck c fuel d.scope (.sts F.body d.body) = true) : DefOk X g p tb n F where
  run := fun M k ht mk => by
    obtain ⟨oc, od, dV, doc, pm, an, cdv, ct, osl, cs, hcs, lk, hcd, hd⟩ := D.ex
    rw [hcl] at lk
    rw [hdf] at hd
    have hdV : dV = .none := by
      rcases hd with ⟨_, z⟩ | ⟨z, _⟩
      · exact z
      · exact absurd rfl z
    subst hdV
    rw [hf]
    exact def_star (X := X) (g := g) (p := p) (M := M) (k := k) (N := c.N) (ps := ps) (F := F) (n := n) hf lk hcd S (fun us rest hl => hb doc pm an cdv ct us rest hl) hS hP hst mk (ck_ok co ht mk fuel _ (.sts F.body d.body) hck)
end G
namespace K98
open PySem L2 G PySem.W
section
variable {P : Program} {w : World} {K : Frag} {mg : Str → Option Value} {base : Heap}
abbrev pg (P : Program) (w : World) (mg : Str → Option Value) (base : Heap) : Pg := ⟨P, w, mg, base, nmT⟩
theorem kwb {d : Df} {n i : Nat} {ks : List Str} {pm : List Nat} (D : DfOk K d) (hcl : d.cl.length = 1) (hf : fadK K i = He.fAd K d.at_) (hdf : d.dfl = [])
    (hb : ∀ (c : Addr) (x : Str) (doc pmm : Value) (an : Option Addr) (cdv ct : Value) (us ws : List Value), us.length = n → ws.length = ks.length → bindArgs (PySem.W.fnX d.name d.qual d.params d.body d.scope [(x, c)] .none .none doc pmm an cdv ct) ⟨us, ks.zip ws⟩ = bindArgs (PySem.W.fnX d.name d.qual d.params d.body d.scope [(x, c)] .none .none doc pmm an cdv ct) ⟨us ++ permD pm ws, []⟩) :
    KwB K (fadK K i) n ks pm := fun us ws h1 h2 o fd e1 e2 => by
  obtain ⟨oc, od, dV, doc, pmm, an, cdv, ct, osl, cs, hcs, lk, hcd, hd⟩ := D.ex
  rw [hdf] at hd
  have hdV : dV = .none := by
    rcases hd with ⟨_, z⟩ | ⟨z, _⟩
    · exact z
    · exact absurd rfl z
  subst hdV
  rw [hf, lk] at e1
  cases e1
  cases e2
  obtain ⟨x, hx⟩ : ∃ x, d.cl = [x] := List.length_eq_one_iff.mp hcl
  obtain ⟨c, hc⟩ : ∃ c, cs = [c] := List.length_eq_one_iff.mp (hcs.trans hcl)
  rw [hx, hc]
  exact hb c x doc pmm an cdv ct us ws h1 h2
theorem co (h : SaysH B98 dfs K) (X : K.In base) (G : base.Ns mainGlobals mg) (N : List Str) : CkOk (X98 K) (pg P w mg base) tb (ckN N) where
  nm := fun f n hn => hn
  cn := fun cl n hn => by
    have hn' : (if cl ∈ clsN then some cl else none) = some n := hn
    split at hn'
    · rename_i hc
      cases hn'
      have z1 := grp_map h.b 3 (xs := six) (f := fun q => (He.Fa.glo q.1).ok K) rfl
      have z2 := grp_all h.b 16 rfl
      have e : cl = "Paper" ∨ cl = "Denial" ∨ ∃ q ∈ six, q.1 = cl := by
        have : ∀ cl ∈ clsN, cl = "Paper" ∨ cl = "Denial" ∨ ∃ q ∈ six, q.1 = cl := by decide
        exact this cl hc
      rcases e with rfl | rfl | ⟨q, hq, rfl⟩
      · exact He.glo_ok X G (z2 _ List.mem_cons_self)
      · exact He.glo_ok X G (z2 _ (List.mem_cons_of_mem _ List.mem_cons_self))
      · exact He.glo_ok X G (z1 q hq)
    · cases hn'
  ini := fun cl f hi => by
    have go : ∀ (cl : Str) (f : Nat), (ckN N).ini cl = some f → ∃ low b, pap cl = some (f, low, b) := fun cl f hi => by
      have hi' : (match clsN.findIdx? (· == cl) with | some 2 => some 5 | some 3 => some 6 | some 4 => some 7 | some 5 => some 8 | some 6 => some 9 | some 7 => some 10 | _ => none) = some f := hi
      simp only [clsN, List.findIdx?_cons, List.findIdx?_nil] at hi'
      by_cases e0 : (("Paper" : Str) == cl) = true
      · rw [if_pos e0] at hi'; cases hi'
      rw [if_neg e0] at hi'
      by_cases e1 : (("Denial" : Str) == cl) = true
      · rw [if_pos e1] at hi'; cases hi'
      rw [if_neg e1] at hi'
      by_cases e2 : (("RestsHere" : Str) == cl) = true
      · rw [if_pos e2] at hi'; cases hi'; rw [← beq_iff_eq.mp e2]; exact ⟨_, _, pR⟩
      rw [if_neg e2] at hi'
      by_cases e3 : (("RestlessHere" : Str) == cl) = true
      · rw [if_pos e3] at hi'; cases hi'; rw [← beq_iff_eq.mp e3]; exact ⟨_, _, (pp2 (y := .non) (z := .non)).pap⟩
      rw [if_neg e3] at hi'
      by_cases e4 : (("Path" : Str) == cl) = true
      · rw [if_pos e4] at hi'; cases hi'; rw [← beq_iff_eq.mp e4]; exact ⟨_, _, pP⟩
      rw [if_neg e4] at hi'
      by_cases e5 : (("Never" : Str) == cl) = true
      · rw [if_pos e5] at hi'; cases hi'; rw [← beq_iff_eq.mp e5]; exact ⟨_, _, pN⟩
      rw [if_neg e5] at hi'
      by_cases e6 : (("Calm" : Str) == cl) = true
      · rw [if_pos e6] at hi'; cases hi'; rw [← beq_iff_eq.mp e6]; exact ⟨_, _, pC⟩
      rw [if_neg e6] at hi'
      by_cases e7 : (("Turning" : Str) == cl) = true
      · rw [if_pos e7] at hi'; cases hi'; rw [← beq_iff_eq.mp e7]; exact ⟨_, _, pT⟩
      rw [if_neg e7] at hi'
      cases hi'
    obtain ⟨low, b, hp⟩ := go cl f hi
    exact ⟨_, pap_cl hp, rfl⟩
  kw := fun t ht => by
    have ht' : t ∈ [(5, 1, (["settings"] : List Str), [0]), (6, 1, ["rankings", "rows"], [1, 0]), (7, 1, ["settings"], [0]), (8, 1, ["settings"], [0]), (9, 1, ["order"], [0]), (10, 1, ["ring"], [0])] := ht
    simp only [List.mem_cons, List.not_mem_nil, or_false] at ht'
    rcases ht' with rfl | rfl | rfl | rfl | rfl | rfl
    · exact kwb (n := 1) (i := 5) (ks := ["settings"]) (pm := [0]) (h.def_ 5) rfl rfl rfl fun c x doc pm an cdv ct us ws h1 h2 => match us, ws, h1, h2 with | [a], [b], _, _ => by kernel_rfl
    · exact kwb (n := 1) (i := 6) (ks := ["rankings", "rows"]) (pm := [1, 0]) (h.def_ 6) rfl rfl rfl fun c x doc pm an cdv ct us ws h1 h2 => match us, ws, h1, h2 with | [a], [b, c2], _, _ => by kernel_rfl
    · exact kwb (n := 1) (i := 7) (ks := ["settings"]) (pm := [0]) (h.def_ 7) rfl rfl rfl fun c x doc pm an cdv ct us ws h1 h2 => match us, ws, h1, h2 with | [a], [b], _, _ => by kernel_rfl
    · exact kwb (n := 1) (i := 8) (ks := ["settings"]) (pm := [0]) (h.def_ 8) rfl rfl rfl fun c x doc pm an cdv ct us ws h1 h2 => match us, ws, h1, h2 with | [a], [b], _, _ => by kernel_rfl
    · exact kwb (n := 1) (i := 9) (ks := ["order"]) (pm := [0]) (h.def_ 9) rfl rfl rfl fun c x doc pm an cdv ct us ws h1 h2 => match us, ws, h1, h2 with | [a], [b], _, _ => by kernel_rfl
    · exact kwb (n := 1) (i := 10) (ks := ["ring"]) (pm := [0]) (h.def_ 10) rfl rfl rfl fun c x doc pm an cdv ct us ws h1 h2 => match us, ws, h1, h2 with | [a], [b], _, _ => by kernel_rfl
end
end K98

namespace G
open PySem L2
theorem hev_of {o : Expr} {m : Str} {apos pos : Pos} {args : List Expr} (hf : ∀ env, methodCallForm args.length (backTo pos (starEach args env)) [] = true) (hl : (apos.endLine == pos.line) = true) (env : Env) :
    ∃ pl : Sem Bool, eval (.Call (.Attribute o m apos) args [] pos) env = (do
      let ov ← attributeBase o m env (eval o env)
      standAt apos.atName
      let (f, first) ← holding [ov] (getMethod ov m pl)
      callWith pos f first (backTo pos (starEach args env)) []) := by
  refine ⟨plainOf o env, ?_⟩
  have e : eval (.Call (.Attribute o m apos) args [] pos) env = (do
    let ov ← attributeBase o m env (eval o env)
    standAt apos.atName
    methodCall o m apos pos env ov args.length (backTo pos (starEach args env)) []) := rfl
  rw [e]
  have z : ∀ ov, methodCall o m apos pos env ov args.length (backTo pos (starEach args env)) [] = (do
      let (f, first) ← holding [ov] (getMethod ov m (plainOf o env))
      callWith pos f first (backTo pos (starEach args env)) []) := fun ov => mcall_line (hf env) hl
  simp only [z]
end G
namespace K98
open PySem L2 G PySem.W
section
variable {P : Program} {w : World} {K : Frag} {mg : Str → Option Value} {base : Heap}
theorem top_none : (prog.main.scope.names.lookup ("super" : Str)).isSome = false := by decide +kernel
theorem isSome_ex {α : Type} {o : Option α} (h : o.isSome = true) : ∃ a, o = some a := Option.isSome_iff_exists.mp h
theorem sup_ok {n : Nat} {c : Str} {b : Bool} (h : B98 K = true) (hq : (c, n, b) ∈ six) (G : base.Ns mainGlobals mg) (X : K.In base) (s0 : Str) :
    (∃ cdd : FuncData, (K.lookup (fadK K n)).map (·.data) = some (.func cdd) ∧ cdd.annotations = none ∧ cdd.defaults = .none ∧ cdd.code = .ref (cellK K (fadK K n)).2.2 ∧ cdd.closure = [(("__class__" : Str), (cellK K (fadK K n)).1)]) ∧
    SupOk (X98 K) (pg prog w mg base) (fadK K n) (cellK K (fadK K n)).1 (cellK K (fadK K n)).2.2 (cellK K (fadK K n)).2.1 (He.ga K c) (fadK K 1) s0 := by
  have z := grp2_all h hq
  have g : ∀ (i : Nat) {b : Bool}, (supB K n c)[i]? = some b → b = true := fun i b e => z _ (List.mem_of_getElem? e)
  have z0 := g 0 rfl
  have z1 := g 1 rfl
  have z2 := g 2 rfl
  have z3 := g 3 rfl
  have z4 := g 4 rfl
  have z5 := g 5 rfl
  have z6 := g 6 rfl
  have z7 := g 7 rfl
  have z8 := g 8 rfl
  have fr := grp_map h 1 (xs := (["len", "int", "abs", "tuple", "repr", "bool", "isinstance", "type", "range", "list", "str", "dict", "super"] : List Str)) (f := fun x => (He.Fa.free x).ok K) rfl "super" (by decide)
  have th := grp_all h 0 rfl _ (List.mem_cons_of_mem _ (List.mem_cons_of_mem _ List.mem_cons_self))
  refine ⟨?_, ?_⟩
  · cases e : K.lookup (fadK K n) with
    | none => rw [e] at z8; cases z8
    | some o =>
      obtain ⟨oc, od, dt, osl⟩ := o
      rw [e] at z8
      cases dt with
      | func fd =>
        obtain ⟨n1, n2, n3, n4, n5, n6, n7, n8, n9, n10, n11, n12, n13, n14, n15⟩ := fd
        dsimp only at z8
        have z9 := z8
        obtain ⟨k1, k2⟩ := He.ba z9
        obtain ⟨k3, k4⟩ := He.ba k1
        obtain ⟨k5, k6⟩ := He.ba k3
        refine ⟨_, rfl, Option.isNone_iff_eq_none.mp k5, noneB_ok k6, ?_, ?_⟩
        · unfold cellK
          rw [e]
          dsimp only
          split at k2
          · cases n13 with
            | ref a => rfl
            | _ => cases k4
          · cases k2
        · unfold cellK
          rw [e]
          dsimp only
          split at k2
          · rw [of_decide_eq_true k2]
          · cases k2
      | _ => cases z8
  · exact {
      cell := by
        split at z0
        · rename_i b1 b2 b3 b4 e
          exact ⟨_, _, _, by rw [← of_decide_eq_true z0]; exact e⟩
        · cases z0
      code := by
        split at z1
        · rename_i b1 b2 b3 b4 e
          split at z1
          · rename_i file ef
            obtain ⟨t, et⟩ := strO_ok ef
            exact ⟨_, _, _, _, file, t, e, et, z1⟩
          · cases z1
        · cases z1
      cls := isSome_ex z2
      own := isSome_ex z3
      sub := of_decide_eq_true z4
      blt := He.free_ok X G fr
      top := top_none
      third := eqV_ok th
      next := eqV_ok z5
      fn := z6
      fi := z7 }
end
end K98

namespace K98
open PySem L2 G PySem.W
section
variable {w : World} {K : Frag} {mg : Str → Option Value} {base : Heap}
theorem sdef {g : Gi} {n : Nat} {c : Str} {b : Bool} {F : Fn} {d : Df} {N ps : List Str} {ar : Arg} {as : List E} {a : E} {e : Expr} {es : List Expr} {rest' : List S} {rest : List Stmt} {p0 p1 apos pos pos2 : Pos}
    (h : SaysH B98 dfs K) (X : K.In base) (G : base.Ns mainGlobals mg) (hq : (c, n, b) ∈ six) (D : DfOk K d) (hcl : d.cl = [("__class__" : Str)]) (hf : fadK K n = He.fAd K d.at_)
    (S : NdefX.NScope N (("self" : Str) :: ps) ["__class__"] d.scope)
    (hb : ∀ (cc cda : Addr) (doc pm ct : Value) (us : List Value), us.length = (("self" : Str) :: ps).length → bindArgs (ksFn d.name d.qual d.params d.body d.scope .none .none doc pm none (.ref cda) ct cc) ⟨us, []⟩ = pure ((("self" : Str) :: ps).zip us))
    (hS : F.nS = N.length) (hP : F.nP = (("self" : Str) :: ps).length) (hst : F.star = false)
    (hpar : (d.params.posonlyargs ++ d.params.args).head? = some ar) (har : ar.arg = "self") (hF : F.body = .expr (.sup c 1 (a :: as)) :: rest') (hB : d.body = .Expr (.Call (.Attribute (.Call (.Name "super" p0) [] [] p1) "__init__" apos) (e :: es) [] pos) pos2 :: rest)
    (hks : d.scope.names.lookup ("super" : Str) = some .globalImplicit) (hform : ∀ env, methodCallForm (e :: es).length (backTo pos (starEach (e :: es) env)) [] = true) (hl : (apos.endLine == pos.line) = true)
    (ns : NoStar e) (nss : NoStars es) (hA : ck (ckN N) 60 d.scope (.es (a :: as) (e :: es)) = true) (hR : ck (ckN N) 60 d.scope (.sts rest' rest) = true) : DefOk (X98 K) g (pg prog w mg base) tb n F where
  run := fun M k ht mk => by
    obtain ⟨oc, od, dV, doc, pm, an, cdv, ct, osl, cs, hcs, lk, hcd, hd⟩ := D.ex
    obtain ⟨⟨fd, e1, e2, e3, e4, e5⟩, su⟩ := sup_ok (w := w) h.b hq G X "self"
    rw [← hf] at lk
    rw [lk] at e1
    cases e1
    have e2' : an = none := e2
    have e3' : dV = .none := e3
    have e4' : cdv = .ref (cellK K (fadK K n)).2.2 := e4
    have e5' : d.cl.zip cs = [(("__class__" : Str), (cellK K (fadK K n)).1)] := e5
    rw [e5'] at lk
    subst e2' e3' e4'
    have C := co (P := prog) (w := w) h X G N
    have hA2 := (ck_ok C ht mk 60 d.scope (.es (a :: as) (e :: es)) hA).1
    have hR2 := ck_ok C ht mk 60 d.scope (.sts rest' rest) hR
    exact def_super (X := X98 K) (g := g) (p := pg prog w mg base) (M := M) (k := k) (N := N) (ps := ps) (F := F) (n := n) (f2 := 1) (c := c) (s0 := "self") (f := fadK K n) rfl lk hcd S (fun us hus => hb _ _ _ _ _ us hus) hS hP hst hpar har hF hB su hks
      (fun env _ => rfl) (fun env => hev_of hform hl env) ns nss mk hA2 hR2
end
end K98

namespace K98
open PySem L2 G PySem.W
section
variable {w : World} {K : Frag} {mg : Str → Option Value} {base : Heap} {g : Gi}
theorem d0 (h : SaysH B98 dfs K) (X : K.In base) (G : base.Ns mainGlobals mg) : DefOk (X98 K) g (pg prog w mg base) tb 0 f0 :=
  def_ok (X := X98 K) (c := ckN N0) (n := 0) (fuel := 60) (F := f0) (ps := ["value"]) (h.def_ 0) rfl rfl rfl ⟨rfl, rfl, rfl, by decide +kernel, rfl, by decide +kernel, by decide +kernel⟩ (fun doc pm an cdv ct us hl => match us, hl with | [_], _ => by kernel_rfl) rfl rfl rfl (co h X G _) c0
theorem d2 (h : SaysH B98 dfs K) (X : K.In base) (G : base.Ns mainGlobals mg) : DefOk (X98 K) g (pg prog w mg base) tb 2 f2 :=
  def_ok (X := X98 K) (c := ckN N2) (n := 2) (fuel := 60) (F := f2) (ps := ["self", "other"]) (h.def_ 2) rfl rfl rfl ⟨rfl, rfl, rfl, by decide +kernel, rfl, by decide +kernel, by decide +kernel⟩ (fun doc pm an cdv ct us hl => match us, hl with | [_, _], _ => by kernel_rfl) rfl rfl rfl (co h X G _) c2
theorem d3 (h : SaysH B98 dfs K) (X : K.In base) (G : base.Ns mainGlobals mg) : DefOk (X98 K) g (pg prog w mg base) tb 3 f3 :=
  def_ok (X := X98 K) (c := ckN N3) (n := 3) (fuel := 60) (F := f3) (ps := ["self"]) (h.def_ 3) rfl rfl rfl ⟨rfl, rfl, rfl, by decide +kernel, rfl, by decide +kernel, by decide +kernel⟩ (fun doc pm an cdv ct us hl => match us, hl with | [_], _ => by kernel_rfl) rfl rfl rfl (co h X G _) c3
theorem d4 (h : SaysH B98 dfs K) (X : K.In base) (G : base.Ns mainGlobals mg) : DefOk (X98 K) g (pg prog w mg base) tb 4 f4 :=
  def_ok (X := X98 K) (c := ckN N4) (n := 4) (fuel := 60) (F := f4) (ps := ["self"]) (h.def_ 4) rfl rfl rfl ⟨rfl, rfl, rfl, by decide +kernel, rfl, by decide +kernel, by decide +kernel⟩ (fun doc pm an cdv ct us hl => match us, hl with | [_], _ => by kernel_rfl) rfl rfl rfl (co h X G _) c4
theorem d11 (h : SaysH B98 dfs K) (X : K.In base) (G : base.Ns mainGlobals mg) : DefOk (X98 K) g (pg prog w mg base) tb 11 f11 :=
  def_ok (X := X98 K) (c := ckN N11) (n := 11) (fuel := 60) (F := f11) (ps := ["script"]) (h.def_ 11) rfl rfl rfl ⟨rfl, rfl, rfl, by decide +kernel, rfl, by decide +kernel, by decide +kernel⟩ (fun doc pm an cdv ct us hl => match us, hl with | [_], _ => by kernel_rfl) rfl rfl rfl (co h X G _) c11
theorem d12 (h : SaysH B98 dfs K) (X : K.In base) (G : base.Ns mainGlobals mg) : DefOk (X98 K) g (pg prog w mg base) tb 12 f12 :=
  def_ok (X := X98 K) (c := ckN N12) (n := 12) (fuel := 60) (F := f12) (ps := ["well", "many"]) (h.def_ 12) rfl rfl rfl ⟨rfl, rfl, rfl, by decide +kernel, rfl, by decide +kernel, by decide +kernel⟩ (fun doc pm an cdv ct us hl => match us, hl with | [_, _], _ => by kernel_rfl) rfl rfl rfl (co h X G _) c12
theorem d13 (h : SaysH B98 dfs K) (X : K.In base) (G : base.Ns mainGlobals mg) : DefOk (X98 K) g (pg prog w mg base) tb 13 f13 :=
  def_ok (X := X98 K) (c := ckN N13) (n := 13) (fuel := 60) (F := f13) (ps := ["well", "some"]) (h.def_ 13) rfl rfl rfl ⟨rfl, rfl, rfl, by decide +kernel, rfl, by decide +kernel, by decide +kernel⟩ (fun doc pm an cdv ct us hl => match us, hl with | [_, _], _ => by kernel_rfl) rfl rfl rfl (co h X G _) c13
theorem d14 (h : SaysH B98 dfs K) (X : K.In base) (G : base.Ns mainGlobals mg) : DefOk (X98 K) g (pg prog w mg base) tb 14 f14 :=
  def_ok (X := X98 K) (c := ckN N14) (n := 14) (fuel := 60) (F := f14) (ps := ["well", "deep"]) (h.def_ 14) rfl rfl rfl ⟨rfl, rfl, rfl, by decide +kernel, rfl, by decide +kernel, by decide +kernel⟩ (fun doc pm an cdv ct us hl => match us, hl with | [_, _], _ => by kernel_rfl) rfl rfl rfl (co h X G _) c14
theorem d15 (h : SaysH B98 dfs K) (X : K.In base) (G : base.Ns mainGlobals mg) : DefOk (X98 K) g (pg prog w mg base) tb 15 f15 :=
  def_ok (X := X98 K) (c := ckN N15) (n := 15) (fuel := 60) (F := f15) (ps := ["script"]) (h.def_ 15) rfl rfl rfl ⟨rfl, rfl, rfl, by decide +kernel, rfl, by decide +kernel, by decide +kernel⟩ (fun doc pm an cdv ct us hl => match us, hl with | [_], _ => by kernel_rfl) rfl rfl rfl (co h X G _) c15
theorem d1 (h : SaysH B98 dfs K) (X : K.In base) (G : base.Ns mainGlobals mg) : DefOk (X98 K) g (pg prog w mg base) tb 1 f1 :=
  def_okS (X := X98 K) (c := ckN N1) (n := 1) (fuel := 60) (F := f1) (ps := ["self"]) (pv := "parts") (h.def_ 1) rfl rfl rfl ⟨rfl, rfl, rfl, by decide +kernel, rfl, by decide +kernel, by decide +kernel⟩ (fun doc pm an cdv ct us rest hl => match us, rest, hl with | [_], [], _ => by kernel_rfl | [_], _ :: _, _ => by kernel_rfl) rfl rfl rfl (co h X G _) c1
theorem d5 (h : SaysH B98 dfs K) (X : K.In base) (G : base.Ns mainGlobals mg) : DefOk (X98 K) g (pg prog w mg base) tb 5 f5 :=
  sdef (n := 5) (c := "RestsHere") (b := true) (F := f5) (N := N5) (ps := ["settings"]) h X G (by decide) (h.def_ 5) rfl rfl (NdefX.nscope_by (by decide +kernel)) (fun cc cda doc pm ct us hl => match us, hl with | [_, _], _ => by kernel_rfl) rfl rfl rfl rfl rfl rfl rfl (by decide +kernel) (fun _ => rfl) rfl (fun _ _ => rfl) .nil (by decide +kernel) c5
theorem d6 (h : SaysH B98 dfs K) (X : K.In base) (G : base.Ns mainGlobals mg) : DefOk (X98 K) g (pg prog w mg base) tb 6 f6 :=
  sdef (n := 6) (c := "RestlessHere") (b := false) (F := f6) (N := N6) (ps := ["rows", "rankings"]) h X G (by decide) (h.def_ 6) rfl rfl (NdefX.nscope_by (by decide +kernel)) (fun cc cda doc pm ct us hl => match us, hl with | [_, _, _], _ => by kernel_rfl) rfl rfl rfl rfl rfl rfl rfl (by decide +kernel) (fun _ => rfl) rfl (fun _ _ => rfl) (.cons (fun _ _ => rfl) .nil) (by decide +kernel) c6
theorem d7 (h : SaysH B98 dfs K) (X : K.In base) (G : base.Ns mainGlobals mg) : DefOk (X98 K) g (pg prog w mg base) tb 7 f7 :=
  sdef (n := 7) (c := "Path") (b := true) (F := f7) (N := N7) (ps := ["settings"]) h X G (by decide) (h.def_ 7) rfl rfl (NdefX.nscope_by (by decide +kernel)) (fun cc cda doc pm ct us hl => match us, hl with | [_, _], _ => by kernel_rfl) rfl rfl rfl rfl rfl rfl rfl (by decide +kernel) (fun _ => rfl) rfl (fun _ _ => rfl) .nil (by decide +kernel) c7
theorem d8 (h : SaysH B98 dfs K) (X : K.In base) (G : base.Ns mainGlobals mg) : DefOk (X98 K) g (pg prog w mg base) tb 8 f8 :=
  sdef (n := 8) (c := "Never") (b := false) (F := f8) (N := N8) (ps := ["settings"]) h X G (by decide) (h.def_ 8) rfl rfl (NdefX.nscope_by (by decide +kernel)) (fun cc cda doc pm ct us hl => match us, hl with | [_, _], _ => by kernel_rfl) rfl rfl rfl rfl rfl rfl rfl (by decide +kernel) (fun _ => rfl) rfl (fun _ _ => rfl) .nil (by decide +kernel) c8
theorem d9 (h : SaysH B98 dfs K) (X : K.In base) (G : base.Ns mainGlobals mg) : DefOk (X98 K) g (pg prog w mg base) tb 9 f9 :=
  sdef (n := 9) (c := "Calm") (b := true) (F := f9) (N := N9) (ps := ["order"]) h X G (by decide) (h.def_ 9) rfl rfl (NdefX.nscope_by (by decide +kernel)) (fun cc cda doc pm ct us hl => match us, hl with | [_, _], _ => by kernel_rfl) rfl rfl rfl rfl rfl rfl rfl (by decide +kernel) (fun _ => rfl) rfl (fun _ _ => rfl) .nil (by decide +kernel) c9
theorem d10 (h : SaysH B98 dfs K) (X : K.In base) (G : base.Ns mainGlobals mg) : DefOk (X98 K) g (pg prog w mg base) tb 10 f10 :=
  sdef (n := 10) (c := "Turning") (b := false) (F := f10) (N := N10) (ps := ["ring"]) h X G (by decide) (h.def_ 10) rfl rfl (NdefX.nscope_by (by decide +kernel)) (fun cc cda doc pm ct us hl => match us, hl with | [_, _], _ => by kernel_rfl) rfl rfl rfl rfl rfl rfl rfl (by decide +kernel) (fun _ => rfl) rfl (fun _ _ => rfl) .nil (by decide +kernel) c10
theorem defs (h : SaysH B98 dfs K) (X : K.In base) (G : base.Ns mainGlobals mg) (n : Nat) (F : Fn) (e : fns n = some F) : DefOk (X98 K) g (pg prog w mg base) tb n F := by
  unfold fns at e
  split at e
  · cases e; exact d0 h X G
  · cases e; exact d1 h X G
  · cases e; exact d2 h X G
  · cases e; exact d3 h X G
  · cases e; exact d4 h X G
  · cases e; exact d5 h X G
  · cases e; exact d6 h X G
  · cases e; exact d7 h X G
  · cases e; exact d8 h X G
  · cases e; exact d9 h X G
  · cases e; exact d10 h X G
  · cases e; exact d11 h X G
  · cases e; exact d12 h X G
  · cases e; exact d13 h X G
  · cases e; exact d14 h X G
  · cases e; exact d15 h X G
  · cases e
def gi0 : Gi := ⟨fun _ _ => True, fun _ _ _ => trivial, fun _ _ _ _ => trivial⟩
theorem reps_int {X : Pc} {wd : Wd} : ∀ ns : List Int, Reps X wd (ns.map .int) (ns.map V.int)
  | [] => rfl
  | i :: r => ⟨_, _, rfl, rfl, reps_int r⟩
theorem lookup_mem {a : Addr} {o : Obj} : ∀ {K : Frag}, K.lookup a = some o → (a, o) ∈ K
  | [], h => nomatch h
  | (b, u) :: r, h => by
    have e : (match a == b with | true => some u | false => List.lookup a r) = some o := h
    cases q : (a == b) with
    | true => rw [q] at e; cases e; rw [beq_iff_eq.mp q]; exact List.mem_cons_self
    | false => rw [q] at e; exact List.mem_cons_of_mem _ (lookup_mem e)
theorem nolist (h : B98 K = true) {a : Addr} {o : Obj} (e : K.lookup a = some o) : o.cls ≠ .type "list" := fun z => by
  have q := grp_all h 0 rfl _ (List.mem_cons_of_mem _ List.mem_cons_self)
  have r := List.all_eq_true.mp q _ (lookup_mem e)
  rw [show (a, o).2.cls = .type "list" from z] at r
  cases r
/-- the law's promise over every base -/
theorem lawQ (h : SaysH B98 dfs K) (X : K.In base) (G : base.Ns mainGlobals mg) {a : Addr} {ns : List Int} (hl : ns.length ≤ 63) {H : Hp} (hS : Rd H a (.lst (ns.map V.int))) :
    ∃ sp, FnQ prog w K mg base 60 (fadK K 15) sp ∧ sp [.ref a] H (fun v _ => v = .bl true) E0 := by
  have F := all_ok (p := pg prog w mg base) (tb := tb) (fn := fns) (g := gi0) (mok0 (P := prog) (w := w) h.b X G) (fun n F e => defs h X G n F e) 60 15
  refine ⟨_, F, ?_⟩
  obtain ⟨s', e⟩ := law_ok hl
  refine ⟨⟨[], fun _ => False, fun _ => False, H⟩, [.scr (ns.map .int)], [], .bl true, s', rfl, e, ⟨_, _, rfl, ⟨a, ns.map V.int, rfl, ⟨hS, fun q => ?_⟩, reps_int ns⟩, rfl⟩, ?_, fun v w' _ r _ => r⟩
  · rcases q with q | q | q
    · exact absurd (show a ∈ ([] : List Addr) from q) (by simp)
    · exact q
    · exact q
  · exact {
      len := rfl
      nd := List.nodup_nil
      dis := fun a ha => absurd (show a ∈ ([] : List Addr) from ha) (by simp)
      cl := fun a q => q.elim
      vl := fun a q => q.elim
      dv := fun a ha => absurd (show a ∈ ([] : List Addr) from ha) (by simp)
      obj := fun n o e => by simp at e
      gi := trivial }
end
end K98

namespace K98
open PySem PySem.Spec PyProof.Rows L2 G
abbrev R : PySem.W.OpenRow := PySem.W.OpenLaw.row PySem.Challenge.rw_whoneedswhom_k98_papers_on_rest_keep_the
abbrev hk : PySem.W.Hook := hookH 4 B98 dfs
def ob (s : PySem.W.SharedT) : AlH := obsHG 4 B98 dfs (HandSHeadRun.getT s)
theorem ob_eq (s : PySem.W.SharedT) : ob s = hk.obs s.abs := obsHG_eq (HandSHeadRun.getT_eq s)
def loose : List Str := ["kept", "Paper", "Denial", "RestsHere", "RestlessHere", "Path", "Never", "Calm", "Turning", "_law_well", "_law_draw", "_law_one", "_law_value"]
theorem run (w : World) : HandSHeadRun.RunEq R (PySem.W.view R.prog [17]) hk ob 3000 loose w := by
  intro os
  kernel_rfl
end K98
open PySem PySem.W PySem.Calls PyProof.Rows
theorem PySem.Challenge.cw_whoneedswhom_k98_papers_on_rest_keep_the_holds : PySem.Challenge.rw_whoneedswhom_k98_papers_on_rest_keep_the.Holds := by
  w_on; o_law
  refine HandSHeadRun.head_any (r := OpenLaw.row PySem.Challenge.rw_whoneedswhom_k98_papers_on_rest_keep_the) (q := view (OpenLaw.row PySem.Challenge.rw_whoneedswhom_k98_papers_on_rest_keep_the).prog [17]) (H := K98.hk) (ob := K98.ob) (M := 3000) (loose := K98.loose) (d := HandSHeadRun.topDef (OpenLaw.row PySem.Challenge.rw_whoneedswhom_k98_papers_on_rest_keep_the).prog 17) (kwd := []) K98.ob_eq
    (by kernel_rfl) (fun s => by kernel_rfl) K98.run (by kernel_rfl) (by kernel_rfl) (by kernel_rfl) (by rfl) (by first | assumption | decide +kernel) (by decide +kernel) ⟨rfl, rfl, rfl, rfl, rfl, by decide +kernel⟩ ?hw ?hc
  case hw => w_witness2
  case hc =>
    refine Att.attach_call (l := PySem.Challenge.rw_whoneedswhom_k98_papers_on_rest_keep_the) (n := 63) rfl (by kernel_rfl) ?_
    intro w s₀ s₁ mg mb fa o pm cd doc a vs ns Gd Y ho hd hcd hmg0 hobj hints hlen hg
    obtain ⟨K, as, g, e, KX, c⟩ := Y
    have hmg : mg ("law" : PySem.Str) = some (.ref fa) := by
      have e : (HandSHeadRun.topDef (OpenLaw.row PySem.Challenge.rw_whoneedswhom_k98_papers_on_rest_keep_the).prog 17).name = ("law" : PySem.Str) := by kernel_rfl
      rw [← e]
      exact hmg0
    have hfa : fa = K98.fadK K 15 := by
      have z := K98.grp_map c.b 2 (xs := (["kept", "_law_well", "_law_draw", "_law_one", "_law_value", "law"] : List PySem.Str)) (f := fun x => (He.Fa.glo x).ok K && (He.Fa.keep x).ok K) rfl "law" (by decide)
      have e := hmg.symm.trans (He.glo_ok KX Gd.T.g (He.ba z).1)
      cases e
      rfl
    subst hfa
    refine G.law_callQ (k := 60) KX Gd.T.g Gd.T.b Gd.T.builtins Gd.T.nolimit hg hobj hints (Nat.le_trans hlen (by decide)) ⟨rfl, by decide, by decide⟩ ?_ ?_
    · cases e2 : K.lookup a with
      | none => rfl
      | some o2 =>
        have z := KX _ _ e2
        rw [hobj] at z
        cases z
        exact absurd rfl (K98.nolist c.b e2)
    · intro base sp H hX hN hO hS
      exact K98.lawQ (w := w) c hX hN hlen hS

