import PyProof.Rows.All
import Wide.All
import OpenK.AllK
import Wide.FinOn
import HandS.ForMost
import HandS.Wide
import HandS.WideBits
import HandS.IsInst
import HandS.SortInts
import HandS.Style
import HandS.Flt
import PyProof.ReprLen
import PySem.Challenge.RW_onecut_k16_whole_far_remainders
set_option Elab.async false
set_option linter.all false
set_option maxRecDepth 100000
set_option maxHeartbeats 4000000
/-! Onecut, base: plain data over the abstract heap; what a heap may become. -/
namespace OC
open PySem PySem.Spec PyProof.Rows L2

/-- plain data: what a value is, whatever its address. bag: the law's source of draws, whose state is left open; scr: the script -/
inductive D where
  | non
  | bl (b : Bool)
  | int (i : Int)
  | str (s : Str)
  | tup (xs : List D)
  | lst (xs : List D)
  | scr (ns : List Int)
  | bag

mutual
def D.py : D → PyData
  | .non => .none
  | .bl b => .bool b
  | .int i => .int i
  | .str s => .str s
  | .tup xs => .tuple (pyL xs)
  | .lst xs => .list (pyL xs)
  | .scr _ => .none
  | .bag => .none
def pyL : List D → List PyData
  | [] => []
  | d :: ds => d.py :: pyL ds
end
mutual
/-- data alone: no bag, no script within -/
def D.pure : D → Bool
  | .tup xs => pureL xs
  | .lst xs => pureL xs
  | .scr _ => false
  | .bag => false
  | _ => true
def pureL : List D → Bool
  | [] => true
  | d :: ds => d.pure && pureL ds
end

abbrev AP := Addr → Prop
def LitT (K : PySem.W.Frag) (a : Addr) (vs : List V) : Prop :=
  ∃ (o : Obj) (its : Array Value) (n : Nat), K.lookup a = some o ∧ o.cls = .type "tuple" ∧ o.data = .seq its n ∧ its.size ≤ sizeLine ∧ Vals vs its.toList

def LitL (K : PySem.W.Frag) (a : Addr) (vs : List V) : Prop :=
  ∃ (o : Obj) (its : Array Value) (n : Nat), K.lookup a = some o ∧ o.cls = .type "list" ∧ o.dict = none ∧ o.data = .seq its n ∧ its.size ≤ sizeLine ∧ Vals vs its.toList

mutual
/-- the value v is the datum d; Bg: the bags' places; M: places that nothing here leans on -/
inductive Rep (K : PySem.W.Frag) (Bg M : AP) (H : Hp) : V → D → Prop
  | non : Rep K Bg M H .non .non
  | bl (b : Bool) : Rep K Bg M H (.bl b) (.bl b)
  | int (i : Int) : Rep K Bg M H (.int i) (.int i)
  | str (s : Str) : Rep K Bg M H (.str s) (.str s)
  | tup {a : Addr} {vs : List V} {ds : List D} (h : Rd H a (.tup vs)) (nb : ¬ Bg a) (nm : ¬ M a) (r : RepL K Bg M H vs ds) : Rep K Bg M H (.ref a) (.tup ds)
  | lit {a : Addr} {vs : List V} {ds : List D} (h : LitT K a vs) (r : RepL K Bg M H vs ds) : Rep K Bg M H (.ref a) (.tup ds)
  | lst {a : Addr} {vs : List V} {ds : List D} (h : H a = some (.lst vs)) (nb : ¬ Bg a) (nm : ¬ M a) (r : RepL K Bg M H vs ds) : Rep K Bg M H (.ref a) (.lst ds)
  | scr {a : Addr} {ns : List Int} {o : Obj} (h : H a = some (.frz o (.lst (ns.map V.int)))) (nb : ¬ Bg a) (nm : ¬ M a) : Rep K Bg M H (.ref a) (.scr ns)
  | scrK {a : Addr} {ns : List Int} (h : LitL K a (ns.map V.int)) : Rep K Bg M H (.ref a) (.scr ns)
  | bag {a : Addr} (b : Bg a) : Rep K Bg M H (.ref a) .bag
inductive RepL (K : PySem.W.Frag) (Bg M : AP) (H : Hp) : List V → List D → Prop
  | nil : RepL K Bg M H [] []
  | cons {v : V} {d : D} {vs : List V} {ds : List D} (h : Rep K Bg M H v d) (t : RepL K Bg M H vs ds) : RepL K Bg M H (v :: vs) (d :: ds)
end

def BagsOk (Bg : AP) (H : Hp) : Prop := ∀ a, Bg a → ∃ L M : Int, H a = some (.lst [.int L, .int M]) ∧ 0 ≤ L ∧ 0 ≤ M ∧ M < 2 ^ 32

/-- what an expression, or a call, may do to the heap: new things, other states of the bags -/
structure Ext (Bg : AP) (H : Hp) (Bg' : AP) (H' : Hp) : Prop where
  sub : ∀ a, Bg a → Bg' a
  new : ∀ a, Bg' a → ¬ Bg a → H a = none
  keep : ∀ a o, ¬ Bg a → H a = some o → H' a = some o
  bags : BagsOk Bg' H'
theorem Ext.refl {Bg : AP} {H : Hp} (b : BagsOk Bg H) : Ext Bg H Bg H := ⟨fun _ h => h, fun _ h n => absurd h n, fun _ _ _ h => h, b⟩
theorem Ext.nb {Bg Bg' : AP} {H H' : Hp} (e : Ext Bg H Bg' H') {a : Addr} {o : HO} (h : H a = some o) (n : ¬ Bg a) : ¬ Bg' a := fun z => by
  have q := e.new a z n
  rw [h] at q
  cases q
theorem Ext.trans {Bg Bg1 Bg2 : AP} {H H1 H2 : Hp} (e : Ext Bg H Bg1 H1) (f : Ext Bg1 H1 Bg2 H2) : Ext Bg H Bg2 H2 := by
  refine ⟨fun a h => f.sub a (e.sub a h), fun a h n => ?_, fun a o n h => f.keep a o (e.nb h n) (e.keep a o n h), f.bags⟩
  by_cases q : Bg1 a
  · exact e.new a q n
  · have z := f.new a h q
    cases w : H a with
    | none => rfl
    | some o =>
      rw [e.keep a o n w] at z
      cases z
theorem ne_m {M : AP} {a p : Addr} (nm : ¬ M a) (hp : M p) : a ≠ p := fun z => nm (by rw [z]; exact hp)
/-- a new thing, no bag -/
theorem Ext.lay {Bg : AP} {H : Hp} {p : Addr} {o : HO} (b : BagsOk Bg H) (h : H p = none) : Ext Bg H Bg (upd H p o) :=
  ⟨fun _ q => q, fun _ q n => absurd q n, fun a u _ q => by rw [upd_ne (ne_of_none q h)]; exact q, fun a q => by
    obtain ⟨L, M, e, r⟩ := b a q
    exact ⟨L, M, by rw [upd_ne (ne_of_none e h)]; exact e, r⟩⟩

theorem rd_some {H : Hp} {a : Addr} {u : HO} (h : Rd H a u) : ∃ o, H a = some o := by
  rcases h with h | ⟨o, h⟩
  · exact ⟨_, h⟩
  · exact ⟨_, h⟩
theorem rd_keep {H H' : Hp} {a : Addr} {u : HO} (h : Rd H a u) (k : ∀ o, H a = some o → H' a = some o) : Rd H' a u := by
  rcases h with h | ⟨o, h⟩
  · exact .inl (k _ h)
  · exact .inr ⟨o, k _ h⟩

mutual
theorem Rep.ext {K : PySem.W.Frag} {Bg Bg' M M' : AP} {H H' : Hp} (e : Ext Bg H Bg' H') (hm : ∀ a, M' a → M a ∨ H a = none) : ∀ {v : V} {d : D}, Rep K Bg M H v d → Rep K Bg' M' H' v d
  | _, _, .non => .non
  | _, _, .bl b => .bl b
  | _, _, .int i => .int i
  | _, _, .str s => .str s
  | _, _, .tup h nb nm r => by
    obtain ⟨o, ho⟩ := rd_some h
    exact .tup (rd_keep h fun o q => e.keep _ o nb q) (e.nb ho nb) (fun z => (hm _ z).elim nm (fun z => by rw [ho] at z; cases z)) (RepL.ext e hm r)
  | _, _, .lit h r => .lit h (RepL.ext e hm r)
  | _, _, .lst h nb nm r => .lst (e.keep _ _ nb h) (e.nb h nb) (fun z => (hm _ z).elim nm (fun z => by rw [h] at z; cases z)) (RepL.ext e hm r)
  | _, _, .scr h nb nm => .scr (e.keep _ _ nb h) (e.nb h nb) (fun z => (hm _ z).elim nm (fun z => by rw [h] at z; cases z))
  | _, _, .scrK h => .scrK h
  | _, _, .bag b => .bag (e.sub _ b)
theorem RepL.ext {K : PySem.W.Frag} {Bg Bg' M M' : AP} {H H' : Hp} (e : Ext Bg H Bg' H') (hm : ∀ a, M' a → M a ∨ H a = none) : ∀ {vs : List V} {ds : List D}, RepL K Bg M H vs ds → RepL K Bg' M' H' vs ds
  | _, _, .nil => .nil
  | _, _, .cons h t => .cons (Rep.ext e hm h) (RepL.ext e hm t)
end
mutual
/-- a place that nothing leans on is written -/
theorem Rep.upd {K : PySem.W.Frag} {Bg M : AP} {H : Hp} {p : Addr} {o : HO} (hp : M p) : ∀ {v : V} {d : D}, Rep K Bg M H v d → Rep K Bg M (L2.upd H p o) v d
  | _, _, .non => .non
  | _, _, .bl b => .bl b
  | _, _, .int i => .int i
  | _, _, .str s => .str s
  | _, _, .tup h nb nm r => .tup (rd_keep h fun o q => by rw [upd_ne (ne_m nm hp)]; exact q) nb nm (RepL.upd hp r)
  | _, _, .lit h r => .lit h (RepL.upd hp r)
  | _, _, .lst h nb nm r => .lst (by rw [upd_ne (ne_m nm hp)]; exact h) nb nm (RepL.upd hp r)
  | _, _, .scr h nb nm => .scr (by rw [upd_ne (ne_m nm hp)]; exact h) nb nm
  | _, _, .scrK h => .scrK h
  | _, _, .bag b => .bag b
theorem RepL.upd {K : PySem.W.Frag} {Bg M : AP} {H : Hp} {p : Addr} {o : HO} (hp : M p) : ∀ {vs : List V} {ds : List D}, RepL K Bg M H vs ds → RepL K Bg M (L2.upd H p o) vs ds
  | _, _, .nil => .nil
  | _, _, .cons h t => .cons (Rep.upd hp h) (RepL.upd hp t)
end
theorem Rep.less {K : PySem.W.Frag} {Bg M M' : AP} {H : Hp} {v : V} {d : D} (b : BagsOk Bg H) (hm : ∀ a, M' a → M a) (r : Rep K Bg M H v d) : Rep K Bg M' H v d := r.ext (Ext.refl b) fun a q => .inl (hm a q)
theorem RepL.less {K : PySem.W.Frag} {Bg M M' : AP} {H : Hp} {vs : List V} {ds : List D} (b : BagsOk Bg H) (hm : ∀ a, M' a → M a) (r : RepL K Bg M H vs ds) : RepL K Bg M' H vs ds := r.ext (Ext.refl b) fun a q => .inl (hm a q)
theorem RepL.len {K : PySem.W.Frag} {Bg M : AP} {H : Hp} : ∀ {vs : List V} {ds : List D}, RepL K Bg M H vs ds → vs.length = ds.length
  | _, _, .nil => rfl
  | _, _, .cons _ t => by rw [List.length_cons, List.length_cons, t.len]
theorem RepL.get {K : PySem.W.Frag} {Bg M : AP} {H : Hp} : ∀ {vs : List V} {ds : List D} {i : Nat} {d : D}, RepL K Bg M H vs ds → ds[i]? = some d → ∃ v, vs[i]? = some v ∧ Rep K Bg M H v d
  | _, _, _, _, .nil, e => by simp at e
  | _, _, 0, _, .cons r _, e => by simp at e; subst e; exact ⟨_, rfl, r⟩
  | _, _, i + 1, _, .cons _ t, e => by
    obtain ⟨v, h1, h2⟩ := t.get (i := i) (by simpa using e)
    exact ⟨v, by simpa using h1, h2⟩
theorem RepL.get' {K : PySem.W.Frag} {Bg M : AP} {H : Hp} : ∀ {vs : List V} {ds : List D} {i : Nat} {v : V}, RepL K Bg M H vs ds → vs[i]? = some v → ∃ d, ds[i]? = some d ∧ Rep K Bg M H v d
  | _, _, _, _, .nil, e => by simp at e
  | _, _, 0, _, .cons r _, e => by simp at e; subst e; exact ⟨_, rfl, r⟩
  | _, _, i + 1, _, .cons _ t, e => by
    obtain ⟨v, h1, h2⟩ := t.get' (i := i) (by simpa using e)
    exact ⟨v, by simpa using h1, h2⟩
theorem RepL.append {K : PySem.W.Frag} {Bg M : AP} {H : Hp} : ∀ {vs ws : List V} {ds es : List D}, RepL K Bg M H vs ds → RepL K Bg M H ws es → RepL K Bg M H (vs ++ ws) (ds ++ es)
  | _, _, _, _, .nil, s => s
  | _, _, _, _, .cons r t, s => .cons r (t.append s)
theorem RepL.ints {K : PySem.W.Frag} {Bg M : AP} {H : Hp} : ∀ (ns : List Int), RepL K Bg M H (ns.map V.int) (ns.map D.int)
  | [] => .nil
  | n :: ns => .cons (.int n) (RepL.ints ns)
theorem Rep.int_inv {K : PySem.W.Frag} {Bg M : AP} {H : Hp} {v : V} {i : Int} (r : Rep K Bg M H v (.int i)) : v = .int i := by cases r; rfl
theorem Rep.bl_inv {K : PySem.W.Frag} {Bg M : AP} {H : Hp} {v : V} {b : Bool} (r : Rep K Bg M H v (.bl b)) : v = .bl b := by cases r; rfl
theorem Rep.str_inv {K : PySem.W.Frag} {Bg M : AP} {H : Hp} {v : V} {b : Str} (r : Rep K Bg M H v (.str b)) : v = .str b := by cases r; rfl
theorem Rep.non_inv {K : PySem.W.Frag} {Bg M : AP} {H : Hp} {v : V} (r : Rep K Bg M H v .non) : v = .non := by cases r; rfl
theorem RepL.ints_inv {K : PySem.W.Frag} {Bg M : AP} {H : Hp} : ∀ {ns : List Int} {vs : List V}, RepL K Bg M H vs (ns.map D.int) → vs = ns.map V.int
  | [], _, .nil => rfl
  | n :: ns, _, .cons r t => by rw [r.int_inv, t.ints_inv]; rfl
theorem RepL.bls_inv {K : PySem.W.Frag} {Bg M : AP} {H : Hp} : ∀ {ns : List Bool} {vs : List V}, RepL K Bg M H vs (ns.map D.bl) → vs = ns.map V.bl
  | [], _, .nil => rfl
  | n :: ns, _, .cons r t => by rw [r.bl_inv, t.bls_inv]; rfl
theorem Rep.tup_inv {K : PySem.W.Frag} {Bg M : AP} {H : Hp} {v : V} {ds : List D} (r : Rep K Bg M H v (.tup ds)) : ∃ a vs, v = .ref a ∧ SqT K H a vs ∧ RepL K Bg M H vs ds := by
  cases r with
  | tup h nb nm r => exact ⟨_, _, rfl, .inl h, r⟩
  | lit h r => exact ⟨_, _, rfl, .inr h, r⟩
theorem Rep.lst_inv {K : PySem.W.Frag} {Bg M : AP} {H : Hp} {v : V} {ds : List D} (r : Rep K Bg M H v (.lst ds)) : ∃ a vs, v = .ref a ∧ H a = some (.lst vs) ∧ ¬ Bg a ∧ ¬ M a ∧ RepL K Bg M H vs ds := by
  cases r with
  | lst h nb nm r => exact ⟨_, _, rfl, h, nb, nm, r⟩
theorem Rep.scr_inv {K : PySem.W.Frag} {Bg M : AP} {H : Hp} {v : V} {ns : List Int} (r : Rep K Bg M H v (.scr ns)) : ∃ a, v = .ref a ∧ SqL K H a (ns.map V.int) := by
  cases r with
  | scr h nb nm => exact ⟨_, rfl, .inl (.inr ⟨_, h⟩)⟩
  | scrK h => exact ⟨_, rfl, .inr h⟩
theorem Rep.bag_inv {K : PySem.W.Frag} {Bg M : AP} {H : Hp} {v : V} (r : Rep K Bg M H v .bag) : ∃ a, v = .ref a ∧ Bg a := by
  cases r with
  | bag b => exact ⟨_, rfl, b⟩
mutual
theorem Rep.dp {K : PySem.W.Frag} {Bg M : AP} {H : Hp} : ∀ {v : V} {d : D}, Rep K Bg M H v d → d.pure = true → Dp K H v d.py
  | _, _, .non, _ => .non
  | _, _, .bl b, _ => .bl b
  | _, _, .int i, _ => .int i
  | _, _, .str s, _ => .str s
  | _, _, .tup h _ _ r, p => .tup (.inl h) (RepL.dp r p)
  | _, _, .lit h r, p => .tup (.inr h) (RepL.dp r p)
  | _, _, .lst h _ _ r, p => .lst (.inl (.inl h)) (RepL.dp r p)
  | _, _, .scr _ _ _, p => by cases p
  | _, _, .scrK _, p => by cases p
  | _, _, .bag _, p => by cases p
theorem RepL.dp {K : PySem.W.Frag} {Bg M : AP} {H : Hp} : ∀ {vs : List V} {ds : List D}, RepL K Bg M H vs ds → pureL ds = true → DpAll K H vs (pyL ds)
  | _, _, .nil, _ => .nil
  | _, _, .cons h t, p => by
    have q : (_ && _) = true := p
    rw [Bool.and_eq_true] at q
    exact .cons (Rep.dp h q.1) (RepL.dp t q.2)
end
end OC

set_option Elab.async false
set_option linter.all false
set_option maxRecDepth 100000
set_option maxHeartbeats 4000000
/-! Onecut, the small language: a def's body by slots, and what it means over plain data (what must hold ahead so that the wish holds behind). -/
namespace OC
open PySem PySem.Spec PyProof.Rows L2

inductive BO where
  | add | sub | mul | fdiv | mod | pow
  deriving DecidableEq
inductive CO where
  | eq | ne | lt | le | gt | ge | isn | isnot | inn | notin
  deriving DecidableEq
inductive Bi where
  | len | abs | max | min | sum | all | any | repr | divmod | int | sorted | tuple | list
  deriving DecidableEq
/-- what a for walks -/
inductive IK where
  | lst | tup | rng1 | rng2 | enum | zip | rev
  deriving DecidableEq
inductive Tg where
  | name (i : Nat)
  | tup (is : List Nat)
  deriving DecidableEq
inductive Ty where
  | int | bool | tuple | list | str
  deriving DecidableEq

inductive E where
  | var (i : Nat)
  | k (d : D)
  | bin (o : BO) (a b : E)
  | neg (a : E)
  | cmp (o : CO) (a b : E)
  | chain (o p : CO) (a b c : E)
  | andv (a b : E)
  | orv (a b : E)
  | notv (a : E)
  | ite (t a b : E)
  | tup (as : List E)
  | lst (as : List E)
  | mkbag (a b : E)
  | ixn (a : E) (n : Nat)
  | ix (a b : E)
  | slc (a : E) (lo hi : List E)
  | call (f : Nat) (as : List E)
  | bi (f : Bi) (as : List E)
  | isi (a : E) (t : Ty)
  | lc (elt : E) (tg : Tg) (k : IK) (its ifs : List E) (own : List (Str × Nat))

/-- what a def promises, over plain data -/
abbrev DC := List D → (D → Prop) → Prop

def getV : List (Option D) → Nat → Option D
  | [], _ => none
  | x :: _, 0 => x
  | _ :: xs, n + 1 => getV xs n
def wipeV (G : List (Option D)) : List Nat → List (Option D)
  | [] => G
  | v :: vs => (wipeV G vs).set v none
def setAll : List (Option D) → List Nat → List D → List (Option D)
  | G, i :: is, d :: ds => setAll (G.set i (some d)) is ds
  | G, _, _ => G
def bindV : Tg → D → List (Option D) → Option (List (Option D))
  | .name i, d, G => some (G.set i (some d))
  | .tup is, .tup ds, G => if is.length = ds.length then some (setAll G is ds) else none
  | _, _, _ => none
def intsOf : List D → Option (List Int)
  | [] => some []
  | .int i :: ds => (intsOf ds).map (i :: ·)
  | _ => none
def blsOf : List D → Option (List Bool)
  | [] => some []
  | .bl i :: ds => (blsOf ds).map (i :: ·)
  | _ => none
def eqOk (d : D) : Prop := d.pure = true ∧ SeqAt.shaped d.py = true
def showOk (d : D) : Prop := d.pure = true ∧ d.py.showable = true ∧ d.py.shown.length ≤ sizeLine ∧ d.py.depth ≤ 60
def isTy : Ty → D → Bool
  | .int, .int _ => true
  | .int, .bl _ => true
  | .bool, .bl _ => true
  | .tuple, .tup _ => true
  | .list, .lst _ => true
  | .str, .str _ => true
  | _, _ => false

def bop : BO → D → D → (D → Prop) → Prop
  | .add, .int i, .int j, Q => Q (.int (i + j))
  | .add, .lst xs, .lst ys, Q => xs.length + ys.length ≤ sizeLine ∧ Q (.lst (xs ++ ys))
  | .sub, .int i, .int j, Q => Q (.int (i - j))
  | .mul, .int i, .int j, Q => CMulW i j ∧ Q (.int (i * j))
  | .mul, .lst xs, .int k, Q => (0 ≤ k ∧ k < 1000 ∧ xs.length ≤ 1000) ∧ Q (.lst (List.replicate k.toNat xs).flatten)
  | .fdiv, .int i, .int j, Q => (j ≠ 0 ∧ j.natAbs.log2 < 9000) ∧ Q (.int (i.fdiv j))
  | .mod, .int i, .int j, Q => j ≠ 0 ∧ Q (.int (i.fmod j))
  | .pow, .int i, .int j, Q => CPow i j ∧ Q (.int (i ^ j.toNat))
  | _, _, _, _ => False
def cop : CO → D → D → (D → Prop) → Prop
  | .eq, .int i, .int j, Q => Q (.bl (decide (i = j)))
  | .ne, .int i, .int j, Q => Q (.bl (!decide (i = j)))
  | .lt, .int i, .int j, Q => Q (.bl (decide (i < j)))
  | .le, .int i, .int j, Q => Q (.bl (decide (i ≤ j)))
  | .gt, .int i, .int j, Q => Q (.bl (decide (j < i)))
  | .ge, .int i, .int j, Q => Q (.bl (decide (j ≤ i)))
  | .eq, .str i, .str j, Q => Q (.bl (decide (i = j)))
  | .ne, .str i, .str j, Q => Q (.bl (!decide (i = j)))
  | .eq, x, y, Q => (eqOk x ∧ eqOk y) ∧ Q (.bl (PyData.eqv x.py y.py))
  | .ne, x, y, Q => (eqOk x ∧ eqOk y) ∧ Q (.bl (!PyData.eqv x.py y.py))
  | .isn, .non, .non, Q => Q (.bl true)
  | .isn, .bl _, .non, Q => Q (.bl false)
  | .isn, .int _, .non, Q => Q (.bl false)
  | .isn, .str _, .non, Q => Q (.bl false)
  | .isn, .tup _, .non, Q => Q (.bl false)
  | .isn, .lst _, .non, Q => Q (.bl false)
  | .isnot, .non, .non, Q => Q (.bl false)
  | .isnot, .bl _, .non, Q => Q (.bl true)
  | .isnot, .int _, .non, Q => Q (.bl true)
  | .isnot, .str _, .non, Q => Q (.bl true)
  | .isnot, .tup _, .non, Q => Q (.bl true)
  | .isnot, .lst _, .non, Q => Q (.bl true)
  | _, _, _, _ => False
def ixop : D → D → (D → Prop) → Prop
  | .tup xs, .int i, Q => match atI xs i with | some d => Q d | none => False
  | .lst xs, .int i, Q => match atI xs i with | some d => Q d | none => False
  | .scr ns, .int i, Q => match atI ns i with | some d => Q (.int d) | none => False
  | _, _, _ => False
def ixnop : D → Nat → (D → Prop) → Prop
  | .tup xs, n, Q => match xs[n]? with | some d => Q d | none => False
  | .lst xs, n, Q => match xs[n]? with | some d => Q d | none => False
  | .bag, 0, Q => ∀ i : Int, 0 ≤ i → Q (.int i)
  | .bag, 1, Q => ∀ i : Int, 0 ≤ i → i < 2 ^ 32 → Q (.int i)
  | _, _, _ => False
def cutD (xs : List D) (lo hi : Option Int) : List D := (xs.drop (HT.sIx xs.length 0 lo)).take (HT.sIx xs.length xs.length hi - HT.sIx xs.length 0 lo)
def partOf : List D → Option (Option Int)
  | [] => some none
  | [.int i] => some (some i)
  | _ => none
def slcop : D → Option Int → Option Int → (D → Prop) → Prop
  | .lst xs, lo, hi, Q => Q (.lst (cutD xs lo hi))
  | _, _, _, _ => False
def withPart (l : List D) (Q : Option Int → Prop) : Prop := match partOf l with
  | some p => Q p
  | none => False
def biop : Bi → List D → (D → Prop) → Prop
  | .len, [.lst xs], Q => Q (.int xs.length)
  | .len, [.tup xs], Q => Q (.int xs.length)
  | .len, [.scr xs], Q => Q (.int xs.length)
  | .len, [.str s], Q => s.length ≤ sizeLine ∧ Q (.int s.length)
  | .abs, [.int i], Q => Q (.int (if i < 0 then -i else i))
  | .max, [.int i, .int j], Q => Q (.int (if j > i then j else i))
  | .min, [.int i, .int j], Q => Q (.int (if j < i then j else i))
  | .max, [.int i, .int j, .int k], Q => Q (.int (if k > (if j > i then j else i) then k else (if j > i then j else i)))
  | .sum, [.lst xs], Q => match intsOf xs with | some ns => Q (.int ns.sum) | none => False
  | .all, [.lst xs], Q => match blsOf xs with | some bs => Q (.bl (bs.all id)) | none => False
  | .any, [.lst xs], Q => match blsOf xs with | some bs => Q (.bl (bs.any id)) | none => False
  | .repr, [d], Q => showOk d ∧ Q (.str d.py.shown)
  | .divmod, [.int i, .int j], Q => (0 < j ∧ j.natAbs.log2 < 9000) ∧ Q (.tup [.int (i / j), .int (i % j)])
  | .int, [.int i], Q => Q (.int i)
  | .int, [.bl b], Q => Q (.int (if b then 1 else 0))
  | _, _, _ => False
def itemsOf : IK → List D → (List D → Prop) → Prop
  | .lst, [.lst xs], Q => Q xs
  | .tup, [.tup xs], Q => Q xs
  | .rng1, [.int n], Q => (-(2 ^ 62) ≤ n ∧ n < 2 ^ 62) ∧ Q ((List.range n.toNat).map fun i : Nat => .int i)
  | .rng2, [.int a, .int b], Q => (-(2 ^ 62) ≤ a ∧ a < 2 ^ 62 ∧ -(2 ^ 62) ≤ b ∧ b < 2 ^ 62) ∧ Q ((List.range (b - a).toNat).map fun i : Nat => .int (a + i))
  | .enum, [.lst xs], Q => Q (xs.zipIdx.map fun p => .tup [.int (p.2 : Nat), p.1])
  | .zip, [.lst xs, .lst ys], Q => Q (List.zipWith (fun x y => .tup [x, y]) xs ys)
  | .rev, [.lst xs], Q => Q xs.reverse
  | _, _, _ => False
def wpMap (f : D → (Option D → Prop) → Prop) : List D → List D → (List D → Prop) → Prop
  | [], acc, Q => Q acc
  | x :: xs, acc, Q => f x fun o => match o with
    | some y => wpMap f xs (acc ++ [y]) Q
    | none => wpMap f xs acc Q
def dtru (d : D) (Q : Bool → Prop) : Prop :=
  match d with
  | .bl b => Q b
  | _ => False

mutual
def wpE (F : List DC) : E → List (Option D) → (D → Prop) → Prop
  | .var i, G, Q => match getV G i with | some d => Q d | none => False
  | .k d, _, Q => Q d
  | .bin o a b, G, Q => wpE F a G fun x => wpE F b G fun y => bop o x y Q
  | .neg a, G, Q => wpE F a G fun x => match x with | .int i => Q (.int (-i)) | _ => False
  | .cmp o a b, G, Q => wpE F a G fun x => wpE F b G fun y => cop o x y Q
  | .chain o p a b c, G, Q => wpE F a G fun x => wpE F b G fun y => cop o x y fun r => dtru r fun r => if r = true then wpE F c G fun z => cop p y z Q else Q (.bl false)
  | .andv a b, G, Q => wpE F a G fun x => dtru x fun r => if r = true then wpE F b G Q else Q (.bl false)
  | .orv a b, G, Q => wpE F a G fun x => dtru x fun r => if r = true then Q (.bl true) else wpE F b G Q
  | .notv a, G, Q => wpE F a G fun x => dtru x fun r => Q (.bl (!r))
  | .ite t a b, G, Q => wpE F t G fun x => dtru x fun r => if r = true then wpE F a G Q else wpE F b G Q
  | .tup as, G, Q => wpEs F as G fun ds => Q (.tup ds)
  | .lst as, G, Q => wpEs F as G fun ds => Q (.lst ds)
  | .mkbag a b, G, Q => wpE F a G fun x => wpE F b G fun y => match x, y with
    | .int i, .int j => (0 ≤ i ∧ 0 ≤ j ∧ j < 2 ^ 32) ∧ Q .bag
    | _, _ => False
  | .ixn a n, G, Q => wpE F a G fun x => ixnop x n Q
  | .ix a b, G, Q => wpE F a G fun x => wpE F b G fun y => ixop x y Q
  | .slc a lo hi, G, Q => wpE F a G fun x => wpEs F lo G fun l => withPart l fun p => wpEs F hi G fun h => withPart h fun q => slcop x p q Q
  | .call f as, G, Q => wpEs F as G fun ds => match F[f]? with | some c => c ds Q | none => False
  | .bi f as, G, Q => wpEs F as G fun ds => biop f ds Q
  | .isi a t, G, Q => wpE F a G fun x => x.pure = true ∧ Q (.bl (isTy t x))
  | .lc elt tg k its ifs own, G, Q => wpEs F its G fun ds => itemsOf k ds fun xs => xs.length ≤ 100000 ∧
      wpMap (fun d kk => match bindV tg d (wipeV G (own.map (·.2))) with
        | some G1 => wpIf F ifs G1 (wpE F elt G1 fun y => kk (some y)) (kk none)
        | none => False) xs [] fun ys => Q (.lst ys)
def wpEs (F : List DC) : List E → List (Option D) → (List D → Prop) → Prop
  | [], _, Q => Q []
  | e :: es, G, Q => wpE F e G fun d => wpEs F es G fun ds => Q (d :: ds)
/-- the tests of a comprehension: none or one -/
def wpIf (F : List DC) : List E → List (Option D) → Prop → Prop → Prop
  | [], _, A, _ => A
  | t :: _, G, A, B => wpE F t G fun x => dtru x fun r => if r = true then A else B
end

/-! ### statements -/
inductive Sl where
  | no
  | val (d : D)
  | own (xs : List D)
def Sl.v : Sl → Option D
  | .val d => some d
  | _ => none
def frzS (G : List Sl) : List Nat → List Sl
  | [] => G
  | i :: is => match (frzS G is)[i]? with
    | some (.own xs) => (frzS G is).set i (.val (.lst xs))
    | _ => frzS G is
def setAllS : List Sl → List Nat → List D → List Sl
  | G, i :: is, d :: ds => setAllS (G.set i (.val d)) is ds
  | G, _, _ => G
def bindS : Tg → D → List Sl → Option (List Sl)
  | .name i, d, G => some (G.set i (.val d))
  | .tup is, .tup ds, G => if is.length = ds.length then some (setAllS G is ds) else none
  | _, _, _ => none
def getO : List Sl → Nat → Option (List D)
  | [], _ => none
  | .own xs :: _, 0 => some xs
  | _ :: _, 0 => none
  | _ :: xs, n + 1 => getO xs n

inductive S where
  | asg (i : Nat) (e : E)
  | asgL (i : Nat) (es : List E)
  | par (i j : Nat) (a b : E)
  | unp (is : List Nat) (e : E)
  | aug (i : Nat) (o : BO) (e : E)
  | app (i : Nat) (e : E)
  | extL (i : Nat) (e : E)
  | setB (a : E) (n : Nat) (e : E)
  | drop (e : E)
  | ret (e : E)
  | retN
  | ite (t : E) (a b : List S)
  | forS (tg : Tg) (k : IK) (as : List E) (body : List S)
  | whileS (t : E) (body : List S)
  | brk
  | cnt
  | pass
  | frz (is : List Nat)

structure Ks where
  nx : List Sl → Prop
  rt : D → Prop
  bk : List Sl → Prop
  ct : List Sl → Prop

def wpFor (body : List Sl → Ks → Prop) (tg : Tg) (k : Ks) : List D → List Sl → Prop
  | [], G => k.nx G
  | d :: ds, G => match bindS tg d G with
    | some G1 => body G1 { nx := wpFor body tg k ds, rt := k.rt, bk := k.nx, ct := wpFor body tg k ds }
    | none => False
def wpWh (test : List Sl → (Bool → Prop) → Prop) (body : List Sl → Ks → Prop) (k : Ks) : Nat → List Sl → Prop
  | 0, _ => False
  | n + 1, G => test G fun b => if b = true then body G { nx := wpWh test body k n, rt := k.rt, bk := k.nx, ct := wpWh test body k n } else k.nx G
abbrev vals (G : List Sl) : List (Option D) := G.map Sl.v

def augop : BO → D → D → (D → Prop) → Prop
  | .pow, _, _, _ => False
  | o, .int i, .int j, Q => bop o (.int i) (.int j) Q
  | _, _, _, _ => False
mutual
def wpS (F : List DC) : S → List Sl → Ks → Prop
  | .asg i e, G, K => wpE F e (vals G) fun d => K.nx (G.set i (.val d))
  | .asgL i es, G, K => wpEs F es (vals G) fun ds => K.nx (G.set i (.own ds))
  | .par i j a b, G, K => wpE F a (vals G) fun x => wpE F b (vals G) fun y => K.nx ((G.set i (.val x)).set j (.val y))
  | .unp is e, G, K => wpE F e (vals G) fun d => match bindS (.tup is) d G with | some G1 => K.nx G1 | none => False
  | .aug i o e, G, K => match getV (vals G) i with
    | some x => wpE F e (vals G) fun y => augop o x y fun z => K.nx (G.set i (.val z))
    | none => False
  | .app i e, G, K => match getO G i with
    | some xs => wpE F e (vals G) fun d => xs.length < 100000 ∧ K.nx (G.set i (.own (xs ++ [d])))
    | none => False
  | .extL i e, G, K => match getO G i with
    | some xs => wpE F e (vals G) fun d => match d with
      | .lst ys => xs.length + ys.length < 100000 ∧ K.nx (G.set i (.own (xs ++ ys)))
      | _ => False
    | none => False
  | .setB a n e, G, K => wpE F e (vals G) fun d => wpE F a (vals G) fun b => match b, d with
    | .bag, .int i => (n < 2 ∧ 0 ≤ i ∧ (n = 1 → i < 2 ^ 32)) ∧ K.nx G
    | _, _ => False
  | .drop e, G, K => wpE F e (vals G) fun _ => K.nx G
  | .ret e, G, K => wpE F e (vals G) K.rt
  | .retN, _, K => K.rt .non
  | .ite t a b, G, K => wpE F t (vals G) fun x => dtru x fun r => if r = true then wpSs F a G K else wpSs F b G K
  | .forS tg k as body, G, K => wpEs F as (vals G) fun ds => itemsOf k ds fun xs => wpFor (fun G1 K1 => wpSs F body G1 K1) tg K xs G
  | .whileS t body, G, K => ∃ n, wpWh (fun G1 Q => wpE F t (vals G1) fun x => dtru x Q) (fun G1 K1 => wpSs F body G1 K1) K n G
  | .brk, G, K => K.bk G
  | .cnt, G, K => K.ct G
  | .pass, G, K => K.nx G
  | .frz is, G, K => K.nx (frzS G is)
def wpSs (F : List DC) : List S → List Sl → Ks → Prop
  | [], G, K => K.nx G
  | s :: r, G, K => wpS F s G { K with nx := fun G1 => wpSs F r G1 K }
end
/-- a def's body: n slots, the parameters' data first -/
def start0 (n : Nat) (ds : List D) : List Sl := ds.map Sl.val ++ List.replicate (n - ds.length) Sl.no
def wpBody (F : List DC) (n : Nat) (body : List S) (ds : List D) (Q : D → Prop) : Prop :=
  wpSs F body (start0 n ds) { nx := fun _ => Q .non, rt := Q, bk := fun _ => False, ct := fun _ => False }
end OC

set_option Elab.async false
set_option linter.all false
set_option maxRecDepth 100000
set_option maxHeartbeats 4000000
/-! Onecut, calls: a def that keeps a promise over plain data, where no repr is under way. -/
namespace OC
open PySem PySem.Spec PyProof.Rows L2

/-- as L2's word for a def, for a stack on which no guard stands -/
structure GFn (P : Program) (w : World) (K : PySem.W.Frag) (mg : Str → Option Value) (base : Heap) (k : Nat) (f : Addr) (fd : FuncData) (ps : List Str) (sp : Sp) : Prop where
  len : ∀ vs H Q E, sp vs H Q E → vs.length = ps.length
  run : ∀ (A : Around) (outer : List Env) (s : Shared) (H : Hp) (args : Args) (us : List Value) (vs : List V) (Q : VK) (E : XK), Room k A → A.guards = some [] → Env0 P w K mg base A outer s H → BindsTo s fd args (ps.zip us) → Vals vs us → sp vs H Q E →
    codeAny (model P w) A (.call (.ref f) args) (CR CX0 outer P w H s Q E) s
theorem GFn.mono {P : Program} {w : World} {K : PySem.W.Frag} {mg : Str → Option Value} {base : Heap} {j k : Nat} {f : Addr} {fd : FuncData} {ps : List Str} {sp : Sp} (F : GFn P w K mg base j f fd ps sp) (h : j ≤ k) :
    GFn P w K mg base k f fd ps sp := ⟨F.len, fun A outer s H args us vs Q E r => F.run A outer s H args us vs Q E (r.mono h)⟩

/-- the promise of a def over plain data -/
def SpD (K : PySem.W.Frag) (n : Nat) (c : DC) : Sp := fun vs H Q _ => ∃ (Bg M : AP) (ds : List D) (Qd : D → Prop),
  BagsOk Bg H ∧ (∀ a, M a → H a ≠ none ∧ ¬ Bg a) ∧ RepL K Bg M H vs ds ∧ ds.length = n ∧ c ds Qd ∧ ∀ d v Bg' H', Ext Bg H Bg' H' → Rep K Bg' M H' v d → Qd d → Q v H'

def FOK (P : Program) (w : World) (K : PySem.W.Frag) (mg : Str → Option Value) (base : Heap) (k : Nat) (x : Str) (c : DC) : Prop :=
  ∃ (f : Addr) (fd : FuncData) (ps : List Str), mg x = some (.ref f) ∧ PySem.W.keepIn K (.ref f) = true ∧ Binds K fd ps [] ∧ (∀ ds Q, c ds Q → ds.length = ps.length) ∧ GFn P w K mg base k f fd ps (SpD K ps.length c)
theorem FOK.mono {P : Program} {w : World} {K : PySem.W.Frag} {mg : Str → Option Value} {base : Heap} {j k : Nat} {x : Str} {c : DC} (h : FOK P w K mg base j x c) (hjk : j ≤ k) : FOK P w K mg base k x c := by
  obtain ⟨f, fd, ps, h1, h2, h3, h5, h4⟩ := h
  exact ⟨f, fd, ps, h1, h2, h3, h5, h4.mono hjk⟩

section
variable {X : Cx} {k : Nat} {f : Addr} {fd : FuncData} {ps : List Str} {sp : Sp} {x : Str} {p pos : Pos} {e : Expr} {es : List Expr} {t : TA}
theorem g_run {pins : List (Addr × Obj)} {σ : L2.St} {H : Hp} {s : Shared} {Q : VK} {us : List Value} {vs : List V} (F : GFn X.prog X.w X.K X.mg X.base k f fd ps sp) (hr : Room k X.A) (hg : X.A.guards = some []) (hb : Binds X.K fd ps [])
    (I : Inv X pins σ H s) (r : Vals vs us) (h : sp vs H Q E0) : wpAny (model X.prog X.w) X.A (call (.ref f) us) (EP X pins σ Q) X.xe s := by
  have hl : us.length = ps.length := by rw [← r.length]; exact F.len _ _ _ _ h
  have hb' := hb s us I.kIn (by rw [List.append_nil]; exact hl)
  rw [List.append_nil] at hb'
  refine wpAny_call (codeAny_mono (F.run X.A X.stack s H ⟨us, []⟩ us vs Q E0 hr hg I.env0 hb' r h) fun r s' hq => ?_)
  cases r with
  | error e => exact False.elim hq
  | ok fl =>
    cases fl with
    | ret u => exact I.after hq
    | next => exact hq.elim
    | brk => exact hq.elim
    | cont => exact hq.elim
theorem pe_callG (F : GFn X.prog X.w X.K X.mg X.base k f fd ps sp) (hr : Room k X.A) (hgd : X.A.guards = some []) (hg : Gl X x) (hm : X.mg x = some (.ref f)) (hk : PySem.W.keepIn X.K (.ref f) = true) (hb : Binds X.K fd ps [])
    (ha : PA X (e :: es) t) (hdb : (x == ("__debug__" : Str)) = false) (he : starEach (e :: es) X.env = (false, eval e X.env) :: starEach es X.env) (hpl : (backTo pos (starEach es X.env)).any (·.1) = false) :
    PE X (.Call (.Name x p) (e :: es) [] pos) (tCB (fun vs H Q => sp vs H Q E0) t) := by
  refine ⟨fun pins s σ H Q I h => wpAny_Call_Name_kw (ld_glob I hg hm ?_ hdb)⟩
  refine PySem.W.callWith_K (h₀ := X.base) I.ok.mod.kin hk (thn (ha.run pos pins s σ H _ I h) fun us s1 z => ?_) he hpl
  obtain ⟨vs, H1, I1, r, q⟩ := z
  exact ⟨I1.kIn, g_run F hr hgd hb I1 r q⟩
theorem pe_callG0 (F : GFn X.prog X.w X.K X.mg X.base k f fd ps sp) (hr : Room k X.A) (hgd : X.A.guards = some []) (hg : Gl X x) (hm : X.mg x = some (.ref f)) (hk : PySem.W.keepIn X.K (.ref f) = true) (hb : Binds X.K fd ps [])
    (hdb : (x == ("__debug__" : Str)) = false) : PE X (.Call (.Name x p) [] [] pos) (tCB (fun vs H Q => sp vs H Q E0) tNil) :=
  ⟨fun pins s σ H Q I h => wpAny_Call_Name_kw (ld_glob I hg hm (PySem.W.callWith_K0 I.kIn hk (g_run (us := []) F hr hgd hb I .nil h)) hdb)⟩
end

/-- a def of the text by its body -/
theorem g_fn {P : Program} {w : World} {K : PySem.W.Frag} {mg : Str → Option Value} {base : Heap} {x qual : Str} {st : Stmt} {f : Addr} {fd : FuncData} {N ps : List Str} {k : Nat} {sp : Sp} (F : Fun K x qual st f fd) (S : FnScope N ps (defScope st)) (len : ∀ vs H Q E, sp vs H Q E → vs.length = ps.length)
    (hbody : ∀ (cdv : Value) (A : Around) (outer : List Env) (s : Shared) (H : Hp) (vs : List V) (Q : VK) (E : XK), Room k (A.deeper (envOfC qual (defScope st) s.heap.objs.size f cdv)) → A.guards = some [] → sp vs H Q E →
      ∃ t, PSs (cxOf CX0 P w K mg base N qual (defScope st) f cdv A outer s H E).nox (defBody st) t ∧ t { nx := fun _ H' => Q .non H', rt := Q } (start N vs) H) : GFn P w K mg base (k + 1) f fd ps sp := by
  obtain ⟨oc, od, kV, doc, pm, an, cdv, ct, osl, rfl, lk, hcd⟩ := F.ex
  refine ⟨len, fun A outer s H args us vs Q E hr hgd e0 hb r hsp => ?_⟩
  -- the same walk as for L2's own word, at a stack without guards
  have KX : K.In s.heap := e0.mod.kin.keeps fun b o e => (e0.bs b o e).1
  have hkind : ∀ y ∈ ps.zip us, (defScope st).names.lookup y.1 = some .local ∨ ((defScope st).names.lookup y.1 = some .cell ∧ ((cellsFrom (s.heap.objs.size + 1) (defScope st).names []).lookup y.1).isSome = true) := by
    rintro ⟨n, v⟩ hy
    exact (S.par n (List.of_mem_zip hy).1).imp (fun q => q) fun q => ⟨q, PySem.W.cellsFrom_some _ _ _ (.inl q)⟩
  refine codeAny_call_function (hr.depth) (KX _ _ lk) rfl S.co S.gen rfl (PySem.W.codeRec_of KX hcd) (hb _ _ _ _ (wpAny_newFunctionEnv_cells S.kind hkind fun env he s1 x => ?_))
  subst he
  refine ⟨(e0.mod.nolimit.keeps fun b o e => (e0.bs b o e).1).keeps x.toInCall.keep, codeAny_func ?_⟩
  obtain ⟨t, ht, hq⟩ := hbody cdv A outer s H vs Q E (hr.deeper _) hgd hsp
  have I := inv_start (CX := CX0) (E := E) (N := N) (ps := ps) (w := w) (P := P) S hr.hd e0 (len _ _ _ _ hsp) r x
  refine wpAny_mono (ht.nox.run [] s1 (start N vs) H _ I hq) (fun fl s' hs => ?_) (fun e s' hs => hs)
  cases fl with
  | ret u =>
    obtain ⟨v, σ', H', J, rv, q⟩ := hs
    exact ⟨v, H', J.os, J.bare, J.base, J.hok, rv, q⟩
  | next =>
    obtain ⟨σ', H', J, q⟩ := hs
    exact ⟨V.non, H', J.os, J.bare, J.base, J.hok, rfl, q⟩
  | brk =>
    obtain ⟨_, _, _, q⟩ := hs
    exact False.elim q
  | cont =>
    obtain ⟨_, _, _, q⟩ := hs
    exact False.elim q
end OC

set_option Elab.async false
set_option linter.all false
set_option maxRecDepth 100000
set_option maxHeartbeats 4000000
/-! Onecut, the look: does a body of the small language stand for a body of the text? -/
namespace OC
open PySem PySem.Spec PyProof.Rows L2

/-- names by slot; the defs that may be called; the built-in names that the module leaves free -/
structure Ck where
  N : List Str
  fs : List Str
  bs : List Str

def vis (sc : Scope) (x : Str) : Bool := match sc.names.lookup x with
  | some .local => true
  | some .cell => true
  | some .free => true
  | _ => false
def glb (sc : Scope) (x : Str) : Bool := match sc.names.lookup x with
  | some .globalImplicit => true
  | _ => false
def isLoc (sc : Scope) (x : Str) : Bool := match sc.names.lookup x with
  | some .local => true
  | _ => false
def isCell (sc : Scope) (x : Str) : Bool := match sc.names.lookup x with
  | some .cell => true
  | _ => false
theorem vis_ok {sc : Scope} {x : Str} (h : vis sc x = true) : Vis sc x := by
  unfold vis at h
  unfold Vis
  split at h <;> simp_all
theorem glb_ok {sc : Scope} {x : Str} (h : glb sc x = true) : sc.names.lookup x = some .globalImplicit := by
  unfold glb at h
  split at h <;> simp_all
theorem isLoc_ok {sc : Scope} {x : Str} (h : isLoc sc x = true) : sc.names.lookup x = some .local := by
  unfold isLoc at h
  split at h <;> simp_all
theorem isCell_ok {sc : Scope} {x : Str} (h : isCell sc x = true) : sc.names.lookup x = some .cell := by
  unfold isCell at h
  split at h <;> simp_all
def nst : Expr → Bool
  | .Starred .. => false
  | _ => true
def nstL : List Expr → Bool
  | [] => true
  | e :: es => nst e && nstL es
theorem star_cons {e : Expr} {es : List Expr} {env : Env} (h : nst e = true) : starEach (e :: es) env = (false, eval e env) :: starEach es env := by
  cases e <;> first | rfl | cases h
theorem star_all {env : Env} {pos : Pos} : ∀ {es : List Expr}, nstL es = true → (backTo pos (starEach es env)).any (·.1) = false
  | [], _ => rfl
  | e :: es, h => by
    have q : (nst e && nstL es) = true := h
    rw [Bool.and_eq_true] at q
    rw [star_cons q.1]
    show (false || (backTo pos (starEach es env)).any (·.1)) = false
    rw [star_all q.2]
    rfl
def asName : Expr → Option Str
  | .Name x _ => some x
  | _ => none
theorem asName_ok {e : Expr} {x : Str} (h : asName e = some x) : ∃ p, e = .Name x p := by cases e <;> simp_all [asName]
def asConst : Expr → Option Const
  | .Constant c _ _ => some c
  | _ => none
theorem asConst_ok {e : Expr} {c : Const} (h : asConst e = some c) : ∃ j p, e = .Constant c j p := by cases e <;> simp_all [asConst]
def asBin : Expr → Option (Expr × Operator × Expr)
  | .BinOp a o b _ => some (a, o, b)
  | _ => none
theorem asBin_ok {e a b : Expr} {o : Operator} (h : asBin e = some (a, o, b)) : ∃ p, e = .BinOp a o b p := by cases e <;> simp_all [asBin]
def asUn : Expr → Option (UnaryOp × Expr)
  | .UnaryOp o a _ => some (o, a)
  | _ => none
theorem asUn_ok {e a : Expr} {o : UnaryOp} (h : asUn e = some (o, a)) : ∃ p, e = .UnaryOp o a p := by cases e <;> simp_all [asUn]
def asCmp : Expr → Option (Expr × List CmpOp × List Expr)
  | .Compare a o b _ => some (a, o, b)
  | _ => none
theorem asCmp_ok {e a : Expr} {o : List CmpOp} {b : List Expr} (h : asCmp e = some (a, o, b)) : ∃ p, e = .Compare a o b p := by cases e <;> simp_all [asCmp]
def asBool : Expr → Option (BoolOp × List Expr × Pos)
  | .BoolOp o b p => some (o, b, p)
  | _ => none
theorem asBool_ok {e : Expr} {o : BoolOp} {b : List Expr} {p : Pos} (h : asBool e = some (o, b, p)) : e = .BoolOp o b p := by cases e <;> simp_all [asBool]
def asIf : Expr → Option (Expr × Expr × Expr)
  | .IfExp t a b _ => some (t, a, b)
  | _ => none
theorem asIf_ok {e t a b : Expr} (h : asIf e = some (t, a, b)) : ∃ p, e = .IfExp t a b p := by cases e <;> simp_all [asIf]
def asTup : Expr → Option (List Expr)
  | .Tuple es _ _ => some es
  | _ => none
theorem asTup_ok {e : Expr} {es : List Expr} (h : asTup e = some es) : ∃ j p, e = .Tuple es j p := by cases e <;> simp_all [asTup]
def asLst : Expr → Option (List Expr)
  | .List es _ => some es
  | _ => none
theorem asLst_ok {e : Expr} {es : List Expr} (h : asLst e = some es) : ∃ p, e = .List es p := by cases e <;> simp_all [asLst]
def asSub : Expr → Option (Expr × Expr)
  | .Subscript a b _ => some (a, b)
  | _ => none
theorem asSub_ok {e a b : Expr} (h : asSub e = some (a, b)) : ∃ p, e = .Subscript a b p := by cases e <;> simp_all [asSub]
def asSlc : Expr → Option (Option Expr × Option Expr)
  | .Slice a b none _ => some (a, b)
  | _ => none
theorem asSlc_ok {e : Expr} {a b : Option Expr} (h : asSlc e = some (a, b)) : ∃ p, e = .Slice a b none p := by
  cases e with
  | Slice l u s p =>
    cases s with
    | none => simp_all [asSlc]
    | some _ => simp [asSlc] at h
  | _ => simp [asSlc] at h
def asCall : Expr → Option (Str × List Expr)
  | .Call (.Name x _) es [] _ => some (x, es)
  | _ => none
theorem asCall_ok {e : Expr} {x : Str} {es : List Expr} (h : asCall e = some (x, es)) : ∃ p q, e = .Call (.Name x p) es [] q := by
  cases e with
  | Call f as ks p =>
    cases f with
    | Name y py =>
      cases ks with
      | nil => simp_all [asCall]
      | cons _ _ => simp [asCall] at h
    | _ => simp [asCall] at h
  | _ => simp [asCall] at h
def asLC : Expr → Option (Expr × Expr × Expr × List Expr × Scope)
  | .ListComp elt [⟨tg, it, ifs, 0⟩] sc _ => some (elt, tg, it, ifs, sc)
  | _ => none
theorem asLC_ok {e elt tg it : Expr} {ifs : List Expr} {sc : Scope} (h : asLC e = some (elt, tg, it, ifs, sc)) : ∃ p, e = .ListComp elt [⟨tg, it, ifs, 0⟩] sc p := by
  unfold asLC at h
  split at h
  · simp only [Option.some.injEq, Prod.mk.injEq] at h
    obtain ⟨rfl, rfl, rfl, rfl, rfl⟩ := h
    exact ⟨_, rfl⟩
  · cases h

def boOf : BO → Operator
  | .add => .Add
  | .sub => .Sub
  | .mul => .Mult
  | .fdiv => .FloorDiv
  | .mod => .Mod
  | .pow => .Pow
def coOf : CO → CmpOp
  | .eq => .Eq
  | .ne => .NotEq
  | .lt => .Lt
  | .le => .LtE
  | .gt => .Gt
  | .ge => .GtE
  | .isn => .Is
  | .isnot => .IsNot
  | .inn => .In
  | .notin => .NotIn
def biNm : Bi → String
  | .len => "len"
  | .abs => "abs"
  | .max => "max"
  | .min => "min"
  | .sum => "sum"
  | .all => "all"
  | .any => "any"
  | .repr => "repr"
  | .divmod => "divmod"
  | .int => "int"
  | .sorted => "sorted"
  | .tuple => "tuple"
  | .list => "list"
def tyNm : Ty → String
  | .int => "int"
  | .bool => "bool"
  | .tuple => "tuple"
  | .list => "list"
  | .str => "str"
/-- an operator, by its name's place -/
def opN : Operator → Nat
  | .Add => 0
  | .Sub => 1
  | .Mult => 2
  | .FloorDiv => 3
  | .Mod => 4
  | .Pow => 5
  | _ => 6
def cmpN : CmpOp → Nat
  | .Eq => 0
  | .NotEq => 1
  | .Lt => 2
  | .LtE => 3
  | .Gt => 4
  | .GtE => 5
  | .Is => 6
  | .IsNot => 7
  | .In => 8
  | .NotIn => 9
theorem op_of {o : BO} {p : Operator} (h : (opN p == opN (boOf o)) = true) : p = boOf o := by
  cases o <;> cases p <;> first | rfl | (exact absurd h (by decide))
theorem cmp_of {o : CO} {p : CmpOp} (h : (cmpN p == cmpN (coOf o)) = true) : p = coOf o := by
  cases o <;> cases p <;> first | rfl | (exact absurd h (by decide))
/-- a constant's datum -/
def constD : Const → Option D
  | .none => some .non
  | .bool b => some (.bl b)
  | .int i => some (.int i)
  | .str s => some (.str s)
  | _ => none
def sameK : D → D → Bool
  | .non, .non => true
  | .bl a, .bl b => a == b
  | .int a, .int b => a == b
  | .str a, .str b => decide (a = b)
  | _, _ => false
theorem sameK_ok {a b : D} (h : sameK a b = true) : a = b := by
  cases a <;> cases b <;> simp_all [sameK]
def chkTg (N : List Str) (sc : Scope) (fo : Str → Bool) : Tg → Expr → Bool
  | .name i, e => match asName e with
    | some x => decide (N[i]? = some x) && (isLoc sc x || (isCell sc x && fo x))
    | none => false
  | .tup is, e => match asTup e with
    | some es => go is es
    | none => false
where go : List Nat → List Expr → Bool
  | [], [] => true
  | i :: is, e :: es => (match asName e with
    | some x => decide (N[i]? = some x) && (isLoc sc x || (isCell sc x && fo x))
    | none => false) && go is es
  | _, _ => false
def tgIn (own : List Nat) : Tg → Bool
  | .name i => own.contains i
  | .tup is => is.all fun i => own.contains i
def isSet : Expr → Bool
  | .Set .. => true
  | _ => false
def isSlc : Expr → Bool
  | .Slice .. => true
  | _ => false
/-- a name that is global, and a built-in's -/
def blt (C : Ck) (sc : Scope) (x : Str) (nm : String) : Bool := decide (x = (nm : Str)) && glb sc x && C.bs.contains x

/-- tests by their value -/
def leaf : Expr → Bool
  | .Name .. => true
  | .Constant .. => true
  | .Call .. => true
  | .Subscript .. => true
  | _ => false
mutual
def chkE (C : Ck) (sc : Scope) (tt : Bool) : E → Expr → Bool
  | .var i, e => (!tt || leaf e) && match asName e with
    | some x => decide (C.N[i]? = some x) && vis sc x && !(x == ("__debug__" : Str)) && !(x == ("__classdict__" : Str))
    | none => false
  | .k d, e => (!tt || leaf e) && match asConst e with
    | some c => (match constD c with | some d' => sameK d d' | none => false)
    | none => false
  | .bin o a b, e => (!tt || leaf e) && match asBin e with
    | some (x, p, y) => opN p == opN (boOf o) && chkE C sc false a x && chkE C sc false b y
    | none => false
  | .neg a, e => (!tt || leaf e) && match asUn e with
    | some (.USub, x) => chkE C sc false a x
    | _ => false
  | .cmp o a b, e => match asCmp e with
    | some (x, [p], [y]) => cmpN p == cmpN (coOf o) && !isSet y && chkE C sc false a x && chkE C sc false b y
    | _ => false
  | .chain o p a b c, e => match asCmp e with
    | some (x, [q, r], [y, z]) => cmpN q == cmpN (coOf o) && cmpN r == cmpN (coOf p) && !isSet z && chkE C sc false a x && chkE C sc false b y && chkE C sc false c z
    | _ => false
  | .andv a b, e => match asBool e with
    | some (.And, [x, y], _) => chkE C sc tt a x && chkE C sc tt b y
    | some (.And, x :: y :: z :: r, p) => chkE C sc tt a x && chkE C sc tt b (.BoolOp .And (y :: z :: r) p)
    | _ => false
  | .orv a b, e => match asBool e with
    | some (.Or, [x, y], _) => chkE C sc tt a x && chkE C sc tt b y
    | some (.Or, x :: y :: z :: r, p) => chkE C sc tt a x && chkE C sc tt b (.BoolOp .Or (y :: z :: r) p)
    | _ => false
  | .notv a, e => match asUn e with
    | some (.Not, x) => chkE C sc tt a x
    | _ => false
  | .ite t a b, e => (!tt || leaf e) && match asIf e with
    | some (z, x, y) => chkE C sc true t z && chkE C sc false a x && chkE C sc false b y
    | none => false
  | .tup as, e => (!tt || leaf e) && match asTup e with
    | some es => decide (es.length ≤ 1000) && chkEs C sc as es
    | none => false
  | .lst as, e => (!tt || leaf e) && match asLst e with
    | some es => decide (es.length ≤ 1000) && chkEs C sc as es
    | none => false
  | .mkbag a b, e => (!tt || leaf e) && match asLst e with
    | some [x, y] => nst x && nst y && chkE C sc false a x && chkE C sc false b y
    | _ => false
  | .ixn a n, e => (!tt || leaf e) && match asSub e with
    | some (x, y) => (match asConst y with | some (.int i) => i == (n : Int) | _ => false) && chkE C sc false a x
    | none => false
  | .ix a b, e => (!tt || leaf e) && match asSub e with
    | some (x, y) => !isSlc y && chkE C sc false a x && chkE C sc false b y
    | none => false
  | .slc a lo hi, e => (!tt || leaf e) && match asSub e with
    | some (x, y) => (match asSlc y with | some (l, h) => chkO C sc lo l && chkO C sc hi h | none => false) && chkE C sc false a x
    | none => false
  | .call f as, e => (!tt || leaf e) && match asCall e with
    | some (x, es) => decide (C.fs[f]? = some x) && glb sc x && !(x == ("__debug__" : Str)) && chkEs C sc as es
    | none => false
  | .bi f as, e => (!tt || leaf e) && match asCall e with
    | some (x, es) => blt C sc x (biNm f) && !es.isEmpty && chkEs C sc as es
    | none => false
  | .isi a t, e => (!tt || leaf e) && match asCall e with
    | some (x, [y, z]) => blt C sc x "isinstance" && nst y && chkE C sc false a y && (match asName z with | some w => blt C sc w (tyNm t) | none => false)
    | _ => false
  | .lc elt tg k its ifs own, e => (!tt || leaf e) && match asLC e with
    | some (el, t, it, fs, scope) => !isSet it && blkC C.N sc scope own && chkI C sc k its it t && chkTg C.N (relS scope sc) (fun x => isCell scope x) tg t && tgIn (own.map (·.2)) tg &&
        chkF C (relS scope sc) ifs fs && chkE C (relS scope sc) false elt el
    | none => false
def chkEs (C : Ck) (sc : Scope) : List E → List Expr → Bool
  | [], [] => true
  | a :: as, e :: es => nst e && chkE C sc false a e && chkEs C sc as es
  | _, _ => false
def chkO (C : Ck) (sc : Scope) : List E → Option Expr → Bool
  | [], none => true
  | [t], some e => chkE C sc false t e
  | _, _ => false
def chkF (C : Ck) (sc : Scope) : List E → List Expr → Bool
  | [], [] => true
  | [t], [e] => chkE C sc true t e
  | _, _ => false
/-- what is walked, and the target -/
def chkI (C : Ck) (sc : Scope) : IK → List E → Expr → Expr → Bool
  | .lst, [a], it, _ => chkE C sc false a it
  | .tup, [a], it, _ => chkE C sc false a it
  | .rng1, [a], it, _ => match asCall it with
    | some (x, [y]) => blt C sc x "range" && nst y && chkE C sc false a y
    | _ => false
  | .rng2, [a, b], it, _ => match asCall it with
    | some (x, [y, z]) => blt C sc x "range" && nst y && nst z && chkE C sc false a y && chkE C sc false b z
    | _ => false
  | .enum, [a], it, tg => match asCall it with
    | some (x, [y]) => blt C sc x "enumerate" && nst y && chkE C sc false a y && (asTup tg).isSome
    | _ => false
  | .zip, [a, b], it, tg => match asCall it with
    | some (x, [y, z]) => blt C sc x "zip" && nst y && nst z && chkE C sc false a y && chkE C sc false b z && (asTup tg).isSome
    | _ => false
  | .rev, [a], it, _ => match asCall it with
    | some (x, [y]) => blt C sc x "reversed" && nst y && chkE C sc false a y
    | _ => false
  | _, _, _, _ => false
end
end OC

set_option Elab.async false
set_option linter.all false
set_option maxRecDepth 100000
set_option maxHeartbeats 4000000
/-! Onecut: the readings of the hand layer keep what the small language says, piece by piece. -/
namespace OC
open PySem PySem.Spec PyProof.Rows L2

structure EnvE (K : PySem.W.Frag) (Bg M : AP) (H : Hp) (σ : L2.St) (G : List (Option D)) : Prop where
  bags : BagsOk Bg H
  md : ∀ a, M a → H a ≠ none ∧ ¬ Bg a
  len : σ.length = G.length
  val : ∀ i d, getV G i = some d → ∃ v, σ[i]? = some (some v) ∧ Rep K Bg M H v d
theorem md_ext {Bg Bg' M : AP} {H H' : Hp} (h : ∀ a, M a → H a ≠ none ∧ ¬ Bg a) (e : Ext Bg H Bg' H') : ∀ a, M a → H' a ≠ none ∧ ¬ Bg' a := fun a m => by
  obtain ⟨h1, h2⟩ := h a m
  cases q : H a with
  | none => exact absurd q h1
  | some o =>
    refine ⟨?_, e.nb q h2⟩
    rw [e.keep a o h2 q]
    exact fun z => by cases z
theorem EnvE.ext {K : PySem.W.Frag} {Bg Bg' M : AP} {H H' : Hp} {σ : L2.St} {G : List (Option D)} (h : EnvE K Bg M H σ G) (e : Ext Bg H Bg' H') : EnvE K Bg' M H' σ G :=
  ⟨e.bags, md_ext h.md e, h.len, fun i d q => by
    obtain ⟨v, h1, h2⟩ := h.val i d q
    exact ⟨v, h1, h2.ext e fun a m => .inl m⟩⟩

def Post (K : PySem.W.Frag) (Bg M : AP) (H : Hp) (Qd : D → Prop) (Q : VK) : Prop := ∀ d v Bg' H', Ext Bg H Bg' H' → Rep K Bg' M H' v d → Qd d → Q v H'
theorem Post.ext {K : PySem.W.Frag} {Bg Bg' M : AP} {H H' : Hp} {Qd : D → Prop} {Q : VK} (h : Post K Bg M H Qd Q) (e : Ext Bg H Bg' H') : Post K Bg' M H' Qd Q := fun d v B1 H1 e1 r q => h d v B1 H1 (e.trans e1) r q
def TEok (K : PySem.W.Frag) (F : List DC) (t : TE) (e : E) : Prop := ∀ (Bg M : AP) (H : Hp) (σ : L2.St) (G : List (Option D)) (Qd : D → Prop) (Q : VK), EnvE K Bg M H σ G → wpE F e G Qd → Post K Bg M H Qd Q → t σ H Q
def TAok (K : PySem.W.Frag) (F : List DC) (t : TA) (es : List E) : Prop := ∀ (Bg M : AP) (H : Hp) (σ : L2.St) (G : List (Option D)) (Qd : List D → Prop) (Q : List V → Hp → Prop), EnvE K Bg M H σ G → wpEs F es G Qd →
  (∀ ds vs Bg' H', Ext Bg H Bg' H' → RepL K Bg' M H' vs ds → ds.length = es.length → Qd ds → Q vs H') → t σ H Q
def TTok (K : PySem.W.Frag) (F : List DC) (t : TT) (e : E) : Prop := ∀ (Bg M : AP) (H : Hp) (σ : L2.St) (G : List (Option D)) (Qb : Bool → Prop) (Q : Bool → Hp → Prop), EnvE K Bg M H σ G → wpE F e G (fun d => dtru d Qb) →
  (∀ b Bg' H', Ext Bg H Bg' H' → Qb b → Q b H') → t σ H Q
def ROk2 (K : PySem.W.Frag) (r : R2) (g : D → D → (D → Prop) → Prop) : Prop := ∀ (Bg M : AP) (H : Hp) (x y : V) (dx dy : D) (Qd : D → Prop) (Q : VK), BagsOk Bg H → (∀ a, M a → H a ≠ none ∧ ¬ Bg a) →
  Rep K Bg M H x dx → Rep K Bg M H y dy → g dx dy Qd → Post K Bg M H Qd Q → r x y H Q
def ROkC (K : PySem.W.Frag) (r : List V → Hp → VK → Prop) (g : List D → (D → Prop) → Prop) : Prop := ∀ (Bg M : AP) (H : Hp) (vs : List V) (ds : List D) (Qd : D → Prop) (Q : VK), BagsOk Bg H → (∀ a, M a → H a ≠ none ∧ ¬ Bg a) →
  RepL K Bg M H vs ds → g ds Qd → Post K Bg M H Qd Q → r vs H Q

theorem dtru_inv {d : D} {Q : Bool → Prop} (h : dtru d Q) : ∃ b, d = .bl b ∧ Q b := by
  cases d <;> first | exact ⟨_, rfl, h⟩ | exact h.elim
theorem fresh_md {Bg M : AP} {H : Hp} {p : Addr} (b : BagsOk Bg H) (md : ∀ a, M a → H a ≠ none ∧ ¬ Bg a) (h : H p = none) : ¬ Bg p ∧ ¬ M p :=
  ⟨fun z => (by obtain ⟨_, _, e, _⟩ := b p z; rw [h] at e; cases e), fun z => (md p z).1 h⟩

section
variable {K : PySem.W.Frag} {F : List DC} {ta tb tc : TE} {a b c : E} {r r' : R2}
/-- a new tuple, a new list -/
theorem new_tup {Bg M : AP} {H : Hp} {vs : List V} {ds : List D} {Qd : D → Prop} {Q : VK} {p : Addr} (bg : BagsOk Bg H) (md : ∀ a, M a → H a ≠ none ∧ ¬ Bg a) (rl : RepL K Bg M H vs ds) (q : Qd (.tup ds)) (post : Post K Bg M H Qd Q) (hp : H p = none) : Q (.ref p) (L2.upd H p (.tup vs)) := by
  have e := Ext.lay (o := .tup vs) bg hp
  obtain ⟨n1, n2⟩ := fresh_md bg md hp
  exact post _ _ _ _ e (.tup (.inl upd_same) n1 n2 (rl.ext e fun a m => .inl m)) q
theorem new_lst {Bg M : AP} {H : Hp} {vs : List V} {ds : List D} {Qd : D → Prop} {Q : VK} {p : Addr} (bg : BagsOk Bg H) (md : ∀ a, M a → H a ≠ none ∧ ¬ Bg a) (rl : RepL K Bg M H vs ds) (q : Qd (.lst ds)) (post : Post K Bg M H Qd Q) (hp : H p = none) : Q (.ref p) (L2.upd H p (.lst vs)) := by
  have e := Ext.lay (o := .lst vs) bg hp
  obtain ⟨n1, n2⟩ := fresh_md bg md hp
  exact post _ _ _ _ e (.lst upd_same n1 n2 (rl.ext e fun a m => .inl m)) q
theorem post_here {Bg M : AP} {H : Hp} {Qd : D → Prop} {Q : VK} {d : D} {v : V} (bg : BagsOk Bg H) (post : Post K Bg M H Qd Q) (r : Rep K Bg M H v d) (q : Qd d) : Q v H := post d v Bg H (Ext.refl bg) r q

theorem ok_var {i : Nat} : TEok K F (tVar i) (.var i) := fun Bg M H σ G Qd Q en w post => by
  simp only [wpE] at w
  split at w
  · rename_i d hd
    obtain ⟨v, h1, h2⟩ := en.val i d hd
    exact ⟨v, h1, post_here en.bags post h2 w⟩
  · exact w.elim
theorem ok_bin2 {g : D → D → (D → Prop) → Prop} (ha : TEok K F ta a) (hb : TEok K F tb b) (hr : ROk2 K r g) {Bg M : AP} {H : Hp} {σ : L2.St} {G : List (Option D)} {Qd : D → Prop} {Q : VK} (en : EnvE K Bg M H σ G) (w : wpE F a G fun x => wpE F b G fun y => g x y Qd)
    (post : Post K Bg M H Qd Q) : tOp r ta tb σ H Q := by
  refine ha _ _ _ _ _ _ _ en w fun x vx B1 H1 e1 rx w1 => ?_
  refine hb _ _ _ _ _ _ _ (en.ext e1) w1 fun y vy B2 H2 e2 ry w2 => ?_
  exact hr _ _ _ _ _ _ _ _ _ e2.bags (md_ext (md_ext en.md e1) e2) (rx.ext e2 fun a m => .inl m) ry w2 (post.ext (e1.trans e2))
theorem ok_bin {o : BO} (ha : TEok K F ta a) (hb : TEok K F tb b) (hr : ROk2 K r (bop o)) : TEok K F (tOp r ta tb) (.bin o a b) := fun Bg M H σ G Qd Q en w post => by
  simp only [wpE] at w
  exact ok_bin2 ha hb hr en w post
theorem ok_cmp {o : CO} (ha : TEok K F ta a) (hb : TEok K F tb b) (hr : ROk2 K r (cop o)) : TEok K F (tOp r ta tb) (.cmp o a b) := fun Bg M H σ G Qd Q en w post => by
  simp only [wpE] at w
  exact ok_bin2 ha hb hr en w post
theorem ok_ix (ha : TEok K F ta a) (hb : TEok K F tb b) (hr : ROk2 K r ixop) : TEok K F (tOp r ta tb) (.ix a b) := fun Bg M H σ G Qd Q en w post => by
  simp only [wpE] at w
  exact ok_bin2 ha hb hr en w post
theorem ok_neg (ha : TEok K F ta a) : TEok K F (tUn (rU fun i => .int (-i)) ta) (.neg a) := fun Bg M H σ G Qd Q en w post => by
  simp only [wpE] at w
  refine ha _ _ _ _ _ _ _ en w fun x vx B1 H1 e1 rx w1 => ?_
  cases x with
  | int i => exact ⟨i, rx.int_inv, post _ _ _ _ e1 (.int _) w1⟩
  | _ => exact w1.elim
theorem ok_chain {o p : CO} (ha : TEok K F ta a) (hb : TEok K F tb b) (hc : TEok K F tc c) (hr : ROk2 K r (cop o)) (hr' : ROk2 K r' (cop p)) : TEok K F (tChain r r' ta tb tc) (.chain o p a b c) := fun Bg M H σ G Qd Q en w post => by
  simp only [wpE] at w
  refine ha _ _ _ _ _ _ _ en w fun x vx B1 H1 e1 rx w1 => ?_
  refine hb _ _ _ _ _ _ _ (en.ext e1) w1 fun y vy B2 H2 e2 ry w2 => ?_
  refine hr _ _ _ _ _ _ _ _ _ e2.bags (md_ext (md_ext en.md e1) e2) (rx.ext e2 fun a m => .inl m) ry w2 fun z vz B3 H3 e3 rz w3 => ?_
  obtain ⟨q, rfl, w3⟩ := dtru_inv w3
  refine ⟨q, rz.bl_inv, ?_⟩
  cases q with
  | true =>
    simp only [if_true] at w3 ⊢
    refine hc _ _ _ _ _ _ _ (((en.ext e1).ext e2).ext e3) w3 fun u vu B4 H4 e4 ru w4 => ?_
    exact hr' _ _ _ _ _ _ _ _ _ e4.bags (md_ext (md_ext (md_ext (md_ext en.md e1) e2) e3) e4) (ry.ext (e3.trans e4) fun a m => .inl m) ru w4 (post.ext (((e1.trans e2).trans e3).trans e4))
  | false =>
    simp only [Bool.false_eq_true, if_false] at w3 ⊢
    exact post _ _ _ _ ((e1.trans e2).trans e3) (.bl _) w3
theorem ok_andv (ha : TEok K F ta a) (hb : TEok K F tb b) : TEok K F (tAndV ta tb) (.andv a b) := fun Bg M H σ G Qd Q en w post => by
  simp only [wpE] at w
  refine ha _ _ _ _ _ _ _ en w fun x vx B1 H1 e1 rx w1 => ?_
  obtain ⟨q, rfl, w1⟩ := dtru_inv w1
  refine ⟨q, rx.bl_inv, ?_⟩
  cases q with
  | true =>
    simp only [if_true] at w1 ⊢
    exact hb _ _ _ _ _ _ _ (en.ext e1) w1 (post.ext e1)
  | false =>
    simp only [Bool.false_eq_true, if_false] at w1 ⊢
    exact post _ _ _ _ e1 (.bl _) w1
theorem ok_orv (ha : TEok K F ta a) (hb : TEok K F tb b) : TEok K F (tOrV ta tb) (.orv a b) := fun Bg M H σ G Qd Q en w post => by
  simp only [wpE] at w
  refine ha _ _ _ _ _ _ _ en w fun x vx B1 H1 e1 rx w1 => ?_
  obtain ⟨q, rfl, w1⟩ := dtru_inv w1
  refine ⟨q, rx.bl_inv, ?_⟩
  cases q with
  | true =>
    simp only [if_true] at w1 ⊢
    exact post _ _ _ _ e1 (.bl _) w1
  | false =>
    simp only [Bool.false_eq_true, if_false] at w1 ⊢
    exact hb _ _ _ _ _ _ _ (en.ext e1) w1 (post.ext e1)
theorem ok_notv (ha : TEok K F ta a) : TEok K F (tNotV ta) (.notv a) := fun Bg M H σ G Qd Q en w post => by
  simp only [wpE] at w
  refine ha _ _ _ _ _ _ _ en w fun x vx B1 H1 e1 rx w1 => ?_
  obtain ⟨q, rfl, w1⟩ := dtru_inv w1
  exact ⟨q, rx.bl_inv, post _ _ _ _ e1 (.bl _) w1⟩
theorem ok_ite {tt : TT} {t : E} (ht : TTok K F tt t) (ha : TEok K F ta a) (hb : TEok K F tb b) : TEok K F (tIf tt ta tb) (.ite t a b) := fun Bg M H σ G Qd Q en w post => by
  simp only [wpE] at w
  refine ht _ _ _ _ _ _ _ en w fun q B1 H1 e1 w1 => ?_
  cases q with
  | true =>
    simp only [if_true] at w1 ⊢
    exact ha _ _ _ _ _ _ _ (en.ext e1) w1 (post.ext e1)
  | false =>
    simp only [Bool.false_eq_true, if_false] at w1 ⊢
    exact hb _ _ _ _ _ _ _ (en.ext e1) w1 (post.ext e1)
theorem ok_nil : TAok K F tNil [] := fun Bg M H σ G Qd Q en w post => by
  simp only [wpEs] at w
  exact post _ _ _ _ (Ext.refl en.bags) .nil rfl w
theorem ok_cons {tr : TA} {es : List E} (ha : TEok K F ta a) (hr : TAok K F tr es) : TAok K F (tCons ta tr) (a :: es) := fun Bg M H σ G Qd Q en w post => by
  simp only [wpEs] at w
  refine ha _ _ _ _ _ _ _ en w fun x vx B1 H1 e1 rx w1 => ?_
  refine hr _ _ _ _ _ _ _ (en.ext e1) w1 fun ds vs B2 H2 e2 rl hl w2 => ?_
  exact post _ _ _ _ (e1.trans e2) (.cons (rx.ext e2 fun a m => .inl m) rl) (by rw [List.length_cons, List.length_cons, hl]) w2
theorem size1000 {n : Nat} (h : n ≤ 1000) : n ≤ sizeLine := Nat.le_trans h (by decide)
theorem ok_tup {t : TA} {es : List E} (h : TAok K F t es) (hl : es.length ≤ 1000) : TEok K F (tTup t) (.tup es) := fun Bg M H σ G Qd Q en w post => by
  simp only [wpE] at w
  refine h _ _ _ _ _ _ _ en w fun ds vs B1 H1 e1 rl hn w1 => ⟨size1000 (by rw [rl.len, hn]; exact hl), fun p hp => ?_⟩
  exact new_tup e1.bags (md_ext en.md e1) rl w1 (post.ext e1) hp
theorem ok_lst {t : TA} {es : List E} (h : TAok K F t es) (hl : es.length ≤ 1000) : TEok K F (tLst t) (.lst es) := fun Bg M H σ G Qd Q en w post => by
  simp only [wpE] at w
  refine h _ _ _ _ _ _ _ en w fun ds vs B1 H1 e1 rl hn w1 => ⟨size1000 (by rw [rl.len, hn]; exact hl), fun p hp => ?_⟩
  exact new_lst e1.bags (md_ext en.md e1) rl w1 (post.ext e1) hp
theorem ok_mkbag (ha : TEok K F ta a) (hb : TEok K F tb b) : TEok K F (tLst (tCons ta (tCons tb tNil))) (.mkbag a b) := fun Bg M H σ G Qd Q en w post => by
  simp only [wpE] at w
  refine ha _ _ _ _ _ _ _ en w fun x vx B1 H1 e1 rx w1 => ?_
  refine hb _ _ _ _ _ _ _ (en.ext e1) w1 fun y vy B2 H2 e2 ry w2 => ?_
  cases x with
  | int i =>
    cases y with
    | int j =>
      obtain ⟨⟨hi, hj, hj2⟩, w2⟩ := w2
      refine ⟨size1000 (by show 2 ≤ 1000; decide), fun p hp => ?_⟩
      rw [rx.int_inv, ry.int_inv]
      obtain ⟨n1, n2⟩ := fresh_md e2.bags (md_ext (md_ext en.md e1) e2) hp
      refine post _ _ (fun q => B2 q ∨ q = p) _ ((e1.trans e2).trans ⟨fun q h => .inl h, fun q h n => ?_, fun q o n h => ?_, fun q h => ?_⟩) (.bag (.inr rfl)) w2
      · rcases h with h | h
        · exact absurd h n
        · rw [h]; exact hp
      · rw [upd_ne (ne_of_none h hp)]
        exact h
      · rcases h with h | h
        · obtain ⟨L, M', e, r⟩ := e2.bags q h
          exact ⟨L, M', by rw [upd_ne (ne_of_none e hp)]; exact e, r⟩
        · exact ⟨i, j, by rw [h]; exact upd_same, hi, hj, hj2⟩
    | _ => exact w2.elim
  | _ => exact w2.elim
theorem ok_call {t : TA} {es : List E} {f n : Nat} {cn : DC} (h : TAok K F t es) (hf : F[f]? = some cn) (hn : ∀ ds Q, cn ds Q → ds.length = n) : TEok K F (tCB (fun vs H Q => SpD K n cn vs H Q E0) t) (.call f es) := fun Bg M H σ G Qd Q en w post => by
  simp only [wpE, hf] at w
  refine h _ _ _ _ _ _ _ en w fun ds vs B1 H1 e1 rl hl w1 => ?_
  exact ⟨B1, M, ds, Qd, e1.bags, md_ext en.md e1, rl, hn _ _ w1, w1, post.ext e1⟩
theorem ok_bi {t : TA} {es : List E} {f : Bi} {rc : List V → Hp → VK → Prop} (h : TAok K F t es) (hr : ROkC K rc (biop f)) : TEok K F (tCB rc t) (.bi f es) := fun Bg M H σ G Qd Q en w post => by
  simp only [wpE] at w
  exact h _ _ _ _ _ _ _ en w fun ds vs B1 H1 e1 rl hl w1 => hr _ _ _ _ _ _ _ e1.bags (md_ext en.md e1) rl w1 (post.ext e1)
/-- a value as a test -/
theorem ok_test (ha : TEok K F ta a) : TTok K F (tB ta) a := fun Bg M H σ G Qb Q en w post => by
  refine ha _ _ _ _ _ _ _ en w fun x vx B1 H1 e1 rx w1 => ?_
  obtain ⟨q, rfl, w1⟩ := dtru_inv w1
  exact ⟨q, rx.bl_inv, post _ _ _ e1 w1⟩
theorem ok_testR (ha : TEok K F ta a) : TTok K F (tTest ta) a := fun Bg M H σ G Qb Q en w post => by
  refine ha _ _ _ _ _ _ _ en w fun x vx B1 H1 e1 rx w1 => ?_
  obtain ⟨q, rfl, w1⟩ := dtru_inv w1
  exact ⟨q, rx.bl_inv, post _ _ _ e1 w1⟩
theorem ok_tand {t u : TT} (ha : TTok K F t a) (hb : TTok K F u b) : TTok K F (tAnd t u) (.andv a b) := fun Bg M H σ G Qb Q en w post => by
  simp only [wpE] at w
  refine ha _ _ _ _ _ _ _ en w fun q B1 H1 e1 w1 => ?_
  cases q with
  | true =>
    simp only [if_true] at w1 ⊢
    exact hb _ _ _ _ _ _ _ (en.ext e1) w1 fun q B2 H2 e2 w2 => post _ _ _ (e1.trans e2) w2
  | false =>
    simp only [Bool.false_eq_true, if_false] at w1 ⊢
    exact post _ _ _ e1 w1
theorem ok_tor {t u : TT} (ha : TTok K F t a) (hb : TTok K F u b) : TTok K F (tOr t u) (.orv a b) := fun Bg M H σ G Qb Q en w post => by
  simp only [wpE] at w
  refine ha _ _ _ _ _ _ _ en w fun q B1 H1 e1 w1 => ?_
  cases q with
  | true =>
    simp only [if_true] at w1 ⊢
    exact post _ _ _ e1 w1
  | false =>
    simp only [Bool.false_eq_true, if_false] at w1 ⊢
    exact hb _ _ _ _ _ _ _ (en.ext e1) w1 fun q B2 H2 e2 w2 => post _ _ _ (e1.trans e2) w2
theorem ok_tnot {t : TT} (ha : TTok K F t a) : TTok K F (tNot t) (.notv a) := fun Bg M H σ G Qb Q en w post => by
  simp only [wpE] at w
  exact ha _ _ _ _ _ _ _ en w fun q B1 H1 e1 w1 => post _ _ _ e1 w1
end

/-! ### operators by values -/
section
variable {K : PySem.W.Frag}
def rAddA : R2 := fun x y H Q => rI0 (fun i j => .int (i + j)) x y H Q ∨ rCat x y H Q
def CDivA (_ j : Int) : Prop := j ≠ 0 ∧ j.natAbs.log2 < 9000
def rMulA : R2 := fun x y H Q => rI CMulW (fun i j => .int (i * j)) x y H Q ∨ rRep x y H Q
def rOf : BO → R2
  | .add => rAddA
  | .sub => rI0 fun i j => .int (i - j)
  | .mul => rMulA
  | .fdiv => rI CDivA fun i j => .int (i.fdiv j)
  | .mod => rI (fun _ j => j ≠ 0) fun i j => .int (i.fmod j)
  | .pow => rI CPow fun i j => .int (i ^ j.toNat)
theorem op_fdivA {X : Cx} : OpR X (binaryOp .FloorDiv) (rI CDivA fun i j => .int (i.fdiv j)) := opI fun _ _ _ _ _ _ _ hc q => floordiv_int hc.1 q (.inl (PyProof.noPylong_of_log2 hc.2))
theorem opr_of (X : Cx) : ∀ o : BO, OpR X (binaryOp (boOf o)) (rOf o)
  | .add => OpR.or op_add op_cat
  | .sub => op_sub
  | .mul => OpR.or op_mulW op_rep
  | .fdiv => op_fdivA
  | .mod => op_modN
  | .pow => op_pow
theorem rok_of : ∀ o : BO, ROk2 K (rOf o) (bop o)
  | .add => fun Bg M H x y dx dy Qd Q bg md rx ry g post => by
    cases dx <;> cases dy <;> simp only [bop] at g
    · exact .inl ⟨_, _, rx.int_inv, ry.int_inv, post_here bg post (.int _) g⟩
    · obtain ⟨a, vs, rfl, ha, _, _, ra⟩ := rx.lst_inv
      obtain ⟨b, ws, rfl, hb, _, _, rb⟩ := ry.lst_inv
      exact .inr ⟨a, b, vs, ws, rfl, rfl, ha, hb, by rw [ra.len, rb.len]; exact g.1, fun p hp => new_lst bg md (ra.append rb) g.2 post hp⟩
  | .sub => fun Bg M H x y dx dy Qd Q bg md rx ry g post => by
    cases dx <;> cases dy <;> simp only [bop] at g
    exact ⟨_, _, rx.int_inv, ry.int_inv, post_here bg post (.int _) g⟩
  | .mul => fun Bg M H x y dx dy Qd Q bg md rx ry g post => by
    cases dx <;> cases dy <;> simp only [bop] at g
    · exact .inl ⟨_, _, rx.int_inv, ry.int_inv, g.1, post_here bg post (.int _) g.2⟩
    · rename_i xs k
      obtain ⟨a, vs, rfl, ha, _, _, ra⟩ := rx.lst_inv
      obtain ⟨⟨g1, g2, g3⟩, g4⟩ := g
      refine .inr ⟨a, k, vs, rfl, ry.int_inv, ha, by omega, by omega, ?_, fun p hp => new_lst bg md ?_ g4 post hp⟩
      · rw [ra.len]
        have h1 : k.toNat ≤ 1000 := by omega
        exact Nat.le_trans (Nat.mul_le_mul g3 h1) (by decide)
      · have all : ∀ n : Nat, RepL K Bg M H (List.replicate n vs).flatten (List.replicate n xs).flatten := fun n => by
          induction n with
          | zero => exact .nil
          | succ n ih =>
            rw [List.replicate_succ, List.replicate_succ, List.flatten_cons, List.flatten_cons]
            exact ra.append ih
        exact all _
  | .fdiv => fun Bg M H x y dx dy Qd Q bg md rx ry g post => by
    cases dx <;> cases dy <;> simp only [bop] at g
    exact ⟨_, _, rx.int_inv, ry.int_inv, g.1, post_here bg post (.int _) g.2⟩
  | .mod => fun Bg M H x y dx dy Qd Q bg md rx ry g post => by
    cases dx <;> cases dy <;> simp only [bop] at g
    exact ⟨_, _, rx.int_inv, ry.int_inv, g.1, post_here bg post (.int _) g.2⟩
  | .pow => fun Bg M H x y dx dy Qd Q bg md rx ry g post => by
    cases dx <;> cases dy <;> simp only [bop] at g
    exact ⟨_, _, rx.int_inv, ry.int_inv, g.1, post_here bg post (.int _) g.2⟩
def rEqA (K : PySem.W.Frag) : R2 := fun x y H Q => rEq x y H Q ∨ rEqD K x y H Q
def rNeA (K : PySem.W.Frag) : R2 := fun x y H Q => rNe x y H Q ∨ rNeD K x y H Q
def rFalse : R2 := fun _ _ _ _ => False
def rCo (K : PySem.W.Frag) : CO → R2
  | .eq => rEqA K
  | .ne => rNeA K
  | .lt => rI0 fun i j => .bl (decide (i < j))
  | .le => rI0 fun i j => .bl (decide (i ≤ j))
  | .gt => rI0 fun i j => .bl (decide (j < i))
  | .ge => rI0 fun i j => .bl (decide (j ≤ i))
  | .isn => fun x y H Q => y = .non ∧ Q (.bl (decide (x = .non))) H
  | .isnot => fun x y H Q => y = .non ∧ Q (.bl (!decide (x = .non))) H
  | .inn => rFalse
  | .notin => rFalse
theorem opc_of (X : Cx) (hu : X.A.units + 64 < cLine) : ∀ o : CO, OpR X (compareOp (coOf o)) (rCo X.K o)
  | .eq => OpR.or op_eq (op_eqD hu)
  | .ne => OpR.or op_ne (op_neD hu)
  | .lt => op_lt
  | .le => op_le
  | .gt => op_gt
  | .ge => op_ge
  | .isn => op_isN
  | .isnot => op_notN
  | .inn => fun _ _ _ _ _ _ _ _ _ _ _ _ h => False.elim h
  | .notin => fun _ _ _ _ _ _ _ _ _ _ _ _ h => False.elim h
theorem dec_int {i j : Int} : decide (V.int i = V.int j) = decide (i = j) := by simp
theorem dec_str {i j : Str} : decide (V.str i = V.str j) = decide (i = j) := by simp
theorem eq_gen {Bg M : AP} {H : Hp} {x y : V} {dx dy : D} {Qd : D → Prop} {Q : VK} (bg : BagsOk Bg H) (rx : Rep K Bg M H x dx) (ry : Rep K Bg M H y dy) (g : (eqOk dx ∧ eqOk dy) ∧ Qd (.bl (PyData.eqv dx.py dy.py))) (post : Post K Bg M H Qd Q) : rEqA K x y H Q :=
  .inr ⟨dx.py, dy.py, rx.dp g.1.1.1, ry.dp g.1.2.1, g.1.1.2, g.1.2.2, post_here bg post (.bl _) g.2⟩
theorem ne_gen {Bg M : AP} {H : Hp} {x y : V} {dx dy : D} {Qd : D → Prop} {Q : VK} (bg : BagsOk Bg H) (rx : Rep K Bg M H x dx) (ry : Rep K Bg M H y dy) (g : (eqOk dx ∧ eqOk dy) ∧ Qd (.bl (!PyData.eqv dx.py dy.py))) (post : Post K Bg M H Qd Q) : rNeA K x y H Q :=
  .inr ⟨dx.py, dy.py, rx.dp g.1.1.1, ry.dp g.1.2.1, g.1.1.2, g.1.2.2, post_here bg post (.bl _) g.2⟩
theorem isn_dec {Bg M : AP} {H : Hp} {x : V} {d : D} (r : Rep K Bg M H x d) (h : d ≠ .non) : decide (x = .non) = false := by
  cases r <;> first | exact absurd rfl h | rfl
theorem roc_of : ∀ o : CO, ROk2 K (rCo K o) (cop o)
  | .eq => fun Bg M H x y dx dy Qd Q bg md rx ry g post => by
    cases dx <;> cases dy <;> first
      | exact eq_gen bg rx ry g post
      | exact .inl ⟨by rw [rx.int_inv, ry.int_inv]; rfl, by rw [rx.int_inv, ry.int_inv, dec_int]; exact post_here bg post (.bl _) g⟩
      | exact .inl ⟨by rw [rx.str_inv, ry.str_inv]; rfl, by rw [rx.str_inv, ry.str_inv, dec_str]; exact post_here bg post (.bl _) g⟩
  | .ne => fun Bg M H x y dx dy Qd Q bg md rx ry g post => by
    cases dx <;> cases dy <;> first
      | exact ne_gen bg rx ry g post
      | exact .inl ⟨by rw [rx.int_inv, ry.int_inv]; rfl, by rw [rx.int_inv, ry.int_inv, dec_int]; exact post_here bg post (.bl _) g⟩
      | exact .inl ⟨by rw [rx.str_inv, ry.str_inv]; rfl, by rw [rx.str_inv, ry.str_inv, dec_str]; exact post_here bg post (.bl _) g⟩
  | .lt => fun Bg M H x y dx dy Qd Q bg md rx ry g post => by
    cases dx <;> cases dy <;> first | exact False.elim g | exact ⟨_, _, rx.int_inv, ry.int_inv, post_here bg post (.bl _) g⟩
  | .le => fun Bg M H x y dx dy Qd Q bg md rx ry g post => by
    cases dx <;> cases dy <;> first | exact False.elim g | exact ⟨_, _, rx.int_inv, ry.int_inv, post_here bg post (.bl _) g⟩
  | .gt => fun Bg M H x y dx dy Qd Q bg md rx ry g post => by
    cases dx <;> cases dy <;> first | exact False.elim g | exact ⟨_, _, rx.int_inv, ry.int_inv, post_here bg post (.bl _) g⟩
  | .ge => fun Bg M H x y dx dy Qd Q bg md rx ry g post => by
    cases dx <;> cases dy <;> first | exact False.elim g | exact ⟨_, _, rx.int_inv, ry.int_inv, post_here bg post (.bl _) g⟩
  | .isn => fun Bg M H x y dx dy Qd Q bg md rx ry g post => by
    cases dy <;> cases dx <;> first
      | exact False.elim g
      | exact ⟨ry.non_inv, by rw [isn_dec rx (fun z => by cases z)]; exact post_here bg post (.bl _) g⟩
      | exact ⟨ry.non_inv, by rw [rx.non_inv]; exact post_here bg post (.bl _) g⟩
  | .isnot => fun Bg M H x y dx dy Qd Q bg md rx ry g post => by
    cases dy <;> cases dx <;> first
      | exact False.elim g
      | exact ⟨ry.non_inv, by rw [isn_dec rx (fun z => by cases z)]; exact post_here bg post (.bl _) g⟩
      | exact ⟨ry.non_inv, by rw [rx.non_inv]; exact post_here bg post (.bl _) g⟩
  | .inn => fun Bg M H x y dx dy Qd Q bg md rx ry g post => by
    cases dx <;> cases dy <;> exact False.elim g
  | .notin => fun Bg M H x y dx dy Qd Q bg md rx ry g post => by
    cases dx <;> cases dy <;> exact False.elim g
end
end OC

set_option Elab.async false
set_option linter.all false
set_option maxRecDepth 100000
set_option maxHeartbeats 4000000
/-! Onecut: places, built-ins, slices, comprehensions. -/
namespace OC
open PySem PySem.Spec PyProof.Rows L2

section
variable {K : PySem.W.Frag} {F : List DC} {ta tb tc : TE} {a b c : E} {r r' : R2}
theorem RepL.at' {Bg M : AP} {H : Hp} {vs : List V} {ds : List D} {i : Int} {d : D} (r : RepL K Bg M H vs ds) (h : atI ds i = some d) : ∃ v, atI vs i = some v ∧ Rep K Bg M H v d := by
  unfold atI at h ⊢
  rw [r.len]
  cases q : ixN ds.length i with
  | none => rw [q] at h; cases h
  | some j =>
    rw [q] at h
    obtain ⟨v, h1, h2⟩ := r.get (i := j) (d := d) h
    exact ⟨v, h1, h2⟩
theorem at_map {ns : List Int} {i n : Int} (h : atI ns i = some n) : atI (ns.map V.int) i = some (.int n) := by
  unfold atI at h ⊢
  rw [List.length_map]
  cases q : ixN ns.length i with
  | none => rw [q] at h; cases h
  | some j =>
    rw [q] at h
    have h : ns[j]? = some n := h
    show (ns.map V.int)[j]? = some (.int n)
    rw [List.getElem?_map, h]
    rfl
theorem rok_ix : ROk2 K (rIx K) ixop := fun Bg M H x y dx dy Qd Q bg md rx ry g post => by
  cases dx <;> cases dy <;> first
    | exact False.elim g
    | skip
  · simp only [ixop] at g
    split at g
    · rename_i d hd
      obtain ⟨p, vs, rfl, hs, rl⟩ := rx.tup_inv
      obtain ⟨v, h1, h2⟩ := rl.at' hd
      exact .inr (.inl ⟨p, vs, _, v, rfl, ry.int_inv, hs, h1, post_here bg post h2 g⟩)
    · exact g.elim
  · simp only [ixop] at g
    split at g
    · rename_i d hd
      obtain ⟨p, vs, rfl, hs, _, _, rl⟩ := rx.lst_inv
      obtain ⟨v, h1, h2⟩ := rl.at' hd
      exact .inl ⟨p, vs, _, v, rfl, ry.int_inv, .inl (.inl hs), h1, post_here bg post h2 g⟩
    · exact g.elim
  · simp only [ixop] at g
    split at g
    · rename_i d hd
      obtain ⟨p, rfl, hs⟩ := rx.scr_inv
      exact .inl ⟨p, _, _, .int d, rfl, ry.int_inv, hs, at_map hd, post_here bg post (.int _) g⟩
    · exact g.elim
theorem ok_ixn {n : Nat} (ha : TEok K F ta a) : TEok K F (tOp (rIx K) ta (tC (.int (n : Int)))) (.ixn a n) := fun Bg M H σ G Qd Q en w post => by
  simp only [wpE] at w
  refine ha _ _ _ _ _ _ _ en w fun x vx B1 H1 e1 rx w1 => ?_
  have post := post.ext e1
  show rIx K vx (.int (n : Int)) H1 Q
  cases x <;> first
    | exact False.elim w1
    | skip
  · simp only [ixnop] at w1
    split at w1
    · rename_i d hd
      obtain ⟨p, vs, rfl, hs, rl⟩ := rx.tup_inv
      obtain ⟨v, h1, h2⟩ := rl.get hd
      exact .inr (.inl ⟨p, vs, _, v, rfl, rfl, hs, atI_nat h1, post_here e1.bags post h2 w1⟩)
    · exact w1.elim
  · simp only [ixnop] at w1
    split at w1
    · rename_i d hd
      obtain ⟨p, vs, rfl, hs, _, _, rl⟩ := rx.lst_inv
      obtain ⟨v, h1, h2⟩ := rl.get hd
      exact .inl ⟨p, vs, _, v, rfl, rfl, .inl (.inl hs), atI_nat h1, post_here e1.bags post h2 w1⟩
    · exact w1.elim
  · obtain ⟨p, rfl, hb⟩ := rx.bag_inv
    obtain ⟨L, M', hl, h1, h2, h3⟩ := e1.bags p hb
    match n, w1 with
    | 0, w1 => exact .inl ⟨p, _, _, .int L, rfl, rfl, .inl (.inl hl), rfl, post_here e1.bags post (.int _) (w1 L h1)⟩
    | 1, w1 => exact .inl ⟨p, _, _, .int M', rfl, rfl, .inl (.inl hl), rfl, post_here e1.bags post (.int _) (w1 M' h2 h3)⟩
    | _ + 2, w1 => exact w1.elim

/-! ### built-ins -/
def rBi (K : PySem.W.Frag) : Bi → List V → Hp → VK → Prop
  | .len => fun xs H Q => ∃ x n, xs = [x] ∧ LenV K x H n ∧ Q (.int n) H
  | .abs => fun xs H Q => ∃ i, xs = [.int i] ∧ Q (.int (if i < 0 then -i else i)) H
  | .max => fun xs H Q => (∃ i j, xs = [.int i, .int j] ∧ Q (.int (if j > i then j else i)) H) ∨ rNuC3 nuMax3 xs H Q
  | .min => fun xs H Q => ∃ i j, xs = [.int i, .int j] ∧ Q (.int (if j < i then j else i)) H
  | .sum => rSum K
  | .all => rAll K
  | .any => rAny K
  | .repr => fun xs H Q => ∃ x d, xs = [x] ∧ Dp K H x d ∧ d.showable = true ∧ d.shown.length ≤ sizeLine ∧ d.depth ≤ 60 ∧ d.hasDict = false ∧ Q (.str d.shown) H
  | .divmod => fun xs H Q => ∃ i j, xs = [.int i, .int j] ∧ CDivP i j ∧ ∀ p, H p = none → Q (.ref p) (L2.upd H p (.tup [.int (i / j), .int (i % j)]))
  | .int => fun xs H Q => (∃ i, xs = [.int i] ∧ Q (.int i) H) ∨ ∃ k, xs = [.bl k] ∧ Q (.int (if k then 1 else 0)) H
  | _ => fun _ _ _ => False
theorem ints_ok : ∀ {ds : List D} {ns : List Int}, intsOf ds = some ns → ds = ns.map D.int
  | [], ns, h => by cases h; rfl
  | d :: ds, ns, h => by
    cases d with
    | int i =>
      simp only [intsOf, Option.map_eq_some_iff] at h
      obtain ⟨ms, h1, rfl⟩ := h
      rw [ints_ok h1]
      rfl
    | _ => simp [intsOf] at h
theorem bls_ok : ∀ {ds : List D} {ns : List Bool}, blsOf ds = some ns → ds = ns.map D.bl
  | [], ns, h => by cases h; rfl
  | d :: ds, ns, h => by
    cases d with
    | bl i =>
      simp only [blsOf, Option.map_eq_some_iff] at h
      obtain ⟨ms, h1, rfl⟩ := h
      rw [bls_ok h1]
      rfl
    | _ => simp [blsOf] at h
mutual
theorem py_nodict : ∀ d : D, d.py.hasDict = false
  | .non => rfl
  | .bl _ => rfl
  | .int _ => rfl
  | .str _ => rfl
  | .tup xs => pyL_nodict xs
  | .lst xs => pyL_nodict xs
  | .scr _ => rfl
  | .bag => rfl
theorem pyL_nodict : ∀ ds : List D, PyData.hasDictAll (pyL ds) = false
  | [] => rfl
  | d :: ds => by
    show (d.py.hasDict || PyData.hasDictAll (pyL ds)) = false
    rw [py_nodict d, pyL_nodict ds]
    rfl
end
theorem one_inv {Bg M : AP} {H : Hp} {vs : List V} {d : D} (r : RepL K Bg M H vs [d]) : ∃ v, vs = [v] ∧ Rep K Bg M H v d := by
  cases r with
  | cons h t =>
    cases t
    exact ⟨_, rfl, h⟩
theorem two_inv {Bg M : AP} {H : Hp} {vs : List V} {d e : D} (r : RepL K Bg M H vs [d, e]) : ∃ v w, vs = [v, w] ∧ Rep K Bg M H v d ∧ Rep K Bg M H w e := by
  cases r with
  | cons h t =>
    obtain ⟨w, rfl, h2⟩ := one_inv t
    exact ⟨_, _, rfl, h, h2⟩
theorem max2_int (i j : Int) : nuMax2 (.int i) (.int j) = some (.int (if j > i then j else i)) := by
  show (some (decide (i < j))).map (fun c => if c = true then V.int j else V.int i) = _
  by_cases h : i < j
  · rw [decide_eq_true h, if_pos h]
    rfl
  · rw [decide_eq_false h, if_neg h]
    rfl
theorem max3_int (i j k : Int) : nuMax3 (.int i) (.int j) (.int k) = some (.int (if k > (if j > i then j else i) then k else (if j > i then j else i))) := by
  unfold nuMax3
  rw [max2_int]
  exact max2_int _ _
theorem rok_bi (f : Bi) : ROkC K (rBi K f) (biop f) := fun Bg M H vs ds Qd Q bg md rl g post => by
  unfold biop at g
  split at g
  · obtain ⟨v, rfl, r⟩ := one_inv rl
    obtain ⟨p, ws, rfl, h, _, _, l⟩ := r.lst_inv
    exact ⟨_, _, rfl, .inl ⟨ws, .inl (.inl h), rfl⟩, by rw [l.len]; exact post_here bg post (.int _) g⟩
  · obtain ⟨v, rfl, r⟩ := one_inv rl
    obtain ⟨p, ws, rfl, h, l⟩ := r.tup_inv
    exact ⟨_, _, rfl, .inr ⟨ws, h, rfl⟩, by rw [l.len]; exact post_here bg post (.int _) g⟩
  · obtain ⟨v, rfl, r⟩ := one_inv rl
    obtain ⟨p, rfl, h⟩ := r.scr_inv
    exact ⟨_, _, rfl, .inl ⟨_, h, rfl⟩, by rw [List.length_map]; exact post_here bg post (.int _) g⟩
  · obtain ⟨v, rfl, r⟩ := one_inv rl
    rw [r.str_inv]
    exact ⟨_, _, rfl, ⟨g.1, rfl⟩, post_here bg post (.int _) g.2⟩
  · obtain ⟨v, rfl, r⟩ := one_inv rl
    exact ⟨_, by rw [r.int_inv], post_here bg post (.int _) g⟩
  · obtain ⟨v, w, rfl, r, r2⟩ := two_inv rl
    exact .inl ⟨_, _, by rw [r.int_inv, r2.int_inv], post_here bg post (.int _) g⟩
  · obtain ⟨v, w, rfl, r, r2⟩ := two_inv rl
    exact ⟨_, _, by rw [r.int_inv, r2.int_inv], post_here bg post (.int _) g⟩
  · cases rl with
    | cons r t =>
      obtain ⟨w, u, rfl, r2, r3⟩ := two_inv t
      rw [r.int_inv, r2.int_inv, r3.int_inv]
      exact .inr ⟨_, _, _, _, rfl, max3_int _ _ _, post_here bg post (.int _) g⟩
  · obtain ⟨v, rfl, r⟩ := one_inv rl
    split at g
    · rename_i ns hn
      obtain ⟨p, ws, rfl, h, _, _, l⟩ := r.lst_inv
      rw [ints_ok hn] at l
      exact ⟨p, ns, rfl, .inl (.inl (by rw [← l.ints_inv]; exact h)), post_here bg post (.int _) g⟩
    · exact g.elim
  · obtain ⟨v, rfl, r⟩ := one_inv rl
    split at g
    · rename_i ns hn
      obtain ⟨p, ws, rfl, h, _, _, l⟩ := r.lst_inv
      rw [bls_ok hn] at l
      exact ⟨p, ns, rfl, .inl (.inl (by rw [← l.bls_inv]; exact h)), post_here bg post (.bl _) g⟩
    · exact g.elim
  · obtain ⟨v, rfl, r⟩ := one_inv rl
    split at g
    · rename_i ns hn
      obtain ⟨p, ws, rfl, h, _, _, l⟩ := r.lst_inv
      rw [bls_ok hn] at l
      exact ⟨p, ns, rfl, .inl (.inl (by rw [← l.bls_inv]; exact h)), post_here bg post (.bl _) g⟩
    · exact g.elim
  · obtain ⟨v, rfl, r⟩ := one_inv rl
    exact ⟨v, _, rfl, r.dp g.1.1, g.1.2.1, g.1.2.2.1, g.1.2.2.2, py_nodict _, post_here bg post (.str _) g.2⟩
  · obtain ⟨v, w, rfl, r, r2⟩ := two_inv rl
    refine ⟨_, _, by rw [r.int_inv, r2.int_inv], ⟨g.1.1, PyProof.noPylong_of_log2 g.1.2⟩, fun p hp => new_tup bg md (.cons (.int _) (.cons (.int _) .nil)) g.2 post hp⟩
  · obtain ⟨v, rfl, r⟩ := one_inv rl
    exact .inl ⟨_, by rw [r.int_inv], post_here bg post (.int _) g⟩
  · obtain ⟨v, rfl, r⟩ := one_inv rl
    exact .inr ⟨_, by rw [r.bl_inv], post_here bg post (.int _) g⟩
  · exact g.elim
theorem call_reprD {X : Cx} (hg : X.A.guards = some []) (hu : X.A.units + 64 < cLine) : CallR X (.builtin "repr") (rBi X.K .repr) := by
  intro pins s σ H xs us Q I r h
  obtain ⟨x, d, rfl, hd, h1, h2, h3, h4, q⟩ := h
  obtain ⟨u, rfl, rx⟩ := vals1 r
  cases hd with
  | non =>
    cases (show u = Value.none from rx)
    exact PySem.P.repr_of_none ⟨.str _, H, I.tok _, ⟨_, rfl⟩, q⟩
  | bl b =>
    cases (show u = Value.bool b from rx)
    refine PySem.P.repr_of_bool ⟨.str _, H, I.tok _, ⟨_, rfl⟩, ?_⟩
    cases b <;> exact q
  | int i =>
    obtain ⟨t, rfl⟩ := rx
    exact PySem.P.repr_of_int (of_decide_eq_true h1) ⟨.str _, H, I.tok _, ⟨_, rfl⟩, q⟩
  | str x =>
    obtain ⟨t, rfl⟩ := rx
    exact PySem.P.repr_of_str ⟨.str _, H, I.tok _, ⟨_, rfl⟩, q⟩ h2
  | @lst a xs ds hs ha =>
    cases (show u = Value.ref a from rx)
    obtain ⟨as, rd⟩ := Dp.reads I _ _ _ (Dp.lst hs ha) rfl
    exact repr_of_reads' rd h1 (fun z => by rw [h4] at z; cases z) hg (by omega) (fun _ _ e => e) (fun h' u tk hk => ⟨.str _, H, I.kept (t' := tk) hk, ⟨_, rfl⟩, q⟩) h2
  | @tup a xs ds hs ha =>
    cases (show u = Value.ref a from rx)
    obtain ⟨as, rd⟩ := Dp.reads I _ _ _ (Dp.tup hs ha) rfl
    exact repr_of_reads' rd h1 (fun z => by rw [h4] at z; cases z) hg (by omega) (fun _ _ e => e) (fun h' u tk hk => ⟨.str _, H, I.kept (t' := tk) hk, ⟨_, rfl⟩, q⟩) h2
end
end OC

set_option Elab.async false
set_option linter.all false
set_option maxRecDepth 100000
set_option maxHeartbeats 4000000
/-! Onecut: kinds, slices, what is walked, comprehensions. -/
namespace OC
open PySem PySem.Spec PyProof.Rows L2

section
variable {K : PySem.W.Frag} {F : List DC} {ta tb tc : TE} {a b c : E}
/-! ### isinstance -/
def tyV' : D → String
  | .non => "NoneType"
  | .bl _ => "bool"
  | .int _ => "int"
  | .str _ => "str"
  | .tup _ => "tuple"
  | .lst _ => "list"
  | .scr _ => "list"
  | .bag => "list"
theorem Rep.ty {Bg M : AP} {H : Hp} {v : V} {d : D} (r : Rep K Bg M H v d) (p : d.pure = true) : TyX K H v (.type (tyV' d)) := by
  cases r with
  | non => exact .base .non
  | bl b => exact .base (.bl b)
  | int i => exact .base (.int i)
  | str s => exact .base (.str s)
  | tup h _ _ _ =>
    rcases h with h | ⟨o, h⟩
    · exact .base (.tup h)
    · exact .fTuple h
  | lit h _ =>
    obtain ⟨o, its, n, h1, h2, _⟩ := h
    exact .kTuple h1 h2
  | lst h _ _ _ => exact .base (.lst h)
  | scr _ _ _ => cases p
  | scrK _ => cases p
  | bag _ => cases p
theorem kit_D : ∀ (t : Ty) (d : D), d.pure = true → kitB (tyV' d) (tyNm t) = some (isTy t d)
  | .int, .non, _ => (by decide +kernel : kitB "NoneType" "int" = some false)
  | .int, .bl _, _ => (by decide +kernel : kitB "bool" "int" = some true)
  | .int, .int _, _ => (by decide +kernel : kitB "int" "int" = some true)
  | .int, .str _, _ => (by decide +kernel : kitB "str" "int" = some false)
  | .int, .tup _, _ => (by decide +kernel : kitB "tuple" "int" = some false)
  | .int, .lst _, _ => (by decide +kernel : kitB "list" "int" = some false)
  | .bool, .non, _ => (by decide +kernel : kitB "NoneType" "bool" = some false)
  | .bool, .bl _, _ => (by decide +kernel : kitB "bool" "bool" = some true)
  | .bool, .int _, _ => (by decide +kernel : kitB "int" "bool" = some false)
  | .bool, .str _, _ => (by decide +kernel : kitB "str" "bool" = some false)
  | .bool, .tup _, _ => (by decide +kernel : kitB "tuple" "bool" = some false)
  | .bool, .lst _, _ => (by decide +kernel : kitB "list" "bool" = some false)
  | .tuple, .non, _ => (by decide +kernel : kitB "NoneType" "tuple" = some false)
  | .tuple, .bl _, _ => (by decide +kernel : kitB "bool" "tuple" = some false)
  | .tuple, .int _, _ => (by decide +kernel : kitB "int" "tuple" = some false)
  | .tuple, .str _, _ => (by decide +kernel : kitB "str" "tuple" = some false)
  | .tuple, .tup _, _ => (by decide +kernel : kitB "tuple" "tuple" = some true)
  | .tuple, .lst _, _ => (by decide +kernel : kitB "list" "tuple" = some false)
  | .list, .non, _ => (by decide +kernel : kitB "NoneType" "list" = some false)
  | .list, .bl _, _ => (by decide +kernel : kitB "bool" "list" = some false)
  | .list, .int _, _ => (by decide +kernel : kitB "int" "list" = some false)
  | .list, .str _, _ => (by decide +kernel : kitB "str" "list" = some false)
  | .list, .tup _, _ => (by decide +kernel : kitB "tuple" "list" = some false)
  | .list, .lst _, _ => (by decide +kernel : kitB "list" "list" = some true)
  | .str, .non, _ => (by decide +kernel : kitB "NoneType" "str" = some false)
  | .str, .bl _, _ => (by decide +kernel : kitB "bool" "str" = some false)
  | .str, .int _, _ => (by decide +kernel : kitB "int" "str" = some false)
  | .str, .str _, _ => (by decide +kernel : kitB "str" "str" = some true)
  | .str, .tup _, _ => (by decide +kernel : kitB "tuple" "str" = some false)
  | .str, .lst _, _ => (by decide +kernel : kitB "list" "str" = some false)
  | _, .scr _, p => by cases p
  | _, .bag, p => by cases p
theorem ok_isi {t : Ty} (ha : TEok K F ta a) : TEok K F (tCB (rIsi K) (tCons ta (tCons (tC (.ty (tyNm t))) tNil))) (.isi a t) := fun Bg M H σ G Qd Q en w post => by
  simp only [wpE] at w
  refine ha _ _ _ _ _ _ _ en w fun x vx B1 H1 e1 rx w1 => ?_
  exact ⟨vx, .ty (tyNm t), _, _, isTy t x, rfl, .ty _, rx.ty w1.1, kit_ty (kit_D t x w1.1), post _ _ _ _ e1 (.bl _) w1.2⟩

/-! ### slices -/
def TOok (K : PySem.W.Frag) (F : List DC) (t : TO) (es : List E) : Prop := ∀ (Bg M : AP) (H : Hp) (σ : L2.St) (G : List (Option D)) (Qd : Option Int → Prop) (Q : Option Int → Hp → Prop), EnvE K Bg M H σ G → wpEs F es G (fun l => withPart l Qd) →
  (∀ p Bg' H', Ext Bg H Bg' H' → Qd p → Q p H') → t σ H Q
theorem ok_part0 : TOok K F tNoPart [] := fun Bg M H σ G Qd Q en w post => by
  simp only [wpEs] at w
  exact post none _ _ (Ext.refl en.bags) w
theorem ok_part1 (ha : TEok K F ta a) : TOok K F (tPart ta) [a] := fun Bg M H σ G Qd Q en w post => by
  simp only [wpEs] at w
  refine ha _ _ _ _ _ _ _ en w fun x vx B1 H1 e1 rx w1 => ?_
  cases x with
  | int i => exact ⟨i, rx.int_inv, post _ _ _ e1 w1⟩
  | _ => exact False.elim w1
theorem RepL.drop {Bg M : AP} {H : Hp} : ∀ {vs : List V} {ds : List D} (n : Nat), RepL K Bg M H vs ds → RepL K Bg M H (vs.drop n) (ds.drop n)
  | _, _, 0, r => r
  | _, _, _ + 1, .nil => .nil
  | _, _, n + 1, .cons _ t => RepL.drop n t
theorem RepL.take {Bg M : AP} {H : Hp} : ∀ {vs : List V} {ds : List D} (n : Nat), RepL K Bg M H vs ds → RepL K Bg M H (vs.take n) (ds.take n)
  | _, _, 0, _ => .nil
  | _, _, _ + 1, .nil => .nil
  | _, _, n + 1, .cons r t => .cons r (RepL.take n t)
theorem RepL.cut {Bg M : AP} {H : Hp} {vs : List V} {ds : List D} (lo hi : Option Int) (r : RepL K Bg M H vs ds) : RepL K Bg M H (cutV vs lo hi) (cutD ds lo hi) := by
  unfold cutV cutD
  rw [r.len]
  exact (r.drop _).take _
theorem ok_slc {tl th : TO} {lo hi : List E} (ha : TEok K F ta a) (hl : TOok K F tl lo) (hh : TOok K F th hi) : TEok K F (tSl (rSlL K) ta tl th) (.slc a lo hi) := fun Bg M H σ G Qd Q en w post => by
  simp only [wpE] at w
  refine ha _ _ _ _ _ _ _ en w fun x vx B1 H1 e1 rx w1 => ?_
  refine hl _ _ _ _ _ _ _ (en.ext e1) w1 fun p B2 H2 e2 w2 => ?_
  refine hh _ _ _ _ _ _ _ ((en.ext e1).ext e2) w2 fun q B3 H3 e3 w3 => ?_
  cases x with
  | lst xs =>
    obtain ⟨ad, vs, rfl, h1, n1, n2, rl⟩ := (rx.ext (e2.trans e3) fun a m => .inl m).lst_inv
    exact ⟨ad, vs, rfl, .inl (.inl h1), fun p hp => new_lst e3.bags (md_ext (md_ext (md_ext en.md e1) e2) e3) (rl.cut _ _) w3 (post.ext ((e1.trans e2).trans e3)) hp⟩
  | _ => exact False.elim w3

/-! ### what is walked -/
structure Walks (K : PySem.W.Frag) (J : It) (gs : List (V × D)) (xs : List D) : Prop where
  step : ∀ (Bg M : AP) (H : Hp) (i : Nat) (d : D), BagsOk Bg H → (∀ a, M a → H a ≠ none ∧ ¬ Bg a) → (∀ p ∈ gs, Rep K Bg M H p.1 p.2) → xs[i]? = some d → J.go i H ∧ ∀ x H', J.yld i H x H' → Ext Bg H Bg H' ∧ Rep K Bg M H' x d
  stop : ∀ (Bg M : AP) (H : Hp), (∀ p ∈ gs, Rep K Bg M H p.1 p.2) → J.stop xs.length H
def TIok (K : PySem.W.Frag) (F : List DC) (t : TI) (k : IK) (es : List E) : Prop := ∀ (Bg M : AP) (H : Hp) (σ : L2.St) (G : List (Option D)) (Qd : List D → Prop) (R : It → Hp → Prop), EnvE K Bg M H σ G → wpEs F es G (fun ds => itemsOf k ds Qd) →
  (∀ xs J gs Bg' H', Ext Bg H Bg' H' → (∀ p ∈ gs, Rep K Bg' M H' p.1 p.2) → Walks K J gs xs → Qd xs → R J H') → t σ H R
theorem lt_of_get {xs : List D} {i : Nat} {d : D} (h : xs[i]? = some d) : i < xs.length := (List.getElem?_eq_some_iff.mp h).1
theorem ok_ilst (ha : TEok K F ta a) : TIok K F (iList K ta) .lst [a] := fun Bg M H σ G Qd R en w post => by
  simp only [wpEs] at w
  refine ha _ _ _ _ _ _ _ en w fun x vx B1 H1 e1 rx w1 => ?_
  cases x <;> first
    | exact False.elim w1
    | skip
  rename_i xs
  obtain ⟨p, vs, rfl, hp, n1, n2, rl⟩ := rx.lst_inv
  refine ⟨p, rfl, ⟨vs, .inl (.inl hp)⟩, post xs (Itl K p) [(.ref p, .lst xs)] _ _ e1 (fun q hq => by cases List.mem_singleton.mp hq; exact rx) ⟨fun Bg M H i d bg md hr hi => ?_, fun Bg M H hr => ?_⟩ w1⟩
  · obtain ⟨p', vs', e, hp', _, _, rl'⟩ := (hr _ (List.mem_singleton.mpr rfl)).lst_inv
    cases e
    obtain ⟨v, hv, rv⟩ := rl'.get hi
    refine ⟨⟨vs', v, .inl (.inl hp'), hv⟩, fun x H' hy => ?_⟩
    obtain ⟨rfl, hy⟩ := hy
    have := hy vs' (.inl (.inl hp'))
    rw [hv] at this
    cases this
    exact ⟨Ext.refl bg, rv⟩
  · obtain ⟨p', vs', e, hp', _, _, rl'⟩ := (hr _ (List.mem_singleton.mpr rfl)).lst_inv
    cases e
    exact ⟨vs', .inl (.inl hp'), by rw [rl'.len]; exact Nat.le_refl _⟩
theorem ok_itup (ha : TEok K F ta a) : TIok K F (iTup K ta) .tup [a] := fun Bg M H σ G Qd R en w post => by
  simp only [wpEs] at w
  refine ha _ _ _ _ _ _ _ en w fun x vx B1 H1 e1 rx w1 => ?_
  cases x <;> first
    | exact False.elim w1
    | skip
  rename_i xs
  obtain ⟨p, vs, rfl, hp, rl⟩ := rx.tup_inv
  refine ⟨p, rfl, ⟨vs, hp⟩, post xs (Itt K p) [(.ref p, .tup xs)] _ _ e1 (fun q hq => by cases List.mem_singleton.mp hq; exact rx) ⟨fun Bg M H i d bg md hr hi => ?_, fun Bg M H hr => ?_⟩ w1⟩
  · obtain ⟨p', vs', e, hp', rl'⟩ := (hr _ (List.mem_singleton.mpr rfl)).tup_inv
    cases e
    obtain ⟨v, hv, rv⟩ := rl'.get hi
    refine ⟨⟨vs', v, hp', hv⟩, fun x H' hy => ?_⟩
    obtain ⟨rfl, hy⟩ := hy
    have := hy vs' hp'
    rw [hv] at this
    cases this
    exact ⟨Ext.refl bg, rv⟩
  · obtain ⟨p', vs', e, hp', rl'⟩ := (hr _ (List.mem_singleton.mpr rfl)).tup_inv
    cases e
    exact ⟨vs', hp', by rw [rl'.len]; exact Nat.le_refl _⟩
theorem rng_get {n i : Nat} {lo : Int} {d : D} (h : ((List.range n).map fun i : Nat => D.int (lo + i))[i]? = some d) : i < n ∧ d = .int (lo + i) := by
  rw [List.getElem?_map] at h
  cases q : (List.range n)[i]? with
  | none => rw [q] at h; cases h
  | some j =>
    rw [q] at h
    have hi := (List.getElem?_eq_some_iff.mp q).1
    rw [List.length_range] at hi
    rw [List.getElem?_range hi] at q
    cases q
    cases h
    exact ⟨hi, rfl⟩
theorem walks_rng (lo : Int) (n : Nat) : Walks K (Itr lo n) [] ((List.range n).map fun i : Nat => D.int (lo + i)) :=
  ⟨fun Bg M H i d bg md hr hi => by
    obtain ⟨h1, rfl⟩ := rng_get hi
    refine ⟨h1, fun x H' hy => ?_⟩
    obtain ⟨rfl, rfl⟩ := hy
    exact ⟨Ext.refl bg, .int _⟩, fun Bg M H hr => by
    show n ≤ _
    rw [List.length_map, List.length_range]
    exact Nat.le_refl _⟩
theorem ok_irng1 (ha : TEok K F ta a) : TIok K F (iRng1 (tCons ta tNil)) .rng1 [a] := fun Bg M H σ G Qd R en w post => by
  simp only [wpEs] at w
  refine ha _ _ _ _ _ _ _ en w fun x vx B1 H1 e1 rx w1 => ?_
  cases x <;> first
    | exact False.elim w1
    | skip
  rename_i n
  obtain ⟨⟨h1, h2⟩, w1⟩ := w1
  have e : ((List.range n.toNat).map fun i : Nat => D.int ((0 : Int) + i)) = ((List.range n.toNat).map fun i : Nat => D.int i) := by
    congr 1
    funext i
    rw [Int.zero_add]
  have W := walks_rng (K := K) 0 n.toNat
  rw [e] at W
  exact ⟨n, by rw [rx.int_inv], h1, h2, post _ (Itr 0 n.toNat) [] _ _ e1 (fun q hq => nomatch hq) W w1⟩
theorem ok_irng2 (ha : TEok K F ta a) (hb : TEok K F tb b) : TIok K F (iRng2 (tCons ta (tCons tb tNil))) .rng2 [a, b] := fun Bg M H σ G Qd R en w post => by
  simp only [wpEs] at w
  refine ha _ _ _ _ _ _ _ en w fun x vx B1 H1 e1 rx w1 => ?_
  refine hb _ _ _ _ _ _ _ (en.ext e1) w1 fun y vy B2 H2 e2 ry w2 => ?_
  cases x <;> cases y <;> first
    | exact False.elim w2
    | skip
  rename_i lo n
  exact ⟨lo, n, by rw [rx.int_inv, ry.int_inv], w2.1, post _ (Itr lo (n - lo).toNat) [] _ _ (e1.trans e2) (fun q hq => nomatch hq) (walks_rng lo _) w2.2⟩
theorem ok_irev (ha : TEok K F ta a) : TIok K F (iRev K (tCons ta tNil)) .rev [a] := fun Bg M H σ G Qd R en w post => by
  simp only [wpEs] at w
  refine ha _ _ _ _ _ _ _ en w fun x vx B1 H1 e1 rx w1 => ?_
  cases x <;> first
    | exact False.elim w1
    | skip
  rename_i xs
  obtain ⟨p, vs, rfl, hp, n1, n2, rl⟩ := rx.lst_inv
  refine ⟨p, vs, rfl, .inl (.inl hp), post xs.reverse (Itv K p vs.length) [(.ref p, .lst xs)] _ _ e1 (fun q hq => by cases List.mem_singleton.mp hq; exact rx) ⟨fun Bg M H i d bg md hr hi => ?_, fun Bg M H hr => ?_⟩ w1⟩
  · obtain ⟨p', vs', e, hp', _, _, rl'⟩ := (hr _ (List.mem_singleton.mpr rfl)).lst_inv
    cases e
    have hlt : i < xs.length := by
      have := lt_of_get hi
      rwa [List.length_reverse] at this
    rw [List.getElem?_reverse hlt] at hi
    obtain ⟨v, hv, rv⟩ := rl'.get hi
    rw [rl.len]
    refine ⟨⟨hlt, vs', v, .inl (.inl hp'), hv⟩, fun x H' hy => ?_⟩
    obtain ⟨rfl, hy⟩ := hy
    have := hy vs' (.inl (.inl hp'))
    rw [hv] at this
    cases this
    exact ⟨Ext.refl bg, rv⟩
  · show vs.length ≤ _
    rw [List.length_reverse, rl.len]
    exact Nat.le_refl _
theorem ok_ienum (ha : TEok K F ta a) : TIok K F (iEnum K (tCons ta tNil)) .enum [a] := fun Bg M H σ G Qd R en w post => by
  simp only [wpEs] at w
  refine ha _ _ _ _ _ _ _ en w fun x vx B1 H1 e1 rx w1 => ?_
  cases x <;> first
    | exact False.elim w1
    | skip
  rename_i xs
  obtain ⟨p, vs, rfl, hp, n1, n2, rl⟩ := rx.lst_inv
  refine ⟨p, vs, rfl, .inl (.inl hp), post _ (Ite K p) [(.ref p, .lst xs)] _ _ e1 (fun q hq => by cases List.mem_singleton.mp hq; exact rx) ⟨fun Bg M H i d bg md hr hi => ?_, fun Bg M H hr => ?_⟩ w1⟩
  · obtain ⟨p', vs', e, hp', _, _, rl'⟩ := (hr _ (List.mem_singleton.mpr rfl)).lst_inv
    cases e
    rw [List.getElem?_map, List.getElem?_zipIdx] at hi
    cases q : xs[i]? with
    | none => rw [q] at hi; cases hi
    | some y =>
      rw [q] at hi
      cases hi
      obtain ⟨v, hv, rv⟩ := rl'.get q
      refine ⟨⟨vs', v, .inl (.inl hp'), hv⟩, fun x H' hy => ?_⟩
      obtain ⟨T, z, rfl, hT, rfl, hz⟩ := hy
      have := hz vs' (.inl (.inl hp'))
      rw [hv] at this
      cases this
      have ex := Ext.lay (o := .tup [.int (i : Nat), v]) bg hT
      obtain ⟨m1, m2⟩ := fresh_md bg md hT
      refine ⟨ex, .tup (.inl upd_same) m1 m2 (.cons ?_ (.cons (rv.ext ex fun a m => .inl m) .nil))⟩
      rw [Nat.zero_add]
      exact .int _
  · obtain ⟨p', vs', e, hp', _, _, rl'⟩ := (hr _ (List.mem_singleton.mpr rfl)).lst_inv
    cases e
    exact ⟨vs', .inl (.inl hp'), by rw [rl'.len, List.length_map, List.length_zipIdx]; exact Nat.le_refl _⟩
theorem ok_izip (ha : TEok K F ta a) (hb : TEok K F tb b) : TIok K F (iZip K (tCons ta (tCons tb tNil))) .zip [a, b] := fun Bg M H σ G Qd R en w post => by
  simp only [wpEs] at w
  refine ha _ _ _ _ _ _ _ en w fun x vx B1 H1 e1 rx w1 => ?_
  refine hb _ _ _ _ _ _ _ (en.ext e1) w1 fun y vy B2 H2 e2 ry w2 => ?_
  cases x <;> cases y <;> first
    | exact False.elim w2
    | skip
  rename_i xs ys
  have rx := rx.ext e2 fun a m => .inl m
  obtain ⟨p, vs, rfl, hp, n1, n2, rl⟩ := rx.lst_inv
  obtain ⟨q, ws, rfl, hq, n3, n4, rm⟩ := ry.lst_inv
  refine ⟨p, q, vs, ws, rfl, .inl (.inl hp), .inl (.inl hq), post _ (Itz K p q) [(.ref p, .lst xs), (.ref q, .lst ys)] _ _ (e1.trans e2) (fun z hz => ?_) ⟨fun Bg M H i d bg md hr hi => ?_, fun Bg M H hr => ?_⟩ w2⟩
  · rcases List.mem_cons.mp hz with rfl | hz
    · exact rx
    · cases List.mem_singleton.mp hz
      exact ry
  · obtain ⟨p', vs', e, hp', _, _, rl'⟩ := (hr (.ref p, .lst xs) (by simp)).lst_inv
    cases e
    obtain ⟨q', ws', e, hq', _, _, rm'⟩ := (hr (.ref q, .lst ys) (by simp)).lst_inv
    cases e
    rw [List.getElem?_zipWith] at hi
    cases qx : xs[i]? with
    | none => rw [qx] at hi; cases hi
    | some x =>
      cases qy : ys[i]? with
      | none => rw [qx, qy] at hi; cases hi
      | some y =>
        rw [qx, qy] at hi
        cases hi
        obtain ⟨v, hv, rv⟩ := rl'.get qx
        obtain ⟨u, hu, ru⟩ := rm'.get qy
        refine ⟨⟨vs', ws', v, u, .inl (.inl hp'), .inl (.inl hq'), hv, hu⟩, fun x H' hy => ?_⟩
        obtain ⟨T, z, z2, rfl, hT, rfl, hz, hz2⟩ := hy
        have t1 := hz vs' (.inl (.inl hp'))
        rw [hv] at t1
        cases t1
        have t2 := hz2 ws' (.inl (.inl hq'))
        rw [hu] at t2
        cases t2
        have ex := Ext.lay (o := .tup [v, u]) bg hT
        obtain ⟨m1, m2⟩ := fresh_md bg md hT
        exact ⟨ex, .tup (.inl upd_same) m1 m2 (.cons (rv.ext ex fun a m => .inl m) (.cons (ru.ext ex fun a m => .inl m) .nil))⟩
  · obtain ⟨p', vs', e, hp', _, _, rl'⟩ := (hr (.ref p, .lst xs) (by simp)).lst_inv
    cases e
    obtain ⟨q', ws', e, hq', _, _, rm'⟩ := (hr (.ref q, .lst ys) (by simp)).lst_inv
    cases e
    refine ⟨vs', ws', .inl (.inl hp'), .inl (.inl hq'), ?_⟩
    rw [rl'.len, rm'.len, List.length_zipWith]
    omega
end
end OC

set_option Elab.async false
set_option linter.all false
set_option maxRecDepth 100000
set_option maxHeartbeats 4000000
/-! Onecut: targets, comprehensions. -/
namespace OC
open PySem PySem.Spec PyProof.Rows L2

theorem getV_eq : ∀ (G : List (Option D)) (i : Nat), getV G i = G[i]?.join
  | [], i => by simp [getV]
  | x :: xs, 0 => by simp [getV]
  | x :: xs, n + 1 => by simp [getV, getV_eq xs n]
theorem getV_some {G : List (Option D)} {i : Nat} {d : D} (h : getV G i = some d) : G[i]? = some (some d) := by
  rw [getV_eq] at h
  cases q : G[i]? with
  | none => rw [q] at h; cases h
  | some o =>
    rw [q] at h
    have h : o = some d := h
    rw [h]
theorem getV_of {G : List (Option D)} {i : Nat} {d : D} (h : G[i]? = some (some d)) : getV G i = some d := by
  rw [getV_eq, h]
  rfl
section
variable {K : PySem.W.Frag} {F : List DC} {Bg M : AP} {H : Hp} {σ : L2.St} {G : List (Option D)}
theorem EnvE.set {v : V} {d : D} (e : EnvE K Bg M H σ G) (r : Rep K Bg M H v d) (i : Nat) : EnvE K Bg M H (σ.set i (some v)) (G.set i (some d)) := by
  refine ⟨e.bags, e.md, by rw [List.length_set, List.length_set]; exact e.len, fun j d' h => ?_⟩
  have h := getV_some h
  by_cases q : i = j
  · subst q
    by_cases l : i < G.length
    · rw [List.getElem?_set_self l] at h
      cases h
      exact ⟨v, List.getElem?_set_self (by rw [e.len]; exact l), r⟩
    · rw [List.getElem?_eq_none (by rw [List.length_set]; omega)] at h
      cases h
  · rw [List.getElem?_set_ne q] at h
    obtain ⟨w, h1, h2⟩ := e.val j d' (getV_of h)
    exact ⟨w, by rw [List.getElem?_set_ne q]; exact h1, h2⟩
theorem wipe_get : ∀ (vs : List Nat) (σ : L2.St) (i : Nat), (wipe σ vs)[i]? = if i ∈ vs then (if i < σ.length then some none else none) else σ[i]?
  | [], σ, i => by simp [wipe]
  | v :: vs, σ, i => by
    unfold wipe
    by_cases q : v = i
    · subst q
      rw [if_pos (by simp)]
      by_cases l : v < σ.length
      · rw [if_pos l, List.getElem?_set_self (by rw [wipe_length]; exact l)]
      · rw [if_neg l, List.getElem?_eq_none (by rw [List.length_set, wipe_length]; omega)]
    · rw [List.getElem?_set_ne q, wipe_get vs σ i]
      by_cases m : i ∈ vs
      · rw [if_pos m, if_pos (List.mem_cons_of_mem _ m)]
      · rw [if_neg m, if_neg (by simp only [List.mem_cons, not_or]; exact ⟨fun z => q z.symm, m⟩)]
theorem wipe_same {vs : List Nat} {σ σ2 : L2.St} (hl : σ2.length = σ.length) (h : ∀ i, i ∉ vs → σ2[i]? = (wipe σ vs)[i]?) : wipe σ2 vs = wipe σ vs := by
  apply List.ext_getElem?
  intro i
  rw [wipe_get, wipe_get, hl]
  by_cases m : i ∈ vs
  · rw [if_pos m, if_pos m]
  · rw [if_neg m, if_neg m, h i m, wipe_get, if_neg m]
theorem wipeV_len : ∀ (vs : List Nat) (G : List (Option D)), (wipeV G vs).length = G.length
  | [], _ => rfl
  | v :: vs, G => by unfold wipeV; rw [List.length_set, wipeV_len vs G]
theorem wipeV_some : ∀ {vs : List Nat} {G : List (Option D)} {i : Nat} {d : D}, (wipeV G vs)[i]? = some (some d) → G[i]? = some (some d) ∧ i ∉ vs
  | [], _, _, _, h => ⟨h, by simp⟩
  | v :: vs, G, i, d, h => by
    unfold wipeV at h
    by_cases q : v = i
    · subst q
      by_cases l : v < (wipeV G vs).length
      · rw [List.getElem?_set_self l] at h; cases h
      · rw [List.getElem?_eq_none (by rw [List.length_set]; omega)] at h; cases h
    · rw [List.getElem?_set_ne q] at h
      obtain ⟨h1, h2⟩ := wipeV_some h
      exact ⟨h1, by simp only [List.mem_cons, not_or]; exact ⟨fun z => q z.symm, h2⟩⟩
theorem EnvE.wipe (e : EnvE K Bg M H σ G) (vs : List Nat) : EnvE K Bg M H (L2.wipe σ vs) (wipeV G vs) := by
  refine ⟨e.bags, e.md, by rw [wipe_length, wipeV_len]; exact e.len, fun i d h => ?_⟩
  obtain ⟨h1, h2⟩ := wipeV_some (getV_some h)
  obtain ⟨v, h3, h4⟩ := e.val i d (getV_of h1)
  exact ⟨v, by rw [wipe_get, if_neg h2]; exact h3, h4⟩

/-! ### targets -/
def tgSl : Tg → List Nat
  | .name i => [i]
  | .tup is => is
def TGok (K : PySem.W.Frag) (g : TG) (tg : Tg) : Prop := ∀ (Bg M : AP) (H : Hp) (σ : L2.St) (G G1 : List (Option D)) (x : V) (d : D) (Q : L2.St → Hp → Prop), EnvE K Bg M H σ G → Rep K Bg M H x d → bindV tg d G = some G1 →
  (∀ σ1, EnvE K Bg M H σ1 G1 → σ1.length = σ.length → (∀ i, i ∉ tgSl tg → σ1[i]? = σ[i]?) → Q σ1 H) → g x σ H Q
theorem ok_gname (i : Nat) : TGok K (gName i) (.name i) := fun Bg M H σ G G1 x d Q en r h post => by
  cases h
  exact post _ (en.set r i) List.length_set fun j hj => List.getElem?_set_ne (fun z => hj (by simp [tgSl, z]))
def gNames : List Nat → TGs
  | [] => gNil
  | i :: is => gCons (gName i) (gNames is)
theorem gNames_ok : ∀ (is : List Nat) {Bg M : AP} {H : Hp} {σ : L2.St} {G : List (Option D)} {vs : List V} {ds : List D} {Q : L2.St → Hp → Prop}, EnvE K Bg M H σ G → RepL K Bg M H vs ds → is.length = ds.length →
    (∀ σ1, EnvE K Bg M H σ1 (setAll G is ds) → σ1.length = σ.length → (∀ i, i ∉ is → σ1[i]? = σ[i]?) → Q σ1 H) → gNames is vs σ H Q
  | [], _, _, _, _, _, _, _, _, en, .nil, hl, post => ⟨rfl, post _ en rfl fun _ _ => rfl⟩
  | [], _, _, _, _, _, _, _, _, en, .cons _ _, hl, post => by cases hl
  | i :: is, _, _, _, _, _, _, _, _, en, .nil, hl, post => by cases hl
  | i :: is, _, _, _, _, _, _, _, _, en, .cons r t, hl, post => ⟨_, _, rfl, gNames_ok is (en.set r i) t (by simpa using hl) fun σ1 e l h =>
      post σ1 e (l.trans List.length_set) fun j hj => (h j (fun z => hj (List.mem_cons_of_mem _ z))).trans (List.getElem?_set_ne (fun z => hj (by simp [z])))⟩
theorem ok_gtup (is : List Nat) : TGok K (gTup K is.length (gNames is)) (.tup is) := fun Bg M H σ G G1 x d Q en r h post => by
  cases d with
  | tup ds =>
    simp only [bindV] at h
    split at h
    · rename_i hl
      cases h
      obtain ⟨a, vs, rfl, hs, rl⟩ := r.tup_inv
      exact ⟨a, vs, rfl, hs, by rw [rl.len]; exact hl.symm, gNames_ok is en rl hl post⟩
    · cases h
  | _ => cases h
def gOf (K : PySem.W.Frag) : Tg → TG
  | .name i => gName i
  | .tup is => gTup K is.length (gNames is)
theorem ok_g (tg : Tg) : TGok K (gOf K tg) tg := by
  cases tg with
  | name i => exact ok_gname i
  | tup is => exact ok_gtup is

/-! ### comprehensions -/
def TFok (K : PySem.W.Frag) (F : List DC) (t : TT) (ifs : List E) : Prop := ∀ (Bg M : AP) (H : Hp) (σ : L2.St) (G : List (Option D)) (A B : Prop) (Q : Bool → Hp → Prop), EnvE K Bg M H σ G → wpIf F ifs G A B →
  (∀ Bg' H', Ext Bg H Bg' H' → A → Q true H') → (∀ Bg' H', Ext Bg H Bg' H' → B → Q false H') → t σ H Q
theorem ok_f0 : TFok K F tYes [] := fun Bg M H σ G A B Q en w pa pb => by
  simp only [wpIf] at w
  exact pa _ _ (Ext.refl en.bags) w
theorem ok_f1 {t : TT} {a : E} {r : List E} (h : TTok K F t a) : TFok K F t (a :: r) := fun Bg M H σ G A B Q en w pa pb => by
  simp only [wpIf] at w
  refine h _ _ _ _ _ _ _ en w fun q B1 H1 e1 w1 => ?_
  cases q with
  | true => exact pa _ _ e1 (by simpa using w1)
  | false => exact pb _ _ e1 (by simpa using w1)
theorem Ext.write {Bg' : AP} {H' : Hp} {p : Addr} {o : HO} (e : Ext Bg H Bg' H') (h : H p = none) (n : ¬ Bg' p) : Ext Bg H Bg' (L2.upd H' p o) :=
  ⟨e.sub, e.new, fun a u na ha => by rw [upd_ne (ne_of_none ha h)]; exact e.keep a u na ha, fun a ha => by
    obtain ⟨L, M', h1, h2⟩ := e.bags a ha
    exact ⟨L, M', by rw [upd_ne (fun z => n (by rw [← z]; exact ha))]; exact h1, h2⟩⟩
theorem ok_lc {wi : TI} {tt : TT} {te : TE} {elt : E} {tg : Tg} {k : IK} {its ifs : List E} {own : List (Str × Nat)} (hi : TIok K F wi k its) (hf : TFok K F tt ifs) (he : TEok K F te elt) (htg : ∀ i ∈ tgSl tg, i ∈ own.map (·.2)) :
    TEok K F (tLc wi (gOf K tg) tt te (own.map (·.2))) (.lc elt tg k its ifs own) := fun Bg M H σ G Qd Q en w post => by
  simp only [wpE] at w
  generalize hvs : own.map (·.2) = vs at *
  refine hi _ _ _ _ _ _ _ en w fun xs J gs B1 H1 e1 hg W w1 => ?_
  intro Dl hD
  obtain ⟨hxl, w1⟩ := w1
  have en1 := en.ext e1
  obtain ⟨nB1, nM⟩ := fresh_md e1.bags en1.md hD
  generalize hfd : (fun (d : D) (kk : Option D → Prop) => match bindV tg d (wipeV G vs) with
        | some G1 => wpIf F ifs G1 (wpE F elt G1 fun y => kk (some y)) (kk none)
        | none => False) = f at w1
  let N : Nat → Hp → Prop := fun i H' => ∃ (B : AP) (av : List V) (ad : List D), Ext B1 H1 B H' ∧ H' Dl = some (.lst av) ∧ ¬ B Dl ∧ RepL K B (fun q => M q ∨ q = Dl) H' av ad ∧ ad.length ≤ i ∧ wpMap f (xs.drop i) ad (fun ys => Qd (.lst ys))
  refine ⟨fun i m H' => m = xs.length - i ∧ i ≤ xs.length ∧ N i H', ⟨xs.length, by simp, Nat.zero_le _, B1, [], [], Ext.lay e1.bags hD, upd_same, nB1, .nil, Nat.le_refl _, by simpa using w1⟩, ?_⟩
  rintro i m H2 ⟨rfl, hil, B, av, ad, ex, hDv, nD, rl, hal, wm⟩
  have md2 : ∀ q, (M q ∨ q = Dl) → H2 q ≠ none ∧ ¬ B q := fun q hq => by
    rcases hq with hq | rfl
    · exact md_ext en1.md ex q hq
    · exact ⟨(by rw [hDv]; exact fun z => (by cases z)), nD⟩
  have hm2 : ∀ q, (M q ∨ q = Dl) → M q ∨ H1 q = none := fun q hq => by
    rcases hq with hq | rfl
    · exact .inl hq
    · exact .inr hD
  have en2 : EnvE K B (fun q => M q ∨ q = Dl) H2 σ G := ⟨ex.bags, md2, en1.len, fun j d hj => by
    obtain ⟨v, h1, h2⟩ := en1.val j d hj
    exact ⟨v, h1, h2.ext ex hm2⟩⟩
  by_cases hlt : i < xs.length
  · right
    obtain ⟨d, hd⟩ : ∃ d, xs[i]? = some d := ⟨xs[i], by simp [hlt]⟩
    have hdrop : xs.drop i = d :: xs.drop (i + 1) := by
      rw [List.drop_eq_getElem_cons hlt]
      congr 1
      rw [List.getElem?_eq_getElem hlt] at hd
      exact Option.some.inj hd
    rw [hdrop] at wm
    simp only [wpMap] at wm
    obtain ⟨hgo, hy⟩ := W.step B (fun q => M q ∨ q = Dl) H2 i d ex.bags md2 (fun p hp => (hg p hp).ext ex hm2) hd
    refine ⟨hgo, N (i + 1), fun H' hn => ⟨xs.length - (i + 1), by omega, rfl, hlt, hn⟩, fun x H3 hyl => ?_⟩
    obtain ⟨e3, rx⟩ := hy x H3 hyl
    rw [← hfd] at wm
    simp only at wm
    cases hb : bindV tg d (wipeV G vs) with
    | none => rw [hb] at wm; exact wm.elim
    | some G1 =>
      rw [hb] at wm
      simp only at wm
      refine ok_g (K := K) tg B (fun q => M q ∨ q = Dl) H3 _ _ G1 x d _ ((en2.ext e3).wipe vs) rx hb fun σ1 en3 hl1 hσ => ?_
      refine ⟨wipe_same (hl1.trans (wipe_length _ _)) fun j hj => hσ j (fun z => hj (htg j z)), ?_⟩
      have hD3 : H3 Dl = some (.lst av) := e3.keep _ _ nD hDv
      refine hf _ _ _ _ _ _ _ _ en3 wm (fun B4 H4 e4 w4 => ?_) (fun B4 H4 e4 w4 => ?_)
      · rw [if_pos rfl]
        refine he _ _ _ _ _ _ _ (en3.ext e4) w4 fun y vy B5 H5 e5 ry w5 => ?_
        have n4 : ¬ B4 Dl := e4.nb hD3 nD
        have hD4 := e4.keep _ _ nD hD3
        have n5 : ¬ B5 Dl := e5.nb hD4 n4
        have hD5 := e5.keep _ _ n4 hD4
        have eall : Ext B H2 B5 H5 := (e3.trans e4).trans e5
        refine ⟨av, hD5, ?_, B5, av ++ [vy], ad ++ [y], (ex.trans eall).write hD n5, upd_same, n5, RepL.upd (.inr rfl) ((rl.ext eall fun q hq => .inl hq).append (.cons ry .nil)), ?_, ?_⟩
        · rw [rl.len]
          exact Nat.lt_of_le_of_lt (Nat.le_trans hal (Nat.le_trans (Nat.le_of_lt hlt) hxl)) (by decide)
        · rw [List.length_append, List.length_singleton]
          omega
        · rw [← hfd]
          exact w5
      · rw [if_neg Bool.false_ne_true]
        have n4 : ¬ B4 Dl := e4.nb hD3 nD
        have eall : Ext B H2 B4 H4 := e3.trans e4
        refine ⟨B4, av, ad, ex.trans eall, e4.keep _ _ nD hD3, n4, rl.ext eall fun q hq => .inl hq, by omega, ?_⟩
        rw [← hfd]
        exact w4
  · left
    have e : i = xs.length := by omega
    subst e
    rw [List.drop_length] at wm
    simp only [wpMap] at wm
    refine ⟨W.stop B (fun q => M q ∨ q = Dl) H2 (fun p hp => (hg p hp).ext ex hm2), ?_⟩
    exact post _ _ _ _ (e1.trans ex) (.lst hDv nD nM (rl.less ex.bags fun q hq => .inl hq)) wm
end
end OC

set_option Elab.async false
set_option linter.all false
set_option maxRecDepth 100000
set_option maxHeartbeats 4000000
/-! Onecut: an expression of the text that the look takes runs as the small language says. -/
namespace OC
open PySem PySem.Spec PyProof.Rows L2

structure Gd (P : Program) (w : World) (K : PySem.W.Frag) (mg : Str → Option Value) (base : Heap) (C : Ck) (sc : Scope) (k : Nat) (X : Cx) : Prop where
  eP : X.prog = P
  eW : X.w = w
  eK : X.K = K
  eM : X.mg = mg
  eB : X.base = base
  eN : X.N = C.N
  nd : C.N.Nodup
  esc : X.env.scope = sc
  calm : X.calm = true
  room : Room k X.A
  gd : X.A.guards = some []
structure Wr (P : Program) (w : World) (K : PySem.W.Frag) (mg : Str → Option Value) (base : Heap) (C : Ck) (F : List DC) (k : Nat) : Prop where
  fs : ∀ (f : Nat) (x : Str), C.fs[f]? = some x → ∃ c, F[f]? = some c ∧ FOK P w K mg base k x c
  bs : ∀ x, x ∈ C.bs → mg x = none

section
variable {P : Program} {w : World} {K : PySem.W.Frag} {mg : Str → Option Value} {base : Heap} {C : Ck} {F : List DC} {k : Nat}
theorem Gd.gl {sc : Scope} {X : Cx} (g : Gd P w K mg base C sc k X) {x : Str} (h : glb sc x = true) : Gl X x := by
  unfold Gl
  show X.env.scope.names.lookup x = _
  rw [g.esc]
  exact glb_ok h
theorem Gd.blk {sc scope : Scope} {X : Cx} (g : Gd P w K mg base C sc k X) (s : Shared) (H : Hp) (Ca : Addr) (cl : List (Str × Addr)) (fp : List Addr) : Gd P w K mg base C (relS scope sc) k (X.blk s H scope (compEnvC scope cl Ca X.env) fp) :=
  ⟨g.eP, g.eW, g.eK, g.eM, g.eB, g.eN, g.nd, by rw [← g.esc]; rfl, g.calm, g.room, g.gd⟩
theorem blt_ok {sc : Scope} {x : Str} {nm : String} (h : blt C sc x nm = true) : x = (nm : Str) ∧ glb sc x = true ∧ x ∈ C.bs := by
  unfold blt at h
  simp only [Bool.and_eq_true, decide_eq_true_eq] at h
  exact ⟨h.1.1, h.1.2, by simpa using h.2⟩
theorem pe_biAll {X : Cx} {f : Bi} {e : Expr} {es : List Expr} {t : TA} {p pos : Pos} (hc : X.calm = true) (hgd : X.A.guards = some []) (hu : X.A.units + 64 < cLine) (hg : Gl X (biNm f : Str)) (hm : X.mg (biNm f : Str) = none) (ha : PA X (e :: es) t)
    (he : starEach (e :: es) X.env = (false, eval e X.env) :: starEach es X.env) (hpl : (backTo pos (starEach es X.env)).any (·.1) = false) : PE X (.Call (.Name (biNm f : Str) p) (e :: es) [] pos) (tCB (rBi X.K f) t) := by
  cases f with
  | len => exact pe_callB call_len hg hm (by decide +kernel) ha (by decide) (by decide) he hpl
  | abs => exact pe_callB call_abs hg hm (by decide +kernel) ha (by decide) (by decide) he hpl
  | max => exact pe_callB (r := rBi X.K .max) (fun pins s σ H xs us Q I r h => h.elim (call_max2 hc pins s σ H xs us Q I r) (call_max3Nu hc pins s σ H xs us Q I r)) hg hm (by decide +kernel) ha (by decide) (by decide) he hpl
  | min => exact pe_callB (call_min2 hc) hg hm (by decide +kernel) ha (by decide) (by decide) he hpl
  | sum => exact pe_callB (cr_sum hc) hg hm (by decide +kernel) ha (by decide) (by decide) he hpl
  | all => exact pe_callB (cr_all hc) hg hm (by decide +kernel) ha (by decide) (by decide) he hpl
  | any => exact pe_callB (cr_any hc) hg hm (by decide +kernel) ha (by decide) (by decide) he hpl
  | repr => exact pe_callB (call_reprD hgd hu) hg hm (by decide +kernel) ha (by decide) (by decide) he hpl
  | divmod => exact pe_callB call_divmodW hg hm (by decide +kernel) ha (by decide) (by decide) he hpl
  | int => exact pe_callTy call_int1 hg hm (by decide +kernel) ha (by decide) (by decide) he hpl
  | sorted => exact pe_callB (id := "sorted") (fun _ _ _ _ _ _ _ _ _ h => False.elim h) hg hm (by decide +kernel) ha (by decide) (by decide) he hpl
  | tuple => exact pe_callTy (T := "tuple") (fun _ _ _ _ _ _ _ _ _ h => False.elim h) hg hm (by decide +kernel) ha (by decide) (by decide) he hpl
  | list => exact pe_callTy (T := "list") (fun _ _ _ _ _ _ _ _ _ h => False.elim h) hg hm (by decide +kernel) ha (by decide) (by decide) he hpl
theorem boot_ty (t : Ty) : bootBuiltins (tyNm t : Str) = some (.type (tyNm t)) := by cases t <;> decide +kernel
theorem pg_of {X : Cx} {sc : Scope} {fo : Str → Bool} (hN : X.N = C.N) (nd : C.N.Nodup) (hc : X.calm = true) (hs : X.env.scope = sc) (hf : ∀ x, fo x = true → X.fn x = true) : ∀ {tg : Tg} {e : Expr}, chkTg C.N sc fo tg e = true → PG X e (gOf X.K tg) := by
  have one : ∀ {i : Nat} {e : Expr}, (match asName e with
    | some x => decide (C.N[i]? = some x) && (isLoc sc x || (isCell sc x && fo x))
    | none => false) = true → (∃ x p, e = .Name x p) ∧ PG X e (gName i) := fun {i e} h => by
    cases q : asName e with
    | none => rw [q] at h; cases h
    | some x =>
      rw [q] at h
      obtain ⟨p, rfl⟩ := asName_ok q
      simp only [Bool.and_eq_true, Bool.or_eq_true, decide_eq_true_eq] at h
      refine ⟨⟨x, p, rfl⟩, ?_⟩
      rcases h.2 with z | z
      · have z := isLoc_ok z
        rw [← hs] at z
        exact pg_name (by rw [hN]; exact nd) (by rw [hN]; exact h.1) (.inl z) (.inr z)
      · have z1 := isCell_ok z.1
        rw [← hs] at z1
        exact pg_name (by rw [hN]; exact nd) (by rw [hN]; exact h.1) (.inr z1) (.inl (hf x z.2))
  have many : ∀ {is : List Nat} {es : List Expr}, chkTg.go C.N sc fo is es = true → PGs X es (gNames is) ∧ (assignEach es X.env).length = is.length ∧ (assignEach es X.env).findIdx? (·.1) = none := fun {is} => by
    induction is with
    | nil =>
      intro es h
      cases es with
      | nil => exact ⟨pgs_nil, rfl, rfl⟩
      | cons _ _ => cases h
    | cons i is ih =>
      intro es h
      cases es with
      | nil => cases h
      | cons e es =>
        simp only [chkTg.go, Bool.and_eq_true] at h
        obtain ⟨⟨x, p, rfl⟩, h1⟩ := one h.1
        obtain ⟨h2, h3, h4⟩ := ih h.2
        refine ⟨pgs_cons h1 h2, ?_, ?_⟩
        · show (assignEach es X.env).length + 1 = is.length + 1
          rw [h3]
        · show ((false, assign (.Name x p) X.env) :: assignEach es X.env).findIdx? (·.1) = none
          rw [List.findIdx?_cons, h4]
          rfl
  intro tg e h
  cases tg with
  | name i => exact (one h).2
  | tup is =>
    simp only [chkTg] at h
    cases q : asTup e with
    | none => rw [q] at h; cases h
    | some es =>
      rw [q] at h
      obtain ⟨j, p, rfl⟩ := asTup_ok q
      obtain ⟨h1, h2, h3⟩ := many h
      exact pg_tup hc h1 h2 h3
end
end OC

set_option Elab.async false
set_option linter.all false
set_option maxRecDepth 100000
set_option maxHeartbeats 4000000
namespace OC
open PySem PySem.Spec PyProof.Rows L2
section
variable (P : Program) (w : World) (K : PySem.W.Frag) (mg : Str → Option Value) (base : Heap) (C : Ck) (F : List DC) (k : Nat)
def SE (sc : Scope) (e : Expr) (ir : E) : Prop := ∃ t, (∀ X, Gd P w K mg base C sc k X → PE X e t) ∧ TEok K F t ir
def ST (sc : Scope) (e : Expr) (ir : E) : Prop := ∃ t, (∀ X, Gd P w K mg base C sc k X → PT X e t ∧ (∀ o l p, e = .BoolOp o l p → PW X e t)) ∧ TTok K F t ir
def SA (sc : Scope) (es : List Expr) (irs : List E) : Prop := ∃ t, (∀ X, Gd P w K mg base C sc k X → PA X es t) ∧ TAok K F t irs ∧ nstL es = true ∧ es.length = irs.length
def SI (sc : Scope) (it tg : Expr) (ik : IK) (irs : List E) : Prop := ∃ t, (∀ X, Gd P w K mg base C sc k X → PI X tg it t) ∧ TIok K F t ik irs
def SF (sc : Scope) (fs : List Expr) (irs : List E) : Prop := ∃ t, (∀ X, Gd P w K mg base C sc k X → PTs X fs t) ∧ TFok K F t irs
def SO (sc : Scope) (e : Option Expr) (irs : List E) : Prop := ∃ t, (∀ X, Gd P w K mg base C sc k X → PO X e t) ∧ TOok K F t irs
end
section
variable {P : Program} {w : World} {K : PySem.W.Frag} {mg : Str → Option Value} {base : Heap} {C : Ck} {F : List DC} {k : Nat} {sc : Scope}
theorem st_leaf {e : Expr} {ir : E} (hl : leaf e = true) (h : SE P w K mg base C F k sc e ir) : ST P w K mg base C F k sc e ir := by
  obtain ⟨t, h1, h2⟩ := h
  refine ⟨_, fun X g => ⟨pt_val (h1 X g) ?_, fun o l p he => by subst he; cases hl⟩, ok_test h2⟩
  cases e <;> first
    | (cases hl; done)
    | (intro _; rfl)
theorem both_leaf {e : Expr} {ir : E} {body : Bool} (hq : ∀ tt, chkE C sc tt ir e = ((!tt || leaf e) && body)) (h : body = true → SE P w K mg base C F k sc e ir) :
    (chkE C sc false ir e = true → SE P w K mg base C F k sc e ir) ∧ (chkE C sc true ir e = true → ST P w K mg base C F k sc e ir) := by
  refine ⟨fun z => ?_, fun z => ?_⟩
  · rw [hq] at z
    exact h (by simpa using z)
  · rw [hq] at z
    simp only [Bool.not_true, Bool.false_or, Bool.and_eq_true] at z
    exact st_leaf z.1 (h z.2)
theorem se_k {d : D} {e : Expr} (h : (match asConst e with
    | some c => (match constD c with | some d' => sameK d d' | none => false)
    | none => false) = true) : SE P w K mg base C F k sc e (.k d) := by
  split at h
  · rename_i c hc
    obtain ⟨j, p, rfl⟩ := asConst_ok hc
    split at h
    · rename_i d' hd
      obtain rfl := sameK_ok h
      cases c <;> simp only [constD] at hd <;> first
        | (cases hd; done)
        | skip
      · cases hd
        exact ⟨_, fun X g => pe_non, fun Bg M H σ G Qd Q en w post => by simp only [wpE] at w; exact post_here en.bags post .non w⟩
      · cases hd
        exact ⟨_, fun X g => pe_bl, fun Bg M H σ G Qd Q en w post => by simp only [wpE] at w; exact post_here en.bags post (.bl _) w⟩
      · cases hd
        exact ⟨_, fun X g => pe_int, fun Bg M H σ G Qd Q en w post => by simp only [wpE] at w; exact post_here en.bags post (.int _) w⟩
      · cases hd
        exact ⟨_, fun X g => pe_str, fun Bg M H σ G Qd Q en w post => by simp only [wpE] at w; exact post_here en.bags post (.str _) w⟩
    · cases h
  · cases h
theorem pc_mark {op : CmpOp} {y : Expr} (h : isSet y = false) : behindInMarks op y = false := by
  cases y <;> first | rfl | cases h
theorem plain_ix {y : Expr} (h : isSlc y = false) : PlainIx y := by
  intro o i
  cases y <;> first | rfl | cases h
theorem fold_ok {it : Expr} {env : Env} (h : isSet it = false) : ∀ x, foldedSetIterable it env x = pure x := by
  intro x
  cases it <;> first | rfl | cases h
theorem tg_in {own : List Nat} {tg : Tg} (h : tgIn own tg = true) : ∀ i ∈ tgSl tg, i ∈ own := by
  intro i hi
  cases tg with
  | name j =>
    cases List.mem_singleton.mp hi
    simpa [tgIn] using h
  | tup is =>
    simp only [tgIn, List.all_eq_true] at h
    simpa using h i hi
theorem hu64 {X : Cx} (g : Gd P w K mg base C sc k X) : X.A.units + 64 < cLine := g.room.units
end
section
variable {P : Program} {w : World} {K : PySem.W.Frag} {mg : Str → Option Value} {base : Heap} {C : Ck} {F : List DC} {k : Nat}
mutual
theorem sE (W : Wr P w K mg base C F k) : ∀ (ir : E) (sc : Scope) (e : Expr), (chkE C sc false ir e = true → SE P w K mg base C F k sc e ir) ∧ (chkE C sc true ir e = true → ST P w K mg base C F k sc e ir)
  | .var i, sc, e => both_leaf (fun tt => by rw [chkE]) fun h => by
    split at h
    · rename_i x hx
      obtain ⟨p, rfl⟩ := asName_ok hx
      simp only [Bool.and_eq_true, decide_eq_true_eq, Bool.not_eq_true'] at h
      exact ⟨_, fun X g => pe_var (by rw [g.eN]; exact h.1.1.1) (by rw [g.esc]; exact vis_ok h.1.1.2) h.1.2 h.2, ok_var⟩
    · cases h
  | .k d, sc, e => both_leaf (fun tt => by first | (rw [chkE]; done) | (rw [chkE]; rfl)) se_k
  | .bin o a b, sc, e => both_leaf (fun tt => by rw [chkE]) fun h => by
    split at h
    · rename_i x p y hx
      obtain ⟨ps, rfl⟩ := asBin_ok hx
      simp only [Bool.and_eq_true] at h
      obtain rfl := op_of h.1.1
      obtain ⟨ta, h1, h2⟩ := (sE W a sc x).1 h.1.2
      obtain ⟨tb, h3, h4⟩ := (sE W b sc y).1 h.2
      exact ⟨_, fun X g => pe_op (opr_of X o) (h1 X g) (h3 X g), ok_bin h2 h4 (rok_of o)⟩
    · cases h
  | .neg a, sc, e => both_leaf (fun tt => by rw [chkE]) fun h => by
    split at h
    · rename_i x hx
      obtain ⟨ps, rfl⟩ := asUn_ok hx
      obtain ⟨ta, h1, h2⟩ := (sE W a sc x).1 h
      exact ⟨_, fun X g => pe_un un_neg (h1 X g), ok_neg h2⟩
    · cases h
  | .cmp o a b, sc, e => by
    have all : ∀ tt, chkE C sc tt (.cmp o a b) e = true → SE P w K mg base C F k sc e (.cmp o a b) ∧ ST P w K mg base C F k sc e (.cmp o a b) := fun tt h => by
      rw [chkE] at h
      split at h
      · rename_i x p y hx
        obtain ⟨ps, rfl⟩ := asCmp_ok hx
        simp only [Bool.and_eq_true, Bool.not_eq_true'] at h
        obtain rfl := cmp_of h.1.1.1
        obtain ⟨ta, h1, h2⟩ := (sE W a sc x).1 h.1.2
        obtain ⟨tb, h3, h4⟩ := (sE W b sc y).1 h.2
        have hm := pc_mark (op := coOf o) h.1.1.2
        have hk := ok_cmp h2 h4 (roc_of (K := K) o)
        refine ⟨⟨_, fun X g => ?_, hk⟩, ⟨_, fun X g => ⟨?_, fun o l p he => by cases he⟩, ok_testR hk⟩⟩
        · have := opc_of X (hu64 g) o
          rw [g.eK] at this
          exact pe_cmpR this (h1 X g) (h3 X g) hm
        · have := opc_of X (hu64 g) o
          rw [g.eK] at this
          exact pt_cmpR this (h1 X g) (h3 X g) hm
      · cases h
    exact ⟨fun h => (all _ h).1, fun h => (all _ h).2⟩
  | .chain o p a b c, sc, e => by
    have all : ∀ tt, chkE C sc tt (.chain o p a b c) e = true → SE P w K mg base C F k sc e (.chain o p a b c) ∧ ST P w K mg base C F k sc e (.chain o p a b c) := fun tt h => by
      rw [chkE] at h
      split at h
      · rename_i x q r y z hx
        obtain ⟨ps, rfl⟩ := asCmp_ok hx
        simp only [Bool.and_eq_true, Bool.not_eq_true'] at h
        obtain ⟨⟨⟨⟨⟨hq, hr⟩, hs⟩, ha⟩, hb⟩, hc⟩ := h
        obtain rfl := cmp_of hq
        obtain rfl := cmp_of hr
        obtain ⟨ta, h1, h2⟩ := (sE W a sc x).1 ha
        obtain ⟨tb, h3, h4⟩ := (sE W b sc y).1 hb
        obtain ⟨tc, h5, h6⟩ := (sE W c sc z).1 hc
        have hm := pc_mark (op := coOf p) hs
        have hk := ok_chain h2 h4 h6 (roc_of (K := K) o) (roc_of (K := K) p)
        refine ⟨⟨_, fun X g => ?_, hk⟩, ⟨_, fun X g => ⟨?_, fun o l p he => by cases he⟩, ok_testR hk⟩⟩
        · have t1 := opc_of X (hu64 g) o
          have t2 := opc_of X (hu64 g) p
          rw [g.eK] at t1 t2
          exact pe_chain t1 t2 (h1 X g) (h3 X g) (h5 X g) hm
        · have t1 := opc_of X (hu64 g) o
          have t2 := opc_of X (hu64 g) p
          rw [g.eK] at t1 t2
          exact pt_chain t1 t2 (h1 X g) (h3 X g) (h5 X g) hm
      · cases h
    exact ⟨fun h => (all _ h).1, fun h => (all _ h).2⟩
  | .andv a b, sc, e => by
    refine ⟨fun h => ?_, fun h => ?_⟩
    · rw [chkE] at h
      split at h
      · rename_i x y ps hx
        obtain rfl := asBool_ok hx
        simp only [Bool.and_eq_true] at h
        obtain ⟨ta, h1, h2⟩ := (sE W a sc x).1 h.1
        obtain ⟨tb, h3, h4⟩ := (sE W b sc y).1 h.2
        exact ⟨_, fun X g => pe_and (h1 X g) (pe_one (h3 X g)), ok_andv h2 h4⟩
      · rename_i x y z r ps hx
        obtain rfl := asBool_ok hx
        simp only [Bool.and_eq_true] at h
        obtain ⟨ta, h1, h2⟩ := (sE W a sc x).1 h.1
        obtain ⟨tb, h3, h4⟩ := (sE W b sc _).1 h.2
        exact ⟨_, fun X g => pe_and (h1 X g) (h3 X g), ok_andv h2 h4⟩
      · cases h
    · rw [chkE] at h
      split at h
      · rename_i x y ps hx
        obtain rfl := asBool_ok hx
        simp only [Bool.and_eq_true] at h
        obtain ⟨ta, h1, h2⟩ := (sE W a sc x).2 h.1
        obtain ⟨tb, h3, h4⟩ := (sE W b sc y).2 h.2
        have all : ∀ X, Gd P w K mg base C sc k X → PW X (.BoolOp .And [x, y] ps) (tAnd ta tb) := fun X g => pw_and (h1 X g).1 (pw_and1 (h3 X g).1)
        exact ⟨_, fun X g => ⟨(all X g).pt, fun _ _ _ _ => all X g⟩, ok_tand h2 h4⟩
      · rename_i x y z r ps hx
        obtain rfl := asBool_ok hx
        simp only [Bool.and_eq_true] at h
        obtain ⟨ta, h1, h2⟩ := (sE W a sc x).2 h.1
        obtain ⟨tb, h3, h4⟩ := (sE W b sc _).2 h.2
        have all : ∀ X, Gd P w K mg base C sc k X → PW X (.BoolOp .And (x :: y :: z :: r) ps) (tAnd ta tb) := fun X g => pw_and (h1 X g).1 ((h3 X g).2 _ _ _ rfl)
        exact ⟨_, fun X g => ⟨(all X g).pt, fun _ _ _ _ => all X g⟩, ok_tand h2 h4⟩
      · cases h
  | .orv a b, sc, e => by
    refine ⟨fun h => ?_, fun h => ?_⟩
    · rw [chkE] at h
      split at h
      · rename_i x y ps hx
        obtain rfl := asBool_ok hx
        simp only [Bool.and_eq_true] at h
        obtain ⟨ta, h1, h2⟩ := (sE W a sc x).1 h.1
        obtain ⟨tb, h3, h4⟩ := (sE W b sc y).1 h.2
        exact ⟨_, fun X g => pe_or (h1 X g) (pe_one (h3 X g)), ok_orv h2 h4⟩
      · rename_i x y z r ps hx
        obtain rfl := asBool_ok hx
        simp only [Bool.and_eq_true] at h
        obtain ⟨ta, h1, h2⟩ := (sE W a sc x).1 h.1
        obtain ⟨tb, h3, h4⟩ := (sE W b sc _).1 h.2
        exact ⟨_, fun X g => pe_or (h1 X g) (h3 X g), ok_orv h2 h4⟩
      · cases h
    · rw [chkE] at h
      split at h
      · rename_i x y ps hx
        obtain rfl := asBool_ok hx
        simp only [Bool.and_eq_true] at h
        obtain ⟨ta, h1, h2⟩ := (sE W a sc x).2 h.1
        obtain ⟨tb, h3, h4⟩ := (sE W b sc y).2 h.2
        have all : ∀ X, Gd P w K mg base C sc k X → PW X (.BoolOp .Or [x, y] ps) (tOr ta tb) := fun X g => pw_or (h1 X g).1 (pw_or1 (h3 X g).1)
        exact ⟨_, fun X g => ⟨(all X g).pt, fun _ _ _ _ => all X g⟩, ok_tor h2 h4⟩
      · rename_i x y z r ps hx
        obtain rfl := asBool_ok hx
        simp only [Bool.and_eq_true] at h
        obtain ⟨ta, h1, h2⟩ := (sE W a sc x).2 h.1
        obtain ⟨tb, h3, h4⟩ := (sE W b sc _).2 h.2
        have all : ∀ X, Gd P w K mg base C sc k X → PW X (.BoolOp .Or (x :: y :: z :: r) ps) (tOr ta tb) := fun X g => pw_or (h1 X g).1 ((h3 X g).2 _ _ _ rfl)
        exact ⟨_, fun X g => ⟨(all X g).pt, fun _ _ _ _ => all X g⟩, ok_tor h2 h4⟩
      · cases h
  | .notv a, sc, e => by
    refine ⟨fun h => ?_, fun h => ?_⟩
    · rw [chkE] at h
      split at h
      · rename_i x hx
        obtain ⟨ps, rfl⟩ := asUn_ok hx
        obtain ⟨ta, h1, h2⟩ := (sE W a sc x).1 h
        exact ⟨_, fun X g => pe_not (h1 X g), ok_notv h2⟩
      · cases h
    · rw [chkE] at h
      split at h
      · rename_i x hx
        obtain ⟨ps, rfl⟩ := asUn_ok hx
        obtain ⟨ta, h1, h2⟩ := (sE W a sc x).2 h
        exact ⟨_, fun X g => ⟨pt_not (h1 X g).1, fun o l p he => by cases he⟩, ok_tnot h2⟩
      · cases h
  | .ite t a b, sc, e => both_leaf (fun tt => by rw [chkE]) fun h => by
    split at h
    · rename_i z x y hx
      obtain ⟨ps, rfl⟩ := asIf_ok hx
      simp only [Bool.and_eq_true] at h
      obtain ⟨tt, h5, h6⟩ := (sE W t sc z).2 h.1.1
      obtain ⟨ta, h1, h2⟩ := (sE W a sc x).1 h.1.2
      obtain ⟨tb, h3, h4⟩ := (sE W b sc y).1 h.2
      exact ⟨_, fun X g => pe_ifExp (h5 X g).1 (h1 X g) (h3 X g), ok_ite h6 h2 h4⟩
    · cases h
  | .tup as, sc, e => both_leaf (fun tt => by rw [chkE]) fun h => by
    split at h
    · rename_i es hx
      obtain ⟨j, ps, rfl⟩ := asTup_ok hx
      simp only [Bool.and_eq_true, decide_eq_true_eq] at h
      obtain ⟨t, h1, h2, h3, h4⟩ := sEs W as sc es h.2
      exact ⟨_, fun X g => pe_tup (h1 X g), ok_tup h2 (by rw [← h4]; exact h.1)⟩
    · cases h
  | .lst as, sc, e => both_leaf (fun tt => by rw [chkE]) fun h => by
    split at h
    · rename_i es hx
      obtain ⟨ps, rfl⟩ := asLst_ok hx
      simp only [Bool.and_eq_true, decide_eq_true_eq] at h
      obtain ⟨t, h1, h2, h3, h4⟩ := sEs W as sc es h.2
      exact ⟨_, fun X g => pe_lst (h1 X g), ok_lst h2 (by rw [← h4]; exact h.1)⟩
    · cases h
  | .mkbag a b, sc, e => both_leaf (fun tt => by rw [chkE]) fun h => by
    split at h
    · rename_i x y hx
      obtain ⟨ps, rfl⟩ := asLst_ok hx
      simp only [Bool.and_eq_true] at h
      obtain ⟨⟨⟨n1, n2⟩, ha⟩, hb⟩ := h
      obtain ⟨ta, h1, h2⟩ := (sE W a sc x).1 ha
      obtain ⟨tb, h3, h4⟩ := (sE W b sc y).1 hb
      exact ⟨_, fun X g => pe_lst (pa_cons (h1 X g) (pa_cons (h3 X g) pa_nil (star_cons n2)) (star_cons n1)), ok_mkbag h2 h4⟩
    · cases h
  | .ixn a n, sc, e => both_leaf (fun tt => by rw [chkE]) fun h => by
    split at h
    · rename_i x y hx
      obtain ⟨ps, rfl⟩ := asSub_ok hx
      simp only [Bool.and_eq_true] at h
      obtain ⟨hn, ha⟩ := h
      split at hn
      · rename_i i hi
        obtain ⟨j, p, rfl⟩ := asConst_ok hi
        have e : i = (n : Int) := by simpa using hn
        subst e
        obtain ⟨ta, h1, h2⟩ := (sE W a sc x).1 ha
        refine ⟨_, fun X g => ?_, ok_ixn h2⟩
        have := ix_seq (X := X)
        rw [g.eK] at this
        exact pe_ix this (h1 X g) pe_int (plain_ix rfl)
      · cases hn
    · cases h
  | .ix a b, sc, e => both_leaf (fun tt => by rw [chkE]) fun h => by
    split at h
    · rename_i x y hx
      obtain ⟨ps, rfl⟩ := asSub_ok hx
      simp only [Bool.and_eq_true, Bool.not_eq_true'] at h
      obtain ⟨ta, h1, h2⟩ := (sE W a sc x).1 h.1.2
      obtain ⟨tb, h3, h4⟩ := (sE W b sc y).1 h.2
      refine ⟨_, fun X g => ?_, ok_ix h2 h4 rok_ix⟩
      have := ix_seq (X := X)
      rw [g.eK] at this
      exact pe_ix this (h1 X g) (h3 X g) (plain_ix h.1.1)
    · cases h
  | .slc a lo hi, sc, e => both_leaf (fun tt => by rw [chkE]) fun h => by
    split at h
    · rename_i x y hx
      obtain ⟨ps, rfl⟩ := asSub_ok hx
      simp only [Bool.and_eq_true] at h
      obtain ⟨hs, ha⟩ := h
      split at hs
      · rename_i l u hy
        obtain ⟨p, rfl⟩ := asSlc_ok hy
        simp only [Bool.and_eq_true] at hs
        obtain ⟨ta, h1, h2⟩ := (sE W a sc x).1 ha
        obtain ⟨tl, h3, h4⟩ := sO W lo sc l hs.1
        obtain ⟨th, h5, h6⟩ := sO W hi sc u hs.2
        refine ⟨_, fun X g => ?_, ok_slc h2 h4 h6⟩
        have := sl_list (X := X)
        rw [g.eK] at this
        exact pe_slice this (h1 X g) (h3 X g) (h5 X g)
      · cases hs
    · cases h
  | .call f as, sc, e => both_leaf (fun tt => by rw [chkE]) fun h => by
    split at h
    · rename_i x es hx
      obtain ⟨p, q, rfl⟩ := asCall_ok hx
      simp only [Bool.and_eq_true, decide_eq_true_eq, Bool.not_eq_true'] at h
      obtain ⟨⟨⟨hf, hg⟩, hd⟩, ha⟩ := h
      obtain ⟨c, hc, fa, fd, ps, e1, e2, e3, e4, e5⟩ := W.fs f x hf
      have all : ∀ X, Gd P w K mg base C sc k X → X.mg x = some (.ref fa) ∧ PySem.W.keepIn X.K (.ref fa) = true ∧ Binds X.K fd ps [] ∧ GFn X.prog X.w X.K X.mg X.base k fa fd ps (SpD K ps.length c) := fun X g => by
        rw [g.eP, g.eW, g.eK, g.eM, g.eB]
        exact ⟨e1, e2, e3, e5⟩
      cases es with
      | nil =>
        cases as with
        | nil =>
          refine ⟨_, fun X g => ?_, ok_call ok_nil hc e4⟩
          obtain ⟨E1, E2, E3, E5⟩ := all X g
          exact pe_callG0 E5 g.room g.gd (g.gl hg) E1 E2 E3 hd
        | cons _ _ => simp [chkEs] at ha
      | cons y ys =>
        obtain ⟨t, h1, h2, h3, h4⟩ := sEs W as sc (y :: ys) ha
        have h3' : (nst y && nstL ys) = true := h3
        rw [Bool.and_eq_true] at h3'
        refine ⟨_, fun X g => ?_, ok_call h2 hc e4⟩
        obtain ⟨E1, E2, E3, E5⟩ := all X g
        exact pe_callG E5 g.room g.gd (g.gl hg) E1 E2 E3 (h1 X g) hd (star_cons h3'.1) (star_all h3'.2)
    · cases h
  | .bi f as, sc, e => both_leaf (fun tt => by rw [chkE]) fun h => by
    split at h
    · rename_i x es hx
      obtain ⟨p, q, rfl⟩ := asCall_ok hx
      simp only [Bool.and_eq_true] at h
      obtain ⟨⟨hb, hn⟩, ha⟩ := h
      obtain ⟨rfl, hg, hbs⟩ := blt_ok hb
      obtain ⟨t, h1, h2, h3, h4⟩ := sEs W as sc es ha
      refine ⟨_, fun X g => ?_, ok_bi h2 (rok_bi (K := K) f)⟩
      cases es with
      | nil => cases hn
      | cons y ys =>
        have h3' : (nst y && nstL ys) = true := h3
        rw [Bool.and_eq_true] at h3'
        have := pe_biAll (X := X) (f := f) (p := p) (pos := q) g.calm g.gd (hu64 g) (g.gl hg) (by rw [g.eM]; exact W.bs _ hbs) (h1 X g) (star_cons h3'.1) (star_all h3'.2)
        rw [g.eK] at this
        exact this
    · cases h
  | .isi a t, sc, e => both_leaf (fun tt => by rw [chkE]) fun h => by
    split at h
    · rename_i x y z hx
      obtain ⟨p, q, rfl⟩ := asCall_ok hx
      simp only [Bool.and_eq_true] at h
      obtain ⟨⟨⟨hb, hn⟩, ha⟩, hz⟩ := h
      obtain ⟨rfl, hg, hbs⟩ := blt_ok hb
      obtain ⟨ta, h1, h2⟩ := (sE W a sc y).1 ha
      split at hz
      · rename_i v hv
        obtain ⟨pz, rfl⟩ := asName_ok hv
        obtain ⟨rfl, hg2, hbs2⟩ := blt_ok hz
        refine ⟨_, fun X g => ?_, ok_isi h2⟩
        have := pe_callB (X := X) (p := p) (pos := q) call_isi (g.gl hg) (by rw [g.eM]; exact W.bs _ hbs) (by decide +kernel) (pa_cons (h1 X g) (pa_cons (pe_bltn (v := .ty (tyNm t)) (pos := pz) (g.gl hg2) (by rw [g.eM]; exact W.bs _ hbs2) (boot_ty t) rfl (by cases t <;> decide) (by cases t <;> decide)) pa_nil) (star_cons hn)) (by decide) (by decide) (star_cons hn) rfl
        rw [g.eK] at this
        exact this
      · cases hz
    · cases h
  | .lc elt tg ik its ifs own, sc, e => both_leaf (fun tt => by rw [chkE]) fun h => by
    split at h
    · rename_i el t it fs scope hx
      obtain ⟨ps, rfl⟩ := asLC_ok hx
      simp only [Bool.and_eq_true, Bool.not_eq_true'] at h
      obtain ⟨⟨⟨⟨⟨⟨hset, hblk⟩, hi⟩, htg⟩, hin⟩, hf⟩, he⟩ := h
      obtain ⟨wi, i1, i2⟩ := sI W its ik sc it t hi
      obtain ⟨tf, f1, f2⟩ := sF W ifs (relS scope sc) fs hf
      obtain ⟨te, e1, e2⟩ := (sE W elt (relS scope sc) el).1 he
      refine ⟨_, fun X g => ?_, ok_lc i2 f2 e2 (tg_in hin)⟩
      refine pe_lc g.calm (by rw [g.eN]; exact g.nd) (i1 X g) (by rw [g.eN, g.esc]; exact blkOk_by hblk) (fun s H Ca cl fp => ?_) (fun s H Ca cl fp => f1 _ (g.blk s H Ca cl fp)) (fun s H Ca cl fp => e1 _ (g.blk s H Ca cl fp)) (fold_ok hset)
      have gb := g.blk (scope := scope) s H Ca cl fp
      have := pg_of (X := X.blk s H scope (compEnvC scope cl Ca X.env) fp) (C := C) gb.eN gb.nd gb.calm gb.esc (fun x hx => by
        show (scope.names.lookup x == some .cell) = true
        rw [isCell_ok hx]
        rfl) htg
      have eK : (X.blk s H scope (compEnvC scope cl Ca X.env) fp).K = K := g.eK
      rw [eK] at this
      exact this
    · cases h
theorem sEs (W : Wr P w K mg base C F k) : ∀ (irs : List E) (sc : Scope) (es : List Expr), chkEs C sc irs es = true → SA P w K mg base C F k sc es irs
  | [], sc, [], _ => ⟨_, fun X g => pa_nil, ok_nil, rfl, rfl⟩
  | [], _, _ :: _, h => by simp [chkEs] at h
  | _ :: _, _, [], h => by simp [chkEs] at h
  | a :: as, sc, e :: es, h => by
    rw [chkEs] at h
    simp only [Bool.and_eq_true] at h
    obtain ⟨t, h1, h2⟩ := (sE W a sc e).1 h.1.2
    obtain ⟨ts, h3, h4, h5, h6⟩ := sEs W as sc es h.2
    exact ⟨_, fun X g => pa_cons (h1 X g) (h3 X g) (star_cons h.1.1), ok_cons h2 h4, by show (nst e && nstL es) = true; rw [h.1.1, h5]; rfl, by rw [List.length_cons, List.length_cons, h6]⟩
theorem sO (W : Wr P w K mg base C F k) : ∀ (irs : List E) (sc : Scope) (e : Option Expr), chkO C sc irs e = true → SO P w K mg base C F k sc e irs
  | [], sc, none, _ => ⟨_, fun X g => po_none, ok_part0⟩
  | [], _, some _, h => by simp [chkO] at h
  | [a], sc, some e, h => by
    rw [chkO] at h
    obtain ⟨t, h1, h2⟩ := (sE W a sc e).1 h
    exact ⟨_, fun X g => po_some (h1 X g), ok_part1 h2⟩
  | [_], _, none, h => by simp [chkO] at h
  | _ :: _ :: _, _, o, h => by simp [chkO] at h
theorem sF (W : Wr P w K mg base C F k) : ∀ (irs : List E) (sc : Scope) (fs : List Expr), chkF C sc irs fs = true → SF P w K mg base C F k sc fs irs
  | [], sc, [], _ => ⟨_, fun X g => pts_nil, ok_f0⟩
  | [], _, _ :: _, h => by simp [chkF] at h
  | [a], sc, [e], h => by
    rw [chkF] at h
    obtain ⟨t, h1, h2⟩ := (sE W a sc e).2 h
    exact ⟨_, fun X g => pts_one (h1 X g).1, ok_f1 h2⟩
  | [_], _, [], h => by simp [chkF] at h
  | [_], _, _ :: _ :: _, h => by simp [chkF] at h
  | _ :: _ :: _, _, o, h => by simp [chkF] at h
theorem sI (W : Wr P w K mg base C F k) : ∀ (irs : List E) (ik : IK) (sc : Scope) (it tg : Expr), chkI C sc ik irs it tg = true → SI P w K mg base C F k sc it tg ik irs
  | [a], .lst, sc, it, tg, h => by
    rw [chkI] at h
    obtain ⟨t, h1, h2⟩ := (sE W a sc it).1 h
    refine ⟨_, fun X g => ?_, ok_ilst h2⟩
    have := pi_list (tg := tg) (h1 X g)
    rw [g.eK] at this
    exact this
  | [a], .tup, sc, it, tg, h => by
    rw [chkI] at h
    obtain ⟨t, h1, h2⟩ := (sE W a sc it).1 h
    refine ⟨_, fun X g => ?_, ok_itup h2⟩
    have := pi_tup (tg := tg) (h1 X g)
    rw [g.eK] at this
    exact this
  | [a], .rng1, sc, it, tg, h => by
    rw [chkI] at h
    split at h
    · rename_i x y hx
      obtain ⟨p, q, rfl⟩ := asCall_ok hx
      simp only [Bool.and_eq_true] at h
      obtain ⟨rfl, hg, hbs⟩ := blt_ok h.1.1
      obtain ⟨t, h1, h2⟩ := (sE W a sc y).1 h.2
      exact ⟨_, fun X g => pi_range1 (g.gl hg) (by rw [g.eM]; exact W.bs _ hbs) (pa_cons (h1 X g) pa_nil (star_cons h.1.2)) (star_cons h.1.2), ok_irng1 h2⟩
    · cases h
  | [a, b], .rng2, sc, it, tg, h => by
    rw [chkI] at h
    split at h
    · rename_i x y z hx
      obtain ⟨p, q, rfl⟩ := asCall_ok hx
      simp only [Bool.and_eq_true] at h
      obtain ⟨⟨⟨⟨hb, n1⟩, n2⟩, ha⟩, hz⟩ := h
      obtain ⟨rfl, hg, hbs⟩ := blt_ok hb
      obtain ⟨t, h1, h2⟩ := (sE W a sc y).1 ha
      obtain ⟨u, h3, h4⟩ := (sE W b sc z).1 hz
      exact ⟨_, fun X g => pi_range2 (g.gl hg) (by rw [g.eM]; exact W.bs _ hbs) (pa_cons (h1 X g) (pa_cons (h3 X g) pa_nil (star_cons n2)) (star_cons n1)) (by rw [star_cons n1, star_cons n2]; rfl) (star_cons n2), ok_irng2 h2 h4⟩
    · cases h
  | [a], .enum, sc, it, tg, h => by
    rw [chkI] at h
    split at h
    · rename_i x y hx
      obtain ⟨p, q, rfl⟩ := asCall_ok hx
      simp only [Bool.and_eq_true] at h
      obtain ⟨⟨⟨hb, n1⟩, ha⟩, ht⟩ := h
      obtain ⟨es, he⟩ := Option.isSome_iff_exists.mp ht
      obtain ⟨j, pt, rfl⟩ := asTup_ok he
      obtain ⟨rfl, hg, hbs⟩ := blt_ok hb
      obtain ⟨t, h1, h2⟩ := (sE W a sc y).1 ha
      refine ⟨_, fun X g => ?_, ok_ienum h2⟩
      have := pi_enum (X := X) (p := p) (pos := q) (tpos := pt) (elts := es) (kk := j) (g.gl hg) (by rw [g.eM]; exact W.bs _ hbs) (pa_cons (h1 X g) pa_nil (star_cons n1)) (star_cons n1)
      rw [g.eK] at this
      exact this
    · cases h
  | [a, b], .zip, sc, it, tg, h => by
    rw [chkI] at h
    split at h
    · rename_i x y z hx
      obtain ⟨p, q, rfl⟩ := asCall_ok hx
      simp only [Bool.and_eq_true] at h
      obtain ⟨⟨⟨⟨⟨hb, n1⟩, n2⟩, ha⟩, hz⟩, ht⟩ := h
      obtain ⟨es, he⟩ := Option.isSome_iff_exists.mp ht
      obtain ⟨j, pt, rfl⟩ := asTup_ok he
      obtain ⟨rfl, hg, hbs⟩ := blt_ok hb
      obtain ⟨t, h1, h2⟩ := (sE W a sc y).1 ha
      obtain ⟨u, h3, h4⟩ := (sE W b sc z).1 hz
      refine ⟨_, fun X g => ?_, ok_izip h2 h4⟩
      have := pi_zip (X := X) (p := p) (pos := q) (tpos := pt) (elts := es) (kk := j) (g.gl hg) (by rw [g.eM]; exact W.bs _ hbs) (pa_cons (h1 X g) (pa_cons (h3 X g) pa_nil (star_cons n2)) (star_cons n1)) (star_cons n1) (star_all (by show (nst z && nstL []) = true; rw [n2]; rfl))
      rw [g.eK] at this
      exact this
    · cases h
  | [a], .rev, sc, it, tg, h => by
    rw [chkI] at h
    split at h
    · rename_i x y hx
      obtain ⟨p, q, rfl⟩ := asCall_ok hx
      simp only [Bool.and_eq_true] at h
      obtain ⟨rfl, hg, hbs⟩ := blt_ok h.1.1
      obtain ⟨t, h1, h2⟩ := (sE W a sc y).1 h.2
      refine ⟨_, fun X g => ?_, ok_irev h2⟩
      have := pi_reversed (X := X) (tg := tg) (p := p) (pos := q) (g.gl hg) (by rw [g.eM]; exact W.bs _ hbs) (pa_cons (h1 X g) pa_nil (star_cons h.1.2)) (star_cons h.1.2)
      rw [g.eK] at this
      exact this
    · cases h
  | [], ik, sc, it, tg, h => by cases ik <;> simp [chkI] at h
  | [_, _], .lst, sc, it, tg, h => by simp [chkI] at h
  | [_, _], .tup, sc, it, tg, h => by simp [chkI] at h
  | [_, _], .rng1, sc, it, tg, h => by simp [chkI] at h
  | [_, _], .enum, sc, it, tg, h => by simp [chkI] at h
  | [_, _], .rev, sc, it, tg, h => by simp [chkI] at h
  | [_], .rng2, sc, it, tg, h => by simp [chkI] at h
  | [_], .zip, sc, it, tg, h => by simp [chkI] at h
  | _ :: _ :: _ :: _, ik, sc, it, tg, h => by cases ik <;> simp [chkI] at h
end
end
end OC

set_option Elab.async false
set_option linter.all false
set_option maxRecDepth 100000
set_option maxHeartbeats 4000000
/-! Onecut: statements. -/
namespace OC
open PySem PySem.Spec PyProof.Rows L2

def MO (M : AP) (σ : L2.St) (G : List Sl) : AP := fun a => M a ∨ ∃ (i : Nat) (xs : List D), G[i]? = some (.own xs) ∧ σ[i]? = some (some (.ref a))
structure EnvS (K : PySem.W.Frag) (B0 : AP) (H0 : Hp) (M Bg : AP) (H : Hp) (σ : L2.St) (G : List Sl) (gs : List (V × D)) : Prop where
  ext : Ext B0 H0 Bg H
  md : ∀ a, M a → H0 a ≠ none ∧ ¬ B0 a
  len : σ.length = G.length
  val : ∀ (i : Nat) d, G[i]? = some (.val d) → ∃ v, σ[i]? = some (some v) ∧ Rep K Bg (MO M σ G) H v d
  own : ∀ (i : Nat) xs, G[i]? = some (.own xs) → ∃ a vs, σ[i]? = some (some (.ref a)) ∧ H a = some (.lst vs) ∧ H0 a = none ∧ ¬ Bg a ∧ RepL K Bg (MO M σ G) H vs xs
  dist : ∀ (i j : Nat) a xs ys, G[i]? = some (.own xs) → G[j]? = some (.own ys) → σ[i]? = some (some (.ref a)) → σ[j]? = some (some (.ref a)) → i = j
  gst : ∀ p ∈ gs, Rep K Bg (MO M σ G) H p.1 p.2
section
variable {K : PySem.W.Frag} {B0 M Bg : AP} {H0 H : Hp} {σ : L2.St} {G : List Sl} {gs : List (V × D)}
theorem EnvS.mo (e : EnvS K B0 H0 M Bg H σ G gs) : ∀ a, MO M σ G a → H a ≠ none ∧ ¬ Bg a := fun a h => by
  rcases h with h | ⟨i, xs, h1, h2⟩
  · exact md_ext e.md e.ext a h
  · obtain ⟨b, vs, q1, q2, _, q3, _⟩ := e.own i xs h1
    rw [h2] at q1
    cases q1
    exact ⟨(by rw [q2]; exact fun z => (by cases z)), q3⟩
theorem vals_get {i : Nat} {d : D} (h : getV (vals G) i = some d) : G[i]? = some (.val d) := by
  have h := getV_some h
  rw [List.getElem?_map] at h
  cases q : G[i]? with
  | none => rw [q] at h; cases h
  | some s =>
    rw [q] at h
    cases s with
    | val d' =>
      have h : some (some d') = some (some d) := h
      cases h
      rfl
    | no => cases h
    | own _ => cases h
theorem EnvS.env (e : EnvS K B0 H0 M Bg H σ G gs) : EnvE K Bg (MO M σ G) H σ (vals G) :=
  ⟨e.ext.bags, e.mo, by rw [List.length_map]; exact e.len, fun i d h => e.val i d (vals_get h)⟩
theorem EnvS.grow {Bg' : AP} {H' : Hp} (e : EnvS K B0 H0 M Bg H σ G gs) (x : Ext Bg H Bg' H') : EnvS K B0 H0 M Bg' H' σ G gs :=
  ⟨e.ext.trans x, e.md, e.len, fun i d h => by
    obtain ⟨v, h1, h2⟩ := e.val i d h
    exact ⟨v, h1, h2.ext x fun a m => .inl m⟩, fun i xs h => by
    obtain ⟨a, vs, h1, h2, h3, h4, h5⟩ := e.own i xs h
    exact ⟨a, vs, h1, x.keep a _ h4 h2, h3, x.nb h2 h4, h5.ext x fun a m => .inl m⟩, e.dist, fun p hp => (e.gst p hp).ext x fun a m => .inl m⟩
theorem set_own {i j : Nat} {s : Sl} {xs : List D} (h : (G.set i s)[j]? = some (.own xs)) : (i = j ∧ s = .own xs ∧ i < G.length) ∨ (i ≠ j ∧ G[j]? = some (.own xs)) := by
  by_cases q : i = j
  · subst q
    by_cases l : i < G.length
    · rw [List.getElem?_set_self l] at h
      exact .inl ⟨rfl, Option.some.inj h, l⟩
    · rw [List.getElem?_eq_none (by rw [List.length_set]; omega)] at h
      cases h
  · rw [List.getElem?_set_ne q] at h
    exact .inr ⟨q, h⟩
theorem set_val {i j : Nat} {s : Sl} {d : D} (h : (G.set i s)[j]? = some (.val d)) : (i = j ∧ s = .val d ∧ i < G.length) ∨ (i ≠ j ∧ G[j]? = some (.val d)) := by
  by_cases q : i = j
  · subst q
    by_cases l : i < G.length
    · rw [List.getElem?_set_self l] at h
      exact .inl ⟨rfl, Option.some.inj h, l⟩
    · rw [List.getElem?_eq_none (by rw [List.length_set]; omega)] at h
      cases h
  · rw [List.getElem?_set_ne q] at h
    exact .inr ⟨q, h⟩
/-- a name gets a value -/
theorem EnvS.put {v : V} {d : D} (e : EnvS K B0 H0 M Bg H σ G gs) (r : Rep K Bg (MO M σ G) H v d) (i : Nat) : EnvS K B0 H0 M Bg H (σ.set i (some v)) (G.set i (.val d)) gs := by
  have less : ∀ a, MO M (σ.set i (some v)) (G.set i (.val d)) a → MO M σ G a := fun a h => by
    rcases h with h | ⟨j, xs, h1, h2⟩
    · exact .inl h
    · rcases set_own h1 with ⟨_, z, _⟩ | ⟨q, h1⟩
      · cases z
      · rw [List.getElem?_set_ne q] at h2
        exact .inr ⟨j, xs, h1, h2⟩
  refine ⟨e.ext, e.md, by rw [List.length_set, List.length_set]; exact e.len, fun j d' h => ?_, fun j xs h => ?_, fun j l a xs ys h1 h2 h3 h4 => ?_, fun p hp => (e.gst p hp).less e.ext.bags less⟩
  · rcases set_val h with ⟨rfl, z, l⟩ | ⟨q, h⟩
    · cases z
      exact ⟨v, List.getElem?_set_self (by rw [e.len]; exact l), r.less e.ext.bags less⟩
    · obtain ⟨u, h1, h2⟩ := e.val j d' h
      exact ⟨u, by rw [List.getElem?_set_ne q]; exact h1, h2.less e.ext.bags less⟩
  · rcases set_own h with ⟨_, z, _⟩ | ⟨q, h⟩
    · cases z
    · obtain ⟨a, vs, h1, h2, h3, h4, h5⟩ := e.own j xs h
      exact ⟨a, vs, by rw [List.getElem?_set_ne q]; exact h1, h2, h3, h4, h5.less e.ext.bags less⟩
  · rcases set_own h1 with ⟨_, z, _⟩ | ⟨q, h1⟩
    · cases z
    · rcases set_own h2 with ⟨_, z, _⟩ | ⟨q2, h2⟩
      · cases z
      · rw [List.getElem?_set_ne q] at h3
        rw [List.getElem?_set_ne q2] at h4
        exact e.dist j l a xs ys h1 h2 h3 h4
/-- a name gets a new list of its own -/
theorem EnvS.putOwn {p : Addr} {vs : List V} {ds : List D} (e : EnvS K B0 H0 M Bg H σ G gs) (r : RepL K Bg (MO M σ G) H vs ds) (hp : H p = none) (i : Nat) : EnvS K B0 H0 M Bg (L2.upd H p (.lst vs)) (σ.set i (some (.ref p))) (G.set i (.own ds)) gs := by
  have x := Ext.lay (o := .lst vs) e.ext.bags hp
  have nb : ¬ Bg p := (fresh_md e.ext.bags e.mo hp).1
  have more : ∀ a, MO M (σ.set i (some (.ref p))) (G.set i (.own ds)) a → MO M σ G a ∨ H a = none := fun a h => by
    rcases h with h | ⟨j, xs, h1, h2⟩
    · exact .inl (.inl h)
    · rcases set_own h1 with ⟨rfl, z, l⟩ | ⟨q, h1⟩
      · rw [List.getElem?_set_self (by rw [e.len]; exact l)] at h2
        cases h2
        exact .inr hp
      · rw [List.getElem?_set_ne q] at h2
        exact .inl (.inr ⟨j, xs, h1, h2⟩)
  have h0 : H0 p = none := by
    cases q : H0 p with
    | none => rfl
    | some o =>
      by_cases b : B0 p
      · exact absurd (e.ext.sub p b) nb
      · rw [e.ext.keep p o b q] at hp
        cases hp
  refine ⟨e.ext.trans x, e.md, by rw [List.length_set, List.length_set]; exact e.len, fun j d' h => ?_, fun j xs h => ?_, fun j l a xs ys h1 h2 h3 h4 => ?_, fun q hq => (e.gst q hq).ext x more⟩
  · rcases set_val h with ⟨_, z, _⟩ | ⟨q, h⟩
    · cases z
    · obtain ⟨u, h1, h2⟩ := e.val j d' h
      exact ⟨u, by rw [List.getElem?_set_ne q]; exact h1, h2.ext x more⟩
  · rcases set_own h with ⟨rfl, z, l⟩ | ⟨q, h⟩
    · cases z
      exact ⟨p, vs, List.getElem?_set_self (by rw [e.len]; exact l), upd_same, h0, nb, r.ext x more⟩
    · obtain ⟨a, vs, h1, h2, h3, h4, h5⟩ := e.own j xs h
      exact ⟨a, vs, by rw [List.getElem?_set_ne q]; exact h1, x.keep a _ h4 h2, h3, h4, h5.ext x more⟩
  · have far : ∀ (j : Nat) zs, i ≠ j → G[j]? = some (.own zs) → (σ.set i (some (.ref p)))[j]? = some (some (.ref a)) → a ≠ p := fun j zs q g g2 z => by
      subst z
      rw [List.getElem?_set_ne q] at g2
      obtain ⟨b, ws, k1, k2, _⟩ := e.own j zs g
      rw [g2] at k1
      cases k1
      rw [hp] at k2
      cases k2
    rcases set_own h1 with ⟨rfl, z, l1⟩ | ⟨q, h1⟩
    · rcases set_own h2 with ⟨rfl, z2, l2⟩ | ⟨q2, h2⟩
      · rfl
      · rw [List.getElem?_set_self (by rw [e.len]; exact l1)] at h3
        cases h3
        exact absurd rfl (far l _ q2 h2 h4)
    · rcases set_own h2 with ⟨rfl, z2, l2⟩ | ⟨q2, h2⟩
      · rw [List.getElem?_set_self (by rw [e.len]; exact l2)] at h4
        cases h4
        exact absurd rfl (far j _ q h1 h3)
      · rw [List.getElem?_set_ne q] at h3
        rw [List.getElem?_set_ne q2] at h4
        exact e.dist j l a xs ys h1 h2 h3 h4
/-- a list of one's own is written -/
theorem EnvS.wrOwn {i : Nat} {xs ys : List D} {a : Addr} {ws : List V} (e : EnvS K B0 H0 M Bg H σ G gs) (h : G[i]? = some (.own xs)) (ha : σ[i]? = some (some (.ref a))) (r : RepL K Bg (MO M σ G) H ws ys) :
    EnvS K B0 H0 M Bg (L2.upd H a (.lst ws)) σ (G.set i (.own ys)) gs := by
  have hi : i < G.length := (List.getElem?_eq_some_iff.mp h).1
  obtain ⟨b, vs, q1, q2, q3, q4, q5⟩ := e.own i xs h
  rw [ha] at q1
  cases q1
  have same : ∀ c, MO M σ (G.set i (.own ys)) c ↔ MO M σ G c := fun c => by
    constructor
    · rintro (h' | ⟨j, zs, h1, h2⟩)
      · exact .inl h'
      · rcases set_own h1 with ⟨rfl, z, l⟩ | ⟨q, h1⟩
        · exact .inr ⟨_, xs, h, h2⟩
        · exact .inr ⟨j, zs, h1, h2⟩
    · rintro (h' | ⟨j, zs, h1, h2⟩)
      · exact .inl h'
      · by_cases q : i = j
        · subst q
          exact .inr ⟨i, ys, List.getElem?_set_self hi, h2⟩
        · exact .inr ⟨j, zs, by rw [List.getElem?_set_ne q]; exact h1, h2⟩
  have mo : MO M σ (G.set i (.own ys)) = MO M σ G := funext fun c => propext (same c)
  have ma : MO M σ G a := .inr ⟨i, xs, h, ha⟩
  refine ⟨e.ext.write q3 q4, e.md, by rw [List.length_set]; exact e.len, fun j d' h' => ?_, fun j zs h' => ?_, fun j l c us vs h1 h2 h3 h4 => ?_, fun p hp => ?_⟩
  · rw [mo]
    rcases set_val h' with ⟨_, z, _⟩ | ⟨q, h'⟩
    · cases z
    · obtain ⟨u, h1, h2⟩ := e.val j d' h'
      exact ⟨u, h1, h2.upd ma⟩
  · rw [mo]
    rcases set_own h' with ⟨rfl, z, l⟩ | ⟨q, h'⟩
    · cases z
      exact ⟨a, ws, ha, upd_same, q3, q4, r.upd ma⟩
    · obtain ⟨c, vs, h1, h2, h3, h4, h5⟩ := e.own j zs h'
      have : c ≠ a := fun z => by
        subst z
        exact q (e.dist i j c xs zs h h' ha h1)
      exact ⟨c, vs, h1, by rw [upd_ne this]; exact h2, h3, h4, h5.upd ma⟩
  · have back : ∀ (j : Nat) (zs : List D), (G.set i (.own ys))[j]? = some (.own zs) → ∃ us, G[j]? = some (.own us) := fun j zs hh => by
      rcases set_own hh with ⟨rfl, z, l⟩ | ⟨q, hh⟩
      · exact ⟨xs, h⟩
      · exact ⟨zs, hh⟩
    obtain ⟨u1, k1⟩ := back j us h1
    obtain ⟨u2, k2⟩ := back l vs h2
    exact e.dist j l c u1 u2 k1 k2 h3 h4
  · rw [mo]
    exact (e.gst p hp).upd ma
/-- a list of one's own becomes a value -/
theorem EnvS.frz1 {i : Nat} {xs : List D} (e : EnvS K B0 H0 M Bg H σ G gs) (h : G[i]? = some (.own xs)) : EnvS K B0 H0 M Bg H σ (G.set i (.val (.lst xs))) gs := by
  obtain ⟨a, vs, q1, q2, q3, q4, q5⟩ := e.own i xs h
  have less : ∀ c, MO M σ (G.set i (.val (.lst xs))) c → MO M σ G c := fun c h' => by
    rcases h' with h' | ⟨j, zs, h1, h2⟩
    · exact .inl h'
    · rcases set_own h1 with ⟨_, z, _⟩ | ⟨q, h1⟩
      · cases z
      · exact .inr ⟨j, zs, h1, h2⟩
  have na : ¬ MO M σ (G.set i (.val (.lst xs))) a := fun h' => by
    rcases h' with h' | ⟨j, zs, h1, h2⟩
    · exact (e.md a h').1 q3
    · rcases set_own h1 with ⟨_, z, _⟩ | ⟨q, h1⟩
      · cases z
      · exact q (e.dist i j a xs zs h h1 q1 h2)
  refine ⟨e.ext, e.md, by rw [List.length_set]; exact e.len, fun j d' h' => ?_, fun j zs h' => ?_, fun j l c us vs h1 h2 h3 h4 => ?_, fun p hp => (e.gst p hp).less e.ext.bags less⟩
  · rcases set_val h' with ⟨rfl, z, _⟩ | ⟨q, h'⟩
    · cases z
      exact ⟨_, q1, .lst q2 q4 na (q5.less e.ext.bags less)⟩
    · obtain ⟨u, h1, h2⟩ := e.val j d' h'
      exact ⟨u, h1, h2.less e.ext.bags less⟩
  · rcases set_own h' with ⟨_, z, _⟩ | ⟨q, h'⟩
    · cases z
    · obtain ⟨c, vs, h1, h2, h3, h4, h5⟩ := e.own j zs h'
      exact ⟨c, vs, h1, h2, h3, h4, h5.less e.ext.bags less⟩
  · rcases set_own h1 with ⟨_, z, _⟩ | ⟨q, h1⟩
    · cases z
    · rcases set_own h2 with ⟨_, z, _⟩ | ⟨q2, h2⟩
      · cases z
      · exact e.dist j l c us vs h1 h2 h3 h4
theorem EnvS.frzL (e : EnvS K B0 H0 M Bg H σ G gs) : ∀ is : List Nat, EnvS K B0 H0 M Bg H σ (frzS G is) gs
  | [] => e
  | i :: is => by
    unfold frzS
    have ih := e.frzL is
    split
    · rename_i xs hx
      exact ih.frz1 hx
    · exact ih
theorem getO_some : ∀ {G : List Sl} {i : Nat} {xs : List D}, getO G i = some xs → G[i]? = some (.own xs)
  | [], _, _, h => by cases h
  | s :: _, 0, _, h => by cases s <;> simp_all [getO]
  | s :: G, n + 1, xs, h => by
    have h : getO G n = some xs := by cases s <;> exact h
    simpa using getO_some h
/-- the targets, over statements -/
theorem gNamesS : ∀ (is : List Nat) {σ : L2.St} {G : List Sl} {vs : List V} {ds : List D} {Q : L2.St → Hp → Prop}, EnvS K B0 H0 M Bg H σ G gs → RepL K Bg (MO M σ G) H vs ds → is.length = ds.length →
    (∀ σ1, EnvS K B0 H0 M Bg H σ1 (setAllS G is ds) gs → Q σ1 H) → gNames is vs σ H Q
  | [], _, _, _, _, _, en, .nil, hl, post => ⟨rfl, post _ en⟩
  | [], _, _, _, _, _, en, .cons _ _, hl, post => by cases hl
  | i :: is, _, _, _, _, _, en, .nil, hl, post => by cases hl
  | i :: is, _, _, _, _, _, en, .cons (v := v) (d := d) r t, hl, post => by
    refine ⟨_, _, rfl, gNamesS is (en.put r i) (t.less en.ext.bags fun a h => ?_) (by simpa using hl) post⟩
    rcases h with h | ⟨j, xs, h1, h2⟩
    · exact .inl h
    · rcases set_own h1 with ⟨_, z, _⟩ | ⟨q, h1⟩
      · cases z
      · rw [List.getElem?_set_ne q] at h2
        exact .inr ⟨j, xs, h1, h2⟩
theorem gS {tg : Tg} {x : V} {d : D} {G1 : List Sl} {Q : L2.St → Hp → Prop} (e : EnvS K B0 H0 M Bg H σ G gs) (r : Rep K Bg (MO M σ G) H x d) (hb : bindS tg d G = some G1) (post : ∀ σ1, EnvS K B0 H0 M Bg H σ1 G1 gs → Q σ1 H) : gOf K tg x σ H Q := by
  cases tg with
  | name i =>
    cases hb
    exact post _ (e.put r i)
  | tup is =>
    cases d with
    | tup ds =>
      simp only [bindS] at hb
      split at hb
      · rename_i hl
        cases hb
        obtain ⟨a, vs, rfl, hs, rl⟩ := r.tup_inv
        exact ⟨a, vs, rfl, hs, by rw [rl.len]; exact hl.symm, gNamesS is e rl hl post⟩
      · cases hb
    | _ => cases hb
end

structure Kont (K : PySem.W.Frag) (B0 : AP) (H0 : Hp) (M : AP) (gs : List (V × D)) (kd : Ks) (Dn : Ends) : Prop where
  nx : ∀ Bg H σ G, EnvS K B0 H0 M Bg H σ G gs → kd.nx G → Dn.nx σ H
  rt : ∀ Bg H v d, Ext B0 H0 Bg H → Rep K Bg M H v d → kd.rt d → Dn.rt v H
  bk : ∀ Bg H σ G, EnvS K B0 H0 M Bg H σ G gs → kd.bk G → Dn.bk σ H
  ct : ∀ Bg H σ G, EnvS K B0 H0 M Bg H σ G gs → kd.ct G → Dn.ct σ H
def TSok (K : PySem.W.Frag) (F : List DC) (t : TS) (s : S) : Prop := ∀ (B0 : AP) (H0 : Hp) (M Bg : AP) (H : Hp) (σ : L2.St) (G : List Sl) (gs : List (V × D)) (kd : Ks) (Dn : Ends), EnvS K B0 H0 M Bg H σ G gs → wpS F s G kd → Kont K B0 H0 M gs kd Dn → t Dn σ H
def TSsok (K : PySem.W.Frag) (F : List DC) (t : TS) (s : List S) : Prop := ∀ (B0 : AP) (H0 : Hp) (M Bg : AP) (H : Hp) (σ : L2.St) (G : List Sl) (gs : List (V × D)) (kd : Ks) (Dn : Ends), EnvS K B0 H0 M Bg H σ G gs → wpSs F s G kd → Kont K B0 H0 M gs kd Dn → t Dn σ H
section
variable {K : PySem.W.Frag} {F : List DC} {te : TE} {e : E}
theorem oks_asg {i : Nat} (h : TEok K F te e) : TSok K F (tAsg te (gName i)) (.asg i e) := fun B0 H0 M Bg H σ G gs kd Dn en w ko => by
  simp only [wpS] at w
  exact h _ _ _ _ _ _ _ en.env w fun d v B1 H1 e1 r q => ko.nx _ _ _ _ ((en.grow e1).put r i) q
theorem oks_asgL {i : Nat} {t : TA} {es : List E} (h : TAok K F t es) (hl : es.length ≤ 1000) : TSok K F (tAsg (tLst t) (gName i)) (.asgL i es) := fun B0 H0 M Bg H σ G gs kd Dn en w ko => by
  simp only [wpS] at w
  refine h _ _ _ _ _ _ _ en.env w fun ds vs B1 H1 e1 rl hn q => ⟨size1000 (by rw [rl.len, hn]; exact hl), fun p hp => ?_⟩
  exact ko.nx _ _ _ _ ((en.grow e1).putOwn rl hp i) q
theorem oks_par {i j : Nat} {ta tb : TE} {a b : E} (ha : TEok K F ta a) (hb : TEok K F tb b) : TSok K F (tPar i j (tCons ta (tCons tb tNil))) (.par i j a b) := fun B0 H0 M Bg H σ G gs kd Dn en w ko => by
  simp only [wpS] at w
  refine ha _ _ _ _ _ _ _ en.env w fun x vx B1 H1 e1 rx w1 => ?_
  refine hb _ _ _ _ _ _ _ (en.env.ext e1) w1 fun y vy B2 H2 e2 ry w2 => ?_
  have en2 := (en.grow e1).grow e2
  have less : ∀ a, MO M (σ.set i (some vx)) (G.set i (.val x)) a → MO M σ G a := fun a h => by
    rcases h with h | ⟨l, xs, h1, h2⟩
    · exact .inl h
    · rcases set_own h1 with ⟨_, z, _⟩ | ⟨q, h1⟩
      · cases z
      · rw [List.getElem?_set_ne q] at h2
        exact .inr ⟨l, xs, h1, h2⟩
  exact ⟨_, _, rfl, ko.nx _ _ _ _ ((en2.put (rx.ext e2 fun a m => .inl m) i).put (ry.less e2.bags less) j) w2⟩
theorem oks_par3 {i j l : Nat} {ta tb tc : TE} {a b c : E} (ha : TEok K F ta a) (hb : TEok K F tb b) (hc : TEok K F tc c) : TSok K F (tPar3 i j l (tCons ta (tCons tb (tCons tc tNil)))) (.unp [i, j, l] (.tup [a, b, c])) := fun B0 H0 M Bg H σ G gs kd Dn en w ko => by
  simp only [wpS, wpE, wpEs, bindS, List.length_cons, List.length_nil, if_true, setAllS] at w
  refine ha _ _ _ _ _ _ _ en.env w fun x vx B1 H1 e1 rx w1 => ?_
  refine hb _ _ _ _ _ _ _ (en.env.ext e1) w1 fun y vy B2 H2 e2 ry w2 => ?_
  refine hc _ _ _ _ _ _ _ ((en.env.ext e1).ext e2) w2 fun z vz B3 H3 e3 rz w3 => ?_
  have en3 := ((en.grow e1).grow e2).grow e3
  have less : ∀ (i : Nat) (G : List Sl) (σ : List (Option V)) (x : D) (vx : V) a, MO M (σ.set i (some vx)) (G.set i (.val x)) a → MO M σ G a := fun i G σ x vx a h => by
    rcases h with h | ⟨l, xs, h1, h2⟩
    · exact .inl h
    · rcases set_own h1 with ⟨_, z, _⟩ | ⟨q, h1⟩
      · cases z
      · rw [List.getElem?_set_ne q] at h2
        exact .inr ⟨l, xs, h1, h2⟩
  refine ⟨_, _, _, rfl, ko.nx _ _ _ _ (((en3.put ((rx.ext e2 fun a m => .inl m).ext e3 fun a m => .inl m) i).put ((ry.ext e3 fun a m => .inl m).less e3.bags (less i _ _ _ _)) j).put (rz.less e3.bags fun a m => less i _ _ _ _ a (less j _ _ _ _ a m)) l) w3⟩
theorem oks_unp {is : List Nat} (h : TEok K F te e) : TSok K F (tAsg te (gOf K (.tup is))) (.unp is e) := fun B0 H0 M Bg H σ G gs kd Dn en w ko => by
  simp only [wpS] at w
  refine h _ _ _ _ _ _ _ en.env w fun d v B1 H1 e1 r q => ?_
  split at q
  · rename_i G1 hb
    exact gS (en.grow e1) r hb fun σ1 en1 => ko.nx _ _ _ _ en1 q
  · exact q.elim
def rAug : BO → TIp
  | .add => rI0 fun i j => .int (i + j)
  | .sub => rI0 fun i j => .int (i - j)
  | .mul => rI CMulW fun i j => .int (i * j)
  | .fdiv => rI CDivA fun i j => .int (i.fdiv j)
  | .mod => rI (fun _ j => j ≠ 0) fun i j => .int (i.fmod j)
  | .pow => rFalse
theorem pip_of (X : Cx) : ∀ o : BO, PIp X (boOf o) (rAug o)
  | .add => iop_add
  | .sub => iop_sub
  | .mul => opI (f := inplaceOp .Mult) fun _ _ _ _ _ _ _ hc q => imul_int q hc.ok
  | .fdiv => opI (f := inplaceOp .FloorDiv) fun _ _ _ _ _ _ _ hc q => ifloordiv_int hc.1 q (.inl (PyProof.noPylong_of_log2 hc.2))
  | .mod => opI (f := inplaceOp .Mod) fun _ _ _ _ _ _ _ hc q => imod_int hc q
  | .pow => fun _ _ _ _ _ _ _ _ _ _ _ _ h => False.elim h
theorem oks_aug {i : Nat} {o : BO} (h : TEok K F te e) : TSok K F (tAug i te (rAug o)) (.aug i o e) := fun B0 H0 M Bg H σ G gs kd Dn en w ko => by
  simp only [wpS] at w
  split at w
  · rename_i x hx
    obtain ⟨v, hv, rv⟩ := en.val i x (vals_get hx)
    refine ⟨v, hv, h _ _ _ _ _ _ _ en.env w fun y vy B1 H1 e1 ry w1 => ?_⟩
    have fin : ∀ z : D, Rep K B1 (MO M σ G) H1 (match z with | .int n => V.int n | _ => .non) z → kd.nx (G.set i (.val z)) → Dn.nx (σ.set i (some (match z with | .int n => V.int n | _ => .non))) H1 := fun z rz q => ko.nx _ _ _ _ ((en.grow e1).put rz i) q
    cases o <;> cases x <;> cases y <;> simp only [augop, bop] at w1 <;> first
      | exact ⟨_, _, rv.int_inv, ry.int_inv, fin (.int _) (.int _) w1⟩
      | exact ⟨_, _, rv.int_inv, ry.int_inv, w1.1, fin (.int _) (.int _) w1.2⟩
  · exact w.elim
theorem oks_app {i : Nat} (h : TEok K F te e) : TSok K F (tDrop (tBM K "list" rAppend (tVar i) (tCons te tNil))) (.app i e) := fun B0 H0 M Bg H σ G gs kd Dn en w ko => by
  simp only [wpS] at w
  split at w
  · rename_i xs hx
    have hx := getO_some hx
    obtain ⟨a, vs, h1, h2, h3, h4, h5⟩ := en.own i xs hx
    refine ⟨.ref a, h1, .inl ⟨rfl, _, .inl (.inl h2)⟩, h _ _ _ _ _ _ _ en.env w fun d v B1 H1 e1 r q => ?_⟩
    obtain ⟨b, us, k1, k2, k3, k4, k5⟩ := (en.grow e1).own i xs hx
    rw [h1] at k1
    cases k1
    exact ⟨a, us, v, rfl, rfl, k2, by rw [k5.len]; exact Nat.lt_of_lt_of_le q.1 (by decide), ko.nx _ _ _ _ ((en.grow e1).wrOwn hx h1 (k5.append (.cons r .nil))) q.2⟩
  · exact w.elim
theorem oks_extL {i : Nat} (h : TEok K F te e) : TSok K F (tAug i te rExt2) (.extL i e) := fun B0 H0 M Bg H σ G gs kd Dn en w ko => by
  simp only [wpS] at w
  split at w
  · rename_i xs hx
    have hx := getO_some hx
    obtain ⟨a, vs, h1, h2, h3, h4, h5⟩ := en.own i xs hx
    refine ⟨.ref a, h1, h _ _ _ _ _ _ _ en.env w fun d v B1 H1 e1 r q => ?_⟩
    cases d with
    | lst ys =>
      obtain ⟨b, us, k1, k2, k3, k4, k5⟩ := (en.grow e1).own i xs hx
      rw [h1] at k1
      cases k1
      obtain ⟨c, ws, rfl, hc, _, _, rc⟩ := r.lst_inv
      have hi : i < σ.length := (List.getElem?_eq_some_iff.mp h1).1
      have es : σ.set i (some (.ref a)) = σ := by
        apply List.ext_getElem?
        intro j
        by_cases z : i = j
        · subst z
          rw [List.getElem?_set_self hi, h1]
        · rw [List.getElem?_set_ne z]
      refine ⟨a, c, us, ws, rfl, rfl, k2, hc, by rw [k5.len, rc.len]; exact Nat.le_of_lt (Nat.lt_of_lt_of_le q.1 (by decide)), ?_⟩
      dsimp only
      rw [es]
      exact ko.nx _ _ _ _ ((en.grow e1).wrOwn hx h1 (k5.append rc)) q.2
    | _ => exact q.elim
  · exact w.elim
theorem oks_setB {n : Nat} {ta : TE} {a : E} (h : TEok K F te e) (ha : TEok K F ta a) : TSok K F (tAsg te (gSub ta (tC (.int (n : Int))) rSetL)) (.setB a n e) := fun B0 H0 M Bg H σ G gs kd Dn en w ko => by
  simp only [wpS] at w
  refine h _ _ _ _ _ _ _ en.env w fun d v B1 H1 e1 r w1 => ?_
  refine ha _ _ _ _ _ _ _ (en.env.ext e1) w1 fun b vb B2 H2 e2 rb w2 => ?_
  cases b <;> first
    | exact False.elim w2
    | skip
  cases d <;> first
    | exact False.elim w2
    | skip
  rename_i i
  obtain ⟨⟨hn, hi, hi2⟩, w2⟩ := w2
  obtain ⟨p, rfl, hb⟩ := rb.bag_inv
  obtain ⟨L, M', hl, q1, q2, q3⟩ := e2.bags p hb
  rw [r.int_inv]
  have fin : ∀ (L' N' : Int), 0 ≤ L' → 0 ≤ N' → N' < 2 ^ 32 → Ext B2 H2 B2 (L2.upd H2 p (.lst [.int L', .int N'])) := fun L' N' g1 g2 g3 => by
    refine ⟨fun _ z => z, fun _ z n => absurd z n, fun q o nq hq => ?_, fun q hq => ?_⟩
    · rw [upd_ne (fun z => nq (by rw [z]; exact hb))]
      exact hq
    · by_cases z : q = p
      · subst z
        exact ⟨L', N', upd_same, g1, g2, g3⟩
      · obtain ⟨L2, M2, k1, k2⟩ := e2.bags q hq
        exact ⟨L2, M2, by rw [upd_ne z]; exact k1, k2⟩
  have en2 := (en.grow e1).grow e2
  have cs : n = 0 ∨ n = 1 := by omega
  rcases cs with rfl | rfl
  · exact ⟨p, _, _, 0, rfl, rfl, hl, rfl, ko.nx _ _ _ _ (en2.grow (fin i M' hi q2 q3)) w2⟩
  · exact ⟨p, _, _, 1, rfl, rfl, hl, rfl, ko.nx _ _ _ _ (en2.grow (fin L i q1 hi (hi2 rfl))) w2⟩
theorem oks_drop (h : TEok K F te e) : TSok K F (tDrop te) (.drop e) := fun B0 H0 M Bg H σ G gs kd Dn en w ko => by
  simp only [wpS] at w
  exact h _ _ _ _ _ _ _ en.env w fun d v B1 H1 e1 r q => ko.nx _ _ _ _ (en.grow e1) q
theorem oks_ret (h : TEok K F te e) : TSok K F (tRet te) (.ret e) := fun B0 H0 M Bg H σ G gs kd Dn en w ko => by
  simp only [wpS] at w
  exact h _ _ _ _ _ _ _ en.env w fun d v B1 H1 e1 r q => ko.rt _ _ _ _ (en.ext.trans e1) (r.less e1.bags fun a m => .inl m) q
theorem oks_retN : TSok K F tRetN .retN := fun B0 H0 M Bg H σ G gs kd Dn en w ko => by
  simp only [wpS] at w
  exact ko.rt _ _ _ _ en.ext .non w
theorem oks_brk : TSok K F tBreak .brk := fun B0 H0 M Bg H σ G gs kd Dn en w ko => by
  simp only [wpS] at w
  exact ko.bk _ _ _ _ en w
theorem oks_cnt : TSok K F tCont .cnt := fun B0 H0 M Bg H σ G gs kd Dn en w ko => by
  simp only [wpS] at w
  exact ko.ct _ _ _ _ en w
theorem oks_pass : TSok K F tNext .pass := fun B0 H0 M Bg H σ G gs kd Dn en w ko => by
  simp only [wpS] at w
  exact ko.nx _ _ _ _ en w
theorem oks_ite {tt : TT} {t : E} {ta tb : TS} {a b : List S} (ht : TTok K F tt t) (ha : TSsok K F ta a) (hb : TSsok K F tb b) : TSok K F (tIfS tt ta tb) (.ite t a b) := fun B0 H0 M Bg H σ G gs kd Dn en w ko => by
  simp only [wpS] at w
  refine ht _ _ _ _ _ _ _ en.env w fun q B1 H1 e1 w1 => ?_
  cases q with
  | true =>
    simp only [if_true] at w1 ⊢
    exact ha _ _ _ _ _ _ _ _ _ _ (en.grow e1) w1 ko
  | false =>
    simp only [Bool.false_eq_true, if_false] at w1 ⊢
    exact hb _ _ _ _ _ _ _ _ _ _ (en.grow e1) w1 ko
theorem oks_nil : TSsok K F tNext [] := fun B0 H0 M Bg H σ G gs kd Dn en w ko => by
  simp only [wpSs] at w
  exact ko.nx _ _ _ _ en w
theorem oks_cons {t u : TS} {s : S} {r : List S} (h : TSok K F t s) (hr : TSsok K F u r) : TSsok K F (tSeq t u) (s :: r) := fun B0 H0 M Bg H σ G gs kd Dn en w ko => by
  simp only [wpSs] at w
  exact h _ _ _ _ _ _ _ _ _ _ en w ⟨fun B1 H1 σ1 G1 en1 w1 => hr _ _ _ _ _ _ _ _ _ _ en1 w1 ko, ko.rt, ko.bk, ko.ct⟩
theorem oks_frz {u : TS} {is : List Nat} {r : List S} (hr : TSsok K F u r) : TSsok K F u (.frz is :: r) := fun B0 H0 M Bg H σ G gs kd Dn en w ko => by
  simp only [wpSs, wpS] at w
  exact hr _ _ _ _ _ _ _ _ _ _ (en.frzL is) w ko
theorem oks_for {wi : TI} {tb : TS} {tg : Tg} {k : IK} {as : List E} {body : List S} (hi : TIok K F wi k as) (hb : TSsok K F tb body) : TSok K F (tFor wi (gOf K tg) tb) (.forS tg k as body) := fun B0 H0 M Bg H σ G gs kd Dn en w ko => by
  simp only [wpS] at w
  refine hi _ _ _ _ _ _ _ en.env w fun xs J g2 B1 H1 e1 hg W w1 => ?_
  let N : Nat → L2.St → Hp → Prop := fun i σ' H' => ∃ (B : AP) (G' : List Sl), EnvS K B0 H0 M B H' σ' G' (g2 ++ gs) ∧ wpFor (fun G1 K1 => wpSs F body G1 K1) tg kd (xs.drop i) G'
  have en1 : EnvS K B0 H0 M B1 H1 σ G (g2 ++ gs) := by
    have z := en.grow e1
    exact ⟨z.ext, z.md, z.len, z.val, z.own, z.dist, fun p hp => (List.mem_append.mp hp).elim (hg p) (z.gst p)⟩
  have drp : ∀ {B : AP} {H' : Hp} {σ' : L2.St} {G' : List Sl}, EnvS K B0 H0 M B H' σ' G' (g2 ++ gs) → EnvS K B0 H0 M B H' σ' G' gs := fun z => ⟨z.ext, z.md, z.len, z.val, z.own, z.dist, fun p hp => z.gst p (List.mem_append_right _ hp)⟩
  refine ⟨fun i m σ' H' => m = xs.length - i ∧ i ≤ xs.length ∧ N i σ' H', ⟨xs.length, by simp, Nat.zero_le _, B1, G, en1, by simpa using w1⟩, ?_⟩
  rintro i m σ2 H2 ⟨rfl, hil, B, G2, en2, wf⟩
  have gh : ∀ p ∈ g2, Rep K B (MO M σ2 G2) H2 p.1 p.2 := fun p hp => en2.gst p (List.mem_append_left _ hp)
  by_cases hlt : i < xs.length
  · right
    obtain ⟨d, hd⟩ : ∃ d, xs[i]? = some d := ⟨xs[i], by simp [hlt]⟩
    have hdrop : xs.drop i = d :: xs.drop (i + 1) := by
      rw [List.drop_eq_getElem_cons hlt]
      congr 1
      rw [List.getElem?_eq_getElem hlt] at hd
      exact Option.some.inj hd
    rw [hdrop] at wf
    simp only [wpFor] at wf
    obtain ⟨hgo, hy⟩ := W.step B (MO M σ2 G2) H2 i d en2.ext.bags en2.mo gh hd
    refine ⟨hgo, N (i + 1), fun σ' H' hn => ⟨xs.length - (i + 1), by omega, rfl, hlt, hn⟩, fun x H3 hyl => ?_⟩
    obtain ⟨e3, rx⟩ := hy x H3 hyl
    split at wf
    · rename_i G3 hG
      refine gS (en2.grow e3) rx hG fun σ3 en3 => ?_
      refine hb _ _ _ _ _ _ _ _ _ _ en3 wf ⟨fun B4 H4 σ4 G4 en4 w4 => ⟨B4, G4, en4, w4⟩, ko.rt, fun B4 H4 σ4 G4 en4 w4 => ko.nx _ _ _ _ (drp en4) w4, fun B4 H4 σ4 G4 en4 w4 => ⟨B4, G4, en4, w4⟩⟩
    · exact wf.elim
  · left
    have e : i = xs.length := by omega
    subst e
    rw [List.drop_length] at wf
    simp only [wpFor] at wf
    exact ⟨W.stop B (MO M σ2 G2) H2 gh, ko.nx _ _ _ _ (drp en2) wf⟩
theorem oks_while {tt : TT} {t : E} {tb : TS} {body : List S} (ht : TTok K F tt t) (hb : TSsok K F tb body) : TSok K F (tWhile tt tb) (.whileS t body) := fun B0 H0 M Bg H σ G gs kd Dn en w ko => by
  simp only [wpS] at w
  obtain ⟨n, w⟩ := w
  refine ⟨fun m σ' H' => ∃ (B : AP) (G' : List Sl), EnvS K B0 H0 M B H' σ' G' gs ∧ wpWh (fun G1 Q => wpE F t (vals G1) fun x => dtru x Q) (fun G1 K1 => wpSs F body G1 K1) kd m G', ⟨n, Bg, G, en, w⟩, ?_⟩
  rintro m σ1 H1 ⟨B, G1, en1, w1⟩
  cases m with
  | zero => exact w1.elim
  | succ m =>
    simp only [wpWh] at w1
    refine ht _ _ _ _ _ _ _ en1.env w1 fun q B2 H2 e2 w2 => ?_
    cases q with
    | true =>
      simp only [if_true] at w2 ⊢
      refine ⟨fun σ' H' => ∃ (B : AP) (G' : List Sl), EnvS K B0 H0 M B H' σ' G' gs ∧ wpWh (fun G1 Q => wpE F t (vals G1) fun x => dtru x Q) (fun G1 K1 => wpSs F body G1 K1) kd m G', fun σ' H' z => ⟨m, Nat.lt_succ_self m, z⟩, ?_⟩
      exact hb _ _ _ _ _ _ _ _ _ _ (en1.grow e2) w2 ⟨fun B4 H4 σ4 G4 en4 w4 => ⟨B4, G4, en4, w4⟩, ko.rt, ko.nx, fun B4 H4 σ4 G4 en4 w4 => ⟨B4, G4, en4, w4⟩⟩
    | false =>
      simp only [Bool.false_eq_true, if_false] at w2 ⊢
      exact ko.nx _ _ _ _ (en1.grow e2) w2
end
end OC

set_option Elab.async false
set_option linter.all false
set_option maxRecDepth 100000
set_option maxHeartbeats 4000000
/-! Onecut: the look at statements, and a def by its body. -/
namespace OC
open PySem PySem.Spec PyProof.Rows L2

def asAsg : Stmt → Option (Expr × Expr × Pos)
  | .Assign [t] v p => some (t, v, p)
  | _ => none
theorem asAsg_ok {s : Stmt} {t v : Expr} {p : Pos} (h : asAsg s = some (t, v, p)) : s = .Assign [t] v p := by
  unfold asAsg at h
  split at h
  · cases h; rfl
  · cases h
def asAug : Stmt → Option (Str × Operator × Expr)
  | .AugAssign (.Name x _) o v _ => some (x, o, v)
  | _ => none
theorem asAug_ok {s : Stmt} {x : Str} {o : Operator} {v : Expr} (h : asAug s = some (x, o, v)) : ∃ p q, s = .AugAssign (.Name x p) o v q := by
  unfold asAug at h
  split at h
  · cases h; exact ⟨_, _, rfl⟩
  · cases h
def asEx : Stmt → Option (Expr × Pos)
  | .Expr v p => some (v, p)
  | _ => none
theorem asEx_ok {s : Stmt} {v : Expr} {p : Pos} (h : asEx s = some (v, p)) : s = .Expr v p := by
  unfold asEx at h
  split at h
  · cases h; rfl
  · cases h
def asMeth : Expr → Option (Str × Str × Pos × Expr × Pos)
  | .Call (.Attribute (.Name x _) m ap) [e] [] cp => some (x, m, ap, e, cp)
  | _ => none
theorem asMeth_ok {s : Expr} {x m : Str} {ap cp : Pos} {e : Expr} (h : asMeth s = some (x, m, ap, e, cp)) : ∃ p, s = .Call (.Attribute (.Name x p) m ap) [e] [] cp := by
  unfold asMeth at h
  split at h
  · cases h; exact ⟨_, rfl⟩
  · cases h
def asRet : Stmt → Option (Option Expr)
  | .Return v _ => some v
  | _ => none
theorem asRet_ok {s : Stmt} {v : Option Expr} (h : asRet s = some v) : ∃ p, s = .Return v p := by
  unfold asRet at h
  split at h
  · cases h; exact ⟨_, rfl⟩
  · cases h
def asIfS : Stmt → Option (Expr × List Stmt × List Stmt)
  | .If t a b _ => some (t, a, b)
  | _ => none
theorem asIfS_ok {s : Stmt} {t : Expr} {a b : List Stmt} (h : asIfS s = some (t, a, b)) : ∃ p, s = .If t a b p := by
  unfold asIfS at h
  split at h
  · cases h; exact ⟨_, rfl⟩
  · cases h
def asFor : Stmt → Option (Expr × Expr × List Stmt)
  | .For t i b [] _ => some (t, i, b)
  | _ => none
theorem asFor_ok {s : Stmt} {t i : Expr} {b : List Stmt} (h : asFor s = some (t, i, b)) : ∃ p, s = .For t i b [] p := by
  unfold asFor at h
  split at h
  · cases h; exact ⟨_, rfl⟩
  · cases h
def asWh : Stmt → Option (Expr × List Stmt)
  | .While t b [] _ => some (t, b)
  | _ => none
theorem asWh_ok {s : Stmt} {t : Expr} {b : List Stmt} (h : asWh s = some (t, b)) : ∃ p, s = .While t b [] p := by
  unfold asWh at h
  split at h
  · cases h; exact ⟨_, rfl⟩
  · cases h
def stK : Stmt → Nat
  | .Break _ => 1
  | .Continue _ => 2
  | .Pass _ => 3
  | _ => 0
/-- a pair of names -/
def asPair : Expr → Option (Str × Pos × Str × Pos)
  | .Tuple [.Name x px, .Name y py] _ _ => some (x, px, y, py)
  | _ => none
theorem asPair_ok {e : Expr} {x y : Str} {px py : Pos} (h : asPair e = some (x, px, y, py)) : ∃ k p, e = .Tuple [.Name x px, .Name y py] k p := by
  unfold asPair at h
  split at h
  · cases h; exact ⟨_, _, rfl⟩
  · cases h
/-- no comprehension -/
def noComp : Expr → Bool
  | .ListComp .. => false
  | .SetComp .. => false
  | .DictComp .. => false
  | _ => true
theorem sw_no {e : Expr} {t : Option Expr} {l : Nat} {env : Env} (h : noComp e = true) : swapsWith e t l env = pure false := by
  cases e <;> first | rfl | cases h
def noTup : Expr → Bool
  | .Tuple .. => false
  | _ => true
theorem ss_no {t e : Expr} {env : Env} (h : noTup e = true) : swappedStores [t] e env = pure none := by
  cases e <;> first
    | (cases h; done)
    | (cases t <;> rfl)
/-- the scope of a comprehension, and where it stands -/
def lcSc : Expr → Option (Scope × Pos)
  | .ListComp _ _ s p => some (s, p)
  | _ => none
/-- name = [..] with the names swapped -/
def swT (sc : Scope) (x : Str) (px : Pos) (e : Expr) : Bool := match lcSc e with
  | some (s, p) => isLoc sc x && (px.line == p.line) && !(s.names.any fun (n, k) => n == x && (k == .local || k == .cell))
  | none => false
theorem sw_cell {elt : Expr} {gs : List Comprehension} {scope : Scope} {pos py : Pos} {y : Str} {l : Nat} {env : Env} (hk : env.scope.kind = .function) (hy : env.scope.names.lookup y = some .cell) : swapsWith (.ListComp elt gs scope pos) (some (.Name y py)) l env = pure false := by
  have ky : env.kindOf y = some .cell := hy
  have hb : env.blockKind = .function := by unfold Env.blockKind; rw [hk]; rfl
  unfold swapsWith
  simp only [hb, ky]
  rfl
theorem ss_par {x y : Str} {px py pt pt2 : Pos} {a b : Expr} {kt k2 : Nat} {env : Env} (hk : env.scope.kind = .function) (hx : env.scope.names.lookup x = some .local) (hy : env.scope.names.lookup y = some .local) (hl : (py.line == px.line) = true) (hxy : x ≠ y)
    (ha : nst a = true) (hb : nst b = true) (hf : [a, b].all (foldedForSure 8) = false) (hc : [a, b].all (constantsAlone 8) = false) : swappedStores [.Tuple [.Name x px, .Name y py] kt pt] (.Tuple [a, b] k2 pt2) env = pure (some [x, y]) := by
  have kx : env.kindOf x = some .local := hx
  have ky : env.kindOf y = some .local := hy
  have hbk : env.blockKind = .function := by unfold Env.blockKind; rw [hk]; rfl
  have hl' : py.line = px.line := by simpa using hl
  have one : ∀ e : Expr, nst e = true → (match e with | .Starred .. => true | _ => false) = false := fun e h => by
    cases e <;> first | rfl | exact absurd h (by simp [nst])
  have n1 : ([a, b].any fun | .Starred .. => true | _ => false) = false := by
    rw [List.any_cons, List.any_cons, List.any_nil, one a ha, one b hb]
    rfl
  have hed : ([x, y] : List Str).eraseDups.length = 2 := by
    have : ¬ (y == x) = true := by simpa using fun z : y = x => hxy z.symm
    simp [List.eraseDups_cons, this]
  have hfm : (([.Name x px, .Name y py] : List Expr).filterMap fun e => match e with
      | .Name id pos => if env.kindOf id == some .local && pos.line == px.line then some id else none
      | _ => none) = [x, y] := by
    simp [List.filterMap_cons, kx, ky, hl']
  unfold swappedStores
  simp only [hbk, hf, hc]
  rw [if_neg (by simp)]
  rw [if_neg (by intro z; exact absurd (n1.symm.trans z) Bool.false_ne_true)]
  have hh : (Option.map (fun x => x.pos.line) ([Expr.Name x px, Expr.Name y py] : List Expr).head?).getD 0 = px.line := rfl
  rw [hh]
  erw [hfm]
  rw [if_neg (by rw [hed]; simp)]
  rfl
/-- a tuple of targets that is not stored from the right -/
def swN (sc : Scope) (t v : Expr) : Bool := match t, v with
  | .Tuple ts _ _, .Tuple vs _ _ => !(ts.length == 2 || ts.length == 3) || vs.all (foldedForSure 8) || ts.any fun e => match e with
    | .Name x _ => isCell sc x
    | _ => true
  | _, _ => noTup v
theorem fm_lt {α β : Type} {f : α → Option β} : ∀ {l : List α}, (∃ x ∈ l, f x = none) → (l.filterMap f).length < l.length
  | [], ⟨_, h, _⟩ => by cases h
  | a :: l, ⟨x, h, e⟩ => by
    rcases List.mem_cons.mp h with rfl | h
    · rw [List.filterMap_cons_none e]
      exact Nat.lt_succ_of_le (List.length_filterMap_le f l)
    · have ih := fm_lt ⟨x, h, e⟩
      cases ha : f a with
      | none =>
        rw [List.filterMap_cons_none ha]
        exact Nat.lt_succ_of_lt ih
      | some b =>
        rw [List.filterMap_cons_some ha]
        exact Nat.succ_lt_succ ih
theorem ss_swN {t e : Expr} {env : Env} {sc : Scope} (hs : env.scope = sc) (h : swN sc t e = true) : swappedStores [t] e env = pure none := by
  unfold swN at h
  split at h
  · rename_i ts kt pt vs k2 p2
    unfold swappedStores
    simp only [Bool.or_eq_true] at h
    dsimp only
    split
    · rfl
    split
    · rfl
    split
    · rfl
    rename_i c1 c2 c3
    split
    · rfl
    rename_i c4
    rcases h with (h | h) | h
    · exfalso
      apply c1
      simp only [h, Bool.true_or]
    · exact absurd h c4
    · exfalso
      apply c3
      simp only [List.any_eq_true] at h
      obtain ⟨x, hx, hc⟩ := h
      have : (List.filterMap (fun e => match e with
        | .Name id pos => if env.kindOf id == some .local && pos.line == (Option.map (fun x => x.pos.line) ts.head?).getD 0 then some id else none
        | _ => none) ts).length < ts.length := by
        refine fm_lt ⟨x, hx, ?_⟩
        cases x <;> first
          | rfl
          | skip
        rename_i n q
        have kn : env.kindOf n = some .cell := by
          show env.scope.names.lookup n = _
          rw [hs]
          exact isCell_ok hc
        simp [kn]
      simp only [Bool.or_eq_true, bne_iff_ne, ne_eq]
      exact .inl (Nat.ne_of_lt this)
  · exact ss_no h
/-- three names -/
def asTrip : Expr → Option (Str × Pos × Str × Pos × Str × Pos)
  | .Tuple [.Name x px, .Name y py, .Name z pz] _ _ => some (x, px, y, py, z, pz)
  | _ => none
theorem asTrip_ok {e : Expr} {x y z : Str} {px py pz : Pos} (h : asTrip e = some (x, px, y, py, z, pz)) : ∃ k p, e = .Tuple [.Name x px, .Name y py, .Name z pz] k p := by
  unfold asTrip at h
  split at h
  · cases h; exact ⟨_, _, rfl⟩
  · cases h
theorem ss_par3 {x y z : Str} {px py pz pt pt2 : Pos} {a b c : Expr} {kt k2 : Nat} {env : Env} (hk : env.scope.kind = .function) (hx : env.scope.names.lookup x = some .local) (hy : env.scope.names.lookup y = some .local) (hz : env.scope.names.lookup z = some .local)
    (hl : (py.line == px.line) = true) (hl2 : (pz.line == px.line) = true) (hxy : x ≠ y) (hxz : x ≠ z) (hyz : y ≠ z)
    (ha : nst a = true) (hb : nst b = true) (hc' : nst c = true) (hf : [a, b, c].all (foldedForSure 8) = false) (hc : [a, b, c].all (constantsAlone 8) = false) : swappedStores [.Tuple [.Name x px, .Name y py, .Name z pz] kt pt] (.Tuple [a, b, c] k2 pt2) env = pure (some [x, y, z]) := by
  have kx : env.kindOf x = some .local := hx
  have ky : env.kindOf y = some .local := hy
  have kz : env.kindOf z = some .local := hz
  have hbk : env.blockKind = .function := by unfold Env.blockKind; rw [hk]; rfl
  have hl' : py.line = px.line := by simpa using hl
  have hl2' : pz.line = px.line := by simpa using hl2
  have one : ∀ e : Expr, nst e = true → (match e with | .Starred .. => true | _ => false) = false := fun e h => by
    cases e <;> first | rfl | exact absurd h (by simp [nst])
  have n1 : ([a, b, c].any fun | .Starred .. => true | _ => false) = false := by
    rw [List.any_cons, List.any_cons, List.any_cons, List.any_nil, one a ha, one b hb, one c hc']
    rfl
  have hed : ([x, y, z] : List Str).eraseDups.length = 3 := by
    have h1 : ¬ (y == x) = true := by simpa using fun q : y = x => hxy q.symm
    have h2 : ¬ (z == x) = true := by simpa using fun q : z = x => hxz q.symm
    have h3 : ¬ (z == y) = true := by simpa using fun q : z = y => hyz q.symm
    simp [List.eraseDups_cons, h1, h2, h3]
  have hfm : (([.Name x px, .Name y py, .Name z pz] : List Expr).filterMap fun e => match e with
      | .Name id pos => if env.kindOf id == some .local && pos.line == px.line then some id else none
      | _ => none) = [x, y, z] := by
    simp [List.filterMap_cons, kx, ky, kz, hl', hl2']
  unfold swappedStores
  simp only [hbk, hf, hc]
  rw [if_neg (by simp)]
  rw [if_neg (by intro z; exact absurd (n1.symm.trans z) Bool.false_ne_true)]
  have hh : (Option.map (fun x => x.pos.line) ([Expr.Name x px, Expr.Name y py, Expr.Name z pz] : List Expr).head?).getD 0 = px.line := rfl
  rw [hh]
  erw [hfm]
  rw [if_neg (by rw [hed]; simp)]
  rfl
/-- three names, three values -/
def chk3 (C : Ck) (sc : Scope) (is : List Nat) (e : E) (t v : Expr) : Bool := match is, e, asTrip t, asTup v with
  | [i, j, l], .tup [a, b, c], some (x, px, y, py, z, pz), some [u, q, r] =>
    decide (C.N[i]? = some x) && decide (C.N[j]? = some y) && decide (C.N[l]? = some z) && decide (i ≠ j) && decide (i ≠ l) && decide (j ≠ l) && isLoc sc x && isLoc sc y && isLoc sc z && (py.line == px.line) && (pz.line == px.line) &&
    decide (x ≠ y) && decide (x ≠ z) && decide (y ≠ z) && nst u && nst q && nst r && !([u, q, r].all (foldedForSure 8)) && !([u, q, r].all (constantsAlone 8)) && chkE C sc false a u && chkE C sc false b q && chkE C sc false c r
  | _, _, _, _ => false
end OC

set_option Elab.async false
set_option linter.all false
set_option maxRecDepth 100000
set_option maxHeartbeats 4000000
namespace OC
open PySem PySem.Spec PyProof.Rows L2

theorem sws_no {t e : Expr} {l : Nat} {env : Env} (h : noComp e = true) : swapsWithSole [t] e l env = pure false := sw_no h
def slotOf (C : Ck) (sc : Scope) (i : Nat) (x : Str) : Bool := decide (C.N[i]? = some x) && (isLoc sc x || isCell sc x)
mutual
def chkS (C : Ck) (sc : Scope) : S → Stmt → Bool
  | .asg i e, st => match asAsg st with
    | some (.Name x px, v, _) => slotOf C sc i x && (noComp v || isCell sc x && (lcSc v).isSome || swT sc x px v) && chkE C sc false e v
    | _ => false
  | .asgL i es, st => match asAsg st with
    | some (.Name x _, v, _) => slotOf C sc i x && (match asLst v with
      | some vs => decide (vs.length ≤ 1000) && chkEs C sc es vs
      | none => false)
    | _ => false
  | .par i j a b, st => match asAsg st with
    | some (t, v, _) => (match asPair t, asTup v with
      | some (x, px, y, py), some [u, z] => decide (C.N[i]? = some x) && decide (C.N[j]? = some y) && decide (i ≠ j) && isLoc sc x && isLoc sc y && (py.line == px.line) && decide (x ≠ y) && nst u && nst z &&
          !([u, z].all (foldedForSure 8)) && !([u, z].all (constantsAlone 8)) && chkE C sc false a u && chkE C sc false b z
      | _, _ => false)
    | none => false
  | .unp is e, st => match asAsg st with
    | some (t, v, _) => (chkTg C.N sc (fun _ => true) (.tup is) t && noComp v && swN sc t v && chkE C sc false e v) || chk3 C sc is e t v
    | none => false
  | .aug i o e, st => match asAug st with
    | some (x, p, v) => slotOf C sc i x && opN p == opN (boOf o) && chkE C sc false e v
    | none => false
  | .extL i e, st => match asAug st with
    | some (x, p, v) => slotOf C sc i x && opN p == 0 && chkE C sc false e v
    | none => false
  | .app i e, st => match asEx st with
    | some (v, _) => (match asMeth v with
      | some (x, m, ap, y, cp) => decide (C.N[i]? = some x) && vis sc x && !(x == ("__debug__" : Str)) && !(x == ("__classdict__" : Str)) && decide (m = ("append" : Str)) && (ap.endLine == cp.line) && nst y && chkE C sc false e y
      | none => false)
    | none => false
  | .setB a n e, st => match asAsg st with
    | some (t, v, _) => (match asSub t with
      | some (x, y) => (match asConst y with | some (.int i) => i == (n : Int) | _ => false) && noComp v && noTup v && chkE C sc false e v && chkE C sc false a x
      | none => false)
    | none => false
  | .drop e, st => match asEx st with
    | some (v, _) => noComp v && chkE C sc false e v
    | none => false
  | .ret e, st => match asRet st with
    | some (some v) => chkE C sc false e v
    | _ => false
  | .retN, st => match asRet st with
    | some none => true
    | _ => false
  | .ite t a b, st => match asIfS st with
    | some (v, x, y) => chkE C sc true t v && chkSs C sc a x && chkSs C sc b y
    | none => false
  | .forS tg k as body, st => match asFor st with
    | some (t, it, b) => !isSet it && chkI C sc k as it t && chkTg C.N sc (fun _ => true) tg t && chkSs C sc body b
    | none => false
  | .whileS t body, st => match asWh st with
    | some (v, b) => chkE C sc true t v && chkSs C sc body b
    | none => false
  | .brk, st => stK st == 1
  | .cnt, st => stK st == 2
  | .pass, st => stK st == 3
  | .frz _, _ => false
def chkSs (C : Ck) (sc : Scope) : List S → List Stmt → Bool
  | [], st => st.isEmpty
  | s :: r, st => (match s with
    | .frz _ => chkSs C sc r st
    | _ => false) || (match st with
    | x :: y => chkS C sc s x && chkSs C sc r y
    | [] => false)
end

structure Gs (P : Program) (w : World) (K : PySem.W.Frag) (mg : Str → Option Value) (base : Heap) (C : Ck) (sc : Scope) (k : Nat) (X : Cx) : Prop where
  g : Gd P w K mg base C sc k X
  fn : ∀ x, X.fn x = true
  kind : sc.kind = .function
  po : PassesOwn (model X.prog X.w) X.A X.env X.xe
section
variable {P : Program} {w : World} {K : PySem.W.Frag} {mg : Str → Option Value} {base : Heap} {C : Ck} {F : List DC} {k : Nat} {sc : Scope}
theorem slot_ok {i : Nat} {x : Str} {X : Cx} (g : Gs P w K mg base C sc k X) (h : slotOf C sc i x = true) : X.N.Nodup ∧ X.N[i]? = some x ∧ Loc X.env.scope x ∧ (X.fn x = true ∨ X.env.scope.names.lookup x = some .local) := by
  unfold slotOf at h
  simp only [Bool.and_eq_true, decide_eq_true_eq, Bool.or_eq_true] at h
  refine ⟨by rw [g.g.eN]; exact g.g.nd, by rw [g.g.eN]; exact h.1, ?_, .inl (g.fn x)⟩
  rw [g.g.esc]
  rcases h.2 with z | z
  · exact .inl (isLoc_ok z)
  · exact .inr (isCell_ok z)
def SS (P : Program) (w : World) (K : PySem.W.Frag) (mg : Str → Option Value) (base : Heap) (C : Ck) (F : List DC) (k : Nat) (sc : Scope) (st : Stmt) (ir : S) : Prop := ∃ t, (∀ X, Gs P w K mg base C sc k X → PS X st t) ∧ TSok K F t ir
def SSs (P : Program) (w : World) (K : PySem.W.Frag) (mg : Str → Option Value) (base : Heap) (C : Ck) (F : List DC) (k : Nat) (sc : Scope) (st : List Stmt) (ir : List S) : Prop := ∃ t, (∀ X, Gs P w K mg base C sc k X → PSs X st t) ∧ TSsok K F t ir
/-- name = [..], the names swapped -/
theorem ss_lc (W : Wr P w K mg base C F k) {i : Nat} {x : Str} {px pos : Pos} {e : E} {v : Expr} (hs : slotOf C sc i x = true) (hw : swT sc x px v = true) (he : chkE C sc false e v = true) : SS P w K mg base C F k sc (.Assign [.Name x px] v pos) (.asg i e) := by
  unfold swT at hw
  split at hw
  · rename_i scope p hv
    cases v <;> simp only [lcSc] at hv <;> first
      | (cases hv; done)
      | skip
    rename_i elt0 gens scope0 p0
    cases hv
    simp only [Bool.and_eq_true, Bool.not_eq_true'] at hw
    obtain ⟨⟨hl, hline⟩, hany⟩ := hw
    cases e <;> simp only [chkE, asConst, asName, asBin, asUn, asCmp, asBool, asIf, asTup, asLst, asSub, asCall, Bool.and_false, Bool.false_eq_true] at he
    rename_i elt tg ik its ifs own
    simp only [Bool.not_false, Bool.true_or, Bool.true_and] at he
    split at he
    · rename_i el t it fs scope1 hx
      obtain ⟨ps, hx⟩ := asLC_ok hx
      cases hx
      simp only [Bool.and_eq_true, Bool.not_eq_true'] at he
      obtain ⟨⟨⟨⟨⟨⟨hset, hblk⟩, hi⟩, htg⟩, hin⟩, hf⟩, he⟩ := he
      obtain ⟨wi, i1, i2⟩ := sI W its ik sc _ _ hi
      obtain ⟨tf, f1, f2⟩ := sF W ifs (relS scope sc) _ hf
      obtain ⟨te, e1, e2⟩ := (sE W elt (relS scope sc) _).1 he
      refine ⟨_, fun X gs => ?_, oks_asg (ok_lc i2 f2 e2 (tg_in hin))⟩
      have g := gs.g
      obtain ⟨n1, n2, _, _⟩ := slot_ok gs hs
      have hlx : X.env.scope.names.lookup x = some .local := by rw [g.esc]; exact isLoc_ok hl
      refine ps_setLc g.calm n1 n2 hlx (sw_true (by rw [g.esc]; exact gs.kind) hlx hline hany) (i1 X g) (by rw [g.eN, g.esc]; exact blkOk_by hblk) (fun s H Ca cl fp => ?_) (fun s H Ca cl fp => f1 _ (g.blk s H Ca cl fp)) (fun s H Ca cl fp => e1 _ (g.blk s H Ca cl fp)) (fold_ok hset)
      have gb := g.blk (scope := scope) s H Ca cl fp
      have := pg_of (X := X.blk s H scope (compEnvC scope cl Ca X.env) fp) (C := C) gb.eN gb.nd gb.calm gb.esc (fun x hx => by
        show (scope.names.lookup x == some .cell) = true
        rw [isCell_ok hx]
        rfl) htg
      have eK : (X.blk s H scope (compEnvC scope cl Ca X.env) fp).K = K := g.eK
      rw [eK] at this
      exact this
    · cases he
  · cases hw
mutual
theorem sS (W : Wr P w K mg base C F k) : ∀ (ir : S) (sc : Scope) (st : Stmt), chkS C sc ir st = true → SS P w K mg base C F k sc st ir
  | .asg i e, sc, st, h => by
    rw [chkS] at h
    split at h
    · rename_i x px v pos hx
      obtain rfl := asAsg_ok hx
      simp only [Bool.and_eq_true, Bool.or_eq_true] at h
      obtain ⟨⟨hs, hc⟩, he⟩ := h
      obtain ⟨t, h1, h2⟩ := (sE W e sc v).1 he
      rcases hc with (hc | hc) | hc
      · refine ⟨_, fun X g => ?_, oks_asg h2⟩
        obtain ⟨n1, n2, n3, n4⟩ := slot_ok g hs
        exact ps_set n1 n2 n3 (h1 X g.g) (sw_no hc) n4
      · obtain ⟨hcell, hv⟩ := hc
        refine ⟨_, fun X g => ?_, oks_asg h2⟩
        obtain ⟨n1, n2, n3, n4⟩ := slot_ok g hs
        refine ps_set n1 n2 n3 (h1 X g.g) ?_ n4
        cases v <;> first
          | (cases hv; done)
          | skip
        exact sw_cell (by rw [g.g.esc]; exact g.kind) (by rw [g.g.esc]; exact isCell_ok hcell)
      · exact ss_lc W hs hc he
    · cases h
  | .asgL i es, sc, st, h => by
    rw [chkS] at h
    split at h
    · rename_i x px v pos hx
      obtain rfl := asAsg_ok hx
      simp only [Bool.and_eq_true] at h
      obtain ⟨hs, he⟩ := h
      split at he
      · rename_i vs hv
        obtain ⟨p, rfl⟩ := asLst_ok hv
        simp only [Bool.and_eq_true, decide_eq_true_eq] at he
        obtain ⟨t, h1, h2, h3, h4⟩ := sEs W es sc vs he.2
        refine ⟨_, fun X g => ?_, oks_asgL h2 (by rw [← h4]; exact he.1)⟩
        obtain ⟨n1, n2, n3, n4⟩ := slot_ok g hs
        exact ps_set n1 n2 n3 (pe_lst (h1 X g.g)) (sw_no rfl) n4
      · cases he
    · cases h
  | .par i j a b, sc, st, h => by
    rw [chkS] at h
    split at h
    · rename_i t v pos hx
      obtain rfl := asAsg_ok hx
      split at h
      · rename_i x px y py u z hp ht
        obtain ⟨kt, pt, rfl⟩ := asPair_ok hp
        obtain ⟨k2, pt2, rfl⟩ := asTup_ok ht
        simp only [Bool.and_eq_true, decide_eq_true_eq, Bool.not_eq_true'] at h
        obtain ⟨⟨⟨⟨⟨⟨⟨⟨⟨⟨⟨⟨hi, hj⟩, hij⟩, lx⟩, ly⟩, hl⟩, hxy⟩, nu⟩, nz⟩, hf⟩, hc⟩, ha⟩, hb⟩ := h
        obtain ⟨ta, h1, h2⟩ := (sE W a sc u).1 ha
        obtain ⟨tb, h3, h4⟩ := (sE W b sc z).1 hb
        refine ⟨_, fun X g => ?_, oks_par h2 h4⟩
        have ex : X.env.scope.names.lookup x = some .local := by rw [g.g.esc]; exact isLoc_ok lx
        have ey : X.env.scope.names.lookup y = some .local := by rw [g.g.esc]; exact isLoc_ok ly
        exact ps_par g.g.calm (by rw [g.g.eN]; exact g.g.nd) (by rw [g.g.eN]; exact hi) (by rw [g.g.eN]; exact hj) hij ex ey (pa_cons (h1 X g.g) (pa_cons (h3 X g.g) pa_nil (star_cons nz)) (star_cons nu))
          (ss_par (by rw [g.g.esc]; exact g.kind) ex ey hl hxy nu nz hf hc) (sws_no rfl)
      · cases h
    · cases h
  | .unp is e, sc, st, h => by
    rw [chkS] at h
    split at h
    · rename_i t v pos hx
      obtain rfl := asAsg_ok hx
      rw [Bool.or_eq_true] at h
      rcases h with h | h
      rotate_left
      · unfold chk3 at h
        split at h
        · rename_i i j l a b c x px y py z pz u q r hp ht
          obtain ⟨kt, pt, rfl⟩ := asTrip_ok hp
          obtain ⟨k2, pt2, rfl⟩ := asTup_ok ht
          simp only [Bool.and_eq_true, decide_eq_true_eq, Bool.not_eq_true'] at h
          obtain ⟨⟨⟨⟨⟨⟨⟨⟨⟨⟨⟨⟨⟨⟨⟨⟨⟨⟨⟨⟨⟨hi, hj⟩, hl⟩, hij⟩, hil⟩, hjl⟩, lx⟩, ly⟩, lz⟩, l1⟩, l2⟩, hxy⟩, hxz⟩, hyz⟩, nu⟩, nq⟩, nr⟩, hf⟩, hc⟩, ha⟩, hb⟩, hcc⟩ := h
          obtain ⟨ta, h1, h2⟩ := (sE W a sc u).1 ha
          obtain ⟨tb, h3, h4⟩ := (sE W b sc q).1 hb
          obtain ⟨tc, h5, h6⟩ := (sE W c sc r).1 hcc
          refine ⟨_, fun X g => ?_, oks_par3 h2 h4 h6⟩
          have ex : X.env.scope.names.lookup x = some .local := by rw [g.g.esc]; exact isLoc_ok lx
          have ey : X.env.scope.names.lookup y = some .local := by rw [g.g.esc]; exact isLoc_ok ly
          have ez : X.env.scope.names.lookup z = some .local := by rw [g.g.esc]; exact isLoc_ok lz
          exact ps_par3 g.g.calm (by rw [g.g.eN]; exact g.g.nd) (by rw [g.g.eN]; exact hi) (by rw [g.g.eN]; exact hj) (by rw [g.g.eN]; exact hl) hij hil hjl ex ey ez
            (pa_cons (h1 X g.g) (pa_cons (h3 X g.g) (pa_cons (h5 X g.g) pa_nil (star_cons nr)) (star_cons nq)) (star_cons nu))
            (ss_par3 (by rw [g.g.esc]; exact g.kind) ex ey ez l1 l2 hxy hxz hyz nu nq nr hf hc) (sws_no rfl)
        · cases h
      simp only [Bool.and_eq_true] at h
      obtain ⟨⟨⟨ht, n1⟩, n2⟩, he⟩ := h
      obtain ⟨te, h1, h2⟩ := (sE W e sc v).1 he
      have tt : ∃ es j p, t = .Tuple es j p := by
        simp only [chkTg] at ht
        split at ht
        · rename_i es hes
          obtain ⟨j, p, rfl⟩ := asTup_ok hes
          exact ⟨es, j, p, rfl⟩
        · cases ht
      refine ⟨_, fun X g => ?_, oks_unp h2⟩
      have := pg_of (X := X) (C := C) g.g.eN g.g.nd g.g.calm g.g.esc (fun x _ => g.fn x) ht
      rw [g.g.eK] at this
      obtain ⟨es, j, p, rfl⟩ := tt
      exact ps_asg (h1 X g.g) this (sws_no n1) (ss_swN g.g.esc n2) rfl
    · cases h
  | .aug i o e, sc, st, h => by
    rw [chkS] at h
    split at h
    · rename_i x p v hx
      obtain ⟨q, r, rfl⟩ := asAug_ok hx
      simp only [Bool.and_eq_true] at h
      obtain ⟨⟨hs, ho⟩, he⟩ := h
      obtain rfl := op_of ho
      obtain ⟨te, h1, h2⟩ := (sE W e sc v).1 he
      refine ⟨_, fun X g => ?_, oks_aug h2⟩
      obtain ⟨n1, n2, n3, n4⟩ := slot_ok g hs
      exact ps_aug n1 n2 n3 (h1 X g.g) (pip_of X o) n4
    · cases h
  | .extL i e, sc, st, h => by
    rw [chkS] at h
    split at h
    · rename_i x p v hx
      obtain ⟨q, r, rfl⟩ := asAug_ok hx
      simp only [Bool.and_eq_true] at h
      obtain ⟨⟨hs, ho⟩, he⟩ := h
      obtain rfl := op_of (o := .add) ho
      obtain ⟨te, h1, h2⟩ := (sE W e sc v).1 he
      refine ⟨_, fun X g => ?_, oks_extL h2⟩
      obtain ⟨n1, n2, n3, n4⟩ := slot_ok g hs
      exact ps_aug n1 n2 n3 (h1 X g.g) iop_ext n4
    · cases h
  | .app i e, sc, st, h => by
    rw [chkS] at h
    split at h
    · rename_i v pos hx
      obtain rfl := asEx_ok hx
      split at h
      · rename_i x m ap y cp hm
        obtain ⟨p, rfl⟩ := asMeth_ok hm
        simp only [Bool.and_eq_true, decide_eq_true_eq, Bool.not_eq_true'] at h
        obtain ⟨⟨⟨⟨⟨⟨⟨hi, hv⟩, hd⟩, hcd⟩, rfl⟩, hl⟩, hn⟩, he⟩ := h
        obtain ⟨te, h1, h2⟩ := (sE W e sc y).1 he
        refine ⟨_, fun X g => ?_, oks_app h2⟩
        have := pe_bm (X := X) (apos := ap) (cpos := cp) PySem.F.plainAttrs_list PySem.F.slot_list_append PySem.F.type_list_append mt_append (pe_var (pos := p) (by rw [g.g.eN]; exact hi) (by rw [g.g.esc]; exact vis_ok hv) hd hcd) (pa_cons (h1 X g.g) pa_nil (star_cons hn)) rfl (by rw [star_cons hn]; rfl) hl (star_cons hn) rfl
        rw [g.g.eK] at this
        exact ps_expr this (sw_no rfl)
      · cases h
    · cases h
  | .setB a n e, sc, st, h => by
    rw [chkS] at h
    split at h
    · rename_i t v pos hx
      obtain rfl := asAsg_ok hx
      split at h
      · rename_i x y hs
        obtain ⟨p, rfl⟩ := asSub_ok hs
        simp only [Bool.and_eq_true] at h
        obtain ⟨⟨⟨⟨hn, n1⟩, n2⟩, he⟩, ha⟩ := h
        split at hn
        · rename_i i hi
          obtain ⟨j, q, rfl⟩ := asConst_ok hi
          have e0 : i = (n : Int) := by simpa using hn
          subst e0
          obtain ⟨te, h1, h2⟩ := (sE W e sc v).1 he
          obtain ⟨ta, h3, h4⟩ := (sE W a sc x).1 ha
          exact ⟨_, fun X g => ps_asg (h1 X g.g) (pg_sub (h3 X g.g) pe_int set_list) (sws_no n1) (ss_no n2) rfl, oks_setB h2 h4⟩
        · cases hn
      · cases h
    · cases h
  | .drop e, sc, st, h => by
    rw [chkS] at h
    split at h
    · rename_i v pos hx
      obtain rfl := asEx_ok hx
      simp only [Bool.and_eq_true] at h
      obtain ⟨te, h1, h2⟩ := (sE W e sc v).1 h.2
      exact ⟨_, fun X g => ps_expr (h1 X g.g) (sw_no h.1), oks_drop h2⟩
    · cases h
  | .ret e, sc, st, h => by
    rw [chkS] at h
    split at h
    · rename_i v hx
      obtain ⟨p, rfl⟩ := asRet_ok hx
      obtain ⟨te, h1, h2⟩ := (sE W e sc v).1 h
      exact ⟨_, fun X g => ps_ret (h1 X g.g), oks_ret h2⟩
    · cases h
  | .retN, sc, st, h => by
    rw [chkS] at h
    split at h
    · rename_i hx
      obtain ⟨p, rfl⟩ := asRet_ok hx
      exact ⟨_, fun X g => ps_retN, oks_retN⟩
    · cases h
  | .ite t a b, sc, st, h => by
    rw [chkS] at h
    split at h
    · rename_i v x y hx
      obtain ⟨p, rfl⟩ := asIfS_ok hx
      simp only [Bool.and_eq_true] at h
      obtain ⟨tt, h1, h2⟩ := (sE W t sc v).2 h.1.1
      obtain ⟨ta, h3, h4⟩ := sSs W a sc x h.1.2
      obtain ⟨tb, h5, h6⟩ := sSs W b sc y h.2
      exact ⟨_, fun X g => ps_if (h1 X g.g).1 (h3 X g) (h5 X g), oks_ite h2 h4 h6⟩
    · cases h
  | .forS tg ik as body, sc, st, h => by
    rw [chkS] at h
    split at h
    · rename_i t it b hx
      obtain ⟨p, rfl⟩ := asFor_ok hx
      simp only [Bool.and_eq_true, Bool.not_eq_true'] at h
      obtain ⟨⟨⟨hset, hi⟩, ht⟩, hb⟩ := h
      obtain ⟨wi, i1, i2⟩ := sI W as ik sc it t hi
      obtain ⟨tb, h3, h4⟩ := sSs W body sc b hb
      refine ⟨_, fun X g => ?_, oks_for (tg := tg) i2 h4⟩
      have := pg_of (X := X) (C := C) g.g.eN g.g.nd g.g.calm g.g.esc (fun x _ => g.fn x) ht
      rw [g.g.eK] at this
      exact ps_for g.po g.g.calm (i1 X g.g) this (h3 X g) (fold_ok hset)
    · cases h
  | .whileS t body, sc, st, h => by
    rw [chkS] at h
    split at h
    · rename_i v b hx
      obtain ⟨p, rfl⟩ := asWh_ok hx
      simp only [Bool.and_eq_true] at h
      obtain ⟨tt, h1, h2⟩ := (sE W t sc v).2 h.1
      obtain ⟨tb, h3, h4⟩ := sSs W body sc b h.2
      exact ⟨_, fun X g => ps_while g.po (h1 X g.g).1 (h3 X g), oks_while h2 h4⟩
    · cases h
  | .brk, sc, st, h => by
    rw [chkS] at h
    cases st <;> first
      | exact ⟨_, fun X g => ps_break, oks_brk⟩
      | (exact absurd h (by decide))
      | (simp [stK] at h)
  | .cnt, sc, st, h => by
    rw [chkS] at h
    cases st <;> first
      | exact ⟨_, fun X g => ps_continue, oks_cnt⟩
      | (simp [stK] at h)
  | .pass, sc, st, h => by
    rw [chkS] at h
    cases st <;> first
      | exact ⟨_, fun X g => ps_pass, oks_pass⟩
      | (simp [stK] at h)
  | .frz _, sc, st, h => by rw [chkS] at h; cases h
theorem sSs (W : Wr P w K mg base C F k) : ∀ (irs : List S) (sc : Scope) (st : List Stmt), chkSs C sc irs st = true → SSs P w K mg base C F k sc st irs
  | [], sc, st, h => by
    rw [chkSs] at h
    cases st with
    | nil => exact ⟨_, fun X g => pss_nil, oks_nil⟩
    | cons _ _ => cases h
  | s :: r, sc, st, h => by
    rw [chkSs.eq_def] at h
    simp only at h
    rw [Bool.or_eq_true] at h
    rcases h with h | h
    · split at h
      · obtain ⟨t, h1, h2⟩ := sSs W r sc st h
        exact ⟨t, h1, oks_frz h2⟩
      · cases h
    · cases st with
      | nil => cases h
      | cons x y =>
        simp only [Bool.and_eq_true] at h
        obtain ⟨t, h1, h2⟩ := sS W s sc x h.1
        obtain ⟨u, h3, h4⟩ := sSs W r sc y h.2
        exact ⟨_, fun X g => pss_cons (h1 X g) (h3 X g), oks_cons h2 h4⟩
end
end

/-- what the look asks of a def -/
def chkFn (C : Ck) (np : Nat) (body : List S) (st : Stmt) : Bool :=
  (match (defScope st).kind with | .function => true | _ => false) && !(defScope st).isCoroutine && !(defScope st).isGenerator && decide C.N.Nodup && ((C.N.take np).all fun x => isLoc (defScope st) x || isCell (defScope st) x) &&
    ((defScope st).names.all fun y => match y.2 with | .free => false | _ => true) && decide (np ≤ C.N.length) && chkSs C (defScope st) body (defBody st)
theorem start_get {N : List Str} {vs : List V} {i : Nat} (h : i < vs.length) : (L2.start N vs)[i]? = some (vs[i]?) := by
  unfold L2.start
  rw [List.getElem?_append_left (by rw [List.length_map]; exact h), List.getElem?_map]
  rw [List.getElem?_eq_getElem h]
  rfl
/-- THE RULE: a def of the text keeps a promise over plain data if its body in the small language does -/
theorem fn_ok {P : Program} {w : World} {K : PySem.W.Frag} {mg : Str → Option Value} {base : Heap} {C : Ck} {F : List DC} {k : Nat} {x qual : Str} {st : Stmt} {f : Addr} {fd : FuncData} {np : Nat} {body : List S} {c : DC} (W : Wr P w K mg base C F k) (Fu : Fun K x qual st f fd)
    (hck : chkFn C np body st = true) (hm : mg x = some (.ref f)) (hb : Binds K fd (C.N.take np) []) (hlen : ∀ ds Q, c ds Q → ds.length = np) (hc : ∀ ds Q, c ds Q → wpBody F C.N.length body ds Q) : FOK P w K mg base (k + 1) x c := by
  unfold chkFn at hck
  simp only [Bool.and_eq_true, decide_eq_true_eq, Bool.not_eq_true', List.all_eq_true] at hck
  obtain ⟨⟨⟨⟨⟨⟨⟨h1, h2⟩, h3⟩, h4⟩, h5⟩, h6⟩, h7⟩, h8⟩ := hck
  have hkind : (defScope st).kind = .function := by
    split at h1
    · assumption
    · cases h1
  have hpl : (C.N.take np).length = np := by rw [List.length_take]; omega
  have S : FnScope C.N (C.N.take np) (defScope st) := ⟨hkind, h2, h3, h4, by rw [hpl], fun y hy => by
    have := h5 y hy
    rw [Bool.or_eq_true] at this
    exact this.imp isLoc_ok isCell_ok, fun y hy z => by
    have := h6 y hy
    rw [z] at this
    cases this⟩
  obtain ⟨t, t1, t2⟩ := sSs W body (defScope st) (defBody st) h8
  refine ⟨f, fd, C.N.take np, hm, Fu.kp, hb, fun ds Q q => by rw [hpl]; exact hlen ds Q q, ?_⟩
  refine g_fn Fu S (fun vs H Q E h => ?_) (fun cdv A outer s H vs Q E hr hg h => ?_)
  · obtain ⟨Bg, M, ds, Qd, _, _, rl, hl, _⟩ := h
    rw [rl.len, hl]
  · obtain ⟨Bg, M, ds, Qd, bg, md, rl, hl, hcd, post⟩ := h
    refine ⟨t, t1 _ ⟨⟨rfl, rfl, rfl, rfl, rfl, rfl, h4, rfl, rfl, hr, hg⟩, fun _ => rfl, hkind, PassesOwn.never⟩, ?_⟩
    have hds : ds.length ≤ C.N.length := by rw [hl, hpl]; exact h7
    have noown : ∀ (i : Nat) xs, (start0 C.N.length ds)[i]? = some (Sl.own xs) → False := fun i xs z => by
      unfold start0 at z
      by_cases q : i < ds.length
      · rw [List.getElem?_append_left (by rw [List.length_map]; exact q), List.getElem?_map] at z
        cases e : ds[i]? with
        | none => rw [e] at z; cases z
        | some d => rw [e] at z; cases z
      · rw [List.getElem?_append_right (by rw [List.length_map]; omega), List.getElem?_replicate] at z
        split at z <;> cases z
    have mo : ∀ a, MO M (L2.start C.N vs) (start0 C.N.length ds) a → M a := fun a z => by
      rcases z with z | ⟨i, xs, z, _⟩
      · exact z
      · exact (noown i xs z).elim
    refine t2 Bg H M Bg H _ (start0 C.N.length ds) [] _ _ ⟨Ext.refl bg, md, ?_, fun i d z => ?_, fun i xs z => (noown i xs z).elim, fun i _ _ xs _ z => (noown i xs z).elim, fun p hp => nomatch hp⟩ (hc ds Qd hcd) ⟨fun B1 H1 σ1 G1 en1 q => ?_, fun B1 H1 v d e1 r q => post d v B1 H1 e1 r q, fun _ _ _ _ _ z => z.elim, fun _ _ _ _ _ z => z.elim⟩
    · unfold L2.start start0
      rw [List.length_append, List.length_append, List.length_map, List.length_map, List.length_replicate, List.length_replicate, rl.len]
    · unfold start0 at z
      by_cases q : i < ds.length
      · rw [List.getElem?_append_left (by rw [List.length_map]; exact q), List.getElem?_map] at z
        cases e : ds[i]? with
        | none => rw [e] at z; cases z
        | some d' =>
          rw [e] at z
          have z : some (Sl.val d') = some (Sl.val d) := z
          cases z
          obtain ⟨v, hv, rv⟩ := rl.get e
          refine ⟨v, ?_, rv.less bg mo⟩
          rw [start_get (by rw [rl.len]; exact q), hv]
      · rw [List.getElem?_append_right (by rw [List.length_map]; omega), List.getElem?_replicate] at z
        split at z <;> cases z
    · exact post .non .non B1 H1 en1.ext .non q
end OC

set_option Elab.async false
set_option linter.all false
set_option maxRecDepth 100000
set_option maxHeartbeats 4000000
/-! Onecut: from the law's promise over plain data to the row's walk. -/
namespace OC
open PySem PySem.Spec PyProof.Rows L2

theorem law_fok {P : Program} {w : World} {K : PySem.W.Frag} {mg mb : Str → Option Value} {k : Nat} {fa a : Addr} {x : Str} {c : DC} {s1 : Shared} {vs : List Value} {ns : List Int}
    (KX : K.In s1.heap) (hns : s1.heap.Ns mainGlobals mg) (hb : s1.heap.Ns builtinsNs mb) (hbb : ∀ x : Str, x ≠ "__name__" → mb x = bootBuiltins x) (hlim : s1.heap.NoLimit) (hg : s1.gens = #[]) (hx : mg x = some (.ref fa))
    (ha : s1.heap.get? a = some { cls := .type "list", data := .seq vs.toArray }) (hi : IntsAre vs ns) (hl : ns.length ≤ sizeLine) (hr : Room k callerA) (F : ∀ base : Heap, K.In base → base.Ns mainGlobals mg → FOK P w K mg base k x c) (hc : c [.scr ns] fun d => d = .bl true) :
    codeAny (model P w) callerA (.call (.ref fa) ⟨[.ref a], []⟩) (fun r s' => r = .ok (.ret (.bool true)) ∧ OldK s1.heap s'.heap ∧ s'.os = s1.os ∧ AllBare s'.gens) s1 := by
  have go : ∀ H : Hp, (∀ b, H b = none ∨ ∃ o xs, H b = some (.frz o (.lst xs))) → Rep K (fun _ => False) (fun _ => False) H (.ref a) (.scr ns) → HOk P w H s1.heap → (∀ b, H b ≠ none → b = a) → (H a ≠ none → K.lookup a = none) →
      codeAny (model P w) callerA (.call (.ref fa) ⟨[.ref a], []⟩) (fun r s' => r = .ok (.ret (.bool true)) ∧ OldK s1.heap s'.heap ∧ s'.os = s1.os ∧ AllBare s'.gens) s1 := by
    intro H hO hS hok hA hK
    have free : ∀ {b : Addr} {o : Obj} {es : Array DictEntry} {ep : Nat}, s1.heap.get? b = some o → o.data = .dict es ep → H b = none := fun {b o es ep} e d => by
      cases q : H b with
      | none => rfl
      | some u =>
        obtain rfl : b = a := hA b (fun z => by rw [q] at z; cases z)
        rw [ha] at e
        cases e
        exact absurd d (fun z => by cases z)
    have low : ∀ {b : Addr} {m : Str → Option Value}, s1.heap.Ns b m → (hidT s1.heap H).Ns b m := by
      rintro b m ⟨o, es, ep, e, d, r⟩
      exact ⟨o, es, ep, hidT_get e (free e d), d, r⟩
    have kin : K.In (hidT s1.heap H) := fun b o e => hidT_get (KX b o e) (by
      cases q : H b with
      | none => rfl
      | some u =>
        have nz : H b ≠ none := fun z => by rw [q] at z; cases z
        obtain rfl : b = a := hA b nz
        rw [hK nz] at e
        cases e)
    have lim : (hidT s1.heap H).NoLimit := by
      obtain ⟨mc, h1, h2⟩ := hlim
      exact ⟨mc, low h1, h2⟩
    obtain ⟨f, fd, ps, e1, e2, e3, e4, e5⟩ := F (hidT s1.heap H) kin (low hns)
    rw [hx] at e1
    cases e1
    have hps : ps.length = 1 := (e4 _ _ hc).symm
    have e0 : Env0 P w K mg (hidT s1.heap H) callerA [] s1 H :=
      ⟨rfl, ⟨kin, low hns, ⟨mb, low hb, hbb⟩, lim⟩, fun b o e => of_hidT e, Nat.le_of_eq (hidT_size _ _), trivial, fun b hb => (nomatch hb), hok, .of_eq hg⟩
    have bind := e3 s1 [.ref a] KX (by rw [hps]; rfl)
    refine codeAny_mono (e5.run callerA [] s1 H ⟨[.ref a], []⟩ [.ref a] [.ref a] (fun v _ => v = .bl true) (fun _ _ _ => False) hr rfl e0 bind (.cons rfl .nil) ?_) fun r s' h => ?_
    · refine ⟨fun _ => False, fun _ => False, [.scr ns], fun d => d = .bl true, fun _ z => z.elim, fun _ z => z.elim, .cons hS .nil, by rw [hps]; rfl, hc, fun d v B' H' _ r q => ?_⟩
      subst q
      exact r.bl_inv
    · cases r with
      | error e => exact False.elim h
      | ok fl =>
        cases fl with
        | next => exact h.elim
        | brk => exact h.elim
        | cont => exact h.elim
        | ret u =>
          obtain ⟨v, H', os, bare, un, hok', r', q⟩ := h
          cases q
          cases (show u = Value.bool true from r')
          refine ⟨rfl, OldK.of_keep fun b o e => ?_, os, bare⟩
          rcases hO b with z | ⟨ob, xs, z⟩
          · exact un.keep b o e z (fun y => (nomatch y)) (fun y => (nomatch y))
          · obtain ⟨k1, _⟩ := hok b _ z
            obtain ⟨k2, _⟩ := hok' b _ (un.frzs b ob _ z)
            exact k2.trans (k1.symm.trans e)
  have rv := vals_ints hi
  cases hk : K.lookup a with
  | some o =>
    have e := KX a o hk
    rw [ha] at e
    cases e
    refine go (fun _ => none) (fun _ => .inl rfl) (.scrK ⟨_, vs.toArray, _, hk, rfl, rfl, rfl, ?_, by simpa using rv⟩) (fun b u z => nomatch z) (fun b z => absurd rfl z) (fun z => absurd rfl z)
    rw [List.size_toArray, hi.length]
    exact hl
  | none =>
    refine go (fun b => if b = a then some (.frz { cls := .type "list", data := .seq vs.toArray } (.lst (ns.map V.int))) else none) (fun b => ?_) (.scr (if_pos rfl) (fun z => z) (fun z => z)) (fun b u z => ?_) (fun b z => ?_) (fun _ => hk)
    · by_cases q : b = a
      · exact .inr ⟨_, _, if_pos q⟩
      · exact .inl (if_neg q)
    · by_cases q : b = a
      · cases (if_pos q).symm.trans z
        subst q
        exact ⟨ha, by rw [List.length_map]; exact hl, vs, _, rv, ha⟩
      · cases (if_neg q).symm.trans z
    · by_cases q : b = a
      · exact q
      · exact absurd (if_neg q) z
theorem walkG {l : PySem.W.OpenLaw} {n k : Nat} {q : Program} {loose : List Str} {XP : (Str → Option Value) → Heap → Prop} {YP : World → Heap → Prop} {d : DefRec} {K : Params → PySem.W.Frag} {c : DC} (hn : l.most = some n) (hn2 : n ≤ sizeLine) (hdf : d.params.defaults = []) (hr : Room k callerA)
    (hY : ∀ (w : World) (h : Heap), YP w h → (K w.params).In h) (F : ∀ (w : World) (mg : Str → Option Value) (h : Heap), (K w.params).In h → h.Ns mainGlobals mg → ∀ base : Heap, (K w.params).In base → base.Ns mainGlobals mg → FOK l.prog w (K w.params) mg base k d.name c)
    (hc : ∀ ns : List Int, ns.length ≤ n → c [.scr ns] fun d => d = .bl true) : PySem.W.WalkO q loose XP YP l.row.toRowW d [] (fun f vs => PySem.call f vs) :=
  Att.attach_call hn hdf fun w _ _ mg _ _ _ _ _ _ _ _ ns G Y _ _ _ hmg hobj hints hlen hg => law_fok (hY w _ Y) G.T.g G.T.b G.T.builtins G.T.nolimit hg hmg hobj hints (Nat.le_trans hlen hn2) hr (F w mg _ (hY w _ Y) G.T.g) (hc ns hlen)
end OC

set_option Elab.async false
set_option linter.all false
set_option maxRecDepth 100000
set_option maxHeartbeats 4000000
/-! Onecut: a weaker wish; statements one by one; loops by what holds between two turns. -/
namespace OC
open PySem PySem.Spec PyProof.Rows L2

def Mono (c : DC) : Prop := ∀ ds (P Q : D → Prop), (∀ d, P d → Q d) → c ds P → c ds Q
def MonoF (F : List DC) : Prop := ∀ c ∈ F, Mono c
theorem bop_mono {o : BO} {x y : D} {P Q : D → Prop} (h : ∀ d, P d → Q d) (w : bop o x y P) : bop o x y Q := by
  unfold bop at w ⊢
  split <;> simp_all
theorem cop_mono {o : CO} {x y : D} {P Q : D → Prop} (h : ∀ d, P d → Q d) (w : cop o x y P) : cop o x y Q := by
  unfold cop at w ⊢
  split <;> simp_all
theorem dtru_mono {x : D} {P Q : Bool → Prop} (h : ∀ d, P d → Q d) (w : dtru x P) : dtru x Q := by
  cases x <;> first | exact w.elim | exact h _ w
theorem ixop_mono {x y : D} {P Q : D → Prop} (h : ∀ d, P d → Q d) (w : ixop x y P) : ixop x y Q := by
  cases x <;> cases y <;> first
    | exact w.elim
    | (simp only [ixop] at w ⊢; split <;> simp_all)
theorem ixnop_mono {x : D} {n : Nat} {P Q : D → Prop} (h : ∀ d, P d → Q d) (w : ixnop x n P) : ixnop x n Q := by
  cases x <;> first
    | exact w.elim
    | (simp only [ixnop] at w ⊢; split <;> simp_all; done)
theorem slcop_mono {x : D} {l u : Option Int} {P Q : D → Prop} (h : ∀ d, P d → Q d) (w : slcop x l u P) : slcop x l u Q := by
  unfold slcop at w ⊢
  split <;> simp_all
theorem withPart_mono {l : List D} {P Q : Option Int → Prop} (h : ∀ d, P d → Q d) (w : withPart l P) : withPart l Q := by
  unfold withPart at w ⊢
  split <;> simp_all
theorem biop_mono {f : Bi} {ds : List D} {P Q : D → Prop} (h : ∀ d, P d → Q d) (w : biop f ds P) : biop f ds Q := by
  unfold biop at w ⊢
  split
  case h_9 => split <;> simp_all
  case h_10 => split <;> simp_all
  case h_11 => split <;> simp_all
  all_goals simp_all
theorem itemsOf_mono {k : IK} {ds : List D} {P Q : List D → Prop} (h : ∀ d, P d → Q d) (w : itemsOf k ds P) : itemsOf k ds Q := by
  unfold itemsOf at w ⊢
  split <;> simp_all
theorem wpMap_mono {f : D → (Option D → Prop) → Prop} (hf : ∀ d (P Q : Option D → Prop), (∀ o, P o → Q o) → f d P → f d Q) {P Q : List D → Prop} (h : ∀ d, P d → Q d) : ∀ (xs acc : List D), wpMap f xs acc P → wpMap f xs acc Q
  | [], acc, w => h _ w
  | x :: xs, acc, w => by
    simp only [wpMap] at w ⊢
    refine hf x _ _ (fun o z => ?_) w
    cases o with
    | some y => exact wpMap_mono hf h xs _ z
    | none => exact wpMap_mono hf h xs _ z
section
variable {F : List DC}
mutual
theorem wpE_mono (hF : MonoF F) : ∀ (e : E) {G : List (Option D)} {P Q : D → Prop}, (∀ d, P d → Q d) → wpE F e G P → wpE F e G Q
  | .var i, G, P, Q, h, w => by
    simp only [wpE] at w ⊢
    split <;> simp_all
  | .k d, G, P, Q, h, w => by
    simp only [wpE] at w ⊢
    exact h _ w
  | .bin o a b, G, P, Q, h, w => by
    simp only [wpE] at w ⊢
    exact wpE_mono hF a (fun x => wpE_mono hF b fun y => bop_mono h) w
  | .neg a, G, P, Q, h, w => by
    simp only [wpE] at w ⊢
    refine wpE_mono hF a (fun x z => ?_) w
    split <;> simp_all
  | .cmp o a b, G, P, Q, h, w => by
    simp only [wpE] at w ⊢
    exact wpE_mono hF a (fun x => wpE_mono hF b fun y => cop_mono h) w
  | .chain o p a b c, G, P, Q, h, w => by
    simp only [wpE] at w ⊢
    refine wpE_mono hF a (fun x => wpE_mono hF b fun y => cop_mono fun r => dtru_mono fun q z => ?_) w
    split
    · rename_i hq
      rw [if_pos hq] at z
      exact wpE_mono hF c (fun u => cop_mono h) z
    · rename_i hq
      rw [if_neg hq] at z
      exact h _ z
  | .andv a b, G, P, Q, h, w => by
    simp only [wpE] at w ⊢
    refine wpE_mono hF a (fun x => dtru_mono fun q z => ?_) w
    split
    · rename_i hq
      rw [if_pos hq] at z
      exact wpE_mono hF b h z
    · rename_i hq
      rw [if_neg hq] at z
      exact h _ z
  | .orv a b, G, P, Q, h, w => by
    simp only [wpE] at w ⊢
    refine wpE_mono hF a (fun x => dtru_mono fun q z => ?_) w
    split
    · rename_i hq
      rw [if_pos hq] at z
      exact h _ z
    · rename_i hq
      rw [if_neg hq] at z
      exact wpE_mono hF b h z
  | .notv a, G, P, Q, h, w => by
    simp only [wpE] at w ⊢
    exact wpE_mono hF a (fun x => dtru_mono fun q z => h _ z) w
  | .ite t a b, G, P, Q, h, w => by
    simp only [wpE] at w ⊢
    refine wpE_mono hF t (fun x => dtru_mono fun q z => ?_) w
    split
    · rename_i hq
      rw [if_pos hq] at z
      exact wpE_mono hF a h z
    · rename_i hq
      rw [if_neg hq] at z
      exact wpE_mono hF b h z
  | .tup as, G, P, Q, h, w => by
    simp only [wpE] at w ⊢
    exact wpEs_mono hF as (fun ds z => h _ z) w
  | .lst as, G, P, Q, h, w => by
    simp only [wpE] at w ⊢
    exact wpEs_mono hF as (fun ds z => h _ z) w
  | .mkbag a b, G, P, Q, h, w => by
    simp only [wpE] at w ⊢
    refine wpE_mono hF a (fun x => wpE_mono hF b fun y z => ?_) w
    split <;> simp_all
  | .ixn a n, G, P, Q, h, w => by
    simp only [wpE] at w ⊢
    exact wpE_mono hF a (fun x => ixnop_mono h) w
  | .ix a b, G, P, Q, h, w => by
    simp only [wpE] at w ⊢
    exact wpE_mono hF a (fun x => wpE_mono hF b fun y => ixop_mono h) w
  | .slc a lo hi, G, P, Q, h, w => by
    simp only [wpE] at w ⊢
    exact wpE_mono hF a (fun x => wpEs_mono hF lo fun l => withPart_mono fun p => wpEs_mono hF hi fun u => withPart_mono fun q => slcop_mono h) w
  | .call f as, G, P, Q, h, w => by
    simp only [wpE] at w ⊢
    refine wpEs_mono hF as (fun ds z => ?_) w
    cases q : F[f]? with
    | none => rw [q] at z; exact z
    | some c =>
      rw [q] at z
      exact hF c (List.mem_of_getElem? q) ds _ _ h z
  | .bi f as, G, P, Q, h, w => by
    simp only [wpE] at w ⊢
    exact wpEs_mono hF as (fun ds => biop_mono h) w
  | .isi a t, G, P, Q, h, w => by
    simp only [wpE] at w ⊢
    exact wpE_mono hF a (fun x z => ⟨z.1, h _ z.2⟩) w
  | .lc elt tg k its ifs own, G, P, Q, h, w => by
    simp only [wpE] at w ⊢
    refine wpEs_mono hF its (fun ds => itemsOf_mono fun xs z => ⟨z.1, ?_⟩) w
    refine wpMap_mono (fun d A B hab y => ?_) (fun ys y => h _ y) xs [] z.2
    split
    · rename_i G1 hG
      rw [hG] at y
      exact wpIf_mono hF ifs (fun u => wpE_mono hF elt (fun v q => hab _ q) u) (fun u => hab _ u) y
    · rename_i hG
      rw [hG] at y
      exact y
theorem wpEs_mono (hF : MonoF F) : ∀ (es : List E) {G : List (Option D)} {P Q : List D → Prop}, (∀ d, P d → Q d) → wpEs F es G P → wpEs F es G Q
  | [], G, P, Q, h, w => by
    simp only [wpEs] at w ⊢
    exact h _ w
  | e :: es, G, P, Q, h, w => by
    simp only [wpEs] at w ⊢
    exact wpE_mono hF e (fun d => wpEs_mono hF es fun ds z => h _ z) w
theorem wpIf_mono (hF : MonoF F) : ∀ (es : List E) {G : List (Option D)} {A B A' B' : Prop}, (A → A') → (B → B') → wpIf F es G A B → wpIf F es G A' B'
  | [], G, A, B, A', B', ha, hb, w => by
    simp only [wpIf] at w ⊢
    exact ha w
  | e :: es, G, A, B, A', B', ha, hb, w => by
    simp only [wpIf] at w ⊢
    refine wpE_mono hF e (fun d => dtru_mono fun q z => ?_) w
    split
    · rename_i hq
      rw [if_pos hq] at z
      exact ha z
    · rename_i hq
      rw [if_neg hq] at z
      exact hb z
end
/-- an expression by what its value is -/
theorem ev (hF : MonoF F) {e : E} {G : List (Option D)} {Q : D → Prop} (P : D → Prop) (h : wpE F e G P) (k : ∀ d, P d → Q d) : wpE F e G Q := wpE_mono hF e k h

/-! ### statements, the first of a block -/
variable {G : List Sl} {K : Ks} {r : List S}
theorem sq_nil : wpSs F [] G K = K.nx G := by rw [wpSs]
theorem sq_asg {i : Nat} {e : E} : wpSs F (.asg i e :: r) G K = wpE F e (vals G) fun d => wpSs F r (G.set i (.val d)) K := by first | (rw [wpSs, wpS]; done) | (rw [wpSs, wpS]; rfl)
theorem sq_asgL {i : Nat} {es : List E} : wpSs F (.asgL i es :: r) G K = wpEs F es (vals G) fun ds => wpSs F r (G.set i (.own ds)) K := by first | (rw [wpSs, wpS]; done) | (rw [wpSs, wpS]; rfl)
theorem sq_par {i j : Nat} {a b : E} : wpSs F (.par i j a b :: r) G K = wpE F a (vals G) fun x => wpE F b (vals G) fun y => wpSs F r ((G.set i (.val x)).set j (.val y)) K := by first | (rw [wpSs, wpS]; done) | (rw [wpSs, wpS]; rfl)
theorem sq_unp {is : List Nat} {e : E} : wpSs F (.unp is e :: r) G K = wpE F e (vals G) fun d => match bindS (.tup is) d G with | some G1 => wpSs F r G1 K | none => False := by first | (rw [wpSs, wpS]; done) | (rw [wpSs, wpS]; rfl)
theorem sq_aug {i : Nat} {o : BO} {e : E} : wpSs F (.aug i o e :: r) G K = match getV (vals G) i with | some x => wpE F e (vals G) fun y => augop o x y fun z => wpSs F r (G.set i (.val z)) K | none => False := by first | (rw [wpSs, wpS]; done) | (rw [wpSs, wpS]; rfl)
theorem sq_app {i : Nat} {e : E} : wpSs F (.app i e :: r) G K = match getO G i with | some xs => wpE F e (vals G) fun d => xs.length < 100000 ∧ wpSs F r (G.set i (.own (xs ++ [d]))) K | none => False := by first | (rw [wpSs, wpS]; done) | (rw [wpSs, wpS]; rfl)
theorem sq_extL {i : Nat} {e : E} : wpSs F (.extL i e :: r) G K = match getO G i with | some xs => wpE F e (vals G) fun d => (match d with | .lst ys => xs.length + ys.length < 100000 ∧ wpSs F r (G.set i (.own (xs ++ ys))) K | _ => False) | none => False := by first | (rw [wpSs, wpS]; done) | (rw [wpSs, wpS]; rfl)
theorem sq_drop {e : E} : wpSs F (.drop e :: r) G K = wpE F e (vals G) fun _ => wpSs F r G K := by first | (rw [wpSs, wpS]; done) | (rw [wpSs, wpS]; rfl)
theorem sq_ret {e : E} : wpSs F (.ret e :: r) G K = wpE F e (vals G) K.rt := by first | (rw [wpSs, wpS]; done) | (rw [wpSs, wpS]; rfl)
theorem sq_retN : wpSs F (.retN :: r) G K = K.rt .non := by first | (rw [wpSs, wpS]; done) | (rw [wpSs, wpS]; rfl)
theorem sq_frz {is : List Nat} : wpSs F (.frz is :: r) G K = wpSs F r (frzS G is) K := by first | (rw [wpSs, wpS]; done) | (rw [wpSs, wpS]; rfl)
theorem sq_ite {t : E} {a b : List S} : wpSs F (.ite t a b :: r) G K = wpE F t (vals G) fun x => dtru x fun q => if q = true then wpSs F a G { K with nx := fun G1 => wpSs F r G1 K } else wpSs F b G { K with nx := fun G1 => wpSs F r G1 K } := by first | (rw [wpSs, wpS]; done) | (rw [wpSs, wpS]; rfl)
theorem sq_for {tg : Tg} {k : IK} {as : List E} {body : List S} : wpSs F (.forS tg k as body :: r) G K = wpEs F as (vals G) fun ds => itemsOf k ds fun xs => wpFor (fun G1 K1 => wpSs F body G1 K1) tg { K with nx := fun G1 => wpSs F r G1 K } xs G := by first | (rw [wpSs, wpS]; done) | (rw [wpSs, wpS]; rfl)
theorem sq_while {t : E} {body : List S} : wpSs F (.whileS t body :: r) G K = ∃ n, wpWh (fun G1 Q => wpE F t (vals G1) fun x => dtru x Q) (fun G1 K1 => wpSs F body G1 K1) { K with nx := fun G1 => wpSs F r G1 K } n G := by first | (rw [wpSs, wpS]; done) | (rw [wpSs, wpS]; rfl)
theorem sq_brk : wpSs F (.brk :: r) G K = K.bk G := by first | (rw [wpSs, wpS]; done) | (rw [wpSs, wpS]; rfl)
theorem sq_cnt : wpSs F (.cnt :: r) G K = K.ct G := by first | (rw [wpSs, wpS]; done) | (rw [wpSs, wpS]; rfl)
/-! ### loops -/
theorem for_inv {body : List Sl → Ks → Prop} {tg : Tg} {k : Ks} (I : List Sl → Prop) : ∀ (xs : List D), (∀ d ∈ xs, ∀ G, I G → ∀ nx : List Sl → Prop, (∀ G', I G' → nx G') → match bindS tg d G with | some G1 => body G1 { nx := nx, rt := k.rt, bk := k.nx, ct := nx } | none => False) →
    (∀ G, I G → k.nx G) → ∀ G, I G → wpFor body tg k xs G
  | [], _, hn, G, hi => hn G hi
  | d :: ds, hs, hn, G, hi => hs d List.mem_cons_self G hi _ fun G' hi' => for_inv I ds (fun e he => hs e (List.mem_cons_of_mem _ he)) hn G' hi'
/-- with what was walked so far -/
theorem for_pre {body : List Sl → Ks → Prop} {tg : Tg} {k : Ks} (I : List D → List Sl → Prop) : ∀ (xs pre : List D), (∀ pre' d post, pre ++ xs = pre' ++ d :: post → ∀ G, I pre' G → ∀ nx : List Sl → Prop, (∀ G', I (pre' ++ [d]) G' → nx G') → match bindS tg d G with | some G1 => body G1 { nx := nx, rt := k.rt, bk := k.nx, ct := nx } | none => False) →
    (∀ G, I (pre ++ xs) G → k.nx G) → ∀ G, I pre G → wpFor body tg k xs G
  | [], pre, _, hn, G, hi => hn G (by rw [List.append_nil]; exact hi)
  | d :: ds, pre, hs, hn, G, hi => hs pre d ds rfl G hi _ fun G' hi' => for_pre I ds (pre ++ [d]) (fun pre' e post he => hs pre' e post (by rw [← he, List.append_assoc]; rfl)) (fun G2 h2 => hn G2 (by rw [List.append_assoc] at h2; exact h2)) G' hi'
theorem while_inv {test : List Sl → (Bool → Prop) → Prop} {body : List Sl → Ks → Prop} {k : Ks} (I : Nat → List Sl → Prop) (hs : ∀ m G, I m G → ∀ nx : List Sl → Prop, (∀ m' G', m' < m → I m' G' → nx G') → test G fun b => if b = true then body G { nx := nx, rt := k.rt, bk := k.nx, ct := nx } else k.nx G) :
    ∀ (n m : Nat), m < n → ∀ G, I m G → wpWh test body k n G
  | 0, m, h, _, _ => absurd h (Nat.not_lt_zero m)
  | n + 1, m, h, G, hi => hs m G hi _ fun m' G' hm hi' => while_inv I hs n m' (by omega) G' hi'
/-- a comprehension whose turns are known -/
theorem map_det {f : D → (Option D → Prop) → Prop} {Q : List D → Prop} (g : D → Option D) : ∀ (xs acc : List D), (∀ x ∈ xs, ∀ kk : Option D → Prop, kk (g x) → f x kk) → Q (acc ++ xs.filterMap g) → wpMap f xs acc Q
  | [], acc, _, q => by simpa [wpMap] using q
  | x :: xs, acc, h, q => by
    rw [wpMap]
    refine h x List.mem_cons_self _ ?_
    cases e : g x with
    | none => exact map_det g xs acc (fun y hy => h y (List.mem_cons_of_mem _ hy)) (by rw [List.filterMap_cons, e] at q; exact q)
    | some y => exact map_det g xs (acc ++ [y]) (fun z hz => h z (List.mem_cons_of_mem _ hz)) (by rw [List.filterMap_cons, e] at q; simpa using q)
theorem map_all {f : D → (Option D → Prop) → Prop} {Q : List D → Prop} (g : D → D) (xs : List D) (h : ∀ x ∈ xs, ∀ kk : Option D → Prop, kk (some (g x)) → f x kk) (q : Q (xs.map g)) : wpMap f xs [] Q :=
  map_det (fun x => some (g x)) xs [] h (by rw [List.nil_append, List.filterMap_eq_map']; exact q)
end
end OC

set_option Elab.async false
set_option linter.all false
set_option maxRecDepth 100000
set_option maxHeartbeats 4000000
set_option exponentiation.threshold 20000
/-! Onecut: what the laws share: the bag and its draws, common divisors. -/
namespace OC
open PySem PySem.Spec PyProof.Rows L2

local macro_rules | `(tactic| walk_at "oc") => `(tactic| simp only [wpE, wpEs, getV, vals, Sl.v, List.map_cons, List.map_nil, List.set, bop, augop, cop, ixnop, biop, dtru, itemsOf, bindS, setAllS, bindV, setAll, if_true, if_false, Bool.false_eq_true, List.getElem?_cons_zero, List.getElem?_cons_succ])
local macro_rules | `(tactic| walk_at "oc0") => `(tactic| simp only [wpBody, start0, List.map_cons, List.map_nil, List.length, List.replicate, List.cons_append, List.nil_append, Nat.reduceAdd, Nat.reduceSub])

/-! ### numbers -/
theorem log2_lt {x : Int} {n : Nat} (hn : 0 < n) (h : x.natAbs < 2 ^ n) : x.natAbs.log2 < n := PySem.Flt.log2_lt_of hn h
theorem fmod_pos {a b : Int} (h : 0 < b) : a.fmod b = a % b := Int.fmod_eq_emod_of_nonneg a (Int.le_of_lt h)
theorem fdiv_pos {a b : Int} (h : 0 < b) : a.fdiv b = a / b := Int.fdiv_eq_ediv_of_nonneg a (Int.le_of_lt h)
theorem fmod_lt {a b : Int} (h : 0 < b) : 0 ≤ a.fmod b ∧ a.fmod b < b := by
  rw [fmod_pos h]
  exact ⟨Int.emod_nonneg a (Int.ne_of_gt h), Int.emod_lt_of_pos a h⟩

/-! ### a draw -/
def c_take : DC := fun ds Q => ∃ n : Int, ds = [.bag, .int n] ∧ 0 < n ∧ n.natAbs.log2 < 9000 ∧ ∀ r : Int, 0 ≤ r → r < n → Q (.int r)
theorem c_take_len : ∀ ds Q, c_take ds Q → ds.length = 2 := by
  rintro ds Q ⟨n, rfl, _⟩
  rfl
def b_take : List S := [.ite (.cmp .gt (.ixn (.var 0) 0) (.k (.int 0))) [.asg 2 (.bin .mod (.ixn (.var 0) 0) (.var 1)), .setB (.var 0) 0 (.bin .fdiv (.ixn (.var 0) 0) (.var 1)), .ret (.var 2)] [], .setB (.var 0) 1 (.bin .mod (.bin .mul (.ixn (.var 0) 1) (.k (.int 48271))) (.k (.int 2147483647))), .ret (.bin .mod (.bin .fdiv (.bin .mod (.bin .mul (.ixn (.var 0) 1) (.k (.int 69621))) (.k (.int 2147483629))) (.bin .pow (.k (.int 16)) (.k (.int 2)))) (.var 1))]
theorem mulW {i j : Int} {a b : Nat} (ha : i.natAbs < 2 ^ a) (hb : j.natAbs < 2 ^ b) (h0 : 0 < a := by decide) (h1 : 0 < b := by decide) (h : a + b ≤ 1000000 := by decide) : CMulW i j := wide_mul ha hb h0 h1 h
theorem take_ok {F : List DC} : ∀ ds Q, c_take ds Q → wpBody F 3 b_take ds Q := by
  rintro ds Q ⟨n, rfl, hn, hl, hq⟩
  unfold b_take
  walk_at "oc0"
  rw [sq_ite]
  walk_at "oc"
  intro i hi
  by_cases h : (0 : Int) < i
  · rw [decide_eq_true h, if_pos rfl, sq_asg]
    walk_at "oc"
    refine fun j hj => ⟨Int.ne_of_gt hn, ?_⟩
    rw [wpSs, wpS]
    walk_at "oc"
    refine fun m hm => ⟨⟨Int.ne_of_gt hn, hl⟩, ⟨⟨by decide, ?_, fun z => absurd z (by decide)⟩, ?_⟩⟩
    · rw [fdiv_pos hn]
      exact Int.ediv_nonneg hm (Int.le_of_lt hn)
    · rw [sq_ret]
      exact hq _ (fmod_lt hn).1 (fmod_lt hn).2
  · rw [decide_eq_false h, if_neg Bool.false_ne_true, sq_nil]
    show wpSs F _ _ _
    rw [wpSs, wpS]
    walk_at "oc"
    refine fun j hj hj2 => ⟨mulW (a := 33) (b := 17) (by omega) (by decide), by decide, ⟨by decide, (fmod_lt (by decide)).1, fun _ => ?_⟩, ?_⟩
    · have := (fmod_lt (a := j * 48271) (b := 2147483647) (by decide)).2
      omega
    · rw [sq_ret]
      walk_at "oc"
      refine fun m hm hm2 => ⟨mulW (a := 33) (b := 18) (by omega) (by decide), by decide, ⟨by decide, by decide, by decide⟩, ⟨by decide, by decide⟩, Int.ne_of_gt hn, ?_⟩
      exact hq _ (fmod_lt hn).1 (fmod_lt hn).2

/-! ### picking -/
theorem at_in {xs : List D} {r : Int} (h0 : 0 ≤ r) (h1 : r < (xs.length : Int)) : ∃ d, d ∈ xs ∧ atI xs r = some d := by
  obtain ⟨j, rfl⟩ := Int.eq_ofNat_of_zero_le h0
  have hj : j < xs.length := by omega
  exact ⟨xs[j], List.getElem_mem hj, atI_nat (List.getElem?_eq_getElem hj)⟩
theorem ix_any {xs : List D} {r : Int} {Q : D → Prop} (h0 : 0 ≤ r) (h1 : r < (xs.length : Int)) (h : ∀ d ∈ xs, Q d) : ixop (.lst xs) (.int r) Q := by
  obtain ⟨d, hd, e⟩ := at_in h0 h1
  unfold ixop
  simp only [e]
  exact h d hd
theorem ix_anyT {xs : List D} {r : Int} {Q : D → Prop} (h0 : 0 ≤ r) (h1 : r < (xs.length : Int)) (h : ∀ d ∈ xs, Q d) : ixop (.tup xs) (.int r) Q := by
  obtain ⟨d, hd, e⟩ := at_in h0 h1
  unfold ixop
  simp only [e]
  exact h d hd

/-! ### the bag -/
def c_bag : DC := fun ds Q => ∃ (ns : List Int) (a : Int), ds = [.scr ns, .int a] ∧ 0 ≤ a ∧ a < 64 ∧ Q .bag
theorem c_bag_len : ∀ ds Q, c_bag ds Q → ds.length = 2 := by
  rintro ds Q ⟨n, a, rfl, _⟩
  rfl
def b_bag : List S := [.asg 2 (.tup [.k (.int 2147483647), .k (.int 2147483629), .k (.int 2147483587), .k (.int 2147483579), .k (.int 2147483563), .k (.int 2147483549), .k (.int 2147483543)]), .asg 3 (.ite (.cmp .lt (.var 1) (.bi .len [.var 0])) (.ix (.var 0) (.var 1)) (.k (.int 0))), .asg 4 (.ite (.cmp .ge (.bi .abs [.var 3]) (.bin .pow (.k (.int 10)) (.k (.int 18)))) (.bi .abs [.var 3]) (.k (.int 0))), .asg 5 (.bin .mod (.bin .pow (.bin .add (.bin .add (.bin .mod (.var 3) (.k (.int 2305843009213693951))) (.bin .mul (.k (.int 40961)) (.var 1))) (.k (.int 19))) (.k (.int 3))) (.ix (.var 2) (.bin .mod (.var 1) (.k (.int 7))))), .ret (.mkbag (.var 4) (.bin .add (.bin .mod (.bin .mul (.var 5) (.bin .add (.bin .add (.bin .fdiv (.var 5) (.k (.int 5))) (.bin .mul (.k (.int 3)) (.var 1))) (.k (.int 11)))) (.ix (.var 2) (.bin .mod (.bin .add (.var 1) (.k (.int 2))) (.k (.int 7))))) (.k (.int 1))))]
def primes : List D := [.int 2147483647, .int 2147483629, .int 2147483587, .int 2147483579, .int 2147483563, .int 2147483549, .int 2147483543]
theorem primes_any {m : Int} {Q : D → Prop} (h : ∀ p : Int, 2147483543 ≤ p → p ≤ 2147483647 → Q (.int p)) : ixop (.tup primes) (.int (m.fmod 7)) Q := by
  have := fmod_lt (a := m) (b := 7) (by decide)
  refine ix_anyT this.1 this.2 fun d hd => ?_
  simp only [primes, List.mem_cons, List.not_mem_nil, or_false] at hd
  rcases hd with rfl | rfl | rfl | rfl | rfl | rfl | rfl <;> exact h _ (by decide) (by decide)
theorem bag_ok {F : List DC} (hF : MonoF F) : ∀ ds Q, c_bag ds Q → wpBody F 6 b_bag ds Q := by
  rintro ds Q ⟨ns, a, rfl, h0, ha, hq⟩
  unfold b_bag
  walk_at "oc0"
  rw [sq_asg]
  walk_at "oc"
  rw [sq_asg]
  refine ev hF (fun d => ∃ c : Int, d = .int c) ?_ ?_
  · walk_at "oc"
    split
    · rename_i h
      have h := of_decide_eq_true h
      obtain ⟨j, rfl⟩ := Int.eq_ofNat_of_zero_le h0
      have hj : j < ns.length := by omega
      have e : atI ns (j : Int) = some ns[j] := atI_nat (List.getElem?_eq_getElem hj)
      simp only [ixop, e]
      exact ⟨_, rfl⟩
    · exact ⟨0, rfl⟩
  rintro _ ⟨c, rfl⟩
  rw [sq_asg]
  refine ev hF (fun d => ∃ L : Int, d = .int L ∧ 0 ≤ L) ?_ ?_
  · walk_at "oc"
    exact ⟨⟨by decide, by decide, by decide⟩, ite2 (fun _ => ⟨_, rfl, by split <;> omega⟩) (fun _ => ⟨0, rfl, by decide⟩)⟩
  rintro _ ⟨L, rfl, hL⟩
  rw [sq_asg]
  have hc := fmod_lt (a := c) (b := 2305843009213693951) (by decide)
  walk_at "oc"
  refine ⟨by decide, mulW (a := 17) (b := 7) (by decide) (by omega), ⟨by decide, by decide, by omega⟩, by decide, ?_⟩
  refine primes_any fun p hp1 hp2 => ?_
  have hm := fmod_lt (a := (c.fmod 2305843009213693951 + 40961 * a + 19) ^ (3 : Int).toNat) (b := p) (by omega)
  refine ⟨by omega, ?_⟩
  generalize (c.fmod 2305843009213693951 + 40961 * a + 19) ^ (3 : Int).toNat = z at hm
  rw [sq_ret]
  walk_at "oc"
  generalize z.fmod p = mx at hm
  have d5 : mx.fdiv 5 = mx / 5 := fdiv_pos (by decide)
  refine ⟨⟨by decide, by decide⟩, mulW (a := 2) (b := 7) (by decide) (by omega), mulW (a := 31) (b := 31) (by omega) (by rw [d5]; omega), by decide, ?_⟩
  refine primes_any fun q hq1 hq2 => ?_
  have := fmod_lt (a := mx * (mx.fdiv 5 + 3 * a + 11)) (b := q) (by omega)
  exact ⟨by omega, ⟨hL, by omega, by omega⟩, hq⟩

/-! ### common divisors -/
theorem natAbs_fmod {a b : Int} (h : b ≠ 0) : (a.fmod b).natAbs < b.natAbs := by
  rcases Int.lt_or_gt_of_ne h with h | h
  · have e := Int.neg_fmod_neg (-a) (-b)
    rw [Int.neg_neg, Int.neg_neg] at e
    have q := fmod_lt (a := -a) (b := -b) (by omega)
    rw [e]
    omega
  · have q := fmod_lt (a := a) (b := b) h
    omega
theorem gcd_fmod (a b : Int) : Int.gcd b (a.fmod b) = Int.gcd a b := by
  rw [Int.fmod_def, Int.gcd_sub_mul_left_right, Int.gcd_comm]
def c_part : DC := fun ds Q => ∃ a b : Int, ds = [.int a, .int b] ∧ Q (.int (Int.gcd a b))
theorem c_part_len : ∀ ds Q, c_part ds Q → ds.length = 2 := by
  rintro ds Q ⟨n, a, rfl, _⟩
  rfl
def b_part : List S := [.whileS (.cmp .ne (.var 1) (.k (.int 0))) [.par 0 1 (.var 1) (.bin .mod (.var 0) (.var 1))], .ret (.bi .abs [.var 0])]
theorem part_ok {F : List DC} : ∀ ds Q, c_part ds Q → wpBody F 2 b_part ds Q := by
  rintro ds Q ⟨a, b, rfl, hq⟩
  unfold b_part
  walk_at "oc0"
  rw [sq_while]
  refine ⟨b.natAbs + 1, while_inv (fun m G => ∃ x y : Int, G = [.val (.int x), .val (.int y)] ∧ m = y.natAbs ∧ Int.gcd x y = Int.gcd a b) ?_ _ b.natAbs (Nat.lt_succ_self _) _ ⟨a, b, rfl, rfl, rfl⟩⟩
  rintro m _ ⟨x, y, rfl, rfl, hg⟩ nx hnx
  walk_at "oc"
  by_cases h : y = 0
  · rw [decide_eq_true h]
    refine iteF ?_
    subst h
    rw [sq_ret]
    walk_at "oc"
    rw [← hg] at hq
    have e : (if x < 0 then -x else x) = ((Int.gcd x 0 : Nat) : Int) := by
      rw [Int.gcd_zero_right]
      split <;> omega
    rw [e]
    exact hq
  · rw [decide_eq_false h]
    refine iteT ?_
    rw [sq_par]
    walk_at "oc"
    refine ⟨h, ?_⟩
    rw [sq_nil]
    exact hnx _ _ (natAbs_fmod h) ⟨_, _, rfl, rfl, by rw [gcd_fmod, hg]⟩
/-- the divisor with the sign of the second -/
def sg (a b : Int) : Int := if b < 0 then -(Int.gcd a b : Int) else (Int.gcd a b : Int)
def lowT (a b : Int) : Int := a.fdiv (sg a b)
def lowU (a b : Int) : Int := b.fdiv (sg a b)
def R2 (r : Int × Int) : D := .tup [.int r.1, .int r.2]
theorem sg_ne {a b : Int} (h : b ≠ 0) : sg a b ≠ 0 := by
  have : Int.gcd a b ≠ 0 := fun z => h (Int.gcd_eq_zero_iff.mp z).2
  unfold sg
  split <;> omega
theorem sg_abs (a b : Int) : (sg a b).natAbs = Int.gcd a b := by
  unfold sg
  split <;> omega
theorem sg_dvd_l (a b : Int) : sg a b ∣ a := by
  unfold sg
  split
  · exact Int.neg_dvd.mpr (Int.gcd_dvd_left ..)
  · exact Int.gcd_dvd_left ..
theorem sg_dvd_r (a b : Int) : sg a b ∣ b := by
  unfold sg
  split
  · exact Int.neg_dvd.mpr (Int.gcd_dvd_right ..)
  · exact Int.gcd_dvd_right ..
theorem low_a {a b : Int} : lowT a b * sg a b = a := Int.fdiv_mul_cancel (sg_dvd_l a b)
theorem low_b {a b : Int} : lowU a b * sg a b = b := Int.fdiv_mul_cancel (sg_dvd_r a b)
theorem low_pos {a b : Int} (h : b ≠ 0) : 0 < lowU a b := by
  have h1 := low_b (a := a) (b := b)
  have hg := sg_ne (a := a) h
  rcases Int.lt_trichotomy (lowU a b) 0 with q | q | q
  · exfalso
    by_cases hb : b < 0
    · have hs : sg a b < 0 := by
        unfold sg at hg ⊢
        rw [if_pos hb] at hg ⊢
        omega
      have := Int.mul_pos_of_neg_of_neg q hs
      omega
    · have hs : 0 < sg a b := by
        unfold sg at hg ⊢
        rw [if_neg hb] at hg ⊢
        omega
      have := Int.mul_neg_of_neg_of_pos q hs
      omega
  · rw [q, Int.zero_mul] at h1
    exact absurd h1.symm h
  · exact q
theorem low_eq {a b : Int} : lowT a b * b = a * lowU a b := by
  have h1 := low_a (a := a) (b := b)
  have h2 := low_b (a := a) (b := b)
  calc lowT a b * b = lowT a b * (lowU a b * sg a b) := by rw [h2]
    _ = (lowT a b * sg a b) * lowU a b := by rw [Int.mul_comm (lowU a b), ← Int.mul_assoc]
    _ = a * lowU a b := by rw [h1]
theorem low_gcd {a b : Int} (h : b ≠ 0) : Int.gcd (lowT a b) (lowU a b) = 1 := by
  have h1 := low_a (a := a) (b := b)
  have h2 := low_b (a := a) (b := b)
  have e : Int.gcd (lowT a b * sg a b) (lowU a b * sg a b) = Int.gcd (lowT a b) (lowU a b) * (sg a b).natAbs := Int.gcd_mul_right ..
  rw [h1, h2, sg_abs] at e
  have hp : 0 < Int.gcd a b := Nat.pos_of_ne_zero fun z => h (Int.gcd_eq_zero_iff.mp z).2
  exact Nat.eq_of_mul_eq_mul_right hp (by rw [Nat.one_mul]; exact e.symm)
theorem low_absT {a b : Int} (h : b ≠ 0) : (lowT a b).natAbs ≤ a.natAbs := by
  have h1 := low_a (a := a) (b := b)
  have hp : 0 < (sg a b).natAbs := Int.natAbs_pos.mpr (sg_ne h)
  have e : (lowT a b).natAbs * (sg a b).natAbs = a.natAbs := by rw [← Int.natAbs_mul, h1]
  rw [← e]
  exact Nat.le_mul_of_pos_right _ hp
theorem low_absU {a b : Int} (h : b ≠ 0) : (lowU a b).natAbs ≤ b.natAbs := by
  have h1 := low_b (a := a) (b := b)
  have hp : 0 < (sg a b).natAbs := Int.natAbs_pos.mpr (sg_ne h)
  have e : (lowU a b).natAbs * (sg a b).natAbs = b.natAbs := by rw [← Int.natAbs_mul, h1]
  rw [← e]
  exact Nat.le_mul_of_pos_right _ hp
theorem gcd_le_r {a b : Int} (h : b ≠ 0) : Int.gcd a b ≤ b.natAbs := Nat.le_of_dvd (Int.natAbs_pos.mpr h) (by
  have := Int.natAbs_dvd_natAbs.mpr (Int.gcd_dvd_right (a := a) (b := b))
  rwa [Int.natAbs_natCast] at this)
def c_lowest : DC := fun ds Q => ∃ a b : Int, ds = [.int a, .int b] ∧ b ≠ 0 ∧ b.natAbs < 2 ^ 8000 ∧ Q (R2 (lowT a b, lowU a b))
theorem c_lowest_len : ∀ ds Q, c_lowest ds Q → ds.length = 2 := by
  rintro ds Q ⟨n, a, rfl, _⟩
  rfl
def b_lowest (p : Nat) : List S := [.asg 2 (.call p [.var 0, .var 1]), .ite (.cmp .lt (.var 1) (.k (.int 0))) [.asg 2 (.neg (.var 2))] [], .ret (.tup [.bin .fdiv (.var 0) (.var 2), .bin .fdiv (.var 1) (.var 2)])]
theorem lowest_ok {F : List DC} {p : Nat} (hp : F[p]? = some c_part) : ∀ ds Q, c_lowest ds Q → wpBody F 3 (b_lowest p) ds Q := by
  rintro ds Q ⟨a, b, rfl, hb, hl, hq⟩
  unfold b_lowest
  walk_at "oc0"
  rw [sq_asg]
  walk_at "oc"
  simp only [hp]
  refine ⟨a, b, rfl, ?_⟩
  have hs : sg a b ≠ 0 ∧ (sg a b).natAbs.log2 < 9000 := ⟨sg_ne hb, by
    rw [sg_abs]
    exact Nat.lt_trans (log2_lt (x := (Int.gcd a b : Int)) (n := 8000) (by decide) (Nat.lt_of_le_of_lt (gcd_le_r hb) hl)) (by decide)⟩
  dsimp only
  rw [sq_ite]
  walk_at "oc"
  by_cases h : b < 0
  · rw [decide_eq_true h]
    refine iteT ?_
    rw [sq_asg]
    walk_at "oc"
    rw [sq_nil]
    show wpSs F _ _ _
    rw [sq_ret]
    walk_at "oc"
    have e : -((Int.gcd a b : Nat) : Int) = sg a b := by unfold sg; rw [if_pos h]
    rw [e]
    exact ⟨hs, hs, hq⟩
  · rw [decide_eq_false h]
    refine iteF ?_
    rw [sq_nil]
    show wpSs F _ _ _
    rw [sq_ret]
    walk_at "oc"
    have e : ((Int.gcd a b : Nat) : Int) = sg a b := by unfold sg; rw [if_neg h]
    rw [e]
    exact ⟨hs, hs, hq⟩

/-! ### integers, ratios -/
theorem mono_take : Mono c_take := by
  rintro ds P Q h ⟨n, rfl, h1, h2, h3⟩
  exact ⟨n, rfl, h1, h2, fun r a b => h _ (h3 r a b)⟩
theorem mono_bag : Mono c_bag := by
  rintro ds P Q h ⟨n, a, rfl, h1, h2, h3⟩
  exact ⟨n, a, rfl, h1, h2, h _ h3⟩
theorem mono_part : Mono c_part := by
  rintro ds P Q h ⟨a, b, rfl, h3⟩
  exact ⟨a, b, rfl, h _ h3⟩
theorem mono_lowest : Mono c_lowest := by
  rintro ds P Q h ⟨a, b, rfl, h1, h2, h3⟩
  exact ⟨a, b, rfl, h1, h2, h _ h3⟩
/-- a draw below a number, anything wanted of it -/
theorem draw {Q : D → Prop} {n : Int} (hn : 0 < n) (hl : n.natAbs < 2 ^ 8000) (h : ∀ r : Int, 0 ≤ r → r < n → Q (.int r)) : c_take [.bag, .int n] Q := ⟨n, rfl, hn, Nat.lt_trans (log2_lt (by decide) hl) (by decide), h⟩
def c_integer : DC := fun ds Q => ds = [.bag] ∧ ∀ n : Int, n.natAbs ≤ 10 ^ 98 → Q (.int n)
theorem c_integer_len : ∀ ds Q, c_integer ds Q → ds.length = 1 := by
  rintro ds Q ⟨rfl, _⟩
  rfl
theorem mono_integer : Mono c_integer := by
  rintro ds P Q h ⟨rfl, h1⟩
  exact ⟨rfl, fun n hn => h _ (h1 n hn)⟩
def b_integer (t : Nat) : List S := [.asg 1 (.ix (.lst [.k (.int 10), .k (.int 100), .bin .pow (.k (.int 10)) (.k (.int 18)), .bin .mul (.bin .pow (.k (.int 10)) (.k (.int 49))) (.bin .pow (.k (.int 10)) (.k (.int 49)))]) (.call t [.var 0, .k (.int 4)])), .asg 2 (.ix (.lst [.call t [.var 0, .var 1], .bin .sub (.var 1) (.call t [.var 0, .k (.int 3)]), .call t [.var 0, .k (.int 4)]]) (.call t [.var 0, .k (.int 3)])), .ret (.bin .sub (.var 2) (.bin .mul (.bin .mul (.k (.int 2)) (.var 2)) (.call t [.var 0, .k (.int 2)])))]
theorem p98 : (10 : Nat) ^ 98 < 2 ^ 326 := by decide
theorem integer_ok {F : List DC} {t : Nat} (hF : MonoF F) (ht : F[t]? = some c_take) : ∀ ds Q, c_integer ds Q → wpBody F 3 (b_integer t) ds Q := by
  rintro ds Q ⟨rfl, hq⟩
  unfold b_integer
  walk_at "oc0"
  rw [sq_asg]
  refine ev hF (fun d => ∃ m : Int, d = .int m ∧ 10 ≤ m ∧ m ≤ 10 ^ 98) ?_ ?_
  · walk_at "oc"
    simp only [ht]
    refine ⟨⟨by decide, by decide, by decide⟩, ⟨by decide, by decide, by decide⟩, ⟨by decide, by decide, by decide⟩, mulW (a := 200) (b := 200) (by decide) (by decide), draw (by decide) (by decide) fun r h0 h1 => ?_⟩
    refine ix_any h0 h1 fun d hd => ?_
    simp only [List.mem_cons, List.not_mem_nil, or_false] at hd
    rcases hd with rfl | rfl | rfl | rfl
    · exact ⟨_, rfl, by decide, by decide⟩
    · exact ⟨_, rfl, by decide, by decide⟩
    · exact ⟨_, rfl, by decide, by decide⟩
    · exact ⟨_, rfl, by decide, by decide⟩
  rintro _ ⟨m, rfl, hm0, hm1⟩
  have hml : m.natAbs < 2 ^ 8000 := by
    have : m.natAbs ≤ 10 ^ 98 := by omega
    exact Nat.lt_of_le_of_lt this (by decide)
  rw [sq_asg]
  refine ev hF (fun d => ∃ n : Int, d = .int n ∧ 0 ≤ n ∧ n ≤ 10 ^ 98) ?_ ?_
  · walk_at "oc"
    simp only [ht]
    refine draw (by omega) hml fun r1 a1 b1 => draw (by decide) (by decide) fun r2 a2 b2 => draw (by decide) (by decide) fun r3 a3 b3 => draw (by decide) (by decide) fun r h0 h1 => ?_
    refine ix_any h0 h1 fun d hd => ?_
    simp only [List.mem_cons, List.not_mem_nil, or_false] at hd
    rcases hd with rfl | rfl | rfl
    · exact ⟨_, rfl, a1, by omega⟩
    · exact ⟨_, rfl, by omega, by omega⟩
    · exact ⟨_, rfl, a3, by omega⟩
  rintro _ ⟨n, rfl, hn0, hn1⟩
  have hnl : n.natAbs < 2 ^ 326 := Nat.lt_of_le_of_lt (show n.natAbs ≤ 10 ^ 98 by omega) p98
  rw [sq_ret]
  walk_at "oc"
  simp only [ht]
  refine ⟨mulW (a := 2) (b := 326) (by decide) hnl, draw (by decide) (by decide) fun r h0 h1 => ⟨mulW (a := 328) (b := 2) ?_ (by omega), hq _ ?_⟩⟩
  · rw [Int.natAbs_mul]
    have : (2 : Int).natAbs * n.natAbs < 2 * 2 ^ 326 := by
      show 2 * n.natAbs < 2 * 2 ^ 326
      omega
    exact Nat.lt_of_lt_of_le this (by decide)
  · have cs : r = 0 ∨ r = 1 := by omega
    rcases cs with rfl | rfl
    · rw [Int.mul_zero, Int.sub_zero]
      omega
    · rw [Int.mul_one]
      omega
end OC

set_option Elab.async false
set_option linter.all false
set_option maxRecDepth 100000
set_option maxHeartbeats 4000000
/-! Onecut: a law's defs one after another. -/
namespace OC
open PySem PySem.Spec PyProof.Rows L2

def DefAt (K : PySem.W.Frag) (mg : Str → Option Value) (x : Str) (st : Stmt) : Prop := ∃ (f : Addr) (fd : FuncData), Fun K x x st f fd ∧ mg x = some (.ref f)
theorem def_at {K : PySem.W.Frag} {h : Heap} {mg : Str → Option Value} (X : K.In h) (G : h.Ns mainGlobals mg) {x : Str} {st : Stmt} {f : Addr} {oc : Value} {od an : Option Addr} {osl : Array (Option Value)} {kV doc pm cdv ct : Value}
    (a : PySem.W.nsIn K mainGlobals x = some (some (.ref f))) (l : K.lookup f = some ⟨oc, od, .func (PySem.W.fnOf x x (defArgs st) (defBody st) (defScope st) .none kV doc pm an cdv ct), osl⟩) (c : PySem.W.codeIn K cdv x = true) (k : PySem.W.keepIn K (.ref f) = true) : DefAt K mg x st :=
  ⟨f, _, fun_mk l c k, PySem.W.mg_of X G a⟩
section
variable {P : Program} {w : World} {K : PySem.W.Frag} {mg : Str → Option Value} {base : Heap}
def AllOk (P : Program) (w : World) (K : PySem.W.Frag) (mg : Str → Option Value) (base : Heap) (fs : List Str) (F : List DC) (i : Nat) : Prop := ∀ (j : Nat) (x : Str), (fs.take i)[j]? = some x → ∃ c, (F.take i)[j]? = some c ∧ FOK P w K mg base i x c
theorem all_zero {fs : List Str} {F : List DC} : AllOk P w K mg base fs F 0 := fun j x h => by
  rw [List.take_zero] at h
  cases h
theorem all_step {fs : List Str} {F : List DC} {i : Nat} {x : Str} {c : DC} (A : AllOk P w K mg base fs F i) (hx : fs[i]? = some x) (hc : F[i]? = some c) (ok : FOK P w K mg base (i + 1) x c) : AllOk P w K mg base fs F (i + 1) := fun j y h => by
  by_cases q : j < i
  · have h : (fs.take i)[j]? = some y := by
      rw [List.getElem?_take_of_lt q]
      rw [List.getElem?_take_of_lt (by omega)] at h
      exact h
    obtain ⟨d, h1, h2⟩ := A j y h
    refine ⟨d, ?_, h2.mono (Nat.le_succ i)⟩
    rw [List.getElem?_take_of_lt (by omega)]
    rw [List.getElem?_take_of_lt q] at h1
    exact h1
  · by_cases e : j = i
    · subst e
      rw [List.getElem?_take_of_lt (by omega), hx] at h
      cases h
      exact ⟨c, by rw [List.getElem?_take_of_lt (by omega)]; exact hc, ok⟩
    · have : (fs.take (i + 1))[j]? = none := by
        rw [List.getElem?_eq_none_iff, List.length_take]
        omega
      rw [this] at h
      cases h
theorem all_last {fs : List Str} {F : List DC} {i j : Nat} {x : Str} {c : DC} (A : AllOk P w K mg base fs F i) (hj : j < i) (hx : fs[j]? = some x) (hc : F[j]? = some c) : FOK P w K mg base i x c := by
  obtain ⟨d, h1, h2⟩ := A j x (by rw [List.getElem?_take_of_lt hj]; exact hx)
  rw [List.getElem?_take_of_lt hj, hc] at h1
  cases h1
  exact h2
end
end OC

set_option Elab.async false
set_option linter.all false
set_option maxRecDepth 100000
set_option maxHeartbeats 4000000
set_option exponentiation.threshold 20000
/-! Onecut: data that can be shown and compared. -/
namespace OC
open PySem PySem.Spec PyProof.Rows L2

/-- numbers of up to 1900 bits, nested at most n deep -/
def ShowI : Nat → D → Prop
  | _, .int i => i.natAbs < 2 ^ 1900
  | _, .bl _ => True
  | _, .non => True
  | n + 1, .tup xs => ∀ x ∈ xs, ShowI n x
  | n + 1, .lst xs => ∀ x ∈ xs, ShowI n x
  | _, _ => False
mutual
/-- how many parts -/
def D.nd : D → Nat
  | .tup xs => 1 + ndL xs
  | .lst xs => 1 + ndL xs
  | _ => 1
def ndL : List D → Nat
  | [] => 0
  | d :: ds => d.nd + ndL ds
end
theorem ndL_le {k : Nat} : ∀ {xs : List D}, (∀ x ∈ xs, x.nd ≤ k) → ndL xs ≤ k * xs.length
  | [], _ => Nat.zero_le _
  | d :: ds, h => by
    have h1 := h d List.mem_cons_self
    have h2 := ndL_le (xs := ds) fun x hx => h x (List.mem_cons_of_mem _ hx)
    rw [ndL, List.length_cons, Nat.mul_succ]
    omega
theorem int_text {i : Int} (h : i.natAbs < 2 ^ 1900) : (Str.ofString (toString i)).length ≤ 1902 := by
  have h1 := int_text_length_le (a := i) (k := 1900) (by decide) (log2_lt (by decide) h)
  rw [PySem.ofString_length]
  omega
mutual
theorem show_len : ∀ (d : D) (n : Nat), ShowI n d → d.pure = true ∧ d.py.showable = true ∧ d.py.depth ≤ n ∧ d.py.canLay0 = true ∧ d.py.shown.length + 10 ≤ 2000 * d.nd
  | .int i, n, h => by
    have h : i.natAbs < 2 ^ 1900 := by cases n <;> exact h
    refine ⟨rfl, decide_eq_true (Nat.lt_trans (log2_lt (by decide) h) (by decide)), Nat.zero_le _, rfl, ?_⟩
    have := int_text h
    show (Str.ofString (toString i)).length + 10 ≤ 2000 * 1
    omega
  | .bl b, n, h => ⟨rfl, rfl, Nat.zero_le _, rfl, by cases b <;> decide +kernel⟩
  | .non, n, h => ⟨rfl, rfl, Nat.zero_le _, rfl, by decide +kernel⟩
  | .tup xs, 0, h => by cases h
  | .lst xs, 0, h => by cases h
  | .tup xs, n + 1, h => by
    obtain ⟨h1, h2, h3, h4, h5, h6⟩ := show_lenL xs n h
    refine ⟨h1, h2, ?_, h4, ?_⟩
    · show PyData.depthAll (pyL xs) + 1 ≤ n + 1
      omega
    · have := tupleText_len_le (PyData.shownAll (pyL xs))
      show (tupleText (PyData.shownAll (pyL xs))).length + 10 ≤ 2000 * (1 + ndL xs)
      omega
  | .lst xs, n + 1, h => by
    obtain ⟨h1, h2, h3, h4, h5, h6⟩ := show_lenL xs n h
    refine ⟨h1, h2, ?_, h4, ?_⟩
    · show PyData.depthAll (pyL xs) + 1 ≤ n + 1
      omega
    · have := listText_len_le (PyData.shownAll (pyL xs))
      show (listText (PyData.shownAll (pyL xs))).length + 10 ≤ 2000 * (1 + ndL xs)
      omega
  | .str s, n, h => by cases n <;> cases h
  | .scr s, n, h => by cases n <;> cases h
  | .bag, n, h => by cases n <;> cases h
theorem show_lenL : ∀ (xs : List D) (n : Nat), (∀ x ∈ xs, ShowI n x) → pureL xs = true ∧ PyData.showableAll (pyL xs) = true ∧ PyData.depthAll (pyL xs) ≤ n ∧ PyData.canLayAll0 (pyL xs) = true ∧ ((PyData.shownAll (pyL xs)).map (·.length)).sum + 2 * (PyData.shownAll (pyL xs)).length ≤ 2000 * ndL xs ∧ True
  | [], n, _ => ⟨rfl, rfl, Nat.zero_le _, rfl, Nat.zero_le _, trivial⟩
  | d :: ds, n, h => by
    obtain ⟨h1, h2, h3, h4, h5⟩ := show_len d n (h d List.mem_cons_self)
    obtain ⟨k1, k2, k3, k4, k5, _⟩ := show_lenL ds n fun x hx => h x (List.mem_cons_of_mem _ hx)
    refine ⟨?_, ?_, ?_, ?_, ?_, trivial⟩
    · show (d.pure && pureL ds) = true
      rw [h1, k1]
      rfl
    · show (d.py.showable && PyData.showableAll (pyL ds)) = true
      rw [h2, k2]
      rfl
    · show max d.py.depth (PyData.depthAll (pyL ds)) ≤ n
      omega
    · show (d.py.canLay0 && PyData.canLayAll0 (pyL ds)) = true
      rw [h4, k4]
      rfl
    · show ((d.py.shown :: PyData.shownAll (pyL ds)).map (·.length)).sum + 2 * (d.py.shown :: PyData.shownAll (pyL ds)).length ≤ 2000 * (d.nd + ndL ds)
      rw [List.map_cons, List.sum_cons, List.length_cons]
      omega
end
theorem showOk_of {d : D} {n : Nat} (h : ShowI n d) (hn : n ≤ 60) (hd : d.nd ≤ 8000) : showOk d := by
  obtain ⟨h1, h2, h3, h4, h5⟩ := show_len d n h
  refine ⟨h1, h2, ?_, by omega⟩
  rw [sizeLine_eq]
  omega
theorem eqOk_of {d : D} {n : Nat} (h : ShowI n d) (hn : n ≤ 60) : eqOk d := by
  obtain ⟨h1, h2, h3, h4, h5⟩ := show_len d n h
  refine ⟨h1, ?_⟩
  show (d.py.canLay0 && decide (d.py.depth ≤ 64)) = true
  rw [h4, decide_eq_true (by omega)]
  rfl
mutual
theorem eqv_self : ∀ (d : D) (n : Nat), ShowI n d → PyData.eqv d.py d.py = true
  | .int i, n, h => by simp [D.py, PyData.eqv]
  | .bl b, n, h => by simp [D.py, PyData.eqv]
  | .non, n, h => by simp [D.py, PyData.eqv]
  | .tup xs, 0, h => by cases h
  | .lst xs, 0, h => by cases h
  | .tup xs, n + 1, h => by
    show PyData.eqvAll (pyL xs) (pyL xs) = true
    exact eqv_selfL xs n h
  | .lst xs, n + 1, h => by
    show PyData.eqvAll (pyL xs) (pyL xs) = true
    exact eqv_selfL xs n h
  | .str s, n, h => by cases n <;> cases h
  | .scr s, n, h => by cases n <;> cases h
  | .bag, n, h => by cases n <;> cases h
theorem eqv_selfL : ∀ (xs : List D) (n : Nat), (∀ x ∈ xs, ShowI n x) → PyData.eqvAll (pyL xs) (pyL xs) = true
  | [], n, _ => by simp [pyL, PyData.eqvAll]
  | d :: ds, n, h => by
    show (PyData.eqv d.py d.py && PyData.eqvAll (pyL ds) (pyL ds)) = true
    rw [eqv_self d n (h d List.mem_cons_self), eqv_selfL ds n fun x hx => h x (List.mem_cons_of_mem _ hx)]
    rfl
end
theorem v_val (d : D) : (Sl.val d).v = some d := rfl
theorem v_no : Sl.no.v = none := rfl
theorem v_own (xs : List D) : (Sl.own xs).v = none := rfl
theorem shown_hq {Q : D → Prop} {a b : D} (h : a = b) (q : Q (.bl true)) : Q (.bl (decide (a.py.shown = b.py.shown))) := by
  rw [decide_eq_true (by rw [h])]
  exact q
theorem shown_eq {a b : D} (h : a = b) : decide (a.py.shown = b.py.shown) = true := decide_eq_true (by rw [h])
theorem showI_int {i : Int} {m : Nat} (h : i.natAbs < 2 ^ 1900) : ShowI m (.int i) := by
  cases m <;> (rw [ShowI]; exact h)
theorem iteSh {a b : D} {X P : Prop} (h : a = b) (p : P) : if (!decide (a.py.shown = b.py.shown)) = true then X else P := by
  rw [shown_eq h]
  exact p
/-- both ways of an if meet again -/
theorem join2 {c : Bool} {A B : List S} {F : List DC} {G : List Sl} {J : List Sl → Prop} {rt : D → Prop} {bk ct : List Sl → Prop} (P : List Sl → Prop) (hr : ∀ G1, P G1 → J G1)
    (h : ∀ J' : List Sl → Prop, (∀ G1, P G1 → J' G1) → if c = true then wpSs F A G ⟨J', rt, bk, ct⟩ else wpSs F B G ⟨J', rt, bk, ct⟩) : if c = true then wpSs F A G ⟨J, rt, bk, ct⟩ else wpSs F B G ⟨J, rt, bk, ct⟩ := h J hr
end OC

set_option Elab.async false
set_option linter.all false
set_option maxRecDepth 100000
set_option maxHeartbeats 4000000
set_option exponentiation.threshold 20000
/-! Onecut: the ratios' defs, and ratios in lowest terms. -/
namespace OC
open PySem PySem.Spec PyProof.Rows L2
local macro_rules | `(tactic| walk_at "oc") => `(tactic| simp only [wpE, wpEs, getV, vals, Sl.v, List.map_cons, List.map_nil, List.set, bop, augop, cop, ixnop, biop, dtru, itemsOf, bindS, setAllS, bindV, setAll, if_true, if_false, Bool.false_eq_true, List.getElem?_cons_zero, List.getElem?_cons_succ])
local macro_rules | `(tactic| walk_at "oc0") => `(tactic| simp only [wpBody, start0, List.map_cons, List.map_nil, List.length, List.replicate, List.cons_append, List.nil_append, Nat.reduceAdd, Nat.reduceSub])

def Bt (n : Nat) (r : Int × Int) : Prop := r.1.natAbs < 2 ^ n ∧ r.2.natAbs < 2 ^ n
theorem Bt.mono {m n : Nat} {r : Int × Int} (h : Bt m r) (hmn : m ≤ n) : Bt n r := ⟨Nat.lt_of_lt_of_le h.1 (Nat.pow_le_pow_right (by decide) hmn), Nat.lt_of_lt_of_le h.2 (Nat.pow_le_pow_right (by decide) hmn)⟩
def lessR (p q : Int × Int) : Bool := decide (p.1 * q.2 < q.1 * p.2)
def lowR (a b : Int) : Int × Int := (lowT a b, lowU a b)
def plusR (p q : Int × Int) : Int × Int := lowR (p.1 * q.2 + q.1 * p.2) (p.2 * q.2)
def minusR (p q : Int × Int) : Int × Int := lowR (p.1 * q.2 - q.1 * p.2) (p.2 * q.2)
/-- in lowest terms -/
structure Low (r : Int × Int) : Prop where
  pos : 0 < r.2
  low : Int.gcd r.1 r.2 = 1
theorem lowR_low {a b : Int} (h : b ≠ 0) : Low (lowR a b) := ⟨low_pos h, low_gcd h⟩
theorem lowR_eq (a b : Int) : (lowR a b).1 * b = a * (lowR a b).2 := low_eq
theorem lowR_bt {a b : Int} {n : Nat} (h : b ≠ 0) (ha : a.natAbs < 2 ^ n) (hb : b.natAbs < 2 ^ n) : Bt n (lowR a b) := ⟨Nat.lt_of_le_of_lt (low_absT h) ha, Nat.lt_of_le_of_lt (low_absU h) hb⟩
theorem dvd_of {a b c : Int} (h : Int.gcd a b = 1) (d : b ∣ a * c) : b ∣ c := by
  have h1 : b.natAbs ∣ a.natAbs * c.natAbs := by
    rw [← Int.natAbs_mul]
    exact Int.natAbs_dvd_natAbs.mpr d
  have h2 : Nat.Coprime b.natAbs a.natAbs := by
    unfold Nat.Coprime
    rw [Nat.gcd_comm]
    exact h
  exact Int.natAbs_dvd_natAbs.mp (h2.dvd_of_dvd_mul_left h1)
/-- equal as numbers, equal -/
theorem Low.uniq {r s : Int × Int} (hr : Low r) (hs : Low s) (h : r.1 * s.2 = s.1 * r.2) : r = s := by
  have d1 : r.2 ∣ s.2 := dvd_of hr.low ⟨s.1, by rw [h, Int.mul_comm]⟩
  have d2 : s.2 ∣ r.2 := dvd_of hs.low ⟨r.1, by rw [← h, Int.mul_comm]⟩
  have e : r.2 = s.2 := Int.dvd_antisymm (Int.le_of_lt hr.pos) (Int.le_of_lt hs.pos) d1 d2
  have e1 : r.1 = s.1 := by
    rw [e] at h
    exact Int.eq_of_mul_eq_mul_right (Int.ne_of_gt hs.pos) h
  exact Prod.ext e1 e
theorem lowR_uniq {a b : Int} {r : Int × Int} (hb : b ≠ 0) (hr : Low r) (h : r.1 * b = a * r.2) : lowR a b = r := by
  refine (lowR_low hb).uniq hr ?_
  have h1 := lowR_eq a b
  -- both times b
  refine Int.eq_of_mul_eq_mul_right hb ?_
  calc (lowR a b).1 * r.2 * b = ((lowR a b).1 * b) * r.2 := by rw [Int.mul_assoc, Int.mul_assoc, Int.mul_comm r.2]
    _ = a * (lowR a b).2 * r.2 := by rw [h1]
    _ = (a * r.2) * (lowR a b).2 := by rw [Int.mul_assoc, Int.mul_assoc, Int.mul_comm r.2]
    _ = r.1 * b * (lowR a b).2 := by rw [h]
    _ = r.1 * (lowR a b).2 * b := by rw [Int.mul_assoc, Int.mul_assoc, Int.mul_comm b]
theorem lowR_self {r : Int × Int} (h : Low r) : lowR r.1 r.2 = r := lowR_uniq (Int.ne_of_gt h.pos) h rfl

/-! ### the defs -/
def isIntD : D → Bool
  | .int _ => true
  | _ => false
def c_isint : DC := fun ds Q => ∃ d, ds = [d] ∧ d.pure = true ∧ Q (.bl (isIntD d))
theorem c_isint_len : ∀ ds Q, c_isint ds Q → ds.length = 1 := by
  rintro ds Q ⟨d, rfl, _⟩
  rfl
theorem mono_isint : Mono c_isint := by
  rintro ds P Q h ⟨d, rfl, h1, h2⟩
  exact ⟨d, rfl, h1, h _ h2⟩
def b_isint : List S := [.ret (.andv (.isi (.var 0) .int) (.notv (.isi (.var 0) .bool)))]
theorem isint_ok {F : List DC} : ∀ ds Q, c_isint ds Q → wpBody F 1 b_isint ds Q := by
  rintro ds Q ⟨d, rfl, h1, h2⟩
  unfold b_isint
  walk_at "oc0"
  rw [sq_ret]
  walk_at "oc"
  refine ⟨h1, ?_⟩
  cases d <;> first
    | exact h2
    | exact ⟨h1, h2⟩
def isRatD : D → Bool
  | .tup [.int a, .int b] => decide (0 < b) && decide (Int.gcd a b = 1)
  | _ => false
def c_isratio : DC := fun ds Q => ∃ d, ds = [d] ∧ d.pure = true ∧ Q (.bl (isRatD d))
theorem c_isratio_len : ∀ ds Q, c_isratio ds Q → ds.length = 1 := by
  rintro ds Q ⟨d, rfl, _⟩
  rfl
theorem mono_isratio : Mono c_isratio := by
  rintro ds P Q h ⟨d, rfl, h1, h2⟩
  exact ⟨d, rfl, h1, h _ h2⟩
def b_isratio (i c : Nat) : List S := [.ite (.orv (.notv (.isi (.var 0) .tuple)) (.cmp .ne (.bi .len [.var 0]) (.k (.int 2)))) [.ret (.k (.bl false))] [], .unp [1, 2] (.var 0), .ret (.andv (.call i [.var 1]) (.andv (.call i [.var 2]) (.andv (.cmp .gt (.var 2) (.k (.int 0))) (.cmp .eq (.call c [.var 1, .var 2]) (.k (.int 1))))))]
theorem isratio_ok {F : List DC} {i c : Nat} (hi : F[i]? = some c_isint) (hc : F[c]? = some c_part) : ∀ ds Q, c_isratio ds Q → wpBody F 3 (b_isratio i c) ds Q := by
  rintro ds Q ⟨d, rfl, h1, h2⟩
  unfold b_isratio
  walk_at "oc0"
  rw [sq_ite]
  walk_at "oc"
  refine ⟨h1, ?_⟩
  have no : isTy .tuple d = false → Q (.bl false) := fun z => by
    cases d <;> first | exact h2 | cases z
  by_cases ht : ∃ xs, d = .tup xs
  · obtain ⟨xs, rfl⟩ := ht
    show if (false = true) then _ else _
    refine iteF ?_
    simp only [biop, cop]
    by_cases hl : ((xs.length : Int) = 2)
    · rw [decide_eq_true hl]
      refine iteF ?_
      try dsimp only
      rw [sq_nil]
      try dsimp only
      rw [sq_unp]
      obtain ⟨x, y, rfl⟩ : ∃ x y, xs = [x, y] := by
        match xs, hl with
        | [x, y], _ => exact ⟨x, y, rfl⟩
      walk_at "oc"
      simp only [List.length_cons, List.length_nil, if_true]
      rw [sq_ret]
      walk_at "oc"
      simp only [hi, hc]
      have hp : x.pure = true ∧ y.pure = true := by
        have : (x.pure && (y.pure && true)) = true := h1
        simpa using this
      refine ⟨x, rfl, hp.1, ?_⟩
      cases x <;> first
        | (refine iteF ?_; exact h2)
        | skip
      refine iteT ⟨y, rfl, hp.2, ?_⟩
      cases y <;> first
        | (refine iteF ?_; exact h2)
        | skip
      rename_i a b
      refine iteT ?_
      walk_at "oc"
      by_cases hb : (0 : Int) < b
      · rw [decide_eq_true hb]
        refine iteT ⟨a, b, rfl, ?_⟩
        simp only [cop]
        have e : isRatD (.tup [.int a, .int b]) = decide ((Int.gcd a b : Int) = 1) := by
          simp only [isRatD, decide_eq_true hb, Bool.true_and]
          exact decide_eq_decide.mpr (by omega)
        rw [← e]
        exact h2
      · rw [decide_eq_false hb]
        refine iteF ?_
        have e : isRatD (.tup [.int a, .int b]) = false := by
          simp only [isRatD, decide_eq_false hb, Bool.false_and]
        rw [← e]
        exact h2
    · rw [decide_eq_false hl]
      refine iteT ?_
      try dsimp only
      rw [sq_ret]
      walk_at "oc"
      have e : isRatD (.tup xs) = false := by
        match xs, hl with
        | [], _ => rfl
        | [_], _ => simp [isRatD]
        | _ :: _ :: _ :: _, _ => simp [isRatD]
        | [_, _], hl => exact absurd rfl hl
      rw [← e]
      exact h2
  · have e : isTy .tuple d = false := by
      cases d <;> first | rfl | exact absurd ⟨_, rfl⟩ ht
    rw [e]
    refine iteT ?_
    try dsimp only
    rw [sq_ret]
    walk_at "oc"
    exact no e
def c_two (f : Int × Int → Int × Int → Int × Int) : DC := fun ds Q => ∃ p q : Int × Int, ds = [R2 p, R2 q] ∧ 0 < p.2 ∧ 0 < q.2 ∧ Bt 3000 p ∧ Bt 3000 q ∧ Q (R2 (f p q))
theorem c_two_len {f : Int × Int → Int × Int → Int × Int} : ∀ ds Q, c_two f ds Q → ds.length = 2 := by
  rintro ds Q ⟨p, q, rfl, _⟩
  rfl
theorem mono_two {f : Int × Int → Int × Int → Int × Int} : Mono (c_two f) := by
  rintro ds P Q h ⟨p, q, rfl, h1, h2, h3, h4, h5⟩
  exact ⟨p, q, rfl, h1, h2, h3, h4, h _ h5⟩
def b_plus (l : Nat) : List S := [.ret (.call l [.bin .add (.bin .mul (.ixn (.var 0) 0) (.ixn (.var 1) 1)) (.bin .mul (.ixn (.var 1) 0) (.ixn (.var 0) 1)), .bin .mul (.ixn (.var 0) 1) (.ixn (.var 1) 1)])]
def b_minus (l : Nat) : List S := [.ret (.call l [.bin .sub (.bin .mul (.ixn (.var 0) 0) (.ixn (.var 1) 1)) (.bin .mul (.ixn (.var 1) 0) (.ixn (.var 0) 1)), .bin .mul (.ixn (.var 0) 1) (.ixn (.var 1) 1)])]
theorem plus_ok {F : List DC} {l : Nat} (hl : F[l]? = some c_lowest) : ∀ ds Q, c_two plusR ds Q → wpBody F 2 (b_plus l) ds Q := by
  rintro ds Q ⟨⟨a, b⟩, ⟨c, d⟩, rfl, hb, hd, h1, h2, h3⟩
  unfold b_plus R2
  walk_at "oc0"
  rw [sq_ret]
  walk_at "oc"
  simp only [hl]
  exact ⟨mulW h1.1 h2.2, mulW h2.1 h1.2, mulW h1.2 h2.2, _, _, rfl, Int.ne_of_gt (Int.mul_pos hb hd), Nat.lt_of_lt_of_le (wide_lt h1.2 h2.2) (Nat.pow_le_pow_right (by decide) (by decide)), h3⟩
theorem minus_ok {F : List DC} {l : Nat} (hl : F[l]? = some c_lowest) : ∀ ds Q, c_two minusR ds Q → wpBody F 2 (b_minus l) ds Q := by
  rintro ds Q ⟨⟨a, b⟩, ⟨c, d⟩, rfl, hb, hd, h1, h2, h3⟩
  unfold b_minus R2
  walk_at "oc0"
  rw [sq_ret]
  walk_at "oc"
  simp only [hl]
  exact ⟨mulW h1.1 h2.2, mulW h2.1 h1.2, mulW h1.2 h2.2, _, _, rfl, Int.ne_of_gt (Int.mul_pos hb hd), Nat.lt_of_lt_of_le (wide_lt h1.2 h2.2) (Nat.pow_le_pow_right (by decide) (by decide)), h3⟩
def c_floor : DC := fun ds Q => ∃ p : Int × Int, ds = [R2 p] ∧ 0 < p.2 ∧ Bt 8000 p ∧ Q (.int (p.1 / p.2))
theorem c_floor_len : ∀ ds Q, c_floor ds Q → ds.length = 1 := by
  rintro ds Q ⟨p, rfl, _⟩
  rfl
theorem mono_floor : Mono c_floor := by
  rintro ds P Q h ⟨p, rfl, h1, h2, h3⟩
  exact ⟨p, rfl, h1, h2, h _ h3⟩
def b_floor : List S := [.ret (.bin .fdiv (.ixn (.var 0) 0) (.ixn (.var 0) 1))]
theorem floor_ok {F : List DC} : ∀ ds Q, c_floor ds Q → wpBody F 1 b_floor ds Q := by
  rintro ds Q ⟨⟨a, b⟩, rfl, hb, h1, h2⟩
  unfold b_floor R2
  walk_at "oc0"
  rw [sq_ret]
  walk_at "oc"
  rw [fdiv_pos hb]
  exact ⟨⟨Int.ne_of_gt hb, Nat.lt_trans (log2_lt (by decide) h1.2) (by decide)⟩, h2⟩
def restR (p : Int × Int) : Int × Int := lowR (p.1 % p.2) p.2
def c_rest : DC := fun ds Q => ∃ p : Int × Int, ds = [R2 p] ∧ 0 < p.2 ∧ Bt 8000 p ∧ Q (R2 (restR p))
theorem c_rest_len : ∀ ds Q, c_rest ds Q → ds.length = 1 := by
  rintro ds Q ⟨p, rfl, _⟩
  rfl
theorem mono_rest : Mono c_rest := by
  rintro ds P Q h ⟨p, rfl, h1, h2, h3⟩
  exact ⟨p, rfl, h1, h2, h _ h3⟩
def b_rest (l : Nat) : List S := [.ret (.call l [.bin .mod (.ixn (.var 0) 0) (.ixn (.var 0) 1), .ixn (.var 0) 1])]
theorem rest_ok {F : List DC} {l : Nat} (hl : F[l]? = some c_lowest) : ∀ ds Q, c_rest ds Q → wpBody F 1 (b_rest l) ds Q := by
  rintro ds Q ⟨⟨a, b⟩, rfl, hb, h1, h2⟩
  unfold b_rest R2
  walk_at "oc0"
  rw [sq_ret]
  walk_at "oc"
  simp only [hl]
  rw [fmod_pos hb]
  exact ⟨Int.ne_of_gt hb, _, _, rfl, Int.ne_of_gt hb, h1.2, h2⟩
def c_isless : DC := fun ds Q => ∃ p q : Int × Int, ds = [R2 p, R2 q] ∧ Bt 4000 p ∧ Bt 4000 q ∧ Q (.bl (lessR p q))
theorem c_isless_len : ∀ ds Q, c_isless ds Q → ds.length = 2 := by
  rintro ds Q ⟨p, q, rfl, _⟩
  rfl
theorem mono_isless : Mono c_isless := by
  rintro ds P Q h ⟨p, q, rfl, h1, h2, h3⟩
  exact ⟨p, q, rfl, h1, h2, h _ h3⟩
def b_isless : List S := [.ret (.cmp .lt (.bin .mul (.ixn (.var 0) 0) (.ixn (.var 1) 1)) (.bin .mul (.ixn (.var 1) 0) (.ixn (.var 0) 1)))]
theorem isless_ok {F : List DC} : ∀ ds Q, c_isless ds Q → wpBody F 2 b_isless ds Q := by
  rintro ds Q ⟨⟨a, b⟩, ⟨c, d⟩, rfl, h1, h2, h3⟩
  unfold b_isless R2
  walk_at "oc0"
  rw [sq_ret]
  walk_at "oc"
  exact ⟨mulW h1.1 h2.2, mulW h2.1 h1.2, h3⟩

/-! ### a drawn ratio: in lowest terms, parts of up to 99 digits -/
structure Rat98 (r : Int × Int) : Prop extends Low r where
  top : r.1.natAbs ≤ 10 ^ 98
  und : r.2.natAbs ≤ 10 ^ 98
theorem Rat98.bt {r : Int × Int} (h : Rat98 r) : Bt 326 r := ⟨Nat.lt_of_le_of_lt h.top p98, Nat.lt_of_le_of_lt h.und p98⟩
def c_ratio : DC := fun ds Q => ds = [.bag] ∧ ∀ r : Int × Int, Rat98 r → Q (R2 r)
theorem c_ratio_len : ∀ ds Q, c_ratio ds Q → ds.length = 1 := by
  rintro ds Q ⟨rfl, _⟩
  rfl
theorem mono_ratio : Mono c_ratio := by
  rintro ds P Q h ⟨rfl, h1⟩
  exact ⟨rfl, fun r hr => h _ (h1 r hr)⟩
def b_ratio (i l : Nat) : List S := [.par 1 2 (.call i [.var 0]) (.bi .abs [.call i [.var 0]]), .ret (.call l [.var 1, .bin .add (.var 2) (.bi .int [.cmp .eq (.var 2) (.k (.int 0))])])]
theorem ratio_ok {F : List DC} {i l : Nat} (hi : F[i]? = some c_integer) (hl : F[l]? = some c_lowest) : ∀ ds Q, c_ratio ds Q → wpBody F 3 (b_ratio i l) ds Q := by
  rintro ds Q ⟨rfl, hq⟩
  unfold b_ratio
  walk_at "oc0"
  rw [sq_par]
  walk_at "oc"
  simp only [hi]
  refine ⟨rfl, fun a ha => ⟨rfl, fun b hb => ?_⟩⟩
  walk_at "oc"
  rw [sq_ret]
  walk_at "oc"
  simp only [hl]
  have hu : ∀ u : Int, 0 < u → u.natAbs ≤ 10 ^ 98 → c_lowest [.int a, .int u] Q := fun u h0 h1 =>
    ⟨a, u, rfl, by omega, Nat.lt_of_le_of_lt h1 (by decide), hq (lowT a u, lowU a u) ⟨⟨low_pos (by omega), low_gcd (by omega)⟩, Nat.le_trans (low_absT (by omega)) ha, Nat.le_trans (low_absU (by omega)) h1⟩⟩
  by_cases h : b = 0
  · subst h
    exact hu _ (by decide) (by decide)
  · have e : (if b < 0 then -b else b) = (b.natAbs : Int) := by split <;> omega
    rw [e, decide_eq_false (by omega)]
    exact hu _ (by simp only [Bool.false_eq_true, if_false]; omega) (by simp only [Bool.false_eq_true, if_false]; omega)

/-! ### the law's own frame -/
def c_law : DC := fun ds Q => ∃ ns : List Int, ds = [.scr ns] ∧ ns.length ≤ 63 ∧ Q (.bl true)
theorem c_law_len : ∀ ds Q, c_law ds Q → ds.length = 1 := by
  rintro ds Q ⟨ns, rfl, _⟩
  rfl
theorem mono_law : Mono c_law := by
  rintro ds P Q h ⟨ns, rfl, h1, h2⟩
  exact ⟨ns, rfl, h1, h _ h2⟩
theorem turns_ok (ns : List Int) : -(2 ^ 62) ≤ (if (if (ns.length : Int) < 8 then (ns.length : Int) else 8) > 2 then (if (ns.length : Int) < 8 then (ns.length : Int) else 8) else 2) ∧ (if (if (ns.length : Int) < 8 then (ns.length : Int) else 8) > 2 then (if (ns.length : Int) < 8 then (ns.length : Int) else 8) else 2) < 2 ^ 62 := by
  split <;> split <;> omega
theorem turn_int {ns : List Int} {d : D} (h : d ∈ (List.range (if (if (ns.length : Int) < 8 then (ns.length : Int) else 8) > 2 then (if (ns.length : Int) < 8 then (ns.length : Int) else 8) else 2).toNat).map fun i : Nat => D.int i) : ∃ k : Int, d = .int k ∧ 0 ≤ k ∧ k < 8 := by
  simp only [List.mem_map, List.mem_range] at h
  obtain ⟨i, hi, rfl⟩ := h
  refine ⟨i, rfl, by omega, ?_⟩
  split at hi <;> split at hi <;> omega
theorem mem_rng {n : Nat} {d : D} (h : d ∈ (List.range n).map fun i : Nat => D.int i) : ∃ k : Int, d = .int k ∧ 0 ≤ k ∧ k < n := by
  simp only [List.mem_map, List.mem_range] at h
  obtain ⟨i, hi, rfl⟩ := h
  exact ⟨i, rfl, by omega, by omega⟩
theorem nz {n : Int} (h : n.natAbs ≤ 10 ^ 98) : ∃ m : Int, n + (if decide (n = 0) = true then 1 else 0) = m ∧ m.natAbs ≤ 10 ^ 98 ∧ m ≠ 0 := by
  by_cases z : n = 0
  · subst z
    exact ⟨1, by decide, by decide, by decide⟩
  · rw [decide_eq_false z]
    exact ⟨n, by simp, h, z⟩
theorem isRat_low {x y : Int} (h : Low (x, y)) : isRatD (.tup [.int x, .int y]) = true := by
  have h1 := h.pos
  have h2 := h.low
  simp only at h1 h2
  simp only [isRatD, decide_eq_true h1, h2, decide_true, Bool.true_and]
theorem isRat_lowR {r : Int × Int} (h : Low r) : isRatD (R2 r) = true := isRat_low h
theorem showI_R2 {r : Int × Int} {n m : Nat} (h : Bt n r) (hn : n ≤ 1900 := by decide) : ShowI (m + 1) (R2 r) := by
  intro x hx
  simp only [List.mem_cons, List.not_mem_nil, or_false] at hx
  rcases hx with rfl | rfl
  · exact showI_int (Nat.lt_of_lt_of_le h.1 (Nat.pow_le_pow_right (by decide) hn))
  · exact showI_int (Nat.lt_of_lt_of_le h.2 (Nat.pow_le_pow_right (by decide) hn))
theorem show_R2 {r : Int × Int} {n : Nat} (h : Bt n r) (hn : n ≤ 1900 := by decide) : showOk (R2 r) := showOk_of (n := 1) (showI_R2 h hn) (by decide) (by simp [R2, D.nd, ndL])
theorem b98 {x : Int} (hx : x.natAbs ≤ 10 ^ 98) : x.natAbs < 2 ^ 326 := Nat.lt_of_le_of_lt hx p98
theorem lt_pw {x : Nat} {m n : Nat} (h : x < 2 ^ m) (hmn : m ≤ n) : x < 2 ^ n := Nat.lt_of_lt_of_le h (Nat.pow_le_pow_right (by decide) hmn)
theorem div_le {a b : Int} (h : 0 < b) : (a / b).natAbs ≤ a.natAbs := by
  have h1 := Int.ediv_mul_le a (Int.ne_of_gt h)
  have h2 := Int.lt_ediv_add_one_mul_self a h
  by_cases ha : 0 ≤ a
  · have h3 : 0 ≤ a / b := Int.ediv_nonneg ha (Int.le_of_lt h)
    have h4 : a / b ≤ a := Int.ediv_le_self b ha
    omega
  · have h3 : a / b < 0 := Int.ediv_neg_of_neg_of_pos (by omega) h
    have h4 : a ≤ a / b := by
      have : a / b * b ≥ a / b * 1 - 0 ∨ True := Or.inr trivial
      by_cases hb : b = 1
      · subst hb
        rw [Int.ediv_one]
        exact Int.le_refl _
      · have h5 : a / b + 1 ≤ 0 := by omega
        have h6 : (a / b + 1) * b ≤ (a / b + 1) * 1 := Int.mul_le_mul_of_nonpos_left h5 (by omega)
        omega
    omega
theorem minus_plus {p q t : Int × Int} (hp : Low p) (ht : Low t) (hq : q.2 ≠ 0) (te : t.1 * (p.2 * q.2) = (p.1 * q.2 + q.1 * p.2) * t.2) : minusR t q = p := by
  have t0 : t.2 ≠ 0 := Int.ne_of_gt ht.pos
  refine lowR_uniq (Int.mul_ne_zero t0 hq) hp ?_
  refine Int.eq_of_mul_eq_mul_right hq ?_
  grind
theorem plus_minus {p q t : Int × Int} (hp : Low p) (ht : Low t) (hq : q.2 ≠ 0) (te : t.1 * (p.2 * q.2) = (p.1 * q.2 - q.1 * p.2) * t.2) : plusR t q = p := by
  have t0 : t.2 ≠ 0 := Int.ne_of_gt ht.pos
  refine lowR_uniq (Int.mul_ne_zero t0 hq) hp ?_
  refine Int.eq_of_mul_eq_mul_right hq ?_
  grind
theorem plus_comm (p q : Int × Int) : plusR q p = plusR p q := by
  unfold plusR
  rw [Int.add_comm, Int.mul_comm q.2 p.2]
theorem minus_turn {p q g : Int × Int} (hg : Low g) (n0 : p.2 * q.2 ≠ 0) (ge : g.1 * (p.2 * q.2) = (p.1 * q.2 - q.1 * p.2) * g.2) : minusR q p = (-g.1, g.2) := by
  refine lowR_uniq (by rw [Int.mul_comm]; exact n0) ⟨hg.pos, by have := hg.low; simp only [Int.neg_gcd] at this ⊢; exact this⟩ ?_
  simp only
  grind
end OC

set_option Elab.async false
set_option linter.all false
set_option maxRecDepth 100000
set_option maxHeartbeats 1000000
set_option exponentiation.threshold 20000
/-! Onecut: sums of floors, plain. -/
namespace OC
/-- f 0 + .. + f (n-1) -/
def sumTo : Nat → (Nat → Int) → Int
  | 0, _ => 0
  | n + 1, f => sumTo n f + f n
theorem sumTo_congr {f g : Nat → Int} : ∀ {n : Nat}, (∀ i, i < n → f i = g i) → sumTo n f = sumTo n g
  | 0, _ => rfl
  | n + 1, h => by
    show sumTo n f + f n = sumTo n g + g n
    rw [sumTo_congr fun i hi => h i (Nat.lt_succ_of_lt hi), h n (Nat.lt_succ_self n)]
theorem sumTo_add (f g : Nat → Int) : ∀ n : Nat, sumTo n (fun i => f i + g i) = sumTo n f + sumTo n g
  | 0 => rfl
  | n + 1 => by
    show sumTo n _ + (f n + g n) = sumTo n f + f n + (sumTo n g + g n)
    rw [sumTo_add f g n]
    omega
theorem sumTo_sub (f g : Nat → Int) : ∀ n : Nat, sumTo n (fun i => f i - g i) = sumTo n f - sumTo n g
  | 0 => rfl
  | n + 1 => by
    show sumTo n _ + (f n - g n) = sumTo n f + f n - (sumTo n g + g n)
    rw [sumTo_sub f g n]
    omega
theorem sumTo_zero : ∀ n : Nat, sumTo n (fun _ => 0) = 0
  | 0 => rfl
  | n + 1 => by
    show sumTo n _ + 0 = 0
    rw [sumTo_zero n]
    rfl
theorem sumTo_const (c : Int) : ∀ n : Nat, sumTo n (fun _ => c) = n * c
  | 0 => by simp [sumTo]
  | n + 1 => by
    show sumTo n _ + c = _
    rw [sumTo_const c n, Int.natCast_add, Int.add_mul]
    omega
theorem sumTo_mul (c : Int) (f : Nat → Int) : ∀ n : Nat, sumTo n (fun i => c * f i) = c * sumTo n f
  | 0 => by simp [sumTo]
  | n + 1 => by
    show sumTo n _ + c * f n = c * (sumTo n f + f n)
    rw [sumTo_mul c f n, Int.mul_add]
/-- twice the sum of the first numbers -/
theorem sumTo_id : ∀ n : Nat, 2 * sumTo n (fun i => (i : Int)) = n * ((n : Int) - 1)
  | 0 => by simp [sumTo]
  | n + 1 => by
    show 2 * (sumTo n _ + (n : Int)) = _
    have := sumTo_id n
    grind
theorem sumTo_split (f : Nat → Int) (m : Nat) : ∀ n : Nat, sumTo (m + n) f = sumTo m f + sumTo n (fun i => f (m + i))
  | 0 => by simp [sumTo]
  | n + 1 => by
    show sumTo (m + n) f + f (m + n) = _
    rw [sumTo_split f m n]
    show _ = sumTo m f + (sumTo n (fun i => f (m + i)) + f (m + n))
    omega
theorem sumTo_first (f : Nat → Int) (n : Nat) : sumTo (n + 1) f = f 0 + sumTo n (fun i => f (i + 1)) := by
  rw [Nat.add_comm n 1, sumTo_split f 1 n]
  have : (fun i => f (1 + i)) = fun i => f (i + 1) := funext fun i => by rw [Nat.add_comm]
  rw [this]
  show 0 + f 0 + _ = _
  omega
theorem sumTo_rev (f : Nat → Int) : ∀ n : Nat, sumTo n f = sumTo n (fun i => f (n - 1 - i))
  | 0 => rfl
  | n + 1 => by
    rw [sumTo_first (fun i => f (n + 1 - 1 - i)) n]
    show sumTo n f + f n = _
    rw [sumTo_rev f n]
    have : sumTo n (fun i => f (n - 1 - i)) = sumTo n (fun i => f (n + 1 - 1 - (i + 1))) := sumTo_congr fun i hi => by
      rw [show n + 1 - 1 - (i + 1) = n - 1 - i by omega]
    rw [this]
    have e : f (n + 1 - 1 - 0) = f n := by rw [show n + 1 - 1 - 0 = n by omega]
    rw [e]
    omega
theorem sumTo_swap (f : Nat → Nat → Int) (m : Nat) : ∀ n : Nat, sumTo n (fun i => sumTo m (fun j => f i j)) = sumTo m (fun j => sumTo n (fun i => f i j))
  | 0 => by
    show (0 : Int) = sumTo m (fun _ => 0)
    rw [sumTo_zero]
  | n + 1 => by
    show sumTo n (fun i => sumTo m (fun j => f i j)) + sumTo m (fun j => f n j) = sumTo m (fun j => sumTo n (fun i => f i j) + f n j)
    rw [sumTo_add, sumTo_swap f m n]
/-- how many of the first n multiples reach no further than x -/
theorem count_mult {c x : Int} (hc : 0 < c) (hx : 0 ≤ x) : ∀ n : Nat, sumTo n (fun i => if c * (i + 1) ≤ x then 1 else 0) = if x / c ≤ n then x / c else n
  | 0 => by
    have : 0 ≤ x / c := Int.ediv_nonneg hx (Int.le_of_lt hc)
    show (0 : Int) = _
    split <;> omega
  | n + 1 => by
    show sumTo n (fun i => if c * (i + 1) ≤ x then 1 else 0) + (if c * ((n : Int) + 1) ≤ x then 1 else 0) = _
    rw [count_mult hc hx n]
    have : c * ((n : Int) + 1) ≤ x ↔ (n : Int) + 1 ≤ x / c := by
      rw [Int.le_ediv_iff_mul_le hc, Int.mul_comm]
    by_cases h : c * ((n : Int) + 1) ≤ x
    · have h2 := this.mp h
      rw [if_pos h]
      split <;> split <;> omega
    · have h2 : ¬ _ := fun z => h (this.mpr z)
      rw [if_neg h]
      split <;> split <;> omega
/-- the sum of floors: (a i + b) / m for i below n -/
def fsum (n : Nat) (a b m : Int) : Int := sumTo n fun i => (a * i + b) / m
theorem fsum_shift (n : Nat) (a b m p q : Int) (hm : 0 < m) : fsum n (a + p * m) (b + q * m) m = fsum n a b m + p * sumTo n (fun i => (i : Int)) + q * n := by
  unfold fsum
  have e : ∀ i : Nat, ((a + p * m) * i + (b + q * m)) / m = (a * i + b) / m + (p * i + q) := fun i => by
    have : (a + p * m) * i + (b + q * m) = (a * i + b) + m * (p * i + q) := by grind
    rw [this, Int.add_mul_ediv_left _ _ (Int.ne_of_gt hm)]
  rw [sumTo_congr fun i _ => e i, sumTo_add, sumTo_add, sumTo_mul, sumTo_const]
  grind
/-- the turn: rows against columns -/
theorem fsum_turn (n : Nat) {a b m : Int} (ha : 0 < a) (hb : 0 ≤ b) (hbm : b < m) (ham : a < m) (hn : 0 < n) : fsum n a b m = fsum ((a * n + b) / m).toNat m ((a * n + b) % m) a := by
  have hm : 0 < m := by omega
  have hn0 : (0 : Int) ≤ n := by omega
  have hx0 : 0 ≤ a * n + b := by
    have := Int.mul_nonneg (Int.le_of_lt ha) hn0
    omega
  have hN0 : 0 ≤ (a * n + b) / m := Int.ediv_nonneg hx0 (Int.le_of_lt hm)
  have hdm := Int.mul_ediv_add_emod (a * n + b) m
  have hr0 := Int.emod_nonneg (a * n + b) (Int.ne_of_gt hm)
  have hr1 := Int.emod_lt_of_pos (a * n + b) hm
  generalize hN : (a * n + b) / m = N at *
  generalize hR : (a * n + b) % m = r at *
  obtain ⟨K, rfl⟩ : ∃ K : Nat, N = K := ⟨N.toNat, by omega⟩
  rw [Int.toNat_natCast]
  unfold fsum
  -- each floor as a count
  have e1 : sumTo n (fun i => (a * i + b) / m) = sumTo n (fun i => sumTo K (fun j => if m * (j + 1) ≤ a * i + b then 1 else 0)) := sumTo_congr fun i hi => by
    have hi0 : (0 : Int) ≤ i := by omega
    have h0 : 0 ≤ a * i + b := by
      have := Int.mul_nonneg (Int.le_of_lt ha) hi0
      omega
    rw [count_mult hm h0 K]
    have : (a * i + b) / m ≤ K := by
      have hle : a * i + b ≤ a * n + b := by
        have := Int.mul_le_mul_of_nonneg_left (show (i : Int) ≤ n by omega) (Int.le_of_lt ha)
        omega
      have := Int.ediv_le_ediv hm hle
      omega
    rw [if_pos this]
  have e2 : sumTo K (fun j => (m * j + r) / a) = sumTo K (fun j => sumTo n (fun i => if a * (i + 1) ≤ m * j + r then 1 else 0)) := sumTo_congr fun j hj => by
    have hj0 : (0 : Int) ≤ j := by omega
    have h0 : 0 ≤ m * j + r := by
      have := Int.mul_nonneg (Int.le_of_lt hm) hj0
      omega
    rw [count_mult ha h0 n]
    have : (m * j + r) / a ≤ n := by
      have h3 : m * j + r ≤ a * n := by
        have : m * ((j : Int) + 1) ≤ m * K := Int.mul_le_mul_of_nonneg_left (show (j : Int) + 1 ≤ K by omega) (Int.le_of_lt hm)
        rw [Int.mul_add, Int.mul_one] at this
        omega
      have := Int.ediv_le_ediv ha h3
      rw [Int.mul_ediv_cancel_left _ (Int.ne_of_gt ha)] at this
      exact this
    rw [if_pos this]
  rw [e1, e2, sumTo_swap]
  rw [sumTo_rev _ K]
  refine sumTo_congr fun j hj => ?_
  rw [sumTo_rev _ n]
  refine sumTo_congr fun i hi => ?_
  have c1 : ((K - 1 - j : Nat) : Int) = K - 1 - j := by omega
  have c2 : ((n - 1 - i : Nat) : Int) = n - 1 - i := by omega
  rw [c1, c2]
  have : m * ((K : Int) - 1 - j + 1) ≤ a * ((n : Int) - 1 - i) + b ↔ a * ((i : Int) + 1) ≤ m * j + r := by
    have h1 : m * ((K : Int) - 1 - j + 1) = m * K - m * j := by grind
    have h2 : a * ((n : Int) - 1 - i) = a * n - a * (i + 1) := by grind
    rw [h1, h2]
    omega
  by_cases h : a * ((i : Int) + 1) ≤ m * j + r
  · rw [if_pos (this.mpr h), if_pos h]
  · rw [if_neg fun z => h (this.mp z), if_neg h]
end OC

set_option Elab.async false
set_option linter.all false
set_option maxRecDepth 100000
set_option maxHeartbeats 600000
set_option exponentiation.threshold 20000
namespace OC
open PySem PySem.Spec PyProof.Rows L2
local macro_rules | `(tactic| walk_at "oc") => `(tactic| ((try simp only [vals, v_val, v_no, v_own, List.map_cons, List.map_nil]); (try simp only [wpE, wpEs]); (try simp only [getV, List.set, bop, augop, cop, ixnop, biop, dtru, itemsOf, bindS, setAllS, bindV, setAll, if_true, if_false, Bool.false_eq_true, List.getElem?_cons_zero, List.getElem?_cons_succ])))
local macro_rules | `(tactic| walk_at "oc0") => `(tactic| simp only [wpBody, start0, List.map_cons, List.map_nil, List.length, List.replicate, List.cons_append, List.nil_append, Nat.reduceAdd, Nat.reduceSub])
local macro_rules | `(tactic| walk_at "b") => `(tactic| try dsimp only)

def c_fsum : DC := fun ds Q => ∃ n a b m : Int, ds = [.int n, .int a, .int b, .int m] ∧ 0 ≤ n ∧ 0 < m ∧ n.natAbs < 2 ^ 500 ∧ a.natAbs < 2 ^ 1000 ∧ b.natAbs < 2 ^ 1000 ∧ m.natAbs < 2 ^ 1000 ∧ Q (.int (fsum n.toNat a b m))
theorem c_fsum_len : ∀ ds Q, c_fsum ds Q → ds.length = 4 := by
  rintro ds Q ⟨n, a, b, m, rfl, _⟩
  rfl
theorem mono_fsum : Mono c_fsum := by
  rintro ds P Q h ⟨n, a, b, m, rfl, h1, h2, h3, h4, h5, h6, h7⟩
  exact ⟨n, a, b, m, rfl, h1, h2, h3, h4, h5, h6, h _ h7⟩
/-- one turn of the sum -/
theorem fsum_step {n a b m : Int} (hn : 0 < n) (hm : 0 < m) : fsum n.toNat a b m = ((n * (n - 1)) / 2 * (a / m) + n * (b / m)) + fsum ((a % m * n + b % m) / m).toNat m ((a % m * n + b % m) % m) (a % m) := by
  have e1 : a = a % m + (a / m) * m := by
    have := Int.mul_ediv_add_emod a m
    rw [Int.mul_comm (a / m)]
    omega
  have e2 : b = b % m + (b / m) * m := by
    have := Int.mul_ediv_add_emod b m
    rw [Int.mul_comm (b / m)]
    omega
  have e3 := fsum_shift n.toNat (a % m) (b % m) m (a / m) (b / m) hm
  rw [← e1, ← e2] at e3
  rw [e3]
  have e4 := sumTo_id n.toNat
  rw [Int.toNat_of_nonneg (Int.le_of_lt hn)] at *
  have e5 : n * (n - 1) / 2 = sumTo n.toNat (fun i => (i : Int)) := by omega
  rw [e5]
  have ha0 := Int.emod_nonneg a (Int.ne_of_gt hm)
  have ha1 := Int.emod_lt_of_pos a hm
  have hb0 := Int.emod_nonneg b (Int.ne_of_gt hm)
  have hb1 := Int.emod_lt_of_pos b hm
  have key : fsum n.toNat (a % m) (b % m) m = fsum ((a % m * n + b % m) / m).toNat m ((a % m * n + b % m) % m) (a % m) := by
    by_cases h0 : a % m = 0
    · rw [h0]
      have z : (b % m) / m = 0 := Int.ediv_eq_zero_of_lt hb0 hb1
      have : (0 * n + b % m) / m = 0 := by rw [Int.zero_mul, Int.zero_add, z]
      rw [this]
      show fsum n.toNat 0 (b % m) m = 0
      unfold fsum
      rw [sumTo_congr (g := fun _ => 0) fun i _ => by rw [Int.zero_mul, Int.zero_add, z], sumTo_zero]
    · have := fsum_turn n.toNat (a := a % m) (b := b % m) (m := m) (by omega) hb0 hb1 ha1 (by omega)
      rw [Int.toNat_of_nonneg (Int.le_of_lt hn)] at this
      exact this
  rw [key, Int.mul_comm (sumTo _ _) (a / m), Int.mul_comm n (b / m)]
  omega
def b_fsum : List S := [.asg 4 (.k (.int 0)), .whileS (.cmp .gt (.var 0) (.k (.int 0))) [.aug 4 .add (.bin .add (.bin .mul (.bin .fdiv (.bin .mul (.var 0) (.bin .sub (.var 0) (.k (.int 1)))) (.k (.int 2))) (.bin .fdiv (.var 1) (.var 3))) (.bin .mul (.var 0) (.bin .fdiv (.var 2) (.var 3)))), .par 1 2 (.bin .mod (.var 1) (.var 3)) (.bin .mod (.var 2) (.var 3)), .unp [0, 2] (.bi .divmod [.bin .add (.bin .mul (.var 1) (.var 0)) (.var 2), .var 3]), .par 3 1 (.var 1) (.var 3)], .ret (.var 4)]
theorem fsum_ok {F : List DC} : ∀ ds Q, c_fsum ds Q → wpBody F 5 b_fsum ds Q := by
  rintro ds Q ⟨n, a, b, m, rfl, h1, h2, h3, h4, h5, h6, hq⟩
  unfold b_fsum
  walk_at "oc0"
  rw [sq_asg]
  walk_at "oc"
  walk_at "b"
  rw [sq_while]
  refine ⟨m.toNat + 1, while_inv (fun k G => ∃ x y z u t : Int, G = [.val (.int x), .val (.int y), .val (.int z), .val (.int u), .val (.int t)] ∧ 0 ≤ x ∧ (x = 0 ∨ 0 < u) ∧ k = u.toNat ∧ x.natAbs < 2 ^ 500 ∧ y.natAbs < 2 ^ 1000 ∧ z.natAbs < 2 ^ 1000 ∧ u.natAbs < 2 ^ 1000 ∧ t + fsum x.toNat y z u = fsum n.toNat a b m) ?_ _ m.toNat (Nat.lt_succ_self _) _ ⟨n, a, b, m, 0, rfl, h1, .inr h2, rfl, h3, h4, h5, h6, by omega⟩⟩
  rintro k _ ⟨x, y, z, u, t, rfl, g1, g2, rfl, g3, g4, g5, g6, g7⟩ nx hnx
  walk_at "oc"
  by_cases h : 0 < x
  · rw [decide_eq_true h]
    refine iteT ?_
    have u0 : 0 < u := by omega
    have lu : u.natAbs.log2 < 9000 := Nat.lt_trans (log2_lt (by decide) g6) (by decide)
    have hy := div_le (a := y) u0
    have hz := div_le (a := z) u0
    walk_at "b"
    rw [sq_aug]
    walk_at "oc"
    rw [fdiv_pos u0, fdiv_pos u0, fdiv_pos (b := 2) (by decide)]
    have hx2 := div_le (a := x * (x - 1)) (b := 2) (by decide)
    have w1 : (x * (x - 1)).natAbs < 2 ^ 1001 := wide_lt (a := 500) (b := 501) g3 (by omega)
    refine ⟨mulW (b := 501) g3 (by omega), ⟨by decide, by decide⟩, ⟨by omega, lu⟩, mulW (a := 1001) (b := 1000) (by omega) (by omega), ⟨by omega, lu⟩, mulW (b := 1000) g3 (by omega), ?_⟩
    walk_at "b"
    rw [sq_par]
    walk_at "oc"
    refine ⟨by omega, by omega, ?_⟩
    rw [fmod_pos u0, fmod_pos u0]
    have y0 := Int.emod_nonneg y (Int.ne_of_gt u0)
    have y1 := Int.emod_lt_of_pos y u0
    have z0 := Int.emod_nonneg z (Int.ne_of_gt u0)
    have z1 := Int.emod_lt_of_pos z u0
    have step := fsum_step (n := x) (a := y) (b := z) (m := u) h u0
    walk_at "b"
    rw [sq_unp]
    walk_at "oc"
    refine ⟨mulW (a := 1000) (by omega) g3, ⟨u0, lu⟩, ?_⟩
    simp only [List.length_cons, List.length_nil, if_true]
    walk_at "b"
    rw [sq_par]
    walk_at "oc"
    walk_at "b"
    rw [sq_nil]
    have q0 : 0 ≤ y % u * x := Int.mul_nonneg y0 (Int.le_of_lt h)
    have q1 : 0 ≤ (y % u * x + z % u) / u := Int.ediv_nonneg (by omega) (Int.le_of_lt u0)
    have q2 : (y % u * x + z % u) / u ≤ x := by
      have i1 : y % u * x ≤ (u - 1) * x := Int.mul_le_mul_of_nonneg_right (by omega) g1
      have i2 : y % u * x + z % u < (x + 1) * u := by
        rw [Int.sub_mul, Int.one_mul] at i1
        rw [Int.add_mul, Int.one_mul, Int.mul_comm x u]
        omega
      have := Int.ediv_lt_of_lt_mul u0 i2
      omega
    have q3 := Int.emod_nonneg (y % u * x + z % u) (Int.ne_of_gt u0)
    have q4 := Int.emod_lt_of_pos (y % u * x + z % u) u0
    refine hnx (y % u).toNat _ (by omega) ⟨_, _, _, _, _, rfl, q1, ?_, rfl, by omega, by omega, by omega, by omega, ?_⟩
    · by_cases e : y % u = 0
      · left
        rw [e, Int.zero_mul, Int.zero_add]
        exact Int.ediv_eq_zero_of_lt z0 z1
      · right
        omega
    · rw [← g7, step]
      omega
  · rw [decide_eq_false h]
    refine iteF ?_
    obtain rfl : x = 0 := by omega
    walk_at "b"
    rw [sq_ret]
    walk_at "oc"
    have : t = fsum n.toNat a b m := by
      rw [← g7]
      show t = t + 0
      omega
    rw [this]
    exact hq
/-- a drawn number up to most in size -/
def c_number : DC := fun ds Q => ∃ m : Int, ds = [.bag, .int m] ∧ 0 < m ∧ m.natAbs < 2 ^ 1000 ∧ ∀ n : Int, n.natAbs ≤ m.natAbs + 20 → Q (.int n)
theorem c_number_len : ∀ ds Q, c_number ds Q → ds.length = 2 := by
  rintro ds Q ⟨m, rfl, _⟩
  rfl
theorem mono_number : Mono c_number := by
  rintro ds P Q h ⟨m, rfl, h1, h2, h3⟩
  exact ⟨m, rfl, h1, h2, fun n hn => h _ (h3 n hn)⟩
def b_number (t : Nat) : List S := [.asg 2 (.ix (.lst [.call t [.var 0, .k (.int 20)], .call t [.var 0, .var 1], .bin .sub (.var 1) (.call t [.var 0, .k (.int 2)])]) (.call t [.var 0, .k (.int 3)])), .ret (.bin .sub (.var 2) (.bin .mul (.bin .mul (.k (.int 2)) (.var 2)) (.call t [.var 0, .k (.int 2)])))]
theorem number_ok {F : List DC} {t : Nat} (hF : MonoF F) (ht : F[t]? = some c_take) : ∀ ds Q, c_number ds Q → wpBody F 3 (b_number t) ds Q := by
  rintro ds Q ⟨m, rfl, h1, h2, hq⟩
  unfold b_number
  walk_at "oc0"
  rw [sq_asg]
  refine ev hF (fun d => ∃ n : Int, d = .int n ∧ 0 ≤ n ∧ n ≤ m + 20) ?_ ?_
  · walk_at "oc"
    simp only [ht]
    refine draw (by decide) (by decide) fun r1 _ _ => draw (by omega) (lt_pw h2 (by decide)) fun r2 _ _ => draw (by decide) (by decide) fun r3 _ _ => draw (by decide) (by decide) fun r h0 h1 => ?_
    refine ix_any h0 h1 fun d hd => ?_
    simp only [List.mem_cons, List.not_mem_nil, or_false] at hd
    rcases hd with rfl | rfl | rfl
    · exact ⟨_, rfl, by omega, by omega⟩
    · exact ⟨_, rfl, by omega, by omega⟩
    · exact ⟨_, rfl, by omega, by omega⟩
  rintro _ ⟨n, rfl, n0, n1⟩
  walk_at "b"
  rw [sq_ret]
  walk_at "oc"
  simp only [ht]
  refine ⟨mulW (a := 2) (b := 1001) (by decide) (by omega), draw (by decide) (by decide) fun s s0 s1 => ⟨mulW (a := 1003) (b := 2) (by omega) (by omega), hq _ ?_⟩⟩
  rcases (show s = 0 ∨ s = 1 by omega) with rfl | rfl
  · omega
  · omega
end OC
namespace OC
theorem ints_map (f : Nat → Int) : ∀ l : List Nat, intsOf (l.map fun i => .int (f i)) = some (l.map f)
  | [] => rfl
  | i :: l => by
    show (intsOf (l.map fun i => .int (f i))).map (f i :: ·) = _
    rw [ints_map f l]
    rfl
theorem ints_rng {N : Nat} {f : Nat → Int} {g : D → D} (hg : ∀ i : Nat, g (.int i) = .int (f i)) : intsOf (List.map g ((List.range N).map fun i : Nat => D.int i)) = some ((List.range N).map f) := by
  rw [List.map_map]
  have : (g ∘ fun i : Nat => D.int i) = fun i => D.int (f i) := funext hg
  rw [this]
  exact ints_map f _
theorem sum_app (l m : List Int) : (l ++ m).sum = l.sum + m.sum := by
  induction l with
  | nil => simp
  | cons a l ih => simp [ih, Int.add_assoc]
theorem sum_range (f : Nat → Int) : ∀ n : Nat, ((List.range n).map f).sum = sumTo n f
  | 0 => rfl
  | n + 1 => by
    rw [List.range_succ, List.map_append, sum_app, sum_range f n]
    show _ + (f n + 0) = _ + f n
    omega
theorem sumTo_abs {f : Nat → Int} {B : Nat} : ∀ {n : Nat}, (∀ i, i < n → (f i).natAbs ≤ B) → (sumTo n f).natAbs ≤ n * B
  | 0, _ => by simp [sumTo]
  | n + 1, h => by
    have h1 := sumTo_abs (n := n) fun i hi => h i (Nat.lt_succ_of_lt hi)
    have h2 := h n (Nat.lt_succ_self n)
    show (sumTo n f + f n).natAbs ≤ _
    rw [Nat.add_mul]
    omega
end OC

set_option Elab.async false
set_option linter.all false
set_option maxRecDepth 100000
set_option maxHeartbeats 1000000
set_option exponentiation.threshold 20000
namespace OC
theorem fsum_split {n c : Nat} (h : c ≤ n) (a b m : Int) : fsum n a b m = fsum c a b m + fsum (n - c) a (b + a * c) m := by
  unfold fsum
  obtain ⟨d, rfl⟩ : ∃ d, n = c + d := ⟨n - c, by omega⟩
  rw [sumTo_split, show c + d - c = d by omega]
  congr 1
  refine sumTo_congr fun i hi => ?_
  have : a * ((c + i : Nat) : Int) + b = a * i + (b + a * c) := by
    rw [Int.natCast_add, Int.mul_add]
    omega
  rw [this]
theorem fsum_rev (n : Nat) (a b m : Int) : fsum n (-a) (b + a * (n - 1)) m = fsum n a b m := by
  unfold fsum
  rw [sumTo_rev (fun i => (a * i + b) / m)]
  refine sumTo_congr fun i hi => ?_
  have c2 : ((n - 1 - i : Nat) : Int) = n - 1 - i := by omega
  rw [c2]
  have : -a * (i : Int) + (b + a * (n - 1)) = a * ((n : Int) - 1 - i) + b := by grind
  rw [this]
theorem neg_floor {x m : Int} (hm : 0 < m) : (-x) / m = -((x - 1) / m) - 1 := by
  have h1 := Int.mul_ediv_add_emod (x - 1) m
  have h2 := Int.emod_nonneg (x - 1) (Int.ne_of_gt hm)
  have h3 := Int.emod_lt_of_pos (x - 1) hm
  generalize (x - 1) / m = q at *
  generalize (x - 1) % m = r at *
  have : -x = (m - r - 1) + m * (-q - 1) := by grind
  rw [this, Int.add_mul_ediv_left _ _ (Int.ne_of_gt hm), Int.ediv_eq_zero_of_lt (by omega) (by omega)]
  omega
theorem fsum_neg (n : Nat) (a b : Int) {m : Int} (hm : 0 < m) : fsum n (-a) (-b) m = -(fsum n a (b - 1) m) - n := by
  unfold fsum
  have e : ∀ i, i < n → (-a * (i : Int) + -b) / m = (0 - (a * i + (b - 1)) / m) - 1 := fun i _ => by
    have : -a * (i : Int) + -b = -(a * i + b) := by grind
    rw [this, neg_floor hm, show a * (i : Int) + b - 1 = a * i + (b - 1) by omega]
    omega
  rw [sumTo_congr e, sumTo_sub (fun i => 0 - (a * (i : Int) + (b - 1)) / m) (fun _ => 1), sumTo_sub (fun _ => 0), sumTo_zero, sumTo_const]
  omega
theorem count_dvd {c : Nat} (hc : 0 < c) : ∀ g : Nat, sumTo (g * c) (fun i => if c ∣ i then 1 else 0) = g
  | 0 => by simp [sumTo]
  | g + 1 => by
    have e : (g + 1) * c = g * c + c := by rw [Nat.add_mul, Nat.one_mul]
    rw [e, sumTo_split, count_dvd hc g]
    obtain ⟨k, rfl⟩ : ∃ k, c = k + 1 := ⟨c - 1, by omega⟩
    rw [sumTo_first]
    rw [sumTo_congr (g := fun _ => 0) fun i hi => by
      rw [if_neg]
      intro z
      have : k + 1 ∣ i + 1 := (Nat.dvd_add_right (Nat.dvd_mul_left _ _)).mp z
      have := Nat.le_of_dvd (by omega) this
      omega]
    rw [sumTo_zero, if_pos (by rw [Nat.add_zero]; exact Nat.dvd_mul_left _ _)]
    omega
theorem dvd_gcd_iff {a b i : Nat} (ha : 0 < a) : a ∣ b * i ↔ a / Nat.gcd a b ∣ i := by
  have g0 : 0 < Nat.gcd a b := Nat.gcd_pos_of_pos_left b ha
  obtain ⟨x, hx⟩ := Nat.gcd_dvd_left a b
  obtain ⟨y, hy⟩ := Nat.gcd_dvd_right a b
  have co : Nat.Coprime x y := by
    have := Nat.coprime_div_gcd_div_gcd (m := a) (n := b) g0
    rwa [show a / Nat.gcd a b = x by rw [Nat.div_eq_iff_eq_mul_left g0 (Nat.gcd_dvd_left a b), Nat.mul_comm]; exact hx, show b / Nat.gcd a b = y by rw [Nat.div_eq_iff_eq_mul_left g0 (Nat.gcd_dvd_right a b), Nat.mul_comm]; exact hy] at this
  have ex : a / Nat.gcd a b = x := by rw [Nat.div_eq_iff_eq_mul_left g0 (Nat.gcd_dvd_left a b), Nat.mul_comm]; exact hx
  rw [ex]
  generalize Nat.gcd a b = g at *
  subst hx hy
  rw [Nat.mul_assoc]
  constructor
  · intro h
    have := Nat.dvd_of_mul_dvd_mul_left g0 h
    exact co.dvd_of_dvd_mul_left this
  · intro h
    exact Nat.mul_dvd_mul_left _ (Nat.dvd_trans h (Nat.dvd_mul_left _ _))
theorem count_gcd {a b : Nat} (ha : 0 < a) : sumTo a (fun i => if a ∣ b * i then 1 else 0) = Nat.gcd a b := by
  have g0 : 0 < Nat.gcd a b := Nat.gcd_pos_of_pos_left b ha
  have hd := Nat.gcd_dvd_left a b
  have e : a = Nat.gcd a b * (a / Nat.gcd a b) := (Nat.mul_div_cancel' hd).symm
  have c0 : 0 < a / Nat.gcd a b := Nat.div_pos (Nat.le_of_dvd ha hd) g0
  have := count_dvd c0 (Nat.gcd a b)
  rw [← e] at this
  rw [← this]
  refine sumTo_congr fun i _ => ?_
  by_cases h : a ∣ b * i
  · rw [if_pos h, if_pos ((dvd_gcd_iff ha).mp h)]
  · rw [if_neg h, if_neg fun z => h ((dvd_gcd_iff ha).mpr z)]
theorem fsum_gcd {a b : Nat} (ha : 0 < a) (hb : 0 < b) : 2 * fsum a b 0 a = ((a : Int) - 1) * (b - 1) + Nat.gcd a b - 1 := by
  obtain ⟨k, rfl⟩ : ∃ k, a = k + 1 := ⟨a - 1, by omega⟩
  have hA : (0 : Int) < ((k + 1 : Nat) : Int) := by omega
  have c := count_gcd (a := k + 1) (b := b) ha
  rw [sumTo_first] at c
  rw [if_pos (by simp)] at c
  have s : fsum (k + 1) b 0 ((k + 1 : Nat) : Int) = sumTo k (fun i => (b : Int) * ((i + 1 : Nat) : Int) / ((k + 1 : Nat) : Int)) := by
    unfold fsum
    rw [sumTo_first]
    rw [sumTo_congr (g := fun i => (b : Int) * ((i + 1 : Nat) : Int) / ((k + 1 : Nat) : Int)) fun i _ => by rw [Int.add_zero]]
    simp
  have s2 : sumTo k (fun i => (b : Int) * ((i + 1 : Nat) : Int) / ((k + 1 : Nat) : Int)) = sumTo k (fun i => (b : Int) * ((k - 1 - i + 1 : Nat) : Int) / ((k + 1 : Nat) : Int)) := sumTo_rev (fun i => (b : Int) * ((i + 1 : Nat) : Int) / ((k + 1 : Nat) : Int)) k
  have p : sumTo k (fun i => (b : Int) * ((i + 1 : Nat) : Int) / ((k + 1 : Nat) : Int)) + sumTo k (fun i => (b : Int) * ((k - 1 - i + 1 : Nat) : Int) / ((k + 1 : Nat) : Int)) = sumTo k (fun i => ((b : Int) - 1) + (if k + 1 ∣ b * (i + 1) then 1 else 0)) := by
    rw [← sumTo_add]
    refine sumTo_congr fun i hi => ?_
    have e1 : ((k - 1 - i + 1 : Nat) : Int) = ((k + 1 : Nat) : Int) - ((i + 1 : Nat) : Int) := by omega
    rw [e1]
    have e2 : (b : Int) * (((k + 1 : Nat) : Int) - ((i + 1 : Nat) : Int)) = -((b : Int) * ((i + 1 : Nat) : Int)) + ((k + 1 : Nat) : Int) * b := by grind
    rw [e2, Int.add_mul_ediv_left _ _ (Int.ne_of_gt hA), neg_floor hA]
    have cast : (b : Int) * ((i + 1 : Nat) : Int) = ((b * (i + 1) : Nat) : Int) := by rw [Int.natCast_mul]
    rw [cast]
    generalize hx : b * (i + 1) = x
    have x0 : 0 < x := by rw [← hx]; exact Nat.mul_pos hb (by omega)
    have h1 := Int.mul_ediv_add_emod (x : Int) ((k + 1 : Nat) : Int)
    have h2 := Int.emod_nonneg (x : Int) (Int.ne_of_gt hA)
    have h3 := Int.emod_lt_of_pos (x : Int) hA
    by_cases hd : k + 1 ∣ x
    · rw [if_pos hd]
      have z : (x : Int) % ((k + 1 : Nat) : Int) = 0 := Int.emod_eq_zero_of_dvd (Int.natCast_dvd_natCast.mpr hd)
      have : ((x : Int) - 1) / ((k + 1 : Nat) : Int) = (x : Int) / ((k + 1 : Nat) : Int) - 1 := by
        have e : (x : Int) - 1 = (((k + 1 : Nat) : Int) - 1) + ((k + 1 : Nat) : Int) * ((x : Int) / ((k + 1 : Nat) : Int) - 1) := by grind
        rw [e, Int.add_mul_ediv_left _ _ (Int.ne_of_gt hA), Int.ediv_eq_zero_of_lt (by omega) (by omega)]
        omega
      rw [this]
      omega
    · rw [if_neg hd]
      have z : (x : Int) % ((k + 1 : Nat) : Int) ≠ 0 := fun z => hd (Int.natCast_dvd_natCast.mp (Int.dvd_of_emod_eq_zero z))
      have : ((x : Int) - 1) / ((k + 1 : Nat) : Int) = (x : Int) / ((k + 1 : Nat) : Int) := by
        have e : (x : Int) - 1 = ((x : Int) % ((k + 1 : Nat) : Int) - 1) + ((k + 1 : Nat) : Int) * ((x : Int) / ((k + 1 : Nat) : Int)) := by omega
        rw [e, Int.add_mul_ediv_left _ _ (Int.ne_of_gt hA), Int.ediv_eq_zero_of_lt (by omega) (by omega)]
        omega
      rw [this]
      omega
  rw [← s2, sumTo_add, sumTo_const, ← s] at p
  have c' : sumTo k (fun i => if k + 1 ∣ b * (i + 1) then (1 : Int) else 0) = (Nat.gcd (k + 1) b : Int) - 1 := by omega
  rw [c'] at p
  have : (((k + 1 : Nat) : Int) - 1) = (k : Int) := by omega
  rw [this]
  omega
end OC

set_option Elab.async false
set_option linter.all false
set_option maxRecDepth 100000
set_option maxHeartbeats 600000
set_option exponentiation.threshold 20000
namespace OC
open PySem PySem.Spec PyProof.Rows L2
local macro_rules | `(tactic| walk_at "oc") => `(tactic| ((try simp only [vals, v_val, v_no, v_own, List.map_cons, List.map_nil]); (try simp only [wpE, wpEs]); (try simp only [getV, List.set, bop, augop, cop, ixnop, biop, dtru, itemsOf, bindS, setAllS, bindV, setAll, if_true, if_false, Bool.false_eq_true, List.getElem?_cons_zero, List.getElem?_cons_succ])))
local macro_rules | `(tactic| walk_at "oc0") => `(tactic| simp only [wpBody, start0, List.map_cons, List.map_nil, List.length, List.replicate, List.cons_append, List.nil_append, Nat.reduceAdd, Nat.reduceSub])
local macro_rules | `(tactic| walk_at "b") => `(tactic| try dsimp only)

def c_right : DC := fun ds Q => ds = [.bag] ∧ Q (.bl true)
theorem c_right_len : ∀ ds Q, c_right ds Q → ds.length = 1 := by
  rintro ds Q ⟨rfl, _⟩
  rfl
theorem mono_right : Mono c_right := by
  rintro ds P Q h ⟨rfl, h1⟩
  exact ⟨rfl, h _ h1⟩
/-- how many rests lie within -/
def rwin (n : Nat) (a b m lo hi : Int) : Int := fsum n a (b - lo) m - fsum n a (b - hi - 1) m
def c_rw : DC := fun ds Q => ∃ n a b m lo hi : Int, ds = [.int n, .int a, .int b, .int m, .int lo, .int hi] ∧ 0 ≤ n ∧ 0 < m ∧ n.natAbs < 2 ^ 500 ∧ a.natAbs < 2 ^ 1000 ∧ b.natAbs < 2 ^ 900 ∧ m.natAbs < 2 ^ 1000 ∧ lo.natAbs < 2 ^ 900 ∧ hi.natAbs < 2 ^ 900 ∧ Q (.int (rwin n.toNat a b m lo hi))
theorem c_rw_len : ∀ ds Q, c_rw ds Q → ds.length = 6 := by
  rintro ds Q ⟨n, a, b, m, lo, hi, rfl, _⟩
  rfl
theorem mono_rw : Mono c_rw := by
  rintro ds P Q h ⟨n, a, b, m, lo, hi, rfl, h1, h2, h3, h4, h5, h6, h7, h8, h9⟩
  exact ⟨n, a, b, m, lo, hi, rfl, h1, h2, h3, h4, h5, h6, h7, h8, h _ h9⟩
def b_rw (f : Nat) : List S := [.ret (.bin .sub (.call f [.var 0, .var 1, .bin .sub (.var 2) (.var 4), .var 3]) (.call f [.var 0, .var 1, .bin .sub (.bin .sub (.var 2) (.var 5)) (.k (.int 1)), .var 3]))]
theorem rw_ok {F : List DC} {f : Nat} (hf : F[f]? = some c_fsum) : ∀ ds Q, c_rw ds Q → wpBody F 6 (b_rw f) ds Q := by
  rintro ds Q ⟨n, a, b, m, lo, hi, rfl, h1, h2, h3, h4, h5, h6, h7, h8, h9⟩
  unfold b_rw
  walk_at "oc0"
  rw [sq_ret]
  walk_at "oc"
  simp only [hf]
  refine ⟨n, a, b - lo, m, rfl, h1, h2, h3, h4, by omega, h6, n, a, b - hi - 1, m, rfl, h1, h2, h3, h4, by omega, h6, ?_⟩
  exact h9
/-- a drawn sequence -/
def c_seq : DC := fun ds Q => ds = [.bag] ∧ ∀ n a b m : Int, 0 ≤ n → n ≤ 10 ^ 30 → 0 < m → m ≤ 10 ^ 60 + 21 → a.natAbs ≤ 2 * m.natAbs + 20 → b.natAbs ≤ 3 * m.natAbs + 20 → Q (.tup [.int n, .int a, .int b, .int m])
theorem c_seq_len : ∀ ds Q, c_seq ds Q → ds.length = 1 := by
  rintro ds Q ⟨rfl, _⟩
  rfl
theorem mono_seq : Mono c_seq := by
  rintro ds P Q h ⟨rfl, h1⟩
  exact ⟨rfl, fun n a b m h2 h3 h4 h5 h6 h7 => h _ (h1 n a b m h2 h3 h4 h5 h6 h7)⟩
def b_seq (n t : Nat) : List S := [.asg 1 (.bin .add (.k (.int 1)) (.bi .abs [.call n [.var 0, .ix (.lst [.k (.int 30), .bin .pow (.k (.int 10)) (.k (.int 9)), .bin .pow (.k (.int 10)) (.k (.int 60))]) (.call t [.var 0, .k (.int 3)])]])), .asg 2 (.ix (.lst [.call t [.var 0, .k (.int 40)], .call t [.var 0, .bin .pow (.k (.int 10)) (.k (.int 30))], .bin .sub (.bin .pow (.k (.int 10)) (.k (.int 30))) (.call t [.var 0, .k (.int 9)])]) (.call t [.var 0, .k (.int 3)])), .ret (.tup [.var 2, .call n [.var 0, .bin .mul (.k (.int 2)) (.var 1)], .call n [.var 0, .bin .mul (.k (.int 3)) (.var 1)], .var 1])]
theorem b60 {m : Int} (h0 : 0 < m) (h : m ≤ 10 ^ 60 + 21) : m.natAbs < 2 ^ 201 := Nat.lt_of_le_of_lt (show m.natAbs ≤ 10 ^ 60 + 21 by omega) (by decide)
theorem seq_ok {F : List DC} {n t : Nat} (hF : MonoF F) (hn : F[n]? = some c_number) (ht : F[t]? = some c_take) : ∀ ds Q, c_seq ds Q → wpBody F 3 (b_seq n t) ds Q := by
  rintro ds Q ⟨rfl, hq⟩
  unfold b_seq
  walk_at "oc0"
  rw [sq_asg]
  refine ev hF (fun d => ∃ m : Int, d = .int m ∧ 0 < m ∧ m ≤ 10 ^ 60 + 21) ?_ ?_
  · walk_at "oc"
    simp only [ht, hn]
    refine ⟨⟨by decide, by decide, by decide⟩, ⟨by decide, by decide, by decide⟩, draw (by decide) (by decide) fun r r0 r1 => ix_any r0 r1 fun d hd => ?_⟩
    have mn : ∀ (d : Int) (P : D → Prop), 0 < d → d ≤ 10 ^ 60 → (∀ z : Int, z.natAbs ≤ 10 ^ 60 + 20 → P (.int z)) → c_number [.bag, .int d] P := fun d P d0 d1 hp =>
      ⟨d, rfl, d0, Nat.lt_of_le_of_lt (show d.natAbs ≤ 10 ^ 60 by omega) (by decide), fun z hz => hp z (by omega)⟩
    simp only [List.mem_cons, List.not_mem_nil, or_false] at hd
    rcases hd with rfl | rfl | rfl
    · exact mn _ _ (by decide) (by decide) fun z hz => ⟨_, rfl, by split <;> omega, by split <;> omega⟩
    · exact mn _ _ (by decide) (by decide) fun z hz => ⟨_, rfl, by split <;> omega, by split <;> omega⟩
    · exact mn _ _ (by decide) (by decide) fun z hz => ⟨_, rfl, by split <;> omega, by split <;> omega⟩
  rintro _ ⟨m, rfl, m0, m1⟩
  walk_at "b"
  rw [sq_asg]
  refine ev hF (fun d => ∃ n : Int, d = .int n ∧ 0 ≤ n ∧ n ≤ 10 ^ 30) ?_ ?_
  · walk_at "oc"
    simp only [ht]
    have e : (10 : Int) ^ Int.toNat 30 = 10 ^ 30 := by decide
    rw [e]
    refine draw (by decide) (by decide) fun x _ _ => ⟨⟨by decide, by decide, by decide⟩, draw (by decide) (by decide) fun y _ _ => ⟨⟨by decide, by decide, by decide⟩, draw (by decide) (by decide) fun z _ _ => draw (by decide) (by decide) fun r r0 r1 => ix_any r0 r1 fun d hd => ?_⟩⟩
    simp only [List.mem_cons, List.not_mem_nil, or_false] at hd
    rcases hd with rfl | rfl | rfl
    · exact ⟨_, rfl, by omega, by omega⟩
    · exact ⟨_, rfl, by omega, by omega⟩
    · exact ⟨_, rfl, by omega, by omega⟩
  rintro _ ⟨c, rfl, c0, c1⟩
  walk_at "b"
  rw [sq_ret]
  walk_at "oc"
  simp only [hn]
  have mb := b60 m0 m1
  refine ⟨mulW (a := 2) (by decide) mb, _, rfl, by omega, ?_, fun a ha => ⟨mulW (a := 2) (by decide) mb, _, rfl, by omega, ?_, fun b hb => hq _ _ _ _ c0 c1 m0 m1 (by omega) (by omega)⟩⟩
  · exact lt_pw (m := 204) (by omega) (by decide)
  · exact lt_pw (m := 204) (by omega) (by decide)
theorem fsum_abs {n : Nat} {a b m : Int} {j k : Nat} (hm : 0 < m) (hn : n < 2 ^ j) (ha : a.natAbs < 2 ^ k) (hb : b.natAbs < 2 ^ k) : (fsum n a b m).natAbs < 2 ^ (j + (j + k + 1)) := by
  have h : (fsum n a b m).natAbs ≤ n * 2 ^ (j + k + 1) := sumTo_abs fun i hi => by
    have h1 := div_le (a := a * i + b) hm
    have h2 : (a * (i : Int)).natAbs ≤ 2 ^ k * 2 ^ j := by
      rw [Int.natAbs_mul]
      exact Nat.mul_le_mul (Nat.le_of_lt ha) (by omega)
    have h3 : (2 : Nat) ^ k ≤ 2 ^ k * 2 ^ j := Nat.le_mul_of_pos_right _ (Nat.two_pow_pos j)
    have h4 : (2 : Nat) ^ (j + k + 1) = 2 ^ k * 2 ^ j + 2 ^ k * 2 ^ j := by
      rw [Nat.pow_succ, Nat.pow_add, Nat.mul_comm (2 ^ j), Nat.mul_two]
    omega
  rw [Nat.pow_add]
  exact Nat.lt_of_le_of_lt h (Nat.mul_lt_mul_of_pos_right hn (Nat.two_pow_pos _))
theorem half_id {n : Int} (h : 0 ≤ n) : n * (n - 1) / 2 = sumTo n.toNat (fun i => (i : Int)) := by
  have := sumTo_id n.toNat
  rw [Int.toNat_of_nonneg h] at this
  omega
end OC

set_option Elab.async false
set_option linter.all false
set_option maxRecDepth 100000
set_option maxHeartbeats 1000000
set_option exponentiation.threshold 20000
/-! Onecut: the first multiple within, plain. -/
namespace OC
def Hit (t u l h x : Int) : Prop := l ≤ (t * x) % u ∧ (t * x) % u ≤ h
/-- r is the least that hits -/
def Lst (t u l h : Int) : Option Int → Prop
  | none => ∀ x, 0 ≤ x → ¬ Hit t u l h x
  | some x => 0 ≤ x ∧ Hit t u l h x ∧ ∀ z, 0 ≤ z → Hit t u l h z → x ≤ z
theorem Lst.lt {t u l h x : Int} (hu : 0 < u) (H : Lst t u l h (some x)) : x < u := by
  obtain ⟨h0, h1, h2⟩ := H
  apply Int.not_le.mp
  intro hx
  have e : (t * (x - u)) % u = (t * x) % u := by
    have : t * (x - u) = t * x + u * (-t) := by grind
    rw [this, Int.add_mul_emod_self_left]
  have := h2 (x - u) (by omega) (by unfold Hit at *; rw [e]; exact h1)
  omega
theorem lst_iff {t u l h t' u' l' h' : Int} (e : ∀ x, Hit t u l h x ↔ Hit t' u' l' h' x) : ∀ {r : Option Int}, Lst t u l h r ↔ Lst t' u' l' h' r
  | none => ⟨fun H x hx z => H x hx ((e x).mpr z), fun H x hx z => H x hx ((e x).mp z)⟩
  | some x => ⟨fun ⟨a, b, c⟩ => ⟨a, (e x).mp b, fun z hz q => c z hz ((e z).mpr q)⟩, fun ⟨a, b, c⟩ => ⟨a, (e x).mpr b, fun z hz q => c z hz ((e z).mp q)⟩⟩
theorem mod_mul_mod (a x m : Int) : (a % m * x) % m = (a * x) % m := by
  rw [Int.mul_emod, Int.emod_emod, ← Int.mul_emod]
theorem hit_mod {t u l h x : Int} : Hit (t % u) u l h x ↔ Hit t u l h x := by
  unfold Hit
  rw [mod_mul_mod]
/-- the mirror -/
theorem hit_mirror {t u l h x : Int} (hu : 0 < u) (hl : 0 < l) (hh : h < u) : Hit (u - t) u (u - h) (u - l) x ↔ Hit t u l h x := by
  unfold Hit
  have e : (u - t) * x = -(t * x) + u * x := by grind
  rw [e, Int.add_mul_emod_self_left]
  generalize t * x = v
  have h2 := Int.emod_nonneg v (Int.ne_of_gt hu)
  have h3 := Int.emod_lt_of_pos v hu
  have h4 := Int.mul_ediv_add_emod v u
  by_cases z : v % u = 0
  · have : (-v) % u = 0 := Int.emod_eq_zero_of_dvd (Int.dvd_neg.mpr (Int.dvd_of_emod_eq_zero z))
    rw [this, z]
    omega
  · have : (-v) % u = u - v % u := by
      have e : -v = (u - v % u) + u * (-(v / u) - 1) := by grind
      rw [e, Int.add_mul_emod_self_left, Int.emod_eq_of_lt (by omega) (by omega)]
    rw [this]
    omega
/-- the least multiple that reaches l -/
def cl (l t : Int) : Int := -((-l) / t)
theorem cl_ge {l t : Int} (ht : 0 < t) : l ≤ cl l t * t := by
  unfold cl
  have := Int.ediv_mul_le (-l) (Int.ne_of_gt ht)
  rw [Int.neg_mul]
  omega
theorem cl_le {l t x : Int} (ht : 0 < t) (h : l ≤ x * t) : cl l t ≤ x := by
  unfold cl
  have : -x ≤ (-l) / t := (Int.le_ediv_iff_mul_le ht).mpr (by rw [Int.neg_mul]; omega)
  omega
theorem cl_mono {l l' t : Int} (ht : 0 < t) (h : l ≤ l') : cl l t ≤ cl l' t := cl_le ht (Int.le_trans h (cl_ge ht))
theorem lst_direct {t u l h : Int} (ht : 0 < t) (hl : 0 < l) (hh : h < u) (hc : cl l t * t ≤ h) : Lst t u l h (some (cl l t)) := by
  have g := cl_ge (l := l) ht
  have p : 0 ≤ cl l t := by
    apply Int.not_lt.mp
    intro z
    have := Int.mul_le_mul_of_nonneg_right (show cl l t ≤ -1 by omega) (Int.le_of_lt ht)
    omega
  refine ⟨p, ?_, fun z hz hit => ?_⟩
  · unfold Hit
    rw [Int.mul_comm, Int.emod_eq_of_lt (by omega) (by omega)]
    exact ⟨g, hc⟩
  · apply Int.not_lt.mp
    intro hlt
    have h1 : z * t < l := by
      apply Int.not_le.mp
      intro q
      have := cl_le ht q
      omega
    have h2 : 0 ≤ z * t := Int.mul_nonneg hz (Int.le_of_lt ht)
    obtain ⟨a, _⟩ := hit
    rw [Int.mul_comm, Int.emod_eq_of_lt h2 (by omega)] at a
    omega
theorem lst_zero {u l h : Int} (hl : 0 < l) : Lst 0 u l h none := by
  intro x _ ⟨a, _⟩
  rw [Int.zero_mul, Int.zero_emod] at a
  omega
section
variable {t u l h : Int}
theorem step_facts (ht : 0 < t) (hl : 0 < l) (hlh : l ≤ h) (hc : h < cl l t * t) : 0 < l % t ∧ l % t ≤ h % t ∧ l / t = h / t := by
  have a1 := Int.mul_ediv_add_emod l t
  have a2 := Int.emod_nonneg l (Int.ne_of_gt ht)
  have a3 := Int.emod_lt_of_pos l ht
  have b1 := Int.mul_ediv_add_emod h t
  have b2 := Int.emod_nonneg h (Int.ne_of_gt ht)
  have b3 := Int.emod_lt_of_pos h ht
  have l0 : l % t ≠ 0 := fun z => by
    have : cl l t ≤ l / t := cl_le ht (by rw [Int.mul_comm]; omega)
    have := Int.mul_le_mul_of_nonneg_right this (Int.le_of_lt ht)
    rw [Int.mul_comm (l / t)] at this
    omega
  have d1 : l / t ≤ h / t := Int.ediv_le_ediv ht hlh
  have d2 : h / t ≤ l / t := by
    apply Int.not_lt.mp
    intro z
    have c1 : cl l t ≤ l / t + 1 := cl_le ht (by rw [Int.add_mul, Int.one_mul, Int.mul_comm]; omega)
    have c2 := Int.mul_le_mul_of_nonneg_right (show cl l t ≤ h / t by omega) (Int.le_of_lt ht)
    rw [Int.mul_comm (h / t)] at c2
    omega
  have e : l / t = h / t := by omega
  rw [← e] at b1
  exact ⟨by omega, by omega, e⟩
/-- a hit of the whole gives one of the part -/
theorem hit_down (ht : 0 < t) (hu : 0 < u) (hl : 0 < l) (hlh : l ≤ h) (hc : h < cl l t * t) {x : Int} (hx : Hit t u l h x) : Hit ((-u) % t) t (l % t) (h % t) ((t * x) / u) ∧ cl (l + u * ((t * x) / u)) t ≤ x := by
  obtain ⟨f1, f2, f3⟩ := step_facts ht hl hlh hc
  have a1 := Int.mul_ediv_add_emod l t
  have b1 := Int.mul_ediv_add_emod h t
  have v1 := Int.mul_ediv_add_emod (t * x) u
  obtain ⟨h1, h2⟩ := hx
  generalize (t * x) / u = y at *
  generalize hv : (t * x) % u = v at *
  constructor
  · unfold Hit
    rw [mod_mul_mod]
    have e : -u * y = v + t * (-x) := by grind
    rw [e, Int.add_mul_emod_self_left]
    have a3 := Int.emod_lt_of_pos l ht
    have b3 := Int.emod_lt_of_pos h ht
    rw [← f3] at b1
    have : v % t = v - t * (l / t) := by
      have e : v = (v - t * (l / t)) + t * (l / t) := by omega
      rw [e, Int.add_mul_emod_self_left, Int.emod_eq_of_lt (by omega) (by omega)]
      omega
    rw [this]
    omega
  · exact cl_le ht (by rw [Int.mul_comm x t]; omega)
/-- a hit of the part gives one of the whole -/
theorem hit_up (ht : 0 < t) (hu : 0 < u) (hl : 0 < l) (hlh : l ≤ h) (hh : h < u) (hc : h < cl l t * t) {y : Int} (hy : Hit ((-u) % t) t (l % t) (h % t) y) : Hit t u l h (cl (l + u * y) t) := by
  obtain ⟨f1, f2, f3⟩ := step_facts ht hl hlh hc
  have a1 := Int.mul_ediv_add_emod l t
  have b1 := Int.mul_ediv_add_emod h t
  rw [← f3] at b1
  unfold Hit at hy
  rw [mod_mul_mod] at hy
  obtain ⟨h1, h2⟩ := hy
  have r1 := Int.mul_ediv_add_emod (-u * y) t
  generalize hr : (-u * y) % t = r at *
  generalize (-u * y) / t = q at *
  -- u y + (t k + r) is a multiple of t
  have m : u * y + (t * (l / t) + r) = (l / t - q) * t := by grind
  have x1 : cl (l + u * y) t ≤ l / t - q := cl_le ht (by omega)
  have x2 := Int.mul_le_mul_of_nonneg_right x1 (Int.le_of_lt ht)
  have x3 := cl_ge (l := l + u * y) ht
  generalize cl (l + u * y) t = x at *
  unfold Hit
  have e : t * x = (t * x - u * y) + u * y := by omega
  rw [e, Int.add_mul_emod_self_left]
  have : x * t = t * x := Int.mul_comm _ _
  rw [Int.emod_eq_of_lt (by omega) (by omega)]
  omega
theorem lst_step (ht : 0 < t) (hu : 0 < u) (hl : 0 < l) (hlh : l ≤ h) (hh : h < u) (hc : h < cl l t * t) : ∀ {r : Option Int}, Lst ((-u) % t) t (l % t) (h % t) r → Lst t u l h (r.map fun y => cl (l + u * y) t)
  | none, H => fun x hx hit => H _ (Int.ediv_nonneg (Int.mul_nonneg (Int.le_of_lt ht) hx) (Int.le_of_lt hu)) (hit_down ht hu hl hlh hc hit).1
  | some y, ⟨y0, y1, y2⟩ => by
    refine ⟨?_, hit_up ht hu hl hlh hh hc y1, fun z hz hit => ?_⟩
    · have g := cl_ge (l := l + u * y) ht
      show 0 ≤ cl (l + u * y) t
      apply Int.not_lt.mp
      intro z
      have := Int.mul_le_mul_of_nonneg_right (show cl (l + u * y) t ≤ -1 by omega) (Int.le_of_lt ht)
      have := Int.mul_nonneg (Int.le_of_lt hu) y0
      omega
    · obtain ⟨d1, d2⟩ := hit_down ht hu hl hlh hc hit
      have := y2 _ (Int.ediv_nonneg (Int.mul_nonneg (Int.le_of_lt ht) hz) (Int.le_of_lt hu)) d1
      have m := Int.mul_le_mul_of_nonneg_left this (Int.le_of_lt hu)
      exact Int.le_trans (cl_mono ht (by omega)) d2
end
end OC

set_option Elab.async false
set_option linter.all false
set_option maxRecDepth 100000
set_option maxHeartbeats 600000
set_option exponentiation.threshold 20000
namespace OC
open PySem PySem.Spec PyProof.Rows L2
local macro_rules | `(tactic| walk_at "oc") => `(tactic| ((try simp only [vals, v_val, v_no, v_own, List.map_cons, List.map_nil]); (try simp only [wpE, wpEs]); (try simp only [getV, List.set, bop, augop, cop, ixnop, biop, dtru, itemsOf, bindS, setAllS, bindV, setAll, if_true, if_false, Bool.false_eq_true, List.getElem?_cons_zero, List.getElem?_cons_succ])))
local macro_rules | `(tactic| walk_at "oc0") => `(tactic| simp only [wpBody, start0, List.map_cons, List.map_nil, List.length, List.replicate, List.cons_append, List.nil_append, Nat.reduceAdd, Nat.reduceSub])
local macro_rules | `(tactic| walk_at "b") => `(tactic| try dsimp only)

def oD : Option Int → D
  | none => .non
  | some x => .int x
def t3D (p : Int × Int × Int) : D := .tup [.int p.1, .int p.2.1, .int p.2.2]
def Chn (T : Option Int → Prop) : List (Int × Int × Int) → (Option Int → Prop) → Prop
  | [], L => ∀ r, L r → T r
  | (a, b, c) :: S, L => (0 < a ∧ a.natAbs < 2 ^ 900 ∧ b.natAbs < 2 ^ 900 ∧ c.natAbs < 2 ^ 900) ∧ (∀ y, L (some y) → y.natAbs < 2 ^ 900) ∧ ∃ L', Chn T S L' ∧ ∀ r, L r → L' (r.map fun y => cl (c + b * y) a)
theorem Chn.weak {T L M : Option Int → Prop} (h : ∀ r, M r → L r) : ∀ {R : List (Int × Int × Int)}, Chn T R L → Chn T R M
  | [], H => fun r m => H r (h r m)
  | (a, b, c) :: S, ⟨h1, h2, L', h3, h4⟩ => ⟨h1, fun y m => h2 y (h _ m), L', h3, fun r m => h4 r (h _ m)⟩
theorem Chn.non {T L : Option Int → Prop} : ∀ {R : List (Int × Int × Int)}, Chn T R L → L none → T none
  | [], H, l => H _ l
  | (a, b, c) :: S, ⟨_, _, L', h3, h4⟩, l => Chn.non h3 (h4 none l)
theorem cl_fdiv {l t : Int} (ht : 0 < t) : -((-l).fdiv t) = cl l t := by
  rw [fdiv_pos ht]
  rfl
theorem cl_abs {l t : Int} (ht : 0 < t) : (cl l t).natAbs ≤ l.natAbs := by
  unfold cl
  have := div_le (a := -l) ht
  omega
theorem fm_for {F : List DC} {T : Option Int → Prop} {k : Ks} {s3 s4 : Sl} (hk : ∀ s0 s1 s2 x, T (some x) → k.nx [s0, s1, s2, s3, s4, .val (.int x)]) : ∀ (R : List (Int × Int × Int)) (L : Option Int → Prop) (y : Int) (s0 s1 s2 : Sl), Chn T R L → L (some y) →
    wpFor (fun G1 K1 => wpSs F [.asg 5 (.neg (.bin .fdiv (.neg (.bin .add (.var 2) (.bin .mul (.var 1) (.var 5)))) (.var 0)))] G1 K1) (.tup [0, 1, 2]) k (R.map t3D) [s0, s1, s2, s3, s4, .val (.int y)]
  | [], L, y, s0, s1, s2, H, l => by
    rw [List.map_nil, wpFor]
    exact hk _ _ _ _ (H _ l)
  | (a, b, c) :: S, L, y, s0, s1, s2, ⟨⟨a0, ab, bb, cb⟩, h2, L', h3, h4⟩, l => by
    rw [List.map_cons, wpFor]
    unfold t3D
    walk_at "oc"
    simp only [List.length_cons, List.length_nil, if_true]
    walk_at "b"
    rw [sq_asg]
    walk_at "oc"
    refine ⟨mulW bb (h2 y l), ⟨by omega, Nat.lt_trans (log2_lt (by decide) ab) (by decide)⟩, ?_⟩
    walk_at "b"
    rw [sq_nil]
    rw [cl_fdiv a0]
    exact fm_for hk S L' _ _ _ _ h3 (h4 _ l)
def c_fm : DC := fun ds Q => ∃ t u l h : Int, ds = [.int t, .int u, .int l, .int h] ∧ 0 < u ∧ 0 < l ∧ l ≤ h ∧ h < u ∧ t.natAbs < 2 ^ 900 ∧ u.natAbs < 2 ^ 900 ∧ ∀ r, Lst t u l h r → Q (oD r)
theorem c_fm_len : ∀ ds Q, c_fm ds Q → ds.length = 4 := by
  rintro ds Q ⟨n, a, b, m, rfl, _⟩
  rfl
theorem mono_fm : Mono c_fm := by
  rintro ds P Q h ⟨n, a, b, m, rfl, h1, h2, h3, h4, h5, h6, h7⟩
  exact ⟨n, a, b, m, rfl, h1, h2, h3, h4, h5, h6, fun r hr => h _ (h7 r hr)⟩
def b_fm : List S := [.asgL 4 [], .whileS (.k (.bl true)) [.aug 0 .mod (.var 1), .ite (.cmp .gt (.bin .mul (.k (.int 2)) (.var 0)) (.var 1)) [.unp [0, 2, 3] (.tup [.bin .sub (.var 1) (.var 0), .bin .sub (.var 1) (.var 3), .bin .sub (.var 1) (.var 2)])] [], .ite (.cmp .eq (.var 0) (.k (.int 0))) [.ret (.k .non)] [], .asg 5 (.neg (.bin .fdiv (.neg (.var 2)) (.var 0))), .ite (.cmp .le (.bin .mul (.var 5) (.var 0)) (.var 3)) [.brk] [], .app 4 (.tup [.var 0, .var 1, .var 2]), .unp [0, 1, 2, 3] (.tup [.bin .mod (.neg (.var 1)) (.var 0), .var 0, .bin .mod (.var 2) (.var 0), .bin .mod (.var 3) (.var 0)])], .frz [4], .forS (.tup [0, 1, 2]) .rev [.var 4] [.asg 5 (.neg (.bin .fdiv (.neg (.bin .add (.var 2) (.bin .mul (.var 1) (.var 5)))) (.var 0)))], .ret (.var 5)]
theorem fm_ok {F : List DC} : ∀ ds Q, c_fm ds Q → wpBody F 6 b_fm ds Q := by
  rintro ds Q ⟨t, u, l, h, rfl, h1, h2, h3, h4, h5, h6, hq⟩
  unfold b_fm
  walk_at "oc0"
  rw [sq_asgL]
  walk_at "oc"
  walk_at "b"
  rw [sq_while]
  refine ⟨u.toNat + 1, while_inv (fun k G => ∃ (t1 u1 l1 h1 : Int) (R : List (Int × Int × Int)) (s5 : Sl), G = [.val (.int t1), .val (.int u1), .val (.int l1), .val (.int h1), .own (R.reverse.map t3D), s5] ∧ k = u1.toNat ∧ 0 < u1 ∧ 0 < l1 ∧ l1 ≤ h1 ∧ h1 < u1 ∧ u1.natAbs < 2 ^ (900 - R.length) ∧ Chn (Lst t u l h) R (Lst t1 u1 l1 h1)) ?_ _ u.toNat (Nat.lt_succ_self _) _ ⟨t, u, l, h, [], .no, rfl, rfl, h1, h2, h3, h4, h6, fun r hr => hr⟩⟩
  rintro k _ ⟨t1, u1, l1, h1, R, s5, rfl, rfl, u0, l0, lh, hu, ub, ch⟩ nx hnx
  have len : R.length < 900 := by
    apply Nat.lt_of_not_le
    intro z
    rw [Nat.sub_eq_zero_of_le z] at ub
    omega
  have ub9 : u1.natAbs < 2 ^ 900 := lt_pw ub (by omega)
  walk_at "oc"
  walk_at "b"
  rw [sq_aug]
  walk_at "oc"
  refine ⟨by omega, ?_⟩
  rw [fmod_pos u0]
  have m0 := Int.emod_nonneg t1 (Int.ne_of_gt u0)
  have m1 := Int.emod_lt_of_pos t1 u0
  have ch2 : Chn (Lst t u l h) R (Lst (t1 % u1) u1 l1 h1) := ch.weak fun r hr => (lst_iff fun x => hit_mod).mp hr
  generalize t1 % u1 = t2 at *
  walk_at "b"
  rw [sq_ite]
  walk_at "oc"
  refine ⟨mulW (a := 2) (b := 900) (by decide) (by omega), ?_⟩
  refine join2 (fun G1 => ∃ t3 l3 h3 : Int, G1 = [.val (.int t3), .val (.int u1), .val (.int l3), .val (.int h3), .own (R.reverse.map t3D), s5] ∧ 0 ≤ t3 ∧ 2 * t3 ≤ u1 ∧ 0 < l3 ∧ l3 ≤ h3 ∧ h3 < u1 ∧ Chn (Lst t u l h) R (Lst t3 u1 l3 h3)) ?_ ?_
  · rintro _ ⟨t3, l3, h3, rfl, q0, q1, q2, q3, q4, ch3⟩
    walk_at "b"
    rw [sq_ite]
    walk_at "oc"
    by_cases z : t3 = 0
    · rw [decide_eq_true z]
      refine iteT ?_
      walk_at "b"
      rw [sq_ret]
      walk_at "oc"
      subst z
      exact hq none (ch3.non (lst_zero q2))
    rw [decide_eq_false z]
    refine iteF ?_
    walk_at "b"
    rw [sq_nil]
    have p3 : 0 < t3 := by omega
    have lg : t3.natAbs.log2 < 9000 := Nat.lt_trans (log2_lt (n := 900) (by decide) (by omega)) (by decide)
    walk_at "b"
    rw [sq_asg]
    walk_at "oc"
    refine ⟨⟨by omega, lg⟩, ?_⟩
    rw [cl_fdiv p3]
    have ca := cl_abs (l := l3) p3
    walk_at "b"
    rw [sq_ite]
    walk_at "oc"
    refine ⟨mulW (a := 900) (b := 900) (by omega) (by omega), ?_⟩
    by_cases c : cl l3 t3 * t3 ≤ h3
    · rw [decide_eq_true c]
      refine iteT ?_
      walk_at "b"
      rw [sq_brk]
      walk_at "b"
      rw [sq_frz]
      simp only [frzS, List.set, List.getElem?_cons_zero, List.getElem?_cons_succ]
      walk_at "b"
      rw [sq_for]
      walk_at "oc"
      rw [← List.map_reverse, List.reverse_reverse]
      refine fm_for (fun s0 s1 s2 x hx => ?_) R _ _ _ _ _ ch3 (lst_direct p3 q2 q4 c)
      walk_at "b"
      rw [sq_ret]
      walk_at "oc"
      exact hq (some x) hx
    rw [decide_eq_false c]
    refine iteF ?_
    walk_at "b"
    rw [sq_nil]
    walk_at "b"
    rw [sq_app]
    simp only [getO]
    walk_at "oc"
    refine ⟨by simp; omega, ?_⟩
    walk_at "b"
    rw [sq_unp]
    walk_at "oc"
    refine ⟨by omega, by omega, by omega, ?_⟩
    rw [fmod_pos p3, fmod_pos p3, fmod_pos p3]
    simp only [List.length_cons, List.length_nil, if_true]
    walk_at "b"
    rw [sq_nil]
    have hc : h3 < cl l3 t3 * t3 := by omega
    obtain ⟨f1, f2, f3⟩ := step_facts p3 q2 q3 hc
    refine hnx t3.toNat _ (by omega) ⟨_, _, _, _, (t3, u1, l3) :: R, .val (.int (cl l3 t3)), ?_, rfl, p3, f1, f2, Int.emod_lt_of_pos h3 p3, ?_, ⟨⟨p3, by omega, ub9, by omega⟩, fun y hy => ?_, _, ch3, fun r hr => lst_step p3 u0 q2 q3 q4 hc hr⟩⟩
    · simp [t3D]
    · have e : 900 - R.length = (900 - (R.length + 1)) + 1 := by omega
      rw [e, Nat.pow_succ] at ub
      show t3.natAbs < 2 ^ (900 - (R.length + 1))
      omega
    · have := hy.lt p3
      have := hy.1
      omega
  · intro J' hJ
    by_cases g : u1 < 2 * t2
    · rw [decide_eq_true g]
      refine iteT ?_
      walk_at "b"
      rw [sq_unp]
      walk_at "oc"
      simp only [List.length_cons, List.length_nil, if_true]
      walk_at "b"
      rw [sq_nil]
      exact hJ _ ⟨_, _, _, rfl, by omega, by omega, by omega, by omega, by omega, ch2.weak fun r hr => (lst_iff fun x => hit_mirror u0 l0 hu).mp hr⟩
    · rw [decide_eq_false g]
      refine iteF ?_
      walk_at "b"
      rw [sq_nil]
      exact hJ _ ⟨_, _, _, rfl, m0, by omega, l0, lh, hu, ch2⟩
/-- the first within -/
def Fst (n : Int) (a b m lo hi : Int) : Option Int → Prop
  | none => ∀ i, 0 ≤ i → i < n → ¬ (lo ≤ (a * i + b) % m ∧ (a * i + b) % m ≤ hi)
  | some x => 0 ≤ x ∧ x < n ∧ (lo ≤ (a * x + b) % m ∧ (a * x + b) % m ≤ hi) ∧ ∀ i, 0 ≤ i → i < x → ¬ (lo ≤ (a * i + b) % m ∧ (a * i + b) % m ≤ hi)
def c_fw : DC := fun ds Q => ∃ n a b m lo hi : Int, ds = [.int n, .int a, .int b, .int m, .int lo, .int hi] ∧ 0 ≤ n ∧ 0 < m ∧ a.natAbs < 2 ^ 900 ∧ m.natAbs < 2 ^ 900 ∧ 0 ≤ lo ∧ lo ≤ hi ∧ hi < m ∧ ∀ r, Fst n a b m lo hi r → Q (oD r)
theorem c_fw_len : ∀ ds Q, c_fw ds Q → ds.length = 6 := by
  rintro ds Q ⟨n, a, b, m, lo, hi, rfl, _⟩
  rfl
theorem mono_fw : Mono c_fw := by
  rintro ds P Q h ⟨n, a, b, m, lo, hi, rfl, h1, h2, h3, h4, h5, h6, h7, h8⟩
  exact ⟨n, a, b, m, lo, hi, rfl, h1, h2, h3, h4, h5, h6, h7, fun r hr => h _ (h8 r hr)⟩
theorem shift_hit {a b m lo hi x : Int} (hm : 0 < m) (h0 : 0 ≤ lo) (h1 : lo ≤ hi) (h2 : hi < m) (hs : ¬ (lo ≤ b % m ∧ b % m ≤ hi)) : Hit a m ((lo - b) % m) ((hi - b) % m) x ↔ (lo ≤ (a * x + b) % m ∧ (a * x + b) % m ≤ hi) := by
  unfold Hit
  generalize a * x = v
  have b0 := Int.emod_nonneg b (Int.ne_of_gt hm)
  have b1 := Int.emod_lt_of_pos b hm
  have b2 := Int.mul_ediv_add_emod b m
  have v0 := Int.emod_nonneg v (Int.ne_of_gt hm)
  have v1 := Int.emod_lt_of_pos v hm
  have v2 := Int.mul_ediv_add_emod v m
  generalize b % m = s at *
  generalize v % m = r at *
  have sm : ∀ (x y k : Int), x = y + m * k → 0 ≤ y → y < m → x % m = y := fun x y k e y0 y1 => by
    rw [e, Int.add_mul_emod_self_left, Int.emod_eq_of_lt y0 y1]
  by_cases c : s < lo
  · rw [sm (lo - b) (lo - s) (-(b / m)) (by rw [Int.mul_neg]; omega) (by omega) (by omega), sm (hi - b) (hi - s) (-(b / m)) (by rw [Int.mul_neg]; omega) (by omega) (by omega)]
    by_cases d : r + s < m
    · rw [sm (v + b) (r + s) (v / m + b / m) (by rw [Int.mul_add]; omega) (by omega) d]
      omega
    · rw [sm (v + b) (r + s - m) (v / m + b / m + 1) (by rw [Int.mul_add, Int.mul_add]; omega) (by omega) (by omega)]
      omega
  · rw [sm (lo - b) (lo - s + m) (-(b / m) - 1) (by rw [Int.mul_sub, Int.mul_neg]; omega) (by omega) (by omega), sm (hi - b) (hi - s + m) (-(b / m) - 1) (by rw [Int.mul_sub, Int.mul_neg]; omega) (by omega) (by omega)]
    by_cases d : r + s < m
    · rw [sm (v + b) (r + s) (v / m + b / m) (by rw [Int.mul_add]; omega) (by omega) d]
      omega
    · rw [sm (v + b) (r + s - m) (v / m + b / m + 1) (by rw [Int.mul_add, Int.mul_add]; omega) (by omega) (by omega)]
      omega
theorem shift_ok {b m lo hi : Int} (hm : 0 < m) (h0 : 0 ≤ lo) (h1 : lo ≤ hi) (h2 : hi < m) (hs : ¬ (lo ≤ b % m ∧ b % m ≤ hi)) : 0 < (lo - b) % m ∧ (lo - b) % m ≤ (hi - b) % m ∧ (hi - b) % m < m := by
  have b0 := Int.emod_nonneg b (Int.ne_of_gt hm)
  have b1 := Int.emod_lt_of_pos b hm
  have b2 := Int.mul_ediv_add_emod b m
  generalize b % m = s at *
  have sm : ∀ (x y k : Int), x = y + m * k → 0 ≤ y → y < m → x % m = y := fun x y k e y0 y1 => by
    rw [e, Int.add_mul_emod_self_left, Int.emod_eq_of_lt y0 y1]
  by_cases c : s < lo
  · rw [sm (lo - b) (lo - s) (-(b / m)) (by rw [Int.mul_neg]; omega) (by omega) (by omega), sm (hi - b) (hi - s) (-(b / m)) (by rw [Int.mul_neg]; omega) (by omega) (by omega)]
    omega
  · rw [sm (lo - b) (lo - s + m) (-(b / m) - 1) (by rw [Int.mul_sub, Int.mul_neg]; omega) (by omega) (by omega), sm (hi - b) (hi - s + m) (-(b / m) - 1) (by rw [Int.mul_sub, Int.mul_neg]; omega) (by omega) (by omega)]
    omega
def b_fw (f : Nat) : List S := [.ite (.cmp .eq (.var 0) (.k (.int 0))) [.ret (.k .non)] [], .ite (.chain .le .le (.var 4) (.bin .mod (.var 2) (.var 3)) (.var 5)) [.ret (.k (.int 0))] [], .asg 6 (.call f [.var 1, .var 3, .bin .mod (.bin .sub (.var 4) (.var 2)) (.var 3), .bin .mod (.bin .sub (.var 5) (.var 2)) (.var 3)]), .ret (.ite (.andv (.cmp .isnot (.var 6) (.k .non)) (.cmp .lt (.var 6) (.var 0))) (.var 6) (.k .non))]
theorem fw_ok {F : List DC} {f : Nat} (hf : F[f]? = some c_fm) : ∀ ds Q, c_fw ds Q → wpBody F 7 (b_fw f) ds Q := by
  rintro ds Q ⟨n, a, b, m, lo, hi, rfl, n0, m0, ab, mb, l0, lh, hm, hq⟩
  unfold b_fw
  walk_at "oc0"
  rw [sq_ite]
  walk_at "oc"
  by_cases z : n = 0
  · rw [decide_eq_true z]
    refine iteT ?_
    walk_at "b"
    rw [sq_ret]
    walk_at "oc"
    exact hq none fun i i0 i1 => by omega
  rw [decide_eq_false z]
  refine iteF ?_
  walk_at "b"
  rw [sq_nil]
  walk_at "b"
  rw [sq_ite]
  walk_at "oc"
  refine ⟨by omega, ?_⟩
  rw [fmod_pos m0]
  have yes : lo ≤ b % m → b % m ≤ hi → Q (.int 0) := fun y1 y2 => hq (some 0) ⟨Int.le_refl _, by omega, by rw [Int.mul_zero, Int.zero_add]; exact ⟨y1, y2⟩, fun i i0 i1 => by omega⟩
  have no : ¬ (lo ≤ b % m ∧ b % m ≤ hi) → wpSs F [.asg 6 (.call f [.var 1, .var 3, .bin .mod (.bin .sub (.var 4) (.var 2)) (.var 3), .bin .mod (.bin .sub (.var 5) (.var 2)) (.var 3)]), .ret (.ite (.andv (.cmp .isnot (.var 6) (.k .non)) (.cmp .lt (.var 6) (.var 0))) (.var 6) (.k .non))] [.val (.int n), .val (.int a), .val (.int b), .val (.int m), .val (.int lo), .val (.int hi), .no] { nx := fun _ => Q .non, rt := Q, bk := fun _ => False, ct := fun _ => False } := by
    intro hs
    rw [sq_asg]
    walk_at "oc"
    simp only [hf]
    refine ⟨by omega, by omega, ?_⟩
    rw [fmod_pos m0, fmod_pos m0]
    obtain ⟨s1, s2, s3⟩ := shift_ok m0 l0 lh hm hs
    refine ⟨_, _, _, _, rfl, m0, s1, s2, s3, ab, mb, fun r hr => ?_⟩
    walk_at "b"
    rw [sq_ret]
    match r, hr with
    | none, hr =>
      simp only [oD]
      walk_at "oc"
      exact hq none fun i i0 i1 hh => hr i i0 ((shift_hit m0 l0 lh hm hs).mpr hh)
    | some x, ⟨x0, x1, x2⟩ =>
      simp only [oD]
      walk_at "oc"
      by_cases g : x < n
      · rw [decide_eq_true g]
        exact iteT (hq (some x) ⟨x0, g, (shift_hit m0 l0 lh hm hs).mp x1, fun i i0 i1 hh => by
          have := x2 i i0 ((shift_hit m0 l0 lh hm hs).mpr hh)
          omega⟩)
      · rw [decide_eq_false g]
        exact iteF (hq none fun i i0 i1 hh => by
          have := x2 i i0 ((shift_hit m0 l0 lh hm hs).mpr hh)
          omega)
  by_cases c : lo ≤ b % m
  · rw [decide_eq_true c]
    refine iteT ?_
    by_cases d : b % m ≤ hi
    · rw [decide_eq_true d]
      refine iteT ?_
      walk_at "b"
      rw [sq_ret]
      walk_at "oc"
      exact yes c d
    · rw [decide_eq_false d]
      refine iteF ?_
      walk_at "b"
      rw [sq_nil]
      exact no fun z => d z.2
  · rw [decide_eq_false c]
    refine iteF ?_
    walk_at "b"
    rw [sq_nil]
    exact no fun z => c z.1
end OC

set_option Elab.async false
set_option linter.all false
set_option maxRecDepth 100000
set_option maxHeartbeats 1000000
set_option exponentiation.threshold 20000
namespace OC
def inW (m lo hi x : Int) : Bool := decide (lo ≤ x % m) && decide (x % m ≤ hi)
theorem floor_gap {x m lo hi : Int} (hm : 0 < m) (h0 : 0 ≤ lo) (h1 : lo ≤ hi + 1) (h2 : hi < m) : (x - lo) / m - (x - hi - 1) / m = if inW m lo hi x = true then 1 else 0 := by
  have r0 := Int.emod_nonneg x (Int.ne_of_gt hm)
  have r1 := Int.emod_lt_of_pos x hm
  have r2 := Int.mul_ediv_add_emod x m
  unfold inW
  generalize x % m = r at *
  generalize x / m = q at *
  have dv : ∀ (z y k : Int), z = y + m * k → 0 ≤ y → y < m → z / m = k := fun z y k e y0 y1 => by
    rw [e, Int.add_mul_ediv_left _ _ (Int.ne_of_gt hm), Int.ediv_eq_zero_of_lt y0 y1, Int.zero_add]
  by_cases c : lo ≤ r
  · rw [dv (x - lo) (r - lo) q (by omega) (by omega) (by omega)]
    by_cases d : r ≤ hi
    · rw [dv (x - hi - 1) (r - hi - 1 + m) (q - 1) (by rw [Int.mul_sub]; omega) (by omega) (by omega)]
      simp only [decide_eq_true c, decide_eq_true d, Bool.and_true, if_true]
      omega
    · rw [dv (x - hi - 1) (r - hi - 1) q (by omega) (by omega) (by omega)]
      simp only [decide_eq_false d, Bool.and_false, Bool.false_eq_true, if_false]
      omega
  · rw [dv (x - lo) (r - lo + m) (q - 1) (by rw [Int.mul_sub]; omega) (by omega) (by omega)]
    rw [dv (x - hi - 1) (r - hi - 1 + m) (q - 1) (by rw [Int.mul_sub]; omega) (by omega) (by omega)]
    simp only [decide_eq_false c, Bool.false_and, Bool.false_eq_true, if_false]
    omega
theorem rwin_count {n : Nat} {a b m lo hi : Int} (hm : 0 < m) (h0 : 0 ≤ lo) (h1 : lo ≤ hi + 1) (h2 : hi < m) : rwin n a b m lo hi = sumTo n fun i => if inW m lo hi (a * i + b) = true then 1 else 0 := by
  unfold rwin fsum
  rw [← sumTo_sub]
  refine sumTo_congr fun i _ => ?_
  rw [← floor_gap hm h0 h1 h2, show a * (i : Int) + (b - lo) = a * i + b - lo by omega, show a * (i : Int) + (b - hi - 1) = a * i + b - hi - 1 by omega]
theorem count_le (p : Nat → Bool) : ∀ n : Nat, 0 ≤ sumTo n (fun i => if p i = true then 1 else 0) ∧ sumTo n (fun i => if p i = true then 1 else 0) ≤ n
  | 0 => by simp [sumTo]
  | n + 1 => by
    have := count_le p n
    show 0 ≤ sumTo n _ + (if p n = true then 1 else 0) ∧ sumTo n _ + (if p n = true then 1 else 0) ≤ _
    split <;> omega
theorem count_zero (p : Nat → Bool) : ∀ n : Nat, (∀ i, i < n → p i = false) → sumTo n (fun i => if p i = true then 1 else 0) = 0
  | 0, _ => rfl
  | n + 1, h => by
    show sumTo n _ + (if p n = true then 1 else 0) = 0
    rw [count_zero p n fun i hi => h i (Nat.lt_succ_of_lt hi), h n (Nat.lt_succ_self n)]
    rfl
theorem count_pos (p : Nat → Bool) : ∀ n i : Nat, i < n → p i = true → 0 < sumTo n (fun i => if p i = true then 1 else 0)
  | 0, i, h, _ => absurd h (Nat.not_lt_zero i)
  | n + 1, i, h, hp => by
    show 0 < sumTo n _ + (if p n = true then 1 else 0)
    have := count_le p n
    rcases Nat.lt_or_eq_of_le (Nat.le_of_lt_succ h) with h | rfl
    · have := count_pos p n i h hp
      split <;> omega
    · rw [hp]
      simp only [if_true]
      omega
theorem rwin_split {n c : Nat} (h : c ≤ n) (a b m lo hi : Int) : rwin c a b m lo hi + rwin (n - c) a (b + c * a) m lo hi = rwin n a b m lo hi := by
  unfold rwin
  rw [fsum_split h a (b - lo) m, fsum_split h a (b - hi - 1) m]
  rw [show b + (c : Int) * a - lo = b - lo + a * c by rw [Int.mul_comm]; omega, show b + (c : Int) * a - hi - 1 = b - hi - 1 + a * c by rw [Int.mul_comm]; omega]
  omega
theorem fsum_back (n : Nat) (a b : Int) {m : Int} (hm : 0 < m) : fsum n a (b - m) m = fsum n a b m - n := by
  have := fsum_shift n a b m 0 (-1) hm
  simp only [Int.zero_mul, Int.add_zero, Int.neg_mul, Int.one_mul] at this
  rw [show b - m = b + -m by omega, this]
  omega
theorem inW_iff {m lo hi x : Int} : inW m lo hi x = true ↔ (lo ≤ x % m ∧ x % m ≤ hi) := by
  unfold inW
  simp
end OC

set_option Elab.async false
set_option linter.all false
set_option maxRecDepth 100000
set_option maxHeartbeats 600000
set_option exponentiation.threshold 20000
namespace OC
open PySem PySem.Spec PyProof.Rows L2
local macro_rules | `(tactic| walk_at "oc") => `(tactic| ((try simp only [vals, v_val, v_no, v_own, List.map_cons, List.map_nil]); (try simp only [wpE, wpEs]); (try simp only [getV, List.set, bop, augop, cop, ixnop, biop, dtru, itemsOf, bindS, setAllS, bindV, setAll, if_true, if_false, Bool.false_eq_true, List.getElem?_cons_zero, List.getElem?_cons_succ])))
local macro_rules | `(tactic| walk_at "oc0") => `(tactic| simp only [wpBody, start0, List.map_cons, List.map_nil, List.length, List.replicate, List.cons_append, List.nil_append, Nat.reduceAdd, Nat.reduceSub])
local macro_rules | `(tactic| walk_at "b") => `(tactic| try dsimp only)

def c_bounds : DC := fun ds Q => ∃ m : Int, ds = [.bag, .int m] ∧ 0 < m ∧ m ≤ 10 ^ 60 + 21 ∧ ∀ lo hi : Int, 0 ≤ lo → lo ≤ hi → hi < m → Q (.tup [.int lo, .int hi])
theorem c_bounds_len : ∀ ds Q, c_bounds ds Q → ds.length = 2 := by
  rintro ds Q ⟨m, rfl, _⟩
  rfl
theorem mono_bounds : Mono c_bounds := by
  rintro ds P Q h ⟨m, rfl, h1, h2, h3⟩
  exact ⟨m, rfl, h1, h2, fun lo hi a b c => h _ (h3 lo hi a b c)⟩
def b_bounds (t : Nat) : List S := [.asg 2 (.bin .mod (.bin .mul (.call t [.var 0, .bi .min [.var 1, .bin .pow (.k (.int 10)) (.k (.int 6))]]) (.bi .max [.k (.int 1), .bin .fdiv (.var 1) (.bin .pow (.k (.int 10)) (.k (.int 6)))])) (.var 1)), .asg 3 (.ix (.lst [.k (.int 0), .call t [.var 0, .k (.int 4)], .bin .fdiv (.var 1) (.bin .add (.k (.int 1)) (.call t [.var 0, .k (.int 30)])), .bin .fdiv (.var 1) (.bin .pow (.k (.int 10)) (.k (.int 20)))]) (.call t [.var 0, .k (.int 4)])), .ret (.tup [.var 2, .bi .min [.bin .sub (.var 1) (.k (.int 1)), .bin .add (.var 2) (.var 3)]])]
theorem bounds_ok {F : List DC} {t : Nat} (hF : MonoF F) (ht : F[t]? = some c_take) : ∀ ds Q, c_bounds ds Q → wpBody F 4 (b_bounds t) ds Q := by
  rintro ds Q ⟨m, rfl, m0, m1, hq⟩
  have mb := b60 m0 m1
  unfold b_bounds
  walk_at "oc0"
  rw [sq_asg]
  have e6 : (10 : Int) ^ Int.toNat 6 = 1000000 := by decide
  have e20 : (10 : Int) ^ Int.toNat 20 = 10 ^ 20 := by decide
  refine ev hF (fun d => ∃ lo : Int, d = .int lo ∧ 0 ≤ lo ∧ lo < m) ?_ ?_
  · walk_at "oc"
    simp only [ht]
    rw [e6]
    refine ⟨⟨by decide, by decide, by decide⟩, draw (by split <;> omega) (lt_pw (m := 201) (by split <;> omega) (by decide)) fun x x0 x1 => ⟨⟨by decide, by decide, by decide⟩, ⟨by decide, by decide⟩, ?_⟩⟩
    rw [fdiv_pos (by decide)]
    have dl := div_le (a := m) (b := 1000000) (by decide)
    have xb : x.natAbs < 2 ^ 30 := by
      have : x < 1000000 := by split at x1 <;> omega
      omega
    refine ⟨mulW (b := 202) xb (by split <;> omega), by omega, _, rfl, ?_⟩
    exact fmod_lt m0
  rintro _ ⟨lo, rfl, l0, l1⟩
  walk_at "b"
  rw [sq_asg]
  refine ev hF (fun d => ∃ w : Int, d = .int w ∧ 0 ≤ w) ?_ ?_
  · walk_at "oc"
    simp only [ht]
    rw [e20]
    refine draw (by decide) (by decide) fun x x0 x1 => draw (by decide) (by decide) fun y y0 y1 => ⟨⟨by omega, ?_⟩, ⟨by decide, by decide, by decide⟩, ⟨by decide, by decide +kernel⟩, draw (by decide) (by decide) fun r r0 r1 => ix_any r0 r1 fun d hd => ?_⟩
    · exact Nat.lt_trans (log2_lt (n := 6) (by decide) (by omega)) (by decide)
    simp only [List.mem_cons, List.not_mem_nil, or_false] at hd
    rcases hd with rfl | rfl | rfl | rfl
    · exact ⟨_, rfl, by decide⟩
    · exact ⟨_, rfl, x0⟩
    · exact ⟨_, rfl, by rw [fdiv_pos (by omega)]; exact Int.ediv_nonneg (by omega) (by omega)⟩
    · exact ⟨_, rfl, by rw [fdiv_pos (by decide)]; exact Int.ediv_nonneg (by omega) (by decide)⟩
  rintro _ ⟨w, rfl, w0⟩
  walk_at "b"
  rw [sq_ret]
  walk_at "oc"
  exact hq _ _ l0 (by split <;> omega) (by split <;> omega)
def b_right16 (rw fw t sq bo : Nat) : List S := [.unp [1, 2, 3, 4] (.call sq [.var 0]), .unp [5, 6] (.call bo [.var 0, .var 4]), .asg 7 (.call rw [.var 1, .var 2, .var 3, .var 4, .var 5, .var 6]), .ite (.notv (.chain .le .le (.k (.int 0)) (.var 7) (.var 1))) [.ret (.k (.bl false))] [], .ite (.cmp .ne (.call rw [.var 1, .var 2, .var 3, .var 4, .k (.int 0), .bin .sub (.var 4) (.k (.int 1))]) (.var 1)) [.ret (.k (.bl false))] [], .asg 8 (.var 7), .ite (.cmp .gt (.var 5) (.k (.int 0))) [.asg 8 (.bin .add (.var 8) (.call rw [.var 1, .var 2, .var 3, .var 4, .k (.int 0), .bin .sub (.var 5) (.k (.int 1))]))] [], .ite (.cmp .lt (.var 6) (.bin .sub (.var 4) (.k (.int 1)))) [.asg 8 (.bin .add (.var 8) (.call rw [.var 1, .var 2, .var 3, .var 4, .bin .add (.var 6) (.k (.int 1)), .bin .sub (.var 4) (.k (.int 1))]))] [], .asg 9 (.call t [.var 0, .bin .add (.var 1) (.k (.int 1))]), .asg 10 (.call rw [.bin .sub (.var 1) (.var 9), .var 2, .bin .add (.var 3) (.bin .mul (.var 9) (.var 2)), .var 4, .var 5, .var 6]), .ite (.cmp .ne (.var 8) (.var 1)) [.ret (.k (.bl false))] [], .ite (.cmp .ne (.bin .add (.call rw [.var 9, .var 2, .var 3, .var 4, .var 5, .var 6]) (.var 10)) (.var 7)) [.ret (.k (.bl false))] [], .asg 11 (.call fw [.var 1, .var 2, .var 3, .var 4, .var 5, .var 6]), .ite (.orv (.cmp .isn (.var 11) (.k .non)) (.cmp .eq (.var 7) (.k (.int 0)))) [.ret (.andv (.cmp .isn (.var 11) (.k .non)) (.cmp .eq (.var 7) (.k (.int 0))))] [], .ite (.orv (.notv (.chain .le .lt (.k (.int 0)) (.var 11) (.var 1))) (.notv (.chain .le .le (.var 5) (.bin .mod (.bin .add (.bin .mul (.var 2) (.var 11)) (.var 3)) (.var 4)) (.var 6)))) [.ret (.k (.bl false))] [], .ret (.cmp .eq (.call rw [.var 11, .var 2, .var 3, .var 4, .var 5, .var 6]) (.k (.int 0)))]
theorem right16 {F : List DC} {rw fw t sq bo : Nat} (hF : MonoF F) (hrw : F[rw]? = some c_rw) (hfw : F[fw]? = some c_fw) (ht : F[t]? = some c_take) (hsq : F[sq]? = some c_seq) (hbo : F[bo]? = some c_bounds) : ∀ ds Q, c_right ds Q → wpBody F 12 (b_right16 rw fw t sq bo) ds Q := by
  rintro ds Q ⟨rfl, hq⟩
  unfold b_right16
  walk_at "oc0"
  rw [sq_unp]
  walk_at "oc"
  simp only [hsq]
  refine ⟨rfl, fun n a b m n0 n1 m0 m1 ha hb => ?_⟩
  walk_at "oc"
  simp only [List.length_cons, List.length_nil, if_true]
  have mb := b60 m0 m1
  have nb : n.natAbs < 2 ^ 100 := Nat.lt_of_le_of_lt (show n.natAbs ≤ 10 ^ 30 by omega) (by decide)
  have ab : a.natAbs < 2 ^ 205 := by omega
  have bb : b.natAbs < 2 ^ 205 := by omega
  have nb5 : n.natAbs < 2 ^ 500 := lt_pw nb (by decide)
  have mb1 : m.natAbs < 2 ^ 1000 := lt_pw mb (by decide)
  have ab1 : a.natAbs < 2 ^ 1000 := lt_pw ab (by decide)
  have bb9 : b.natAbs < 2 ^ 900 := lt_pw bb (by decide)
  walk_at "b"
  rw [sq_unp]
  walk_at "oc"
  simp only [hbo]
  refine ⟨m, rfl, m0, m1, fun lo hi l0 lh hm => ?_⟩
  walk_at "oc"
  simp only [List.length_cons, List.length_nil, if_true]
  have lb : lo.natAbs < 2 ^ 201 := by omega
  have hbb : hi.natAbs < 2 ^ 201 := by omega
  have small : ∀ z : Int, z.natAbs < 2 ^ 202 → z.natAbs < 2 ^ 900 := fun z hz => lt_pw hz (by decide)
  have rwc : ∀ (x lo' hi' : Int) (P : D → Prop), 0 ≤ x → x.natAbs < 2 ^ 101 → lo'.natAbs < 2 ^ 202 → hi'.natAbs < 2 ^ 202 → P (.int (rwin x.toNat a b m lo' hi')) → c_rw [.int x, .int a, .int b, .int m, .int lo', .int hi'] P := fun x lo' hi' P x0 xb h1 h2 p =>
    ⟨x, a, b, m, lo', hi', rfl, x0, m0, lt_pw xb (by decide), ab1, bb9, mb1, small _ h1, small _ h2, p⟩
  walk_at "b"
  rw [sq_asg]
  walk_at "oc"
  simp only [hrw]
  refine rwc _ _ _ _ n0 (by omega) (by omega) (by omega) ?_
  have cnt := rwin_count (n := n.toNat) (a := a) (b := b) (m := m) (lo := lo) (hi := hi) m0 l0 (by omega) hm
  have cle := count_le (fun i => inW m lo hi (a * i + b)) n.toNat
  rw [← cnt, Int.toNat_of_nonneg n0] at cle
  walk_at "b"
  rw [sq_ite]
  walk_at "oc"
  rw [decide_eq_true cle.1]
  refine iteT ?_
  rw [decide_eq_true cle.2]
  refine iteF ?_
  walk_at "b"
  rw [sq_nil]
  have bk := fsum_back n.toNat a b m0
  rw [Int.toNat_of_nonneg n0] at bk
  walk_at "b"
  rw [sq_ite]
  walk_at "oc"
  simp only [hrw]
  refine rwc _ _ _ _ n0 (by omega) (by omega) (by omega) ?_
  walk_at "oc"
  rw [decide_eq_true (p := rwin n.toNat a b m 0 (m - 1) = n) (by
    unfold rwin
    rw [Int.sub_zero, show b - (m - 1) - 1 = b - m by omega, bk]
    omega)]
  refine iteF ?_
  walk_at "b"
  rw [sq_nil]
  walk_at "b"
  rw [sq_asg]
  walk_at "oc"
  walk_at "b"
  rw [sq_ite]
  walk_at "oc"
  refine join2 (fun G1 => G1 = [.val .bag, .val (.int n), .val (.int a), .val (.int b), .val (.int m), .val (.int lo), .val (.int hi), .val (.int (rwin n.toNat a b m lo hi)), .val (.int (fsum n.toNat a b m - fsum n.toNat a (b - hi - 1) m)), .no, .no, .no]) ?_ ?_
  rotate_left
  · intro J' hJ
    by_cases g : 0 < lo
    · rw [decide_eq_true g]
      refine iteT ?_
      walk_at "b"
      rw [sq_asg]
      walk_at "oc"
      simp only [hrw]
      refine rwc _ _ _ _ n0 (by omega) (by omega) (by omega) ?_
      walk_at "oc"
      walk_at "b"
      rw [sq_nil]
      have eq : rwin n.toNat a b m lo hi + rwin n.toNat a b m 0 (lo - 1) = fsum n.toNat a b m - fsum n.toNat a (b - hi - 1) m := by
        unfold rwin
        rw [Int.sub_zero, show b - (lo - 1) - 1 = b - lo by omega]
        omega
      refine hJ _ ?_
      rw [eq]
    · rw [decide_eq_false g]
      refine iteF ?_
      walk_at "b"
      rw [sq_nil]
      refine hJ _ ?_
      obtain rfl : lo = 0 := by omega
      have eq : rwin n.toNat a b m 0 hi = fsum n.toNat a b m - fsum n.toNat a (b - hi - 1) m := by
        unfold rwin
        rw [Int.sub_zero]
      rw [eq]
  rintro _ rfl
  walk_at "b"
  rw [sq_ite]
  walk_at "oc"
  refine join2 (fun G1 => G1 = [.val .bag, .val (.int n), .val (.int a), .val (.int b), .val (.int m), .val (.int lo), .val (.int hi), .val (.int (rwin n.toNat a b m lo hi)), .val (.int n), .no, .no, .no]) ?_ ?_
  rotate_left
  · intro J' hJ
    by_cases g : hi < m - 1
    · rw [decide_eq_true g]
      refine iteT ?_
      walk_at "b"
      rw [sq_asg]
      walk_at "oc"
      simp only [hrw]
      refine rwc _ _ _ _ n0 (by omega) (by omega) (by omega) ?_
      walk_at "oc"
      walk_at "b"
      rw [sq_nil]
      have eq : fsum n.toNat a b m - fsum n.toNat a (b - hi - 1) m + rwin n.toNat a b m (hi + 1) (m - 1) = n := by
        unfold rwin
        rw [show b - (hi + 1) = b - hi - 1 by omega, show b - (m - 1) - 1 = b - m by omega, bk]
        omega
      refine hJ _ ?_
      rw [eq]
    · rw [decide_eq_false g]
      refine iteF ?_
      walk_at "b"
      rw [sq_nil]
      refine hJ _ ?_
      obtain rfl : hi = m - 1 := by omega
      have eq : fsum n.toNat a b m - fsum n.toNat a (b - (m - 1) - 1) m = n := by
        rw [show b - (m - 1) - 1 = b - m by omega, bk]
        omega
      rw [eq]
  rintro _ rfl
  walk_at "b"
  rw [sq_asg]
  walk_at "oc"
  simp only [ht]
  refine draw (by omega) (lt_pw (m := 101) (by omega) (by decide)) fun c c0 c1 => ?_
  have cb : c.natAbs < 2 ^ 101 := by omega
  have cab : (c * a).natAbs < 2 ^ 306 := wide_lt cb ab
  walk_at "b"
  rw [sq_asg]
  walk_at "oc"
  simp only [hrw]
  refine ⟨mulW cb ab, n - c, a, b + c * a, m, lo, hi, rfl, by omega, m0, lt_pw (m := 101) (by omega) (by decide), ab1, lt_pw (m := 307) (by omega) (by decide), mb1, small _ (by omega), small _ (by omega), ?_⟩
  walk_at "b"
  rw [sq_ite]
  walk_at "oc"
  rw [decide_eq_true (p := True) trivial]
  refine iteF ?_
  walk_at "b"
  rw [sq_nil]
  walk_at "b"
  rw [sq_ite]
  walk_at "oc"
  simp only [hrw]
  refine rwc _ _ _ _ c0 (by omega) (by omega) (by omega) ?_
  have sp := rwin_split (n := n.toNat) (c := c.toNat) (by omega) a b m lo hi
  rw [Int.toNat_of_nonneg c0, show n.toNat - c.toNat = (n - c).toNat by omega] at sp
  walk_at "oc"
  rw [decide_eq_true sp]
  refine iteF ?_
  walk_at "b"
  rw [sq_nil]
  walk_at "b"
  rw [sq_asg]
  walk_at "oc"
  simp only [hfw]
  refine ⟨n, a, b, m, lo, hi, rfl, n0, m0, lt_pw ab (by decide), lt_pw mb (by decide), l0, lh, hm, fun r hr => ?_⟩
  walk_at "b"
  rw [sq_ite]
  match r, hr with
  | none, hr =>
    have z : rwin n.toNat a b m lo hi = 0 := by
      rw [cnt]
      refine count_zero _ _ fun i hi' => ?_
      have := hr i (by omega) (by omega)
      rw [← inW_iff] at this
      simpa using this
    simp only [oD]
    walk_at "oc"
    walk_at "b"
    rw [sq_ret]
    walk_at "oc"
    rw [z]
    exact hq
  | some x, ⟨x0, x1, x2, x3⟩ =>
    have z : 0 < rwin n.toNat a b m lo hi := by
      rw [cnt]
      have e : ((x.toNat : Nat) : Int) = x := Int.toNat_of_nonneg x0
      exact count_pos (fun i => inW m lo hi (a * i + b)) n.toNat x.toNat (by omega) (by show inW m lo hi (a * (x.toNat : Int) + b) = true; rw [e]; exact inW_iff.mpr x2)
    simp only [oD]
    walk_at "oc"
    rw [decide_eq_false (p := rwin n.toNat a b m lo hi = 0) (by omega)]
    refine iteF ?_
    walk_at "b"
    rw [sq_nil]
    walk_at "b"
    rw [sq_ite]
    walk_at "oc"
    rw [decide_eq_true x0]
    refine iteT ?_
    rw [decide_eq_true x1]
    refine iteF ?_
    refine ⟨mulW (b := 100) ab (by omega), by omega, ?_⟩
    rw [fmod_pos m0, decide_eq_true x2.1]
    refine iteT ?_
    rw [decide_eq_true x2.2]
    refine iteF ?_
    walk_at "b"
    rw [sq_nil]
    walk_at "b"
    rw [sq_ret]
    walk_at "oc"
    simp only [hrw]
    refine rwc _ _ _ _ x0 (by omega) (by omega) (by omega) ?_
    have y : rwin x.toNat a b m lo hi = 0 := by
      rw [rwin_count m0 l0 (by omega) hm]
      refine count_zero (fun i => inW m lo hi (a * (i : Int) + b)) _ fun i hi' => ?_
      have := x3 i (by omega) (by omega)
      rw [← inW_iff] at this
      simpa using this
    walk_at "oc"
    rw [y]
    exact hq

def b16 : List S := [.forS (.name 1) .rng1 [.bi .max [.k (.int 2), .bi .min [.k (.int 8), .bi .len [.var 0]]]] [.asg 2 (.call 4 [.var 0, .var 1]), .forS (.name 3) .rng1 [.k (.int 8)] [.ite (.notv (.call 9 [.var 2])) [.ret (.k (.bl false))] []]], .ret (.k (.bl true))]
theorem law16 {F : List DC} (hF : MonoF F) (hbag : F[4]? = some (c_bag)) (hr : F[9]? = some (c_right)) : ∀ ds Q, c_law ds Q → wpBody F 4 b16 ds Q := by
  rintro ds Q ⟨ns, rfl, hn, hq⟩
  unfold b16
  walk_at "oc0"
  rw [sq_for]
  walk_at "oc"
  refine ⟨turns_ok ns, for_inv (fun G => ∃ s1 s2 s3 : Sl, G = [.val (.scr ns), s1, s2, s3]) _ ?_ ?_ _ ⟨_, _, _, rfl⟩⟩
  · rintro d hd _ ⟨s1, s2, s3, rfl⟩ nx hnx
    obtain ⟨k, rfl, hk0, hk1⟩ := turn_int hd
    walk_at "oc"
    rw [sq_asg]
    walk_at "oc"
    simp only [hbag]
    refine ⟨ns, k, rfl, hk0, by omega, ?_⟩
    walk_at "b"
    rw [sq_for]
    walk_at "oc"
    refine ⟨by decide, for_inv (fun G => ∃ s3 : Sl, G = [.val (.scr ns), .val (.int k), .val .bag, s3]) _ ?_ ?_ _ ⟨_, rfl⟩⟩
    · rintro d hd _ ⟨s3, rfl⟩ nx2 hnx2
      obtain ⟨j, rfl, _, _⟩ := mem_rng hd
      walk_at "oc"
      walk_at "b"
      rw [sq_ite]
      walk_at "oc"
      simp only [hr]
      refine ⟨rfl, iteF ?_⟩
      walk_at "b"
      rw [sq_nil]
      walk_at "b"
      rw [sq_nil]
      exact hnx2 _ ⟨_, rfl⟩
    · rintro _ ⟨s3, rfl⟩
      walk_at "b"
      rw [sq_nil]
      exact hnx _ ⟨_, _, _, rfl⟩
  · rintro _ ⟨s1, s2, s3, rfl⟩
    walk_at "b"
    rw [sq_ret]
    walk_at "oc"
    exact hq
end OC

set_option Elab.async false
set_option linter.all false
set_option maxRecDepth 100000
set_option maxHeartbeats 600000
set_option exponentiation.threshold 20000
namespace OC.K16
open PySem PySem.Spec PyProof.Rows L2
def top (i : Nat) : Stmt := PySem.Challenge.pw_onecut_k16_whole_far_remainders.main.body.getD i (.Pass ⟨0, 0, 0, 0⟩)
def fsAll : List Str := ["floor_sum", "rests_within", "first_multiple", "first_within", "_law_bag", "_law_take", "_law_number", "_law_sequence", "_law_bounds", "_law_right", "law"]
def bsAll : List Str := ["abs", "divmod", "len", "max", "min", "range", "reversed"]
abbrev st_floor_sum : Stmt := top 1
def n_floor_sum : List Str := ["many", "top", "start", "under", "total"]
def b_floor_sum : List S := [.asg 4 (.k (.int 0)), .whileS (.cmp .gt (.var 0) (.k (.int 0))) [.aug 4 .add (.bin .add (.bin .mul (.bin .fdiv (.bin .mul (.var 0) (.bin .sub (.var 0) (.k (.int 1)))) (.k (.int 2))) (.bin .fdiv (.var 1) (.var 3))) (.bin .mul (.var 0) (.bin .fdiv (.var 2) (.var 3)))), .par 1 2 (.bin .mod (.var 1) (.var 3)) (.bin .mod (.var 2) (.var 3)), .unp [0, 2] (.bi .divmod [.bin .add (.bin .mul (.var 1) (.var 0)) (.var 2), .var 3]), .par 3 1 (.var 1) (.var 3)], .ret (.var 4)]
abbrev st_rests_within : Stmt := top 2
def n_rests_within : List Str := ["many", "top", "start", "under", "low", "high"]
def b_rests_within : List S := [.ret (.bin .sub (.call 0 [.var 0, .var 1, .bin .sub (.var 2) (.var 4), .var 3]) (.call 0 [.var 0, .var 1, .bin .sub (.bin .sub (.var 2) (.var 5)) (.k (.int 1)), .var 3]))]
abbrev st_first_multiple : Stmt := top 3
def n_first_multiple : List Str := ["top", "under", "low", "high", "steps", "found"]
def b_first_multiple : List S := [.asgL 4 [], .whileS (.k (.bl true)) [.aug 0 .mod (.var 1), .ite (.cmp .gt (.bin .mul (.k (.int 2)) (.var 0)) (.var 1)) [.unp [0, 2, 3] (.tup [.bin .sub (.var 1) (.var 0), .bin .sub (.var 1) (.var 3), .bin .sub (.var 1) (.var 2)])] [], .ite (.cmp .eq (.var 0) (.k (.int 0))) [.ret (.k .non)] [], .asg 5 (.neg (.bin .fdiv (.neg (.var 2)) (.var 0))), .ite (.cmp .le (.bin .mul (.var 5) (.var 0)) (.var 3)) [.brk] [], .app 4 (.tup [.var 0, .var 1, .var 2]), .unp [0, 1, 2, 3] (.tup [.bin .mod (.neg (.var 1)) (.var 0), .var 0, .bin .mod (.var 2) (.var 0), .bin .mod (.var 3) (.var 0)])], .frz [4], .forS (.tup [0, 1, 2]) .rev [.var 4] [.asg 5 (.neg (.bin .fdiv (.neg (.bin .add (.var 2) (.bin .mul (.var 1) (.var 5)))) (.var 0)))], .ret (.var 5)]
abbrev st_first_within : Stmt := top 4
def n_first_within : List Str := ["many", "top", "start", "under", "low", "high", "found"]
def b_first_within : List S := [.ite (.cmp .eq (.var 0) (.k (.int 0))) [.ret (.k .non)] [], .ite (.chain .le .le (.var 4) (.bin .mod (.var 2) (.var 3)) (.var 5)) [.ret (.k (.int 0))] [], .asg 6 (.call 2 [.var 1, .var 3, .bin .mod (.bin .sub (.var 4) (.var 2)) (.var 3), .bin .mod (.bin .sub (.var 5) (.var 2)) (.var 3)]), .ret (.ite (.andv (.cmp .isnot (.var 6) (.k .non)) (.cmp .lt (.var 6) (.var 0))) (.var 6) (.k .non))]
abbrev st_law_bag : Stmt := top 6
def n_law_bag : List Str := ["_law_script", "_law_at", "_law_primes", "_law_cell", "_law_large", "_law_mixed"]
def b_law_bag : List S := [.asg 2 (.tup [.k (.int 2147483647), .k (.int 2147483629), .k (.int 2147483587), .k (.int 2147483579), .k (.int 2147483563), .k (.int 2147483549), .k (.int 2147483543)]), .asg 3 (.ite (.cmp .lt (.var 1) (.bi .len [.var 0])) (.ix (.var 0) (.var 1)) (.k (.int 0))), .asg 4 (.ite (.cmp .ge (.bi .abs [.var 3]) (.bin .pow (.k (.int 10)) (.k (.int 18)))) (.bi .abs [.var 3]) (.k (.int 0))), .asg 5 (.bin .mod (.bin .pow (.bin .add (.bin .add (.bin .mod (.var 3) (.k (.int 2305843009213693951))) (.bin .mul (.k (.int 40961)) (.var 1))) (.k (.int 19))) (.k (.int 3))) (.ix (.var 2) (.bin .mod (.var 1) (.k (.int 7))))), .ret (.mkbag (.var 4) (.bin .add (.bin .mod (.bin .mul (.var 5) (.bin .add (.bin .add (.bin .fdiv (.var 5) (.k (.int 5))) (.bin .mul (.k (.int 3)) (.var 1))) (.k (.int 11)))) (.ix (.var 2) (.bin .mod (.bin .add (.var 1) (.k (.int 2))) (.k (.int 7))))) (.k (.int 1))))]
abbrev st_law_take : Stmt := top 7
def n_law_take : List Str := ["_law_bag_here", "_law_size", "_law_digit"]
def b_law_take : List S := [.ite (.cmp .gt (.ixn (.var 0) 0) (.k (.int 0))) [.asg 2 (.bin .mod (.ixn (.var 0) 0) (.var 1)), .setB (.var 0) 0 (.bin .fdiv (.ixn (.var 0) 0) (.var 1)), .ret (.var 2)] [], .setB (.var 0) 1 (.bin .mod (.bin .mul (.ixn (.var 0) 1) (.k (.int 48271))) (.k (.int 2147483647))), .ret (.bin .mod (.bin .fdiv (.bin .mod (.bin .mul (.ixn (.var 0) 1) (.k (.int 69621))) (.k (.int 2147483629))) (.bin .pow (.k (.int 16)) (.k (.int 2)))) (.var 1))]
abbrev st_law_number : Stmt := top 8
def n_law_number : List Str := ["_law_bag_here", "_law_most", "_law_number_here"]
def b_law_number : List S := [.asg 2 (.ix (.lst [.call 5 [.var 0, .k (.int 20)], .call 5 [.var 0, .var 1], .bin .sub (.var 1) (.call 5 [.var 0, .k (.int 2)])]) (.call 5 [.var 0, .k (.int 3)])), .ret (.bin .sub (.var 2) (.bin .mul (.bin .mul (.k (.int 2)) (.var 2)) (.call 5 [.var 0, .k (.int 2)])))]
abbrev st_law_sequence : Stmt := top 9
def n_law_sequence : List Str := ["_law_bag_here", "_law_under", "_law_many"]
def b_law_sequence : List S := [.asg 1 (.bin .add (.k (.int 1)) (.bi .abs [.call 6 [.var 0, .ix (.lst [.k (.int 30), .bin .pow (.k (.int 10)) (.k (.int 9)), .bin .pow (.k (.int 10)) (.k (.int 60))]) (.call 5 [.var 0, .k (.int 3)])]])), .asg 2 (.ix (.lst [.call 5 [.var 0, .k (.int 40)], .call 5 [.var 0, .bin .pow (.k (.int 10)) (.k (.int 30))], .bin .sub (.bin .pow (.k (.int 10)) (.k (.int 30))) (.call 5 [.var 0, .k (.int 9)])]) (.call 5 [.var 0, .k (.int 3)])), .ret (.tup [.var 2, .call 6 [.var 0, .bin .mul (.k (.int 2)) (.var 1)], .call 6 [.var 0, .bin .mul (.k (.int 3)) (.var 1)], .var 1])]
abbrev st_law_bounds : Stmt := top 10
def n_law_bounds : List Str := ["_law_bag_here", "_law_under", "_law_low", "_law_wide"]
def b_law_bounds : List S := [.asg 2 (.bin .mod (.bin .mul (.call 5 [.var 0, .bi .min [.var 1, .bin .pow (.k (.int 10)) (.k (.int 6))]]) (.bi .max [.k (.int 1), .bin .fdiv (.var 1) (.bin .pow (.k (.int 10)) (.k (.int 6)))])) (.var 1)), .asg 3 (.ix (.lst [.k (.int 0), .call 5 [.var 0, .k (.int 4)], .bin .fdiv (.var 1) (.bin .add (.k (.int 1)) (.call 5 [.var 0, .k (.int 30)])), .bin .fdiv (.var 1) (.bin .pow (.k (.int 10)) (.k (.int 20)))]) (.call 5 [.var 0, .k (.int 4)])), .ret (.tup [.var 2, .bi .min [.bin .sub (.var 1) (.k (.int 1)), .bin .add (.var 2) (.var 3)]])]
abbrev st_law_right : Stmt := top 11
def n_law_right : List Str := ["_law_bag_here", "_law_many", "_law_top", "_law_start", "_law_under", "_law_low", "_law_high", "_law_count", "_law_parts", "_law_cut", "_law_later", "_law_first"]
def b_law_right : List S := [.unp [1, 2, 3, 4] (.call 7 [.var 0]), .unp [5, 6] (.call 8 [.var 0, .var 4]), .asg 7 (.call 1 [.var 1, .var 2, .var 3, .var 4, .var 5, .var 6]), .ite (.notv (.chain .le .le (.k (.int 0)) (.var 7) (.var 1))) [.ret (.k (.bl false))] [], .ite (.cmp .ne (.call 1 [.var 1, .var 2, .var 3, .var 4, .k (.int 0), .bin .sub (.var 4) (.k (.int 1))]) (.var 1)) [.ret (.k (.bl false))] [], .asg 8 (.var 7), .ite (.cmp .gt (.var 5) (.k (.int 0))) [.asg 8 (.bin .add (.var 8) (.call 1 [.var 1, .var 2, .var 3, .var 4, .k (.int 0), .bin .sub (.var 5) (.k (.int 1))]))] [], .ite (.cmp .lt (.var 6) (.bin .sub (.var 4) (.k (.int 1)))) [.asg 8 (.bin .add (.var 8) (.call 1 [.var 1, .var 2, .var 3, .var 4, .bin .add (.var 6) (.k (.int 1)), .bin .sub (.var 4) (.k (.int 1))]))] [], .asg 9 (.call 5 [.var 0, .bin .add (.var 1) (.k (.int 1))]), .asg 10 (.call 1 [.bin .sub (.var 1) (.var 9), .var 2, .bin .add (.var 3) (.bin .mul (.var 9) (.var 2)), .var 4, .var 5, .var 6]), .ite (.cmp .ne (.var 8) (.var 1)) [.ret (.k (.bl false))] [], .ite (.cmp .ne (.bin .add (.call 1 [.var 9, .var 2, .var 3, .var 4, .var 5, .var 6]) (.var 10)) (.var 7)) [.ret (.k (.bl false))] [], .asg 11 (.call 3 [.var 1, .var 2, .var 3, .var 4, .var 5, .var 6]), .ite (.orv (.cmp .isn (.var 11) (.k .non)) (.cmp .eq (.var 7) (.k (.int 0)))) [.ret (.andv (.cmp .isn (.var 11) (.k .non)) (.cmp .eq (.var 7) (.k (.int 0))))] [], .ite (.orv (.notv (.chain .le .lt (.k (.int 0)) (.var 11) (.var 1))) (.notv (.chain .le .le (.var 5) (.bin .mod (.bin .add (.bin .mul (.var 2) (.var 11)) (.var 3)) (.var 4)) (.var 6)))) [.ret (.k (.bl false))] [], .ret (.cmp .eq (.call 1 [.var 11, .var 2, .var 3, .var 4, .var 5, .var 6]) (.k (.int 0)))]
abbrev st_law : Stmt := top 12
def n_law : List Str := ["_law_script", "_law_k", "_law_bag_here", "_law_turn"]
def b_law : List S := [.forS (.name 1) .rng1 [.bi .max [.k (.int 2), .bi .min [.k (.int 8), .bi .len [.var 0]]]] [.asg 2 (.call 4 [.var 0, .var 1]), .forS (.name 3) .rng1 [.k (.int 8)] [.ite (.notv (.call 9 [.var 2])) [.ret (.k (.bl false))] []]], .ret (.k (.bl true))]
def F : List DC := [c_fsum, c_rw, c_fm, c_fw, c_bag, c_take, c_number, c_seq, c_bounds, c_right, c_law]
theorem monoF : MonoF F := by
  intro c hc
  simp only [F, List.mem_cons, List.not_mem_nil, or_false] at hc
  rcases hc with rfl | rfl | rfl | rfl | rfl | rfl | rfl | rfl | rfl | rfl | rfl
  · exact mono_fsum
  · exact mono_rw
  · exact mono_fm
  · exact mono_fw
  · exact mono_bag
  · exact mono_take
  · exact mono_number
  · exact mono_seq
  · exact mono_bounds
  · exact mono_right
  · exact mono_law
theorem monoT (i : Nat) : MonoF (F.take i) := fun c hc => monoF c (List.mem_of_mem_take hc)
structure Facts (K : PySem.W.Frag) (mg : Str → Option Value) : Prop where
  d0 : DefAt K mg "floor_sum" st_floor_sum
  d1 : DefAt K mg "rests_within" st_rests_within
  d2 : DefAt K mg "first_multiple" st_first_multiple
  d3 : DefAt K mg "first_within" st_first_within
  d4 : DefAt K mg "_law_bag" st_law_bag
  d5 : DefAt K mg "_law_take" st_law_take
  d6 : DefAt K mg "_law_number" st_law_number
  d7 : DefAt K mg "_law_sequence" st_law_sequence
  d8 : DefAt K mg "_law_bounds" st_law_bounds
  d9 : DefAt K mg "_law_right" st_law_right
  d10 : DefAt K mg "law" st_law
  bs : ∀ x, x ∈ bsAll → mg x = none
section
variable {P : Program} {w : World} {K : PySem.W.Frag} {mg : Str → Option Value} {base : Heap}
theorem look0 : chkFn ⟨n_floor_sum, fsAll.take 0, bsAll⟩ 4 b_floor_sum st_floor_sum = true := by decide +kernel
theorem ok0 (T : Facts K mg) (A : AllOk P w K mg base fsAll F 0) : AllOk P w K mg base fsAll F 1 := by
  obtain ⟨f, fd, Fu, hm⟩ := T.d0
  exact all_step A rfl rfl (fn_ok (C := ⟨n_floor_sum, fsAll.take 0, bsAll⟩) (np := 4) (body := b_floor_sum) ⟨A, T.bs⟩ Fu look0 hm (Fu.binds (ps := List.take 4 n_floor_sum) fun _ _ _ _ _ _ us hl => match us, hl with | [_, _, _, _], _ => rfl) c_fsum_len (fsum_ok))
theorem look1 : chkFn ⟨n_rests_within, fsAll.take 1, bsAll⟩ 6 b_rests_within st_rests_within = true := by decide +kernel
theorem ok1 (T : Facts K mg) (A : AllOk P w K mg base fsAll F 1) : AllOk P w K mg base fsAll F 2 := by
  obtain ⟨f, fd, Fu, hm⟩ := T.d1
  exact all_step A rfl rfl (fn_ok (C := ⟨n_rests_within, fsAll.take 1, bsAll⟩) (np := 6) (body := b_rests_within) ⟨A, T.bs⟩ Fu look1 hm (Fu.binds (ps := List.take 6 n_rests_within) fun _ _ _ _ _ _ us hl => match us, hl with | [_, _, _, _, _, _], _ => rfl) c_rw_len (rw_ok (f := 0) rfl))
theorem look2 : chkFn ⟨n_first_multiple, fsAll.take 2, bsAll⟩ 4 b_first_multiple st_first_multiple = true := by decide +kernel
theorem ok2 (T : Facts K mg) (A : AllOk P w K mg base fsAll F 2) : AllOk P w K mg base fsAll F 3 := by
  obtain ⟨f, fd, Fu, hm⟩ := T.d2
  exact all_step A rfl rfl (fn_ok (C := ⟨n_first_multiple, fsAll.take 2, bsAll⟩) (np := 4) (body := b_first_multiple) ⟨A, T.bs⟩ Fu look2 hm (Fu.binds (ps := List.take 4 n_first_multiple) fun _ _ _ _ _ _ us hl => match us, hl with | [_, _, _, _], _ => rfl) c_fm_len (fm_ok))
theorem look3 : chkFn ⟨n_first_within, fsAll.take 3, bsAll⟩ 6 b_first_within st_first_within = true := by decide +kernel
theorem ok3 (T : Facts K mg) (A : AllOk P w K mg base fsAll F 3) : AllOk P w K mg base fsAll F 4 := by
  obtain ⟨f, fd, Fu, hm⟩ := T.d3
  exact all_step A rfl rfl (fn_ok (C := ⟨n_first_within, fsAll.take 3, bsAll⟩) (np := 6) (body := b_first_within) ⟨A, T.bs⟩ Fu look3 hm (Fu.binds (ps := List.take 6 n_first_within) fun _ _ _ _ _ _ us hl => match us, hl with | [_, _, _, _, _, _], _ => rfl) c_fw_len (fw_ok (f := 2) rfl))
theorem look4 : chkFn ⟨n_law_bag, fsAll.take 4, bsAll⟩ 2 b_law_bag st_law_bag = true := by decide +kernel
theorem ok4 (T : Facts K mg) (A : AllOk P w K mg base fsAll F 4) : AllOk P w K mg base fsAll F 5 := by
  obtain ⟨f, fd, Fu, hm⟩ := T.d4
  exact all_step A rfl rfl (fn_ok (C := ⟨n_law_bag, fsAll.take 4, bsAll⟩) (np := 2) (body := b_law_bag) ⟨A, T.bs⟩ Fu look4 hm (Fu.binds (ps := List.take 2 n_law_bag) fun _ _ _ _ _ _ us hl => match us, hl with | [_, _], _ => rfl) c_bag_len (bag_ok (monoT _)))
theorem look5 : chkFn ⟨n_law_take, fsAll.take 5, bsAll⟩ 2 b_law_take st_law_take = true := by decide +kernel
theorem ok5 (T : Facts K mg) (A : AllOk P w K mg base fsAll F 5) : AllOk P w K mg base fsAll F 6 := by
  obtain ⟨f, fd, Fu, hm⟩ := T.d5
  exact all_step A rfl rfl (fn_ok (C := ⟨n_law_take, fsAll.take 5, bsAll⟩) (np := 2) (body := b_law_take) ⟨A, T.bs⟩ Fu look5 hm (Fu.binds (ps := List.take 2 n_law_take) fun _ _ _ _ _ _ us hl => match us, hl with | [_, _], _ => rfl) c_take_len (take_ok))
theorem look6 : chkFn ⟨n_law_number, fsAll.take 6, bsAll⟩ 2 b_law_number st_law_number = true := by decide +kernel
theorem ok6 (T : Facts K mg) (A : AllOk P w K mg base fsAll F 6) : AllOk P w K mg base fsAll F 7 := by
  obtain ⟨f, fd, Fu, hm⟩ := T.d6
  exact all_step A rfl rfl (fn_ok (C := ⟨n_law_number, fsAll.take 6, bsAll⟩) (np := 2) (body := b_law_number) ⟨A, T.bs⟩ Fu look6 hm (Fu.binds (ps := List.take 2 n_law_number) fun _ _ _ _ _ _ us hl => match us, hl with | [_, _], _ => rfl) c_number_len (number_ok (t := 5) (monoT _) rfl))
theorem look7 : chkFn ⟨n_law_sequence, fsAll.take 7, bsAll⟩ 1 b_law_sequence st_law_sequence = true := by decide +kernel
theorem ok7 (T : Facts K mg) (A : AllOk P w K mg base fsAll F 7) : AllOk P w K mg base fsAll F 8 := by
  obtain ⟨f, fd, Fu, hm⟩ := T.d7
  exact all_step A rfl rfl (fn_ok (C := ⟨n_law_sequence, fsAll.take 7, bsAll⟩) (np := 1) (body := b_law_sequence) ⟨A, T.bs⟩ Fu look7 hm (Fu.binds (ps := List.take 1 n_law_sequence) fun _ _ _ _ _ _ us hl => match us, hl with | [_], _ => rfl) c_seq_len (seq_ok (n := 6) (t := 5) (monoT _) rfl rfl))
theorem look8 : chkFn ⟨n_law_bounds, fsAll.take 8, bsAll⟩ 2 b_law_bounds st_law_bounds = true := by decide +kernel
theorem ok8 (T : Facts K mg) (A : AllOk P w K mg base fsAll F 8) : AllOk P w K mg base fsAll F 9 := by
  obtain ⟨f, fd, Fu, hm⟩ := T.d8
  exact all_step A rfl rfl (fn_ok (C := ⟨n_law_bounds, fsAll.take 8, bsAll⟩) (np := 2) (body := b_law_bounds) ⟨A, T.bs⟩ Fu look8 hm (Fu.binds (ps := List.take 2 n_law_bounds) fun _ _ _ _ _ _ us hl => match us, hl with | [_, _], _ => rfl) c_bounds_len (bounds_ok (t := 5) (monoT _) rfl))
theorem look9 : chkFn ⟨n_law_right, fsAll.take 9, bsAll⟩ 1 b_law_right st_law_right = true := by decide +kernel
theorem ok9 (T : Facts K mg) (A : AllOk P w K mg base fsAll F 9) : AllOk P w K mg base fsAll F 10 := by
  obtain ⟨f, fd, Fu, hm⟩ := T.d9
  exact all_step A rfl rfl (fn_ok (C := ⟨n_law_right, fsAll.take 9, bsAll⟩) (np := 1) (body := b_law_right) ⟨A, T.bs⟩ Fu look9 hm (Fu.binds (ps := List.take 1 n_law_right) fun _ _ _ _ _ _ us hl => match us, hl with | [_], _ => rfl) c_right_len (right16 (rw := 1) (fw := 3) (t := 5) (sq := 7) (bo := 8) (monoT _) rfl rfl rfl rfl rfl))
theorem look10 : chkFn ⟨n_law, fsAll.take 10, bsAll⟩ 1 b_law st_law = true := by decide +kernel
theorem ok10 (T : Facts K mg) (A : AllOk P w K mg base fsAll F 10) : AllOk P w K mg base fsAll F 11 := by
  obtain ⟨f, fd, Fu, hm⟩ := T.d10
  exact all_step A rfl rfl (fn_ok (C := ⟨n_law, fsAll.take 10, bsAll⟩) (np := 1) (body := b_law) ⟨A, T.bs⟩ Fu look10 hm (Fu.binds (ps := List.take 1 n_law) fun _ _ _ _ _ _ us hl => match us, hl with | [_], _ => rfl) c_law_len (law16 (monoT _) rfl rfl))
theorem fok (T : Facts K mg) : FOK P w K mg base 11 "law" c_law := all_last (j := 10) (ok10 T (ok9 T (ok8 T (ok7 T (ok6 T (ok5 T (ok4 T (ok3 T (ok2 T (ok1 T (ok0 T (all_zero)))))))))))) (by decide) rfl rfl
end
theorem facts {K : PySem.W.Frag} {h : Heap} {mg : Str → Option Value} (X : K.In h) (G : h.Ns mainGlobals mg)
    {f0 : Addr} {oc0 kV0 doc0 pm0 cd0 ct0 : Value} {od0 an0 : Option Addr} {sl0 : Array (Option Value)} (a0 : PySem.W.nsIn K mainGlobals "floor_sum" = some (some (.ref f0))) (l0 : K.lookup f0 = some ⟨oc0, od0, .func (PySem.W.fnOf "floor_sum" "floor_sum" (defArgs st_floor_sum) (defBody st_floor_sum) (defScope st_floor_sum) .none kV0 doc0 pm0 an0 cd0 ct0), sl0⟩) (c0 : PySem.W.codeIn K cd0 "floor_sum" = true) (k0 : PySem.W.keepIn K (.ref f0) = true)
    {f1 : Addr} {oc1 kV1 doc1 pm1 cd1 ct1 : Value} {od1 an1 : Option Addr} {sl1 : Array (Option Value)} (a1 : PySem.W.nsIn K mainGlobals "rests_within" = some (some (.ref f1))) (l1 : K.lookup f1 = some ⟨oc1, od1, .func (PySem.W.fnOf "rests_within" "rests_within" (defArgs st_rests_within) (defBody st_rests_within) (defScope st_rests_within) .none kV1 doc1 pm1 an1 cd1 ct1), sl1⟩) (c1 : PySem.W.codeIn K cd1 "rests_within" = true) (k1 : PySem.W.keepIn K (.ref f1) = true)
    {f2 : Addr} {oc2 kV2 doc2 pm2 cd2 ct2 : Value} {od2 an2 : Option Addr} {sl2 : Array (Option Value)} (a2 : PySem.W.nsIn K mainGlobals "first_multiple" = some (some (.ref f2))) (l2 : K.lookup f2 = some ⟨oc2, od2, .func (PySem.W.fnOf "first_multiple" "first_multiple" (defArgs st_first_multiple) (defBody st_first_multiple) (defScope st_first_multiple) .none kV2 doc2 pm2 an2 cd2 ct2), sl2⟩) (c2 : PySem.W.codeIn K cd2 "first_multiple" = true) (k2 : PySem.W.keepIn K (.ref f2) = true)
    {f3 : Addr} {oc3 kV3 doc3 pm3 cd3 ct3 : Value} {od3 an3 : Option Addr} {sl3 : Array (Option Value)} (a3 : PySem.W.nsIn K mainGlobals "first_within" = some (some (.ref f3))) (l3 : K.lookup f3 = some ⟨oc3, od3, .func (PySem.W.fnOf "first_within" "first_within" (defArgs st_first_within) (defBody st_first_within) (defScope st_first_within) .none kV3 doc3 pm3 an3 cd3 ct3), sl3⟩) (c3 : PySem.W.codeIn K cd3 "first_within" = true) (k3 : PySem.W.keepIn K (.ref f3) = true)
    {f4 : Addr} {oc4 kV4 doc4 pm4 cd4 ct4 : Value} {od4 an4 : Option Addr} {sl4 : Array (Option Value)} (a4 : PySem.W.nsIn K mainGlobals "_law_bag" = some (some (.ref f4))) (l4 : K.lookup f4 = some ⟨oc4, od4, .func (PySem.W.fnOf "_law_bag" "_law_bag" (defArgs st_law_bag) (defBody st_law_bag) (defScope st_law_bag) .none kV4 doc4 pm4 an4 cd4 ct4), sl4⟩) (c4 : PySem.W.codeIn K cd4 "_law_bag" = true) (k4 : PySem.W.keepIn K (.ref f4) = true)
    {f5 : Addr} {oc5 kV5 doc5 pm5 cd5 ct5 : Value} {od5 an5 : Option Addr} {sl5 : Array (Option Value)} (a5 : PySem.W.nsIn K mainGlobals "_law_take" = some (some (.ref f5))) (l5 : K.lookup f5 = some ⟨oc5, od5, .func (PySem.W.fnOf "_law_take" "_law_take" (defArgs st_law_take) (defBody st_law_take) (defScope st_law_take) .none kV5 doc5 pm5 an5 cd5 ct5), sl5⟩) (c5 : PySem.W.codeIn K cd5 "_law_take" = true) (k5 : PySem.W.keepIn K (.ref f5) = true)
    {f6 : Addr} {oc6 kV6 doc6 pm6 cd6 ct6 : Value} {od6 an6 : Option Addr} {sl6 : Array (Option Value)} (a6 : PySem.W.nsIn K mainGlobals "_law_number" = some (some (.ref f6))) (l6 : K.lookup f6 = some ⟨oc6, od6, .func (PySem.W.fnOf "_law_number" "_law_number" (defArgs st_law_number) (defBody st_law_number) (defScope st_law_number) .none kV6 doc6 pm6 an6 cd6 ct6), sl6⟩) (c6 : PySem.W.codeIn K cd6 "_law_number" = true) (k6 : PySem.W.keepIn K (.ref f6) = true)
    {f7 : Addr} {oc7 kV7 doc7 pm7 cd7 ct7 : Value} {od7 an7 : Option Addr} {sl7 : Array (Option Value)} (a7 : PySem.W.nsIn K mainGlobals "_law_sequence" = some (some (.ref f7))) (l7 : K.lookup f7 = some ⟨oc7, od7, .func (PySem.W.fnOf "_law_sequence" "_law_sequence" (defArgs st_law_sequence) (defBody st_law_sequence) (defScope st_law_sequence) .none kV7 doc7 pm7 an7 cd7 ct7), sl7⟩) (c7 : PySem.W.codeIn K cd7 "_law_sequence" = true) (k7 : PySem.W.keepIn K (.ref f7) = true)
    {f8 : Addr} {oc8 kV8 doc8 pm8 cd8 ct8 : Value} {od8 an8 : Option Addr} {sl8 : Array (Option Value)} (a8 : PySem.W.nsIn K mainGlobals "_law_bounds" = some (some (.ref f8))) (l8 : K.lookup f8 = some ⟨oc8, od8, .func (PySem.W.fnOf "_law_bounds" "_law_bounds" (defArgs st_law_bounds) (defBody st_law_bounds) (defScope st_law_bounds) .none kV8 doc8 pm8 an8 cd8 ct8), sl8⟩) (c8 : PySem.W.codeIn K cd8 "_law_bounds" = true) (k8 : PySem.W.keepIn K (.ref f8) = true)
    {f9 : Addr} {oc9 kV9 doc9 pm9 cd9 ct9 : Value} {od9 an9 : Option Addr} {sl9 : Array (Option Value)} (a9 : PySem.W.nsIn K mainGlobals "_law_right" = some (some (.ref f9))) (l9 : K.lookup f9 = some ⟨oc9, od9, .func (PySem.W.fnOf "_law_right" "_law_right" (defArgs st_law_right) (defBody st_law_right) (defScope st_law_right) .none kV9 doc9 pm9 an9 cd9 ct9), sl9⟩) (c9 : PySem.W.codeIn K cd9 "_law_right" = true) (k9 : PySem.W.keepIn K (.ref f9) = true)
    {f10 : Addr} {oc10 kV10 doc10 pm10 cd10 ct10 : Value} {od10 an10 : Option Addr} {sl10 : Array (Option Value)} (a10 : PySem.W.nsIn K mainGlobals "law" = some (some (.ref f10))) (l10 : K.lookup f10 = some ⟨oc10, od10, .func (PySem.W.fnOf "law" "law" (defArgs st_law) (defBody st_law) (defScope st_law) .none kV10 doc10 pm10 an10 cd10 ct10), sl10⟩) (c10 : PySem.W.codeIn K cd10 "law" = true) (k10 : PySem.W.keepIn K (.ref f10) = true)
    (z0 : PySem.W.nsIn K mainGlobals "abs" = some none) (z1 : PySem.W.nsIn K mainGlobals "divmod" = some none) (z2 : PySem.W.nsIn K mainGlobals "len" = some none) (z3 : PySem.W.nsIn K mainGlobals "max" = some none) (z4 : PySem.W.nsIn K mainGlobals "min" = some none) (z5 : PySem.W.nsIn K mainGlobals "range" = some none) (z6 : PySem.W.nsIn K mainGlobals "reversed" = some none) : Facts K mg :=
  ⟨def_at X G a0 l0 c0 k0, def_at X G a1 l1 c1 k1, def_at X G a2 l2 c2 k2, def_at X G a3 l3 c3 k3, def_at X G a4 l4 c4 k4, def_at X G a5 l5 c5 k5, def_at X G a6 l6 c6 k6, def_at X G a7 l7 c7 k7, def_at X G a8 l8 c8 k8, def_at X G a9 l9 c9 k9, def_at X G a10 l10 c10 k10, fun x hx => by
    simp only [bsAll, List.mem_cons, List.not_mem_nil, or_false] at hx
    rcases hx with rfl | rfl | rfl | rfl | rfl | rfl | rfl
    · exact PySem.W.mg_none_of X G z0
    · exact PySem.W.mg_none_of X G z1
    · exact PySem.W.mg_none_of X G z2
    · exact PySem.W.mg_none_of X G z3
    · exact PySem.W.mg_none_of X G z4
    · exact PySem.W.mg_none_of X G z5
    · exact PySem.W.mg_none_of X G z6⟩
end OC.K16
open PySem PySem.W PyProof.Rows in
set_option maxRecDepth 100000 in
set_option maxHeartbeats 0 in
theorem PySem.Challenge.cw_onecut_k16_whole_far_remainders_holds : PySem.Challenge.rw_onecut_k16_whole_far_remainders.Holds := by
  w_on; o_law; k_head; (case hw => w_witness2)
  k_fill
  refine OC.walkG (l := PySem.Challenge.rw_onecut_k16_whole_far_remainders) (n := 63) (k := 11) (c := OC.c_law) rfl (by decide) rfl ⟨rfl, by decide, by decide⟩ (fun w h Y => PySem.W.kIn_of Y) ?F (fun ns hn => ⟨ns, rfl, hn, rfl⟩)
  case F =>
    intro w mg h KX G base KB GB
    refine' OC.K16.fok (OC.K16.facts KX G ?a0 ?l0 ?c0 ?k0 ?a1 ?l1 ?c1 ?k1 ?a2 ?l2 ?c2 ?k2 ?a3 ?l3 ?c3 ?k3 ?a4 ?l4 ?c4 ?k4 ?a5 ?l5 ?c5 ?k5 ?a6 ?l6 ?c6 ?k6 ?a7 ?l7 ?c7 ?k7 ?a8 ?l8 ?c8 ?k8 ?a9 ?l9 ?c9 ?k9 ?a10 ?l10 ?c10 ?k10 ?z0 ?z1 ?z2 ?z3 ?z4 ?z5 ?z6)
    (case a0 => k_is)
    (case l0 => k_is)
    (case c0 => k_is)
    (case k0 => k_is)
    (case a1 => k_is)
    (case l1 => k_is)
    (case c1 => k_is)
    (case k1 => k_is)
    (case a2 => k_is)
    (case l2 => k_is)
    (case c2 => k_is)
    (case k2 => k_is)
    (case a3 => k_is)
    (case l3 => k_is)
    (case c3 => k_is)
    (case k3 => k_is)
    (case a4 => k_is)
    (case l4 => k_is)
    (case c4 => k_is)
    (case k4 => k_is)
    (case a5 => k_is)
    (case l5 => k_is)
    (case c5 => k_is)
    (case k5 => k_is)
    (case a6 => k_is)
    (case l6 => k_is)
    (case c6 => k_is)
    (case k6 => k_is)
    (case a7 => k_is)
    (case l7 => k_is)
    (case c7 => k_is)
    (case k7 => k_is)
    (case a8 => k_is)
    (case l8 => k_is)
    (case c8 => k_is)
    (case k8 => k_is)
    (case a9 => k_is)
    (case l9 => k_is)
    (case c9 => k_is)
    (case k9 => k_is)
    (case a10 => k_is)
    (case l10 => k_is)
    (case c10 => k_is)
    (case k10 => k_is)
    (case z0 => k_is)
    (case z1 => k_is)
    (case z2 => k_is)
    (case z3 => k_is)
    (case z4 => k_is)
    (case z5 => k_is)
    (case z6 => k_is)
