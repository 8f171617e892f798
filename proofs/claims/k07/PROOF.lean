import PyProof.Rows.All
import Wide.All
import OpenK.AllK
import Wide.FinOn
import HandS.ForMost
import HandS.Wide
import HandS.WideBits
import HandS.IsInst
import HandS.SortInts
import HandS.Style
import HandS.Flt
import PyProof.ReprLen
import HandS.ForExc
import HandS.ExcInit
import HandS.Defaults
import HandS.More
import HandS.HeadEnd
import HandS.HeadHook1
import HandS.HeadHook2
import HandS.HeadHook3
import HandS.Head2
import Wide.Once
import HandS.NoneIn
import HandS.Deep
import KE.DataMinMax
import HandS.SortKw
import HandS.Dict
import HandS.DictTup
import KE.DatumOrd
import KE.DataMinKey
import KE.KMinBuiltin
import KE.SortKeyHeap
import KE.KStateDown
import PySem.Challenge.RW_onecut_k07_sets_of_cuts_known
set_option Elab.async false
set_option linter.all false
set_option maxRecDepth 100000
set_option maxHeartbeats 600000
set_option exponentiation.threshold 20000
namespace NX
open PySem PySem.Spec PyProof.Rows L2
/-! ### what the head tells -/
abbrev AlN : Type := He.AlT × Bool
structure SaysN (fa : List He.Fa) (fn : List He.DefD) (ts : List He.Tab) (ex : PySem.W.Frag → Bool) (w : World) (K : PySem.W.Frag) : Prop where
  t : He.SaysT fa fn ts w K
  more : ex K = true
/-! ### the head by a list of addresses -/
def obsA (as : List Addr) (fa : List He.Fa) (fn : List He.DefD) (ts : List He.Tab) (ex : PySem.W.Frag → Bool) (g : Addr → Option Obj) : AlN := (He.obsT fa fn ts (He.frG g as), ex (He.frG g as))
def hookA (as : List Addr) (fa : List He.Fa) (fn : List He.DefD) (ts : List He.Tab) (ex : PySem.W.Frag → Bool) : PySem.W.Hook where
  α := AlN
  obs := fun s => obsA as fa fn ts ex s.heap.get?
  val := fun w => (He.valT fn ts w, true)
  says := fun w h => ∃ K : PySem.W.Frag, K.In h ∧ SaysN fa fn ts ex w K
  of := fun _ _ e => ⟨_, He.frG_in, congrArg (fun z : AlN => z.1) e, congrArg (fun z : AlN => z.2) e⟩
  keeps := fun _ _ _ ⟨K, hK, c⟩ k => ⟨K, PySem.W.Frag.In.keeps hK k, c⟩
theorem obsA_eq {as : List Addr} {fa : List He.Fa} {fn : List He.DefD} {ts : List He.Tab} {ex : PySem.W.Frag → Bool} {g : Addr → Option Obj} {s : Shared} (h : ∀ a, g a = s.heap.get? a) : obsA as fa fn ts ex g = (hookA as fa fn ts ex).obs s := by
  have e : g = s.heap.get? := funext h
  rw [e]
  rfl
end NX
namespace NX.K07
open PySem PySem.Spec PyProof.Rows L2
def top (i : Nat) : Stmt := PySem.Challenge.pw_onecut_k07_sets_of_cuts_known.main.body.getD i (.Pass ⟨0, 0, 0, 0⟩)
abbrev st_is_integer : Stmt := top 1
abbrev st_common : Stmt := top 2
abbrev st_is_ratio : Stmt := top 3
abbrev st_is_less : Stmt := top 4
abbrev st_is_span : Stmt := top 7
abbrev st_is_cuts : Stmt := top 8
abbrev st_law_bag : Stmt := top 10
abbrev st_law_take : Stmt := top 11
abbrev st_law_part : Stmt := top 12
abbrev st_law_lowest : Stmt := top 13
abbrev st_law_odd : Stmt := top 14
abbrev st_law_units : Stmt := top 15
abbrev st_law_form : Stmt := top 16
abbrev st_law_drawn_grain : Stmt := top 17
abbrev st_law_is_ratio : Stmt := top 18
abbrev st_law_is_span : Stmt := top 19
abbrev st_law_is_set : Stmt := top 20
abbrev st_law_end : Stmt := top 21
abbrev st_law_changed : Stmt := top 22
abbrev st_law : Stmt := top 23
def d0 : He.DefD := ⟨("is_integer", none), "is_integer", "is_integer", defArgs st_is_integer, defBody st_is_integer, defScope st_is_integer, [], []⟩
def d1 : He.DefD := ⟨("common", none), "common", "common", defArgs st_common, defBody st_common, defScope st_common, [], []⟩
def d2 : He.DefD := ⟨("is_ratio", none), "is_ratio", "is_ratio", defArgs st_is_ratio, defBody st_is_ratio, defScope st_is_ratio, [], []⟩
def d3 : He.DefD := ⟨("is_less", none), "is_less", "is_less", defArgs st_is_less, defBody st_is_less, defScope st_is_less, [], []⟩
def d4 : He.DefD := ⟨("is_span", none), "is_span", "is_span", defArgs st_is_span, defBody st_is_span, defScope st_is_span, [], []⟩
def d5 : He.DefD := ⟨("is_cuts", none), "is_cuts", "is_cuts", defArgs st_is_cuts, defBody st_is_cuts, defScope st_is_cuts, [], []⟩
def d6 : He.DefD := ⟨("_law_bag", none), "_law_bag", "_law_bag", defArgs st_law_bag, defBody st_law_bag, defScope st_law_bag, [], []⟩
def d7 : He.DefD := ⟨("_law_take", none), "_law_take", "_law_take", defArgs st_law_take, defBody st_law_take, defScope st_law_take, [], []⟩
def d8 : He.DefD := ⟨("_law_part", none), "_law_part", "_law_part", defArgs st_law_part, defBody st_law_part, defScope st_law_part, [], []⟩
def d9 : He.DefD := ⟨("_law_lowest", none), "_law_lowest", "_law_lowest", defArgs st_law_lowest, defBody st_law_lowest, defScope st_law_lowest, [], []⟩
def d10 : He.DefD := ⟨("_law_odd", none), "_law_odd", "_law_odd", defArgs st_law_odd, defBody st_law_odd, defScope st_law_odd, [], []⟩
def d11 : He.DefD := ⟨("_law_units", none), "_law_units", "_law_units", defArgs st_law_units, defBody st_law_units, defScope st_law_units, [], []⟩
def d12 : He.DefD := ⟨("_law_form", none), "_law_form", "_law_form", defArgs st_law_form, defBody st_law_form, defScope st_law_form, [], []⟩
def d13 : He.DefD := ⟨("_law_drawn_grain", none), "_law_drawn_grain", "_law_drawn_grain", defArgs st_law_drawn_grain, defBody st_law_drawn_grain, defScope st_law_drawn_grain, [], []⟩
def d14 : He.DefD := ⟨("_law_is_ratio", none), "_law_is_ratio", "_law_is_ratio", defArgs st_law_is_ratio, defBody st_law_is_ratio, defScope st_law_is_ratio, [], []⟩
def d15 : He.DefD := ⟨("_law_is_span", none), "_law_is_span", "_law_is_span", defArgs st_law_is_span, defBody st_law_is_span, defScope st_law_is_span, [], []⟩
def d16 : He.DefD := ⟨("_law_is_set", none), "_law_is_set", "_law_is_set", defArgs st_law_is_set, defBody st_law_is_set, defScope st_law_is_set, [], []⟩
def d17 : He.DefD := ⟨("_law_end", none), "_law_end", "_law_end", defArgs st_law_end, defBody st_law_end, defScope st_law_end, [], []⟩
def d18 : He.DefD := ⟨("_law_changed", none), "_law_changed", "_law_changed", defArgs st_law_changed, defBody st_law_changed, defScope st_law_changed, [], []⟩
def d19 : He.DefD := ⟨("law", none), "law", "law", defArgs st_law, defBody st_law, defScope st_law, [], []⟩
def fn : List He.DefD := [d0, d1, d2, d3, d4, d5, d6, d7, d8, d9, d10, d11, d12, d13, d14, d15, d16, d17, d18, d19]
def fa0 : List He.Fa := [.glo "is_integer", .glo "common", .glo "is_ratio", .glo "is_less", .glo "is_span", .glo "is_cuts", .glo "_law_bag", .glo "_law_take", .glo "_law_part", .glo "_law_lowest", .glo "_law_odd", .glo "_law_units", .glo "_law_form", .glo "_law_drawn_grain", .glo "_law_is_ratio", .glo "_law_is_span", .glo "_law_is_set", .glo "_law_end", .glo "_law_changed", .glo "law"]
def fa1 : List He.Fa := [.free "abs", .free "all", .free "bool", .free "int", .free "isinstance", .free "len", .free "list", .free "max", .free "min", .free "range", .free "repr", .free "tuple", .free "zip", .glo "END"]
def fa : List He.Fa := fa0 ++ fa1
def asL : List Addr := [0, 1, 2, 3, 4, 5, 6, 9, 10, 12, 13, 14, 19, 20, 21, 26, 27, 28, 33, 34, 35, 40, 41, 42, 43, 46, 47, 48, 51, 52, 53, 58, 59, 60, 65, 66, 67, 72, 73, 74, 79, 80, 81, 86, 87, 88, 93, 94, 95, 98, 99, 100, 105, 106, 107, 110, 111, 112, 115, 116, 117, 120, 121, 122, 127, 128, 129, 134, 135, 136, 139, 140, 141]
def ex (K : PySem.W.Frag) : Bool := He.tupB K "END" [.int (1), .int (1)]
def ts : List He.Tab := []
def nm0 : List Str := ["__name__", "is_integer", "common", "is_ratio", "is_less", "END", "is_span", "is_cuts", "_law_bag", "_law_take", "_law_part", "_law_lowest", "_law_odd", "_law_units", "_law_form", "_law_drawn_grain", "_law_is_ratio", "_law_is_span", "_law_is_set", "_law_end"]
def nm1 : List Str := ["_law_changed"]
def names : List Str := nm0 ++ nm1
abbrev R : PySem.W.OpenRow := PySem.W.OpenLaw.row PySem.Challenge.rw_onecut_k07_sets_of_cuts_known
abbrev hk : PySem.W.Hook := hookA asL fa fn ts ex
def ob (s : PySem.W.SharedT) : AlN := obsA asL fa fn ts ex (HandSHeadRun.getT s)
theorem ob_eq (s : PySem.W.SharedT) : ob s = hk.obs s.abs := obsA_eq (HandSHeadRun.getT_eq s)
abbrev RunAt (w : World) : Prop := HandSHeadRun.RunEq R (PySem.W.view R.prog [23]) hk ob 8000 names w
set_option maxHeartbeats 0 in
theorem run0 (w : World) : RunAt (w.withFollow "special-get-raises" false) := by
  intro os
  kernel_rfl
set_option maxHeartbeats 0 in
theorem run1 (w : World) : RunAt (w.withFollow "special-get-raises" true) := by
  intro os
  kernel_rfl
theorem run (w : World) : RunAt w := PySem.W.byRow2 "special-get-raises" (P := RunAt) run0 run1 w
end NX.K07
set_option Elab.async false
set_option linter.all false
set_option maxRecDepth 100000
set_option maxHeartbeats 4000000
/-! Onecut, base: plain data over the abstract heap; what a heap may become. -/
namespace OC
open PySem PySem.Spec PyProof.Rows L2
/-- plain data: what a value is, whatever its address. bag: the law's source of draws, whose state is left open; scr: the script -/
inductive D where
  | non
  | bl (b : Bool)
  | int (i : Int)
  | str (s : Str)
  | tup (xs : List D)
  | lst (xs : List D)
  | scr (ns : List Int)
  | bag
  | ob (a : Addr)
mutual
def D.py : D → PyData
  | .non => .none
  | .bl b => .bool b
  | .int i => .int i
  | .str s => .str s
  | .tup xs => .tuple (pyL xs)
  | .lst xs => .list (pyL xs)
  | .scr _ => .none
  | .bag => .none
  | .ob _ => .none
def pyL : List D → List PyData
  | [] => []
  | d :: ds => d.py :: pyL ds
end
mutual
/-- data alone: no bag, no script within -/
def D.pure : D → Bool
  | .tup xs => pureL xs
  | .lst xs => pureL xs
  | .scr _ => false
  | .bag => false
  | .ob _ => false
  | _ => true
def pureL : List D → Bool
  | [] => true
  | d :: ds => d.pure && pureL ds
end
abbrev AP := Addr → Prop
def LitT (K : PySem.W.Frag) (a : Addr) (vs : List V) : Prop :=
  ∃ (o : Obj) (its : Array Value) (n : Nat), K.lookup a = some o ∧ o.cls = .type "tuple" ∧ o.data = .seq its n ∧ its.size ≤ sizeLine ∧ Vals vs its.toList
def LitL (K : PySem.W.Frag) (a : Addr) (vs : List V) : Prop :=
  ∃ (o : Obj) (its : Array Value) (n : Nat), K.lookup a = some o ∧ o.cls = .type "list" ∧ o.dict = none ∧ o.data = .seq its n ∧ its.size ≤ sizeLine ∧ Vals vs its.toList
mutual
/-- the value v is the datum d; Bg: the bags' places; M: places that nothing here leans on -/
inductive Rep (K : PySem.W.Frag) (Bg M : AP) (H : Hp) : V → D → Prop
  | non : Rep K Bg M H .non .non
  | bl (b : Bool) : Rep K Bg M H (.bl b) (.bl b)
  | int (i : Int) : Rep K Bg M H (.int i) (.int i)
  | str (s : Str) : Rep K Bg M H (.str s) (.str s)
  | tup {a : Addr} {vs : List V} {ds : List D} (h : Rd H a (.tup vs)) (nb : ¬ Bg a) (nm : ¬ M a) (r : RepL K Bg M H vs ds) : Rep K Bg M H (.ref a) (.tup ds)
  | lit {a : Addr} {vs : List V} {ds : List D} (h : LitT K a vs) (r : RepL K Bg M H vs ds) : Rep K Bg M H (.ref a) (.tup ds)
  | lst {a : Addr} {vs : List V} {ds : List D} (h : H a = some (.lst vs)) (nb : ¬ Bg a) (nm : ¬ M a) (r : RepL K Bg M H vs ds) : Rep K Bg M H (.ref a) (.lst ds)
  | scr {a : Addr} {ns : List Int} {o : Obj} (h : H a = some (.frz o (.lst (ns.map V.int)))) (nb : ¬ Bg a) (nm : ¬ M a) : Rep K Bg M H (.ref a) (.scr ns)
  | scrK {a : Addr} {ns : List Int} (h : LitL K a (ns.map V.int)) : Rep K Bg M H (.ref a) (.scr ns)
  | bag {a : Addr} (b : Bg a) : Rep K Bg M H (.ref a) .bag
  | ob (a : Addr) : Rep K Bg M H (.ref a) (.ob a)
inductive RepL (K : PySem.W.Frag) (Bg M : AP) (H : Hp) : List V → List D → Prop
  | nil : RepL K Bg M H [] []
  | cons {v : V} {d : D} {vs : List V} {ds : List D} (h : Rep K Bg M H v d) (t : RepL K Bg M H vs ds) : RepL K Bg M H (v :: vs) (d :: ds)
end
def BagsOk (Bg : AP) (H : Hp) : Prop := ∀ a, Bg a → ∃ L M : Int, H a = some (.lst [.int L, .int M]) ∧ 0 ≤ L ∧ 0 ≤ M ∧ M < 2 ^ 32
/-- what an expression, or a call, may do to the heap: new things, other states of the bags -/
structure Ext (Bg : AP) (H : Hp) (Bg' : AP) (H' : Hp) : Prop where
  sub : ∀ a, Bg a → Bg' a
  new : ∀ a, Bg' a → ¬ Bg a → H a = none
  keep : ∀ a o, ¬ Bg a → H a = some o → H' a = some o
  bags : BagsOk Bg' H'
theorem Ext.refl {Bg : AP} {H : Hp} (b : BagsOk Bg H) : Ext Bg H Bg H := ⟨fun _ h => h, fun _ h n => absurd h n, fun _ _ _ h => h, b⟩
theorem Ext.nb {Bg Bg' : AP} {H H' : Hp} (e : Ext Bg H Bg' H') {a : Addr} {o : HO} (h : H a = some o) (n : ¬ Bg a) : ¬ Bg' a := fun z => by
  have q := e.new a z n
  rw [h] at q
  cases q
theorem Ext.trans {Bg Bg1 Bg2 : AP} {H H1 H2 : Hp} (e : Ext Bg H Bg1 H1) (f : Ext Bg1 H1 Bg2 H2) : Ext Bg H Bg2 H2 := by
  refine ⟨fun a h => f.sub a (e.sub a h), fun a h n => ?_, fun a o n h => f.keep a o (e.nb h n) (e.keep a o n h), f.bags⟩
  by_cases q : Bg1 a
  · exact e.new a q n
  · have z := f.new a h q
    cases w : H a with
    | none => rfl
    | some o =>
      rw [e.keep a o n w] at z
      cases z
theorem ne_m {M : AP} {a p : Addr} (nm : ¬ M a) (hp : M p) : a ≠ p := fun z => nm (by rw [z]; exact hp)
/-- a new thing, no bag -/
theorem Ext.lay {Bg : AP} {H : Hp} {p : Addr} {o : HO} (b : BagsOk Bg H) (h : H p = none) : Ext Bg H Bg (upd H p o) :=
  ⟨fun _ q => q, fun _ q n => absurd q n, fun a u _ q => by rw [upd_ne (ne_of_none q h)]; exact q, fun a q => by
    obtain ⟨L, M, e, r⟩ := b a q
    exact ⟨L, M, by rw [upd_ne (ne_of_none e h)]; exact e, r⟩⟩
theorem rd_some {H : Hp} {a : Addr} {u : HO} (h : Rd H a u) : ∃ o, H a = some o := by
  rcases h with h | ⟨o, h⟩
  · exact ⟨_, h⟩
  · exact ⟨_, h⟩
theorem rd_keep {H H' : Hp} {a : Addr} {u : HO} (h : Rd H a u) (k : ∀ o, H a = some o → H' a = some o) : Rd H' a u := by
  rcases h with h | ⟨o, h⟩
  · exact .inl (k _ h)
  · exact .inr ⟨o, k _ h⟩
mutual
theorem Rep.ext {K : PySem.W.Frag} {Bg Bg' M M' : AP} {H H' : Hp} (e : Ext Bg H Bg' H') (hm : ∀ a, M' a → M a ∨ H a = none) : ∀ {v : V} {d : D}, Rep K Bg M H v d → Rep K Bg' M' H' v d
  | _, _, .non => .non
  | _, _, .bl b => .bl b
  | _, _, .int i => .int i
  | _, _, .str s => .str s
  | _, _, .tup h nb nm r => by
    obtain ⟨o, ho⟩ := rd_some h
    exact .tup (rd_keep h fun o q => e.keep _ o nb q) (e.nb ho nb) (fun z => (hm _ z).elim nm (fun z => by rw [ho] at z; cases z)) (RepL.ext e hm r)
  | _, _, .lit h r => .lit h (RepL.ext e hm r)
  | _, _, .lst h nb nm r => .lst (e.keep _ _ nb h) (e.nb h nb) (fun z => (hm _ z).elim nm (fun z => by rw [h] at z; cases z)) (RepL.ext e hm r)
  | _, _, .scr h nb nm => .scr (e.keep _ _ nb h) (e.nb h nb) (fun z => (hm _ z).elim nm (fun z => by rw [h] at z; cases z))
  | _, _, .scrK h => .scrK h
  | _, _, .bag b => .bag (e.sub _ b)
  | _, _, .ob a => .ob a
theorem RepL.ext {K : PySem.W.Frag} {Bg Bg' M M' : AP} {H H' : Hp} (e : Ext Bg H Bg' H') (hm : ∀ a, M' a → M a ∨ H a = none) : ∀ {vs : List V} {ds : List D}, RepL K Bg M H vs ds → RepL K Bg' M' H' vs ds
  | _, _, .nil => .nil
  | _, _, .cons h t => .cons (Rep.ext e hm h) (RepL.ext e hm t)
end
mutual
/-- a place that nothing leans on is written -/
theorem Rep.upd {K : PySem.W.Frag} {Bg M : AP} {H : Hp} {p : Addr} {o : HO} (hp : M p) : ∀ {v : V} {d : D}, Rep K Bg M H v d → Rep K Bg M (L2.upd H p o) v d
  | _, _, .non => .non
  | _, _, .bl b => .bl b
  | _, _, .int i => .int i
  | _, _, .str s => .str s
  | _, _, .tup h nb nm r => .tup (rd_keep h fun o q => by rw [upd_ne (ne_m nm hp)]; exact q) nb nm (RepL.upd hp r)
  | _, _, .lit h r => .lit h (RepL.upd hp r)
  | _, _, .lst h nb nm r => .lst (by rw [upd_ne (ne_m nm hp)]; exact h) nb nm (RepL.upd hp r)
  | _, _, .scr h nb nm => .scr (by rw [upd_ne (ne_m nm hp)]; exact h) nb nm
  | _, _, .scrK h => .scrK h
  | _, _, .bag b => .bag b
  | _, _, .ob a => .ob a
theorem RepL.upd {K : PySem.W.Frag} {Bg M : AP} {H : Hp} {p : Addr} {o : HO} (hp : M p) : ∀ {vs : List V} {ds : List D}, RepL K Bg M H vs ds → RepL K Bg M (L2.upd H p o) vs ds
  | _, _, .nil => .nil
  | _, _, .cons h t => .cons (Rep.upd hp h) (RepL.upd hp t)
end
theorem Rep.less {K : PySem.W.Frag} {Bg M M' : AP} {H : Hp} {v : V} {d : D} (b : BagsOk Bg H) (hm : ∀ a, M' a → M a) (r : Rep K Bg M H v d) : Rep K Bg M' H v d := r.ext (Ext.refl b) fun a q => .inl (hm a q)
theorem RepL.less {K : PySem.W.Frag} {Bg M M' : AP} {H : Hp} {vs : List V} {ds : List D} (b : BagsOk Bg H) (hm : ∀ a, M' a → M a) (r : RepL K Bg M H vs ds) : RepL K Bg M' H vs ds := r.ext (Ext.refl b) fun a q => .inl (hm a q)
theorem RepL.len {K : PySem.W.Frag} {Bg M : AP} {H : Hp} : ∀ {vs : List V} {ds : List D}, RepL K Bg M H vs ds → vs.length = ds.length
  | _, _, .nil => rfl
  | _, _, .cons _ t => by rw [List.length_cons, List.length_cons, t.len]
theorem RepL.get {K : PySem.W.Frag} {Bg M : AP} {H : Hp} : ∀ {vs : List V} {ds : List D} {i : Nat} {d : D}, RepL K Bg M H vs ds → ds[i]? = some d → ∃ v, vs[i]? = some v ∧ Rep K Bg M H v d
  | _, _, _, _, .nil, e => by simp at e
  | _, _, 0, _, .cons r _, e => by simp at e; subst e; exact ⟨_, rfl, r⟩
  | _, _, i + 1, _, .cons _ t, e => by
    obtain ⟨v, h1, h2⟩ := t.get (i := i) (by simpa using e)
    exact ⟨v, by simpa using h1, h2⟩
theorem RepL.append {K : PySem.W.Frag} {Bg M : AP} {H : Hp} : ∀ {vs ws : List V} {ds es : List D}, RepL K Bg M H vs ds → RepL K Bg M H ws es → RepL K Bg M H (vs ++ ws) (ds ++ es)
  | _, _, _, _, .nil, s => s
  | _, _, _, _, .cons r t, s => .cons r (t.append s)
theorem RepL.ints {K : PySem.W.Frag} {Bg M : AP} {H : Hp} : ∀ (ns : List Int), RepL K Bg M H (ns.map V.int) (ns.map D.int)
  | [] => .nil
  | n :: ns => .cons (.int n) (RepL.ints ns)
theorem Rep.int_inv {K : PySem.W.Frag} {Bg M : AP} {H : Hp} {v : V} {i : Int} (r : Rep K Bg M H v (.int i)) : v = .int i := by cases r; rfl
theorem Rep.bl_inv {K : PySem.W.Frag} {Bg M : AP} {H : Hp} {v : V} {b : Bool} (r : Rep K Bg M H v (.bl b)) : v = .bl b := by cases r; rfl
theorem Rep.str_inv {K : PySem.W.Frag} {Bg M : AP} {H : Hp} {v : V} {b : Str} (r : Rep K Bg M H v (.str b)) : v = .str b := by cases r; rfl
theorem Rep.non_inv {K : PySem.W.Frag} {Bg M : AP} {H : Hp} {v : V} (r : Rep K Bg M H v .non) : v = .non := by cases r; rfl
theorem RepL.ints_inv {K : PySem.W.Frag} {Bg M : AP} {H : Hp} : ∀ {ns : List Int} {vs : List V}, RepL K Bg M H vs (ns.map D.int) → vs = ns.map V.int
  | [], _, .nil => rfl
  | n :: ns, _, .cons r t => by rw [r.int_inv, t.ints_inv]; rfl
theorem RepL.bls_inv {K : PySem.W.Frag} {Bg M : AP} {H : Hp} : ∀ {ns : List Bool} {vs : List V}, RepL K Bg M H vs (ns.map D.bl) → vs = ns.map V.bl
  | [], _, .nil => rfl
  | n :: ns, _, .cons r t => by rw [r.bl_inv, t.bls_inv]; rfl
theorem Rep.tup_inv {K : PySem.W.Frag} {Bg M : AP} {H : Hp} {v : V} {ds : List D} (r : Rep K Bg M H v (.tup ds)) : ∃ a vs, v = .ref a ∧ SqT K H a vs ∧ RepL K Bg M H vs ds := by
  cases r with
  | tup h nb nm r => exact ⟨_, _, rfl, .inl h, r⟩
  | lit h r => exact ⟨_, _, rfl, .inr h, r⟩
theorem Rep.lst_inv {K : PySem.W.Frag} {Bg M : AP} {H : Hp} {v : V} {ds : List D} (r : Rep K Bg M H v (.lst ds)) : ∃ a vs, v = .ref a ∧ H a = some (.lst vs) ∧ ¬ Bg a ∧ ¬ M a ∧ RepL K Bg M H vs ds := by
  cases r with
  | lst h nb nm r => exact ⟨_, _, rfl, h, nb, nm, r⟩
theorem Rep.scr_inv {K : PySem.W.Frag} {Bg M : AP} {H : Hp} {v : V} {ns : List Int} (r : Rep K Bg M H v (.scr ns)) : ∃ a, v = .ref a ∧ SqL K H a (ns.map V.int) := by
  cases r with
  | scr h nb nm => exact ⟨_, rfl, .inl (.inr ⟨_, h⟩)⟩
  | scrK h => exact ⟨_, rfl, .inr h⟩
theorem Rep.bag_inv {K : PySem.W.Frag} {Bg M : AP} {H : Hp} {v : V} (r : Rep K Bg M H v .bag) : ∃ a, v = .ref a ∧ Bg a := by
  cases r with
  | bag b => exact ⟨_, rfl, b⟩
mutual
theorem Rep.dp {K : PySem.W.Frag} {Bg M : AP} {H : Hp} : ∀ {v : V} {d : D}, Rep K Bg M H v d → d.pure = true → Dp K H v d.py
  | _, _, .non, _ => .non
  | _, _, .bl b, _ => .bl b
  | _, _, .int i, _ => .int i
  | _, _, .str s, _ => .str s
  | _, _, .tup h _ _ r, p => .tup (.inl h) (RepL.dp r p)
  | _, _, .lit h r, p => .tup (.inr h) (RepL.dp r p)
  | _, _, .lst h _ _ r, p => .lst (.inl (.inl h)) (RepL.dp r p)
  | _, _, .scr _ _ _, p => by cases p
  | _, _, .scrK _, p => by cases p
  | _, _, .bag _, p => by cases p
  | _, _, .ob _, p => by cases p
theorem RepL.dp {K : PySem.W.Frag} {Bg M : AP} {H : Hp} : ∀ {vs : List V} {ds : List D}, RepL K Bg M H vs ds → pureL ds = true → DpAll K H vs (pyL ds)
  | _, _, .nil, _ => .nil
  | _, _, .cons h t, p => by
    have q : (_ && _) = true := p
    rw [Bool.and_eq_true] at q
    exact .cons (Rep.dp h q.1) (RepL.dp t q.2)
end
end OC
set_option Elab.async false
set_option linter.all false
set_option maxRecDepth 100000
set_option maxHeartbeats 4000000
/-! Onecut, the small language: a def's body by slots, and what it means over plain data (what must hold ahead so that the wish holds behind). -/
namespace OC
open PySem PySem.Spec PyProof.Rows L2
inductive BO where
  | add | sub | mul | fdiv | mod | pow
  deriving DecidableEq
inductive CO where
  | eq | ne | lt | le | gt | ge | isn | isnot | inn | notin
  deriving DecidableEq
inductive Bi where
  | len | abs | max | min | sum | all | any | repr | divmod | int | sorted | tuple | list
  deriving DecidableEq
/-- what a for walks -/
inductive IK where
  | lst | tup | rng1 | rng2 | enum | zip | rev
  deriving DecidableEq
inductive Tg where
  | name (i : Nat)
  | tup (is : List Nat)
  deriving DecidableEq
inductive Ty where
  | int | bool | tuple | list | str
  deriving DecidableEq
inductive E where
  | var (i : Nat)
  | k (d : D)
  | bin (o : BO) (a b : E)
  | neg (a : E)
  | cmp (o : CO) (a b : E)
  | chain (o p : CO) (a b c : E)
  | andv (a b : E)
  | orv (a b : E)
  | notv (a : E)
  | ite (t a b : E)
  | tup (as : List E)
  | lst (as : List E)
  | mkbag (a b : E)
  | ixn (a : E) (n : Nat)
  | ix (a b : E)
  | slc (a : E) (lo hi : List E)
  | call (f : Nat) (as : List E)
  | bi (f : Bi) (as : List E)
  | isi (a : E) (t : Ty)
  | lc (elt : E) (tg : Tg) (k : IK) (its ifs : List E) (own : List (Str × Nat))
/-- what a def promises, over plain data -/
abbrev DC := List D → (D → Prop) → Prop
def getV : List (Option D) → Nat → Option D
  | [], _ => none
  | x :: _, 0 => x
  | _ :: xs, n + 1 => getV xs n
def wipeV (G : List (Option D)) : List Nat → List (Option D)
  | [] => G
  | v :: vs => (wipeV G vs).set v none
def setAll : List (Option D) → List Nat → List D → List (Option D)
  | G, i :: is, d :: ds => setAll (G.set i (some d)) is ds
  | G, _, _ => G
def bindV : Tg → D → List (Option D) → Option (List (Option D))
  | .name i, d, G => some (G.set i (some d))
  | .tup is, .tup ds, G => if is.length = ds.length then some (setAll G is ds) else none
  | _, _, _ => none
def intsOf : List D → Option (List Int)
  | [] => some []
  | .int i :: ds => (intsOf ds).map (i :: ·)
  | _ => none
def blsOf : List D → Option (List Bool)
  | [] => some []
  | .bl i :: ds => (blsOf ds).map (i :: ·)
  | _ => none
def eqOk (d : D) : Prop := d.pure = true ∧ SeqAt.shaped d.py = true
def showOk (d : D) : Prop := d.pure = true ∧ d.py.showable = true ∧ d.py.shown.length ≤ sizeLine ∧ d.py.depth ≤ 60
def isTy : Ty → D → Bool
  | .int, .int _ => true
  | .int, .bl _ => true
  | .bool, .bl _ => true
  | .tuple, .tup _ => true
  | .list, .lst _ => true
  | .str, .str _ => true
  | _, _ => false
def bop : BO → D → D → (D → Prop) → Prop
  | .add, .int i, .int j, Q => Q (.int (i + j))
  | .add, .lst xs, .lst ys, Q => xs.length + ys.length ≤ sizeLine ∧ Q (.lst (xs ++ ys))
  | .sub, .int i, .int j, Q => Q (.int (i - j))
  | .mul, .int i, .int j, Q => CMulW i j ∧ Q (.int (i * j))
  | .mul, .lst xs, .int k, Q => (0 ≤ k ∧ k < 1000 ∧ xs.length ≤ 1000) ∧ Q (.lst (List.replicate k.toNat xs).flatten)
  | .fdiv, .int i, .int j, Q => (j ≠ 0 ∧ j.natAbs.log2 < 9000) ∧ Q (.int (i.fdiv j))
  | .mod, .int i, .int j, Q => j ≠ 0 ∧ Q (.int (i.fmod j))
  | .pow, .int i, .int j, Q => CPow i j ∧ Q (.int (i ^ j.toNat))
  | _, _, _, _ => False
def cop : CO → D → D → (D → Prop) → Prop
  | .eq, .int i, .int j, Q => Q (.bl (decide (i = j)))
  | .ne, .int i, .int j, Q => Q (.bl (!decide (i = j)))
  | .lt, .int i, .int j, Q => Q (.bl (decide (i < j)))
  | .le, .int i, .int j, Q => Q (.bl (decide (i ≤ j)))
  | .gt, .int i, .int j, Q => Q (.bl (decide (j < i)))
  | .ge, .int i, .int j, Q => Q (.bl (decide (j ≤ i)))
  | .eq, .str i, .str j, Q => Q (.bl (decide (i = j)))
  | .ne, .str i, .str j, Q => Q (.bl (!decide (i = j)))
  | .eq, x, y, Q => (eqOk x ∧ eqOk y) ∧ Q (.bl (PyData.eqv x.py y.py))
  | .ne, x, y, Q => (eqOk x ∧ eqOk y) ∧ Q (.bl (!PyData.eqv x.py y.py))
  | .isn, .non, .non, Q => Q (.bl true)
  | .isn, .bl _, .non, Q => Q (.bl false)
  | .isn, .int _, .non, Q => Q (.bl false)
  | .isn, .str _, .non, Q => Q (.bl false)
  | .isn, .tup _, .non, Q => Q (.bl false)
  | .isn, .lst _, .non, Q => Q (.bl false)
  | .isnot, .non, .non, Q => Q (.bl false)
  | .isnot, .bl _, .non, Q => Q (.bl true)
  | .isnot, .int _, .non, Q => Q (.bl true)
  | .isnot, .str _, .non, Q => Q (.bl true)
  | .isnot, .tup _, .non, Q => Q (.bl true)
  | .isnot, .lst _, .non, Q => Q (.bl true)
  | _, _, _, _ => False
def ixop : D → D → (D → Prop) → Prop
  | .tup xs, .int i, Q => match atI xs i with | some d => Q d | none => False
  | .lst xs, .int i, Q => match atI xs i with | some d => Q d | none => False
  | .scr ns, .int i, Q => match atI ns i with | some d => Q (.int d) | none => False
  | _, _, _ => False
def ixnop : D → Nat → (D → Prop) → Prop
  | .tup xs, n, Q => match xs[n]? with | some d => Q d | none => False
  | .lst xs, n, Q => match xs[n]? with | some d => Q d | none => False
  | .bag, 0, Q => ∀ i : Int, 0 ≤ i → Q (.int i)
  | .bag, 1, Q => ∀ i : Int, 0 ≤ i → i < 2 ^ 32 → Q (.int i)
  | _, _, _ => False
def cutD (xs : List D) (lo hi : Option Int) : List D := (xs.drop (HT.sIx xs.length 0 lo)).take (HT.sIx xs.length xs.length hi - HT.sIx xs.length 0 lo)
def partOf : List D → Option (Option Int)
  | [] => some none
  | [.int i] => some (some i)
  | _ => none
def slcop : D → Option Int → Option Int → (D → Prop) → Prop
  | .lst xs, lo, hi, Q => Q (.lst (cutD xs lo hi))
  | _, _, _, _ => False
def withPart (l : List D) (Q : Option Int → Prop) : Prop := match partOf l with
  | some p => Q p
  | none => False
def biop : Bi → List D → (D → Prop) → Prop
  | .len, [.lst xs], Q => Q (.int xs.length)
  | .len, [.tup xs], Q => Q (.int xs.length)
  | .len, [.scr xs], Q => Q (.int xs.length)
  | .len, [.str s], Q => s.length ≤ sizeLine ∧ Q (.int s.length)
  | .abs, [.int i], Q => Q (.int (if i < 0 then -i else i))
  | .max, [.int i, .int j], Q => Q (.int (if j > i then j else i))
  | .min, [.int i, .int j], Q => Q (.int (if j < i then j else i))
  | .max, [.int i, .int j, .int k], Q => Q (.int (if k > (if j > i then j else i) then k else (if j > i then j else i)))
  | .sum, [.lst xs], Q => match intsOf xs with | some ns => Q (.int ns.sum) | none => False
  | .all, [.lst xs], Q => match blsOf xs with | some bs => Q (.bl (bs.all id)) | none => False
  | .any, [.lst xs], Q => match blsOf xs with | some bs => Q (.bl (bs.any id)) | none => False
  | .repr, [d], Q => showOk d ∧ Q (.str d.py.shown)
  | .divmod, [.int i, .int j], Q => (0 < j ∧ j.natAbs.log2 < 9000) ∧ Q (.tup [.int (i / j), .int (i % j)])
  | .int, [.int i], Q => Q (.int i)
  | .int, [.bl b], Q => Q (.int (if b then 1 else 0))
  | _, _, _ => False
def itemsOf : IK → List D → (List D → Prop) → Prop
  | .lst, [.lst xs], Q => Q xs
  | .tup, [.tup xs], Q => Q xs
  | .rng1, [.int n], Q => (-(2 ^ 62) ≤ n ∧ n < 2 ^ 62) ∧ Q ((List.range n.toNat).map fun i : Nat => .int i)
  | .rng2, [.int a, .int b], Q => (-(2 ^ 62) ≤ a ∧ a < 2 ^ 62 ∧ -(2 ^ 62) ≤ b ∧ b < 2 ^ 62) ∧ Q ((List.range (b - a).toNat).map fun i : Nat => .int (a + i))
  | .enum, [.lst xs], Q => Q (xs.zipIdx.map fun p => .tup [.int (p.2 : Nat), p.1])
  | .zip, [.lst xs, .lst ys], Q => Q (List.zipWith (fun x y => .tup [x, y]) xs ys)
  | .rev, [.lst xs], Q => Q xs.reverse
  | _, _, _ => False
def wpMap (f : D → (Option D → Prop) → Prop) : List D → List D → (List D → Prop) → Prop
  | [], acc, Q => Q acc
  | x :: xs, acc, Q => f x fun o => match o with
    | some y => wpMap f xs (acc ++ [y]) Q
    | none => wpMap f xs acc Q
def dtru (d : D) (Q : Bool → Prop) : Prop :=
  match d with
  | .bl b => Q b
  | _ => False
mutual
def wpE (F : List DC) : E → List (Option D) → (D → Prop) → Prop
  | .var i, G, Q => match getV G i with | some d => Q d | none => False
  | .k d, _, Q => Q d
  | .bin o a b, G, Q => wpE F a G fun x => wpE F b G fun y => bop o x y Q
  | .neg a, G, Q => wpE F a G fun x => match x with | .int i => Q (.int (-i)) | _ => False
  | .cmp o a b, G, Q => wpE F a G fun x => wpE F b G fun y => cop o x y Q
  | .chain o p a b c, G, Q => wpE F a G fun x => wpE F b G fun y => cop o x y fun r => dtru r fun r => if r = true then wpE F c G fun z => cop p y z Q else Q (.bl false)
  | .andv a b, G, Q => wpE F a G fun x => dtru x fun r => if r = true then wpE F b G Q else Q (.bl false)
  | .orv a b, G, Q => wpE F a G fun x => dtru x fun r => if r = true then Q (.bl true) else wpE F b G Q
  | .notv a, G, Q => wpE F a G fun x => dtru x fun r => Q (.bl (!r))
  | .ite t a b, G, Q => wpE F t G fun x => dtru x fun r => if r = true then wpE F a G Q else wpE F b G Q
  | .tup as, G, Q => wpEs F as G fun ds => Q (.tup ds)
  | .lst as, G, Q => wpEs F as G fun ds => Q (.lst ds)
  | .mkbag a b, G, Q => wpE F a G fun x => wpE F b G fun y => match x, y with
    | .int i, .int j => (0 ≤ i ∧ 0 ≤ j ∧ j < 2 ^ 32) ∧ Q .bag
    | _, _ => False
  | .ixn a n, G, Q => wpE F a G fun x => ixnop x n Q
  | .ix a b, G, Q => wpE F a G fun x => wpE F b G fun y => ixop x y Q
  | .slc a lo hi, G, Q => wpE F a G fun x => wpEs F lo G fun l => withPart l fun p => wpEs F hi G fun h => withPart h fun q => slcop x p q Q
  | .call f as, G, Q => wpEs F as G fun ds => match F[f]? with | some c => c ds Q | none => False
  | .bi f as, G, Q => wpEs F as G fun ds => biop f ds Q
  | .isi a t, G, Q => wpE F a G fun x => x.pure = true ∧ Q (.bl (isTy t x))
  | .lc elt tg k its ifs own, G, Q => wpEs F its G fun ds => itemsOf k ds fun xs => xs.length ≤ 100000 ∧
      wpMap (fun d kk => match bindV tg d (wipeV G (own.map (·.2))) with
        | some G1 => wpIf F ifs G1 (wpE F elt G1 fun y => kk (some y)) (kk none)
        | none => False) xs [] fun ys => Q (.lst ys)
def wpEs (F : List DC) : List E → List (Option D) → (List D → Prop) → Prop
  | [], _, Q => Q []
  | e :: es, G, Q => wpE F e G fun d => wpEs F es G fun ds => Q (d :: ds)
/-- the tests of a comprehension: none or one -/
def wpIf (F : List DC) : List E → List (Option D) → Prop → Prop → Prop
  | [], _, A, _ => A
  | t :: _, G, A, B => wpE F t G fun x => dtru x fun r => if r = true then A else B
end
/-! ### statements -/
inductive Sl where
  | no
  | val (d : D)
  | own (xs : List D)
def Sl.v : Sl → Option D
  | .val d => some d
  | _ => none
def frzS (G : List Sl) : List Nat → List Sl
  | [] => G
  | i :: is => match (frzS G is)[i]? with
    | some (.own xs) => (frzS G is).set i (.val (.lst xs))
    | _ => frzS G is
def setAllS : List Sl → List Nat → List D → List Sl
  | G, i :: is, d :: ds => setAllS (G.set i (.val d)) is ds
  | G, _, _ => G
def bindS : Tg → D → List Sl → Option (List Sl)
  | .name i, d, G => some (G.set i (.val d))
  | .tup is, .tup ds, G => if is.length = ds.length then some (setAllS G is ds) else none
  | _, _, _ => none
def getO : List Sl → Nat → Option (List D)
  | [], _ => none
  | .own xs :: _, 0 => some xs
  | _ :: _, 0 => none
  | _ :: xs, n + 1 => getO xs n
inductive S where
  | asg (i : Nat) (e : E)
  | asgL (i : Nat) (es : List E)
  | par (i j : Nat) (a b : E)
  | unp (is : List Nat) (e : E)
  | aug (i : Nat) (o : BO) (e : E)
  | app (i : Nat) (e : E)
  | extL (i : Nat) (e : E)
  | setB (a : E) (n : Nat) (e : E)
  | drop (e : E)
  | ret (e : E)
  | retN
  | ite (t : E) (a b : List S)
  | forS (tg : Tg) (k : IK) (as : List E) (body : List S)
  | whileS (t : E) (body : List S)
  | brk
  | cnt
  | pass
  | frz (is : List Nat)
structure Ks where
  nx : List Sl → Prop
  rt : D → Prop
  bk : List Sl → Prop
  ct : List Sl → Prop
def wpFor (body : List Sl → Ks → Prop) (tg : Tg) (k : Ks) : List D → List Sl → Prop
  | [], G => k.nx G
  | d :: ds, G => match bindS tg d G with
    | some G1 => body G1 { nx := wpFor body tg k ds, rt := k.rt, bk := k.nx, ct := wpFor body tg k ds }
    | none => False
def wpWh (test : List Sl → (Bool → Prop) → Prop) (body : List Sl → Ks → Prop) (k : Ks) : Nat → List Sl → Prop
  | 0, _ => False
  | n + 1, G => test G fun b => if b = true then body G { nx := wpWh test body k n, rt := k.rt, bk := k.nx, ct := wpWh test body k n } else k.nx G
abbrev vals (G : List Sl) : List (Option D) := G.map Sl.v
def augop : BO → D → D → (D → Prop) → Prop
  | .pow, _, _, _ => False
  | o, .int i, .int j, Q => bop o (.int i) (.int j) Q
  | _, _, _, _ => False
mutual
def wpS (F : List DC) : S → List Sl → Ks → Prop
  | .asg i e, G, K => wpE F e (vals G) fun d => K.nx (G.set i (.val d))
  | .asgL i es, G, K => wpEs F es (vals G) fun ds => K.nx (G.set i (.own ds))
  | .par i j a b, G, K => wpE F a (vals G) fun x => wpE F b (vals G) fun y => K.nx ((G.set i (.val x)).set j (.val y))
  | .unp is e, G, K => wpE F e (vals G) fun d => match bindS (.tup is) d G with | some G1 => K.nx G1 | none => False
  | .aug i o e, G, K => match getV (vals G) i with
    | some x => wpE F e (vals G) fun y => augop o x y fun z => K.nx (G.set i (.val z))
    | none => False
  | .app i e, G, K => match getO G i with
    | some xs => wpE F e (vals G) fun d => xs.length < 100000 ∧ K.nx (G.set i (.own (xs ++ [d])))
    | none => False
  | .extL i e, G, K => match getO G i with
    | some xs => wpE F e (vals G) fun d => match d with
      | .lst ys => xs.length + ys.length < 100000 ∧ K.nx (G.set i (.own (xs ++ ys)))
      | _ => False
    | none => False
  | .setB a n e, G, K => wpE F e (vals G) fun d => wpE F a (vals G) fun b => match b, d with
    | .bag, .int i => (n < 2 ∧ 0 ≤ i ∧ (n = 1 → i < 2 ^ 32)) ∧ K.nx G
    | _, _ => False
  | .drop e, G, K => wpE F e (vals G) fun _ => K.nx G
  | .ret e, G, K => wpE F e (vals G) K.rt
  | .retN, _, K => K.rt .non
  | .ite t a b, G, K => wpE F t (vals G) fun x => dtru x fun r => if r = true then wpSs F a G K else wpSs F b G K
  | .forS tg k as body, G, K => wpEs F as (vals G) fun ds => itemsOf k ds fun xs => wpFor (fun G1 K1 => wpSs F body G1 K1) tg K xs G
  | .whileS t body, G, K => ∃ n, wpWh (fun G1 Q => wpE F t (vals G1) fun x => dtru x Q) (fun G1 K1 => wpSs F body G1 K1) K n G
  | .brk, G, K => K.bk G
  | .cnt, G, K => K.ct G
  | .pass, G, K => K.nx G
  | .frz is, G, K => K.nx (frzS G is)
def wpSs (F : List DC) : List S → List Sl → Ks → Prop
  | [], G, K => K.nx G
  | s :: r, G, K => wpS F s G { K with nx := fun G1 => wpSs F r G1 K }
end
/-- a def's body: n slots, the parameters' data first -/
def start0 (n : Nat) (ds : List D) : List Sl := ds.map Sl.val ++ List.replicate (n - ds.length) Sl.no
def wpBody (F : List DC) (n : Nat) (body : List S) (ds : List D) (Q : D → Prop) : Prop :=
  wpSs F body (start0 n ds) { nx := fun _ => Q .non, rt := Q, bk := fun _ => False, ct := fun _ => False }
end OC
set_option Elab.async false
set_option linter.all false
set_option maxRecDepth 100000
set_option maxHeartbeats 4000000
/-! Onecut, calls: a def that keeps a promise over plain data, where no repr is under way. -/
namespace OC
open PySem PySem.Spec PyProof.Rows L2
/-- as L2's word for a def, for a stack on which no guard stands -/
structure GFn (P : Program) (w : World) (K : PySem.W.Frag) (mg : Str → Option Value) (base : Heap) (k : Nat) (f : Addr) (fd : FuncData) (ps : List Str) (sp : Sp) : Prop where
  len : ∀ vs H Q E, sp vs H Q E → vs.length = ps.length
  run : ∀ (A : Around) (outer : List Env) (s : Shared) (H : Hp) (args : Args) (us : List Value) (vs : List V) (Q : VK) (E : XK), Room k A → A.guards = some [] → Env0 P w K mg base A outer s H → BindsTo s fd args (ps.zip us) → Vals vs us → sp vs H Q E →
    codeAny (model P w) A (.call (.ref f) args) (CR CX0 outer P w H s Q E) s
theorem GFn.mono {P : Program} {w : World} {K : PySem.W.Frag} {mg : Str → Option Value} {base : Heap} {j k : Nat} {f : Addr} {fd : FuncData} {ps : List Str} {sp : Sp} (F : GFn P w K mg base j f fd ps sp) (h : j ≤ k) :
    GFn P w K mg base k f fd ps sp := ⟨F.len, fun A outer s H args us vs Q E r => F.run A outer s H args us vs Q E (r.mono h)⟩
/-- the promise of a def over plain data -/
def SpD (K : PySem.W.Frag) (n : Nat) (c : DC) : Sp := fun vs H Q _ => ∃ (Bg M : AP) (ds : List D) (Qd : D → Prop),
  BagsOk Bg H ∧ (∀ a, M a → H a ≠ none ∧ ¬ Bg a) ∧ RepL K Bg M H vs ds ∧ ds.length = n ∧ c ds Qd ∧ ∀ d v Bg' H', Ext Bg H Bg' H' → Rep K Bg' M H' v d → Qd d → Q v H'
def FOK (P : Program) (w : World) (K : PySem.W.Frag) (mg : Str → Option Value) (base : Heap) (k : Nat) (x : Str) (c : DC) : Prop :=
  ∃ (f : Addr) (fd : FuncData) (ps : List Str), mg x = some (.ref f) ∧ PySem.W.keepIn K (.ref f) = true ∧ Binds K fd ps [] ∧ (∀ ds Q, c ds Q → ds.length = ps.length) ∧ GFn P w K mg base k f fd ps (SpD K ps.length c)
theorem FOK.mono {P : Program} {w : World} {K : PySem.W.Frag} {mg : Str → Option Value} {base : Heap} {j k : Nat} {x : Str} {c : DC} (h : FOK P w K mg base j x c) (hjk : j ≤ k) : FOK P w K mg base k x c := by
  obtain ⟨f, fd, ps, h1, h2, h3, h5, h4⟩ := h
  exact ⟨f, fd, ps, h1, h2, h3, h5, h4.mono hjk⟩
section
variable {X : Cx} {k : Nat} {f : Addr} {fd : FuncData} {ps : List Str} {sp : Sp} {x : Str} {p pos : Pos} {e : Expr} {es : List Expr} {t : TA}
theorem g_run {pins : List (Addr × Obj)} {σ : L2.St} {H : Hp} {s : Shared} {Q : VK} {us : List Value} {vs : List V} (F : GFn X.prog X.w X.K X.mg X.base k f fd ps sp) (hr : Room k X.A) (hg : X.A.guards = some []) (hb : Binds X.K fd ps [])
    (I : Inv X pins σ H s) (r : Vals vs us) (h : sp vs H Q E0) : wpAny (model X.prog X.w) X.A (call (.ref f) us) (EP X pins σ Q) X.xe s := by
  have hl : us.length = ps.length := by rw [← r.length]; exact F.len _ _ _ _ h
  have hb' := hb s us I.kIn (by rw [List.append_nil]; exact hl)
  rw [List.append_nil] at hb'
  refine wpAny_call (codeAny_mono (F.run X.A X.stack s H ⟨us, []⟩ us vs Q E0 hr hg I.env0 hb' r h) fun r s' hq => ?_)
  cases r with
  | error e => exact False.elim hq
  | ok fl =>
    cases fl with
    | ret u => exact I.after hq
    | next => exact hq.elim
    | brk => exact hq.elim
    | cont => exact hq.elim
theorem pe_callG (F : GFn X.prog X.w X.K X.mg X.base k f fd ps sp) (hr : Room k X.A) (hgd : X.A.guards = some []) (hg : Gl X x) (hm : X.mg x = some (.ref f)) (hk : PySem.W.keepIn X.K (.ref f) = true) (hb : Binds X.K fd ps [])
    (ha : PA X (e :: es) t) (hdb : (x == ("__debug__" : Str)) = false) (he : starEach (e :: es) X.env = (false, eval e X.env) :: starEach es X.env) (hpl : (backTo pos (starEach es X.env)).any (·.1) = false) :
    PE X (.Call (.Name x p) (e :: es) [] pos) (tCB (fun vs H Q => sp vs H Q E0) t) := by
  refine ⟨fun pins s σ H Q I h => wpAny_Call_Name_kw (ld_glob I hg hm ?_ hdb)⟩
  refine PySem.W.callWith_K (h₀ := X.base) I.ok.mod.kin hk (thn (ha.run pos pins s σ H _ I h) fun us s1 z => ?_) he hpl
  obtain ⟨vs, H1, I1, r, q⟩ := z
  exact ⟨I1.kIn, g_run F hr hgd hb I1 r q⟩
theorem pe_callG0 (F : GFn X.prog X.w X.K X.mg X.base k f fd ps sp) (hr : Room k X.A) (hgd : X.A.guards = some []) (hg : Gl X x) (hm : X.mg x = some (.ref f)) (hk : PySem.W.keepIn X.K (.ref f) = true) (hb : Binds X.K fd ps [])
    (hdb : (x == ("__debug__" : Str)) = false) : PE X (.Call (.Name x p) [] [] pos) (tCB (fun vs H Q => sp vs H Q E0) tNil) :=
  ⟨fun pins s σ H Q I h => wpAny_Call_Name_kw (ld_glob I hg hm (PySem.W.callWith_K0 I.kIn hk (g_run (us := []) F hr hgd hb I .nil h)) hdb)⟩
end
/-- a def of the text by its body -/
theorem g_fn {P : Program} {w : World} {K : PySem.W.Frag} {mg : Str → Option Value} {base : Heap} {x qual : Str} {st : Stmt} {f : Addr} {fd : FuncData} {N ps : List Str} {k : Nat} {sp : Sp} (F : Fun K x qual st f fd) (S : FnScope N ps (defScope st)) (len : ∀ vs H Q E, sp vs H Q E → vs.length = ps.length)
    (hbody : ∀ (cdv : Value) (A : Around) (outer : List Env) (s : Shared) (H : Hp) (vs : List V) (Q : VK) (E : XK), Room k (A.deeper (envOfC qual (defScope st) s.heap.objs.size f cdv)) → A.guards = some [] → sp vs H Q E →
      ∃ t, PSs (cxOf CX0 P w K mg base N qual (defScope st) f cdv A outer s H E).nox (defBody st) t ∧ t { nx := fun _ H' => Q .non H', rt := Q } (start N vs) H) : GFn P w K mg base (k + 1) f fd ps sp := by
  obtain ⟨oc, od, kV, doc, pm, an, cdv, ct, osl, rfl, lk, hcd⟩ := F.ex
  refine ⟨len, fun A outer s H args us vs Q E hr hgd e0 hb r hsp => ?_⟩
  -- the same walk as for L2's own word, at a stack without guards
  have KX : K.In s.heap := e0.mod.kin.keeps fun b o e => (e0.bs b o e).1
  have hkind : ∀ y ∈ ps.zip us, (defScope st).names.lookup y.1 = some .local ∨ ((defScope st).names.lookup y.1 = some .cell ∧ ((cellsFrom (s.heap.objs.size + 1) (defScope st).names []).lookup y.1).isSome = true) := by
    rintro ⟨n, v⟩ hy
    exact (S.par n (List.of_mem_zip hy).1).imp (fun q => q) fun q => ⟨q, PySem.W.cellsFrom_some _ _ _ (.inl q)⟩
  refine codeAny_call_function (hr.depth) (KX _ _ lk) rfl S.co S.gen rfl (PySem.W.codeRec_of KX hcd) (hb _ _ _ _ (wpAny_newFunctionEnv_cells S.kind hkind fun env he s1 x => ?_))
  subst he
  refine ⟨(e0.mod.nolimit.keeps fun b o e => (e0.bs b o e).1).keeps x.toInCall.keep, codeAny_func ?_⟩
  obtain ⟨t, ht, hq⟩ := hbody cdv A outer s H vs Q E (hr.deeper _) hgd hsp
  have I := inv_start (CX := CX0) (E := E) (N := N) (ps := ps) (w := w) (P := P) S hr.hd e0 (len _ _ _ _ hsp) r x
  refine wpAny_mono (ht.nox.run [] s1 (start N vs) H _ I hq) (fun fl s' hs => ?_) (fun e s' hs => hs)
  cases fl with
  | ret u =>
    obtain ⟨v, σ', H', J, rv, q⟩ := hs
    exact ⟨v, H', J.os, J.bare, J.base, J.hok, rv, q⟩
  | next =>
    obtain ⟨σ', H', J, q⟩ := hs
    exact ⟨V.non, H', J.os, J.bare, J.base, J.hok, rfl, q⟩
  | brk =>
    obtain ⟨_, _, _, q⟩ := hs
    exact False.elim q
  | cont =>
    obtain ⟨_, _, _, q⟩ := hs
    exact False.elim q
end OC
set_option Elab.async false
set_option linter.all false
set_option maxRecDepth 100000
set_option maxHeartbeats 4000000
/-! Onecut, the look: does a body of the small language stand for a body of the text? -/
namespace OC
open PySem PySem.Spec PyProof.Rows L2
/-- names by slot; the defs that may be called; the built-in names that the module leaves free -/
structure Ck where
  N : List Str
  fs : List Str
  bs : List Str
def vis (sc : Scope) (x : Str) : Bool := match sc.names.lookup x with
  | some .local => true
  | some .cell => true
  | some .free => true
  | _ => false
def glb (sc : Scope) (x : Str) : Bool := match sc.names.lookup x with
  | some .globalImplicit => true
  | _ => false
def isLoc (sc : Scope) (x : Str) : Bool := match sc.names.lookup x with
  | some .local => true
  | _ => false
def isCell (sc : Scope) (x : Str) : Bool := match sc.names.lookup x with
  | some .cell => true
  | _ => false
theorem vis_ok {sc : Scope} {x : Str} (h : vis sc x = true) : Vis sc x := by
  unfold vis at h
  unfold Vis
  split at h <;> simp_all
theorem glb_ok {sc : Scope} {x : Str} (h : glb sc x = true) : sc.names.lookup x = some .globalImplicit := by
  unfold glb at h
  split at h <;> simp_all
theorem isLoc_ok {sc : Scope} {x : Str} (h : isLoc sc x = true) : sc.names.lookup x = some .local := by
  unfold isLoc at h
  split at h <;> simp_all
theorem isCell_ok {sc : Scope} {x : Str} (h : isCell sc x = true) : sc.names.lookup x = some .cell := by
  unfold isCell at h
  split at h <;> simp_all
def nst : Expr → Bool
  | .Starred .. => false
  | _ => true
def nstL : List Expr → Bool
  | [] => true
  | e :: es => nst e && nstL es
theorem star_cons {e : Expr} {es : List Expr} {env : Env} (h : nst e = true) : starEach (e :: es) env = (false, eval e env) :: starEach es env := by
  cases e <;> first | rfl | cases h
theorem star_all {env : Env} {pos : Pos} : ∀ {es : List Expr}, nstL es = true → (backTo pos (starEach es env)).any (·.1) = false
  | [], _ => rfl
  | e :: es, h => by
    have q : (nst e && nstL es) = true := h
    rw [Bool.and_eq_true] at q
    rw [star_cons q.1]
    show (false || (backTo pos (starEach es env)).any (·.1)) = false
    rw [star_all q.2]
    rfl
def asName : Expr → Option Str
  | .Name x _ => some x
  | _ => none
theorem asName_ok {e : Expr} {x : Str} (h : asName e = some x) : ∃ p, e = .Name x p := by cases e <;> simp_all [asName]
def asConst : Expr → Option Const
  | .Constant c _ _ => some c
  | _ => none
theorem asConst_ok {e : Expr} {c : Const} (h : asConst e = some c) : ∃ j p, e = .Constant c j p := by cases e <;> simp_all [asConst]
def asBin : Expr → Option (Expr × Operator × Expr)
  | .BinOp a o b _ => some (a, o, b)
  | _ => none
theorem asBin_ok {e a b : Expr} {o : Operator} (h : asBin e = some (a, o, b)) : ∃ p, e = .BinOp a o b p := by cases e <;> simp_all [asBin]
def asUn : Expr → Option (UnaryOp × Expr)
  | .UnaryOp o a _ => some (o, a)
  | _ => none
theorem asUn_ok {e a : Expr} {o : UnaryOp} (h : asUn e = some (o, a)) : ∃ p, e = .UnaryOp o a p := by cases e <;> simp_all [asUn]
def asCmp : Expr → Option (Expr × List CmpOp × List Expr)
  | .Compare a o b _ => some (a, o, b)
  | _ => none
theorem asCmp_ok {e a : Expr} {o : List CmpOp} {b : List Expr} (h : asCmp e = some (a, o, b)) : ∃ p, e = .Compare a o b p := by cases e <;> simp_all [asCmp]
def asBool : Expr → Option (BoolOp × List Expr × Pos)
  | .BoolOp o b p => some (o, b, p)
  | _ => none
theorem asBool_ok {e : Expr} {o : BoolOp} {b : List Expr} {p : Pos} (h : asBool e = some (o, b, p)) : e = .BoolOp o b p := by cases e <;> simp_all [asBool]
def asIf : Expr → Option (Expr × Expr × Expr)
  | .IfExp t a b _ => some (t, a, b)
  | _ => none
theorem asIf_ok {e t a b : Expr} (h : asIf e = some (t, a, b)) : ∃ p, e = .IfExp t a b p := by cases e <;> simp_all [asIf]
def asTup : Expr → Option (List Expr)
  | .Tuple es _ _ => some es
  | _ => none
theorem asTup_ok {e : Expr} {es : List Expr} (h : asTup e = some es) : ∃ j p, e = .Tuple es j p := by cases e <;> simp_all [asTup]
def asLst : Expr → Option (List Expr)
  | .List es _ => some es
  | _ => none
theorem asLst_ok {e : Expr} {es : List Expr} (h : asLst e = some es) : ∃ p, e = .List es p := by cases e <;> simp_all [asLst]
def asSub : Expr → Option (Expr × Expr)
  | .Subscript a b _ => some (a, b)
  | _ => none
theorem asSub_ok {e a b : Expr} (h : asSub e = some (a, b)) : ∃ p, e = .Subscript a b p := by cases e <;> simp_all [asSub]
def asSlc : Expr → Option (Option Expr × Option Expr)
  | .Slice a b none _ => some (a, b)
  | _ => none
theorem asSlc_ok {e : Expr} {a b : Option Expr} (h : asSlc e = some (a, b)) : ∃ p, e = .Slice a b none p := by
  cases e with
  | Slice l u s p =>
    cases s with
    | none => simp_all [asSlc]
    | some _ => simp [asSlc] at h
  | _ => simp [asSlc] at h
def asCall : Expr → Option (Str × List Expr)
  | .Call (.Name x _) es [] _ => some (x, es)
  | _ => none
theorem asCall_ok {e : Expr} {x : Str} {es : List Expr} (h : asCall e = some (x, es)) : ∃ p q, e = .Call (.Name x p) es [] q := by
  cases e with
  | Call f as ks p =>
    cases f with
    | Name y py =>
      cases ks with
      | nil => simp_all [asCall]
      | cons _ _ => simp [asCall] at h
    | _ => simp [asCall] at h
  | _ => simp [asCall] at h
def asLC : Expr → Option (Expr × Expr × Expr × List Expr × Scope)
  | .ListComp elt [⟨tg, it, ifs, 0⟩] sc _ => some (elt, tg, it, ifs, sc)
  | _ => none
theorem asLC_ok {e elt tg it : Expr} {ifs : List Expr} {sc : Scope} (h : asLC e = some (elt, tg, it, ifs, sc)) : ∃ p, e = .ListComp elt [⟨tg, it, ifs, 0⟩] sc p := by
  unfold asLC at h
  split at h
  · simp only [Option.some.injEq, Prod.mk.injEq] at h
    obtain ⟨rfl, rfl, rfl, rfl, rfl⟩ := h
    exact ⟨_, rfl⟩
  · cases h
def boOf : BO → Operator
  | .add => .Add
  | .sub => .Sub
  | .mul => .Mult
  | .fdiv => .FloorDiv
  | .mod => .Mod
  | .pow => .Pow
def coOf : CO → CmpOp
  | .eq => .Eq
  | .ne => .NotEq
  | .lt => .Lt
  | .le => .LtE
  | .gt => .Gt
  | .ge => .GtE
  | .isn => .Is
  | .isnot => .IsNot
  | .inn => .In
  | .notin => .NotIn
def biNm : Bi → String
  | .len => "len"
  | .abs => "abs"
  | .max => "max"
  | .min => "min"
  | .sum => "sum"
  | .all => "all"
  | .any => "any"
  | .repr => "repr"
  | .divmod => "divmod"
  | .int => "int"
  | .sorted => "sorted"
  | .tuple => "tuple"
  | .list => "list"
def tyNm : Ty → String
  | .int => "int"
  | .bool => "bool"
  | .tuple => "tuple"
  | .list => "list"
  | .str => "str"
/-- an operator, by its name's place -/
def opN : Operator → Nat
  | .Add => 0
  | .Sub => 1
  | .Mult => 2
  | .FloorDiv => 3
  | .Mod => 4
  | .Pow => 5
  | _ => 6
def cmpN : CmpOp → Nat
  | .Eq => 0
  | .NotEq => 1
  | .Lt => 2
  | .LtE => 3
  | .Gt => 4
  | .GtE => 5
  | .Is => 6
  | .IsNot => 7
  | .In => 8
  | .NotIn => 9
theorem op_of {o : BO} {p : Operator} (h : (opN p == opN (boOf o)) = true) : p = boOf o := by
  cases o <;> cases p <;> first | rfl | (exact absurd h (by decide))
theorem cmp_of {o : CO} {p : CmpOp} (h : (cmpN p == cmpN (coOf o)) = true) : p = coOf o := by
  cases o <;> cases p <;> first | rfl | (exact absurd h (by decide))
/-- a constant's datum -/
def constD : Const → Option D
  | .none => some .non
  | .bool b => some (.bl b)
  | .int i => some (.int i)
  | .str s => some (.str s)
  | _ => none
def sameK : D → D → Bool
  | .non, .non => true
  | .bl a, .bl b => a == b
  | .int a, .int b => a == b
  | .str a, .str b => decide (a = b)
  | _, _ => false
theorem sameK_ok {a b : D} (h : sameK a b = true) : a = b := by
  cases a <;> cases b <;> simp_all [sameK]
def chkTg (N : List Str) (sc : Scope) (fo : Str → Bool) : Tg → Expr → Bool
  | .name i, e => match asName e with
    | some x => decide (N[i]? = some x) && (isLoc sc x || (isCell sc x && fo x))
    | none => false
  | .tup is, e => match asTup e with
    | some es => go is es
    | none => false
where go : List Nat → List Expr → Bool
  | [], [] => true
  | i :: is, e :: es => (match asName e with
    | some x => decide (N[i]? = some x) && (isLoc sc x || (isCell sc x && fo x))
    | none => false) && go is es
  | _, _ => false
def tgIn (own : List Nat) : Tg → Bool
  | .name i => own.contains i
  | .tup is => is.all fun i => own.contains i
def isSet : Expr → Bool
  | .Set .. => true
  | _ => false
def isSlc : Expr → Bool
  | .Slice .. => true
  | _ => false
/-- a name that is global, and a built-in's -/
def blt (C : Ck) (sc : Scope) (x : Str) (nm : String) : Bool := decide (x = (nm : Str)) && glb sc x && C.bs.contains x
/-- tests by their value -/
def leaf : Expr → Bool
  | .Name .. => true
  | .Constant .. => true
  | .Call .. => true
  | .Subscript .. => true
  | _ => false
mutual
def chkE (C : Ck) (sc : Scope) (tt : Bool) : E → Expr → Bool
  | .var i, e => (!tt || leaf e) && match asName e with
    | some x => decide (C.N[i]? = some x) && vis sc x && !(x == ("__debug__" : Str)) && !(x == ("__classdict__" : Str))
    | none => false
  | .k d, e => (!tt || leaf e) && match asConst e with
    | some c => (match constD c with | some d' => sameK d d' | none => false)
    | none => false
  | .bin o a b, e => (!tt || leaf e) && match asBin e with
    | some (x, p, y) => opN p == opN (boOf o) && chkE C sc false a x && chkE C sc false b y
    | none => false
  | .neg a, e => (!tt || leaf e) && match asUn e with
    | some (.USub, x) => chkE C sc false a x
    | _ => false
  | .cmp o a b, e => match asCmp e with
    | some (x, [p], [y]) => cmpN p == cmpN (coOf o) && !isSet y && chkE C sc false a x && chkE C sc false b y
    | _ => false
  | .chain o p a b c, e => match asCmp e with
    | some (x, [q, r], [y, z]) => cmpN q == cmpN (coOf o) && cmpN r == cmpN (coOf p) && !isSet z && chkE C sc false a x && chkE C sc false b y && chkE C sc false c z
    | _ => false
  | .andv a b, e => match asBool e with
    | some (.And, [x, y], _) => chkE C sc tt a x && chkE C sc tt b y
    | some (.And, x :: y :: z :: r, p) => chkE C sc tt a x && chkE C sc tt b (.BoolOp .And (y :: z :: r) p)
    | _ => false
  | .orv a b, e => match asBool e with
    | some (.Or, [x, y], _) => chkE C sc tt a x && chkE C sc tt b y
    | some (.Or, x :: y :: z :: r, p) => chkE C sc tt a x && chkE C sc tt b (.BoolOp .Or (y :: z :: r) p)
    | _ => false
  | .notv a, e => match asUn e with
    | some (.Not, x) => chkE C sc tt a x
    | _ => false
  | .ite t a b, e => (!tt || leaf e) && match asIf e with
    | some (z, x, y) => chkE C sc true t z && chkE C sc false a x && chkE C sc false b y
    | none => false
  | .tup as, e => (!tt || leaf e) && match asTup e with
    | some es => decide (es.length ≤ 1000) && chkEs C sc as es
    | none => false
  | .lst as, e => (!tt || leaf e) && match asLst e with
    | some es => decide (es.length ≤ 1000) && chkEs C sc as es
    | none => false
  | .mkbag a b, e => (!tt || leaf e) && match asLst e with
    | some [x, y] => nst x && nst y && chkE C sc false a x && chkE C sc false b y
    | _ => false
  | .ixn a n, e => (!tt || leaf e) && match asSub e with
    | some (x, y) => (match asConst y with | some (.int i) => i == (n : Int) | _ => false) && chkE C sc false a x
    | none => false
  | .ix a b, e => (!tt || leaf e) && match asSub e with
    | some (x, y) => !isSlc y && chkE C sc false a x && chkE C sc false b y
    | none => false
  | .slc a lo hi, e => (!tt || leaf e) && match asSub e with
    | some (x, y) => (match asSlc y with | some (l, h) => chkO C sc lo l && chkO C sc hi h | none => false) && chkE C sc false a x
    | none => false
  | .call f as, e => (!tt || leaf e) && match asCall e with
    | some (x, es) => decide (C.fs[f]? = some x) && glb sc x && !(x == ("__debug__" : Str)) && chkEs C sc as es
    | none => false
  | .bi f as, e => (!tt || leaf e) && match asCall e with
    | some (x, es) => blt C sc x (biNm f) && !es.isEmpty && chkEs C sc as es
    | none => false
  | .isi a t, e => (!tt || leaf e) && match asCall e with
    | some (x, [y, z]) => blt C sc x "isinstance" && nst y && chkE C sc false a y && (match asName z with | some w => blt C sc w (tyNm t) | none => false)
    | _ => false
  | .lc elt tg k its ifs own, e => (!tt || leaf e) && match asLC e with
    | some (el, t, it, fs, scope) => !isSet it && blkC C.N sc scope own && chkI C sc k its it t && chkTg C.N (relS scope sc) (fun x => isCell scope x) tg t && tgIn (own.map (·.2)) tg &&
        chkF C (relS scope sc) ifs fs && chkE C (relS scope sc) false elt el
    | none => false
def chkEs (C : Ck) (sc : Scope) : List E → List Expr → Bool
  | [], [] => true
  | a :: as, e :: es => nst e && chkE C sc false a e && chkEs C sc as es
  | _, _ => false
def chkO (C : Ck) (sc : Scope) : List E → Option Expr → Bool
  | [], none => true
  | [t], some e => chkE C sc false t e
  | _, _ => false
def chkF (C : Ck) (sc : Scope) : List E → List Expr → Bool
  | [], [] => true
  | [t], [e] => chkE C sc true t e
  | _, _ => false
/-- what is walked, and the target -/
def chkI (C : Ck) (sc : Scope) : IK → List E → Expr → Expr → Bool
  | .lst, [a], it, _ => chkE C sc false a it
  | .tup, [a], it, _ => chkE C sc false a it
  | .rng1, [a], it, _ => match asCall it with
    | some (x, [y]) => blt C sc x "range" && nst y && chkE C sc false a y
    | _ => false
  | .rng2, [a, b], it, _ => match asCall it with
    | some (x, [y, z]) => blt C sc x "range" && nst y && nst z && chkE C sc false a y && chkE C sc false b z
    | _ => false
  | .enum, [a], it, tg => match asCall it with
    | some (x, [y]) => blt C sc x "enumerate" && nst y && chkE C sc false a y && (asTup tg).isSome
    | _ => false
  | .zip, [a, b], it, tg => match asCall it with
    | some (x, [y, z]) => blt C sc x "zip" && nst y && nst z && chkE C sc false a y && chkE C sc false b z && (asTup tg).isSome
    | _ => false
  | .rev, [a], it, _ => match asCall it with
    | some (x, [y]) => blt C sc x "reversed" && nst y && chkE C sc false a y
    | _ => false
  | _, _, _, _ => false
end
end OC
set_option Elab.async false
set_option linter.all false
set_option maxRecDepth 100000
set_option maxHeartbeats 4000000
/-! Onecut: the readings of the hand layer keep what the small language says, piece by piece. -/
namespace OC
open PySem PySem.Spec PyProof.Rows L2
structure EnvE (K : PySem.W.Frag) (Bg M : AP) (H : Hp) (σ : L2.St) (G : List (Option D)) : Prop where
  bags : BagsOk Bg H
  md : ∀ a, M a → H a ≠ none ∧ ¬ Bg a
  len : σ.length = G.length
  val : ∀ i d, getV G i = some d → ∃ v, σ[i]? = some (some v) ∧ Rep K Bg M H v d
theorem md_ext {Bg Bg' M : AP} {H H' : Hp} (h : ∀ a, M a → H a ≠ none ∧ ¬ Bg a) (e : Ext Bg H Bg' H') : ∀ a, M a → H' a ≠ none ∧ ¬ Bg' a := fun a m => by
  obtain ⟨h1, h2⟩ := h a m
  cases q : H a with
  | none => exact absurd q h1
  | some o =>
    refine ⟨?_, e.nb q h2⟩
    rw [e.keep a o h2 q]
    exact fun z => by cases z
theorem EnvE.ext {K : PySem.W.Frag} {Bg Bg' M : AP} {H H' : Hp} {σ : L2.St} {G : List (Option D)} (h : EnvE K Bg M H σ G) (e : Ext Bg H Bg' H') : EnvE K Bg' M H' σ G :=
  ⟨e.bags, md_ext h.md e, h.len, fun i d q => by
    obtain ⟨v, h1, h2⟩ := h.val i d q
    exact ⟨v, h1, h2.ext e fun a m => .inl m⟩⟩
def Post (K : PySem.W.Frag) (Bg M : AP) (H : Hp) (Qd : D → Prop) (Q : VK) : Prop := ∀ d v Bg' H', Ext Bg H Bg' H' → Rep K Bg' M H' v d → Qd d → Q v H'
theorem Post.ext {K : PySem.W.Frag} {Bg Bg' M : AP} {H H' : Hp} {Qd : D → Prop} {Q : VK} (h : Post K Bg M H Qd Q) (e : Ext Bg H Bg' H') : Post K Bg' M H' Qd Q := fun d v B1 H1 e1 r q => h d v B1 H1 (e.trans e1) r q
def TEok (K : PySem.W.Frag) (F : List DC) (t : TE) (e : E) : Prop := ∀ (Bg M : AP) (H : Hp) (σ : L2.St) (G : List (Option D)) (Qd : D → Prop) (Q : VK), EnvE K Bg M H σ G → wpE F e G Qd → Post K Bg M H Qd Q → t σ H Q
def TAok (K : PySem.W.Frag) (F : List DC) (t : TA) (es : List E) : Prop := ∀ (Bg M : AP) (H : Hp) (σ : L2.St) (G : List (Option D)) (Qd : List D → Prop) (Q : List V → Hp → Prop), EnvE K Bg M H σ G → wpEs F es G Qd →
  (∀ ds vs Bg' H', Ext Bg H Bg' H' → RepL K Bg' M H' vs ds → ds.length = es.length → Qd ds → Q vs H') → t σ H Q
def TTok (K : PySem.W.Frag) (F : List DC) (t : TT) (e : E) : Prop := ∀ (Bg M : AP) (H : Hp) (σ : L2.St) (G : List (Option D)) (Qb : Bool → Prop) (Q : Bool → Hp → Prop), EnvE K Bg M H σ G → wpE F e G (fun d => dtru d Qb) →
  (∀ b Bg' H', Ext Bg H Bg' H' → Qb b → Q b H') → t σ H Q
def ROk2 (K : PySem.W.Frag) (r : R2) (g : D → D → (D → Prop) → Prop) : Prop := ∀ (Bg M : AP) (H : Hp) (x y : V) (dx dy : D) (Qd : D → Prop) (Q : VK), BagsOk Bg H → (∀ a, M a → H a ≠ none ∧ ¬ Bg a) →
  Rep K Bg M H x dx → Rep K Bg M H y dy → g dx dy Qd → Post K Bg M H Qd Q → r x y H Q
def ROkC (K : PySem.W.Frag) (r : List V → Hp → VK → Prop) (g : List D → (D → Prop) → Prop) : Prop := ∀ (Bg M : AP) (H : Hp) (vs : List V) (ds : List D) (Qd : D → Prop) (Q : VK), BagsOk Bg H → (∀ a, M a → H a ≠ none ∧ ¬ Bg a) →
  RepL K Bg M H vs ds → g ds Qd → Post K Bg M H Qd Q → r vs H Q
theorem dtru_inv {d : D} {Q : Bool → Prop} (h : dtru d Q) : ∃ b, d = .bl b ∧ Q b := by
  cases d <;> first | exact ⟨_, rfl, h⟩ | exact h.elim
theorem fresh_md {Bg M : AP} {H : Hp} {p : Addr} (b : BagsOk Bg H) (md : ∀ a, M a → H a ≠ none ∧ ¬ Bg a) (h : H p = none) : ¬ Bg p ∧ ¬ M p :=
  ⟨fun z => (by obtain ⟨_, _, e, _⟩ := b p z; rw [h] at e; cases e), fun z => (md p z).1 h⟩
section
variable {K : PySem.W.Frag} {F : List DC} {ta tb tc : TE} {a b c : E} {r r' : R2}
/-- a new tuple, a new list -/
theorem new_tup {Bg M : AP} {H : Hp} {vs : List V} {ds : List D} {Qd : D → Prop} {Q : VK} {p : Addr} (bg : BagsOk Bg H) (md : ∀ a, M a → H a ≠ none ∧ ¬ Bg a) (rl : RepL K Bg M H vs ds) (q : Qd (.tup ds)) (post : Post K Bg M H Qd Q) (hp : H p = none) : Q (.ref p) (L2.upd H p (.tup vs)) := by
  have e := Ext.lay (o := .tup vs) bg hp
  obtain ⟨n1, n2⟩ := fresh_md bg md hp
  exact post _ _ _ _ e (.tup (.inl upd_same) n1 n2 (rl.ext e fun a m => .inl m)) q
theorem new_lst {Bg M : AP} {H : Hp} {vs : List V} {ds : List D} {Qd : D → Prop} {Q : VK} {p : Addr} (bg : BagsOk Bg H) (md : ∀ a, M a → H a ≠ none ∧ ¬ Bg a) (rl : RepL K Bg M H vs ds) (q : Qd (.lst ds)) (post : Post K Bg M H Qd Q) (hp : H p = none) : Q (.ref p) (L2.upd H p (.lst vs)) := by
  have e := Ext.lay (o := .lst vs) bg hp
  obtain ⟨n1, n2⟩ := fresh_md bg md hp
  exact post _ _ _ _ e (.lst upd_same n1 n2 (rl.ext e fun a m => .inl m)) q
theorem post_here {Bg M : AP} {H : Hp} {Qd : D → Prop} {Q : VK} {d : D} {v : V} (bg : BagsOk Bg H) (post : Post K Bg M H Qd Q) (r : Rep K Bg M H v d) (q : Qd d) : Q v H := post d v Bg H (Ext.refl bg) r q
theorem ok_var {i : Nat} : TEok K F (tVar i) (.var i) := fun Bg M H σ G Qd Q en w post => by
  simp only [wpE] at w
  split at w
  · rename_i d hd
    obtain ⟨v, h1, h2⟩ := en.val i d hd
    exact ⟨v, h1, post_here en.bags post h2 w⟩
  · exact w.elim
theorem ok_bin2 {g : D → D → (D → Prop) → Prop} (ha : TEok K F ta a) (hb : TEok K F tb b) (hr : ROk2 K r g) {Bg M : AP} {H : Hp} {σ : L2.St} {G : List (Option D)} {Qd : D → Prop} {Q : VK} (en : EnvE K Bg M H σ G) (w : wpE F a G fun x => wpE F b G fun y => g x y Qd)
    (post : Post K Bg M H Qd Q) : tOp r ta tb σ H Q := by
  refine ha _ _ _ _ _ _ _ en w fun x vx B1 H1 e1 rx w1 => ?_
  refine hb _ _ _ _ _ _ _ (en.ext e1) w1 fun y vy B2 H2 e2 ry w2 => ?_
  exact hr _ _ _ _ _ _ _ _ _ e2.bags (md_ext (md_ext en.md e1) e2) (rx.ext e2 fun a m => .inl m) ry w2 (post.ext (e1.trans e2))
theorem ok_bin {o : BO} (ha : TEok K F ta a) (hb : TEok K F tb b) (hr : ROk2 K r (bop o)) : TEok K F (tOp r ta tb) (.bin o a b) := fun Bg M H σ G Qd Q en w post => by
  simp only [wpE] at w
  exact ok_bin2 ha hb hr en w post
theorem ok_cmp {o : CO} (ha : TEok K F ta a) (hb : TEok K F tb b) (hr : ROk2 K r (cop o)) : TEok K F (tOp r ta tb) (.cmp o a b) := fun Bg M H σ G Qd Q en w post => by
  simp only [wpE] at w
  exact ok_bin2 ha hb hr en w post
theorem ok_ix (ha : TEok K F ta a) (hb : TEok K F tb b) (hr : ROk2 K r ixop) : TEok K F (tOp r ta tb) (.ix a b) := fun Bg M H σ G Qd Q en w post => by
  simp only [wpE] at w
  exact ok_bin2 ha hb hr en w post
theorem ok_neg (ha : TEok K F ta a) : TEok K F (tUn (rU fun i => .int (-i)) ta) (.neg a) := fun Bg M H σ G Qd Q en w post => by
  simp only [wpE] at w
  refine ha _ _ _ _ _ _ _ en w fun x vx B1 H1 e1 rx w1 => ?_
  cases x with
  | int i => exact ⟨i, rx.int_inv, post _ _ _ _ e1 (.int _) w1⟩
  | _ => exact w1.elim
theorem ok_chain {o p : CO} (ha : TEok K F ta a) (hb : TEok K F tb b) (hc : TEok K F tc c) (hr : ROk2 K r (cop o)) (hr' : ROk2 K r' (cop p)) : TEok K F (tChain r r' ta tb tc) (.chain o p a b c) := fun Bg M H σ G Qd Q en w post => by
  simp only [wpE] at w
  refine ha _ _ _ _ _ _ _ en w fun x vx B1 H1 e1 rx w1 => ?_
  refine hb _ _ _ _ _ _ _ (en.ext e1) w1 fun y vy B2 H2 e2 ry w2 => ?_
  refine hr _ _ _ _ _ _ _ _ _ e2.bags (md_ext (md_ext en.md e1) e2) (rx.ext e2 fun a m => .inl m) ry w2 fun z vz B3 H3 e3 rz w3 => ?_
  obtain ⟨q, rfl, w3⟩ := dtru_inv w3
  refine ⟨q, rz.bl_inv, ?_⟩
  cases q with
  | true =>
    simp only [if_true] at w3 ⊢
    refine hc _ _ _ _ _ _ _ (((en.ext e1).ext e2).ext e3) w3 fun u vu B4 H4 e4 ru w4 => ?_
    exact hr' _ _ _ _ _ _ _ _ _ e4.bags (md_ext (md_ext (md_ext (md_ext en.md e1) e2) e3) e4) (ry.ext (e3.trans e4) fun a m => .inl m) ru w4 (post.ext (((e1.trans e2).trans e3).trans e4))
  | false =>
    simp only [Bool.false_eq_true, if_false] at w3 ⊢
    exact post _ _ _ _ ((e1.trans e2).trans e3) (.bl _) w3
theorem ok_andv (ha : TEok K F ta a) (hb : TEok K F tb b) : TEok K F (tAndV ta tb) (.andv a b) := fun Bg M H σ G Qd Q en w post => by
  simp only [wpE] at w
  refine ha _ _ _ _ _ _ _ en w fun x vx B1 H1 e1 rx w1 => ?_
  obtain ⟨q, rfl, w1⟩ := dtru_inv w1
  refine ⟨q, rx.bl_inv, ?_⟩
  cases q with
  | true =>
    simp only [if_true] at w1 ⊢
    exact hb _ _ _ _ _ _ _ (en.ext e1) w1 (post.ext e1)
  | false =>
    simp only [Bool.false_eq_true, if_false] at w1 ⊢
    exact post _ _ _ _ e1 (.bl _) w1
theorem ok_orv (ha : TEok K F ta a) (hb : TEok K F tb b) : TEok K F (tOrV ta tb) (.orv a b) := fun Bg M H σ G Qd Q en w post => by
  simp only [wpE] at w
  refine ha _ _ _ _ _ _ _ en w fun x vx B1 H1 e1 rx w1 => ?_
  obtain ⟨q, rfl, w1⟩ := dtru_inv w1
  refine ⟨q, rx.bl_inv, ?_⟩
  cases q with
  | true =>
    simp only [if_true] at w1 ⊢
    exact post _ _ _ _ e1 (.bl _) w1
  | false =>
    simp only [Bool.false_eq_true, if_false] at w1 ⊢
    exact hb _ _ _ _ _ _ _ (en.ext e1) w1 (post.ext e1)
theorem ok_notv (ha : TEok K F ta a) : TEok K F (tNotV ta) (.notv a) := fun Bg M H σ G Qd Q en w post => by
  simp only [wpE] at w
  refine ha _ _ _ _ _ _ _ en w fun x vx B1 H1 e1 rx w1 => ?_
  obtain ⟨q, rfl, w1⟩ := dtru_inv w1
  exact ⟨q, rx.bl_inv, post _ _ _ _ e1 (.bl _) w1⟩
theorem ok_ite {tt : TT} {t : E} (ht : TTok K F tt t) (ha : TEok K F ta a) (hb : TEok K F tb b) : TEok K F (tIf tt ta tb) (.ite t a b) := fun Bg M H σ G Qd Q en w post => by
  simp only [wpE] at w
  refine ht _ _ _ _ _ _ _ en w fun q B1 H1 e1 w1 => ?_
  cases q with
  | true =>
    simp only [if_true] at w1 ⊢
    exact ha _ _ _ _ _ _ _ (en.ext e1) w1 (post.ext e1)
  | false =>
    simp only [Bool.false_eq_true, if_false] at w1 ⊢
    exact hb _ _ _ _ _ _ _ (en.ext e1) w1 (post.ext e1)
theorem ok_nil : TAok K F tNil [] := fun Bg M H σ G Qd Q en w post => by
  simp only [wpEs] at w
  exact post _ _ _ _ (Ext.refl en.bags) .nil rfl w
theorem ok_cons {tr : TA} {es : List E} (ha : TEok K F ta a) (hr : TAok K F tr es) : TAok K F (tCons ta tr) (a :: es) := fun Bg M H σ G Qd Q en w post => by
  simp only [wpEs] at w
  refine ha _ _ _ _ _ _ _ en w fun x vx B1 H1 e1 rx w1 => ?_
  refine hr _ _ _ _ _ _ _ (en.ext e1) w1 fun ds vs B2 H2 e2 rl hl w2 => ?_
  exact post _ _ _ _ (e1.trans e2) (.cons (rx.ext e2 fun a m => .inl m) rl) (by rw [List.length_cons, List.length_cons, hl]) w2
theorem size1000 {n : Nat} (h : n ≤ 1000) : n ≤ sizeLine := Nat.le_trans h (by decide)
theorem ok_tup {t : TA} {es : List E} (h : TAok K F t es) (hl : es.length ≤ 1000) : TEok K F (tTup t) (.tup es) := fun Bg M H σ G Qd Q en w post => by
  simp only [wpE] at w
  refine h _ _ _ _ _ _ _ en w fun ds vs B1 H1 e1 rl hn w1 => ⟨size1000 (by rw [rl.len, hn]; exact hl), fun p hp => ?_⟩
  exact new_tup e1.bags (md_ext en.md e1) rl w1 (post.ext e1) hp
theorem ok_lst {t : TA} {es : List E} (h : TAok K F t es) (hl : es.length ≤ 1000) : TEok K F (tLst t) (.lst es) := fun Bg M H σ G Qd Q en w post => by
  simp only [wpE] at w
  refine h _ _ _ _ _ _ _ en w fun ds vs B1 H1 e1 rl hn w1 => ⟨size1000 (by rw [rl.len, hn]; exact hl), fun p hp => ?_⟩
  exact new_lst e1.bags (md_ext en.md e1) rl w1 (post.ext e1) hp
theorem ok_mkbag (ha : TEok K F ta a) (hb : TEok K F tb b) : TEok K F (tLst (tCons ta (tCons tb tNil))) (.mkbag a b) := fun Bg M H σ G Qd Q en w post => by
  simp only [wpE] at w
  refine ha _ _ _ _ _ _ _ en w fun x vx B1 H1 e1 rx w1 => ?_
  refine hb _ _ _ _ _ _ _ (en.ext e1) w1 fun y vy B2 H2 e2 ry w2 => ?_
  cases x with
  | int i =>
    cases y with
    | int j =>
      obtain ⟨⟨hi, hj, hj2⟩, w2⟩ := w2
      refine ⟨size1000 (by show 2 ≤ 1000; decide), fun p hp => ?_⟩
      rw [rx.int_inv, ry.int_inv]
      obtain ⟨n1, n2⟩ := fresh_md e2.bags (md_ext (md_ext en.md e1) e2) hp
      refine post _ _ (fun q => B2 q ∨ q = p) _ ((e1.trans e2).trans ⟨fun q h => .inl h, fun q h n => ?_, fun q o n h => ?_, fun q h => ?_⟩) (.bag (.inr rfl)) w2
      · rcases h with h | h
        · exact absurd h n
        · rw [h]; exact hp
      · rw [upd_ne (ne_of_none h hp)]
        exact h
      · rcases h with h | h
        · obtain ⟨L, M', e, r⟩ := e2.bags q h
          exact ⟨L, M', by rw [upd_ne (ne_of_none e hp)]; exact e, r⟩
        · exact ⟨i, j, by rw [h]; exact upd_same, hi, hj, hj2⟩
    | _ => exact w2.elim
  | _ => exact w2.elim
theorem ok_call {t : TA} {es : List E} {f n : Nat} {cn : DC} (h : TAok K F t es) (hf : F[f]? = some cn) (hn : ∀ ds Q, cn ds Q → ds.length = n) : TEok K F (tCB (fun vs H Q => SpD K n cn vs H Q E0) t) (.call f es) := fun Bg M H σ G Qd Q en w post => by
  simp only [wpE, hf] at w
  refine h _ _ _ _ _ _ _ en w fun ds vs B1 H1 e1 rl hl w1 => ?_
  exact ⟨B1, M, ds, Qd, e1.bags, md_ext en.md e1, rl, hn _ _ w1, w1, post.ext e1⟩
theorem ok_bi {t : TA} {es : List E} {f : Bi} {rc : List V → Hp → VK → Prop} (h : TAok K F t es) (hr : ROkC K rc (biop f)) : TEok K F (tCB rc t) (.bi f es) := fun Bg M H σ G Qd Q en w post => by
  simp only [wpE] at w
  exact h _ _ _ _ _ _ _ en w fun ds vs B1 H1 e1 rl hl w1 => hr _ _ _ _ _ _ _ e1.bags (md_ext en.md e1) rl w1 (post.ext e1)
/-- a value as a test -/
theorem ok_test (ha : TEok K F ta a) : TTok K F (tB ta) a := fun Bg M H σ G Qb Q en w post => by
  refine ha _ _ _ _ _ _ _ en w fun x vx B1 H1 e1 rx w1 => ?_
  obtain ⟨q, rfl, w1⟩ := dtru_inv w1
  exact ⟨q, rx.bl_inv, post _ _ _ e1 w1⟩
theorem ok_testR (ha : TEok K F ta a) : TTok K F (tTest ta) a := fun Bg M H σ G Qb Q en w post => by
  refine ha _ _ _ _ _ _ _ en w fun x vx B1 H1 e1 rx w1 => ?_
  obtain ⟨q, rfl, w1⟩ := dtru_inv w1
  exact ⟨q, rx.bl_inv, post _ _ _ e1 w1⟩
theorem ok_tand {t u : TT} (ha : TTok K F t a) (hb : TTok K F u b) : TTok K F (tAnd t u) (.andv a b) := fun Bg M H σ G Qb Q en w post => by
  simp only [wpE] at w
  refine ha _ _ _ _ _ _ _ en w fun q B1 H1 e1 w1 => ?_
  cases q with
  | true =>
    simp only [if_true] at w1 ⊢
    exact hb _ _ _ _ _ _ _ (en.ext e1) w1 fun q B2 H2 e2 w2 => post _ _ _ (e1.trans e2) w2
  | false =>
    simp only [Bool.false_eq_true, if_false] at w1 ⊢
    exact post _ _ _ e1 w1
theorem ok_tor {t u : TT} (ha : TTok K F t a) (hb : TTok K F u b) : TTok K F (tOr t u) (.orv a b) := fun Bg M H σ G Qb Q en w post => by
  simp only [wpE] at w
  refine ha _ _ _ _ _ _ _ en w fun q B1 H1 e1 w1 => ?_
  cases q with
  | true =>
    simp only [if_true] at w1 ⊢
    exact post _ _ _ e1 w1
  | false =>
    simp only [Bool.false_eq_true, if_false] at w1 ⊢
    exact hb _ _ _ _ _ _ _ (en.ext e1) w1 fun q B2 H2 e2 w2 => post _ _ _ (e1.trans e2) w2
theorem ok_tnot {t : TT} (ha : TTok K F t a) : TTok K F (tNot t) (.notv a) := fun Bg M H σ G Qb Q en w post => by
  simp only [wpE] at w
  exact ha _ _ _ _ _ _ _ en w fun q B1 H1 e1 w1 => post _ _ _ e1 w1
end
/-! ### operators by values -/
section
variable {K : PySem.W.Frag}
def rAddA : R2 := fun x y H Q => rI0 (fun i j => .int (i + j)) x y H Q ∨ rCat x y H Q
def CDivA (_ j : Int) : Prop := j ≠ 0 ∧ j.natAbs.log2 < 9000
def rMulA : R2 := fun x y H Q => rI CMulW (fun i j => .int (i * j)) x y H Q ∨ rRep x y H Q
def rOf : BO → R2
  | .add => rAddA
  | .sub => rI0 fun i j => .int (i - j)
  | .mul => rMulA
  | .fdiv => rI CDivA fun i j => .int (i.fdiv j)
  | .mod => rI (fun _ j => j ≠ 0) fun i j => .int (i.fmod j)
  | .pow => rI CPow fun i j => .int (i ^ j.toNat)
theorem op_fdivA {X : Cx} : OpR X (binaryOp .FloorDiv) (rI CDivA fun i j => .int (i.fdiv j)) := opI fun _ _ _ _ _ _ _ hc q => floordiv_int hc.1 q (.inl (PyProof.noPylong_of_log2 hc.2))
theorem opr_of (X : Cx) : ∀ o : BO, OpR X (binaryOp (boOf o)) (rOf o)
  | .add => OpR.or op_add op_cat
  | .sub => op_sub
  | .mul => OpR.or op_mulW op_rep
  | .fdiv => op_fdivA
  | .mod => op_modN
  | .pow => op_pow
theorem rok_of : ∀ o : BO, ROk2 K (rOf o) (bop o)
  | .add => fun Bg M H x y dx dy Qd Q bg md rx ry g post => by
    cases dx <;> cases dy <;> simp only [bop] at g
    · exact .inl ⟨_, _, rx.int_inv, ry.int_inv, post_here bg post (.int _) g⟩
    · obtain ⟨a, vs, rfl, ha, _, _, ra⟩ := rx.lst_inv
      obtain ⟨b, ws, rfl, hb, _, _, rb⟩ := ry.lst_inv
      exact .inr ⟨a, b, vs, ws, rfl, rfl, ha, hb, by rw [ra.len, rb.len]; exact g.1, fun p hp => new_lst bg md (ra.append rb) g.2 post hp⟩
  | .sub => fun Bg M H x y dx dy Qd Q bg md rx ry g post => by
    cases dx <;> cases dy <;> simp only [bop] at g
    exact ⟨_, _, rx.int_inv, ry.int_inv, post_here bg post (.int _) g⟩
  | .mul => fun Bg M H x y dx dy Qd Q bg md rx ry g post => by
    cases dx <;> cases dy <;> simp only [bop] at g
    · exact .inl ⟨_, _, rx.int_inv, ry.int_inv, g.1, post_here bg post (.int _) g.2⟩
    · rename_i xs k
      obtain ⟨a, vs, rfl, ha, _, _, ra⟩ := rx.lst_inv
      obtain ⟨⟨g1, g2, g3⟩, g4⟩ := g
      refine .inr ⟨a, k, vs, rfl, ry.int_inv, ha, by omega, by omega, ?_, fun p hp => new_lst bg md ?_ g4 post hp⟩
      · rw [ra.len]
        have h1 : k.toNat ≤ 1000 := by omega
        exact Nat.le_trans (Nat.mul_le_mul g3 h1) (by decide)
      · have all : ∀ n : Nat, RepL K Bg M H (List.replicate n vs).flatten (List.replicate n xs).flatten := fun n => by
          induction n with
          | zero => exact .nil
          | succ n ih =>
            rw [List.replicate_succ, List.replicate_succ, List.flatten_cons, List.flatten_cons]
            exact ra.append ih
        exact all _
  | .fdiv => fun Bg M H x y dx dy Qd Q bg md rx ry g post => by
    cases dx <;> cases dy <;> simp only [bop] at g
    exact ⟨_, _, rx.int_inv, ry.int_inv, g.1, post_here bg post (.int _) g.2⟩
  | .mod => fun Bg M H x y dx dy Qd Q bg md rx ry g post => by
    cases dx <;> cases dy <;> simp only [bop] at g
    exact ⟨_, _, rx.int_inv, ry.int_inv, g.1, post_here bg post (.int _) g.2⟩
  | .pow => fun Bg M H x y dx dy Qd Q bg md rx ry g post => by
    cases dx <;> cases dy <;> simp only [bop] at g
    exact ⟨_, _, rx.int_inv, ry.int_inv, g.1, post_here bg post (.int _) g.2⟩
def rEqA (K : PySem.W.Frag) : R2 := fun x y H Q => rEq x y H Q ∨ rEqD K x y H Q
def rNeA (K : PySem.W.Frag) : R2 := fun x y H Q => rNe x y H Q ∨ rNeD K x y H Q
def rFalse : R2 := fun _ _ _ _ => False
def rCo (K : PySem.W.Frag) : CO → R2
  | .eq => rEqA K
  | .ne => rNeA K
  | .lt => rI0 fun i j => .bl (decide (i < j))
  | .le => rI0 fun i j => .bl (decide (i ≤ j))
  | .gt => rI0 fun i j => .bl (decide (j < i))
  | .ge => rI0 fun i j => .bl (decide (j ≤ i))
  | .isn => fun x y H Q => y = .non ∧ Q (.bl (decide (x = .non))) H
  | .isnot => fun x y H Q => y = .non ∧ Q (.bl (!decide (x = .non))) H
  | .inn => rFalse
  | .notin => rFalse
theorem opc_of (X : Cx) (hu : X.A.units + 64 < cLine) : ∀ o : CO, OpR X (compareOp (coOf o)) (rCo X.K o)
  | .eq => OpR.or op_eq (op_eqD hu)
  | .ne => OpR.or op_ne (op_neD hu)
  | .lt => op_lt
  | .le => op_le
  | .gt => op_gt
  | .ge => op_ge
  | .isn => op_isN
  | .isnot => op_notN
  | .inn => fun _ _ _ _ _ _ _ _ _ _ _ _ h => False.elim h
  | .notin => fun _ _ _ _ _ _ _ _ _ _ _ _ h => False.elim h
theorem dec_int {i j : Int} : decide (V.int i = V.int j) = decide (i = j) := by simp
theorem dec_str {i j : Str} : decide (V.str i = V.str j) = decide (i = j) := by simp
theorem eq_gen {Bg M : AP} {H : Hp} {x y : V} {dx dy : D} {Qd : D → Prop} {Q : VK} (bg : BagsOk Bg H) (rx : Rep K Bg M H x dx) (ry : Rep K Bg M H y dy) (g : (eqOk dx ∧ eqOk dy) ∧ Qd (.bl (PyData.eqv dx.py dy.py))) (post : Post K Bg M H Qd Q) : rEqA K x y H Q :=
  .inr ⟨dx.py, dy.py, rx.dp g.1.1.1, ry.dp g.1.2.1, g.1.1.2, g.1.2.2, post_here bg post (.bl _) g.2⟩
theorem ne_gen {Bg M : AP} {H : Hp} {x y : V} {dx dy : D} {Qd : D → Prop} {Q : VK} (bg : BagsOk Bg H) (rx : Rep K Bg M H x dx) (ry : Rep K Bg M H y dy) (g : (eqOk dx ∧ eqOk dy) ∧ Qd (.bl (!PyData.eqv dx.py dy.py))) (post : Post K Bg M H Qd Q) : rNeA K x y H Q :=
  .inr ⟨dx.py, dy.py, rx.dp g.1.1.1, ry.dp g.1.2.1, g.1.1.2, g.1.2.2, post_here bg post (.bl _) g.2⟩
theorem isn_dec {Bg M : AP} {H : Hp} {x : V} {d : D} (r : Rep K Bg M H x d) (h : d ≠ .non) : decide (x = .non) = false := by
  cases r <;> first | exact absurd rfl h | rfl
theorem roc_of : ∀ o : CO, ROk2 K (rCo K o) (cop o)
  | .eq => fun Bg M H x y dx dy Qd Q bg md rx ry g post => by
    cases dx <;> cases dy <;> first
      | exact eq_gen bg rx ry g post
      | exact .inl ⟨by rw [rx.int_inv, ry.int_inv]; rfl, by rw [rx.int_inv, ry.int_inv, dec_int]; exact post_here bg post (.bl _) g⟩
      | exact .inl ⟨by rw [rx.str_inv, ry.str_inv]; rfl, by rw [rx.str_inv, ry.str_inv, dec_str]; exact post_here bg post (.bl _) g⟩
  | .ne => fun Bg M H x y dx dy Qd Q bg md rx ry g post => by
    cases dx <;> cases dy <;> first
      | exact ne_gen bg rx ry g post
      | exact .inl ⟨by rw [rx.int_inv, ry.int_inv]; rfl, by rw [rx.int_inv, ry.int_inv, dec_int]; exact post_here bg post (.bl _) g⟩
      | exact .inl ⟨by rw [rx.str_inv, ry.str_inv]; rfl, by rw [rx.str_inv, ry.str_inv, dec_str]; exact post_here bg post (.bl _) g⟩
  | .lt => fun Bg M H x y dx dy Qd Q bg md rx ry g post => by
    cases dx <;> cases dy <;> first | exact False.elim g | exact ⟨_, _, rx.int_inv, ry.int_inv, post_here bg post (.bl _) g⟩
  | .le => fun Bg M H x y dx dy Qd Q bg md rx ry g post => by
    cases dx <;> cases dy <;> first | exact False.elim g | exact ⟨_, _, rx.int_inv, ry.int_inv, post_here bg post (.bl _) g⟩
  | .gt => fun Bg M H x y dx dy Qd Q bg md rx ry g post => by
    cases dx <;> cases dy <;> first | exact False.elim g | exact ⟨_, _, rx.int_inv, ry.int_inv, post_here bg post (.bl _) g⟩
  | .ge => fun Bg M H x y dx dy Qd Q bg md rx ry g post => by
    cases dx <;> cases dy <;> first | exact False.elim g | exact ⟨_, _, rx.int_inv, ry.int_inv, post_here bg post (.bl _) g⟩
  | .isn => fun Bg M H x y dx dy Qd Q bg md rx ry g post => by
    cases dy <;> cases dx <;> first
      | exact False.elim g
      | exact ⟨ry.non_inv, by rw [isn_dec rx (fun z => by cases z)]; exact post_here bg post (.bl _) g⟩
      | exact ⟨ry.non_inv, by rw [rx.non_inv]; exact post_here bg post (.bl _) g⟩
  | .isnot => fun Bg M H x y dx dy Qd Q bg md rx ry g post => by
    cases dy <;> cases dx <;> first
      | exact False.elim g
      | exact ⟨ry.non_inv, by rw [isn_dec rx (fun z => by cases z)]; exact post_here bg post (.bl _) g⟩
      | exact ⟨ry.non_inv, by rw [rx.non_inv]; exact post_here bg post (.bl _) g⟩
  | .inn => fun Bg M H x y dx dy Qd Q bg md rx ry g post => by
    cases dx <;> cases dy <;> exact False.elim g
  | .notin => fun Bg M H x y dx dy Qd Q bg md rx ry g post => by
    cases dx <;> cases dy <;> exact False.elim g
end
end OC
set_option Elab.async false
set_option linter.all false
set_option maxRecDepth 100000
set_option maxHeartbeats 4000000
/-! Onecut: places, built-ins, slices, comprehensions. -/
namespace OC
open PySem PySem.Spec PyProof.Rows L2
section
variable {K : PySem.W.Frag} {F : List DC} {ta tb tc : TE} {a b c : E} {r r' : R2}
theorem RepL.at' {Bg M : AP} {H : Hp} {vs : List V} {ds : List D} {i : Int} {d : D} (r : RepL K Bg M H vs ds) (h : atI ds i = some d) : ∃ v, atI vs i = some v ∧ Rep K Bg M H v d := by
  unfold atI at h ⊢
  rw [r.len]
  cases q : ixN ds.length i with
  | none => rw [q] at h; cases h
  | some j =>
    rw [q] at h
    obtain ⟨v, h1, h2⟩ := r.get (i := j) (d := d) h
    exact ⟨v, h1, h2⟩
theorem at_map {ns : List Int} {i n : Int} (h : atI ns i = some n) : atI (ns.map V.int) i = some (.int n) := by
  unfold atI at h ⊢
  rw [List.length_map]
  cases q : ixN ns.length i with
  | none => rw [q] at h; cases h
  | some j =>
    rw [q] at h
    have h : ns[j]? = some n := h
    show (ns.map V.int)[j]? = some (.int n)
    rw [List.getElem?_map, h]
    rfl
theorem rok_ix : ROk2 K (rIx K) ixop := fun Bg M H x y dx dy Qd Q bg md rx ry g post => by
  cases dx <;> cases dy <;> first
    | exact False.elim g
    | skip
  · simp only [ixop] at g
    split at g
    · rename_i d hd
      obtain ⟨p, vs, rfl, hs, rl⟩ := rx.tup_inv
      obtain ⟨v, h1, h2⟩ := rl.at' hd
      exact .inr (.inl ⟨p, vs, _, v, rfl, ry.int_inv, hs, h1, post_here bg post h2 g⟩)
    · exact g.elim
  · simp only [ixop] at g
    split at g
    · rename_i d hd
      obtain ⟨p, vs, rfl, hs, _, _, rl⟩ := rx.lst_inv
      obtain ⟨v, h1, h2⟩ := rl.at' hd
      exact .inl ⟨p, vs, _, v, rfl, ry.int_inv, .inl (.inl hs), h1, post_here bg post h2 g⟩
    · exact g.elim
  · simp only [ixop] at g
    split at g
    · rename_i d hd
      obtain ⟨p, rfl, hs⟩ := rx.scr_inv
      exact .inl ⟨p, _, _, .int d, rfl, ry.int_inv, hs, at_map hd, post_here bg post (.int _) g⟩
    · exact g.elim
theorem ok_ixn {n : Nat} (ha : TEok K F ta a) : TEok K F (tOp (rIx K) ta (tC (.int (n : Int)))) (.ixn a n) := fun Bg M H σ G Qd Q en w post => by
  simp only [wpE] at w
  refine ha _ _ _ _ _ _ _ en w fun x vx B1 H1 e1 rx w1 => ?_
  have post := post.ext e1
  show rIx K vx (.int (n : Int)) H1 Q
  cases x <;> first
    | exact False.elim w1
    | skip
  · simp only [ixnop] at w1
    split at w1
    · rename_i d hd
      obtain ⟨p, vs, rfl, hs, rl⟩ := rx.tup_inv
      obtain ⟨v, h1, h2⟩ := rl.get hd
      exact .inr (.inl ⟨p, vs, _, v, rfl, rfl, hs, atI_nat h1, post_here e1.bags post h2 w1⟩)
    · exact w1.elim
  · simp only [ixnop] at w1
    split at w1
    · rename_i d hd
      obtain ⟨p, vs, rfl, hs, _, _, rl⟩ := rx.lst_inv
      obtain ⟨v, h1, h2⟩ := rl.get hd
      exact .inl ⟨p, vs, _, v, rfl, rfl, .inl (.inl hs), atI_nat h1, post_here e1.bags post h2 w1⟩
    · exact w1.elim
  · obtain ⟨p, rfl, hb⟩ := rx.bag_inv
    obtain ⟨L, M', hl, h1, h2, h3⟩ := e1.bags p hb
    match n, w1 with
    | 0, w1 => exact .inl ⟨p, _, _, .int L, rfl, rfl, .inl (.inl hl), rfl, post_here e1.bags post (.int _) (w1 L h1)⟩
    | 1, w1 => exact .inl ⟨p, _, _, .int M', rfl, rfl, .inl (.inl hl), rfl, post_here e1.bags post (.int _) (w1 M' h2 h3)⟩
    | _ + 2, w1 => exact w1.elim
/-! ### built-ins -/
def rBi (K : PySem.W.Frag) : Bi → List V → Hp → VK → Prop
  | .len => fun xs H Q => ∃ x n, xs = [x] ∧ LenV K x H n ∧ Q (.int n) H
  | .abs => fun xs H Q => ∃ i, xs = [.int i] ∧ Q (.int (if i < 0 then -i else i)) H
  | .max => fun xs H Q => (∃ i j, xs = [.int i, .int j] ∧ Q (.int (if j > i then j else i)) H) ∨ rNuC3 nuMax3 xs H Q
  | .min => fun xs H Q => ∃ i j, xs = [.int i, .int j] ∧ Q (.int (if j < i then j else i)) H
  | .sum => rSum K
  | .all => rAll K
  | .any => rAny K
  | .repr => fun xs H Q => ∃ x d, xs = [x] ∧ Dp K H x d ∧ d.showable = true ∧ d.shown.length ≤ sizeLine ∧ d.depth ≤ 60 ∧ d.hasDict = false ∧ Q (.str d.shown) H
  | .divmod => fun xs H Q => ∃ i j, xs = [.int i, .int j] ∧ CDivP i j ∧ ∀ p, H p = none → Q (.ref p) (L2.upd H p (.tup [.int (i / j), .int (i % j)]))
  | .int => fun xs H Q => (∃ i, xs = [.int i] ∧ Q (.int i) H) ∨ ∃ k, xs = [.bl k] ∧ Q (.int (if k then 1 else 0)) H
  | _ => fun _ _ _ => False
theorem ints_ok : ∀ {ds : List D} {ns : List Int}, intsOf ds = some ns → ds = ns.map D.int
  | [], ns, h => by cases h; rfl
  | d :: ds, ns, h => by
    cases d with
    | int i =>
      simp only [intsOf, Option.map_eq_some_iff] at h
      obtain ⟨ms, h1, rfl⟩ := h
      rw [ints_ok h1]
      rfl
    | _ => simp [intsOf] at h
theorem bls_ok : ∀ {ds : List D} {ns : List Bool}, blsOf ds = some ns → ds = ns.map D.bl
  | [], ns, h => by cases h; rfl
  | d :: ds, ns, h => by
    cases d with
    | bl i =>
      simp only [blsOf, Option.map_eq_some_iff] at h
      obtain ⟨ms, h1, rfl⟩ := h
      rw [bls_ok h1]
      rfl
    | _ => simp [blsOf] at h
mutual
theorem py_nodict : ∀ d : D, d.py.hasDict = false
  | .non => rfl
  | .bl _ => rfl
  | .int _ => rfl
  | .str _ => rfl
  | .tup xs => pyL_nodict xs
  | .lst xs => pyL_nodict xs
  | .scr _ => rfl
  | .bag => rfl
  | .ob _ => rfl
theorem pyL_nodict : ∀ ds : List D, PyData.hasDictAll (pyL ds) = false
  | [] => rfl
  | d :: ds => by
    show (d.py.hasDict || PyData.hasDictAll (pyL ds)) = false
    rw [py_nodict d, pyL_nodict ds]
    rfl
end
theorem one_inv {Bg M : AP} {H : Hp} {vs : List V} {d : D} (r : RepL K Bg M H vs [d]) : ∃ v, vs = [v] ∧ Rep K Bg M H v d := by
  cases r with
  | cons h t =>
    cases t
    exact ⟨_, rfl, h⟩
theorem two_inv {Bg M : AP} {H : Hp} {vs : List V} {d e : D} (r : RepL K Bg M H vs [d, e]) : ∃ v w, vs = [v, w] ∧ Rep K Bg M H v d ∧ Rep K Bg M H w e := by
  cases r with
  | cons h t =>
    obtain ⟨w, rfl, h2⟩ := one_inv t
    exact ⟨_, _, rfl, h, h2⟩
theorem max2_int (i j : Int) : nuMax2 (.int i) (.int j) = some (.int (if j > i then j else i)) := by
  show (some (decide (i < j))).map (fun c => if c = true then V.int j else V.int i) = _
  by_cases h : i < j
  · rw [decide_eq_true h, if_pos h]
    rfl
  · rw [decide_eq_false h, if_neg h]
    rfl
theorem max3_int (i j k : Int) : nuMax3 (.int i) (.int j) (.int k) = some (.int (if k > (if j > i then j else i) then k else (if j > i then j else i))) := by
  unfold nuMax3
  rw [max2_int]
  exact max2_int _ _
theorem rok_bi (f : Bi) : ROkC K (rBi K f) (biop f) := fun Bg M H vs ds Qd Q bg md rl g post => by
  unfold biop at g
  split at g
  · obtain ⟨v, rfl, r⟩ := one_inv rl
    obtain ⟨p, ws, rfl, h, _, _, l⟩ := r.lst_inv
    exact ⟨_, _, rfl, .inl ⟨ws, .inl (.inl h), rfl⟩, by rw [l.len]; exact post_here bg post (.int _) g⟩
  · obtain ⟨v, rfl, r⟩ := one_inv rl
    obtain ⟨p, ws, rfl, h, l⟩ := r.tup_inv
    exact ⟨_, _, rfl, .inr ⟨ws, h, rfl⟩, by rw [l.len]; exact post_here bg post (.int _) g⟩
  · obtain ⟨v, rfl, r⟩ := one_inv rl
    obtain ⟨p, rfl, h⟩ := r.scr_inv
    exact ⟨_, _, rfl, .inl ⟨_, h, rfl⟩, by rw [List.length_map]; exact post_here bg post (.int _) g⟩
  · obtain ⟨v, rfl, r⟩ := one_inv rl
    rw [r.str_inv]
    exact ⟨_, _, rfl, ⟨g.1, rfl⟩, post_here bg post (.int _) g.2⟩
  · obtain ⟨v, rfl, r⟩ := one_inv rl
    exact ⟨_, by rw [r.int_inv], post_here bg post (.int _) g⟩
  · obtain ⟨v, w, rfl, r, r2⟩ := two_inv rl
    exact .inl ⟨_, _, by rw [r.int_inv, r2.int_inv], post_here bg post (.int _) g⟩
  · obtain ⟨v, w, rfl, r, r2⟩ := two_inv rl
    exact ⟨_, _, by rw [r.int_inv, r2.int_inv], post_here bg post (.int _) g⟩
  · cases rl with
    | cons r t =>
      obtain ⟨w, u, rfl, r2, r3⟩ := two_inv t
      rw [r.int_inv, r2.int_inv, r3.int_inv]
      exact .inr ⟨_, _, _, _, rfl, max3_int _ _ _, post_here bg post (.int _) g⟩
  · obtain ⟨v, rfl, r⟩ := one_inv rl
    split at g
    · rename_i ns hn
      obtain ⟨p, ws, rfl, h, _, _, l⟩ := r.lst_inv
      rw [ints_ok hn] at l
      exact ⟨p, ns, rfl, .inl (.inl (by rw [← l.ints_inv]; exact h)), post_here bg post (.int _) g⟩
    · exact g.elim
  · obtain ⟨v, rfl, r⟩ := one_inv rl
    split at g
    · rename_i ns hn
      obtain ⟨p, ws, rfl, h, _, _, l⟩ := r.lst_inv
      rw [bls_ok hn] at l
      exact ⟨p, ns, rfl, .inl (.inl (by rw [← l.bls_inv]; exact h)), post_here bg post (.bl _) g⟩
    · exact g.elim
  · obtain ⟨v, rfl, r⟩ := one_inv rl
    split at g
    · rename_i ns hn
      obtain ⟨p, ws, rfl, h, _, _, l⟩ := r.lst_inv
      rw [bls_ok hn] at l
      exact ⟨p, ns, rfl, .inl (.inl (by rw [← l.bls_inv]; exact h)), post_here bg post (.bl _) g⟩
    · exact g.elim
  · obtain ⟨v, rfl, r⟩ := one_inv rl
    exact ⟨v, _, rfl, r.dp g.1.1, g.1.2.1, g.1.2.2.1, g.1.2.2.2, py_nodict _, post_here bg post (.str _) g.2⟩
  · obtain ⟨v, w, rfl, r, r2⟩ := two_inv rl
    refine ⟨_, _, by rw [r.int_inv, r2.int_inv], ⟨g.1.1, PyProof.noPylong_of_log2 g.1.2⟩, fun p hp => new_tup bg md (.cons (.int _) (.cons (.int _) .nil)) g.2 post hp⟩
  · obtain ⟨v, rfl, r⟩ := one_inv rl
    exact .inl ⟨_, by rw [r.int_inv], post_here bg post (.int _) g⟩
  · obtain ⟨v, rfl, r⟩ := one_inv rl
    exact .inr ⟨_, by rw [r.bl_inv], post_here bg post (.int _) g⟩
  · exact g.elim
theorem call_reprD {X : Cx} (hg : X.A.guards = some []) (hu : X.A.units + 64 < cLine) : CallR X (.builtin "repr") (rBi X.K .repr) := by
  intro pins s σ H xs us Q I r h
  obtain ⟨x, d, rfl, hd, h1, h2, h3, h4, q⟩ := h
  obtain ⟨u, rfl, rx⟩ := vals1 r
  cases hd with
  | non =>
    cases (show u = Value.none from rx)
    exact PySem.P.repr_of_none ⟨.str _, H, I.tok _, ⟨_, rfl⟩, q⟩
  | bl b =>
    cases (show u = Value.bool b from rx)
    refine PySem.P.repr_of_bool ⟨.str _, H, I.tok _, ⟨_, rfl⟩, ?_⟩
    cases b <;> exact q
  | int i =>
    obtain ⟨t, rfl⟩ := rx
    exact PySem.P.repr_of_int (of_decide_eq_true h1) ⟨.str _, H, I.tok _, ⟨_, rfl⟩, q⟩
  | str x =>
    obtain ⟨t, rfl⟩ := rx
    exact PySem.P.repr_of_str ⟨.str _, H, I.tok _, ⟨_, rfl⟩, q⟩ h2
  | @lst a xs ds hs ha =>
    cases (show u = Value.ref a from rx)
    obtain ⟨as, rd⟩ := Dp.reads I _ _ _ (Dp.lst hs ha) rfl
    exact repr_of_reads' rd h1 (fun z => by rw [h4] at z; cases z) hg (by omega) (fun _ _ e => e) (fun h' u tk hk => ⟨.str _, H, I.kept (t' := tk) hk, ⟨_, rfl⟩, q⟩) h2
  | @tup a xs ds hs ha =>
    cases (show u = Value.ref a from rx)
    obtain ⟨as, rd⟩ := Dp.reads I _ _ _ (Dp.tup hs ha) rfl
    exact repr_of_reads' rd h1 (fun z => by rw [h4] at z; cases z) hg (by omega) (fun _ _ e => e) (fun h' u tk hk => ⟨.str _, H, I.kept (t' := tk) hk, ⟨_, rfl⟩, q⟩) h2
end
end OC
set_option Elab.async false
set_option linter.all false
set_option maxRecDepth 100000
set_option maxHeartbeats 4000000
/-! Onecut: kinds, slices, what is walked, comprehensions. -/
namespace OC
open PySem PySem.Spec PyProof.Rows L2
section
variable {K : PySem.W.Frag} {F : List DC} {ta tb tc : TE} {a b c : E}
/-! ### isinstance -/
def tyV' : D → String
  | .non => "NoneType"
  | .bl _ => "bool"
  | .int _ => "int"
  | .str _ => "str"
  | .tup _ => "tuple"
  | .lst _ => "list"
  | .scr _ => "list"
  | .bag => "list"
  | .ob _ => "list"
theorem Rep.ty {Bg M : AP} {H : Hp} {v : V} {d : D} (r : Rep K Bg M H v d) (p : d.pure = true) : TyX K H v (.type (tyV' d)) := by
  cases r with
  | non => exact .base .non
  | bl b => exact .base (.bl b)
  | int i => exact .base (.int i)
  | str s => exact .base (.str s)
  | tup h _ _ _ =>
    rcases h with h | ⟨o, h⟩
    · exact .base (.tup h)
    · exact .fTuple h
  | lit h _ =>
    obtain ⟨o, its, n, h1, h2, _⟩ := h
    exact .kTuple h1 h2
  | lst h _ _ _ => exact .base (.lst h)
  | scr _ _ _ => cases p
  | scrK _ => cases p
  | bag _ => cases p
  | ob _ => cases p
theorem kit_D : ∀ (t : Ty) (d : D), d.pure = true → kitB (tyV' d) (tyNm t) = some (isTy t d)
  | .int, .non, _ => (by decide +kernel : kitB "NoneType" "int" = some false)
  | .int, .bl _, _ => (by decide +kernel : kitB "bool" "int" = some true)
  | .int, .int _, _ => (by decide +kernel : kitB "int" "int" = some true)
  | .int, .str _, _ => (by decide +kernel : kitB "str" "int" = some false)
  | .int, .tup _, _ => (by decide +kernel : kitB "tuple" "int" = some false)
  | .int, .lst _, _ => (by decide +kernel : kitB "list" "int" = some false)
  | .bool, .non, _ => (by decide +kernel : kitB "NoneType" "bool" = some false)
  | .bool, .bl _, _ => (by decide +kernel : kitB "bool" "bool" = some true)
  | .bool, .int _, _ => (by decide +kernel : kitB "int" "bool" = some false)
  | .bool, .str _, _ => (by decide +kernel : kitB "str" "bool" = some false)
  | .bool, .tup _, _ => (by decide +kernel : kitB "tuple" "bool" = some false)
  | .bool, .lst _, _ => (by decide +kernel : kitB "list" "bool" = some false)
  | .tuple, .non, _ => (by decide +kernel : kitB "NoneType" "tuple" = some false)
  | .tuple, .bl _, _ => (by decide +kernel : kitB "bool" "tuple" = some false)
  | .tuple, .int _, _ => (by decide +kernel : kitB "int" "tuple" = some false)
  | .tuple, .str _, _ => (by decide +kernel : kitB "str" "tuple" = some false)
  | .tuple, .tup _, _ => (by decide +kernel : kitB "tuple" "tuple" = some true)
  | .tuple, .lst _, _ => (by decide +kernel : kitB "list" "tuple" = some false)
  | .list, .non, _ => (by decide +kernel : kitB "NoneType" "list" = some false)
  | .list, .bl _, _ => (by decide +kernel : kitB "bool" "list" = some false)
  | .list, .int _, _ => (by decide +kernel : kitB "int" "list" = some false)
  | .list, .str _, _ => (by decide +kernel : kitB "str" "list" = some false)
  | .list, .tup _, _ => (by decide +kernel : kitB "tuple" "list" = some false)
  | .list, .lst _, _ => (by decide +kernel : kitB "list" "list" = some true)
  | .str, .non, _ => (by decide +kernel : kitB "NoneType" "str" = some false)
  | .str, .bl _, _ => (by decide +kernel : kitB "bool" "str" = some false)
  | .str, .int _, _ => (by decide +kernel : kitB "int" "str" = some false)
  | .str, .str _, _ => (by decide +kernel : kitB "str" "str" = some true)
  | .str, .tup _, _ => (by decide +kernel : kitB "tuple" "str" = some false)
  | .str, .lst _, _ => (by decide +kernel : kitB "list" "str" = some false)
  | _, .scr _, p => by cases p
  | _, .bag, p => by cases p
theorem ok_isi {t : Ty} (ha : TEok K F ta a) : TEok K F (tCB (rIsi K) (tCons ta (tCons (tC (.ty (tyNm t))) tNil))) (.isi a t) := fun Bg M H σ G Qd Q en w post => by
  simp only [wpE] at w
  refine ha _ _ _ _ _ _ _ en w fun x vx B1 H1 e1 rx w1 => ?_
  exact ⟨vx, .ty (tyNm t), _, _, isTy t x, rfl, .ty _, rx.ty w1.1, kit_ty (kit_D t x w1.1), post _ _ _ _ e1 (.bl _) w1.2⟩
/-! ### slices -/
def TOok (K : PySem.W.Frag) (F : List DC) (t : TO) (es : List E) : Prop := ∀ (Bg M : AP) (H : Hp) (σ : L2.St) (G : List (Option D)) (Qd : Option Int → Prop) (Q : Option Int → Hp → Prop), EnvE K Bg M H σ G → wpEs F es G (fun l => withPart l Qd) →
  (∀ p Bg' H', Ext Bg H Bg' H' → Qd p → Q p H') → t σ H Q
theorem ok_part0 : TOok K F tNoPart [] := fun Bg M H σ G Qd Q en w post => by
  simp only [wpEs] at w
  exact post none _ _ (Ext.refl en.bags) w
theorem ok_part1 (ha : TEok K F ta a) : TOok K F (tPart ta) [a] := fun Bg M H σ G Qd Q en w post => by
  simp only [wpEs] at w
  refine ha _ _ _ _ _ _ _ en w fun x vx B1 H1 e1 rx w1 => ?_
  cases x with
  | int i => exact ⟨i, rx.int_inv, post _ _ _ e1 w1⟩
  | _ => exact False.elim w1
theorem RepL.drop {Bg M : AP} {H : Hp} : ∀ {vs : List V} {ds : List D} (n : Nat), RepL K Bg M H vs ds → RepL K Bg M H (vs.drop n) (ds.drop n)
  | _, _, 0, r => r
  | _, _, _ + 1, .nil => .nil
  | _, _, n + 1, .cons _ t => RepL.drop n t
theorem RepL.take {Bg M : AP} {H : Hp} : ∀ {vs : List V} {ds : List D} (n : Nat), RepL K Bg M H vs ds → RepL K Bg M H (vs.take n) (ds.take n)
  | _, _, 0, _ => .nil
  | _, _, _ + 1, .nil => .nil
  | _, _, n + 1, .cons r t => .cons r (RepL.take n t)
theorem RepL.cut {Bg M : AP} {H : Hp} {vs : List V} {ds : List D} (lo hi : Option Int) (r : RepL K Bg M H vs ds) : RepL K Bg M H (cutV vs lo hi) (cutD ds lo hi) := by
  unfold cutV cutD
  rw [r.len]
  exact (r.drop _).take _
theorem ok_slc {tl th : TO} {lo hi : List E} (ha : TEok K F ta a) (hl : TOok K F tl lo) (hh : TOok K F th hi) : TEok K F (tSl (rSlL K) ta tl th) (.slc a lo hi) := fun Bg M H σ G Qd Q en w post => by
  simp only [wpE] at w
  refine ha _ _ _ _ _ _ _ en w fun x vx B1 H1 e1 rx w1 => ?_
  refine hl _ _ _ _ _ _ _ (en.ext e1) w1 fun p B2 H2 e2 w2 => ?_
  refine hh _ _ _ _ _ _ _ ((en.ext e1).ext e2) w2 fun q B3 H3 e3 w3 => ?_
  cases x with
  | lst xs =>
    obtain ⟨ad, vs, rfl, h1, n1, n2, rl⟩ := (rx.ext (e2.trans e3) fun a m => .inl m).lst_inv
    exact ⟨ad, vs, rfl, .inl (.inl h1), fun p hp => new_lst e3.bags (md_ext (md_ext (md_ext en.md e1) e2) e3) (rl.cut _ _) w3 (post.ext ((e1.trans e2).trans e3)) hp⟩
  | _ => exact False.elim w3
/-! ### what is walked -/
structure Walks (K : PySem.W.Frag) (J : It) (gs : List (V × D)) (xs : List D) : Prop where
  step : ∀ (Bg M : AP) (H : Hp) (i : Nat) (d : D), BagsOk Bg H → (∀ a, M a → H a ≠ none ∧ ¬ Bg a) → (∀ p ∈ gs, Rep K Bg M H p.1 p.2) → xs[i]? = some d → J.go i H ∧ ∀ x H', J.yld i H x H' → Ext Bg H Bg H' ∧ Rep K Bg M H' x d
  stop : ∀ (Bg M : AP) (H : Hp), (∀ p ∈ gs, Rep K Bg M H p.1 p.2) → J.stop xs.length H
def TIok (K : PySem.W.Frag) (F : List DC) (t : TI) (k : IK) (es : List E) : Prop := ∀ (Bg M : AP) (H : Hp) (σ : L2.St) (G : List (Option D)) (Qd : List D → Prop) (R : It → Hp → Prop), EnvE K Bg M H σ G → wpEs F es G (fun ds => itemsOf k ds Qd) →
  (∀ xs J gs Bg' H', Ext Bg H Bg' H' → (∀ p ∈ gs, Rep K Bg' M H' p.1 p.2) → Walks K J gs xs → Qd xs → R J H') → t σ H R
theorem lt_of_get {xs : List D} {i : Nat} {d : D} (h : xs[i]? = some d) : i < xs.length := (List.getElem?_eq_some_iff.mp h).1
theorem ok_ilst (ha : TEok K F ta a) : TIok K F (iList K ta) .lst [a] := fun Bg M H σ G Qd R en w post => by
  simp only [wpEs] at w
  refine ha _ _ _ _ _ _ _ en w fun x vx B1 H1 e1 rx w1 => ?_
  cases x <;> first
    | exact False.elim w1
    | skip
  rename_i xs
  obtain ⟨p, vs, rfl, hp, n1, n2, rl⟩ := rx.lst_inv
  refine ⟨p, rfl, ⟨vs, .inl (.inl hp)⟩, post xs (Itl K p) [(.ref p, .lst xs)] _ _ e1 (fun q hq => by cases List.mem_singleton.mp hq; exact rx) ⟨fun Bg M H i d bg md hr hi => ?_, fun Bg M H hr => ?_⟩ w1⟩
  · obtain ⟨p', vs', e, hp', _, _, rl'⟩ := (hr _ (List.mem_singleton.mpr rfl)).lst_inv
    cases e
    obtain ⟨v, hv, rv⟩ := rl'.get hi
    refine ⟨⟨vs', v, .inl (.inl hp'), hv⟩, fun x H' hy => ?_⟩
    obtain ⟨rfl, hy⟩ := hy
    have := hy vs' (.inl (.inl hp'))
    rw [hv] at this
    cases this
    exact ⟨Ext.refl bg, rv⟩
  · obtain ⟨p', vs', e, hp', _, _, rl'⟩ := (hr _ (List.mem_singleton.mpr rfl)).lst_inv
    cases e
    exact ⟨vs', .inl (.inl hp'), by rw [rl'.len]; exact Nat.le_refl _⟩
theorem ok_itup (ha : TEok K F ta a) : TIok K F (iTup K ta) .tup [a] := fun Bg M H σ G Qd R en w post => by
  simp only [wpEs] at w
  refine ha _ _ _ _ _ _ _ en w fun x vx B1 H1 e1 rx w1 => ?_
  cases x <;> first
    | exact False.elim w1
    | skip
  rename_i xs
  obtain ⟨p, vs, rfl, hp, rl⟩ := rx.tup_inv
  refine ⟨p, rfl, ⟨vs, hp⟩, post xs (Itt K p) [(.ref p, .tup xs)] _ _ e1 (fun q hq => by cases List.mem_singleton.mp hq; exact rx) ⟨fun Bg M H i d bg md hr hi => ?_, fun Bg M H hr => ?_⟩ w1⟩
  · obtain ⟨p', vs', e, hp', rl'⟩ := (hr _ (List.mem_singleton.mpr rfl)).tup_inv
    cases e
    obtain ⟨v, hv, rv⟩ := rl'.get hi
    refine ⟨⟨vs', v, hp', hv⟩, fun x H' hy => ?_⟩
    obtain ⟨rfl, hy⟩ := hy
    have := hy vs' hp'
    rw [hv] at this
    cases this
    exact ⟨Ext.refl bg, rv⟩
  · obtain ⟨p', vs', e, hp', rl'⟩ := (hr _ (List.mem_singleton.mpr rfl)).tup_inv
    cases e
    exact ⟨vs', hp', by rw [rl'.len]; exact Nat.le_refl _⟩
theorem rng_get {n i : Nat} {lo : Int} {d : D} (h : ((List.range n).map fun i : Nat => D.int (lo + i))[i]? = some d) : i < n ∧ d = .int (lo + i) := by
  rw [List.getElem?_map] at h
  cases q : (List.range n)[i]? with
  | none => rw [q] at h; cases h
  | some j =>
    rw [q] at h
    have hi := (List.getElem?_eq_some_iff.mp q).1
    rw [List.length_range] at hi
    rw [List.getElem?_range hi] at q
    cases q
    cases h
    exact ⟨hi, rfl⟩
theorem walks_rng (lo : Int) (n : Nat) : Walks K (Itr lo n) [] ((List.range n).map fun i : Nat => D.int (lo + i)) :=
  ⟨fun Bg M H i d bg md hr hi => by
    obtain ⟨h1, rfl⟩ := rng_get hi
    refine ⟨h1, fun x H' hy => ?_⟩
    obtain ⟨rfl, rfl⟩ := hy
    exact ⟨Ext.refl bg, .int _⟩, fun Bg M H hr => by
    show n ≤ _
    rw [List.length_map, List.length_range]
    exact Nat.le_refl _⟩
theorem ok_irng1 (ha : TEok K F ta a) : TIok K F (iRng1 (tCons ta tNil)) .rng1 [a] := fun Bg M H σ G Qd R en w post => by
  simp only [wpEs] at w
  refine ha _ _ _ _ _ _ _ en w fun x vx B1 H1 e1 rx w1 => ?_
  cases x <;> first
    | exact False.elim w1
    | skip
  rename_i n
  obtain ⟨⟨h1, h2⟩, w1⟩ := w1
  have e : ((List.range n.toNat).map fun i : Nat => D.int ((0 : Int) + i)) = ((List.range n.toNat).map fun i : Nat => D.int i) := by
    congr 1
    funext i
    rw [Int.zero_add]
  have W := walks_rng (K := K) 0 n.toNat
  rw [e] at W
  exact ⟨n, by rw [rx.int_inv], h1, h2, post _ (Itr 0 n.toNat) [] _ _ e1 (fun q hq => nomatch hq) W w1⟩
theorem ok_irng2 (ha : TEok K F ta a) (hb : TEok K F tb b) : TIok K F (iRng2 (tCons ta (tCons tb tNil))) .rng2 [a, b] := fun Bg M H σ G Qd R en w post => by
  simp only [wpEs] at w
  refine ha _ _ _ _ _ _ _ en w fun x vx B1 H1 e1 rx w1 => ?_
  refine hb _ _ _ _ _ _ _ (en.ext e1) w1 fun y vy B2 H2 e2 ry w2 => ?_
  cases x <;> cases y <;> first
    | exact False.elim w2
    | skip
  rename_i lo n
  exact ⟨lo, n, by rw [rx.int_inv, ry.int_inv], w2.1, post _ (Itr lo (n - lo).toNat) [] _ _ (e1.trans e2) (fun q hq => nomatch hq) (walks_rng lo _) w2.2⟩
theorem ok_irev (ha : TEok K F ta a) : TIok K F (iRev K (tCons ta tNil)) .rev [a] := fun Bg M H σ G Qd R en w post => by
  simp only [wpEs] at w
  refine ha _ _ _ _ _ _ _ en w fun x vx B1 H1 e1 rx w1 => ?_
  cases x <;> first
    | exact False.elim w1
    | skip
  rename_i xs
  obtain ⟨p, vs, rfl, hp, n1, n2, rl⟩ := rx.lst_inv
  refine ⟨p, vs, rfl, .inl (.inl hp), post xs.reverse (Itv K p vs.length) [(.ref p, .lst xs)] _ _ e1 (fun q hq => by cases List.mem_singleton.mp hq; exact rx) ⟨fun Bg M H i d bg md hr hi => ?_, fun Bg M H hr => ?_⟩ w1⟩
  · obtain ⟨p', vs', e, hp', _, _, rl'⟩ := (hr _ (List.mem_singleton.mpr rfl)).lst_inv
    cases e
    have hlt : i < xs.length := by
      have := lt_of_get hi
      rwa [List.length_reverse] at this
    rw [List.getElem?_reverse hlt] at hi
    obtain ⟨v, hv, rv⟩ := rl'.get hi
    rw [rl.len]
    refine ⟨⟨hlt, vs', v, .inl (.inl hp'), hv⟩, fun x H' hy => ?_⟩
    obtain ⟨rfl, hy⟩ := hy
    have := hy vs' (.inl (.inl hp'))
    rw [hv] at this
    cases this
    exact ⟨Ext.refl bg, rv⟩
  · show vs.length ≤ _
    rw [List.length_reverse, rl.len]
    exact Nat.le_refl _
theorem ok_ienum (ha : TEok K F ta a) : TIok K F (iEnum K (tCons ta tNil)) .enum [a] := fun Bg M H σ G Qd R en w post => by
  simp only [wpEs] at w
  refine ha _ _ _ _ _ _ _ en w fun x vx B1 H1 e1 rx w1 => ?_
  cases x <;> first
    | exact False.elim w1
    | skip
  rename_i xs
  obtain ⟨p, vs, rfl, hp, n1, n2, rl⟩ := rx.lst_inv
  refine ⟨p, vs, rfl, .inl (.inl hp), post _ (Ite K p) [(.ref p, .lst xs)] _ _ e1 (fun q hq => by cases List.mem_singleton.mp hq; exact rx) ⟨fun Bg M H i d bg md hr hi => ?_, fun Bg M H hr => ?_⟩ w1⟩
  · obtain ⟨p', vs', e, hp', _, _, rl'⟩ := (hr _ (List.mem_singleton.mpr rfl)).lst_inv
    cases e
    rw [List.getElem?_map, List.getElem?_zipIdx] at hi
    cases q : xs[i]? with
    | none => rw [q] at hi; cases hi
    | some y =>
      rw [q] at hi
      cases hi
      obtain ⟨v, hv, rv⟩ := rl'.get q
      refine ⟨⟨vs', v, .inl (.inl hp'), hv⟩, fun x H' hy => ?_⟩
      obtain ⟨T, z, rfl, hT, rfl, hz⟩ := hy
      have := hz vs' (.inl (.inl hp'))
      rw [hv] at this
      cases this
      have ex := Ext.lay (o := .tup [.int (i : Nat), v]) bg hT
      obtain ⟨m1, m2⟩ := fresh_md bg md hT
      refine ⟨ex, .tup (.inl upd_same) m1 m2 (.cons ?_ (.cons (rv.ext ex fun a m => .inl m) .nil))⟩
      rw [Nat.zero_add]
      exact .int _
  · obtain ⟨p', vs', e, hp', _, _, rl'⟩ := (hr _ (List.mem_singleton.mpr rfl)).lst_inv
    cases e
    exact ⟨vs', .inl (.inl hp'), by rw [rl'.len, List.length_map, List.length_zipIdx]; exact Nat.le_refl _⟩
theorem ok_izip (ha : TEok K F ta a) (hb : TEok K F tb b) : TIok K F (iZip K (tCons ta (tCons tb tNil))) .zip [a, b] := fun Bg M H σ G Qd R en w post => by
  simp only [wpEs] at w
  refine ha _ _ _ _ _ _ _ en w fun x vx B1 H1 e1 rx w1 => ?_
  refine hb _ _ _ _ _ _ _ (en.ext e1) w1 fun y vy B2 H2 e2 ry w2 => ?_
  cases x <;> cases y <;> first
    | exact False.elim w2
    | skip
  rename_i xs ys
  have rx := rx.ext e2 fun a m => .inl m
  obtain ⟨p, vs, rfl, hp, n1, n2, rl⟩ := rx.lst_inv
  obtain ⟨q, ws, rfl, hq, n3, n4, rm⟩ := ry.lst_inv
  refine ⟨p, q, vs, ws, rfl, .inl (.inl hp), .inl (.inl hq), post _ (Itz K p q) [(.ref p, .lst xs), (.ref q, .lst ys)] _ _ (e1.trans e2) (fun z hz => ?_) ⟨fun Bg M H i d bg md hr hi => ?_, fun Bg M H hr => ?_⟩ w2⟩
  · rcases List.mem_cons.mp hz with rfl | hz
    · exact rx
    · cases List.mem_singleton.mp hz
      exact ry
  · obtain ⟨p', vs', e, hp', _, _, rl'⟩ := (hr (.ref p, .lst xs) (by simp)).lst_inv
    cases e
    obtain ⟨q', ws', e, hq', _, _, rm'⟩ := (hr (.ref q, .lst ys) (by simp)).lst_inv
    cases e
    rw [List.getElem?_zipWith] at hi
    cases qx : xs[i]? with
    | none => rw [qx] at hi; cases hi
    | some x =>
      cases qy : ys[i]? with
      | none => rw [qx, qy] at hi; cases hi
      | some y =>
        rw [qx, qy] at hi
        cases hi
        obtain ⟨v, hv, rv⟩ := rl'.get qx
        obtain ⟨u, hu, ru⟩ := rm'.get qy
        refine ⟨⟨vs', ws', v, u, .inl (.inl hp'), .inl (.inl hq'), hv, hu⟩, fun x H' hy => ?_⟩
        obtain ⟨T, z, z2, rfl, hT, rfl, hz, hz2⟩ := hy
        have t1 := hz vs' (.inl (.inl hp'))
        rw [hv] at t1
        cases t1
        have t2 := hz2 ws' (.inl (.inl hq'))
        rw [hu] at t2
        cases t2
        have ex := Ext.lay (o := .tup [v, u]) bg hT
        obtain ⟨m1, m2⟩ := fresh_md bg md hT
        exact ⟨ex, .tup (.inl upd_same) m1 m2 (.cons (rv.ext ex fun a m => .inl m) (.cons (ru.ext ex fun a m => .inl m) .nil))⟩
  · obtain ⟨p', vs', e, hp', _, _, rl'⟩ := (hr (.ref p, .lst xs) (by simp)).lst_inv
    cases e
    obtain ⟨q', ws', e, hq', _, _, rm'⟩ := (hr (.ref q, .lst ys) (by simp)).lst_inv
    cases e
    refine ⟨vs', ws', .inl (.inl hp'), .inl (.inl hq'), ?_⟩
    rw [rl'.len, rm'.len, List.length_zipWith]
    omega
end
end OC
set_option Elab.async false
set_option linter.all false
set_option maxRecDepth 100000
set_option maxHeartbeats 4000000
/-! Onecut: targets, comprehensions. -/
namespace OC
open PySem PySem.Spec PyProof.Rows L2
theorem getV_eq : ∀ (G : List (Option D)) (i : Nat), getV G i = G[i]?.join
  | [], i => by simp [getV]
  | x :: xs, 0 => by simp [getV]
  | x :: xs, n + 1 => by simp [getV, getV_eq xs n]
theorem getV_some {G : List (Option D)} {i : Nat} {d : D} (h : getV G i = some d) : G[i]? = some (some d) := by
  rw [getV_eq] at h
  cases q : G[i]? with
  | none => rw [q] at h; cases h
  | some o =>
    rw [q] at h
    have h : o = some d := h
    rw [h]
theorem getV_of {G : List (Option D)} {i : Nat} {d : D} (h : G[i]? = some (some d)) : getV G i = some d := by
  rw [getV_eq, h]
  rfl
section
variable {K : PySem.W.Frag} {F : List DC} {Bg M : AP} {H : Hp} {σ : L2.St} {G : List (Option D)}
theorem EnvE.set {v : V} {d : D} (e : EnvE K Bg M H σ G) (r : Rep K Bg M H v d) (i : Nat) : EnvE K Bg M H (σ.set i (some v)) (G.set i (some d)) := by
  refine ⟨e.bags, e.md, by rw [List.length_set, List.length_set]; exact e.len, fun j d' h => ?_⟩
  have h := getV_some h
  by_cases q : i = j
  · subst q
    by_cases l : i < G.length
    · rw [List.getElem?_set_self l] at h
      cases h
      exact ⟨v, List.getElem?_set_self (by rw [e.len]; exact l), r⟩
    · rw [List.getElem?_eq_none (by rw [List.length_set]; omega)] at h
      cases h
  · rw [List.getElem?_set_ne q] at h
    obtain ⟨w, h1, h2⟩ := e.val j d' (getV_of h)
    exact ⟨w, by rw [List.getElem?_set_ne q]; exact h1, h2⟩
theorem wipe_get : ∀ (vs : List Nat) (σ : L2.St) (i : Nat), (wipe σ vs)[i]? = if i ∈ vs then (if i < σ.length then some none else none) else σ[i]?
  | [], σ, i => by simp [wipe]
  | v :: vs, σ, i => by
    unfold wipe
    by_cases q : v = i
    · subst q
      rw [if_pos (by simp)]
      by_cases l : v < σ.length
      · rw [if_pos l, List.getElem?_set_self (by rw [wipe_length]; exact l)]
      · rw [if_neg l, List.getElem?_eq_none (by rw [List.length_set, wipe_length]; omega)]
    · rw [List.getElem?_set_ne q, wipe_get vs σ i]
      by_cases m : i ∈ vs
      · rw [if_pos m, if_pos (List.mem_cons_of_mem _ m)]
      · rw [if_neg m, if_neg (by simp only [List.mem_cons, not_or]; exact ⟨fun z => q z.symm, m⟩)]
theorem wipe_same {vs : List Nat} {σ σ2 : L2.St} (hl : σ2.length = σ.length) (h : ∀ i, i ∉ vs → σ2[i]? = (wipe σ vs)[i]?) : wipe σ2 vs = wipe σ vs := by
  apply List.ext_getElem?
  intro i
  rw [wipe_get, wipe_get, hl]
  by_cases m : i ∈ vs
  · rw [if_pos m, if_pos m]
  · rw [if_neg m, if_neg m, h i m, wipe_get, if_neg m]
theorem wipeV_len : ∀ (vs : List Nat) (G : List (Option D)), (wipeV G vs).length = G.length
  | [], _ => rfl
  | v :: vs, G => by unfold wipeV; rw [List.length_set, wipeV_len vs G]
theorem wipeV_some : ∀ {vs : List Nat} {G : List (Option D)} {i : Nat} {d : D}, (wipeV G vs)[i]? = some (some d) → G[i]? = some (some d) ∧ i ∉ vs
  | [], _, _, _, h => ⟨h, by simp⟩
  | v :: vs, G, i, d, h => by
    unfold wipeV at h
    by_cases q : v = i
    · subst q
      by_cases l : v < (wipeV G vs).length
      · rw [List.getElem?_set_self l] at h; cases h
      · rw [List.getElem?_eq_none (by rw [List.length_set]; omega)] at h; cases h
    · rw [List.getElem?_set_ne q] at h
      obtain ⟨h1, h2⟩ := wipeV_some h
      exact ⟨h1, by simp only [List.mem_cons, not_or]; exact ⟨fun z => q z.symm, h2⟩⟩
theorem EnvE.wipe (e : EnvE K Bg M H σ G) (vs : List Nat) : EnvE K Bg M H (L2.wipe σ vs) (wipeV G vs) := by
  refine ⟨e.bags, e.md, by rw [wipe_length, wipeV_len]; exact e.len, fun i d h => ?_⟩
  obtain ⟨h1, h2⟩ := wipeV_some (getV_some h)
  obtain ⟨v, h3, h4⟩ := e.val i d (getV_of h1)
  exact ⟨v, by rw [wipe_get, if_neg h2]; exact h3, h4⟩
/-! ### targets -/
def tgSl : Tg → List Nat
  | .name i => [i]
  | .tup is => is
def TGok (K : PySem.W.Frag) (g : TG) (tg : Tg) : Prop := ∀ (Bg M : AP) (H : Hp) (σ : L2.St) (G G1 : List (Option D)) (x : V) (d : D) (Q : L2.St → Hp → Prop), EnvE K Bg M H σ G → Rep K Bg M H x d → bindV tg d G = some G1 →
  (∀ σ1, EnvE K Bg M H σ1 G1 → σ1.length = σ.length → (∀ i, i ∉ tgSl tg → σ1[i]? = σ[i]?) → Q σ1 H) → g x σ H Q
theorem ok_gname (i : Nat) : TGok K (gName i) (.name i) := fun Bg M H σ G G1 x d Q en r h post => by
  cases h
  exact post _ (en.set r i) List.length_set fun j hj => List.getElem?_set_ne (fun z => hj (by simp [tgSl, z]))
def gNames : List Nat → TGs
  | [] => gNil
  | i :: is => gCons (gName i) (gNames is)
theorem gNames_ok : ∀ (is : List Nat) {Bg M : AP} {H : Hp} {σ : L2.St} {G : List (Option D)} {vs : List V} {ds : List D} {Q : L2.St → Hp → Prop}, EnvE K Bg M H σ G → RepL K Bg M H vs ds → is.length = ds.length →
    (∀ σ1, EnvE K Bg M H σ1 (setAll G is ds) → σ1.length = σ.length → (∀ i, i ∉ is → σ1[i]? = σ[i]?) → Q σ1 H) → gNames is vs σ H Q
  | [], _, _, _, _, _, _, _, _, en, .nil, hl, post => ⟨rfl, post _ en rfl fun _ _ => rfl⟩
  | [], _, _, _, _, _, _, _, _, en, .cons _ _, hl, post => by cases hl
  | i :: is, _, _, _, _, _, _, _, _, en, .nil, hl, post => by cases hl
  | i :: is, _, _, _, _, _, _, _, _, en, .cons r t, hl, post => ⟨_, _, rfl, gNames_ok is (en.set r i) t (by simpa using hl) fun σ1 e l h =>
      post σ1 e (l.trans List.length_set) fun j hj => (h j (fun z => hj (List.mem_cons_of_mem _ z))).trans (List.getElem?_set_ne (fun z => hj (by simp [z])))⟩
theorem ok_gtup (is : List Nat) : TGok K (gTup K is.length (gNames is)) (.tup is) := fun Bg M H σ G G1 x d Q en r h post => by
  cases d with
  | tup ds =>
    simp only [bindV] at h
    split at h
    · rename_i hl
      cases h
      obtain ⟨a, vs, rfl, hs, rl⟩ := r.tup_inv
      exact ⟨a, vs, rfl, hs, by rw [rl.len]; exact hl.symm, gNames_ok is en rl hl post⟩
    · cases h
  | _ => cases h
def gOf (K : PySem.W.Frag) : Tg → TG
  | .name i => gName i
  | .tup is => gTup K is.length (gNames is)
theorem ok_g (tg : Tg) : TGok K (gOf K tg) tg := by
  cases tg with
  | name i => exact ok_gname i
  | tup is => exact ok_gtup is
/-! ### comprehensions -/
def TFok (K : PySem.W.Frag) (F : List DC) (t : TT) (ifs : List E) : Prop := ∀ (Bg M : AP) (H : Hp) (σ : L2.St) (G : List (Option D)) (A B : Prop) (Q : Bool → Hp → Prop), EnvE K Bg M H σ G → wpIf F ifs G A B →
  (∀ Bg' H', Ext Bg H Bg' H' → A → Q true H') → (∀ Bg' H', Ext Bg H Bg' H' → B → Q false H') → t σ H Q
theorem ok_f0 : TFok K F tYes [] := fun Bg M H σ G A B Q en w pa pb => by
  simp only [wpIf] at w
  exact pa _ _ (Ext.refl en.bags) w
theorem ok_f1 {t : TT} {a : E} {r : List E} (h : TTok K F t a) : TFok K F t (a :: r) := fun Bg M H σ G A B Q en w pa pb => by
  simp only [wpIf] at w
  refine h _ _ _ _ _ _ _ en w fun q B1 H1 e1 w1 => ?_
  cases q with
  | true => exact pa _ _ e1 (by simpa using w1)
  | false => exact pb _ _ e1 (by simpa using w1)
theorem Ext.write {Bg' : AP} {H' : Hp} {p : Addr} {o : HO} (e : Ext Bg H Bg' H') (h : H p = none) (n : ¬ Bg' p) : Ext Bg H Bg' (L2.upd H' p o) :=
  ⟨e.sub, e.new, fun a u na ha => by rw [upd_ne (ne_of_none ha h)]; exact e.keep a u na ha, fun a ha => by
    obtain ⟨L, M', h1, h2⟩ := e.bags a ha
    exact ⟨L, M', by rw [upd_ne (fun z => n (by rw [← z]; exact ha))]; exact h1, h2⟩⟩
theorem ok_lc {wi : TI} {tt : TT} {te : TE} {elt : E} {tg : Tg} {k : IK} {its ifs : List E} {own : List (Str × Nat)} (hi : TIok K F wi k its) (hf : TFok K F tt ifs) (he : TEok K F te elt) (htg : ∀ i ∈ tgSl tg, i ∈ own.map (·.2)) :
    TEok K F (tLc wi (gOf K tg) tt te (own.map (·.2))) (.lc elt tg k its ifs own) := fun Bg M H σ G Qd Q en w post => by
  simp only [wpE] at w
  generalize hvs : own.map (·.2) = vs at *
  refine hi _ _ _ _ _ _ _ en w fun xs J gs B1 H1 e1 hg W w1 => ?_
  intro Dl hD
  obtain ⟨hxl, w1⟩ := w1
  have en1 := en.ext e1
  obtain ⟨nB1, nM⟩ := fresh_md e1.bags en1.md hD
  generalize hfd : (fun (d : D) (kk : Option D → Prop) => match bindV tg d (wipeV G vs) with
        | some G1 => wpIf F ifs G1 (wpE F elt G1 fun y => kk (some y)) (kk none)
        | none => False) = f at w1
  let N : Nat → Hp → Prop := fun i H' => ∃ (B : AP) (av : List V) (ad : List D), Ext B1 H1 B H' ∧ H' Dl = some (.lst av) ∧ ¬ B Dl ∧ RepL K B (fun q => M q ∨ q = Dl) H' av ad ∧ ad.length ≤ i ∧ wpMap f (xs.drop i) ad (fun ys => Qd (.lst ys))
  refine ⟨fun i m H' => m = xs.length - i ∧ i ≤ xs.length ∧ N i H', ⟨xs.length, by simp, Nat.zero_le _, B1, [], [], Ext.lay e1.bags hD, upd_same, nB1, .nil, Nat.le_refl _, by simpa using w1⟩, ?_⟩
  rintro i m H2 ⟨rfl, hil, B, av, ad, ex, hDv, nD, rl, hal, wm⟩
  have md2 : ∀ q, (M q ∨ q = Dl) → H2 q ≠ none ∧ ¬ B q := fun q hq => by
    rcases hq with hq | rfl
    · exact md_ext en1.md ex q hq
    · exact ⟨(by rw [hDv]; exact fun z => (by cases z)), nD⟩
  have hm2 : ∀ q, (M q ∨ q = Dl) → M q ∨ H1 q = none := fun q hq => by
    rcases hq with hq | rfl
    · exact .inl hq
    · exact .inr hD
  have en2 : EnvE K B (fun q => M q ∨ q = Dl) H2 σ G := ⟨ex.bags, md2, en1.len, fun j d hj => by
    obtain ⟨v, h1, h2⟩ := en1.val j d hj
    exact ⟨v, h1, h2.ext ex hm2⟩⟩
  by_cases hlt : i < xs.length
  · right
    obtain ⟨d, hd⟩ : ∃ d, xs[i]? = some d := ⟨xs[i], by simp [hlt]⟩
    have hdrop : xs.drop i = d :: xs.drop (i + 1) := by
      rw [List.drop_eq_getElem_cons hlt]
      congr 1
      rw [List.getElem?_eq_getElem hlt] at hd
      exact Option.some.inj hd
    rw [hdrop] at wm
    simp only [wpMap] at wm
    obtain ⟨hgo, hy⟩ := W.step B (fun q => M q ∨ q = Dl) H2 i d ex.bags md2 (fun p hp => (hg p hp).ext ex hm2) hd
    refine ⟨hgo, N (i + 1), fun H' hn => ⟨xs.length - (i + 1), by omega, rfl, hlt, hn⟩, fun x H3 hyl => ?_⟩
    obtain ⟨e3, rx⟩ := hy x H3 hyl
    rw [← hfd] at wm
    simp only at wm
    cases hb : bindV tg d (wipeV G vs) with
    | none => rw [hb] at wm; exact wm.elim
    | some G1 =>
      rw [hb] at wm
      simp only at wm
      refine ok_g (K := K) tg B (fun q => M q ∨ q = Dl) H3 _ _ G1 x d _ ((en2.ext e3).wipe vs) rx hb fun σ1 en3 hl1 hσ => ?_
      refine ⟨wipe_same (hl1.trans (wipe_length _ _)) fun j hj => hσ j (fun z => hj (htg j z)), ?_⟩
      have hD3 : H3 Dl = some (.lst av) := e3.keep _ _ nD hDv
      refine hf _ _ _ _ _ _ _ _ en3 wm (fun B4 H4 e4 w4 => ?_) (fun B4 H4 e4 w4 => ?_)
      · rw [if_pos rfl]
        refine he _ _ _ _ _ _ _ (en3.ext e4) w4 fun y vy B5 H5 e5 ry w5 => ?_
        have n4 : ¬ B4 Dl := e4.nb hD3 nD
        have hD4 := e4.keep _ _ nD hD3
        have n5 : ¬ B5 Dl := e5.nb hD4 n4
        have hD5 := e5.keep _ _ n4 hD4
        have eall : Ext B H2 B5 H5 := (e3.trans e4).trans e5
        refine ⟨av, hD5, ?_, B5, av ++ [vy], ad ++ [y], (ex.trans eall).write hD n5, upd_same, n5, RepL.upd (.inr rfl) ((rl.ext eall fun q hq => .inl hq).append (.cons ry .nil)), ?_, ?_⟩
        · rw [rl.len]
          exact Nat.lt_of_le_of_lt (Nat.le_trans hal (Nat.le_trans (Nat.le_of_lt hlt) hxl)) (by decide)
        · rw [List.length_append, List.length_singleton]
          omega
        · rw [← hfd]
          exact w5
      · rw [if_neg Bool.false_ne_true]
        have n4 : ¬ B4 Dl := e4.nb hD3 nD
        have eall : Ext B H2 B4 H4 := e3.trans e4
        refine ⟨B4, av, ad, ex.trans eall, e4.keep _ _ nD hD3, n4, rl.ext eall fun q hq => .inl hq, by omega, ?_⟩
        rw [← hfd]
        exact w4
  · left
    have e : i = xs.length := by omega
    subst e
    rw [List.drop_length] at wm
    simp only [wpMap] at wm
    refine ⟨W.stop B (fun q => M q ∨ q = Dl) H2 (fun p hp => (hg p hp).ext ex hm2), ?_⟩
    exact post _ _ _ _ (e1.trans ex) (.lst hDv nD nM (rl.less ex.bags fun q hq => .inl hq)) wm
end
end OC
set_option Elab.async false
set_option linter.all false
set_option maxRecDepth 100000
set_option maxHeartbeats 4000000
/-! Onecut: an expression of the text that the look takes runs as the small language says. -/
namespace OC
open PySem PySem.Spec PyProof.Rows L2
structure Gd (P : Program) (w : World) (K : PySem.W.Frag) (mg : Str → Option Value) (base : Heap) (C : Ck) (sc : Scope) (k : Nat) (X : Cx) : Prop where
  eP : X.prog = P
  eW : X.w = w
  eK : X.K = K
  eM : X.mg = mg
  eB : X.base = base
  eN : X.N = C.N
  nd : C.N.Nodup
  esc : X.env.scope = sc
  calm : X.calm = true
  room : Room k X.A
  gd : X.A.guards = some []
structure Wr (P : Program) (w : World) (K : PySem.W.Frag) (mg : Str → Option Value) (base : Heap) (C : Ck) (F : List DC) (k : Nat) : Prop where
  fs : ∀ (f : Nat) (x : Str), C.fs[f]? = some x → ∃ c, F[f]? = some c ∧ FOK P w K mg base k x c
  bs : ∀ x, x ∈ C.bs → mg x = none
section
variable {P : Program} {w : World} {K : PySem.W.Frag} {mg : Str → Option Value} {base : Heap} {C : Ck} {F : List DC} {k : Nat}
theorem Gd.gl {sc : Scope} {X : Cx} (g : Gd P w K mg base C sc k X) {x : Str} (h : glb sc x = true) : Gl X x := by
  unfold Gl
  show X.env.scope.names.lookup x = _
  rw [g.esc]
  exact glb_ok h
theorem Gd.blk {sc scope : Scope} {X : Cx} (g : Gd P w K mg base C sc k X) (s : Shared) (H : Hp) (Ca : Addr) (cl : List (Str × Addr)) (fp : List Addr) : Gd P w K mg base C (relS scope sc) k (X.blk s H scope (compEnvC scope cl Ca X.env) fp) :=
  ⟨g.eP, g.eW, g.eK, g.eM, g.eB, g.eN, g.nd, by rw [← g.esc]; rfl, g.calm, g.room, g.gd⟩
theorem blt_ok {sc : Scope} {x : Str} {nm : String} (h : blt C sc x nm = true) : x = (nm : Str) ∧ glb sc x = true ∧ x ∈ C.bs := by
  unfold blt at h
  simp only [Bool.and_eq_true, decide_eq_true_eq] at h
  exact ⟨h.1.1, h.1.2, by simpa using h.2⟩
theorem pe_biAll {X : Cx} {f : Bi} {e : Expr} {es : List Expr} {t : TA} {p pos : Pos} (hc : X.calm = true) (hgd : X.A.guards = some []) (hu : X.A.units + 64 < cLine) (hg : Gl X (biNm f : Str)) (hm : X.mg (biNm f : Str) = none) (ha : PA X (e :: es) t)
    (he : starEach (e :: es) X.env = (false, eval e X.env) :: starEach es X.env) (hpl : (backTo pos (starEach es X.env)).any (·.1) = false) : PE X (.Call (.Name (biNm f : Str) p) (e :: es) [] pos) (tCB (rBi X.K f) t) := by
  cases f with
  | len => exact pe_callB call_len hg hm (by decide +kernel) ha (by decide) (by decide) he hpl
  | abs => exact pe_callB call_abs hg hm (by decide +kernel) ha (by decide) (by decide) he hpl
  | max => exact pe_callB (r := rBi X.K .max) (fun pins s σ H xs us Q I r h => h.elim (call_max2 hc pins s σ H xs us Q I r) (call_max3Nu hc pins s σ H xs us Q I r)) hg hm (by decide +kernel) ha (by decide) (by decide) he hpl
  | min => exact pe_callB (call_min2 hc) hg hm (by decide +kernel) ha (by decide) (by decide) he hpl
  | sum => exact pe_callB (cr_sum hc) hg hm (by decide +kernel) ha (by decide) (by decide) he hpl
  | all => exact pe_callB (cr_all hc) hg hm (by decide +kernel) ha (by decide) (by decide) he hpl
  | any => exact pe_callB (cr_any hc) hg hm (by decide +kernel) ha (by decide) (by decide) he hpl
  | repr => exact pe_callB (call_reprD hgd hu) hg hm (by decide +kernel) ha (by decide) (by decide) he hpl
  | divmod => exact pe_callB call_divmodW hg hm (by decide +kernel) ha (by decide) (by decide) he hpl
  | int => exact pe_callTy call_int1 hg hm (by decide +kernel) ha (by decide) (by decide) he hpl
  | sorted => exact pe_callB (id := "sorted") (fun _ _ _ _ _ _ _ _ _ h => False.elim h) hg hm (by decide +kernel) ha (by decide) (by decide) he hpl
  | tuple => exact pe_callTy (T := "tuple") (fun _ _ _ _ _ _ _ _ _ h => False.elim h) hg hm (by decide +kernel) ha (by decide) (by decide) he hpl
  | list => exact pe_callTy (T := "list") (fun _ _ _ _ _ _ _ _ _ h => False.elim h) hg hm (by decide +kernel) ha (by decide) (by decide) he hpl
theorem boot_ty (t : Ty) : bootBuiltins (tyNm t : Str) = some (.type (tyNm t)) := by cases t <;> decide +kernel
theorem pg_of {X : Cx} {sc : Scope} {fo : Str → Bool} (hN : X.N = C.N) (nd : C.N.Nodup) (hc : X.calm = true) (hs : X.env.scope = sc) (hf : ∀ x, fo x = true → X.fn x = true) : ∀ {tg : Tg} {e : Expr}, chkTg C.N sc fo tg e = true → PG X e (gOf X.K tg) := by
  have one : ∀ {i : Nat} {e : Expr}, (match asName e with
    | some x => decide (C.N[i]? = some x) && (isLoc sc x || (isCell sc x && fo x))
    | none => false) = true → (∃ x p, e = .Name x p) ∧ PG X e (gName i) := fun {i e} h => by
    cases q : asName e with
    | none => rw [q] at h; cases h
    | some x =>
      rw [q] at h
      obtain ⟨p, rfl⟩ := asName_ok q
      simp only [Bool.and_eq_true, Bool.or_eq_true, decide_eq_true_eq] at h
      refine ⟨⟨x, p, rfl⟩, ?_⟩
      rcases h.2 with z | z
      · have z := isLoc_ok z
        rw [← hs] at z
        exact pg_name (by rw [hN]; exact nd) (by rw [hN]; exact h.1) (.inl z) (.inr z)
      · have z1 := isCell_ok z.1
        rw [← hs] at z1
        exact pg_name (by rw [hN]; exact nd) (by rw [hN]; exact h.1) (.inr z1) (.inl (hf x z.2))
  have many : ∀ {is : List Nat} {es : List Expr}, chkTg.go C.N sc fo is es = true → PGs X es (gNames is) ∧ (assignEach es X.env).length = is.length ∧ (assignEach es X.env).findIdx? (·.1) = none := fun {is} => by
    induction is with
    | nil =>
      intro es h
      cases es with
      | nil => exact ⟨pgs_nil, rfl, rfl⟩
      | cons _ _ => cases h
    | cons i is ih =>
      intro es h
      cases es with
      | nil => cases h
      | cons e es =>
        simp only [chkTg.go, Bool.and_eq_true] at h
        obtain ⟨⟨x, p, rfl⟩, h1⟩ := one h.1
        obtain ⟨h2, h3, h4⟩ := ih h.2
        refine ⟨pgs_cons h1 h2, ?_, ?_⟩
        · show (assignEach es X.env).length + 1 = is.length + 1
          rw [h3]
        · show ((false, assign (.Name x p) X.env) :: assignEach es X.env).findIdx? (·.1) = none
          rw [List.findIdx?_cons, h4]
          rfl
  intro tg e h
  cases tg with
  | name i => exact (one h).2
  | tup is =>
    simp only [chkTg] at h
    cases q : asTup e with
    | none => rw [q] at h; cases h
    | some es =>
      rw [q] at h
      obtain ⟨j, p, rfl⟩ := asTup_ok q
      obtain ⟨h1, h2, h3⟩ := many h
      exact pg_tup hc h1 h2 h3
end
end OC
set_option Elab.async false
set_option linter.all false
set_option maxRecDepth 100000
set_option maxHeartbeats 4000000
namespace OC
open PySem PySem.Spec PyProof.Rows L2
section
variable (P : Program) (w : World) (K : PySem.W.Frag) (mg : Str → Option Value) (base : Heap) (C : Ck) (F : List DC) (k : Nat)
def SE (sc : Scope) (e : Expr) (ir : E) : Prop := ∃ t, (∀ X, Gd P w K mg base C sc k X → PE X e t) ∧ TEok K F t ir
def ST (sc : Scope) (e : Expr) (ir : E) : Prop := ∃ t, (∀ X, Gd P w K mg base C sc k X → PT X e t ∧ (∀ o l p, e = .BoolOp o l p → PW X e t)) ∧ TTok K F t ir
def SA (sc : Scope) (es : List Expr) (irs : List E) : Prop := ∃ t, (∀ X, Gd P w K mg base C sc k X → PA X es t) ∧ TAok K F t irs ∧ nstL es = true ∧ es.length = irs.length
def SI (sc : Scope) (it tg : Expr) (ik : IK) (irs : List E) : Prop := ∃ t, (∀ X, Gd P w K mg base C sc k X → PI X tg it t) ∧ TIok K F t ik irs
def SF (sc : Scope) (fs : List Expr) (irs : List E) : Prop := ∃ t, (∀ X, Gd P w K mg base C sc k X → PTs X fs t) ∧ TFok K F t irs
def SO (sc : Scope) (e : Option Expr) (irs : List E) : Prop := ∃ t, (∀ X, Gd P w K mg base C sc k X → PO X e t) ∧ TOok K F t irs
end
section
variable {P : Program} {w : World} {K : PySem.W.Frag} {mg : Str → Option Value} {base : Heap} {C : Ck} {F : List DC} {k : Nat} {sc : Scope}
theorem st_leaf {e : Expr} {ir : E} (hl : leaf e = true) (h : SE P w K mg base C F k sc e ir) : ST P w K mg base C F k sc e ir := by
  obtain ⟨t, h1, h2⟩ := h
  refine ⟨_, fun X g => ⟨pt_val (h1 X g) ?_, fun o l p he => by subst he; cases hl⟩, ok_test h2⟩
  cases e <;> first
    | (cases hl; done)
    | (intro _; rfl)
theorem both_leaf {e : Expr} {ir : E} {body : Bool} (hq : ∀ tt, chkE C sc tt ir e = ((!tt || leaf e) && body)) (h : body = true → SE P w K mg base C F k sc e ir) :
    (chkE C sc false ir e = true → SE P w K mg base C F k sc e ir) ∧ (chkE C sc true ir e = true → ST P w K mg base C F k sc e ir) := by
  refine ⟨fun z => ?_, fun z => ?_⟩
  · rw [hq] at z
    exact h (by simpa using z)
  · rw [hq] at z
    simp only [Bool.not_true, Bool.false_or, Bool.and_eq_true] at z
    exact st_leaf z.1 (h z.2)
theorem se_k {d : D} {e : Expr} (h : (match asConst e with
    | some c => (match constD c with | some d' => sameK d d' | none => false)
    | none => false) = true) : SE P w K mg base C F k sc e (.k d) := by
  split at h
  · rename_i c hc
    obtain ⟨j, p, rfl⟩ := asConst_ok hc
    split at h
    · rename_i d' hd
      obtain rfl := sameK_ok h
      cases c <;> simp only [constD] at hd <;> first
        | (cases hd; done)
        | skip
      · cases hd
        exact ⟨_, fun X g => pe_non, fun Bg M H σ G Qd Q en w post => by simp only [wpE] at w; exact post_here en.bags post .non w⟩
      · cases hd
        exact ⟨_, fun X g => pe_bl, fun Bg M H σ G Qd Q en w post => by simp only [wpE] at w; exact post_here en.bags post (.bl _) w⟩
      · cases hd
        exact ⟨_, fun X g => pe_int, fun Bg M H σ G Qd Q en w post => by simp only [wpE] at w; exact post_here en.bags post (.int _) w⟩
      · cases hd
        exact ⟨_, fun X g => pe_str, fun Bg M H σ G Qd Q en w post => by simp only [wpE] at w; exact post_here en.bags post (.str _) w⟩
    · cases h
  · cases h
theorem pc_mark {op : CmpOp} {y : Expr} (h : isSet y = false) : behindInMarks op y = false := by
  cases y <;> first | rfl | cases h
theorem plain_ix {y : Expr} (h : isSlc y = false) : PlainIx y := by
  intro o i
  cases y <;> first | rfl | cases h
theorem fold_ok {it : Expr} {env : Env} (h : isSet it = false) : ∀ x, foldedSetIterable it env x = pure x := by
  intro x
  cases it <;> first | rfl | cases h
theorem tg_in {own : List Nat} {tg : Tg} (h : tgIn own tg = true) : ∀ i ∈ tgSl tg, i ∈ own := by
  intro i hi
  cases tg with
  | name j =>
    cases List.mem_singleton.mp hi
    simpa [tgIn] using h
  | tup is =>
    simp only [tgIn, List.all_eq_true] at h
    simpa using h i hi
theorem hu64 {X : Cx} (g : Gd P w K mg base C sc k X) : X.A.units + 64 < cLine := g.room.units
end
section
variable {P : Program} {w : World} {K : PySem.W.Frag} {mg : Str → Option Value} {base : Heap} {C : Ck} {F : List DC} {k : Nat}
mutual
theorem sE (W : Wr P w K mg base C F k) : ∀ (ir : E) (sc : Scope) (e : Expr), (chkE C sc false ir e = true → SE P w K mg base C F k sc e ir) ∧ (chkE C sc true ir e = true → ST P w K mg base C F k sc e ir)
  | .var i, sc, e => both_leaf (fun tt => by rw [chkE]) fun h => by
    split at h
    · rename_i x hx
      obtain ⟨p, rfl⟩ := asName_ok hx
      simp only [Bool.and_eq_true, decide_eq_true_eq, Bool.not_eq_true'] at h
      exact ⟨_, fun X g => pe_var (by rw [g.eN]; exact h.1.1.1) (by rw [g.esc]; exact vis_ok h.1.1.2) h.1.2 h.2, ok_var⟩
    · cases h
  | .k d, sc, e => both_leaf (fun tt => by first | (rw [chkE]; done) | (rw [chkE]; rfl)) se_k
  | .bin o a b, sc, e => both_leaf (fun tt => by rw [chkE]) fun h => by
    split at h
    · rename_i x p y hx
      obtain ⟨ps, rfl⟩ := asBin_ok hx
      simp only [Bool.and_eq_true] at h
      obtain rfl := op_of h.1.1
      obtain ⟨ta, h1, h2⟩ := (sE W a sc x).1 h.1.2
      obtain ⟨tb, h3, h4⟩ := (sE W b sc y).1 h.2
      exact ⟨_, fun X g => pe_op (opr_of X o) (h1 X g) (h3 X g), ok_bin h2 h4 (rok_of o)⟩
    · cases h
  | .neg a, sc, e => both_leaf (fun tt => by rw [chkE]) fun h => by
    split at h
    · rename_i x hx
      obtain ⟨ps, rfl⟩ := asUn_ok hx
      obtain ⟨ta, h1, h2⟩ := (sE W a sc x).1 h
      exact ⟨_, fun X g => pe_un un_neg (h1 X g), ok_neg h2⟩
    · cases h
  | .cmp o a b, sc, e => by
    have all : ∀ tt, chkE C sc tt (.cmp o a b) e = true → SE P w K mg base C F k sc e (.cmp o a b) ∧ ST P w K mg base C F k sc e (.cmp o a b) := fun tt h => by
      rw [chkE] at h
      split at h
      · rename_i x p y hx
        obtain ⟨ps, rfl⟩ := asCmp_ok hx
        simp only [Bool.and_eq_true, Bool.not_eq_true'] at h
        obtain rfl := cmp_of h.1.1.1
        obtain ⟨ta, h1, h2⟩ := (sE W a sc x).1 h.1.2
        obtain ⟨tb, h3, h4⟩ := (sE W b sc y).1 h.2
        have hm := pc_mark (op := coOf o) h.1.1.2
        have hk := ok_cmp h2 h4 (roc_of (K := K) o)
        refine ⟨⟨_, fun X g => ?_, hk⟩, ⟨_, fun X g => ⟨?_, fun o l p he => by cases he⟩, ok_testR hk⟩⟩
        · have := opc_of X (hu64 g) o
          rw [g.eK] at this
          exact pe_cmpR this (h1 X g) (h3 X g) hm
        · have := opc_of X (hu64 g) o
          rw [g.eK] at this
          exact pt_cmpR this (h1 X g) (h3 X g) hm
      · cases h
    exact ⟨fun h => (all _ h).1, fun h => (all _ h).2⟩
  | .chain o p a b c, sc, e => by
    have all : ∀ tt, chkE C sc tt (.chain o p a b c) e = true → SE P w K mg base C F k sc e (.chain o p a b c) ∧ ST P w K mg base C F k sc e (.chain o p a b c) := fun tt h => by
      rw [chkE] at h
      split at h
      · rename_i x q r y z hx
        obtain ⟨ps, rfl⟩ := asCmp_ok hx
        simp only [Bool.and_eq_true, Bool.not_eq_true'] at h
        obtain ⟨⟨⟨⟨⟨hq, hr⟩, hs⟩, ha⟩, hb⟩, hc⟩ := h
        obtain rfl := cmp_of hq
        obtain rfl := cmp_of hr
        obtain ⟨ta, h1, h2⟩ := (sE W a sc x).1 ha
        obtain ⟨tb, h3, h4⟩ := (sE W b sc y).1 hb
        obtain ⟨tc, h5, h6⟩ := (sE W c sc z).1 hc
        have hm := pc_mark (op := coOf p) hs
        have hk := ok_chain h2 h4 h6 (roc_of (K := K) o) (roc_of (K := K) p)
        refine ⟨⟨_, fun X g => ?_, hk⟩, ⟨_, fun X g => ⟨?_, fun o l p he => by cases he⟩, ok_testR hk⟩⟩
        · have t1 := opc_of X (hu64 g) o
          have t2 := opc_of X (hu64 g) p
          rw [g.eK] at t1 t2
          exact pe_chain t1 t2 (h1 X g) (h3 X g) (h5 X g) hm
        · have t1 := opc_of X (hu64 g) o
          have t2 := opc_of X (hu64 g) p
          rw [g.eK] at t1 t2
          exact pt_chain t1 t2 (h1 X g) (h3 X g) (h5 X g) hm
      · cases h
    exact ⟨fun h => (all _ h).1, fun h => (all _ h).2⟩
  | .andv a b, sc, e => by
    refine ⟨fun h => ?_, fun h => ?_⟩
    · rw [chkE] at h
      split at h
      · rename_i x y ps hx
        obtain rfl := asBool_ok hx
        simp only [Bool.and_eq_true] at h
        obtain ⟨ta, h1, h2⟩ := (sE W a sc x).1 h.1
        obtain ⟨tb, h3, h4⟩ := (sE W b sc y).1 h.2
        exact ⟨_, fun X g => pe_and (h1 X g) (pe_one (h3 X g)), ok_andv h2 h4⟩
      · rename_i x y z r ps hx
        obtain rfl := asBool_ok hx
        simp only [Bool.and_eq_true] at h
        obtain ⟨ta, h1, h2⟩ := (sE W a sc x).1 h.1
        obtain ⟨tb, h3, h4⟩ := (sE W b sc _).1 h.2
        exact ⟨_, fun X g => pe_and (h1 X g) (h3 X g), ok_andv h2 h4⟩
      · cases h
    · rw [chkE] at h
      split at h
      · rename_i x y ps hx
        obtain rfl := asBool_ok hx
        simp only [Bool.and_eq_true] at h
        obtain ⟨ta, h1, h2⟩ := (sE W a sc x).2 h.1
        obtain ⟨tb, h3, h4⟩ := (sE W b sc y).2 h.2
        have all : ∀ X, Gd P w K mg base C sc k X → PW X (.BoolOp .And [x, y] ps) (tAnd ta tb) := fun X g => pw_and (h1 X g).1 (pw_and1 (h3 X g).1)
        exact ⟨_, fun X g => ⟨(all X g).pt, fun _ _ _ _ => all X g⟩, ok_tand h2 h4⟩
      · rename_i x y z r ps hx
        obtain rfl := asBool_ok hx
        simp only [Bool.and_eq_true] at h
        obtain ⟨ta, h1, h2⟩ := (sE W a sc x).2 h.1
        obtain ⟨tb, h3, h4⟩ := (sE W b sc _).2 h.2
        have all : ∀ X, Gd P w K mg base C sc k X → PW X (.BoolOp .And (x :: y :: z :: r) ps) (tAnd ta tb) := fun X g => pw_and (h1 X g).1 ((h3 X g).2 _ _ _ rfl)
        exact ⟨_, fun X g => ⟨(all X g).pt, fun _ _ _ _ => all X g⟩, ok_tand h2 h4⟩
      · cases h
  | .orv a b, sc, e => by
    refine ⟨fun h => ?_, fun h => ?_⟩
    · rw [chkE] at h
      split at h
      · rename_i x y ps hx
        obtain rfl := asBool_ok hx
        simp only [Bool.and_eq_true] at h
        obtain ⟨ta, h1, h2⟩ := (sE W a sc x).1 h.1
        obtain ⟨tb, h3, h4⟩ := (sE W b sc y).1 h.2
        exact ⟨_, fun X g => pe_or (h1 X g) (pe_one (h3 X g)), ok_orv h2 h4⟩
      · rename_i x y z r ps hx
        obtain rfl := asBool_ok hx
        simp only [Bool.and_eq_true] at h
        obtain ⟨ta, h1, h2⟩ := (sE W a sc x).1 h.1
        obtain ⟨tb, h3, h4⟩ := (sE W b sc _).1 h.2
        exact ⟨_, fun X g => pe_or (h1 X g) (h3 X g), ok_orv h2 h4⟩
      · cases h
    · rw [chkE] at h
      split at h
      · rename_i x y ps hx
        obtain rfl := asBool_ok hx
        simp only [Bool.and_eq_true] at h
        obtain ⟨ta, h1, h2⟩ := (sE W a sc x).2 h.1
        obtain ⟨tb, h3, h4⟩ := (sE W b sc y).2 h.2
        have all : ∀ X, Gd P w K mg base C sc k X → PW X (.BoolOp .Or [x, y] ps) (tOr ta tb) := fun X g => pw_or (h1 X g).1 (pw_or1 (h3 X g).1)
        exact ⟨_, fun X g => ⟨(all X g).pt, fun _ _ _ _ => all X g⟩, ok_tor h2 h4⟩
      · rename_i x y z r ps hx
        obtain rfl := asBool_ok hx
        simp only [Bool.and_eq_true] at h
        obtain ⟨ta, h1, h2⟩ := (sE W a sc x).2 h.1
        obtain ⟨tb, h3, h4⟩ := (sE W b sc _).2 h.2
        have all : ∀ X, Gd P w K mg base C sc k X → PW X (.BoolOp .Or (x :: y :: z :: r) ps) (tOr ta tb) := fun X g => pw_or (h1 X g).1 ((h3 X g).2 _ _ _ rfl)
        exact ⟨_, fun X g => ⟨(all X g).pt, fun _ _ _ _ => all X g⟩, ok_tor h2 h4⟩
      · cases h
  | .notv a, sc, e => by
    refine ⟨fun h => ?_, fun h => ?_⟩
    · rw [chkE] at h
      split at h
      · rename_i x hx
        obtain ⟨ps, rfl⟩ := asUn_ok hx
        obtain ⟨ta, h1, h2⟩ := (sE W a sc x).1 h
        exact ⟨_, fun X g => pe_not (h1 X g), ok_notv h2⟩
      · cases h
    · rw [chkE] at h
      split at h
      · rename_i x hx
        obtain ⟨ps, rfl⟩ := asUn_ok hx
        obtain ⟨ta, h1, h2⟩ := (sE W a sc x).2 h
        exact ⟨_, fun X g => ⟨pt_not (h1 X g).1, fun o l p he => by cases he⟩, ok_tnot h2⟩
      · cases h
  | .ite t a b, sc, e => both_leaf (fun tt => by rw [chkE]) fun h => by
    split at h
    · rename_i z x y hx
      obtain ⟨ps, rfl⟩ := asIf_ok hx
      simp only [Bool.and_eq_true] at h
      obtain ⟨tt, h5, h6⟩ := (sE W t sc z).2 h.1.1
      obtain ⟨ta, h1, h2⟩ := (sE W a sc x).1 h.1.2
      obtain ⟨tb, h3, h4⟩ := (sE W b sc y).1 h.2
      exact ⟨_, fun X g => pe_ifExp (h5 X g).1 (h1 X g) (h3 X g), ok_ite h6 h2 h4⟩
    · cases h
  | .tup as, sc, e => both_leaf (fun tt => by rw [chkE]) fun h => by
    split at h
    · rename_i es hx
      obtain ⟨j, ps, rfl⟩ := asTup_ok hx
      simp only [Bool.and_eq_true, decide_eq_true_eq] at h
      obtain ⟨t, h1, h2, h3, h4⟩ := sEs W as sc es h.2
      exact ⟨_, fun X g => pe_tup (h1 X g), ok_tup h2 (by rw [← h4]; exact h.1)⟩
    · cases h
  | .lst as, sc, e => both_leaf (fun tt => by rw [chkE]) fun h => by
    split at h
    · rename_i es hx
      obtain ⟨ps, rfl⟩ := asLst_ok hx
      simp only [Bool.and_eq_true, decide_eq_true_eq] at h
      obtain ⟨t, h1, h2, h3, h4⟩ := sEs W as sc es h.2
      exact ⟨_, fun X g => pe_lst (h1 X g), ok_lst h2 (by rw [← h4]; exact h.1)⟩
    · cases h
  | .mkbag a b, sc, e => both_leaf (fun tt => by rw [chkE]) fun h => by
    split at h
    · rename_i x y hx
      obtain ⟨ps, rfl⟩ := asLst_ok hx
      simp only [Bool.and_eq_true] at h
      obtain ⟨⟨⟨n1, n2⟩, ha⟩, hb⟩ := h
      obtain ⟨ta, h1, h2⟩ := (sE W a sc x).1 ha
      obtain ⟨tb, h3, h4⟩ := (sE W b sc y).1 hb
      exact ⟨_, fun X g => pe_lst (pa_cons (h1 X g) (pa_cons (h3 X g) pa_nil (star_cons n2)) (star_cons n1)), ok_mkbag h2 h4⟩
    · cases h
  | .ixn a n, sc, e => both_leaf (fun tt => by rw [chkE]) fun h => by
    split at h
    · rename_i x y hx
      obtain ⟨ps, rfl⟩ := asSub_ok hx
      simp only [Bool.and_eq_true] at h
      obtain ⟨hn, ha⟩ := h
      split at hn
      · rename_i i hi
        obtain ⟨j, p, rfl⟩ := asConst_ok hi
        have e : i = (n : Int) := by simpa using hn
        subst e
        obtain ⟨ta, h1, h2⟩ := (sE W a sc x).1 ha
        refine ⟨_, fun X g => ?_, ok_ixn h2⟩
        have := ix_seq (X := X)
        rw [g.eK] at this
        exact pe_ix this (h1 X g) pe_int (plain_ix rfl)
      · cases hn
    · cases h
  | .ix a b, sc, e => both_leaf (fun tt => by rw [chkE]) fun h => by
    split at h
    · rename_i x y hx
      obtain ⟨ps, rfl⟩ := asSub_ok hx
      simp only [Bool.and_eq_true, Bool.not_eq_true'] at h
      obtain ⟨ta, h1, h2⟩ := (sE W a sc x).1 h.1.2
      obtain ⟨tb, h3, h4⟩ := (sE W b sc y).1 h.2
      refine ⟨_, fun X g => ?_, ok_ix h2 h4 rok_ix⟩
      have := ix_seq (X := X)
      rw [g.eK] at this
      exact pe_ix this (h1 X g) (h3 X g) (plain_ix h.1.1)
    · cases h
  | .slc a lo hi, sc, e => both_leaf (fun tt => by rw [chkE]) fun h => by
    split at h
    · rename_i x y hx
      obtain ⟨ps, rfl⟩ := asSub_ok hx
      simp only [Bool.and_eq_true] at h
      obtain ⟨hs, ha⟩ := h
      split at hs
      · rename_i l u hy
        obtain ⟨p, rfl⟩ := asSlc_ok hy
        simp only [Bool.and_eq_true] at hs
        obtain ⟨ta, h1, h2⟩ := (sE W a sc x).1 ha
        obtain ⟨tl, h3, h4⟩ := sO W lo sc l hs.1
        obtain ⟨th, h5, h6⟩ := sO W hi sc u hs.2
        refine ⟨_, fun X g => ?_, ok_slc h2 h4 h6⟩
        have := sl_list (X := X)
        rw [g.eK] at this
        exact pe_slice this (h1 X g) (h3 X g) (h5 X g)
      · cases hs
    · cases h
  | .call f as, sc, e => both_leaf (fun tt => by rw [chkE]) fun h => by
    split at h
    · rename_i x es hx
      obtain ⟨p, q, rfl⟩ := asCall_ok hx
      simp only [Bool.and_eq_true, decide_eq_true_eq, Bool.not_eq_true'] at h
      obtain ⟨⟨⟨hf, hg⟩, hd⟩, ha⟩ := h
      obtain ⟨c, hc, fa, fd, ps, e1, e2, e3, e4, e5⟩ := W.fs f x hf
      have all : ∀ X, Gd P w K mg base C sc k X → X.mg x = some (.ref fa) ∧ PySem.W.keepIn X.K (.ref fa) = true ∧ Binds X.K fd ps [] ∧ GFn X.prog X.w X.K X.mg X.base k fa fd ps (SpD K ps.length c) := fun X g => by
        rw [g.eP, g.eW, g.eK, g.eM, g.eB]
        exact ⟨e1, e2, e3, e5⟩
      cases es with
      | nil =>
        cases as with
        | nil =>
          refine ⟨_, fun X g => ?_, ok_call ok_nil hc e4⟩
          obtain ⟨E1, E2, E3, E5⟩ := all X g
          exact pe_callG0 E5 g.room g.gd (g.gl hg) E1 E2 E3 hd
        | cons _ _ => simp [chkEs] at ha
      | cons y ys =>
        obtain ⟨t, h1, h2, h3, h4⟩ := sEs W as sc (y :: ys) ha
        have h3' : (nst y && nstL ys) = true := h3
        rw [Bool.and_eq_true] at h3'
        refine ⟨_, fun X g => ?_, ok_call h2 hc e4⟩
        obtain ⟨E1, E2, E3, E5⟩ := all X g
        exact pe_callG E5 g.room g.gd (g.gl hg) E1 E2 E3 (h1 X g) hd (star_cons h3'.1) (star_all h3'.2)
    · cases h
  | .bi f as, sc, e => both_leaf (fun tt => by rw [chkE]) fun h => by
    split at h
    · rename_i x es hx
      obtain ⟨p, q, rfl⟩ := asCall_ok hx
      simp only [Bool.and_eq_true] at h
      obtain ⟨⟨hb, hn⟩, ha⟩ := h
      obtain ⟨rfl, hg, hbs⟩ := blt_ok hb
      obtain ⟨t, h1, h2, h3, h4⟩ := sEs W as sc es ha
      refine ⟨_, fun X g => ?_, ok_bi h2 (rok_bi (K := K) f)⟩
      cases es with
      | nil => cases hn
      | cons y ys =>
        have h3' : (nst y && nstL ys) = true := h3
        rw [Bool.and_eq_true] at h3'
        have := pe_biAll (X := X) (f := f) (p := p) (pos := q) g.calm g.gd (hu64 g) (g.gl hg) (by rw [g.eM]; exact W.bs _ hbs) (h1 X g) (star_cons h3'.1) (star_all h3'.2)
        rw [g.eK] at this
        exact this
    · cases h
  | .isi a t, sc, e => both_leaf (fun tt => by rw [chkE]) fun h => by
    split at h
    · rename_i x y z hx
      obtain ⟨p, q, rfl⟩ := asCall_ok hx
      simp only [Bool.and_eq_true] at h
      obtain ⟨⟨⟨hb, hn⟩, ha⟩, hz⟩ := h
      obtain ⟨rfl, hg, hbs⟩ := blt_ok hb
      obtain ⟨ta, h1, h2⟩ := (sE W a sc y).1 ha
      split at hz
      · rename_i v hv
        obtain ⟨pz, rfl⟩ := asName_ok hv
        obtain ⟨rfl, hg2, hbs2⟩ := blt_ok hz
        refine ⟨_, fun X g => ?_, ok_isi h2⟩
        have := pe_callB (X := X) (p := p) (pos := q) call_isi (g.gl hg) (by rw [g.eM]; exact W.bs _ hbs) (by decide +kernel) (pa_cons (h1 X g) (pa_cons (pe_bltn (v := .ty (tyNm t)) (pos := pz) (g.gl hg2) (by rw [g.eM]; exact W.bs _ hbs2) (boot_ty t) rfl (by cases t <;> decide) (by cases t <;> decide)) pa_nil) (star_cons hn)) (by decide) (by decide) (star_cons hn) rfl
        rw [g.eK] at this
        exact this
      · cases hz
    · cases h
  | .lc elt tg ik its ifs own, sc, e => both_leaf (fun tt => by rw [chkE]) fun h => by
    split at h
    · rename_i el t it fs scope hx
      obtain ⟨ps, rfl⟩ := asLC_ok hx
      simp only [Bool.and_eq_true, Bool.not_eq_true'] at h
      obtain ⟨⟨⟨⟨⟨⟨hset, hblk⟩, hi⟩, htg⟩, hin⟩, hf⟩, he⟩ := h
      obtain ⟨wi, i1, i2⟩ := sI W its ik sc it t hi
      obtain ⟨tf, f1, f2⟩ := sF W ifs (relS scope sc) fs hf
      obtain ⟨te, e1, e2⟩ := (sE W elt (relS scope sc) el).1 he
      refine ⟨_, fun X g => ?_, ok_lc i2 f2 e2 (tg_in hin)⟩
      refine pe_lc g.calm (by rw [g.eN]; exact g.nd) (i1 X g) (by rw [g.eN, g.esc]; exact blkOk_by hblk) (fun s H Ca cl fp => ?_) (fun s H Ca cl fp => f1 _ (g.blk s H Ca cl fp)) (fun s H Ca cl fp => e1 _ (g.blk s H Ca cl fp)) (fold_ok hset)
      have gb := g.blk (scope := scope) s H Ca cl fp
      have := pg_of (X := X.blk s H scope (compEnvC scope cl Ca X.env) fp) (C := C) gb.eN gb.nd gb.calm gb.esc (fun x hx => by
        show (scope.names.lookup x == some .cell) = true
        rw [isCell_ok hx]
        rfl) htg
      have eK : (X.blk s H scope (compEnvC scope cl Ca X.env) fp).K = K := g.eK
      rw [eK] at this
      exact this
    · cases h
theorem sEs (W : Wr P w K mg base C F k) : ∀ (irs : List E) (sc : Scope) (es : List Expr), chkEs C sc irs es = true → SA P w K mg base C F k sc es irs
  | [], sc, [], _ => ⟨_, fun X g => pa_nil, ok_nil, rfl, rfl⟩
  | [], _, _ :: _, h => by simp [chkEs] at h
  | _ :: _, _, [], h => by simp [chkEs] at h
  | a :: as, sc, e :: es, h => by
    rw [chkEs] at h
    simp only [Bool.and_eq_true] at h
    obtain ⟨t, h1, h2⟩ := (sE W a sc e).1 h.1.2
    obtain ⟨ts, h3, h4, h5, h6⟩ := sEs W as sc es h.2
    exact ⟨_, fun X g => pa_cons (h1 X g) (h3 X g) (star_cons h.1.1), ok_cons h2 h4, by show (nst e && nstL es) = true; rw [h.1.1, h5]; rfl, by rw [List.length_cons, List.length_cons, h6]⟩
theorem sO (W : Wr P w K mg base C F k) : ∀ (irs : List E) (sc : Scope) (e : Option Expr), chkO C sc irs e = true → SO P w K mg base C F k sc e irs
  | [], sc, none, _ => ⟨_, fun X g => po_none, ok_part0⟩
  | [], _, some _, h => by simp [chkO] at h
  | [a], sc, some e, h => by
    rw [chkO] at h
    obtain ⟨t, h1, h2⟩ := (sE W a sc e).1 h
    exact ⟨_, fun X g => po_some (h1 X g), ok_part1 h2⟩
  | [_], _, none, h => by simp [chkO] at h
  | _ :: _ :: _, _, o, h => by simp [chkO] at h
theorem sF (W : Wr P w K mg base C F k) : ∀ (irs : List E) (sc : Scope) (fs : List Expr), chkF C sc irs fs = true → SF P w K mg base C F k sc fs irs
  | [], sc, [], _ => ⟨_, fun X g => pts_nil, ok_f0⟩
  | [], _, _ :: _, h => by simp [chkF] at h
  | [a], sc, [e], h => by
    rw [chkF] at h
    obtain ⟨t, h1, h2⟩ := (sE W a sc e).2 h
    exact ⟨_, fun X g => pts_one (h1 X g).1, ok_f1 h2⟩
  | [_], _, [], h => by simp [chkF] at h
  | [_], _, _ :: _ :: _, h => by simp [chkF] at h
  | _ :: _ :: _, _, o, h => by simp [chkF] at h
theorem sI (W : Wr P w K mg base C F k) : ∀ (irs : List E) (ik : IK) (sc : Scope) (it tg : Expr), chkI C sc ik irs it tg = true → SI P w K mg base C F k sc it tg ik irs
  | [a], .lst, sc, it, tg, h => by
    rw [chkI] at h
    obtain ⟨t, h1, h2⟩ := (sE W a sc it).1 h
    refine ⟨_, fun X g => ?_, ok_ilst h2⟩
    have := pi_list (tg := tg) (h1 X g)
    rw [g.eK] at this
    exact this
  | [a], .tup, sc, it, tg, h => by
    rw [chkI] at h
    obtain ⟨t, h1, h2⟩ := (sE W a sc it).1 h
    refine ⟨_, fun X g => ?_, ok_itup h2⟩
    have := pi_tup (tg := tg) (h1 X g)
    rw [g.eK] at this
    exact this
  | [a], .rng1, sc, it, tg, h => by
    rw [chkI] at h
    split at h
    · rename_i x y hx
      obtain ⟨p, q, rfl⟩ := asCall_ok hx
      simp only [Bool.and_eq_true] at h
      obtain ⟨rfl, hg, hbs⟩ := blt_ok h.1.1
      obtain ⟨t, h1, h2⟩ := (sE W a sc y).1 h.2
      exact ⟨_, fun X g => pi_range1 (g.gl hg) (by rw [g.eM]; exact W.bs _ hbs) (pa_cons (h1 X g) pa_nil (star_cons h.1.2)) (star_cons h.1.2), ok_irng1 h2⟩
    · cases h
  | [a, b], .rng2, sc, it, tg, h => by
    rw [chkI] at h
    split at h
    · rename_i x y z hx
      obtain ⟨p, q, rfl⟩ := asCall_ok hx
      simp only [Bool.and_eq_true] at h
      obtain ⟨⟨⟨⟨hb, n1⟩, n2⟩, ha⟩, hz⟩ := h
      obtain ⟨rfl, hg, hbs⟩ := blt_ok hb
      obtain ⟨t, h1, h2⟩ := (sE W a sc y).1 ha
      obtain ⟨u, h3, h4⟩ := (sE W b sc z).1 hz
      exact ⟨_, fun X g => pi_range2 (g.gl hg) (by rw [g.eM]; exact W.bs _ hbs) (pa_cons (h1 X g) (pa_cons (h3 X g) pa_nil (star_cons n2)) (star_cons n1)) (by rw [star_cons n1, star_cons n2]; rfl) (star_cons n2), ok_irng2 h2 h4⟩
    · cases h
  | [a], .enum, sc, it, tg, h => by
    rw [chkI] at h
    split at h
    · rename_i x y hx
      obtain ⟨p, q, rfl⟩ := asCall_ok hx
      simp only [Bool.and_eq_true] at h
      obtain ⟨⟨⟨hb, n1⟩, ha⟩, ht⟩ := h
      obtain ⟨es, he⟩ := Option.isSome_iff_exists.mp ht
      obtain ⟨j, pt, rfl⟩ := asTup_ok he
      obtain ⟨rfl, hg, hbs⟩ := blt_ok hb
      obtain ⟨t, h1, h2⟩ := (sE W a sc y).1 ha
      refine ⟨_, fun X g => ?_, ok_ienum h2⟩
      have := pi_enum (X := X) (p := p) (pos := q) (tpos := pt) (elts := es) (kk := j) (g.gl hg) (by rw [g.eM]; exact W.bs _ hbs) (pa_cons (h1 X g) pa_nil (star_cons n1)) (star_cons n1)
      rw [g.eK] at this
      exact this
    · cases h
  | [a, b], .zip, sc, it, tg, h => by
    rw [chkI] at h
    split at h
    · rename_i x y z hx
      obtain ⟨p, q, rfl⟩ := asCall_ok hx
      simp only [Bool.and_eq_true] at h
      obtain ⟨⟨⟨⟨⟨hb, n1⟩, n2⟩, ha⟩, hz⟩, ht⟩ := h
      obtain ⟨es, he⟩ := Option.isSome_iff_exists.mp ht
      obtain ⟨j, pt, rfl⟩ := asTup_ok he
      obtain ⟨rfl, hg, hbs⟩ := blt_ok hb
      obtain ⟨t, h1, h2⟩ := (sE W a sc y).1 ha
      obtain ⟨u, h3, h4⟩ := (sE W b sc z).1 hz
      refine ⟨_, fun X g => ?_, ok_izip h2 h4⟩
      have := pi_zip (X := X) (p := p) (pos := q) (tpos := pt) (elts := es) (kk := j) (g.gl hg) (by rw [g.eM]; exact W.bs _ hbs) (pa_cons (h1 X g) (pa_cons (h3 X g) pa_nil (star_cons n2)) (star_cons n1)) (star_cons n1) (star_all (by show (nst z && nstL []) = true; rw [n2]; rfl))
      rw [g.eK] at this
      exact this
    · cases h
  | [a], .rev, sc, it, tg, h => by
    rw [chkI] at h
    split at h
    · rename_i x y hx
      obtain ⟨p, q, rfl⟩ := asCall_ok hx
      simp only [Bool.and_eq_true] at h
      obtain ⟨rfl, hg, hbs⟩ := blt_ok h.1.1
      obtain ⟨t, h1, h2⟩ := (sE W a sc y).1 h.2
      refine ⟨_, fun X g => ?_, ok_irev h2⟩
      have := pi_reversed (X := X) (tg := tg) (p := p) (pos := q) (g.gl hg) (by rw [g.eM]; exact W.bs _ hbs) (pa_cons (h1 X g) pa_nil (star_cons h.1.2)) (star_cons h.1.2)
      rw [g.eK] at this
      exact this
    · cases h
  | [], ik, sc, it, tg, h => by cases ik <;> simp [chkI] at h
  | [_, _], .lst, sc, it, tg, h => by simp [chkI] at h
  | [_, _], .tup, sc, it, tg, h => by simp [chkI] at h
  | [_, _], .rng1, sc, it, tg, h => by simp [chkI] at h
  | [_, _], .enum, sc, it, tg, h => by simp [chkI] at h
  | [_, _], .rev, sc, it, tg, h => by simp [chkI] at h
  | [_], .rng2, sc, it, tg, h => by simp [chkI] at h
  | [_], .zip, sc, it, tg, h => by simp [chkI] at h
  | _ :: _ :: _ :: _, ik, sc, it, tg, h => by cases ik <;> simp [chkI] at h
end
end
end OC
set_option Elab.async false
set_option linter.all false
set_option maxRecDepth 100000
set_option maxHeartbeats 4000000
/-! Onecut: statements. -/
namespace OC
open PySem PySem.Spec PyProof.Rows L2
def MO (M : AP) (σ : L2.St) (G : List Sl) : AP := fun a => M a ∨ ∃ (i : Nat) (xs : List D), G[i]? = some (.own xs) ∧ σ[i]? = some (some (.ref a))
structure EnvS (K : PySem.W.Frag) (B0 : AP) (H0 : Hp) (M Bg : AP) (H : Hp) (σ : L2.St) (G : List Sl) (gs : List (V × D)) : Prop where
  ext : Ext B0 H0 Bg H
  md : ∀ a, M a → H0 a ≠ none ∧ ¬ B0 a
  len : σ.length = G.length
  val : ∀ (i : Nat) d, G[i]? = some (.val d) → ∃ v, σ[i]? = some (some v) ∧ Rep K Bg (MO M σ G) H v d
  own : ∀ (i : Nat) xs, G[i]? = some (.own xs) → ∃ a vs, σ[i]? = some (some (.ref a)) ∧ H a = some (.lst vs) ∧ H0 a = none ∧ ¬ Bg a ∧ RepL K Bg (MO M σ G) H vs xs
  dist : ∀ (i j : Nat) a xs ys, G[i]? = some (.own xs) → G[j]? = some (.own ys) → σ[i]? = some (some (.ref a)) → σ[j]? = some (some (.ref a)) → i = j
  gst : ∀ p ∈ gs, Rep K Bg (MO M σ G) H p.1 p.2
section
variable {K : PySem.W.Frag} {B0 M Bg : AP} {H0 H : Hp} {σ : L2.St} {G : List Sl} {gs : List (V × D)}
theorem EnvS.mo (e : EnvS K B0 H0 M Bg H σ G gs) : ∀ a, MO M σ G a → H a ≠ none ∧ ¬ Bg a := fun a h => by
  rcases h with h | ⟨i, xs, h1, h2⟩
  · exact md_ext e.md e.ext a h
  · obtain ⟨b, vs, q1, q2, _, q3, _⟩ := e.own i xs h1
    rw [h2] at q1
    cases q1
    exact ⟨(by rw [q2]; exact fun z => (by cases z)), q3⟩
theorem vals_get {i : Nat} {d : D} (h : getV (vals G) i = some d) : G[i]? = some (.val d) := by
  have h := getV_some h
  rw [List.getElem?_map] at h
  cases q : G[i]? with
  | none => rw [q] at h; cases h
  | some s =>
    rw [q] at h
    cases s with
    | val d' =>
      have h : some (some d') = some (some d) := h
      cases h
      rfl
    | no => cases h
    | own _ => cases h
theorem EnvS.env (e : EnvS K B0 H0 M Bg H σ G gs) : EnvE K Bg (MO M σ G) H σ (vals G) :=
  ⟨e.ext.bags, e.mo, by rw [List.length_map]; exact e.len, fun i d h => e.val i d (vals_get h)⟩
theorem EnvS.grow {Bg' : AP} {H' : Hp} (e : EnvS K B0 H0 M Bg H σ G gs) (x : Ext Bg H Bg' H') : EnvS K B0 H0 M Bg' H' σ G gs :=
  ⟨e.ext.trans x, e.md, e.len, fun i d h => by
    obtain ⟨v, h1, h2⟩ := e.val i d h
    exact ⟨v, h1, h2.ext x fun a m => .inl m⟩, fun i xs h => by
    obtain ⟨a, vs, h1, h2, h3, h4, h5⟩ := e.own i xs h
    exact ⟨a, vs, h1, x.keep a _ h4 h2, h3, x.nb h2 h4, h5.ext x fun a m => .inl m⟩, e.dist, fun p hp => (e.gst p hp).ext x fun a m => .inl m⟩
theorem set_own {i j : Nat} {s : Sl} {xs : List D} (h : (G.set i s)[j]? = some (.own xs)) : (i = j ∧ s = .own xs ∧ i < G.length) ∨ (i ≠ j ∧ G[j]? = some (.own xs)) := by
  by_cases q : i = j
  · subst q
    by_cases l : i < G.length
    · rw [List.getElem?_set_self l] at h
      exact .inl ⟨rfl, Option.some.inj h, l⟩
    · rw [List.getElem?_eq_none (by rw [List.length_set]; omega)] at h
      cases h
  · rw [List.getElem?_set_ne q] at h
    exact .inr ⟨q, h⟩
theorem set_val {i j : Nat} {s : Sl} {d : D} (h : (G.set i s)[j]? = some (.val d)) : (i = j ∧ s = .val d ∧ i < G.length) ∨ (i ≠ j ∧ G[j]? = some (.val d)) := by
  by_cases q : i = j
  · subst q
    by_cases l : i < G.length
    · rw [List.getElem?_set_self l] at h
      exact .inl ⟨rfl, Option.some.inj h, l⟩
    · rw [List.getElem?_eq_none (by rw [List.length_set]; omega)] at h
      cases h
  · rw [List.getElem?_set_ne q] at h
    exact .inr ⟨q, h⟩
/-- a name gets a value -/
theorem EnvS.put {v : V} {d : D} (e : EnvS K B0 H0 M Bg H σ G gs) (r : Rep K Bg (MO M σ G) H v d) (i : Nat) : EnvS K B0 H0 M Bg H (σ.set i (some v)) (G.set i (.val d)) gs := by
  have less : ∀ a, MO M (σ.set i (some v)) (G.set i (.val d)) a → MO M σ G a := fun a h => by
    rcases h with h | ⟨j, xs, h1, h2⟩
    · exact .inl h
    · rcases set_own h1 with ⟨_, z, _⟩ | ⟨q, h1⟩
      · cases z
      · rw [List.getElem?_set_ne q] at h2
        exact .inr ⟨j, xs, h1, h2⟩
  refine ⟨e.ext, e.md, by rw [List.length_set, List.length_set]; exact e.len, fun j d' h => ?_, fun j xs h => ?_, fun j l a xs ys h1 h2 h3 h4 => ?_, fun p hp => (e.gst p hp).less e.ext.bags less⟩
  · rcases set_val h with ⟨rfl, z, l⟩ | ⟨q, h⟩
    · cases z
      exact ⟨v, List.getElem?_set_self (by rw [e.len]; exact l), r.less e.ext.bags less⟩
    · obtain ⟨u, h1, h2⟩ := e.val j d' h
      exact ⟨u, by rw [List.getElem?_set_ne q]; exact h1, h2.less e.ext.bags less⟩
  · rcases set_own h with ⟨_, z, _⟩ | ⟨q, h⟩
    · cases z
    · obtain ⟨a, vs, h1, h2, h3, h4, h5⟩ := e.own j xs h
      exact ⟨a, vs, by rw [List.getElem?_set_ne q]; exact h1, h2, h3, h4, h5.less e.ext.bags less⟩
  · rcases set_own h1 with ⟨_, z, _⟩ | ⟨q, h1⟩
    · cases z
    · rcases set_own h2 with ⟨_, z, _⟩ | ⟨q2, h2⟩
      · cases z
      · rw [List.getElem?_set_ne q] at h3
        rw [List.getElem?_set_ne q2] at h4
        exact e.dist j l a xs ys h1 h2 h3 h4
/-- a name gets a new list of its own -/
theorem EnvS.putOwn {p : Addr} {vs : List V} {ds : List D} (e : EnvS K B0 H0 M Bg H σ G gs) (r : RepL K Bg (MO M σ G) H vs ds) (hp : H p = none) (i : Nat) : EnvS K B0 H0 M Bg (L2.upd H p (.lst vs)) (σ.set i (some (.ref p))) (G.set i (.own ds)) gs := by
  have x := Ext.lay (o := .lst vs) e.ext.bags hp
  have nb : ¬ Bg p := (fresh_md e.ext.bags e.mo hp).1
  have more : ∀ a, MO M (σ.set i (some (.ref p))) (G.set i (.own ds)) a → MO M σ G a ∨ H a = none := fun a h => by
    rcases h with h | ⟨j, xs, h1, h2⟩
    · exact .inl (.inl h)
    · rcases set_own h1 with ⟨rfl, z, l⟩ | ⟨q, h1⟩
      · rw [List.getElem?_set_self (by rw [e.len]; exact l)] at h2
        cases h2
        exact .inr hp
      · rw [List.getElem?_set_ne q] at h2
        exact .inl (.inr ⟨j, xs, h1, h2⟩)
  have h0 : H0 p = none := by
    cases q : H0 p with
    | none => rfl
    | some o =>
      by_cases b : B0 p
      · exact absurd (e.ext.sub p b) nb
      · rw [e.ext.keep p o b q] at hp
        cases hp
  refine ⟨e.ext.trans x, e.md, by rw [List.length_set, List.length_set]; exact e.len, fun j d' h => ?_, fun j xs h => ?_, fun j l a xs ys h1 h2 h3 h4 => ?_, fun q hq => (e.gst q hq).ext x more⟩
  · rcases set_val h with ⟨_, z, _⟩ | ⟨q, h⟩
    · cases z
    · obtain ⟨u, h1, h2⟩ := e.val j d' h
      exact ⟨u, by rw [List.getElem?_set_ne q]; exact h1, h2.ext x more⟩
  · rcases set_own h with ⟨rfl, z, l⟩ | ⟨q, h⟩
    · cases z
      exact ⟨p, vs, List.getElem?_set_self (by rw [e.len]; exact l), upd_same, h0, nb, r.ext x more⟩
    · obtain ⟨a, vs, h1, h2, h3, h4, h5⟩ := e.own j xs h
      exact ⟨a, vs, by rw [List.getElem?_set_ne q]; exact h1, x.keep a _ h4 h2, h3, h4, h5.ext x more⟩
  · have far : ∀ (j : Nat) zs, i ≠ j → G[j]? = some (.own zs) → (σ.set i (some (.ref p)))[j]? = some (some (.ref a)) → a ≠ p := fun j zs q g g2 z => by
      subst z
      rw [List.getElem?_set_ne q] at g2
      obtain ⟨b, ws, k1, k2, _⟩ := e.own j zs g
      rw [g2] at k1
      cases k1
      rw [hp] at k2
      cases k2
    rcases set_own h1 with ⟨rfl, z, l1⟩ | ⟨q, h1⟩
    · rcases set_own h2 with ⟨rfl, z2, l2⟩ | ⟨q2, h2⟩
      · rfl
      · rw [List.getElem?_set_self (by rw [e.len]; exact l1)] at h3
        cases h3
        exact absurd rfl (far l _ q2 h2 h4)
    · rcases set_own h2 with ⟨rfl, z2, l2⟩ | ⟨q2, h2⟩
      · rw [List.getElem?_set_self (by rw [e.len]; exact l2)] at h4
        cases h4
        exact absurd rfl (far j _ q h1 h3)
      · rw [List.getElem?_set_ne q] at h3
        rw [List.getElem?_set_ne q2] at h4
        exact e.dist j l a xs ys h1 h2 h3 h4
/-- a list of one's own is written -/
theorem EnvS.wrOwn {i : Nat} {xs ys : List D} {a : Addr} {ws : List V} (e : EnvS K B0 H0 M Bg H σ G gs) (h : G[i]? = some (.own xs)) (ha : σ[i]? = some (some (.ref a))) (r : RepL K Bg (MO M σ G) H ws ys) :
    EnvS K B0 H0 M Bg (L2.upd H a (.lst ws)) σ (G.set i (.own ys)) gs := by
  have hi : i < G.length := (List.getElem?_eq_some_iff.mp h).1
  obtain ⟨b, vs, q1, q2, q3, q4, q5⟩ := e.own i xs h
  rw [ha] at q1
  cases q1
  have same : ∀ c, MO M σ (G.set i (.own ys)) c ↔ MO M σ G c := fun c => by
    constructor
    · rintro (h' | ⟨j, zs, h1, h2⟩)
      · exact .inl h'
      · rcases set_own h1 with ⟨rfl, z, l⟩ | ⟨q, h1⟩
        · exact .inr ⟨_, xs, h, h2⟩
        · exact .inr ⟨j, zs, h1, h2⟩
    · rintro (h' | ⟨j, zs, h1, h2⟩)
      · exact .inl h'
      · by_cases q : i = j
        · subst q
          exact .inr ⟨i, ys, List.getElem?_set_self hi, h2⟩
        · exact .inr ⟨j, zs, by rw [List.getElem?_set_ne q]; exact h1, h2⟩
  have mo : MO M σ (G.set i (.own ys)) = MO M σ G := funext fun c => propext (same c)
  have ma : MO M σ G a := .inr ⟨i, xs, h, ha⟩
  refine ⟨e.ext.write q3 q4, e.md, by rw [List.length_set]; exact e.len, fun j d' h' => ?_, fun j zs h' => ?_, fun j l c us vs h1 h2 h3 h4 => ?_, fun p hp => ?_⟩
  · rw [mo]
    rcases set_val h' with ⟨_, z, _⟩ | ⟨q, h'⟩
    · cases z
    · obtain ⟨u, h1, h2⟩ := e.val j d' h'
      exact ⟨u, h1, h2.upd ma⟩
  · rw [mo]
    rcases set_own h' with ⟨rfl, z, l⟩ | ⟨q, h'⟩
    · cases z
      exact ⟨a, ws, ha, upd_same, q3, q4, r.upd ma⟩
    · obtain ⟨c, vs, h1, h2, h3, h4, h5⟩ := e.own j zs h'
      have : c ≠ a := fun z => by
        subst z
        exact q (e.dist i j c xs zs h h' ha h1)
      exact ⟨c, vs, h1, by rw [upd_ne this]; exact h2, h3, h4, h5.upd ma⟩
  · have back : ∀ (j : Nat) (zs : List D), (G.set i (.own ys))[j]? = some (.own zs) → ∃ us, G[j]? = some (.own us) := fun j zs hh => by
      rcases set_own hh with ⟨rfl, z, l⟩ | ⟨q, hh⟩
      · exact ⟨xs, h⟩
      · exact ⟨zs, hh⟩
    obtain ⟨u1, k1⟩ := back j us h1
    obtain ⟨u2, k2⟩ := back l vs h2
    exact e.dist j l c u1 u2 k1 k2 h3 h4
  · rw [mo]
    exact (e.gst p hp).upd ma
/-- a list of one's own becomes a value -/
theorem EnvS.frz1 {i : Nat} {xs : List D} (e : EnvS K B0 H0 M Bg H σ G gs) (h : G[i]? = some (.own xs)) : EnvS K B0 H0 M Bg H σ (G.set i (.val (.lst xs))) gs := by
  obtain ⟨a, vs, q1, q2, q3, q4, q5⟩ := e.own i xs h
  have less : ∀ c, MO M σ (G.set i (.val (.lst xs))) c → MO M σ G c := fun c h' => by
    rcases h' with h' | ⟨j, zs, h1, h2⟩
    · exact .inl h'
    · rcases set_own h1 with ⟨_, z, _⟩ | ⟨q, h1⟩
      · cases z
      · exact .inr ⟨j, zs, h1, h2⟩
  have na : ¬ MO M σ (G.set i (.val (.lst xs))) a := fun h' => by
    rcases h' with h' | ⟨j, zs, h1, h2⟩
    · exact (e.md a h').1 q3
    · rcases set_own h1 with ⟨_, z, _⟩ | ⟨q, h1⟩
      · cases z
      · exact q (e.dist i j a xs zs h h1 q1 h2)
  refine ⟨e.ext, e.md, by rw [List.length_set]; exact e.len, fun j d' h' => ?_, fun j zs h' => ?_, fun j l c us vs h1 h2 h3 h4 => ?_, fun p hp => (e.gst p hp).less e.ext.bags less⟩
  · rcases set_val h' with ⟨rfl, z, _⟩ | ⟨q, h'⟩
    · cases z
      exact ⟨_, q1, .lst q2 q4 na (q5.less e.ext.bags less)⟩
    · obtain ⟨u, h1, h2⟩ := e.val j d' h'
      exact ⟨u, h1, h2.less e.ext.bags less⟩
  · rcases set_own h' with ⟨_, z, _⟩ | ⟨q, h'⟩
    · cases z
    · obtain ⟨c, vs, h1, h2, h3, h4, h5⟩ := e.own j zs h'
      exact ⟨c, vs, h1, h2, h3, h4, h5.less e.ext.bags less⟩
  · rcases set_own h1 with ⟨_, z, _⟩ | ⟨q, h1⟩
    · cases z
    · rcases set_own h2 with ⟨_, z, _⟩ | ⟨q2, h2⟩
      · cases z
      · exact e.dist j l c us vs h1 h2 h3 h4
theorem EnvS.frzL (e : EnvS K B0 H0 M Bg H σ G gs) : ∀ is : List Nat, EnvS K B0 H0 M Bg H σ (frzS G is) gs
  | [] => e
  | i :: is => by
    unfold frzS
    have ih := e.frzL is
    split
    · rename_i xs hx
      exact ih.frz1 hx
    · exact ih
theorem getO_some : ∀ {G : List Sl} {i : Nat} {xs : List D}, getO G i = some xs → G[i]? = some (.own xs)
  | [], _, _, h => by cases h
  | s :: _, 0, _, h => by cases s <;> simp_all [getO]
  | s :: G, n + 1, xs, h => by
    have h : getO G n = some xs := by cases s <;> exact h
    simpa using getO_some h
/-- the targets, over statements -/
theorem gNamesS : ∀ (is : List Nat) {σ : L2.St} {G : List Sl} {vs : List V} {ds : List D} {Q : L2.St → Hp → Prop}, EnvS K B0 H0 M Bg H σ G gs → RepL K Bg (MO M σ G) H vs ds → is.length = ds.length →
    (∀ σ1, EnvS K B0 H0 M Bg H σ1 (setAllS G is ds) gs → Q σ1 H) → gNames is vs σ H Q
  | [], _, _, _, _, _, en, .nil, hl, post => ⟨rfl, post _ en⟩
  | [], _, _, _, _, _, en, .cons _ _, hl, post => by cases hl
  | i :: is, _, _, _, _, _, en, .nil, hl, post => by cases hl
  | i :: is, _, _, _, _, _, en, .cons (v := v) (d := d) r t, hl, post => by
    refine ⟨_, _, rfl, gNamesS is (en.put r i) (t.less en.ext.bags fun a h => ?_) (by simpa using hl) post⟩
    rcases h with h | ⟨j, xs, h1, h2⟩
    · exact .inl h
    · rcases set_own h1 with ⟨_, z, _⟩ | ⟨q, h1⟩
      · cases z
      · rw [List.getElem?_set_ne q] at h2
        exact .inr ⟨j, xs, h1, h2⟩
theorem gS {tg : Tg} {x : V} {d : D} {G1 : List Sl} {Q : L2.St → Hp → Prop} (e : EnvS K B0 H0 M Bg H σ G gs) (r : Rep K Bg (MO M σ G) H x d) (hb : bindS tg d G = some G1) (post : ∀ σ1, EnvS K B0 H0 M Bg H σ1 G1 gs → Q σ1 H) : gOf K tg x σ H Q := by
  cases tg with
  | name i =>
    cases hb
    exact post _ (e.put r i)
  | tup is =>
    cases d with
    | tup ds =>
      simp only [bindS] at hb
      split at hb
      · rename_i hl
        cases hb
        obtain ⟨a, vs, rfl, hs, rl⟩ := r.tup_inv
        exact ⟨a, vs, rfl, hs, by rw [rl.len]; exact hl.symm, gNamesS is e rl hl post⟩
      · cases hb
    | _ => cases hb
end
structure Kont (K : PySem.W.Frag) (B0 : AP) (H0 : Hp) (M : AP) (gs : List (V × D)) (kd : Ks) (Dn : Ends) : Prop where
  nx : ∀ Bg H σ G, EnvS K B0 H0 M Bg H σ G gs → kd.nx G → Dn.nx σ H
  rt : ∀ Bg H v d, Ext B0 H0 Bg H → Rep K Bg M H v d → kd.rt d → Dn.rt v H
  bk : ∀ Bg H σ G, EnvS K B0 H0 M Bg H σ G gs → kd.bk G → Dn.bk σ H
  ct : ∀ Bg H σ G, EnvS K B0 H0 M Bg H σ G gs → kd.ct G → Dn.ct σ H
def TSok (K : PySem.W.Frag) (F : List DC) (t : TS) (s : S) : Prop := ∀ (B0 : AP) (H0 : Hp) (M Bg : AP) (H : Hp) (σ : L2.St) (G : List Sl) (gs : List (V × D)) (kd : Ks) (Dn : Ends), EnvS K B0 H0 M Bg H σ G gs → wpS F s G kd → Kont K B0 H0 M gs kd Dn → t Dn σ H
def TSsok (K : PySem.W.Frag) (F : List DC) (t : TS) (s : List S) : Prop := ∀ (B0 : AP) (H0 : Hp) (M Bg : AP) (H : Hp) (σ : L2.St) (G : List Sl) (gs : List (V × D)) (kd : Ks) (Dn : Ends), EnvS K B0 H0 M Bg H σ G gs → wpSs F s G kd → Kont K B0 H0 M gs kd Dn → t Dn σ H
section
variable {K : PySem.W.Frag} {F : List DC} {te : TE} {e : E}
theorem oks_asg {i : Nat} (h : TEok K F te e) : TSok K F (tAsg te (gName i)) (.asg i e) := fun B0 H0 M Bg H σ G gs kd Dn en w ko => by
  simp only [wpS] at w
  exact h _ _ _ _ _ _ _ en.env w fun d v B1 H1 e1 r q => ko.nx _ _ _ _ ((en.grow e1).put r i) q
theorem oks_asgL {i : Nat} {t : TA} {es : List E} (h : TAok K F t es) (hl : es.length ≤ 1000) : TSok K F (tAsg (tLst t) (gName i)) (.asgL i es) := fun B0 H0 M Bg H σ G gs kd Dn en w ko => by
  simp only [wpS] at w
  refine h _ _ _ _ _ _ _ en.env w fun ds vs B1 H1 e1 rl hn q => ⟨size1000 (by rw [rl.len, hn]; exact hl), fun p hp => ?_⟩
  exact ko.nx _ _ _ _ ((en.grow e1).putOwn rl hp i) q
theorem oks_par {i j : Nat} {ta tb : TE} {a b : E} (ha : TEok K F ta a) (hb : TEok K F tb b) : TSok K F (tPar i j (tCons ta (tCons tb tNil))) (.par i j a b) := fun B0 H0 M Bg H σ G gs kd Dn en w ko => by
  simp only [wpS] at w
  refine ha _ _ _ _ _ _ _ en.env w fun x vx B1 H1 e1 rx w1 => ?_
  refine hb _ _ _ _ _ _ _ (en.env.ext e1) w1 fun y vy B2 H2 e2 ry w2 => ?_
  have en2 := (en.grow e1).grow e2
  have less : ∀ a, MO M (σ.set i (some vx)) (G.set i (.val x)) a → MO M σ G a := fun a h => by
    rcases h with h | ⟨l, xs, h1, h2⟩
    · exact .inl h
    · rcases set_own h1 with ⟨_, z, _⟩ | ⟨q, h1⟩
      · cases z
      · rw [List.getElem?_set_ne q] at h2
        exact .inr ⟨l, xs, h1, h2⟩
  exact ⟨_, _, rfl, ko.nx _ _ _ _ ((en2.put (rx.ext e2 fun a m => .inl m) i).put (ry.less e2.bags less) j) w2⟩
theorem oks_par3 {i j l : Nat} {ta tb tc : TE} {a b c : E} (ha : TEok K F ta a) (hb : TEok K F tb b) (hc : TEok K F tc c) : TSok K F (tPar3 i j l (tCons ta (tCons tb (tCons tc tNil)))) (.unp [i, j, l] (.tup [a, b, c])) := fun B0 H0 M Bg H σ G gs kd Dn en w ko => by
  simp only [wpS, wpE, wpEs, bindS, List.length_cons, List.length_nil, if_true, setAllS] at w
  refine ha _ _ _ _ _ _ _ en.env w fun x vx B1 H1 e1 rx w1 => ?_
  refine hb _ _ _ _ _ _ _ (en.env.ext e1) w1 fun y vy B2 H2 e2 ry w2 => ?_
  refine hc _ _ _ _ _ _ _ ((en.env.ext e1).ext e2) w2 fun z vz B3 H3 e3 rz w3 => ?_
  have en3 := ((en.grow e1).grow e2).grow e3
  have less : ∀ (i : Nat) (G : List Sl) (σ : List (Option V)) (x : D) (vx : V) a, MO M (σ.set i (some vx)) (G.set i (.val x)) a → MO M σ G a := fun i G σ x vx a h => by
    rcases h with h | ⟨l, xs, h1, h2⟩
    · exact .inl h
    · rcases set_own h1 with ⟨_, z, _⟩ | ⟨q, h1⟩
      · cases z
      · rw [List.getElem?_set_ne q] at h2
        exact .inr ⟨l, xs, h1, h2⟩
  refine ⟨_, _, _, rfl, ko.nx _ _ _ _ (((en3.put ((rx.ext e2 fun a m => .inl m).ext e3 fun a m => .inl m) i).put ((ry.ext e3 fun a m => .inl m).less e3.bags (less i _ _ _ _)) j).put (rz.less e3.bags fun a m => less i _ _ _ _ a (less j _ _ _ _ a m)) l) w3⟩
theorem oks_unp {is : List Nat} (h : TEok K F te e) : TSok K F (tAsg te (gOf K (.tup is))) (.unp is e) := fun B0 H0 M Bg H σ G gs kd Dn en w ko => by
  simp only [wpS] at w
  refine h _ _ _ _ _ _ _ en.env w fun d v B1 H1 e1 r q => ?_
  split at q
  · rename_i G1 hb
    exact gS (en.grow e1) r hb fun σ1 en1 => ko.nx _ _ _ _ en1 q
  · exact q.elim
def rAug : BO → TIp
  | .add => rI0 fun i j => .int (i + j)
  | .sub => rI0 fun i j => .int (i - j)
  | .mul => rI CMulW fun i j => .int (i * j)
  | .fdiv => rI CDivA fun i j => .int (i.fdiv j)
  | .mod => rI (fun _ j => j ≠ 0) fun i j => .int (i.fmod j)
  | .pow => rFalse
theorem pip_of (X : Cx) : ∀ o : BO, PIp X (boOf o) (rAug o)
  | .add => iop_add
  | .sub => iop_sub
  | .mul => opI (f := inplaceOp .Mult) fun _ _ _ _ _ _ _ hc q => imul_int q hc.ok
  | .fdiv => opI (f := inplaceOp .FloorDiv) fun _ _ _ _ _ _ _ hc q => ifloordiv_int hc.1 q (.inl (PyProof.noPylong_of_log2 hc.2))
  | .mod => opI (f := inplaceOp .Mod) fun _ _ _ _ _ _ _ hc q => imod_int hc q
  | .pow => fun _ _ _ _ _ _ _ _ _ _ _ _ h => False.elim h
theorem oks_aug {i : Nat} {o : BO} (h : TEok K F te e) : TSok K F (tAug i te (rAug o)) (.aug i o e) := fun B0 H0 M Bg H σ G gs kd Dn en w ko => by
  simp only [wpS] at w
  split at w
  · rename_i x hx
    obtain ⟨v, hv, rv⟩ := en.val i x (vals_get hx)
    refine ⟨v, hv, h _ _ _ _ _ _ _ en.env w fun y vy B1 H1 e1 ry w1 => ?_⟩
    have fin : ∀ z : D, Rep K B1 (MO M σ G) H1 (match z with | .int n => V.int n | _ => .non) z → kd.nx (G.set i (.val z)) → Dn.nx (σ.set i (some (match z with | .int n => V.int n | _ => .non))) H1 := fun z rz q => ko.nx _ _ _ _ ((en.grow e1).put rz i) q
    cases o <;> cases x <;> cases y <;> simp only [augop, bop] at w1 <;> first
      | exact ⟨_, _, rv.int_inv, ry.int_inv, fin (.int _) (.int _) w1⟩
      | exact ⟨_, _, rv.int_inv, ry.int_inv, w1.1, fin (.int _) (.int _) w1.2⟩
  · exact w.elim
theorem oks_app {i : Nat} (h : TEok K F te e) : TSok K F (tDrop (tBM K "list" rAppend (tVar i) (tCons te tNil))) (.app i e) := fun B0 H0 M Bg H σ G gs kd Dn en w ko => by
  simp only [wpS] at w
  split at w
  · rename_i xs hx
    have hx := getO_some hx
    obtain ⟨a, vs, h1, h2, h3, h4, h5⟩ := en.own i xs hx
    refine ⟨.ref a, h1, .inl ⟨rfl, _, .inl (.inl h2)⟩, h _ _ _ _ _ _ _ en.env w fun d v B1 H1 e1 r q => ?_⟩
    obtain ⟨b, us, k1, k2, k3, k4, k5⟩ := (en.grow e1).own i xs hx
    rw [h1] at k1
    cases k1
    exact ⟨a, us, v, rfl, rfl, k2, by rw [k5.len]; exact Nat.lt_of_lt_of_le q.1 (by decide), ko.nx _ _ _ _ ((en.grow e1).wrOwn hx h1 (k5.append (.cons r .nil))) q.2⟩
  · exact w.elim
theorem oks_extL {i : Nat} (h : TEok K F te e) : TSok K F (tAug i te rExt2) (.extL i e) := fun B0 H0 M Bg H σ G gs kd Dn en w ko => by
  simp only [wpS] at w
  split at w
  · rename_i xs hx
    have hx := getO_some hx
    obtain ⟨a, vs, h1, h2, h3, h4, h5⟩ := en.own i xs hx
    refine ⟨.ref a, h1, h _ _ _ _ _ _ _ en.env w fun d v B1 H1 e1 r q => ?_⟩
    cases d with
    | lst ys =>
      obtain ⟨b, us, k1, k2, k3, k4, k5⟩ := (en.grow e1).own i xs hx
      rw [h1] at k1
      cases k1
      obtain ⟨c, ws, rfl, hc, _, _, rc⟩ := r.lst_inv
      have hi : i < σ.length := (List.getElem?_eq_some_iff.mp h1).1
      have es : σ.set i (some (.ref a)) = σ := by
        apply List.ext_getElem?
        intro j
        by_cases z : i = j
        · subst z
          rw [List.getElem?_set_self hi, h1]
        · rw [List.getElem?_set_ne z]
      refine ⟨a, c, us, ws, rfl, rfl, k2, hc, by rw [k5.len, rc.len]; exact Nat.le_of_lt (Nat.lt_of_lt_of_le q.1 (by decide)), ?_⟩
      dsimp only
      rw [es]
      exact ko.nx _ _ _ _ ((en.grow e1).wrOwn hx h1 (k5.append rc)) q.2
    | _ => exact q.elim
  · exact w.elim
theorem oks_setB {n : Nat} {ta : TE} {a : E} (h : TEok K F te e) (ha : TEok K F ta a) : TSok K F (tAsg te (gSub ta (tC (.int (n : Int))) rSetL)) (.setB a n e) := fun B0 H0 M Bg H σ G gs kd Dn en w ko => by
  simp only [wpS] at w
  refine h _ _ _ _ _ _ _ en.env w fun d v B1 H1 e1 r w1 => ?_
  refine ha _ _ _ _ _ _ _ (en.env.ext e1) w1 fun b vb B2 H2 e2 rb w2 => ?_
  cases b <;> first
    | exact False.elim w2
    | skip
  cases d <;> first
    | exact False.elim w2
    | skip
  rename_i i
  obtain ⟨⟨hn, hi, hi2⟩, w2⟩ := w2
  obtain ⟨p, rfl, hb⟩ := rb.bag_inv
  obtain ⟨L, M', hl, q1, q2, q3⟩ := e2.bags p hb
  rw [r.int_inv]
  have fin : ∀ (L' N' : Int), 0 ≤ L' → 0 ≤ N' → N' < 2 ^ 32 → Ext B2 H2 B2 (L2.upd H2 p (.lst [.int L', .int N'])) := fun L' N' g1 g2 g3 => by
    refine ⟨fun _ z => z, fun _ z n => absurd z n, fun q o nq hq => ?_, fun q hq => ?_⟩
    · rw [upd_ne (fun z => nq (by rw [z]; exact hb))]
      exact hq
    · by_cases z : q = p
      · subst z
        exact ⟨L', N', upd_same, g1, g2, g3⟩
      · obtain ⟨L2, M2, k1, k2⟩ := e2.bags q hq
        exact ⟨L2, M2, by rw [upd_ne z]; exact k1, k2⟩
  have en2 := (en.grow e1).grow e2
  have cs : n = 0 ∨ n = 1 := by omega
  rcases cs with rfl | rfl
  · exact ⟨p, _, _, 0, rfl, rfl, hl, rfl, ko.nx _ _ _ _ (en2.grow (fin i M' hi q2 q3)) w2⟩
  · exact ⟨p, _, _, 1, rfl, rfl, hl, rfl, ko.nx _ _ _ _ (en2.grow (fin L i q1 hi (hi2 rfl))) w2⟩
theorem oks_drop (h : TEok K F te e) : TSok K F (tDrop te) (.drop e) := fun B0 H0 M Bg H σ G gs kd Dn en w ko => by
  simp only [wpS] at w
  exact h _ _ _ _ _ _ _ en.env w fun d v B1 H1 e1 r q => ko.nx _ _ _ _ (en.grow e1) q
theorem oks_ret (h : TEok K F te e) : TSok K F (tRet te) (.ret e) := fun B0 H0 M Bg H σ G gs kd Dn en w ko => by
  simp only [wpS] at w
  exact h _ _ _ _ _ _ _ en.env w fun d v B1 H1 e1 r q => ko.rt _ _ _ _ (en.ext.trans e1) (r.less e1.bags fun a m => .inl m) q
theorem oks_retN : TSok K F tRetN .retN := fun B0 H0 M Bg H σ G gs kd Dn en w ko => by
  simp only [wpS] at w
  exact ko.rt _ _ _ _ en.ext .non w
theorem oks_brk : TSok K F tBreak .brk := fun B0 H0 M Bg H σ G gs kd Dn en w ko => by
  simp only [wpS] at w
  exact ko.bk _ _ _ _ en w
theorem oks_cnt : TSok K F tCont .cnt := fun B0 H0 M Bg H σ G gs kd Dn en w ko => by
  simp only [wpS] at w
  exact ko.ct _ _ _ _ en w
theorem oks_pass : TSok K F tNext .pass := fun B0 H0 M Bg H σ G gs kd Dn en w ko => by
  simp only [wpS] at w
  exact ko.nx _ _ _ _ en w
theorem oks_ite {tt : TT} {t : E} {ta tb : TS} {a b : List S} (ht : TTok K F tt t) (ha : TSsok K F ta a) (hb : TSsok K F tb b) : TSok K F (tIfS tt ta tb) (.ite t a b) := fun B0 H0 M Bg H σ G gs kd Dn en w ko => by
  simp only [wpS] at w
  refine ht _ _ _ _ _ _ _ en.env w fun q B1 H1 e1 w1 => ?_
  cases q with
  | true =>
    simp only [if_true] at w1 ⊢
    exact ha _ _ _ _ _ _ _ _ _ _ (en.grow e1) w1 ko
  | false =>
    simp only [Bool.false_eq_true, if_false] at w1 ⊢
    exact hb _ _ _ _ _ _ _ _ _ _ (en.grow e1) w1 ko
theorem oks_nil : TSsok K F tNext [] := fun B0 H0 M Bg H σ G gs kd Dn en w ko => by
  simp only [wpSs] at w
  exact ko.nx _ _ _ _ en w
theorem oks_cons {t u : TS} {s : S} {r : List S} (h : TSok K F t s) (hr : TSsok K F u r) : TSsok K F (tSeq t u) (s :: r) := fun B0 H0 M Bg H σ G gs kd Dn en w ko => by
  simp only [wpSs] at w
  exact h _ _ _ _ _ _ _ _ _ _ en w ⟨fun B1 H1 σ1 G1 en1 w1 => hr _ _ _ _ _ _ _ _ _ _ en1 w1 ko, ko.rt, ko.bk, ko.ct⟩
theorem oks_frz {u : TS} {is : List Nat} {r : List S} (hr : TSsok K F u r) : TSsok K F u (.frz is :: r) := fun B0 H0 M Bg H σ G gs kd Dn en w ko => by
  simp only [wpSs, wpS] at w
  exact hr _ _ _ _ _ _ _ _ _ _ (en.frzL is) w ko
theorem oks_for {wi : TI} {tb : TS} {tg : Tg} {k : IK} {as : List E} {body : List S} (hi : TIok K F wi k as) (hb : TSsok K F tb body) : TSok K F (tFor wi (gOf K tg) tb) (.forS tg k as body) := fun B0 H0 M Bg H σ G gs kd Dn en w ko => by
  simp only [wpS] at w
  refine hi _ _ _ _ _ _ _ en.env w fun xs J g2 B1 H1 e1 hg W w1 => ?_
  let N : Nat → L2.St → Hp → Prop := fun i σ' H' => ∃ (B : AP) (G' : List Sl), EnvS K B0 H0 M B H' σ' G' (g2 ++ gs) ∧ wpFor (fun G1 K1 => wpSs F body G1 K1) tg kd (xs.drop i) G'
  have en1 : EnvS K B0 H0 M B1 H1 σ G (g2 ++ gs) := by
    have z := en.grow e1
    exact ⟨z.ext, z.md, z.len, z.val, z.own, z.dist, fun p hp => (List.mem_append.mp hp).elim (hg p) (z.gst p)⟩
  have drp : ∀ {B : AP} {H' : Hp} {σ' : L2.St} {G' : List Sl}, EnvS K B0 H0 M B H' σ' G' (g2 ++ gs) → EnvS K B0 H0 M B H' σ' G' gs := fun z => ⟨z.ext, z.md, z.len, z.val, z.own, z.dist, fun p hp => z.gst p (List.mem_append_right _ hp)⟩
  refine ⟨fun i m σ' H' => m = xs.length - i ∧ i ≤ xs.length ∧ N i σ' H', ⟨xs.length, by simp, Nat.zero_le _, B1, G, en1, by simpa using w1⟩, ?_⟩
  rintro i m σ2 H2 ⟨rfl, hil, B, G2, en2, wf⟩
  have gh : ∀ p ∈ g2, Rep K B (MO M σ2 G2) H2 p.1 p.2 := fun p hp => en2.gst p (List.mem_append_left _ hp)
  by_cases hlt : i < xs.length
  · right
    obtain ⟨d, hd⟩ : ∃ d, xs[i]? = some d := ⟨xs[i], by simp [hlt]⟩
    have hdrop : xs.drop i = d :: xs.drop (i + 1) := by
      rw [List.drop_eq_getElem_cons hlt]
      congr 1
      rw [List.getElem?_eq_getElem hlt] at hd
      exact Option.some.inj hd
    rw [hdrop] at wf
    simp only [wpFor] at wf
    obtain ⟨hgo, hy⟩ := W.step B (MO M σ2 G2) H2 i d en2.ext.bags en2.mo gh hd
    refine ⟨hgo, N (i + 1), fun σ' H' hn => ⟨xs.length - (i + 1), by omega, rfl, hlt, hn⟩, fun x H3 hyl => ?_⟩
    obtain ⟨e3, rx⟩ := hy x H3 hyl
    split at wf
    · rename_i G3 hG
      refine gS (en2.grow e3) rx hG fun σ3 en3 => ?_
      refine hb _ _ _ _ _ _ _ _ _ _ en3 wf ⟨fun B4 H4 σ4 G4 en4 w4 => ⟨B4, G4, en4, w4⟩, ko.rt, fun B4 H4 σ4 G4 en4 w4 => ko.nx _ _ _ _ (drp en4) w4, fun B4 H4 σ4 G4 en4 w4 => ⟨B4, G4, en4, w4⟩⟩
    · exact wf.elim
  · left
    have e : i = xs.length := by omega
    subst e
    rw [List.drop_length] at wf
    simp only [wpFor] at wf
    exact ⟨W.stop B (MO M σ2 G2) H2 gh, ko.nx _ _ _ _ (drp en2) wf⟩
theorem oks_while {tt : TT} {t : E} {tb : TS} {body : List S} (ht : TTok K F tt t) (hb : TSsok K F tb body) : TSok K F (tWhile tt tb) (.whileS t body) := fun B0 H0 M Bg H σ G gs kd Dn en w ko => by
  simp only [wpS] at w
  obtain ⟨n, w⟩ := w
  refine ⟨fun m σ' H' => ∃ (B : AP) (G' : List Sl), EnvS K B0 H0 M B H' σ' G' gs ∧ wpWh (fun G1 Q => wpE F t (vals G1) fun x => dtru x Q) (fun G1 K1 => wpSs F body G1 K1) kd m G', ⟨n, Bg, G, en, w⟩, ?_⟩
  rintro m σ1 H1 ⟨B, G1, en1, w1⟩
  cases m with
  | zero => exact w1.elim
  | succ m =>
    simp only [wpWh] at w1
    refine ht _ _ _ _ _ _ _ en1.env w1 fun q B2 H2 e2 w2 => ?_
    cases q with
    | true =>
      simp only [if_true] at w2 ⊢
      refine ⟨fun σ' H' => ∃ (B : AP) (G' : List Sl), EnvS K B0 H0 M B H' σ' G' gs ∧ wpWh (fun G1 Q => wpE F t (vals G1) fun x => dtru x Q) (fun G1 K1 => wpSs F body G1 K1) kd m G', fun σ' H' z => ⟨m, Nat.lt_succ_self m, z⟩, ?_⟩
      exact hb _ _ _ _ _ _ _ _ _ _ (en1.grow e2) w2 ⟨fun B4 H4 σ4 G4 en4 w4 => ⟨B4, G4, en4, w4⟩, ko.rt, ko.nx, fun B4 H4 σ4 G4 en4 w4 => ⟨B4, G4, en4, w4⟩⟩
    | false =>
      simp only [Bool.false_eq_true, if_false] at w2 ⊢
      exact ko.nx _ _ _ _ (en1.grow e2) w2
end
end OC
set_option Elab.async false
set_option linter.all false
set_option maxRecDepth 100000
set_option maxHeartbeats 4000000
/-! Onecut: the look at statements, and a def by its body. -/
namespace OC
open PySem PySem.Spec PyProof.Rows L2
def asAsg : Stmt → Option (Expr × Expr × Pos)
  | .Assign [t] v p => some (t, v, p)
  | _ => none
theorem asAsg_ok {s : Stmt} {t v : Expr} {p : Pos} (h : asAsg s = some (t, v, p)) : s = .Assign [t] v p := by
  unfold asAsg at h
  split at h
  · cases h; rfl
  · cases h
def asAug : Stmt → Option (Str × Operator × Expr)
  | .AugAssign (.Name x _) o v _ => some (x, o, v)
  | _ => none
theorem asAug_ok {s : Stmt} {x : Str} {o : Operator} {v : Expr} (h : asAug s = some (x, o, v)) : ∃ p q, s = .AugAssign (.Name x p) o v q := by
  unfold asAug at h
  split at h
  · cases h; exact ⟨_, _, rfl⟩
  · cases h
def asEx : Stmt → Option (Expr × Pos)
  | .Expr v p => some (v, p)
  | _ => none
theorem asEx_ok {s : Stmt} {v : Expr} {p : Pos} (h : asEx s = some (v, p)) : s = .Expr v p := by
  unfold asEx at h
  split at h
  · cases h; rfl
  · cases h
def asMeth : Expr → Option (Str × Str × Pos × Expr × Pos)
  | .Call (.Attribute (.Name x _) m ap) [e] [] cp => some (x, m, ap, e, cp)
  | _ => none
theorem asMeth_ok {s : Expr} {x m : Str} {ap cp : Pos} {e : Expr} (h : asMeth s = some (x, m, ap, e, cp)) : ∃ p, s = .Call (.Attribute (.Name x p) m ap) [e] [] cp := by
  unfold asMeth at h
  split at h
  · cases h; exact ⟨_, rfl⟩
  · cases h
def asRet : Stmt → Option (Option Expr)
  | .Return v _ => some v
  | _ => none
theorem asRet_ok {s : Stmt} {v : Option Expr} (h : asRet s = some v) : ∃ p, s = .Return v p := by
  unfold asRet at h
  split at h
  · cases h; exact ⟨_, rfl⟩
  · cases h
def asIfS : Stmt → Option (Expr × List Stmt × List Stmt)
  | .If t a b _ => some (t, a, b)
  | _ => none
theorem asIfS_ok {s : Stmt} {t : Expr} {a b : List Stmt} (h : asIfS s = some (t, a, b)) : ∃ p, s = .If t a b p := by
  unfold asIfS at h
  split at h
  · cases h; exact ⟨_, rfl⟩
  · cases h
def asFor : Stmt → Option (Expr × Expr × List Stmt)
  | .For t i b [] _ => some (t, i, b)
  | _ => none
theorem asFor_ok {s : Stmt} {t i : Expr} {b : List Stmt} (h : asFor s = some (t, i, b)) : ∃ p, s = .For t i b [] p := by
  unfold asFor at h
  split at h
  · cases h; exact ⟨_, rfl⟩
  · cases h
def asWh : Stmt → Option (Expr × List Stmt)
  | .While t b [] _ => some (t, b)
  | _ => none
theorem asWh_ok {s : Stmt} {t : Expr} {b : List Stmt} (h : asWh s = some (t, b)) : ∃ p, s = .While t b [] p := by
  unfold asWh at h
  split at h
  · cases h; exact ⟨_, rfl⟩
  · cases h
def stK : Stmt → Nat
  | .Break _ => 1
  | .Continue _ => 2
  | .Pass _ => 3
  | _ => 0
/-- a pair of names -/
def asPair : Expr → Option (Str × Pos × Str × Pos)
  | .Tuple [.Name x px, .Name y py] _ _ => some (x, px, y, py)
  | _ => none
theorem asPair_ok {e : Expr} {x y : Str} {px py : Pos} (h : asPair e = some (x, px, y, py)) : ∃ k p, e = .Tuple [.Name x px, .Name y py] k p := by
  unfold asPair at h
  split at h
  · cases h; exact ⟨_, _, rfl⟩
  · cases h
/-- no comprehension -/
def noComp : Expr → Bool
  | .ListComp .. => false
  | .SetComp .. => false
  | .DictComp .. => false
  | _ => true
theorem sw_no {e : Expr} {t : Option Expr} {l : Nat} {env : Env} (h : noComp e = true) : swapsWith e t l env = pure false := by
  cases e <;> first | rfl | cases h
def noTup : Expr → Bool
  | .Tuple .. => false
  | _ => true
theorem ss_no {t e : Expr} {env : Env} (h : noTup e = true) : swappedStores [t] e env = pure none := by
  cases e <;> first
    | (cases h; done)
    | (cases t <;> rfl)
/-- the scope of a comprehension, and where it stands -/
def lcSc : Expr → Option (Scope × Pos)
  | .ListComp _ _ s p => some (s, p)
  | _ => none
/-- name = [..] with the names swapped -/
def swT (sc : Scope) (x : Str) (px : Pos) (e : Expr) : Bool := match lcSc e with
  | some (s, p) => isLoc sc x && (px.line == p.line) && !(s.names.any fun (n, k) => n == x && (k == .local || k == .cell))
  | none => false
theorem sw_cell {elt : Expr} {gs : List Comprehension} {scope : Scope} {pos py : Pos} {y : Str} {l : Nat} {env : Env} (hk : env.scope.kind = .function) (hy : env.scope.names.lookup y = some .cell) : swapsWith (.ListComp elt gs scope pos) (some (.Name y py)) l env = pure false := by
  have ky : env.kindOf y = some .cell := hy
  have hb : env.blockKind = .function := by unfold Env.blockKind; rw [hk]; rfl
  unfold swapsWith
  simp only [hb, ky]
  rfl
theorem ss_par {x y : Str} {px py pt pt2 : Pos} {a b : Expr} {kt k2 : Nat} {env : Env} (hk : env.scope.kind = .function) (hx : env.scope.names.lookup x = some .local) (hy : env.scope.names.lookup y = some .local) (hl : (py.line == px.line) = true) (hxy : x ≠ y)
    (ha : nst a = true) (hb : nst b = true) (hf : [a, b].all (foldedForSure 8) = false) (hc : [a, b].all (constantsAlone 8) = false) : swappedStores [.Tuple [.Name x px, .Name y py] kt pt] (.Tuple [a, b] k2 pt2) env = pure (some [x, y]) := by
  have kx : env.kindOf x = some .local := hx
  have ky : env.kindOf y = some .local := hy
  have hbk : env.blockKind = .function := by unfold Env.blockKind; rw [hk]; rfl
  have hl' : py.line = px.line := by simpa using hl
  have one : ∀ e : Expr, nst e = true → (match e with | .Starred .. => true | _ => false) = false := fun e h => by
    cases e <;> first | rfl | exact absurd h (by simp [nst])
  have n1 : ([a, b].any fun | .Starred .. => true | _ => false) = false := by
    rw [List.any_cons, List.any_cons, List.any_nil, one a ha, one b hb]
    rfl
  have hed : ([x, y] : List Str).eraseDups.length = 2 := by
    have : ¬ (y == x) = true := by simpa using fun z : y = x => hxy z.symm
    simp [List.eraseDups_cons, this]
  have hfm : (([.Name x px, .Name y py] : List Expr).filterMap fun e => match e with
      | .Name id pos => if env.kindOf id == some .local && pos.line == px.line then some id else none
      | _ => none) = [x, y] := by
    simp [List.filterMap_cons, kx, ky, hl']
  unfold swappedStores
  simp only [hbk, hf, hc]
  rw [if_neg (by simp)]
  rw [if_neg (by intro z; exact absurd (n1.symm.trans z) Bool.false_ne_true)]
  have hh : (Option.map (fun x => x.pos.line) ([Expr.Name x px, Expr.Name y py] : List Expr).head?).getD 0 = px.line := rfl
  rw [hh]
  erw [hfm]
  rw [if_neg (by rw [hed]; simp)]
  rfl
/-- a tuple of targets that is not stored from the right -/
def swN (sc : Scope) (t v : Expr) : Bool := match t, v with
  | .Tuple ts _ _, .Tuple vs _ _ => !(ts.length == 2 || ts.length == 3) || vs.all (foldedForSure 8) || ts.any fun e => match e with
    | .Name x _ => isCell sc x
    | _ => true
  | _, _ => noTup v
theorem fm_lt {α β : Type} {f : α → Option β} : ∀ {l : List α}, (∃ x ∈ l, f x = none) → (l.filterMap f).length < l.length
  | [], ⟨_, h, _⟩ => by cases h
  | a :: l, ⟨x, h, e⟩ => by
    rcases List.mem_cons.mp h with rfl | h
    · rw [List.filterMap_cons_none e]
      exact Nat.lt_succ_of_le (List.length_filterMap_le f l)
    · have ih := fm_lt ⟨x, h, e⟩
      cases ha : f a with
      | none =>
        rw [List.filterMap_cons_none ha]
        exact Nat.lt_succ_of_lt ih
      | some b =>
        rw [List.filterMap_cons_some ha]
        exact Nat.succ_lt_succ ih
theorem ss_swN {t e : Expr} {env : Env} {sc : Scope} (hs : env.scope = sc) (h : swN sc t e = true) : swappedStores [t] e env = pure none := by
  unfold swN at h
  split at h
  · rename_i ts kt pt vs k2 p2
    unfold swappedStores
    simp only [Bool.or_eq_true] at h
    dsimp only
    split
    · rfl
    split
    · rfl
    split
    · rfl
    rename_i c1 c2 c3
    split
    · rfl
    rename_i c4
    rcases h with (h | h) | h
    · exfalso
      apply c1
      simp only [h, Bool.true_or]
    · exact absurd h c4
    · exfalso
      apply c3
      simp only [List.any_eq_true] at h
      obtain ⟨x, hx, hc⟩ := h
      have : (List.filterMap (fun e => match e with
        | .Name id pos => if env.kindOf id == some .local && pos.line == (Option.map (fun x => x.pos.line) ts.head?).getD 0 then some id else none
        | _ => none) ts).length < ts.length := by
        refine fm_lt ⟨x, hx, ?_⟩
        cases x <;> first
          | rfl
          | skip
        rename_i n q
        have kn : env.kindOf n = some .cell := by
          show env.scope.names.lookup n = _
          rw [hs]
          exact isCell_ok hc
        simp [kn]
      simp only [Bool.or_eq_true, bne_iff_ne, ne_eq]
      exact .inl (Nat.ne_of_lt this)
  · exact ss_no h
/-- three names -/
def asTrip : Expr → Option (Str × Pos × Str × Pos × Str × Pos)
  | .Tuple [.Name x px, .Name y py, .Name z pz] _ _ => some (x, px, y, py, z, pz)
  | _ => none
theorem asTrip_ok {e : Expr} {x y z : Str} {px py pz : Pos} (h : asTrip e = some (x, px, y, py, z, pz)) : ∃ k p, e = .Tuple [.Name x px, .Name y py, .Name z pz] k p := by
  unfold asTrip at h
  split at h
  · cases h; exact ⟨_, _, rfl⟩
  · cases h
theorem ss_par3 {x y z : Str} {px py pz pt pt2 : Pos} {a b c : Expr} {kt k2 : Nat} {env : Env} (hk : env.scope.kind = .function) (hx : env.scope.names.lookup x = some .local) (hy : env.scope.names.lookup y = some .local) (hz : env.scope.names.lookup z = some .local)
    (hl : (py.line == px.line) = true) (hl2 : (pz.line == px.line) = true) (hxy : x ≠ y) (hxz : x ≠ z) (hyz : y ≠ z)
    (ha : nst a = true) (hb : nst b = true) (hc' : nst c = true) (hf : [a, b, c].all (foldedForSure 8) = false) (hc : [a, b, c].all (constantsAlone 8) = false) : swappedStores [.Tuple [.Name x px, .Name y py, .Name z pz] kt pt] (.Tuple [a, b, c] k2 pt2) env = pure (some [x, y, z]) := by
  have kx : env.kindOf x = some .local := hx
  have ky : env.kindOf y = some .local := hy
  have kz : env.kindOf z = some .local := hz
  have hbk : env.blockKind = .function := by unfold Env.blockKind; rw [hk]; rfl
  have hl' : py.line = px.line := by simpa using hl
  have hl2' : pz.line = px.line := by simpa using hl2
  have one : ∀ e : Expr, nst e = true → (match e with | .Starred .. => true | _ => false) = false := fun e h => by
    cases e <;> first | rfl | exact absurd h (by simp [nst])
  have n1 : ([a, b, c].any fun | .Starred .. => true | _ => false) = false := by
    rw [List.any_cons, List.any_cons, List.any_cons, List.any_nil, one a ha, one b hb, one c hc']
    rfl
  have hed : ([x, y, z] : List Str).eraseDups.length = 3 := by
    have h1 : ¬ (y == x) = true := by simpa using fun q : y = x => hxy q.symm
    have h2 : ¬ (z == x) = true := by simpa using fun q : z = x => hxz q.symm
    have h3 : ¬ (z == y) = true := by simpa using fun q : z = y => hyz q.symm
    simp [List.eraseDups_cons, h1, h2, h3]
  have hfm : (([.Name x px, .Name y py, .Name z pz] : List Expr).filterMap fun e => match e with
      | .Name id pos => if env.kindOf id == some .local && pos.line == px.line then some id else none
      | _ => none) = [x, y, z] := by
    simp [List.filterMap_cons, kx, ky, kz, hl', hl2']
  unfold swappedStores
  simp only [hbk, hf, hc]
  rw [if_neg (by simp)]
  rw [if_neg (by intro z; exact absurd (n1.symm.trans z) Bool.false_ne_true)]
  have hh : (Option.map (fun x => x.pos.line) ([Expr.Name x px, Expr.Name y py, Expr.Name z pz] : List Expr).head?).getD 0 = px.line := rfl
  rw [hh]
  erw [hfm]
  rw [if_neg (by rw [hed]; simp)]
  rfl
/-- three names, three values -/
def chk3 (C : Ck) (sc : Scope) (is : List Nat) (e : E) (t v : Expr) : Bool := match is, e, asTrip t, asTup v with
  | [i, j, l], .tup [a, b, c], some (x, px, y, py, z, pz), some [u, q, r] =>
    decide (C.N[i]? = some x) && decide (C.N[j]? = some y) && decide (C.N[l]? = some z) && decide (i ≠ j) && decide (i ≠ l) && decide (j ≠ l) && isLoc sc x && isLoc sc y && isLoc sc z && (py.line == px.line) && (pz.line == px.line) &&
    decide (x ≠ y) && decide (x ≠ z) && decide (y ≠ z) && nst u && nst q && nst r && !([u, q, r].all (foldedForSure 8)) && !([u, q, r].all (constantsAlone 8)) && chkE C sc false a u && chkE C sc false b q && chkE C sc false c r
  | _, _, _, _ => false
end OC
set_option Elab.async false
set_option linter.all false
set_option maxRecDepth 100000
set_option maxHeartbeats 4000000
namespace OC
open PySem PySem.Spec PyProof.Rows L2
theorem sws_no {t e : Expr} {l : Nat} {env : Env} (h : noComp e = true) : swapsWithSole [t] e l env = pure false := sw_no h
def slotOf (C : Ck) (sc : Scope) (i : Nat) (x : Str) : Bool := decide (C.N[i]? = some x) && (isLoc sc x || isCell sc x)
mutual
def chkS (C : Ck) (sc : Scope) : S → Stmt → Bool
  | .asg i e, st => match asAsg st with
    | some (.Name x px, v, _) => slotOf C sc i x && (noComp v || isCell sc x && (lcSc v).isSome || swT sc x px v) && chkE C sc false e v
    | _ => false
  | .asgL i es, st => match asAsg st with
    | some (.Name x _, v, _) => slotOf C sc i x && (match asLst v with
      | some vs => decide (vs.length ≤ 1000) && chkEs C sc es vs
      | none => false)
    | _ => false
  | .par i j a b, st => match asAsg st with
    | some (t, v, _) => (match asPair t, asTup v with
      | some (x, px, y, py), some [u, z] => decide (C.N[i]? = some x) && decide (C.N[j]? = some y) && decide (i ≠ j) && isLoc sc x && isLoc sc y && (py.line == px.line) && decide (x ≠ y) && nst u && nst z &&
          !([u, z].all (foldedForSure 8)) && !([u, z].all (constantsAlone 8)) && chkE C sc false a u && chkE C sc false b z
      | _, _ => false)
    | none => false
  | .unp is e, st => match asAsg st with
    | some (t, v, _) => (chkTg C.N sc (fun _ => true) (.tup is) t && noComp v && swN sc t v && chkE C sc false e v) || chk3 C sc is e t v
    | none => false
  | .aug i o e, st => match asAug st with
    | some (x, p, v) => slotOf C sc i x && opN p == opN (boOf o) && chkE C sc false e v
    | none => false
  | .extL i e, st => match asAug st with
    | some (x, p, v) => slotOf C sc i x && opN p == 0 && chkE C sc false e v
    | none => false
  | .app i e, st => match asEx st with
    | some (v, _) => (match asMeth v with
      | some (x, m, ap, y, cp) => decide (C.N[i]? = some x) && vis sc x && !(x == ("__debug__" : Str)) && !(x == ("__classdict__" : Str)) && decide (m = ("append" : Str)) && (ap.endLine == cp.line) && nst y && chkE C sc false e y
      | none => false)
    | none => false
  | .setB a n e, st => match asAsg st with
    | some (t, v, _) => (match asSub t with
      | some (x, y) => (match asConst y with | some (.int i) => i == (n : Int) | _ => false) && noComp v && noTup v && chkE C sc false e v && chkE C sc false a x
      | none => false)
    | none => false
  | .drop e, st => match asEx st with
    | some (v, _) => noComp v && chkE C sc false e v
    | none => false
  | .ret e, st => match asRet st with
    | some (some v) => chkE C sc false e v
    | _ => false
  | .retN, st => match asRet st with
    | some none => true
    | _ => false
  | .ite t a b, st => match asIfS st with
    | some (v, x, y) => chkE C sc true t v && chkSs C sc a x && chkSs C sc b y
    | none => false
  | .forS tg k as body, st => match asFor st with
    | some (t, it, b) => !isSet it && chkI C sc k as it t && chkTg C.N sc (fun _ => true) tg t && chkSs C sc body b
    | none => false
  | .whileS t body, st => match asWh st with
    | some (v, b) => chkE C sc true t v && chkSs C sc body b
    | none => false
  | .brk, st => stK st == 1
  | .cnt, st => stK st == 2
  | .pass, st => stK st == 3
  | .frz _, _ => false
def chkSs (C : Ck) (sc : Scope) : List S → List Stmt → Bool
  | [], st => st.isEmpty
  | s :: r, st => (match s with
    | .frz _ => chkSs C sc r st
    | _ => false) || (match st with
    | x :: y => chkS C sc s x && chkSs C sc r y
    | [] => false)
end
structure Gs (P : Program) (w : World) (K : PySem.W.Frag) (mg : Str → Option Value) (base : Heap) (C : Ck) (sc : Scope) (k : Nat) (X : Cx) : Prop where
  g : Gd P w K mg base C sc k X
  fn : ∀ x, X.fn x = true
  kind : sc.kind = .function
  po : PassesOwn (model X.prog X.w) X.A X.env X.xe
section
variable {P : Program} {w : World} {K : PySem.W.Frag} {mg : Str → Option Value} {base : Heap} {C : Ck} {F : List DC} {k : Nat} {sc : Scope}
theorem slot_ok {i : Nat} {x : Str} {X : Cx} (g : Gs P w K mg base C sc k X) (h : slotOf C sc i x = true) : X.N.Nodup ∧ X.N[i]? = some x ∧ Loc X.env.scope x ∧ (X.fn x = true ∨ X.env.scope.names.lookup x = some .local) := by
  unfold slotOf at h
  simp only [Bool.and_eq_true, decide_eq_true_eq, Bool.or_eq_true] at h
  refine ⟨by rw [g.g.eN]; exact g.g.nd, by rw [g.g.eN]; exact h.1, ?_, .inl (g.fn x)⟩
  rw [g.g.esc]
  rcases h.2 with z | z
  · exact .inl (isLoc_ok z)
  · exact .inr (isCell_ok z)
def SS (P : Program) (w : World) (K : PySem.W.Frag) (mg : Str → Option Value) (base : Heap) (C : Ck) (F : List DC) (k : Nat) (sc : Scope) (st : Stmt) (ir : S) : Prop := ∃ t, (∀ X, Gs P w K mg base C sc k X → PS X st t) ∧ TSok K F t ir
def SSs (P : Program) (w : World) (K : PySem.W.Frag) (mg : Str → Option Value) (base : Heap) (C : Ck) (F : List DC) (k : Nat) (sc : Scope) (st : List Stmt) (ir : List S) : Prop := ∃ t, (∀ X, Gs P w K mg base C sc k X → PSs X st t) ∧ TSsok K F t ir
/-- name = [..], the names swapped -/
theorem ss_lc (W : Wr P w K mg base C F k) {i : Nat} {x : Str} {px pos : Pos} {e : E} {v : Expr} (hs : slotOf C sc i x = true) (hw : swT sc x px v = true) (he : chkE C sc false e v = true) : SS P w K mg base C F k sc (.Assign [.Name x px] v pos) (.asg i e) := by
  unfold swT at hw
  split at hw
  · rename_i scope p hv
    cases v <;> simp only [lcSc] at hv <;> first
      | (cases hv; done)
      | skip
    rename_i elt0 gens scope0 p0
    cases hv
    simp only [Bool.and_eq_true, Bool.not_eq_true'] at hw
    obtain ⟨⟨hl, hline⟩, hany⟩ := hw
    cases e <;> simp only [chkE, asConst, asName, asBin, asUn, asCmp, asBool, asIf, asTup, asLst, asSub, asCall, Bool.and_false, Bool.false_eq_true] at he
    rename_i elt tg ik its ifs own
    simp only [Bool.not_false, Bool.true_or, Bool.true_and] at he
    split at he
    · rename_i el t it fs scope1 hx
      obtain ⟨ps, hx⟩ := asLC_ok hx
      cases hx
      simp only [Bool.and_eq_true, Bool.not_eq_true'] at he
      obtain ⟨⟨⟨⟨⟨⟨hset, hblk⟩, hi⟩, htg⟩, hin⟩, hf⟩, he⟩ := he
      obtain ⟨wi, i1, i2⟩ := sI W its ik sc _ _ hi
      obtain ⟨tf, f1, f2⟩ := sF W ifs (relS scope sc) _ hf
      obtain ⟨te, e1, e2⟩ := (sE W elt (relS scope sc) _).1 he
      refine ⟨_, fun X gs => ?_, oks_asg (ok_lc i2 f2 e2 (tg_in hin))⟩
      have g := gs.g
      obtain ⟨n1, n2, _, _⟩ := slot_ok gs hs
      have hlx : X.env.scope.names.lookup x = some .local := by rw [g.esc]; exact isLoc_ok hl
      refine ps_setLc g.calm n1 n2 hlx (sw_true (by rw [g.esc]; exact gs.kind) hlx hline hany) (i1 X g) (by rw [g.eN, g.esc]; exact blkOk_by hblk) (fun s H Ca cl fp => ?_) (fun s H Ca cl fp => f1 _ (g.blk s H Ca cl fp)) (fun s H Ca cl fp => e1 _ (g.blk s H Ca cl fp)) (fold_ok hset)
      have gb := g.blk (scope := scope) s H Ca cl fp
      have := pg_of (X := X.blk s H scope (compEnvC scope cl Ca X.env) fp) (C := C) gb.eN gb.nd gb.calm gb.esc (fun x hx => by
        show (scope.names.lookup x == some .cell) = true
        rw [isCell_ok hx]
        rfl) htg
      have eK : (X.blk s H scope (compEnvC scope cl Ca X.env) fp).K = K := g.eK
      rw [eK] at this
      exact this
    · cases he
  · cases hw
mutual
theorem sS (W : Wr P w K mg base C F k) : ∀ (ir : S) (sc : Scope) (st : Stmt), chkS C sc ir st = true → SS P w K mg base C F k sc st ir
  | .asg i e, sc, st, h => by
    rw [chkS] at h
    split at h
    · rename_i x px v pos hx
      obtain rfl := asAsg_ok hx
      simp only [Bool.and_eq_true, Bool.or_eq_true] at h
      obtain ⟨⟨hs, hc⟩, he⟩ := h
      obtain ⟨t, h1, h2⟩ := (sE W e sc v).1 he
      rcases hc with (hc | hc) | hc
      · refine ⟨_, fun X g => ?_, oks_asg h2⟩
        obtain ⟨n1, n2, n3, n4⟩ := slot_ok g hs
        exact ps_set n1 n2 n3 (h1 X g.g) (sw_no hc) n4
      · obtain ⟨hcell, hv⟩ := hc
        refine ⟨_, fun X g => ?_, oks_asg h2⟩
        obtain ⟨n1, n2, n3, n4⟩ := slot_ok g hs
        refine ps_set n1 n2 n3 (h1 X g.g) ?_ n4
        cases v <;> first
          | (cases hv; done)
          | skip
        exact sw_cell (by rw [g.g.esc]; exact g.kind) (by rw [g.g.esc]; exact isCell_ok hcell)
      · exact ss_lc W hs hc he
    · cases h
  | .asgL i es, sc, st, h => by
    rw [chkS] at h
    split at h
    · rename_i x px v pos hx
      obtain rfl := asAsg_ok hx
      simp only [Bool.and_eq_true] at h
      obtain ⟨hs, he⟩ := h
      split at he
      · rename_i vs hv
        obtain ⟨p, rfl⟩ := asLst_ok hv
        simp only [Bool.and_eq_true, decide_eq_true_eq] at he
        obtain ⟨t, h1, h2, h3, h4⟩ := sEs W es sc vs he.2
        refine ⟨_, fun X g => ?_, oks_asgL h2 (by rw [← h4]; exact he.1)⟩
        obtain ⟨n1, n2, n3, n4⟩ := slot_ok g hs
        exact ps_set n1 n2 n3 (pe_lst (h1 X g.g)) (sw_no rfl) n4
      · cases he
    · cases h
  | .par i j a b, sc, st, h => by
    rw [chkS] at h
    split at h
    · rename_i t v pos hx
      obtain rfl := asAsg_ok hx
      split at h
      · rename_i x px y py u z hp ht
        obtain ⟨kt, pt, rfl⟩ := asPair_ok hp
        obtain ⟨k2, pt2, rfl⟩ := asTup_ok ht
        simp only [Bool.and_eq_true, decide_eq_true_eq, Bool.not_eq_true'] at h
        obtain ⟨⟨⟨⟨⟨⟨⟨⟨⟨⟨⟨⟨hi, hj⟩, hij⟩, lx⟩, ly⟩, hl⟩, hxy⟩, nu⟩, nz⟩, hf⟩, hc⟩, ha⟩, hb⟩ := h
        obtain ⟨ta, h1, h2⟩ := (sE W a sc u).1 ha
        obtain ⟨tb, h3, h4⟩ := (sE W b sc z).1 hb
        refine ⟨_, fun X g => ?_, oks_par h2 h4⟩
        have ex : X.env.scope.names.lookup x = some .local := by rw [g.g.esc]; exact isLoc_ok lx
        have ey : X.env.scope.names.lookup y = some .local := by rw [g.g.esc]; exact isLoc_ok ly
        exact ps_par g.g.calm (by rw [g.g.eN]; exact g.g.nd) (by rw [g.g.eN]; exact hi) (by rw [g.g.eN]; exact hj) hij ex ey (pa_cons (h1 X g.g) (pa_cons (h3 X g.g) pa_nil (star_cons nz)) (star_cons nu))
          (ss_par (by rw [g.g.esc]; exact g.kind) ex ey hl hxy nu nz hf hc) (sws_no rfl)
      · cases h
    · cases h
  | .unp is e, sc, st, h => by
    rw [chkS] at h
    split at h
    · rename_i t v pos hx
      obtain rfl := asAsg_ok hx
      rw [Bool.or_eq_true] at h
      rcases h with h | h
      rotate_left
      · unfold chk3 at h
        split at h
        · rename_i i j l a b c x px y py z pz u q r hp ht
          obtain ⟨kt, pt, rfl⟩ := asTrip_ok hp
          obtain ⟨k2, pt2, rfl⟩ := asTup_ok ht
          simp only [Bool.and_eq_true, decide_eq_true_eq, Bool.not_eq_true'] at h
          obtain ⟨⟨⟨⟨⟨⟨⟨⟨⟨⟨⟨⟨⟨⟨⟨⟨⟨⟨⟨⟨⟨hi, hj⟩, hl⟩, hij⟩, hil⟩, hjl⟩, lx⟩, ly⟩, lz⟩, l1⟩, l2⟩, hxy⟩, hxz⟩, hyz⟩, nu⟩, nq⟩, nr⟩, hf⟩, hc⟩, ha⟩, hb⟩, hcc⟩ := h
          obtain ⟨ta, h1, h2⟩ := (sE W a sc u).1 ha
          obtain ⟨tb, h3, h4⟩ := (sE W b sc q).1 hb
          obtain ⟨tc, h5, h6⟩ := (sE W c sc r).1 hcc
          refine ⟨_, fun X g => ?_, oks_par3 h2 h4 h6⟩
          have ex : X.env.scope.names.lookup x = some .local := by rw [g.g.esc]; exact isLoc_ok lx
          have ey : X.env.scope.names.lookup y = some .local := by rw [g.g.esc]; exact isLoc_ok ly
          have ez : X.env.scope.names.lookup z = some .local := by rw [g.g.esc]; exact isLoc_ok lz
          exact ps_par3 g.g.calm (by rw [g.g.eN]; exact g.g.nd) (by rw [g.g.eN]; exact hi) (by rw [g.g.eN]; exact hj) (by rw [g.g.eN]; exact hl) hij hil hjl ex ey ez
            (pa_cons (h1 X g.g) (pa_cons (h3 X g.g) (pa_cons (h5 X g.g) pa_nil (star_cons nr)) (star_cons nq)) (star_cons nu))
            (ss_par3 (by rw [g.g.esc]; exact g.kind) ex ey ez l1 l2 hxy hxz hyz nu nq nr hf hc) (sws_no rfl)
        · cases h
      simp only [Bool.and_eq_true] at h
      obtain ⟨⟨⟨ht, n1⟩, n2⟩, he⟩ := h
      obtain ⟨te, h1, h2⟩ := (sE W e sc v).1 he
      have tt : ∃ es j p, t = .Tuple es j p := by
        simp only [chkTg] at ht
        split at ht
        · rename_i es hes
          obtain ⟨j, p, rfl⟩ := asTup_ok hes
          exact ⟨es, j, p, rfl⟩
        · cases ht
      refine ⟨_, fun X g => ?_, oks_unp h2⟩
      have := pg_of (X := X) (C := C) g.g.eN g.g.nd g.g.calm g.g.esc (fun x _ => g.fn x) ht
      rw [g.g.eK] at this
      obtain ⟨es, j, p, rfl⟩ := tt
      exact ps_asg (h1 X g.g) this (sws_no n1) (ss_swN g.g.esc n2) rfl
    · cases h
  | .aug i o e, sc, st, h => by
    rw [chkS] at h
    split at h
    · rename_i x p v hx
      obtain ⟨q, r, rfl⟩ := asAug_ok hx
      simp only [Bool.and_eq_true] at h
      obtain ⟨⟨hs, ho⟩, he⟩ := h
      obtain rfl := op_of ho
      obtain ⟨te, h1, h2⟩ := (sE W e sc v).1 he
      refine ⟨_, fun X g => ?_, oks_aug h2⟩
      obtain ⟨n1, n2, n3, n4⟩ := slot_ok g hs
      exact ps_aug n1 n2 n3 (h1 X g.g) (pip_of X o) n4
    · cases h
  | .extL i e, sc, st, h => by
    rw [chkS] at h
    split at h
    · rename_i x p v hx
      obtain ⟨q, r, rfl⟩ := asAug_ok hx
      simp only [Bool.and_eq_true] at h
      obtain ⟨⟨hs, ho⟩, he⟩ := h
      obtain rfl := op_of (o := .add) ho
      obtain ⟨te, h1, h2⟩ := (sE W e sc v).1 he
      refine ⟨_, fun X g => ?_, oks_extL h2⟩
      obtain ⟨n1, n2, n3, n4⟩ := slot_ok g hs
      exact ps_aug n1 n2 n3 (h1 X g.g) iop_ext n4
    · cases h
  | .app i e, sc, st, h => by
    rw [chkS] at h
    split at h
    · rename_i v pos hx
      obtain rfl := asEx_ok hx
      split at h
      · rename_i x m ap y cp hm
        obtain ⟨p, rfl⟩ := asMeth_ok hm
        simp only [Bool.and_eq_true, decide_eq_true_eq, Bool.not_eq_true'] at h
        obtain ⟨⟨⟨⟨⟨⟨⟨hi, hv⟩, hd⟩, hcd⟩, rfl⟩, hl⟩, hn⟩, he⟩ := h
        obtain ⟨te, h1, h2⟩ := (sE W e sc y).1 he
        refine ⟨_, fun X g => ?_, oks_app h2⟩
        have := pe_bm (X := X) (apos := ap) (cpos := cp) PySem.F.plainAttrs_list PySem.F.slot_list_append PySem.F.type_list_append mt_append (pe_var (pos := p) (by rw [g.g.eN]; exact hi) (by rw [g.g.esc]; exact vis_ok hv) hd hcd) (pa_cons (h1 X g.g) pa_nil (star_cons hn)) rfl (by rw [star_cons hn]; rfl) hl (star_cons hn) rfl
        rw [g.g.eK] at this
        exact ps_expr this (sw_no rfl)
      · cases h
    · cases h
  | .setB a n e, sc, st, h => by
    rw [chkS] at h
    split at h
    · rename_i t v pos hx
      obtain rfl := asAsg_ok hx
      split at h
      · rename_i x y hs
        obtain ⟨p, rfl⟩ := asSub_ok hs
        simp only [Bool.and_eq_true] at h
        obtain ⟨⟨⟨⟨hn, n1⟩, n2⟩, he⟩, ha⟩ := h
        split at hn
        · rename_i i hi
          obtain ⟨j, q, rfl⟩ := asConst_ok hi
          have e0 : i = (n : Int) := by simpa using hn
          subst e0
          obtain ⟨te, h1, h2⟩ := (sE W e sc v).1 he
          obtain ⟨ta, h3, h4⟩ := (sE W a sc x).1 ha
          exact ⟨_, fun X g => ps_asg (h1 X g.g) (pg_sub (h3 X g.g) pe_int set_list) (sws_no n1) (ss_no n2) rfl, oks_setB h2 h4⟩
        · cases hn
      · cases h
    · cases h
  | .drop e, sc, st, h => by
    rw [chkS] at h
    split at h
    · rename_i v pos hx
      obtain rfl := asEx_ok hx
      simp only [Bool.and_eq_true] at h
      obtain ⟨te, h1, h2⟩ := (sE W e sc v).1 h.2
      exact ⟨_, fun X g => ps_expr (h1 X g.g) (sw_no h.1), oks_drop h2⟩
    · cases h
  | .ret e, sc, st, h => by
    rw [chkS] at h
    split at h
    · rename_i v hx
      obtain ⟨p, rfl⟩ := asRet_ok hx
      obtain ⟨te, h1, h2⟩ := (sE W e sc v).1 h
      exact ⟨_, fun X g => ps_ret (h1 X g.g), oks_ret h2⟩
    · cases h
  | .retN, sc, st, h => by
    rw [chkS] at h
    split at h
    · rename_i hx
      obtain ⟨p, rfl⟩ := asRet_ok hx
      exact ⟨_, fun X g => ps_retN, oks_retN⟩
    · cases h
  | .ite t a b, sc, st, h => by
    rw [chkS] at h
    split at h
    · rename_i v x y hx
      obtain ⟨p, rfl⟩ := asIfS_ok hx
      simp only [Bool.and_eq_true] at h
      obtain ⟨tt, h1, h2⟩ := (sE W t sc v).2 h.1.1
      obtain ⟨ta, h3, h4⟩ := sSs W a sc x h.1.2
      obtain ⟨tb, h5, h6⟩ := sSs W b sc y h.2
      exact ⟨_, fun X g => ps_if (h1 X g.g).1 (h3 X g) (h5 X g), oks_ite h2 h4 h6⟩
    · cases h
  | .forS tg ik as body, sc, st, h => by
    rw [chkS] at h
    split at h
    · rename_i t it b hx
      obtain ⟨p, rfl⟩ := asFor_ok hx
      simp only [Bool.and_eq_true, Bool.not_eq_true'] at h
      obtain ⟨⟨⟨hset, hi⟩, ht⟩, hb⟩ := h
      obtain ⟨wi, i1, i2⟩ := sI W as ik sc it t hi
      obtain ⟨tb, h3, h4⟩ := sSs W body sc b hb
      refine ⟨_, fun X g => ?_, oks_for (tg := tg) i2 h4⟩
      have := pg_of (X := X) (C := C) g.g.eN g.g.nd g.g.calm g.g.esc (fun x _ => g.fn x) ht
      rw [g.g.eK] at this
      exact ps_for g.po g.g.calm (i1 X g.g) this (h3 X g) (fold_ok hset)
    · cases h
  | .whileS t body, sc, st, h => by
    rw [chkS] at h
    split at h
    · rename_i v b hx
      obtain ⟨p, rfl⟩ := asWh_ok hx
      simp only [Bool.and_eq_true] at h
      obtain ⟨tt, h1, h2⟩ := (sE W t sc v).2 h.1
      obtain ⟨tb, h3, h4⟩ := sSs W body sc b h.2
      exact ⟨_, fun X g => ps_while g.po (h1 X g.g).1 (h3 X g), oks_while h2 h4⟩
    · cases h
  | .brk, sc, st, h => by
    rw [chkS] at h
    cases st <;> first
      | exact ⟨_, fun X g => ps_break, oks_brk⟩
      | (exact absurd h (by decide))
      | (simp [stK] at h)
  | .cnt, sc, st, h => by
    rw [chkS] at h
    cases st <;> first
      | exact ⟨_, fun X g => ps_continue, oks_cnt⟩
      | (simp [stK] at h)
  | .pass, sc, st, h => by
    rw [chkS] at h
    cases st <;> first
      | exact ⟨_, fun X g => ps_pass, oks_pass⟩
      | (simp [stK] at h)
  | .frz _, sc, st, h => by rw [chkS] at h; cases h
theorem sSs (W : Wr P w K mg base C F k) : ∀ (irs : List S) (sc : Scope) (st : List Stmt), chkSs C sc irs st = true → SSs P w K mg base C F k sc st irs
  | [], sc, st, h => by
    rw [chkSs] at h
    cases st with
    | nil => exact ⟨_, fun X g => pss_nil, oks_nil⟩
    | cons _ _ => cases h
  | s :: r, sc, st, h => by
    rw [chkSs.eq_def] at h
    simp only at h
    rw [Bool.or_eq_true] at h
    rcases h with h | h
    · split at h
      · obtain ⟨t, h1, h2⟩ := sSs W r sc st h
        exact ⟨t, h1, oks_frz h2⟩
      · cases h
    · cases st with
      | nil => cases h
      | cons x y =>
        simp only [Bool.and_eq_true] at h
        obtain ⟨t, h1, h2⟩ := sS W s sc x h.1
        obtain ⟨u, h3, h4⟩ := sSs W r sc y h.2
        exact ⟨_, fun X g => pss_cons (h1 X g) (h3 X g), oks_cons h2 h4⟩
end
end
/-- what the look asks of a def -/
def chkFn (C : Ck) (np : Nat) (body : List S) (st : Stmt) : Bool :=
  (match (defScope st).kind with | .function => true | _ => false) && !(defScope st).isCoroutine && !(defScope st).isGenerator && decide C.N.Nodup && ((C.N.take np).all fun x => isLoc (defScope st) x || isCell (defScope st) x) &&
    ((defScope st).names.all fun y => match y.2 with | .free => false | _ => true) && decide (np ≤ C.N.length) && chkSs C (defScope st) body (defBody st)
theorem start_get {N : List Str} {vs : List V} {i : Nat} (h : i < vs.length) : (L2.start N vs)[i]? = some (vs[i]?) := by
  unfold L2.start
  rw [List.getElem?_append_left (by rw [List.length_map]; exact h), List.getElem?_map]
  rw [List.getElem?_eq_getElem h]
  rfl
/-- THE RULE: a def of the text keeps a promise over plain data if its body in the small language does -/
theorem fn_ok {P : Program} {w : World} {K : PySem.W.Frag} {mg : Str → Option Value} {base : Heap} {C : Ck} {F : List DC} {k : Nat} {x qual : Str} {st : Stmt} {f : Addr} {fd : FuncData} {np : Nat} {body : List S} {c : DC} (W : Wr P w K mg base C F k) (Fu : Fun K x qual st f fd)
    (hck : chkFn C np body st = true) (hm : mg x = some (.ref f)) (hb : Binds K fd (C.N.take np) []) (hlen : ∀ ds Q, c ds Q → ds.length = np) (hc : ∀ ds Q, c ds Q → wpBody F C.N.length body ds Q) : FOK P w K mg base (k + 1) x c := by
  unfold chkFn at hck
  simp only [Bool.and_eq_true, decide_eq_true_eq, Bool.not_eq_true', List.all_eq_true] at hck
  obtain ⟨⟨⟨⟨⟨⟨⟨h1, h2⟩, h3⟩, h4⟩, h5⟩, h6⟩, h7⟩, h8⟩ := hck
  have hkind : (defScope st).kind = .function := by
    split at h1
    · assumption
    · cases h1
  have hpl : (C.N.take np).length = np := by rw [List.length_take]; omega
  have S : FnScope C.N (C.N.take np) (defScope st) := ⟨hkind, h2, h3, h4, by rw [hpl], fun y hy => by
    have := h5 y hy
    rw [Bool.or_eq_true] at this
    exact this.imp isLoc_ok isCell_ok, fun y hy z => by
    have := h6 y hy
    rw [z] at this
    cases this⟩
  obtain ⟨t, t1, t2⟩ := sSs W body (defScope st) (defBody st) h8
  refine ⟨f, fd, C.N.take np, hm, Fu.kp, hb, fun ds Q q => by rw [hpl]; exact hlen ds Q q, ?_⟩
  refine g_fn Fu S (fun vs H Q E h => ?_) (fun cdv A outer s H vs Q E hr hg h => ?_)
  · obtain ⟨Bg, M, ds, Qd, _, _, rl, hl, _⟩ := h
    rw [rl.len, hl]
  · obtain ⟨Bg, M, ds, Qd, bg, md, rl, hl, hcd, post⟩ := h
    refine ⟨t, t1 _ ⟨⟨rfl, rfl, rfl, rfl, rfl, rfl, h4, rfl, rfl, hr, hg⟩, fun _ => rfl, hkind, PassesOwn.never⟩, ?_⟩
    have hds : ds.length ≤ C.N.length := by rw [hl, hpl]; exact h7
    have noown : ∀ (i : Nat) xs, (start0 C.N.length ds)[i]? = some (Sl.own xs) → False := fun i xs z => by
      unfold start0 at z
      by_cases q : i < ds.length
      · rw [List.getElem?_append_left (by rw [List.length_map]; exact q), List.getElem?_map] at z
        cases e : ds[i]? with
        | none => rw [e] at z; cases z
        | some d => rw [e] at z; cases z
      · rw [List.getElem?_append_right (by rw [List.length_map]; omega), List.getElem?_replicate] at z
        split at z <;> cases z
    have mo : ∀ a, MO M (L2.start C.N vs) (start0 C.N.length ds) a → M a := fun a z => by
      rcases z with z | ⟨i, xs, z, _⟩
      · exact z
      · exact (noown i xs z).elim
    refine t2 Bg H M Bg H _ (start0 C.N.length ds) [] _ _ ⟨Ext.refl bg, md, ?_, fun i d z => ?_, fun i xs z => (noown i xs z).elim, fun i _ _ xs _ z => (noown i xs z).elim, fun p hp => nomatch hp⟩ (hc ds Qd hcd) ⟨fun B1 H1 σ1 G1 en1 q => ?_, fun B1 H1 v d e1 r q => post d v B1 H1 e1 r q, fun _ _ _ _ _ z => z.elim, fun _ _ _ _ _ z => z.elim⟩
    · unfold L2.start start0
      rw [List.length_append, List.length_append, List.length_map, List.length_map, List.length_replicate, List.length_replicate, rl.len]
    · unfold start0 at z
      by_cases q : i < ds.length
      · rw [List.getElem?_append_left (by rw [List.length_map]; exact q), List.getElem?_map] at z
        cases e : ds[i]? with
        | none => rw [e] at z; cases z
        | some d' =>
          rw [e] at z
          have z : some (Sl.val d') = some (Sl.val d) := z
          cases z
          obtain ⟨v, hv, rv⟩ := rl.get e
          refine ⟨v, ?_, rv.less bg mo⟩
          rw [start_get (by rw [rl.len]; exact q), hv]
      · rw [List.getElem?_append_right (by rw [List.length_map]; omega), List.getElem?_replicate] at z
        split at z <;> cases z
    · exact post .non .non B1 H1 en1.ext .non q
end OC
set_option Elab.async false
set_option linter.all false
set_option maxRecDepth 100000
set_option maxHeartbeats 4000000
/-! Onecut: from the law's promise over plain data to the row's walk. -/
namespace OC
open PySem PySem.Spec PyProof.Rows L2
theorem law_fok {P : Program} {w : World} {K : PySem.W.Frag} {mg mb : Str → Option Value} {k : Nat} {fa a : Addr} {x : Str} {c : DC} {s1 : Shared} {vs : List Value} {ns : List Int}
    (KX : K.In s1.heap) (hns : s1.heap.Ns mainGlobals mg) (hb : s1.heap.Ns builtinsNs mb) (hbb : ∀ x : Str, x ≠ "__name__" → mb x = bootBuiltins x) (hlim : s1.heap.NoLimit) (hg : s1.gens = #[]) (hx : mg x = some (.ref fa))
    (ha : s1.heap.get? a = some { cls := .type "list", data := .seq vs.toArray }) (hi : IntsAre vs ns) (hl : ns.length ≤ sizeLine) (hr : Room k callerA) (F : ∀ base : Heap, K.In base → base.Ns mainGlobals mg → FOK P w K mg base k x c) (hc : c [.scr ns] fun d => d = .bl true) :
    codeAny (model P w) callerA (.call (.ref fa) ⟨[.ref a], []⟩) (fun r s' => r = .ok (.ret (.bool true)) ∧ OldK s1.heap s'.heap ∧ s'.os = s1.os ∧ AllBare s'.gens) s1 := by
  have go : ∀ H : Hp, (∀ b, H b = none ∨ ∃ o xs, H b = some (.frz o (.lst xs))) → Rep K (fun _ => False) (fun _ => False) H (.ref a) (.scr ns) → HOk P w H s1.heap → (∀ b, H b ≠ none → b = a) → (H a ≠ none → K.lookup a = none) →
      codeAny (model P w) callerA (.call (.ref fa) ⟨[.ref a], []⟩) (fun r s' => r = .ok (.ret (.bool true)) ∧ OldK s1.heap s'.heap ∧ s'.os = s1.os ∧ AllBare s'.gens) s1 := by
    intro H hO hS hok hA hK
    have free : ∀ {b : Addr} {o : Obj} {es : Array DictEntry} {ep : Nat}, s1.heap.get? b = some o → o.data = .dict es ep → H b = none := fun {b o es ep} e d => by
      cases q : H b with
      | none => rfl
      | some u =>
        obtain rfl : b = a := hA b (fun z => by rw [q] at z; cases z)
        rw [ha] at e
        cases e
        exact absurd d (fun z => by cases z)
    have low : ∀ {b : Addr} {m : Str → Option Value}, s1.heap.Ns b m → (hidT s1.heap H).Ns b m := by
      rintro b m ⟨o, es, ep, e, d, r⟩
      exact ⟨o, es, ep, hidT_get e (free e d), d, r⟩
    have kin : K.In (hidT s1.heap H) := fun b o e => hidT_get (KX b o e) (by
      cases q : H b with
      | none => rfl
      | some u =>
        have nz : H b ≠ none := fun z => by rw [q] at z; cases z
        obtain rfl : b = a := hA b nz
        rw [hK nz] at e
        cases e)
    have lim : (hidT s1.heap H).NoLimit := by
      obtain ⟨mc, h1, h2⟩ := hlim
      exact ⟨mc, low h1, h2⟩
    obtain ⟨f, fd, ps, e1, e2, e3, e4, e5⟩ := F (hidT s1.heap H) kin (low hns)
    rw [hx] at e1
    cases e1
    have hps : ps.length = 1 := (e4 _ _ hc).symm
    have e0 : Env0 P w K mg (hidT s1.heap H) callerA [] s1 H :=
      ⟨rfl, ⟨kin, low hns, ⟨mb, low hb, hbb⟩, lim⟩, fun b o e => of_hidT e, Nat.le_of_eq (hidT_size _ _), trivial, fun b hb => (nomatch hb), hok, .of_eq hg⟩
    have bind := e3 s1 [.ref a] KX (by rw [hps]; rfl)
    refine codeAny_mono (e5.run callerA [] s1 H ⟨[.ref a], []⟩ [.ref a] [.ref a] (fun v _ => v = .bl true) (fun _ _ _ => False) hr rfl e0 bind (.cons rfl .nil) ?_) fun r s' h => ?_
    · refine ⟨fun _ => False, fun _ => False, [.scr ns], fun d => d = .bl true, fun _ z => z.elim, fun _ z => z.elim, .cons hS .nil, by rw [hps]; rfl, hc, fun d v B' H' _ r q => ?_⟩
      subst q
      exact r.bl_inv
    · cases r with
      | error e => exact False.elim h
      | ok fl =>
        cases fl with
        | next => exact h.elim
        | brk => exact h.elim
        | cont => exact h.elim
        | ret u =>
          obtain ⟨v, H', os, bare, un, hok', r', q⟩ := h
          cases q
          cases (show u = Value.bool true from r')
          refine ⟨rfl, OldK.of_keep fun b o e => ?_, os, bare⟩
          rcases hO b with z | ⟨ob, xs, z⟩
          · exact un.keep b o e z (fun y => (nomatch y)) (fun y => (nomatch y))
          · obtain ⟨k1, _⟩ := hok b _ z
            obtain ⟨k2, _⟩ := hok' b _ (un.frzs b ob _ z)
            exact k2.trans (k1.symm.trans e)
  have rv := vals_ints hi
  cases hk : K.lookup a with
  | some o =>
    have e := KX a o hk
    rw [ha] at e
    cases e
    refine go (fun _ => none) (fun _ => .inl rfl) (.scrK ⟨_, vs.toArray, _, hk, rfl, rfl, rfl, ?_, by simpa using rv⟩) (fun b u z => nomatch z) (fun b z => absurd rfl z) (fun z => absurd rfl z)
    rw [List.size_toArray, hi.length]
    exact hl
  | none =>
    refine go (fun b => if b = a then some (.frz { cls := .type "list", data := .seq vs.toArray } (.lst (ns.map V.int))) else none) (fun b => ?_) (.scr (if_pos rfl) (fun z => z) (fun z => z)) (fun b u z => ?_) (fun b z => ?_) (fun _ => hk)
    · by_cases q : b = a
      · exact .inr ⟨_, _, if_pos q⟩
      · exact .inl (if_neg q)
    · by_cases q : b = a
      · cases (if_pos q).symm.trans z
        subst q
        exact ⟨ha, by rw [List.length_map]; exact hl, vs, _, rv, ha⟩
      · cases (if_neg q).symm.trans z
    · by_cases q : b = a
      · exact q
      · exact absurd (if_neg q) z
end OC
set_option Elab.async false
set_option linter.all false
set_option maxRecDepth 100000
set_option maxHeartbeats 4000000
/-! Onecut: a weaker wish; statements one by one; loops by what holds between two turns. -/
namespace OC
open PySem PySem.Spec PyProof.Rows L2
def Mono (c : DC) : Prop := ∀ ds (P Q : D → Prop), (∀ d, P d → Q d) → c ds P → c ds Q
def MonoF (F : List DC) : Prop := ∀ c ∈ F, Mono c
theorem bop_mono {o : BO} {x y : D} {P Q : D → Prop} (h : ∀ d, P d → Q d) (w : bop o x y P) : bop o x y Q := by
  unfold bop at w ⊢
  split <;> simp_all
theorem cop_mono {o : CO} {x y : D} {P Q : D → Prop} (h : ∀ d, P d → Q d) (w : cop o x y P) : cop o x y Q := by
  unfold cop at w ⊢
  split <;> simp_all
theorem dtru_mono {x : D} {P Q : Bool → Prop} (h : ∀ d, P d → Q d) (w : dtru x P) : dtru x Q := by
  cases x <;> first | exact w.elim | exact h _ w
theorem ixop_mono {x y : D} {P Q : D → Prop} (h : ∀ d, P d → Q d) (w : ixop x y P) : ixop x y Q := by
  cases x <;> cases y <;> first
    | exact w.elim
    | (simp only [ixop] at w ⊢; split <;> simp_all)
theorem ixnop_mono {x : D} {n : Nat} {P Q : D → Prop} (h : ∀ d, P d → Q d) (w : ixnop x n P) : ixnop x n Q := by
  cases x <;> first
    | exact w.elim
    | (simp only [ixnop] at w ⊢; split <;> simp_all; done)
theorem slcop_mono {x : D} {l u : Option Int} {P Q : D → Prop} (h : ∀ d, P d → Q d) (w : slcop x l u P) : slcop x l u Q := by
  unfold slcop at w ⊢
  split <;> simp_all
theorem withPart_mono {l : List D} {P Q : Option Int → Prop} (h : ∀ d, P d → Q d) (w : withPart l P) : withPart l Q := by
  unfold withPart at w ⊢
  split <;> simp_all
theorem biop_mono {f : Bi} {ds : List D} {P Q : D → Prop} (h : ∀ d, P d → Q d) (w : biop f ds P) : biop f ds Q := by
  unfold biop at w ⊢
  split
  case h_9 => split <;> simp_all
  case h_10 => split <;> simp_all
  case h_11 => split <;> simp_all
  all_goals simp_all
theorem itemsOf_mono {k : IK} {ds : List D} {P Q : List D → Prop} (h : ∀ d, P d → Q d) (w : itemsOf k ds P) : itemsOf k ds Q := by
  unfold itemsOf at w ⊢
  split <;> simp_all
theorem wpMap_mono {f : D → (Option D → Prop) → Prop} (hf : ∀ d (P Q : Option D → Prop), (∀ o, P o → Q o) → f d P → f d Q) {P Q : List D → Prop} (h : ∀ d, P d → Q d) : ∀ (xs acc : List D), wpMap f xs acc P → wpMap f xs acc Q
  | [], acc, w => h _ w
  | x :: xs, acc, w => by
    simp only [wpMap] at w ⊢
    refine hf x _ _ (fun o z => ?_) w
    cases o with
    | some y => exact wpMap_mono hf h xs _ z
    | none => exact wpMap_mono hf h xs _ z
section
variable {F : List DC}
mutual
theorem wpE_mono (hF : MonoF F) : ∀ (e : E) {G : List (Option D)} {P Q : D → Prop}, (∀ d, P d → Q d) → wpE F e G P → wpE F e G Q
  | .var i, G, P, Q, h, w => by
    simp only [wpE] at w ⊢
    split <;> simp_all
  | .k d, G, P, Q, h, w => by
    simp only [wpE] at w ⊢
    exact h _ w
  | .bin o a b, G, P, Q, h, w => by
    simp only [wpE] at w ⊢
    exact wpE_mono hF a (fun x => wpE_mono hF b fun y => bop_mono h) w
  | .neg a, G, P, Q, h, w => by
    simp only [wpE] at w ⊢
    refine wpE_mono hF a (fun x z => ?_) w
    split <;> simp_all
  | .cmp o a b, G, P, Q, h, w => by
    simp only [wpE] at w ⊢
    exact wpE_mono hF a (fun x => wpE_mono hF b fun y => cop_mono h) w
  | .chain o p a b c, G, P, Q, h, w => by
    simp only [wpE] at w ⊢
    refine wpE_mono hF a (fun x => wpE_mono hF b fun y => cop_mono fun r => dtru_mono fun q z => ?_) w
    split
    · rename_i hq
      rw [if_pos hq] at z
      exact wpE_mono hF c (fun u => cop_mono h) z
    · rename_i hq
      rw [if_neg hq] at z
      exact h _ z
  | .andv a b, G, P, Q, h, w => by
    simp only [wpE] at w ⊢
    refine wpE_mono hF a (fun x => dtru_mono fun q z => ?_) w
    split
    · rename_i hq
      rw [if_pos hq] at z
      exact wpE_mono hF b h z
    · rename_i hq
      rw [if_neg hq] at z
      exact h _ z
  | .orv a b, G, P, Q, h, w => by
    simp only [wpE] at w ⊢
    refine wpE_mono hF a (fun x => dtru_mono fun q z => ?_) w
    split
    · rename_i hq
      rw [if_pos hq] at z
      exact h _ z
    · rename_i hq
      rw [if_neg hq] at z
      exact wpE_mono hF b h z
  | .notv a, G, P, Q, h, w => by
    simp only [wpE] at w ⊢
    exact wpE_mono hF a (fun x => dtru_mono fun q z => h _ z) w
  | .ite t a b, G, P, Q, h, w => by
    simp only [wpE] at w ⊢
    refine wpE_mono hF t (fun x => dtru_mono fun q z => ?_) w
    split
    · rename_i hq
      rw [if_pos hq] at z
      exact wpE_mono hF a h z
    · rename_i hq
      rw [if_neg hq] at z
      exact wpE_mono hF b h z
  | .tup as, G, P, Q, h, w => by
    simp only [wpE] at w ⊢
    exact wpEs_mono hF as (fun ds z => h _ z) w
  | .lst as, G, P, Q, h, w => by
    simp only [wpE] at w ⊢
    exact wpEs_mono hF as (fun ds z => h _ z) w
  | .mkbag a b, G, P, Q, h, w => by
    simp only [wpE] at w ⊢
    refine wpE_mono hF a (fun x => wpE_mono hF b fun y z => ?_) w
    split <;> simp_all
  | .ixn a n, G, P, Q, h, w => by
    simp only [wpE] at w ⊢
    exact wpE_mono hF a (fun x => ixnop_mono h) w
  | .ix a b, G, P, Q, h, w => by
    simp only [wpE] at w ⊢
    exact wpE_mono hF a (fun x => wpE_mono hF b fun y => ixop_mono h) w
  | .slc a lo hi, G, P, Q, h, w => by
    simp only [wpE] at w ⊢
    exact wpE_mono hF a (fun x => wpEs_mono hF lo fun l => withPart_mono fun p => wpEs_mono hF hi fun u => withPart_mono fun q => slcop_mono h) w
  | .call f as, G, P, Q, h, w => by
    simp only [wpE] at w ⊢
    refine wpEs_mono hF as (fun ds z => ?_) w
    cases q : F[f]? with
    | none => rw [q] at z; exact z
    | some c =>
      rw [q] at z
      exact hF c (List.mem_of_getElem? q) ds _ _ h z
  | .bi f as, G, P, Q, h, w => by
    simp only [wpE] at w ⊢
    exact wpEs_mono hF as (fun ds => biop_mono h) w
  | .isi a t, G, P, Q, h, w => by
    simp only [wpE] at w ⊢
    exact wpE_mono hF a (fun x z => ⟨z.1, h _ z.2⟩) w
  | .lc elt tg k its ifs own, G, P, Q, h, w => by
    simp only [wpE] at w ⊢
    refine wpEs_mono hF its (fun ds => itemsOf_mono fun xs z => ⟨z.1, ?_⟩) w
    refine wpMap_mono (fun d A B hab y => ?_) (fun ys y => h _ y) xs [] z.2
    split
    · rename_i G1 hG
      rw [hG] at y
      exact wpIf_mono hF ifs (fun u => wpE_mono hF elt (fun v q => hab _ q) u) (fun u => hab _ u) y
    · rename_i hG
      rw [hG] at y
      exact y
theorem wpEs_mono (hF : MonoF F) : ∀ (es : List E) {G : List (Option D)} {P Q : List D → Prop}, (∀ d, P d → Q d) → wpEs F es G P → wpEs F es G Q
  | [], G, P, Q, h, w => by
    simp only [wpEs] at w ⊢
    exact h _ w
  | e :: es, G, P, Q, h, w => by
    simp only [wpEs] at w ⊢
    exact wpE_mono hF e (fun d => wpEs_mono hF es fun ds z => h _ z) w
theorem wpIf_mono (hF : MonoF F) : ∀ (es : List E) {G : List (Option D)} {A B A' B' : Prop}, (A → A') → (B → B') → wpIf F es G A B → wpIf F es G A' B'
  | [], G, A, B, A', B', ha, hb, w => by
    simp only [wpIf] at w ⊢
    exact ha w
  | e :: es, G, A, B, A', B', ha, hb, w => by
    simp only [wpIf] at w ⊢
    refine wpE_mono hF e (fun d => dtru_mono fun q z => ?_) w
    split
    · rename_i hq
      rw [if_pos hq] at z
      exact ha z
    · rename_i hq
      rw [if_neg hq] at z
      exact hb z
end
/-- an expression by what its value is -/
theorem ev (hF : MonoF F) {e : E} {G : List (Option D)} {Q : D → Prop} (P : D → Prop) (h : wpE F e G P) (k : ∀ d, P d → Q d) : wpE F e G Q := wpE_mono hF e k h
/-! ### statements, the first of a block -/
variable {G : List Sl} {K : Ks} {r : List S}
theorem sq_nil : wpSs F [] G K = K.nx G := by rw [wpSs]
theorem sq_asg {i : Nat} {e : E} : wpSs F (.asg i e :: r) G K = wpE F e (vals G) fun d => wpSs F r (G.set i (.val d)) K := by first | (rw [wpSs, wpS]; done) | (rw [wpSs, wpS]; rfl)
theorem sq_par {i j : Nat} {a b : E} : wpSs F (.par i j a b :: r) G K = wpE F a (vals G) fun x => wpE F b (vals G) fun y => wpSs F r ((G.set i (.val x)).set j (.val y)) K := by first | (rw [wpSs, wpS]; done) | (rw [wpSs, wpS]; rfl)
theorem sq_unp {is : List Nat} {e : E} : wpSs F (.unp is e :: r) G K = wpE F e (vals G) fun d => match bindS (.tup is) d G with | some G1 => wpSs F r G1 K | none => False := by first | (rw [wpSs, wpS]; done) | (rw [wpSs, wpS]; rfl)
theorem sq_drop {e : E} : wpSs F (.drop e :: r) G K = wpE F e (vals G) fun _ => wpSs F r G K := by first | (rw [wpSs, wpS]; done) | (rw [wpSs, wpS]; rfl)
theorem sq_ret {e : E} : wpSs F (.ret e :: r) G K = wpE F e (vals G) K.rt := by first | (rw [wpSs, wpS]; done) | (rw [wpSs, wpS]; rfl)
theorem sq_retN : wpSs F (.retN :: r) G K = K.rt .non := by first | (rw [wpSs, wpS]; done) | (rw [wpSs, wpS]; rfl)
theorem sq_frz {is : List Nat} : wpSs F (.frz is :: r) G K = wpSs F r (frzS G is) K := by first | (rw [wpSs, wpS]; done) | (rw [wpSs, wpS]; rfl)
theorem sq_ite {t : E} {a b : List S} : wpSs F (.ite t a b :: r) G K = wpE F t (vals G) fun x => dtru x fun q => if q = true then wpSs F a G { K with nx := fun G1 => wpSs F r G1 K } else wpSs F b G { K with nx := fun G1 => wpSs F r G1 K } := by first | (rw [wpSs, wpS]; done) | (rw [wpSs, wpS]; rfl)
theorem sq_for {tg : Tg} {k : IK} {as : List E} {body : List S} : wpSs F (.forS tg k as body :: r) G K = wpEs F as (vals G) fun ds => itemsOf k ds fun xs => wpFor (fun G1 K1 => wpSs F body G1 K1) tg { K with nx := fun G1 => wpSs F r G1 K } xs G := by first | (rw [wpSs, wpS]; done) | (rw [wpSs, wpS]; rfl)
theorem sq_while {t : E} {body : List S} : wpSs F (.whileS t body :: r) G K = ∃ n, wpWh (fun G1 Q => wpE F t (vals G1) fun x => dtru x Q) (fun G1 K1 => wpSs F body G1 K1) { K with nx := fun G1 => wpSs F r G1 K } n G := by first | (rw [wpSs, wpS]; done) | (rw [wpSs, wpS]; rfl)
/-! ### loops -/
theorem for_inv {body : List Sl → Ks → Prop} {tg : Tg} {k : Ks} (I : List Sl → Prop) : ∀ (xs : List D), (∀ d ∈ xs, ∀ G, I G → ∀ nx : List Sl → Prop, (∀ G', I G' → nx G') → match bindS tg d G with | some G1 => body G1 { nx := nx, rt := k.rt, bk := k.nx, ct := nx } | none => False) →
    (∀ G, I G → k.nx G) → ∀ G, I G → wpFor body tg k xs G
  | [], _, hn, G, hi => hn G hi
  | d :: ds, hs, hn, G, hi => hs d List.mem_cons_self G hi _ fun G' hi' => for_inv I ds (fun e he => hs e (List.mem_cons_of_mem _ he)) hn G' hi'
theorem while_inv {test : List Sl → (Bool → Prop) → Prop} {body : List Sl → Ks → Prop} {k : Ks} (I : Nat → List Sl → Prop) (hs : ∀ m G, I m G → ∀ nx : List Sl → Prop, (∀ m' G', m' < m → I m' G' → nx G') → test G fun b => if b = true then body G { nx := nx, rt := k.rt, bk := k.nx, ct := nx } else k.nx G) :
    ∀ (n m : Nat), m < n → ∀ G, I m G → wpWh test body k n G
  | 0, m, h, _, _ => absurd h (Nat.not_lt_zero m)
  | n + 1, m, h, G, hi => hs m G hi _ fun m' G' hm hi' => while_inv I hs n m' (by omega) G' hi'
/-- a comprehension whose turns are known -/
theorem map_det {f : D → (Option D → Prop) → Prop} {Q : List D → Prop} (g : D → Option D) : ∀ (xs acc : List D), (∀ x ∈ xs, ∀ kk : Option D → Prop, kk (g x) → f x kk) → Q (acc ++ xs.filterMap g) → wpMap f xs acc Q
  | [], acc, _, q => by simpa [wpMap] using q
  | x :: xs, acc, h, q => by
    rw [wpMap]
    refine h x List.mem_cons_self _ ?_
    cases e : g x with
    | none => exact map_det g xs acc (fun y hy => h y (List.mem_cons_of_mem _ hy)) (by rw [List.filterMap_cons, e] at q; exact q)
    | some y => exact map_det g xs (acc ++ [y]) (fun z hz => h z (List.mem_cons_of_mem _ hz)) (by rw [List.filterMap_cons, e] at q; simpa using q)
theorem map_all {f : D → (Option D → Prop) → Prop} {Q : List D → Prop} (g : D → D) (xs : List D) (h : ∀ x ∈ xs, ∀ kk : Option D → Prop, kk (some (g x)) → f x kk) (q : Q (xs.map g)) : wpMap f xs [] Q :=
  map_det (fun x => some (g x)) xs [] h (by rw [List.nil_append, List.filterMap_eq_map']; exact q)
end
end OC
set_option Elab.async false
set_option linter.all false
set_option maxRecDepth 100000
set_option maxHeartbeats 4000000
set_option exponentiation.threshold 20000
/-! Onecut: what the laws share: the bag and its draws, common divisors. -/
namespace OC
open PySem PySem.Spec PyProof.Rows L2
local macro_rules | `(tactic| walk_at "oc") => `(tactic| simp only [wpE, wpEs, getV, vals, Sl.v, List.map_cons, List.map_nil, List.set, bop, augop, cop, ixnop, biop, dtru, itemsOf, bindS, setAllS, bindV, setAll, if_true, if_false, Bool.false_eq_true, List.getElem?_cons_zero, List.getElem?_cons_succ])
local macro_rules | `(tactic| walk_at "oc0") => `(tactic| simp only [wpBody, start0, List.map_cons, List.map_nil, List.length, List.replicate, List.cons_append, List.nil_append, Nat.reduceAdd, Nat.reduceSub])
/-! ### numbers -/
theorem log2_lt {x : Int} {n : Nat} (hn : 0 < n) (h : x.natAbs < 2 ^ n) : x.natAbs.log2 < n := PySem.Flt.log2_lt_of hn h
theorem fmod_pos {a b : Int} (h : 0 < b) : a.fmod b = a % b := Int.fmod_eq_emod_of_nonneg a (Int.le_of_lt h)
theorem fdiv_pos {a b : Int} (h : 0 < b) : a.fdiv b = a / b := Int.fdiv_eq_ediv_of_nonneg a (Int.le_of_lt h)
theorem fmod_lt {a b : Int} (h : 0 < b) : 0 ≤ a.fmod b ∧ a.fmod b < b := by
  rw [fmod_pos h]
  exact ⟨Int.emod_nonneg a (Int.ne_of_gt h), Int.emod_lt_of_pos a h⟩
/-! ### a draw -/
def c_take : DC := fun ds Q => ∃ n : Int, ds = [.bag, .int n] ∧ 0 < n ∧ n.natAbs.log2 < 9000 ∧ ∀ r : Int, 0 ≤ r → r < n → Q (.int r)
theorem c_take_len : ∀ ds Q, c_take ds Q → ds.length = 2 := by
  rintro ds Q ⟨n, rfl, _⟩
  rfl
def b_take : List S := [.ite (.cmp .gt (.ixn (.var 0) 0) (.k (.int 0))) [.asg 2 (.bin .mod (.ixn (.var 0) 0) (.var 1)), .setB (.var 0) 0 (.bin .fdiv (.ixn (.var 0) 0) (.var 1)), .ret (.var 2)] [], .setB (.var 0) 1 (.bin .mod (.bin .mul (.ixn (.var 0) 1) (.k (.int 48271))) (.k (.int 2147483647))), .ret (.bin .mod (.bin .fdiv (.bin .mod (.bin .mul (.ixn (.var 0) 1) (.k (.int 69621))) (.k (.int 2147483629))) (.bin .pow (.k (.int 16)) (.k (.int 2)))) (.var 1))]
theorem mulW {i j : Int} {a b : Nat} (ha : i.natAbs < 2 ^ a) (hb : j.natAbs < 2 ^ b) (h0 : 0 < a := by decide) (h1 : 0 < b := by decide) (h : a + b ≤ 1000000 := by decide) : CMulW i j := wide_mul ha hb h0 h1 h
theorem take_ok {F : List DC} : ∀ ds Q, c_take ds Q → wpBody F 3 b_take ds Q := by
  rintro ds Q ⟨n, rfl, hn, hl, hq⟩
  unfold b_take
  walk_at "oc0"
  rw [sq_ite]
  walk_at "oc"
  intro i hi
  by_cases h : (0 : Int) < i
  · rw [decide_eq_true h, if_pos rfl, sq_asg]
    walk_at "oc"
    refine fun j hj => ⟨Int.ne_of_gt hn, ?_⟩
    rw [wpSs, wpS]
    walk_at "oc"
    refine fun m hm => ⟨⟨Int.ne_of_gt hn, hl⟩, ⟨⟨by decide, ?_, fun z => absurd z (by decide)⟩, ?_⟩⟩
    · rw [fdiv_pos hn]
      exact Int.ediv_nonneg hm (Int.le_of_lt hn)
    · rw [sq_ret]
      exact hq _ (fmod_lt hn).1 (fmod_lt hn).2
  · rw [decide_eq_false h, if_neg Bool.false_ne_true, sq_nil]
    show wpSs F _ _ _
    rw [wpSs, wpS]
    walk_at "oc"
    refine fun j hj hj2 => ⟨mulW (a := 33) (b := 17) (by omega) (by decide), by decide, ⟨by decide, (fmod_lt (by decide)).1, fun _ => ?_⟩, ?_⟩
    · have := (fmod_lt (a := j * 48271) (b := 2147483647) (by decide)).2
      omega
    · rw [sq_ret]
      walk_at "oc"
      refine fun m hm hm2 => ⟨mulW (a := 33) (b := 18) (by omega) (by decide), by decide, ⟨by decide, by decide, by decide⟩, ⟨by decide, by decide⟩, Int.ne_of_gt hn, ?_⟩
      exact hq _ (fmod_lt hn).1 (fmod_lt hn).2
/-! ### picking -/
theorem at_in {xs : List D} {r : Int} (h0 : 0 ≤ r) (h1 : r < (xs.length : Int)) : ∃ d, d ∈ xs ∧ atI xs r = some d := by
  obtain ⟨j, rfl⟩ := Int.eq_ofNat_of_zero_le h0
  have hj : j < xs.length := by omega
  exact ⟨xs[j], List.getElem_mem hj, atI_nat (List.getElem?_eq_getElem hj)⟩
theorem ix_anyT {xs : List D} {r : Int} {Q : D → Prop} (h0 : 0 ≤ r) (h1 : r < (xs.length : Int)) (h : ∀ d ∈ xs, Q d) : ixop (.tup xs) (.int r) Q := by
  obtain ⟨d, hd, e⟩ := at_in h0 h1
  unfold ixop
  simp only [e]
  exact h d hd
/-! ### the bag -/
def c_bag : DC := fun ds Q => ∃ (ns : List Int) (a : Int), ds = [.scr ns, .int a] ∧ 0 ≤ a ∧ a < 64 ∧ Q .bag
theorem c_bag_len : ∀ ds Q, c_bag ds Q → ds.length = 2 := by
  rintro ds Q ⟨n, a, rfl, _⟩
  rfl
def b_bag : List S := [.asg 2 (.tup [.k (.int 2147483647), .k (.int 2147483629), .k (.int 2147483587), .k (.int 2147483579), .k (.int 2147483563), .k (.int 2147483549), .k (.int 2147483543)]), .asg 3 (.ite (.cmp .lt (.var 1) (.bi .len [.var 0])) (.ix (.var 0) (.var 1)) (.k (.int 0))), .asg 4 (.ite (.cmp .ge (.bi .abs [.var 3]) (.bin .pow (.k (.int 10)) (.k (.int 18)))) (.bi .abs [.var 3]) (.k (.int 0))), .asg 5 (.bin .mod (.bin .pow (.bin .add (.bin .add (.bin .mod (.var 3) (.k (.int 2305843009213693951))) (.bin .mul (.k (.int 40961)) (.var 1))) (.k (.int 19))) (.k (.int 3))) (.ix (.var 2) (.bin .mod (.var 1) (.k (.int 7))))), .ret (.mkbag (.var 4) (.bin .add (.bin .mod (.bin .mul (.var 5) (.bin .add (.bin .add (.bin .fdiv (.var 5) (.k (.int 5))) (.bin .mul (.k (.int 3)) (.var 1))) (.k (.int 11)))) (.ix (.var 2) (.bin .mod (.bin .add (.var 1) (.k (.int 2))) (.k (.int 7))))) (.k (.int 1))))]
def primes : List D := [.int 2147483647, .int 2147483629, .int 2147483587, .int 2147483579, .int 2147483563, .int 2147483549, .int 2147483543]
theorem primes_any {m : Int} {Q : D → Prop} (h : ∀ p : Int, 2147483543 ≤ p → p ≤ 2147483647 → Q (.int p)) : ixop (.tup primes) (.int (m.fmod 7)) Q := by
  have := fmod_lt (a := m) (b := 7) (by decide)
  refine ix_anyT this.1 this.2 fun d hd => ?_
  simp only [primes, List.mem_cons, List.not_mem_nil, or_false] at hd
  rcases hd with rfl | rfl | rfl | rfl | rfl | rfl | rfl <;> exact h _ (by decide) (by decide)
theorem bag_ok {F : List DC} (hF : MonoF F) : ∀ ds Q, c_bag ds Q → wpBody F 6 b_bag ds Q := by
  rintro ds Q ⟨ns, a, rfl, h0, ha, hq⟩
  unfold b_bag
  walk_at "oc0"
  rw [sq_asg]
  walk_at "oc"
  rw [sq_asg]
  refine ev hF (fun d => ∃ c : Int, d = .int c) ?_ ?_
  · walk_at "oc"
    split
    · rename_i h
      have h := of_decide_eq_true h
      obtain ⟨j, rfl⟩ := Int.eq_ofNat_of_zero_le h0
      have hj : j < ns.length := by omega
      have e : atI ns (j : Int) = some ns[j] := atI_nat (List.getElem?_eq_getElem hj)
      simp only [ixop, e]
      exact ⟨_, rfl⟩
    · exact ⟨0, rfl⟩
  rintro _ ⟨c, rfl⟩
  rw [sq_asg]
  refine ev hF (fun d => ∃ L : Int, d = .int L ∧ 0 ≤ L) ?_ ?_
  · walk_at "oc"
    exact ⟨⟨by decide, by decide, by decide⟩, ite2 (fun _ => ⟨_, rfl, by split <;> omega⟩) (fun _ => ⟨0, rfl, by decide⟩)⟩
  rintro _ ⟨L, rfl, hL⟩
  rw [sq_asg]
  have hc := fmod_lt (a := c) (b := 2305843009213693951) (by decide)
  walk_at "oc"
  refine ⟨by decide, mulW (a := 17) (b := 7) (by decide) (by omega), ⟨by decide, by decide, by omega⟩, by decide, ?_⟩
  refine primes_any fun p hp1 hp2 => ?_
  have hm := fmod_lt (a := (c.fmod 2305843009213693951 + 40961 * a + 19) ^ (3 : Int).toNat) (b := p) (by omega)
  refine ⟨by omega, ?_⟩
  generalize (c.fmod 2305843009213693951 + 40961 * a + 19) ^ (3 : Int).toNat = z at hm
  rw [sq_ret]
  walk_at "oc"
  generalize z.fmod p = mx at hm
  have d5 : mx.fdiv 5 = mx / 5 := fdiv_pos (by decide)
  refine ⟨⟨by decide, by decide⟩, mulW (a := 2) (b := 7) (by decide) (by omega), mulW (a := 31) (b := 31) (by omega) (by rw [d5]; omega), by decide, ?_⟩
  refine primes_any fun q hq1 hq2 => ?_
  have := fmod_lt (a := mx * (mx.fdiv 5 + 3 * a + 11)) (b := q) (by omega)
  exact ⟨by omega, ⟨hL, by omega, by omega⟩, hq⟩
/-! ### common divisors -/
theorem natAbs_fmod {a b : Int} (h : b ≠ 0) : (a.fmod b).natAbs < b.natAbs := by
  rcases Int.lt_or_gt_of_ne h with h | h
  · have e := Int.neg_fmod_neg (-a) (-b)
    rw [Int.neg_neg, Int.neg_neg] at e
    have q := fmod_lt (a := -a) (b := -b) (by omega)
    rw [e]
    omega
  · have q := fmod_lt (a := a) (b := b) h
    omega
theorem gcd_fmod (a b : Int) : Int.gcd b (a.fmod b) = Int.gcd a b := by
  rw [Int.fmod_def, Int.gcd_sub_mul_left_right, Int.gcd_comm]
def c_part : DC := fun ds Q => ∃ a b : Int, ds = [.int a, .int b] ∧ Q (.int (Int.gcd a b))
theorem c_part_len : ∀ ds Q, c_part ds Q → ds.length = 2 := by
  rintro ds Q ⟨n, a, rfl, _⟩
  rfl
def b_part : List S := [.whileS (.cmp .ne (.var 1) (.k (.int 0))) [.par 0 1 (.var 1) (.bin .mod (.var 0) (.var 1))], .ret (.bi .abs [.var 0])]
theorem part_ok {F : List DC} : ∀ ds Q, c_part ds Q → wpBody F 2 b_part ds Q := by
  rintro ds Q ⟨a, b, rfl, hq⟩
  unfold b_part
  walk_at "oc0"
  rw [sq_while]
  refine ⟨b.natAbs + 1, while_inv (fun m G => ∃ x y : Int, G = [.val (.int x), .val (.int y)] ∧ m = y.natAbs ∧ Int.gcd x y = Int.gcd a b) ?_ _ b.natAbs (Nat.lt_succ_self _) _ ⟨a, b, rfl, rfl, rfl⟩⟩
  rintro m _ ⟨x, y, rfl, rfl, hg⟩ nx hnx
  walk_at "oc"
  by_cases h : y = 0
  · rw [decide_eq_true h]
    refine iteF ?_
    subst h
    rw [sq_ret]
    walk_at "oc"
    rw [← hg] at hq
    have e : (if x < 0 then -x else x) = ((Int.gcd x 0 : Nat) : Int) := by
      rw [Int.gcd_zero_right]
      split <;> omega
    rw [e]
    exact hq
  · rw [decide_eq_false h]
    refine iteT ?_
    rw [sq_par]
    walk_at "oc"
    refine ⟨h, ?_⟩
    rw [sq_nil]
    exact hnx _ _ (natAbs_fmod h) ⟨_, _, rfl, rfl, by rw [gcd_fmod, hg]⟩
/-- the divisor with the sign of the second -/
def sg (a b : Int) : Int := if b < 0 then -(Int.gcd a b : Int) else (Int.gcd a b : Int)
def lowT (a b : Int) : Int := a.fdiv (sg a b)
def lowU (a b : Int) : Int := b.fdiv (sg a b)
def R2 (r : Int × Int) : D := .tup [.int r.1, .int r.2]
theorem sg_ne {a b : Int} (h : b ≠ 0) : sg a b ≠ 0 := by
  have : Int.gcd a b ≠ 0 := fun z => h (Int.gcd_eq_zero_iff.mp z).2
  unfold sg
  split <;> omega
theorem sg_abs (a b : Int) : (sg a b).natAbs = Int.gcd a b := by
  unfold sg
  split <;> omega
theorem sg_dvd_l (a b : Int) : sg a b ∣ a := by
  unfold sg
  split
  · exact Int.neg_dvd.mpr (Int.gcd_dvd_left ..)
  · exact Int.gcd_dvd_left ..
theorem sg_dvd_r (a b : Int) : sg a b ∣ b := by
  unfold sg
  split
  · exact Int.neg_dvd.mpr (Int.gcd_dvd_right ..)
  · exact Int.gcd_dvd_right ..
theorem low_a {a b : Int} : lowT a b * sg a b = a := Int.fdiv_mul_cancel (sg_dvd_l a b)
theorem low_b {a b : Int} : lowU a b * sg a b = b := Int.fdiv_mul_cancel (sg_dvd_r a b)
theorem low_pos {a b : Int} (h : b ≠ 0) : 0 < lowU a b := by
  have h1 := low_b (a := a) (b := b)
  have hg := sg_ne (a := a) h
  rcases Int.lt_trichotomy (lowU a b) 0 with q | q | q
  · exfalso
    by_cases hb : b < 0
    · have hs : sg a b < 0 := by
        unfold sg at hg ⊢
        rw [if_pos hb] at hg ⊢
        omega
      have := Int.mul_pos_of_neg_of_neg q hs
      omega
    · have hs : 0 < sg a b := by
        unfold sg at hg ⊢
        rw [if_neg hb] at hg ⊢
        omega
      have := Int.mul_neg_of_neg_of_pos q hs
      omega
  · rw [q, Int.zero_mul] at h1
    exact absurd h1.symm h
  · exact q
theorem low_eq {a b : Int} : lowT a b * b = a * lowU a b := by
  have h1 := low_a (a := a) (b := b)
  have h2 := low_b (a := a) (b := b)
  calc lowT a b * b = lowT a b * (lowU a b * sg a b) := by rw [h2]
    _ = (lowT a b * sg a b) * lowU a b := by rw [Int.mul_comm (lowU a b), ← Int.mul_assoc]
    _ = a * lowU a b := by rw [h1]
theorem low_gcd {a b : Int} (h : b ≠ 0) : Int.gcd (lowT a b) (lowU a b) = 1 := by
  have h1 := low_a (a := a) (b := b)
  have h2 := low_b (a := a) (b := b)
  have e : Int.gcd (lowT a b * sg a b) (lowU a b * sg a b) = Int.gcd (lowT a b) (lowU a b) * (sg a b).natAbs := Int.gcd_mul_right ..
  rw [h1, h2, sg_abs] at e
  have hp : 0 < Int.gcd a b := Nat.pos_of_ne_zero fun z => h (Int.gcd_eq_zero_iff.mp z).2
  exact Nat.eq_of_mul_eq_mul_right hp (by rw [Nat.one_mul]; exact e.symm)
theorem gcd_le_r {a b : Int} (h : b ≠ 0) : Int.gcd a b ≤ b.natAbs := Nat.le_of_dvd (Int.natAbs_pos.mpr h) (by
  have := Int.natAbs_dvd_natAbs.mpr (Int.gcd_dvd_right (a := a) (b := b))
  rwa [Int.natAbs_natCast] at this)
def c_lowest : DC := fun ds Q => ∃ a b : Int, ds = [.int a, .int b] ∧ b ≠ 0 ∧ b.natAbs < 2 ^ 8000 ∧ Q (R2 (lowT a b, lowU a b))
theorem c_lowest_len : ∀ ds Q, c_lowest ds Q → ds.length = 2 := by
  rintro ds Q ⟨n, a, rfl, _⟩
  rfl
def b_lowest (p : Nat) : List S := [.asg 2 (.call p [.var 0, .var 1]), .ite (.cmp .lt (.var 1) (.k (.int 0))) [.asg 2 (.neg (.var 2))] [], .ret (.tup [.bin .fdiv (.var 0) (.var 2), .bin .fdiv (.var 1) (.var 2)])]
theorem lowest_ok {F : List DC} {p : Nat} (hp : F[p]? = some c_part) : ∀ ds Q, c_lowest ds Q → wpBody F 3 (b_lowest p) ds Q := by
  rintro ds Q ⟨a, b, rfl, hb, hl, hq⟩
  unfold b_lowest
  walk_at "oc0"
  rw [sq_asg]
  walk_at "oc"
  simp only [hp]
  refine ⟨a, b, rfl, ?_⟩
  have hs : sg a b ≠ 0 ∧ (sg a b).natAbs.log2 < 9000 := ⟨sg_ne hb, by
    rw [sg_abs]
    exact Nat.lt_trans (log2_lt (x := (Int.gcd a b : Int)) (n := 8000) (by decide) (Nat.lt_of_le_of_lt (gcd_le_r hb) hl)) (by decide)⟩
  dsimp only
  rw [sq_ite]
  walk_at "oc"
  by_cases h : b < 0
  · rw [decide_eq_true h]
    refine iteT ?_
    rw [sq_asg]
    walk_at "oc"
    rw [sq_nil]
    show wpSs F _ _ _
    rw [sq_ret]
    walk_at "oc"
    have e : -((Int.gcd a b : Nat) : Int) = sg a b := by unfold sg; rw [if_pos h]
    rw [e]
    exact ⟨hs, hs, hq⟩
  · rw [decide_eq_false h]
    refine iteF ?_
    rw [sq_nil]
    show wpSs F _ _ _
    rw [sq_ret]
    walk_at "oc"
    have e : ((Int.gcd a b : Nat) : Int) = sg a b := by unfold sg; rw [if_neg h]
    rw [e]
    exact ⟨hs, hs, hq⟩
/-! ### integers, ratios -/
theorem mono_take : Mono c_take := by
  rintro ds P Q h ⟨n, rfl, h1, h2, h3⟩
  exact ⟨n, rfl, h1, h2, fun r a b => h _ (h3 r a b)⟩
theorem mono_bag : Mono c_bag := by
  rintro ds P Q h ⟨n, a, rfl, h1, h2, h3⟩
  exact ⟨n, a, rfl, h1, h2, h _ h3⟩
theorem mono_part : Mono c_part := by
  rintro ds P Q h ⟨a, b, rfl, h3⟩
  exact ⟨a, b, rfl, h _ h3⟩
theorem mono_lowest : Mono c_lowest := by
  rintro ds P Q h ⟨a, b, rfl, h1, h2, h3⟩
  exact ⟨a, b, rfl, h1, h2, h _ h3⟩
/-- a draw below a number, anything wanted of it -/
theorem draw {Q : D → Prop} {n : Int} (hn : 0 < n) (hl : n.natAbs < 2 ^ 8000) (h : ∀ r : Int, 0 ≤ r → r < n → Q (.int r)) : c_take [.bag, .int n] Q := ⟨n, rfl, hn, Nat.lt_trans (log2_lt (by decide) hl) (by decide), h⟩
end OC
set_option Elab.async false
set_option linter.all false
set_option maxRecDepth 100000
set_option maxHeartbeats 4000000
/-! Onecut: a law's defs one after another. -/
namespace OC
open PySem PySem.Spec PyProof.Rows L2
section
variable {P : Program} {w : World} {K : PySem.W.Frag} {mg : Str → Option Value} {base : Heap}
def AllOk (P : Program) (w : World) (K : PySem.W.Frag) (mg : Str → Option Value) (base : Heap) (fs : List Str) (F : List DC) (i : Nat) : Prop := ∀ (j : Nat) (x : Str), (fs.take i)[j]? = some x → ∃ c, (F.take i)[j]? = some c ∧ FOK P w K mg base i x c
theorem all_zero {fs : List Str} {F : List DC} : AllOk P w K mg base fs F 0 := fun j x h => by
  rw [List.take_zero] at h
  cases h
theorem all_step {fs : List Str} {F : List DC} {i : Nat} {x : Str} {c : DC} (A : AllOk P w K mg base fs F i) (hx : fs[i]? = some x) (hc : F[i]? = some c) (ok : FOK P w K mg base (i + 1) x c) : AllOk P w K mg base fs F (i + 1) := fun j y h => by
  by_cases q : j < i
  · have h : (fs.take i)[j]? = some y := by
      rw [List.getElem?_take_of_lt q]
      rw [List.getElem?_take_of_lt (by omega)] at h
      exact h
    obtain ⟨d, h1, h2⟩ := A j y h
    refine ⟨d, ?_, h2.mono (Nat.le_succ i)⟩
    rw [List.getElem?_take_of_lt (by omega)]
    rw [List.getElem?_take_of_lt q] at h1
    exact h1
  · by_cases e : j = i
    · subst e
      rw [List.getElem?_take_of_lt (by omega), hx] at h
      cases h
      exact ⟨c, by rw [List.getElem?_take_of_lt (by omega)]; exact hc, ok⟩
    · have : (fs.take (i + 1))[j]? = none := by
        rw [List.getElem?_eq_none_iff, List.length_take]
        omega
      rw [this] at h
      cases h
theorem all_last {fs : List Str} {F : List DC} {i j : Nat} {x : Str} {c : DC} (A : AllOk P w K mg base fs F i) (hj : j < i) (hx : fs[j]? = some x) (hc : F[j]? = some c) : FOK P w K mg base i x c := by
  obtain ⟨d, h1, h2⟩ := A j x (by rw [List.getElem?_take_of_lt hj]; exact hx)
  rw [List.getElem?_take_of_lt hj, hc] at h1
  cases h1
  exact h2
end
end OC
set_option Elab.async false
set_option linter.all false
set_option maxRecDepth 100000
set_option maxHeartbeats 4000000
set_option exponentiation.threshold 20000
/-! Onecut: data that can be shown and compared. -/
namespace OC
open PySem PySem.Spec PyProof.Rows L2
/-- a text that can be shown -/
def StrSh (s : Str) : Prop := (PyData.str s).showable = true ∧ (PyData.str s).canLay0 = true ∧ (PyData.str s).shown.length + 10 ≤ 2000
/-- numbers of up to 1900 bits, nested at most n deep -/
def ShowI : Nat → D → Prop
  | _, .int i => i.natAbs < 2 ^ 1900
  | _, .bl _ => True
  | _, .non => True
  | _, .str s => StrSh s
  | n + 1, .tup xs => ∀ x ∈ xs, ShowI n x
  | n + 1, .lst xs => ∀ x ∈ xs, ShowI n x
  | _, _ => False
mutual
/-- how many parts -/
def D.nd : D → Nat
  | .tup xs => 1 + ndL xs
  | .lst xs => 1 + ndL xs
  | _ => 1
def ndL : List D → Nat
  | [] => 0
  | d :: ds => d.nd + ndL ds
end
theorem ndL_le {k : Nat} : ∀ {xs : List D}, (∀ x ∈ xs, x.nd ≤ k) → ndL xs ≤ k * xs.length
  | [], _ => Nat.zero_le _
  | d :: ds, h => by
    have h1 := h d List.mem_cons_self
    have h2 := ndL_le (xs := ds) fun x hx => h x (List.mem_cons_of_mem _ hx)
    rw [ndL, List.length_cons, Nat.mul_succ]
    omega
theorem int_text {i : Int} (h : i.natAbs < 2 ^ 1900) : (Str.ofString (toString i)).length ≤ 1902 := by
  have h1 := int_text_length_le (a := i) (k := 1900) (by decide) (log2_lt (by decide) h)
  rw [PySem.ofString_length]
  omega
mutual
theorem show_len : ∀ (d : D) (n : Nat), ShowI n d → d.pure = true ∧ d.py.showable = true ∧ d.py.depth ≤ n ∧ d.py.canLay0 = true ∧ d.py.shown.length + 10 ≤ 2000 * d.nd
  | .int i, n, h => by
    have h : i.natAbs < 2 ^ 1900 := by cases n <;> exact h
    refine ⟨rfl, decide_eq_true (Nat.lt_trans (log2_lt (by decide) h) (by decide)), Nat.zero_le _, rfl, ?_⟩
    have := int_text h
    show (Str.ofString (toString i)).length + 10 ≤ 2000 * 1
    omega
  | .bl b, n, h => ⟨rfl, rfl, Nat.zero_le _, rfl, by cases b <;> decide +kernel⟩
  | .non, n, h => ⟨rfl, rfl, Nat.zero_le _, rfl, by decide +kernel⟩
  | .tup xs, 0, h => by cases h
  | .lst xs, 0, h => by cases h
  | .tup xs, n + 1, h => by
    obtain ⟨h1, h2, h3, h4, h5, h6⟩ := show_lenL xs n h
    refine ⟨h1, h2, ?_, h4, ?_⟩
    · show PyData.depthAll (pyL xs) + 1 ≤ n + 1
      omega
    · have := tupleText_len_le (PyData.shownAll (pyL xs))
      show (tupleText (PyData.shownAll (pyL xs))).length + 10 ≤ 2000 * (1 + ndL xs)
      omega
  | .lst xs, n + 1, h => by
    obtain ⟨h1, h2, h3, h4, h5, h6⟩ := show_lenL xs n h
    refine ⟨h1, h2, ?_, h4, ?_⟩
    · show PyData.depthAll (pyL xs) + 1 ≤ n + 1
      omega
    · have := listText_len_le (PyData.shownAll (pyL xs))
      show (listText (PyData.shownAll (pyL xs))).length + 10 ≤ 2000 * (1 + ndL xs)
      omega
  | .str s, n, h => by
    have h : StrSh s := by cases n <;> exact h
    exact ⟨rfl, h.1, Nat.zero_le _, h.2.1, by show (PyData.str s).shown.length + 10 ≤ 2000 * 1; exact h.2.2⟩
  | .scr s, n, h => by cases n <;> cases h
  | .bag, n, h => by cases n <;> cases h
  | .ob _, n, h => by cases n <;> cases h
theorem show_lenL : ∀ (xs : List D) (n : Nat), (∀ x ∈ xs, ShowI n x) → pureL xs = true ∧ PyData.showableAll (pyL xs) = true ∧ PyData.depthAll (pyL xs) ≤ n ∧ PyData.canLayAll0 (pyL xs) = true ∧ ((PyData.shownAll (pyL xs)).map (·.length)).sum + 2 * (PyData.shownAll (pyL xs)).length ≤ 2000 * ndL xs ∧ True
  | [], n, _ => ⟨rfl, rfl, Nat.zero_le _, rfl, Nat.zero_le _, trivial⟩
  | d :: ds, n, h => by
    obtain ⟨h1, h2, h3, h4, h5⟩ := show_len d n (h d List.mem_cons_self)
    obtain ⟨k1, k2, k3, k4, k5, _⟩ := show_lenL ds n fun x hx => h x (List.mem_cons_of_mem _ hx)
    refine ⟨?_, ?_, ?_, ?_, ?_, trivial⟩
    · show (d.pure && pureL ds) = true
      rw [h1, k1]
      rfl
    · show (d.py.showable && PyData.showableAll (pyL ds)) = true
      rw [h2, k2]
      rfl
    · show max d.py.depth (PyData.depthAll (pyL ds)) ≤ n
      omega
    · show (d.py.canLay0 && PyData.canLayAll0 (pyL ds)) = true
      rw [h4, k4]
      rfl
    · show ((d.py.shown :: PyData.shownAll (pyL ds)).map (·.length)).sum + 2 * (d.py.shown :: PyData.shownAll (pyL ds)).length ≤ 2000 * (d.nd + ndL ds)
      rw [List.map_cons, List.sum_cons, List.length_cons]
      omega
end
theorem showOk_of {d : D} {n : Nat} (h : ShowI n d) (hn : n ≤ 60) (hd : d.nd ≤ 8000) : showOk d := by
  obtain ⟨h1, h2, h3, h4, h5⟩ := show_len d n h
  refine ⟨h1, h2, ?_, by omega⟩
  rw [sizeLine_eq]
  omega
/-- both ways of an if meet again -/
theorem join2 {c : Bool} {A B : List S} {F : List DC} {G : List Sl} {J : List Sl → Prop} {rt : D → Prop} {bk ct : List Sl → Prop} (P : List Sl → Prop) (hr : ∀ G1, P G1 → J G1)
    (h : ∀ J' : List Sl → Prop, (∀ G1, P G1 → J' G1) → if c = true then wpSs F A G ⟨J', rt, bk, ct⟩ else wpSs F B G ⟨J', rt, bk, ct⟩) : if c = true then wpSs F A G ⟨J, rt, bk, ct⟩ else wpSs F B G ⟨J, rt, bk, ct⟩ := h J hr
end OC
set_option Elab.async false
set_option linter.all false
set_option maxRecDepth 100000
set_option maxHeartbeats 4000000
set_option exponentiation.threshold 20000
/-! Onecut: the ratios' defs, and ratios in lowest terms. -/
namespace OC
open PySem PySem.Spec PyProof.Rows L2
local macro_rules | `(tactic| walk_at "oc") => `(tactic| simp only [wpE, wpEs, getV, vals, Sl.v, List.map_cons, List.map_nil, List.set, bop, augop, cop, ixnop, biop, dtru, itemsOf, bindS, setAllS, bindV, setAll, if_true, if_false, Bool.false_eq_true, List.getElem?_cons_zero, List.getElem?_cons_succ])
local macro_rules | `(tactic| walk_at "oc0") => `(tactic| simp only [wpBody, start0, List.map_cons, List.map_nil, List.length, List.replicate, List.cons_append, List.nil_append, Nat.reduceAdd, Nat.reduceSub])
def Bt (n : Nat) (r : Int × Int) : Prop := r.1.natAbs < 2 ^ n ∧ r.2.natAbs < 2 ^ n
theorem Bt.mono {m n : Nat} {r : Int × Int} (h : Bt m r) (hmn : m ≤ n) : Bt n r := ⟨Nat.lt_of_lt_of_le h.1 (Nat.pow_le_pow_right (by decide) hmn), Nat.lt_of_lt_of_le h.2 (Nat.pow_le_pow_right (by decide) hmn)⟩
def lessR (p q : Int × Int) : Bool := decide (p.1 * q.2 < q.1 * p.2)
def lowR (a b : Int) : Int × Int := (lowT a b, lowU a b)
/-- in lowest terms -/
structure Low (r : Int × Int) : Prop where
  pos : 0 < r.2
  low : Int.gcd r.1 r.2 = 1
theorem lowR_low {a b : Int} (h : b ≠ 0) : Low (lowR a b) := ⟨low_pos h, low_gcd h⟩
theorem lowR_eq (a b : Int) : (lowR a b).1 * b = a * (lowR a b).2 := low_eq
theorem dvd_of {a b c : Int} (h : Int.gcd a b = 1) (d : b ∣ a * c) : b ∣ c := by
  have h1 : b.natAbs ∣ a.natAbs * c.natAbs := by
    rw [← Int.natAbs_mul]
    exact Int.natAbs_dvd_natAbs.mpr d
  have h2 : Nat.Coprime b.natAbs a.natAbs := by
    unfold Nat.Coprime
    rw [Nat.gcd_comm]
    exact h
  exact Int.natAbs_dvd_natAbs.mp (h2.dvd_of_dvd_mul_left h1)
/-- equal as numbers, equal -/
theorem Low.uniq {r s : Int × Int} (hr : Low r) (hs : Low s) (h : r.1 * s.2 = s.1 * r.2) : r = s := by
  have d1 : r.2 ∣ s.2 := dvd_of hr.low ⟨s.1, by rw [h, Int.mul_comm]⟩
  have d2 : s.2 ∣ r.2 := dvd_of hs.low ⟨r.1, by rw [← h, Int.mul_comm]⟩
  have e : r.2 = s.2 := Int.dvd_antisymm (Int.le_of_lt hr.pos) (Int.le_of_lt hs.pos) d1 d2
  have e1 : r.1 = s.1 := by
    rw [e] at h
    exact Int.eq_of_mul_eq_mul_right (Int.ne_of_gt hs.pos) h
  exact Prod.ext e1 e
theorem lowR_uniq {a b : Int} {r : Int × Int} (hb : b ≠ 0) (hr : Low r) (h : r.1 * b = a * r.2) : lowR a b = r := by
  refine (lowR_low hb).uniq hr ?_
  have h1 := lowR_eq a b
  -- both times b
  refine Int.eq_of_mul_eq_mul_right hb ?_
  calc (lowR a b).1 * r.2 * b = ((lowR a b).1 * b) * r.2 := by rw [Int.mul_assoc, Int.mul_assoc, Int.mul_comm r.2]
    _ = a * (lowR a b).2 * r.2 := by rw [h1]
    _ = (a * r.2) * (lowR a b).2 := by rw [Int.mul_assoc, Int.mul_assoc, Int.mul_comm r.2]
    _ = r.1 * b * (lowR a b).2 := by rw [h]
    _ = r.1 * (lowR a b).2 * b := by rw [Int.mul_assoc, Int.mul_assoc, Int.mul_comm b]
theorem lowR_self {r : Int × Int} (h : Low r) : lowR r.1 r.2 = r := lowR_uniq (Int.ne_of_gt h.pos) h rfl
/-! ### the defs -/
def isIntD : D → Bool
  | .int _ => true
  | _ => false
def c_isint : DC := fun ds Q => ∃ d, ds = [d] ∧ d.pure = true ∧ Q (.bl (isIntD d))
theorem c_isint_len : ∀ ds Q, c_isint ds Q → ds.length = 1 := by
  rintro ds Q ⟨d, rfl, _⟩
  rfl
theorem mono_isint : Mono c_isint := by
  rintro ds P Q h ⟨d, rfl, h1, h2⟩
  exact ⟨d, rfl, h1, h _ h2⟩
def b_isint : List S := [.ret (.andv (.isi (.var 0) .int) (.notv (.isi (.var 0) .bool)))]
theorem isint_ok {F : List DC} : ∀ ds Q, c_isint ds Q → wpBody F 1 b_isint ds Q := by
  rintro ds Q ⟨d, rfl, h1, h2⟩
  unfold b_isint
  walk_at "oc0"
  rw [sq_ret]
  walk_at "oc"
  refine ⟨h1, ?_⟩
  cases d <;> first
    | exact h2
    | exact ⟨h1, h2⟩
def isRatD : D → Bool
  | .tup [.int a, .int b] => decide (0 < b) && decide (Int.gcd a b = 1)
  | _ => false
def c_isratio : DC := fun ds Q => ∃ d, ds = [d] ∧ d.pure = true ∧ Q (.bl (isRatD d))
theorem c_isratio_len : ∀ ds Q, c_isratio ds Q → ds.length = 1 := by
  rintro ds Q ⟨d, rfl, _⟩
  rfl
theorem mono_isratio : Mono c_isratio := by
  rintro ds P Q h ⟨d, rfl, h1, h2⟩
  exact ⟨d, rfl, h1, h _ h2⟩
def b_isratio (i c : Nat) : List S := [.ite (.orv (.notv (.isi (.var 0) .tuple)) (.cmp .ne (.bi .len [.var 0]) (.k (.int 2)))) [.ret (.k (.bl false))] [], .unp [1, 2] (.var 0), .ret (.andv (.call i [.var 1]) (.andv (.call i [.var 2]) (.andv (.cmp .gt (.var 2) (.k (.int 0))) (.cmp .eq (.call c [.var 1, .var 2]) (.k (.int 1))))))]
theorem isratio_ok {F : List DC} {i c : Nat} (hi : F[i]? = some c_isint) (hc : F[c]? = some c_part) : ∀ ds Q, c_isratio ds Q → wpBody F 3 (b_isratio i c) ds Q := by
  rintro ds Q ⟨d, rfl, h1, h2⟩
  unfold b_isratio
  walk_at "oc0"
  rw [sq_ite]
  walk_at "oc"
  refine ⟨h1, ?_⟩
  have no : isTy .tuple d = false → Q (.bl false) := fun z => by
    cases d <;> first | exact h2 | cases z
  by_cases ht : ∃ xs, d = .tup xs
  · obtain ⟨xs, rfl⟩ := ht
    show if (false = true) then _ else _
    refine iteF ?_
    simp only [biop, cop]
    by_cases hl : ((xs.length : Int) = 2)
    · rw [decide_eq_true hl]
      refine iteF ?_
      try dsimp only
      rw [sq_nil]
      try dsimp only
      rw [sq_unp]
      obtain ⟨x, y, rfl⟩ : ∃ x y, xs = [x, y] := by
        match xs, hl with
        | [x, y], _ => exact ⟨x, y, rfl⟩
      walk_at "oc"
      simp only [List.length_cons, List.length_nil, if_true]
      rw [sq_ret]
      walk_at "oc"
      simp only [hi, hc]
      have hp : x.pure = true ∧ y.pure = true := by
        have : (x.pure && (y.pure && true)) = true := h1
        simpa using this
      refine ⟨x, rfl, hp.1, ?_⟩
      cases x <;> first
        | (refine iteF ?_; exact h2)
        | skip
      refine iteT ⟨y, rfl, hp.2, ?_⟩
      cases y <;> first
        | (refine iteF ?_; exact h2)
        | skip
      rename_i a b
      refine iteT ?_
      walk_at "oc"
      by_cases hb : (0 : Int) < b
      · rw [decide_eq_true hb]
        refine iteT ⟨a, b, rfl, ?_⟩
        simp only [cop]
        have e : isRatD (.tup [.int a, .int b]) = decide ((Int.gcd a b : Int) = 1) := by
          simp only [isRatD, decide_eq_true hb, Bool.true_and]
          exact decide_eq_decide.mpr (by omega)
        rw [← e]
        exact h2
      · rw [decide_eq_false hb]
        refine iteF ?_
        have e : isRatD (.tup [.int a, .int b]) = false := by
          simp only [isRatD, decide_eq_false hb, Bool.false_and]
        rw [← e]
        exact h2
    · rw [decide_eq_false hl]
      refine iteT ?_
      try dsimp only
      rw [sq_ret]
      walk_at "oc"
      have e : isRatD (.tup xs) = false := by
        match xs, hl with
        | [], _ => rfl
        | [_], _ => simp [isRatD]
        | _ :: _ :: _ :: _, _ => simp [isRatD]
        | [_, _], hl => exact absurd rfl hl
      rw [← e]
      exact h2
  · have e : isTy .tuple d = false := by
      cases d <;> first | rfl | exact absurd ⟨_, rfl⟩ ht
    rw [e]
    refine iteT ?_
    try dsimp only
    rw [sq_ret]
    walk_at "oc"
    exact no e
def c_isless : DC := fun ds Q => ∃ p q : Int × Int, ds = [R2 p, R2 q] ∧ Bt 4000 p ∧ Bt 4000 q ∧ Q (.bl (lessR p q))
theorem c_isless_len : ∀ ds Q, c_isless ds Q → ds.length = 2 := by
  rintro ds Q ⟨p, q, rfl, _⟩
  rfl
theorem mono_isless : Mono c_isless := by
  rintro ds P Q h ⟨p, q, rfl, h1, h2, h3⟩
  exact ⟨p, q, rfl, h1, h2, h _ h3⟩
def b_isless : List S := [.ret (.cmp .lt (.bin .mul (.ixn (.var 0) 0) (.ixn (.var 1) 1)) (.bin .mul (.ixn (.var 1) 0) (.ixn (.var 0) 1)))]
theorem isless_ok {F : List DC} : ∀ ds Q, c_isless ds Q → wpBody F 2 b_isless ds Q := by
  rintro ds Q ⟨⟨a, b⟩, ⟨c, d⟩, rfl, h1, h2, h3⟩
  unfold b_isless R2
  walk_at "oc0"
  rw [sq_ret]
  walk_at "oc"
  exact ⟨mulW h1.1 h2.2, mulW h2.1 h1.2, h3⟩
/-! ### a drawn ratio: in lowest terms, parts of up to 99 digits -/
/-! ### the law's own frame -/
theorem turns_ok (ns : List Int) : -(2 ^ 62) ≤ (if (if (ns.length : Int) < 8 then (ns.length : Int) else 8) > 2 then (if (ns.length : Int) < 8 then (ns.length : Int) else 8) else 2) ∧ (if (if (ns.length : Int) < 8 then (ns.length : Int) else 8) > 2 then (if (ns.length : Int) < 8 then (ns.length : Int) else 8) else 2) < 2 ^ 62 := by
  split <;> split <;> omega
theorem nz {n : Int} (h : n.natAbs ≤ 10 ^ 98) : ∃ m : Int, n + (if decide (n = 0) = true then 1 else 0) = m ∧ m.natAbs ≤ 10 ^ 98 ∧ m ≠ 0 := by
  by_cases z : n = 0
  · subst z
    exact ⟨1, by decide, by decide, by decide⟩
  · rw [decide_eq_false z]
    exact ⟨n, by simp, h, z⟩
theorem isRat_low {x y : Int} (h : Low (x, y)) : isRatD (.tup [.int x, .int y]) = true := by
  have h1 := h.pos
  have h2 := h.low
  simp only at h1 h2
  simp only [isRatD, decide_eq_true h1, h2, decide_true, Bool.true_and]
theorem isRat_lowR {r : Int × Int} (h : Low r) : isRatD (R2 r) = true := isRat_low h
end OC
set_option Elab.async false
set_option linter.all false
set_option maxRecDepth 100000
set_option maxHeartbeats 4000000
/-! Onecut, base of the wider small language: plain data, mutable things by their places, what a heap may become. -/
namespace NX
open PySem PySem.Spec PyProof.Rows L2 OC
/-- what a thing that may change holds -/
inductive Ob where
  | lst (xs : List D)
  | dic (kvs : List (Key × D))
  | ins (c : Str) (fs : List (Str × D))
/-- the things that may change -/
abbrev TS := Addr → Option Ob
def TS.put (T : TS) (a : Addr) (o : Ob) : TS := fun b => if b = a then some o else T b
def TS.cut (T : TS) (a : Addr) : TS := fun b => if b = a then none else T b
def TS.none : TS := fun _ => Option.none
/-- fewer things -/
def TS.Sub (T T' : TS) : Prop := ∀ a o, T a = some o → T' a = some o
theorem TS.Sub.refl {T : TS} : T.Sub T := fun _ _ h => h
theorem put_same {T : TS} {a : Addr} {o : Ob} : T.put a o a = some o := by unfold TS.put; rw [if_pos rfl]
theorem put_ne {T : TS} {a b : Addr} {o : Ob} (h : b ≠ a) : T.put a o b = T b := by unfold TS.put; rw [if_neg h]
theorem cut_same {T : TS} {a : Addr} : T.cut a a = Option.none := by unfold TS.cut; rw [if_pos rfl]
theorem cut_ne {T : TS} {a b : Addr} (h : b ≠ a) : T.cut a b = T b := by unfold TS.cut; rw [if_neg h]
theorem cut_put {T : TS} {a : Addr} {o : Ob} (h : T a = Option.none) : (T.put a o).cut a = T := by
  funext b
  by_cases e : b = a
  · subst e; rw [cut_same, h]
  · rw [cut_ne e, put_ne e]
theorem put_put {T : TS} {a : Addr} {o u : Ob} : (T.put a o).put a u = T.put a u := by
  funext b; unfold TS.put; split <;> rfl
theorem put_sub {T : TS} {a : Addr} {o : Ob} (h : T a = Option.none) : T.Sub (T.put a o) := fun b u e => by
  rw [put_ne (fun z => by subst z; rw [h] at e; cases e)]; exact e
/-- a place that may change, or is kept from all -/
abbrev live (T : TS) : AP := fun a => T a ≠ Option.none
abbrev lv (T : TS) (M : AP) : AP := fun a => T a ≠ Option.none ∨ M a
/-- keyed data -/
inductive RepK {α : Type} (K : PySem.W.Frag) (Bg M : AP) (H : Hp) : List (α × V) → List (α × D) → Prop
  | nil : RepK K Bg M H [] []
  | cons {k : α} {v : V} {d : D} {vs : List (α × V)} {ds : List (α × D)} (h : Rep K Bg M H v d) (t : RepK K Bg M H vs ds) : RepK K Bg M H ((k, v) :: vs) ((k, d) :: ds)
/-- the thing at a holds o -/
def ObOk (K : PySem.W.Frag) (mg : Str → Option Value) (Bg M : AP) (H : Hp) (a : Addr) : Ob → Prop
  | .lst xs => ∃ vs, H a = some (.lst vs) ∧ RepL K Bg M H vs xs
  | .dic kvs => ∃ vs, H a = some (.dK vs) ∧ RepK K Bg M H vs kvs
  | .ins c fs => ∃ C dx vs, mg c = some (.ref C) ∧ H a = some (.ins C dx vs) ∧ RepK K Bg M H vs fs
structure Sm (K : PySem.W.Frag) (mg : Str → Option Value) (Bg M : AP) (T : TS) (H : Hp) : Prop where
  bags : BagsOk Bg H
  nb : ∀ a, live T a → ¬ Bg a
  ob : ∀ a o, T a = some o → ObOk K mg Bg (lv T M) H a o
  mm : ∀ a, M a → H a ≠ none ∧ ¬ Bg a ∧ T a = none
/-- what an expression, or a call, may do: new things, other states of the bags and of what may change -/
structure Ext (Bg : AP) (T : TS) (H : Hp) (Bg' : AP) (T' : TS) (H' : Hp) : Prop where
  sub : ∀ a, Bg a → Bg' a
  new : ∀ a, Bg' a → ¬ Bg a → H a = none
  keep : ∀ a o, ¬ Bg a → T a = none → H a = some o → H' a = some o
  thaw : ∀ a, live T' a → live T a ∨ H a = none
  stay : ∀ a, H a ≠ none → H' a ≠ none
theorem Ext.refl {Bg : AP} {T : TS} {H : Hp} : Ext Bg T H Bg T H := ⟨fun _ h => h, fun _ h n => absurd h n, fun _ _ _ _ h => h, fun _ h => .inl h, fun _ h => h⟩
theorem Ext.nb {Bg Bg' : AP} {T T' : TS} {H H' : Hp} (e : Ext Bg T H Bg' T' H') {a : Addr} {o : HO} (h : H a = some o) (n : ¬ Bg a) : ¬ Bg' a := fun z => by
  have q := e.new a z n
  rw [h] at q
  cases q
theorem some_ne {α : Type} {x : Option α} {o : α} (h : x = some o) : x ≠ none := by rw [h]; exact fun z => nomatch z
theorem live_not {T : TS} {a : Addr} (h : ¬ live T a) : T a = none := by
  cases q : T a with
  | none => rfl
  | some o => exact absurd (some_ne q) h
theorem Ext.dead' {Bg Bg' : AP} {T T' : TS} {H H' : Hp} (e : Ext Bg T H Bg' T' H') {a : Addr} (h : H a ≠ none) (n : T a = none) : T' a = none := live_not fun q => by
  rcases e.thaw a q with z | z
  · exact z n
  · exact h z
theorem Ext.dead {Bg Bg' : AP} {T T' : TS} {H H' : Hp} (e : Ext Bg T H Bg' T' H') {a : Addr} {o : HO} (h : H a = some o) (n : T a = none) : T' a = none := e.dead' (some_ne h) n
theorem Ext.trans {Bg Bg1 Bg2 : AP} {T T1 T2 : TS} {H H1 H2 : Hp} (e : Ext Bg T H Bg1 T1 H1) (f : Ext Bg1 T1 H1 Bg2 T2 H2) : Ext Bg T H Bg2 T2 H2 := by
  refine ⟨fun a h => f.sub a (e.sub a h), fun a h n => ?_, fun a o n t h => f.keep a o (e.nb h n) (e.dead h t) (e.keep a o n t h), fun a h => ?_, fun a h => f.stay a (e.stay a h)⟩
  · by_cases q : Bg1 a
    · exact e.new a q n
    · have z := f.new a h q
      cases w : H a with
      | none => rfl
      | some o => exact absurd z (e.stay a (some_ne w))
  · rcases f.thaw a h with z | z
    · exact e.thaw a z
    · right
      cases w : H a with
      | none => rfl
      | some o => exact absurd z (e.stay a (some_ne w))
theorem lv_not {T : TS} {M : AP} {a : Addr} (h : ¬ lv T M a) : T a = none ∧ ¬ M a := ⟨live_not fun z => h (.inl z), fun z => h (.inr z)⟩
theorem not_lv {T : TS} {M : AP} {a : Addr} (h : T a = none) (m : ¬ M a) : ¬ lv T M a := fun z => z.elim (fun z => z h) m
/-- what keeps a datum: its places are kept, and stay such as do not change -/
structure Kp (Bg M : AP) (H : Hp) (Bg' M' : AP) (H' : Hp) : Prop where
  sub : ∀ a, Bg a → Bg' a
  keep : ∀ a o, ¬ Bg a → ¬ M a → H a = some o → H' a = some o ∧ ¬ Bg' a ∧ ¬ M' a
theorem Ext.kp {Bg Bg' M : AP} {T T' : TS} {H H' : Hp} (e : Ext Bg T H Bg' T' H') : Kp Bg (lv T M) H Bg' (lv T' M) H' :=
  ⟨e.sub, fun a o n m h => ⟨e.keep a o n (lv_not m).1 h, e.nb h n, not_lv (e.dead h (lv_not m).1) (lv_not m).2⟩⟩
mutual
theorem rep_kp {K : PySem.W.Frag} {Bg Bg' M M' : AP} {H H' : Hp} (e : Kp Bg M H Bg' M' H') : ∀ {v : V} {d : D}, Rep K Bg M H v d → Rep K Bg' M' H' v d
  | _, _, .non => .non
  | _, _, .bl b => .bl b
  | _, _, .int i => .int i
  | _, _, .str s => .str s
  | _, _, .tup h nb nm r => by
    obtain ⟨o, ho⟩ := rd_some h
    obtain ⟨_, q2, q3⟩ := e.keep _ o nb nm ho
    exact .tup (rd_keep h fun o q => (e.keep _ o nb nm q).1) q2 q3 (repL_kp e r)
  | _, _, .lit h r => .lit h (repL_kp e r)
  | _, _, .lst h nb nm r => by
    obtain ⟨q1, q2, q3⟩ := e.keep _ _ nb nm h
    exact .lst q1 q2 q3 (repL_kp e r)
  | _, _, .scr h nb nm => by
    obtain ⟨q1, q2, q3⟩ := e.keep _ _ nb nm h
    exact .scr q1 q2 q3
  | _, _, .scrK h => .scrK h
  | _, _, .bag b => .bag (e.sub _ b)
  | _, _, .ob a => .ob a
theorem repL_kp {K : PySem.W.Frag} {Bg Bg' M M' : AP} {H H' : Hp} (e : Kp Bg M H Bg' M' H') : ∀ {vs : List V} {ds : List D}, RepL K Bg M H vs ds → RepL K Bg' M' H' vs ds
  | _, _, .nil => .nil
  | _, _, .cons h t => .cons (rep_kp e h) (repL_kp e t)
end
theorem RepK.kp {α : Type} {K : PySem.W.Frag} {Bg Bg' M M' : AP} {H H' : Hp} (e : Kp Bg M H Bg' M' H') : ∀ {vs : List (α × V)} {ds : List (α × D)}, RepK K Bg M H vs ds → RepK K Bg' M' H' vs ds
  | _, _, .nil => .nil
  | _, _, .cons h t => .cons (rep_kp e h) (RepK.kp e t)
theorem ObOk.kp {K : PySem.W.Frag} {mg : Str → Option Value} {Bg Bg' M M' : AP} {H H' : Hp} (e : Kp Bg M H Bg' M' H') {a : Addr} (same : H' a = H a) : ∀ {o : Ob}, ObOk K mg Bg M H a o → ObOk K mg Bg' M' H' a o
  | .lst _, ⟨vs, h, r⟩ => ⟨vs, by rw [same]; exact h, repL_kp e r⟩
  | .dic _, ⟨vs, h, r⟩ => ⟨vs, by rw [same]; exact h, r.kp e⟩
  | .ins _ _, ⟨C, dx, vs, hc, h, r⟩ => ⟨C, dx, vs, hc, by rw [same]; exact h, r.kp e⟩
theorem rep_ext {K : PySem.W.Frag} {Bg Bg' M : AP} {T T' : TS} {H H' : Hp} (e : Ext Bg T H Bg' T' H') {v : V} {d : D} (r : Rep K Bg (lv T M) H v d) : Rep K Bg' (lv T' M) H' v d := rep_kp e.kp r
theorem repL_ext {K : PySem.W.Frag} {Bg Bg' M : AP} {T T' : TS} {H H' : Hp} (e : Ext Bg T H Bg' T' H') {v : List V} {d : List D} (r : RepL K Bg (lv T M) H v d) : RepL K Bg' (lv T' M) H' v d := repL_kp e.kp r
theorem RepK.ext {α : Type} {K : PySem.W.Frag} {Bg Bg' M : AP} {T T' : TS} {H H' : Hp} (e : Ext Bg T H Bg' T' H') {v : List (α × V)} {d : List (α × D)} (r : RepK K Bg (lv T M) H v d) : RepK K Bg' (lv T' M) H' v d := r.kp e.kp
section
variable {K : PySem.W.Frag} {mg : Str → Option Value} {Bg M : AP} {T : TS} {H : Hp}
/-- a live place is there -/
theorem ObOk.there {M : AP} {a : Addr} : ∀ {o : Ob}, ObOk K mg Bg M H a o → H a ≠ none
  | .lst _, ⟨_, h, _⟩ => some_ne h
  | .dic _, ⟨_, h, _⟩ => some_ne h
  | .ins _ _, ⟨_, _, _, _, h, _⟩ => some_ne h
theorem Sm.there (s : Sm K mg Bg M T H) {a : Addr} (h : live T a) : H a ≠ none := by
  cases q : T a with
  | none => exact absurd q h
  | some o => exact (s.ob a o q).there
theorem Sm.free (s : Sm K mg Bg M T H) {a : Addr} (h : H a = none) : T a = none ∧ ¬ Bg a ∧ ¬ M a :=
  ⟨live_not fun z => s.there z h, (fun z => by
    obtain ⟨_, _, e, _⟩ := s.bags a z
    rw [h] at e
    cases e), fun z => (s.mm a z).1 h⟩
theorem Sm.md (s : Sm K mg Bg M T H) : ∀ a, lv T M a → H a ≠ none ∧ ¬ Bg a := fun a h => h.elim (fun h => ⟨s.there h, s.nb a h⟩) fun h => ⟨(s.mm a h).1, (s.mm a h).2.1⟩
/-- the kept places, behind -/
theorem mm_ext {Bg' : AP} {T' : TS} {H' : Hp} (s : Sm K mg Bg M T H) (e : Ext Bg T H Bg' T' H') : ∀ a, M a → H' a ≠ none ∧ ¬ Bg' a ∧ T' a = none := fun a m => by
  obtain ⟨h1, h2, h3⟩ := s.mm a m
  refine ⟨e.stay a h1, fun z => h1 (e.new a z h2), e.dead' h1 h3⟩
/-- a new thing that does not change, no bag -/
theorem Ext.lay {p : Addr} {o : HO} (h : H p = none) : Ext Bg T H Bg T (upd H p o) :=
  ⟨fun _ q => q, fun _ q n => absurd q n, fun a u _ _ q => by rw [upd_ne (ne_of_none q h)]; exact q, fun _ q => .inl q, fun a q => by
    by_cases e : a = p
    · subst e; exact absurd h q
    · rw [upd_ne e]; exact q⟩
theorem Sm.lay {p : Addr} {o : HO} (s : Sm K mg Bg M T H) (h : H p = none) : Sm K mg Bg M T (upd H p o) :=
  ⟨fun a q => by
    obtain ⟨L, M, e, r⟩ := s.bags a q
    exact ⟨L, M, by rw [upd_ne (ne_of_none e h)]; exact e, r⟩, s.nb, fun a u q => (s.ob a u q).kp (Ext.lay h).kp (upd_ne fun z => by subst z; exact s.there (some_ne q) h), mm_ext s (Ext.lay h)⟩
/-- a new thing that may change -/
theorem Ext.own {p : Addr} {o : HO} {u : Ob} (h : H p = none) : Ext Bg T H Bg (T.put p u) (upd H p o) :=
  ⟨fun _ q => q, fun _ q n => absurd q n, fun a u _ _ q => by rw [upd_ne (ne_of_none q h)]; exact q, fun a q => by
    by_cases e : a = p
    · subst e; exact .inr h
    · exact .inl (by show T a ≠ _; rw [← put_ne (T := T) (o := u) e]; exact q), fun a q => by
    by_cases e : a = p
    · subst e; exact absurd h q
    · rw [upd_ne e]; exact q⟩
/-- a thing that may change gets another content -/
theorem Ext.wr {p : Addr} {o : HO} {u : Ob} (h : live T p) : Ext Bg T H Bg (T.put p u) (upd H p o) :=
  ⟨fun _ q => q, fun _ q n => absurd q n, fun a u _ t q => by rw [upd_ne fun z => by subst z; exact h t]; exact q, fun a q => by
    by_cases e : a = p
    · subst e; exact .inl h
    · exact .inl (by show T a ≠ _; rw [← put_ne (T := T) (o := u) e]; exact q), fun a q => by
    by_cases e : a = p
    · subst e; rw [upd_same]; exact fun z => nomatch z
    · rw [upd_ne e]; exact q⟩
/-- the state behind a write, new or not -/
theorem Sm.put {p : Addr} {o : HO} {u : Ob} (s : Sm K mg Bg M T H) (h : H p = none ∨ live T p) (ok : ObOk K mg Bg (lv (T.put p u) M) (upd H p o) p u) : Sm K mg Bg M (T.put p u) (upd H p o) := by
  have nb : ¬ Bg p := h.elim (fun h => (s.free h).2.1) fun h => s.nb p h
  have x : Ext Bg T H Bg (T.put p u) (upd H p o) := h.elim Ext.own Ext.wr
  refine ⟨fun a q => ?_, fun a q => ?_, fun a v q => ?_, mm_ext s x⟩
  · obtain ⟨L, M, e, r⟩ := s.bags a q
    exact ⟨L, M, by rw [upd_ne fun z => by subst z; exact nb q]; exact e, r⟩
  · by_cases e : a = p
    · subst e; exact nb
    · exact s.nb a (by show T a ≠ _; rw [← put_ne (T := T) (o := u) e]; exact q)
  · by_cases e : a = p
    · subst e
      rw [put_same] at q
      cases q
      exact ok
    · rw [put_ne e] at q
      exact (s.ob a v q).kp x.kp (upd_ne e)
/-- some things change no more -/
theorem Ext.less {T' : TS} (h : T'.Sub T) : Ext Bg T H Bg T' H :=
  ⟨fun _ q => q, fun _ q n => absurd q n, fun _ _ _ _ q => q, fun a q => .inl (by
    cases w : T' a with
    | none => exact absurd w q
    | some o => exact some_ne (h a o w)), fun _ q => q⟩
theorem Sm.less {T' : TS} (s : Sm K mg Bg M T H) (h : T'.Sub T) : Sm K mg Bg M T' H := by
  have l : ∀ a, live T' a → live T a := fun a q => by
    cases w : T' a with
    | none => exact absurd w q
    | some o => exact some_ne (h a o w)
  exact ⟨s.bags, fun a q => s.nb a (l a q), fun a o q => (s.ob a o (h a o q)).kp (Ext.less h).kp rfl, mm_ext s (Ext.less h)⟩
theorem cut_sub {a : Addr} : (T.cut a).Sub T := fun b o e => by
  by_cases z : b = a
  · subst z; rw [cut_same] at e; cases e
  · rw [cut_ne z] at e; exact e
/-- a list that changes no more is a datum -/
theorem Sm.freeze {a : Addr} {xs : List D} (s : Sm K mg Bg M T H) (h : T a = some (.lst xs)) : Rep K Bg (lv (T.cut a) M) H (.ref a) (.lst xs) := by
  obtain ⟨vs, h1, r⟩ := s.ob a _ h
  exact .lst h1 (s.nb a (some_ne h)) (not_lv cut_same fun m => by rw [(s.mm a m).2.2] at h; cases h) (repL_kp (Ext.less (H := H) (Bg := Bg) cut_sub).kp r)
/-- what the old readings do to the heap -/
theorem lift_ext {Bg' : AP} {H' : Hp} (e : OC.Ext Bg H Bg' H') (s : Sm K mg Bg M T H) : Ext Bg T H Bg' T H' ∧ Sm K mg Bg' M T H' := by
  have x : Ext Bg T H Bg' T H' := ⟨e.sub, e.new, fun a o n _ h => e.keep a o n h, fun a h => .inl h, fun a h => by
    by_cases b : Bg a
    · obtain ⟨_, _, q, _⟩ := e.bags a (e.sub a b)
      exact some_ne q
    · cases w : H a with
      | none => exact absurd w h
      | some o => exact some_ne (e.keep a o b w)⟩
  refine ⟨x, e.bags, fun a h => ?_, fun a o h => (s.ob a o h).kp x.kp ?_, mm_ext s x⟩
  · cases w : H a with
    | none => exact absurd w (s.there h)
    | some o => exact e.nb w (s.nb a h)
  · cases w : H a with
    | none => exact absurd w (s.there (some_ne h))
    | some o => exact e.keep a o (s.nb a (some_ne h)) w
end
end NX
set_option Elab.async false
set_option linter.all false
set_option maxRecDepth 100000
set_option maxHeartbeats 4000000
/-! What a def promises, over plain data and things that may change; what may be raised. -/
namespace NX
open PySem PySem.Spec PyProof.Rows L2 OC
/-- an exception: its class's name, its own attribute -/
structure Xd where
  nm : Str
  at_ : Option (Str × D)
abbrev GV := List (Option D)
abbrev QD := D → TS → Prop
abbrev XD := Xd → TS → Prop
/-- what a def promises -/
structure Ct where
  n : Nat
  c : List D → TS → QD → XD → Prop
  len : ∀ {ds T Q E}, c ds T Q E → ds.length = n
  mono : ∀ {ds : List D} {T : TS} {Q Q' : QD} {E E' : XD}, (∀ d T', Q d T' → Q' d T') → (∀ x T', E x T' → E' x T') → c ds T Q E → c ds T Q' E'
def noX : XD := fun _ _ => False
/-- the world of a proof -/
structure Wd where
  P : Program
  w : World
  K : PySem.W.Frag
  mg : Str → Option Value
  base : Heap
/-- what is called: a def, a method, a class's maker -/
inductive Fk where
  | fn (x : Str)
  | me (c m : Str)
  | mk (c : Str)
  | kw (x : Str) (n : Nat) (ks : List Str)
  deriving DecidableEq
/-- the exception in the heap -/
def RepX (Ω : Wd) (Bg M : AP) (T : TS) (H : Hp) (cls : Value) (d : Option Addr) (x : Xd) : Prop :=
  Ω.mg x.nm = some cls ∧ match x.at_ with
    | none => d = none
    | some (f, a) => ∃ p v, d = some p ∧ H p = some (.xd [(f, v)]) ∧ ¬ Bg p ∧ ¬ lv T M p ∧ Rep Ω.K Bg (lv T M) H v a
def Post (Ω : Wd) (Bg M : AP) (T : TS) (H : Hp) (Qd : QD) (Q : VK) : Prop := ∀ d v Bg' T' H', Ext Bg T H Bg' T' H' → Sm Ω.K Ω.mg Bg' M T' H' → Rep Ω.K Bg' (lv T' M) H' v d → Qd d T' → Q v H'
def PostX (Ω : Wd) (Bg M : AP) (T : TS) (H : Hp) (Xq : XD) (E : XK) : Prop := ∀ x cls d Bg' T' H', Ext Bg T H Bg' T' H' → Sm Ω.K Ω.mg Bg' M T' H' → RepX Ω Bg' M T' H' cls d x → Xq x T' → E cls d H'
section
variable {Ω : Wd} {Bg Bg' M : AP} {T T' : TS} {H H' : Hp} {Qd : QD} {Xq : XD} {Q : VK} {E : XK}
theorem Post.ext (h : Post Ω Bg M T H Qd Q) (e : Ext Bg T H Bg' T' H') : Post Ω Bg' M T' H' Qd Q := fun d v B1 T1 H1 e1 s r q => h d v B1 T1 H1 (e.trans e1) s r q
theorem Post.here {d : D} {v : V} (h : Post Ω Bg M T H Qd Q) (s : Sm Ω.K Ω.mg Bg M T H) (r : Rep Ω.K Bg (lv T M) H v d) (q : Qd d T) : Q v H := h d v Bg T H .refl s r q
theorem PostX.ext (h : PostX Ω Bg M T H Xq E) (e : Ext Bg T H Bg' T' H') : PostX Ω Bg' M T' H' Xq E := fun x c d B1 T1 H1 e1 s r q => h x c d B1 T1 H1 (e.trans e1) s r q
theorem PostX.no : PostX Ω Bg M T H noX E := fun _ _ _ _ _ _ _ _ _ z => z.elim
/-- the old word of what comes behind -/
theorem Post.old (h : Post Ω Bg M T H Qd Q) (s : Sm Ω.K Ω.mg Bg M T H) : OC.Post Ω.K Bg (lv T M) H (fun d => Qd d T) Q := fun d v B1 H1 e r q => by
  obtain ⟨x, s1⟩ := lift_ext e s
  exact h d v B1 T H1 x s1 r q
end
/-- a def at work where no repr is under way; it may raise -/
structure GFn (Ω : Wd) (k : Nat) (f : Addr) (fd : FuncData) (ps : List Str) (sp : Sp) : Prop where
  len : ∀ vs H Q E, sp vs H Q E → vs.length = ps.length
  run : ∀ (A : Around) (outer : List Env) (s : Shared) (H : Hp) (args : Args) (us : List Value) (vs : List V) (Q : VK) (E : XK), Room k A → A.guards = some [] → Env0 Ω.P Ω.w Ω.K Ω.mg Ω.base A outer s H → BindsTo s fd args (ps.zip us) → Vals vs us → sp vs H Q E →
    codeAny (model Ω.P Ω.w) A (.call (.ref f) args) (CR (L2.CX Ω.P Ω.w) outer Ω.P Ω.w H s Q E) s
theorem GFn.mono {Ω : Wd} {j k : Nat} {f : Addr} {fd : FuncData} {ps : List Str} {sp : Sp} (F : GFn Ω j f fd ps sp) (h : j ≤ k) : GFn Ω k f fd ps sp := ⟨F.len, fun A outer s H args us vs Q E r => F.run A outer s H args us vs Q E (r.mono h)⟩
/-- the promise of a def -/
def SpD (Ω : Wd) (c : Ct) : Sp := fun vs H Q E => ∃ (Bg M : AP) (T : TS) (ds : List D) (Qd : QD) (Xq : XD),
  Sm Ω.K Ω.mg Bg M T H ∧ RepL Ω.K Bg (lv T M) H vs ds ∧ c.c ds T Qd Xq ∧ Post Ω Bg M T H Qd Q ∧ PostX Ω Bg M T H Xq E
def FOK (Ω : Wd) (k : Nat) : Fk → Ct → Prop
  | .fn x, c => ∃ (f : Addr) (fd : FuncData) (ps : List Str), Ω.mg x = some (.ref f) ∧ PySem.W.keepIn Ω.K (.ref f) = true ∧ Binds Ω.K fd ps [] ∧ ps.length = c.n ∧ GFn Ω k f fd ps (SpD Ω c)
  | .me y m, c => ∃ (C f : Addr) (fd : FuncData) (ps : List Str), Ω.mg y = some (.ref C) ∧ Cls Ω.K C ∧ Meth Ω.K C m f ∧ Binds Ω.K fd ps [] ∧ ps.length = c.n ∧ GFn Ω k f fd ps (SpD Ω c)
  | .mk y, c => ∃ (j : Nat) (C f : Addr) (fd : FuncData) (ps : List Str), j + 1 ≤ k ∧ Ω.mg y = some (.ref C) ∧ Mk Ω.K C f ∧ Binds Ω.K fd ps [] ∧ ps.length = c.n ∧ GFn Ω j f fd ps (SpD Ω c)
  | .kw x n ks, c => ∃ (f : Addr) (fd : FuncData) (ps : List Str) (g : List Value → List Value → List Value) (gV : List V → List V → List V) (sp : Sp), Ω.mg x = some (.ref f) ∧ PySem.W.keepIn Ω.K (.ref f) = true ∧ KBn Ω.K fd ps n ks g gV ∧ n + ks.length = c.n ∧ GFn Ω k f fd ps sp ∧ ∀ vs zs H Q E, vs.length = n → zs.length = ks.length → SpD Ω c (vs ++ zs) H Q E → sp (gV vs zs) H Q E
theorem FOK.mono {Ω : Wd} {j k : Nat} {x : Fk} {c : Ct} (h : FOK Ω j x c) (hjk : j ≤ k) : FOK Ω k x c := by
  cases x with
  | fn x => obtain ⟨f, fd, ps, h1, h2, h3, h5, h4⟩ := h; exact ⟨f, fd, ps, h1, h2, h3, h5, h4.mono hjk⟩
  | me y m => obtain ⟨C, f, fd, ps, h0, h1, h2, h3, h5, h4⟩ := h; exact ⟨C, f, fd, ps, h0, h1, h2, h3, h5, h4.mono hjk⟩
  | mk y => obtain ⟨i, C, f, fd, ps, hi, h0, h1, h3, h5, h4⟩ := h; exact ⟨i, C, f, fd, ps, Nat.le_trans hi hjk, h0, h1, h3, h5, h4⟩
  | kw x n ks => obtain ⟨f, fd, ps, g, gV, sp, h1, h2, h3, h5, h4, h6⟩ := h; exact ⟨f, fd, ps, g, gV, sp, h1, h2, h3, h5, h4.mono hjk, h6⟩
theorem GFn.imp {Ω : Wd} {k : Nat} {f : Addr} {fd : FuncData} {ps : List Str} {sp sp' : Sp} (F : GFn Ω k f fd ps sp) (h : ∀ vs H Q E, sp' vs H Q E → sp vs H Q E) : GFn Ω k f fd ps sp' :=
  ⟨fun vs H Q E q => F.len vs H Q E (h _ _ _ _ q), fun A outer s H args us vs Q E hr hg he hb hv hs => F.run A outer s H args us vs Q E hr hg he hb hv (h _ _ _ _ hs)⟩
theorem FOK.imp {Ω : Wd} {k : Nat} {x : Fk} {c c' : Ct} (h : FOK Ω k x c) (hn : c.n = c'.n) (hi : ∀ ds T Q E, c'.c ds T Q E → c.c ds T Q E) : FOK Ω k x c' := by
  have z : ∀ vs H Q E, SpD Ω c' vs H Q E → SpD Ω c vs H Q E := fun vs H Q E ⟨Bg, M, T, ds, Qd, Xq, s, r, q, p, px⟩ => ⟨Bg, M, T, ds, Qd, Xq, s, r, hi _ _ _ _ q, p, px⟩
  cases x with
  | fn x => obtain ⟨f, fd, ps, h1, h2, h3, h5, h4⟩ := h; exact ⟨f, fd, ps, h1, h2, h3, h5.trans hn, h4.imp z⟩
  | me y m => obtain ⟨C, f, fd, ps, h0, h1, h2, h3, h5, h4⟩ := h; exact ⟨C, f, fd, ps, h0, h1, h2, h3, h5.trans hn, h4.imp z⟩
  | mk y => obtain ⟨i, C, f, fd, ps, hi, h0, h1, h3, h5, h4⟩ := h; exact ⟨i, C, f, fd, ps, hi, h0, h1, h3, h5.trans hn, h4.imp z⟩
  | kw x n ks => obtain ⟨f, fd, ps, g, gV, sp, h1, h2, h3, h5, h4, h6⟩ := h; exact ⟨f, fd, ps, g, gV, sp, h1, h2, h3, h5.trans hn, h4, fun vs zs H Q E a b s => h6 vs zs H Q E a b (z _ _ _ _ s)⟩
/-- a def that keeps an old promise keeps a new one that asks more -/
theorem FOK.old {Ω : Wd} {k : Nat} {x : Str} {c : OC.DC} {c' : Ct} (h : OC.FOK Ω.P Ω.w Ω.K Ω.mg Ω.base k x c) (hl : ∀ ds Q, c ds Q → ds.length = c'.n) (hi : ∀ ds T Q E, c'.c ds T Q E → c ds fun d => Q d T) (hne : ∃ ds T Q E, c'.c ds T Q E) : FOK Ω k (.fn x) c' := by
  obtain ⟨f, fd, ps, h1, h2, h3, h5, h4⟩ := h
  have hn : ps.length = c'.n := by
    obtain ⟨ds, T, Q, E, z⟩ := hne
    rw [← h5 _ _ (hi _ _ _ _ z), hl _ _ (hi _ _ _ _ z)]
  refine ⟨f, fd, ps, h1, h2, h3, hn, ⟨fun vs H Q E ⟨Bg, M, T, ds, Qd, Xq, s, rl, hc, _⟩ => by rw [rl.len, c'.len hc, hn], fun A outer s H args us vs Q E r hg e b v ⟨Bg, M, T, ds, Qd, Xq, sm, rl, hc, post, _⟩ => ?_⟩⟩
  have old : OC.SpD Ω.K ps.length c vs H Q E := ⟨Bg, lv T M, ds, fun d => Qd d T, sm.bags, sm.md, rl, by rw [c'.len hc, hn], hi _ _ _ _ hc, post.old sm⟩
  refine codeAny_mono (h4.run A outer s H args us vs Q E r hg e b v old) fun rr s' z => ?_
  cases rr with
  | error e => exact False.elim z
  | ok fl => cases fl <;> exact z
end NX
set_option Elab.async false
set_option linter.all false
set_option maxRecDepth 100000
set_option maxHeartbeats 4000000
/-! The wider small language: what an expression means, and when a reading keeps it. -/
namespace NX
open PySem PySem.Spec PyProof.Rows L2 OC
/-- what an expression, expressions mean -/
abbrev VT := GV → TS → QD → XD → Prop
abbrev VTs := GV → TS → (List D → TS → Prop) → XD → Prop
structure EnvE (Ω : Wd) (Bg M : AP) (T : TS) (H : Hp) (σ : L2.St) (G : GV) : Prop where
  sm : Sm Ω.K Ω.mg Bg M T H
  len : σ.length = G.length
  val : ∀ i d, OC.getV G i = some d → ∃ v, σ[i]? = some (some v) ∧ Rep Ω.K Bg (lv T M) H v d
def TEok (Ω : Wd) (t : WX → TE) (m : VT) : Prop := ∀ (Bg M : AP) (T : TS) (H : Hp) (σ : L2.St) (G : GV) (Qd : QD) (Xq : XD) (Q : VK) (W : WX), EnvE Ω Bg M T H σ G → m G T Qd Xq → Post Ω Bg M T H Qd Q → PostX Ω Bg M T H Xq (fun c d H' => W c d σ H') → t W σ H Q
def TAok (Ω : Wd) (t : WX → TA) (ms : VTs) (n : Nat) : Prop := ∀ (Bg M : AP) (T : TS) (H : Hp) (σ : L2.St) (G : GV) (Qd : List D → TS → Prop) (Xq : XD) (Q : List V → Hp → Prop) (W : WX), EnvE Ω Bg M T H σ G → ms G T Qd Xq →
  (∀ ds vs Bg' T' H', Ext Bg T H Bg' T' H' → Sm Ω.K Ω.mg Bg' M T' H' → RepL Ω.K Bg' (lv T' M) H' vs ds → ds.length = n → Qd ds T' → Q vs H') → PostX Ω Bg M T H Xq (fun c d H' => W c d σ H') → t W σ H Q
def TTok (Ω : Wd) (t : WX → TT) (m : VT) : Prop := ∀ (Bg M : AP) (T : TS) (H : Hp) (σ : L2.St) (G : GV) (Qb : Bool → TS → Prop) (Xq : XD) (Q : Bool → Hp → Prop) (W : WX), EnvE Ω Bg M T H σ G → m G T (fun d T1 => dtru d fun b => Qb b T1) Xq →
  (∀ b Bg' T' H', Ext Bg T H Bg' T' H' → Sm Ω.K Ω.mg Bg' M T' H' → Qb b T' → Q b H') → PostX Ω Bg M T H Xq (fun c d H' => W c d σ H') → t W σ H Q
def TIok (Ω : Wd) (t : WX → TI) (mi : VTs) : Prop := ∀ (Bg M : AP) (T : TS) (H : Hp) (σ : L2.St) (G : GV) (Qd : List D → TS → Prop) (Xq : XD) (R : It → Hp → Prop) (W : WX), EnvE Ω Bg M T H σ G → mi G T Qd Xq →
  (∀ xs J gs Bg' T' H', Ext Bg T H Bg' T' H' → Sm Ω.K Ω.mg Bg' M T' H' → (∀ p ∈ gs, Rep Ω.K Bg' (lv T' M) H' p.1 p.2) → Walks Ω.K J gs xs → Qd xs T' → R J H') → PostX Ω Bg M T H Xq (fun c d H' => W c d σ H') → t W σ H R
def seqM : List VT → VTs
  | [] => fun _ T Q _ => Q [] T
  | m :: ms => fun G T Q X => m G T (fun d T1 => seqM ms G T1 (fun ds T2 => Q (d :: ds) T2) X) X
section
variable {Ω : Wd} {Bg Bg' M : AP} {T T' : TS} {H H' : Hp} {σ : L2.St} {G : GV}
theorem EnvE.ext (h : EnvE Ω Bg M T H σ G) (e : Ext Bg T H Bg' T' H') (s : Sm Ω.K Ω.mg Bg' M T' H') : EnvE Ω Bg' M T' H' σ G :=
  ⟨s, h.len, fun i d q => by
    obtain ⟨v, h1, h2⟩ := h.val i d q
    exact ⟨v, h1, rep_ext e h2⟩⟩
theorem EnvE.set {v : V} {d : D} (e : EnvE Ω Bg M T H σ G) (r : Rep Ω.K Bg (lv T M) H v d) (i : Nat) : EnvE Ω Bg M T H (σ.set i (some v)) (G.set i (some d)) := by
  refine ⟨e.sm, by rw [List.length_set, List.length_set]; exact e.len, fun j d' h => ?_⟩
  have h := getV_some h
  by_cases q : i = j
  · subst q
    by_cases l : i < G.length
    · rw [List.getElem?_set_self l] at h
      cases h
      exact ⟨v, List.getElem?_set_self (by rw [e.len]; exact l), r⟩
    · rw [List.getElem?_eq_none (by rw [List.length_set]; omega)] at h
      cases h
  · rw [List.getElem?_set_ne q] at h
    obtain ⟨w, h1, h2⟩ := e.val j d' (getV_of h)
    exact ⟨w, by rw [List.getElem?_set_ne q]; exact h1, h2⟩
theorem EnvE.wipe (e : EnvE Ω Bg M T H σ G) (vs : List Nat) : EnvE Ω Bg M T H (L2.wipe σ vs) (wipeV G vs) := by
  refine ⟨e.sm, by rw [wipe_length, wipeV_len]; exact e.len, fun i d h => ?_⟩
  obtain ⟨h1, h2⟩ := wipeV_some (getV_some h)
  obtain ⟨v, h3, h4⟩ := e.val i d (getV_of h1)
  exact ⟨v, by rw [wipe_get, if_neg h2]; exact h3, h4⟩
end
/-! ### new things -/
/-- a new list, one that may change or not -/
def mkL (own : Bool) (xs : List D) (T : TS) (Q : QD) : Prop :=
  if own = true then ∀ a, T a = none → Q (.ob a) (T.put a (.lst xs)) else Q (.lst xs) T
section
variable {Ω : Wd} {Bg M : AP} {T : TS} {H : Hp} {vs : List V} {ds : List D} {Qd : QD} {Q : VK} {p : Addr}
theorem new_tup (s : Sm Ω.K Ω.mg Bg M T H) (rl : RepL Ω.K Bg (lv T M) H vs ds) (q : Qd (.tup ds) T) (post : Post Ω Bg M T H Qd Q) (hp : H p = none) : Q (.ref p) (L2.upd H p (.tup vs)) := by
  obtain ⟨n1, n2, n3⟩ := s.free hp
  exact post _ _ _ _ _ (Ext.lay hp) (s.lay hp) (.tup (.inl upd_same) n2 (not_lv n1 n3) (repL_ext (Ext.lay hp) rl)) q
theorem new_lst {own : Bool} (s : Sm Ω.K Ω.mg Bg M T H) (rl : RepL Ω.K Bg (lv T M) H vs ds) (q : mkL own ds T Qd) (post : Post Ω Bg M T H Qd Q) (hp : H p = none) : Q (.ref p) (L2.upd H p (.lst vs)) := by
  obtain ⟨n1, n2, n3⟩ := s.free hp
  cases own with
  | true =>
    have q : ∀ a, T a = none → Qd (.ob a) (T.put a (.lst ds)) := q
    exact post _ _ _ _ _ (Ext.own hp) (s.put (u := .lst ds) (.inl hp) ⟨vs, upd_same, repL_ext (Ext.own hp) rl⟩) (.ob p) (q p n1)
  | false =>
    have q : Qd (.lst ds) T := q
    exact post _ _ _ _ _ (Ext.lay hp) (s.lay hp) (.lst upd_same n2 (not_lv n1 n3) (repL_ext (Ext.lay hp) rl)) q
theorem mkL_mono {own : Bool} {xs : List D} {T : TS} {Q Q' : QD} (h : ∀ d T', Q d T' → Q' d T') (w : mkL own xs T Q) : mkL own xs T Q' := by
  cases own with
  | true => exact fun a ha => h _ _ (w a ha)
  | false => exact h _ _ w
end
/-! ### readings of values -/
/-- a reading of two values -/
def ROk2 (Ω : Wd) (r : R2) (g : D → D → TS → QD → Prop) : Prop := ∀ (Bg M : AP) (T : TS) (H : Hp) (x y : V) (dx dy : D) (Qd : QD) (Q : VK), Sm Ω.K Ω.mg Bg M T H → Rep Ω.K Bg (lv T M) H x dx → Rep Ω.K Bg (lv T M) H y dy → g dx dy T Qd → Post Ω Bg M T H Qd Q → r x y H Q
def ROkC (Ω : Wd) (r : List V → Hp → VK → Prop) (g : List D → TS → QD → Prop) : Prop := ∀ (Bg M : AP) (T : TS) (H : Hp) (vs : List V) (ds : List D) (Qd : QD) (Q : VK), Sm Ω.K Ω.mg Bg M T H → RepL Ω.K Bg (lv T M) H vs ds → g ds T Qd → Post Ω Bg M T H Qd Q → r vs H Q
section
variable {Ω : Wd}
theorem rok2_up {r : R2} {g : D → D → (D → Prop) → Prop} (h : OC.ROk2 Ω.K r g) : ROk2 Ω r fun x y T Q => g x y fun d => Q d T := fun Bg M T H x y dx dy Qd Q s rx ry w post =>
  h Bg (lv T M) H x y dx dy _ Q s.bags s.md rx ry w (post.old s)
theorem rokC_up {r : List V → Hp → VK → Prop} {g : List D → (D → Prop) → Prop} (h : OC.ROkC Ω.K r g) : ROkC Ω r fun ds T Q => g ds fun d => Q d T := fun Bg M T H vs ds Qd Q s rl w post =>
  h Bg (lv T M) H vs ds _ Q s.bags s.md rl w (post.old s)
end
/-! ### the look -/
/-- names by slot; what may be called; the built-in names that the module leaves free; constants; classes; attributes that a class lacks; tables -/
structure Ck where
  N : List Str
  fs : List Fk
  bs : List Str
  gs : List (Str × D)
  cs : List Str
  na : List (Str × Str)
  ks : List (Str × List (Str × Int))
structure Gd (Ω : Wd) (C : Ck) (sc : Scope) (k : Nat) (X : Cx) : Prop where
  eP : X.prog = Ω.P
  eW : X.w = Ω.w
  eK : X.K = Ω.K
  eM : X.mg = Ω.mg
  eB : X.base = Ω.base
  eN : X.N = C.N
  nd : C.N.Nodup
  esc : X.env.scope = sc
  calm : X.calm = true
  room : Room k X.A
  gd : X.A.guards = some []
/-- a table of the module: texts to whole numbers -/
def KTab (Ω : Wd) (x : Str) (kvs : List (Str × Int)) : Prop := ∃ A es n, Ω.mg x = some (.ref A) ∧ KDict Ω.K Ω.w A es n ∧ ∀ p, p ∈ kvs → ∃ u, PySem.W.nsIn Ω.K A p.1 = some (some u) ∧ RelV (.int p.2) u
structure Wr (Ω : Wd) (C : Ck) (F : List Ct) (k : Nat) : Prop where
  fs : ∀ (f : Nat) (x : Fk), C.fs[f]? = some x → ∃ c, F[f]? = some c ∧ FOK Ω k x c
  bs : ∀ x, x ∈ C.bs → Ω.mg x = none
  gs : ∀ x d, C.gs.lookup x = some d → ∃ u v, Ω.mg x = some u ∧ RelV v u ∧ ∀ Bg M H, Rep Ω.K Bg M H v d
  cs : ∀ x, x ∈ C.cs → ∃ A, Ω.mg x = some (.ref A) ∧ Cls Ω.K A
  na : ∀ p, p ∈ C.na → ∃ A, Ω.mg p.1 = some (.ref A) ∧ Cls Ω.K A ∧ NoAttr Ω.K A p.2
  ks : ∀ x kvs, C.ks.lookup x = some kvs → KTab Ω x kvs
theorem Gd.gl {Ω : Wd} {C : Ck} {sc : Scope} {k : Nat} {X : Cx} (g : Gd Ω C sc k X) {x : Str} (h : glb sc x = true) : Gl X x := by
  unfold Gl
  show X.env.scope.names.lookup x = _
  rw [g.esc]
  exact glb_ok h
theorem Gd.blk {Ω : Wd} {C : Ck} {sc scope : Scope} {k : Nat} {X : Cx} (g : Gd Ω C sc k X) (s : Shared) (H : Hp) (Ca : Addr) (cl : List (Str × Addr)) (fp : List Addr) : Gd Ω C (relS scope sc) k (X.blk s H scope (compEnvC scope cl Ca X.env) fp) :=
  ⟨g.eP, g.eW, g.eK, g.eM, g.eB, g.eN, g.nd, by rw [← g.esc]; rfl, g.calm, g.room, g.gd⟩
theorem Gd.hu {Ω : Wd} {C : Ck} {sc : Scope} {k : Nat} {X : Cx} (g : Gd Ω C sc k X) : X.A.units + 64 < cLine := g.room.units
/-- a name that is global, and a built-in's -/
def blt (C : Ck) (sc : Scope) (x : Str) (nm : String) : Bool := decide (x = (nm : Str)) && glb sc x && C.bs.contains x
theorem blt_ok {C : Ck} {sc : Scope} {x : Str} {nm : String} (h : blt C sc x nm = true) : x = (nm : Str) ∧ glb sc x = true ∧ x ∈ C.bs := by
  unfold blt at h
  simp only [Bool.and_eq_true, decide_eq_true_eq] at h
  exact ⟨h.1.1, h.1.2, by simpa using h.2⟩
def SE (Ω : Wd) (C : Ck) (k : Nat) (sc : Scope) (e : Expr) (m : VT) : Prop := ∃ t : WX → TE, (∀ X W, Gd Ω C sc k X → Takes X W → PE X e (t W)) ∧ TEok Ω t m
def ST (Ω : Wd) (C : Ck) (k : Nat) (sc : Scope) (e : Expr) (m : VT) : Prop := ∃ t : WX → TT, (∀ X W, Gd Ω C sc k X → Takes X W → PT X e (t W) ∧ (∀ o l p, e = .BoolOp o l p → PW X e (t W))) ∧ TTok Ω t m
def SA (Ω : Wd) (C : Ck) (k : Nat) (sc : Scope) (es : List Expr) (ms : VTs) : Prop := ∃ t : WX → TA, (∀ X W, Gd Ω C sc k X → Takes X W → PA X es (t W)) ∧ TAok Ω t ms es.length ∧ nstL es = true
def SI (Ω : Wd) (C : Ck) (k : Nat) (sc : Scope) (it tg : Expr) (mi : VTs) : Prop := ∃ t : WX → TI, (∀ X W, Gd Ω C sc k X → Takes X W → PI X tg it (t W)) ∧ TIok Ω t mi
inductive All2 {α β : Type} (R : α → β → Prop) : List α → List β → Prop
  | nil : All2 R [] []
  | cons {a : α} {b : β} {as : List α} {bs : List β} (h : R a b) (t : All2 R as bs) : All2 R (a :: as) (b :: bs)
theorem sa_of {Ω : Wd} {C : Ck} {k : Nat} {sc : Scope} : ∀ {es : List Expr} {ms : List VT}, All2 (SE Ω C k sc) es ms → nstL es = true → SA Ω C k sc es (seqM ms)
  | _, _, .nil, _ => ⟨fun _ => tNil, fun X W _ _ => pa_nil, fun Bg M T H σ G Qd Xq Q W en w post px => post _ _ _ _ _ .refl en.sm .nil rfl w, rfl⟩
  | e :: es, m :: ms, .cons h t, hn => by
    have hn' : (nst e && nstL es) = true := hn
    rw [Bool.and_eq_true] at hn'
    obtain ⟨te, h1, h2⟩ := h
    obtain ⟨ta, h3, h4, h5⟩ := sa_of t hn'.2
    refine ⟨fun W => tCons (te W) (ta W), fun X W g tk => pa_cons (h1 X W g tk) (h3 X W g tk) (star_cons hn'.1), fun Bg M T H σ G Qd Xq Q W en w post px => ?_, hn⟩
    refine h2 _ _ _ _ _ _ _ _ _ _ en w (fun x vx B1 T1 H1 e1 s1 rx w1 => ?_) px
    refine h4 _ _ _ _ _ _ _ _ _ _ (en.ext e1 s1) w1 (fun ds vs B2 T2 H2 e2 s2 rl hl w2 => ?_) (px.ext e1)
    exact post _ _ _ _ _ (e1.trans e2) s2 (.cons (rep_ext e2 rx) rl) (by rw [List.length_cons, List.length_cons, hl]) w2
/-- an operation upon the values of its parts -/
structure OpS where
  shape : Ck → Scope → Expr → Option (List Expr)
  sem : List Ct → List D → TS → QD → XD → Prop
  tst : Bool
  mono : ∀ {F : List Ct} {ds : List D} {T : TS} {Q Q' : QD} {X X' : XD}, (∀ d T', Q d T' → Q' d T') → (∀ x T', X x T' → X' x T') → sem F ds T Q X → sem F ds T Q' X'
  sound : ∀ {Ω : Wd} {C : Ck} {F : List Ct} {k : Nat} {sc : Scope} {e : Expr} {es : List Expr} {ms : List VT}, Wr Ω C F k → shape C sc e = some es → All2 (SE Ω C k sc) es ms → SE Ω C k sc e fun G T Q X => seqM ms G T (fun ds T1 => sem F ds T1 Q X) X
  soundT : tst = true → ∀ {Ω : Wd} {C : Ck} {F : List Ct} {k : Nat} {sc : Scope} {e : Expr} {es : List Expr} {ms : List VT}, Wr Ω C F k → shape C sc e = some es → All2 (SE Ω C k sc) es ms → ST Ω C k sc e fun G T Q X => seqM ms G T (fun ds T1 => sem F ds T1 Q X) X
/-- an operation upon a thing, which is looked at before its other parts -/
structure MtS where
  shape : Ck → Scope → Expr → Option (Expr × List Expr)
  chk : D → TS → Prop
  sem : List Ct → D → List D → TS → QD → XD → Prop
  mono : ∀ {F : List Ct} {x : D} {ds : List D} {T : TS} {Q Q' : QD} {X X' : XD}, (∀ d T', Q d T' → Q' d T') → (∀ x T', X x T' → X' x T') → sem F x ds T Q X → sem F x ds T Q' X'
  sound : ∀ {Ω : Wd} {C : Ck} {F : List Ct} {k : Nat} {sc : Scope} {e r : Expr} {es : List Expr} {mr : VT} {ms : List VT}, Wr Ω C F k → shape C sc e = some (r, es) → SE Ω C k sc r mr → All2 (SE Ω C k sc) es ms → SE Ω C k sc e fun G T Q X => mr G T (fun x T1 => chk x T1 ∧ seqM ms G T1 (fun ds T2 => sem F x ds T2 Q X) X) X
/-- what is walked -/
structure IkS where
  shape : Ck → Scope → Expr → Expr → Option (List Expr)
  sem : List D → TS → (List D → TS → Prop) → Prop
  mono : ∀ {ds : List D} {T : TS} {Q Q' : List D → TS → Prop}, (∀ d T', Q d T' → Q' d T') → sem ds T Q → sem ds T Q'
  sound : ∀ {Ω : Wd} {C : Ck} {F : List Ct} {k : Nat} {sc : Scope} {it tg : Expr} {es : List Expr} {ms : List VT}, Wr Ω C F k → shape C sc it tg = some es → All2 (SE Ω C k sc) es ms → SI Ω C k sc it tg fun G T Q X => seqM ms G T (fun ds T1 => sem ds T1 Q) X
/-- targets, also nested ones -/
inductive Tn where
  | name (i : Nat)
  | tup (ts : List Tn)
inductive E where
  | var (i : Nat)
  | op (o : OpS) (as : List E)
  | mth (o : MtS) (r : E) (as : List E)
  | chain (o p : CO) (a b c : E)
  | andv (a b : E)
  | orv (a b : E)
  | notv (a : E)
  | ite (t a b : E)
  | lc (own : Bool) (elt : E) (tg : Tn) (k : IkS) (its ifs : List E) (loc : List (Str × Nat))
mutual
def bindN : Tn → D → GV → Option GV
  | .name i, d, G => some (G.set i (some d))
  | .tup ts, .tup ds, G => if ts.length = ds.length then bindNs ts ds G else none
  | _, _, _ => none
def bindNs : List Tn → List D → GV → Option GV
  | t :: ts, d :: ds, G => match bindN t d G with
    | some G1 => bindNs ts ds G1
    | none => none
  | [], [], G => some G
  | _, _, _ => none
end
def wpMap (f : D → TS → (Option D → TS → Prop) → Prop) : List D → List D → TS → (List D → TS → Prop) → Prop
  | [], acc, T, Q => Q acc T
  | x :: xs, acc, T, Q => f x T fun o T1 => match o with
    | some y => wpMap f xs (acc ++ [y]) T1 Q
    | none => wpMap f xs acc T1 Q
mutual
def wpE (F : List Ct) : E → VT
  | .var i, G, T, Q, _ => match OC.getV G i with | some d => Q d T | none => False
  | .op o as, G, T, Q, X => wpEs F as G T (fun ds T1 => o.sem F ds T1 Q X) X
  | .mth o r as, G, T, Q, X => wpE F r G T (fun x T1 => o.chk x T1 ∧ wpEs F as G T1 (fun ds T2 => o.sem F x ds T2 Q X) X) X
  | .chain o p a b c, G, T, Q, X => wpE F a G T (fun x T1 => wpE F b G T1 (fun y T2 => OC.cop o x y fun r => dtru r fun r => if r = true then wpE F c G T2 (fun z T3 => OC.cop p y z fun d => Q d T3) X else Q (.bl false) T2) X) X
  | .andv a b, G, T, Q, X => wpE F a G T (fun x T1 => dtru x fun r => if r = true then wpE F b G T1 Q X else Q (.bl false) T1) X
  | .orv a b, G, T, Q, X => wpE F a G T (fun x T1 => dtru x fun r => if r = true then Q (.bl true) T1 else wpE F b G T1 Q X) X
  | .notv a, G, T, Q, X => wpE F a G T (fun x T1 => dtru x fun r => Q (.bl (!r)) T1) X
  | .ite t a b, G, T, Q, X => wpE F t G T (fun x T1 => dtru x fun r => if r = true then wpE F a G T1 Q X else wpE F b G T1 Q X) X
  | .lc own elt tg k its ifs loc, G, T, Q, X => wpEs F its G T (fun ds T1 => k.sem ds T1 fun xs T2 => xs.length ≤ 100000 ∧
      wpMap (fun d T3 kk => match bindN tg d (wipeV G (loc.map (·.2))) with
        | some G1 => wpIf F ifs G1 T3 (fun T4 => wpE F elt G1 T4 (fun y T5 => kk (some y) T5) noX) (fun T4 => kk none T4)
        | none => False) xs [] T2 fun ys T6 => mkL own ys T6 Q) X
def wpEs (F : List Ct) : List E → VTs
  | [], _, T, Q, _ => Q [] T
  | e :: es, G, T, Q, X => wpE F e G T (fun d T1 => wpEs F es G T1 (fun ds T2 => Q (d :: ds) T2) X) X
def wpIf (F : List Ct) : List E → GV → TS → (TS → Prop) → (TS → Prop) → Prop
  | [], _, T, A, _ => A T
  | t :: r, G, T, A, B => wpE F t G T (fun x T1 => dtru x fun q => if q = true then wpIf F r G T1 A B else B T1) noX
end
theorem wpEs_seq {F : List Ct} : ∀ (es : List E), wpEs F es = seqM (es.map (wpE F))
  | [] => by funext G T Q X; rw [wpEs]; rfl
  | e :: es => by
    funext G T Q X
    rw [wpEs, wpEs_seq es]
    rfl
def chkTn (N : List Str) (sc : Scope) (fo : Str → Bool) : Tn → Expr → Bool
  | .name i, e => match asName e with
    | some x => decide (N[i]? = some x) && (isLoc sc x || (isCell sc x && fo x))
    | none => false
  | .tup ts, e => match asTup e with
    | some es => go ts es
    | none => false
where go : List Tn → List Expr → Bool
  | [], [] => true
  | t :: ts, e :: es => nst e && chkTn N sc fo t e && go ts es
  | _, _ => false
def tnSl : Tn → List Nat
  | .name i => [i]
  | .tup ts => go ts
where go : List Tn → List Nat
  | [] => []
  | t :: ts => tnSl t ++ go ts
mutual
def chkE (C : Ck) (sc : Scope) (tt : Bool) : E → Expr → Bool
  | .var i, e => (!tt || leaf e) && match asName e with
    | some x => decide (C.N[i]? = some x) && vis sc x && !(x == ("__debug__" : Str)) && !(x == ("__classdict__" : Str))
    | none => false
  | .op o as, e => (!tt || leaf e || o.tst) && match o.shape C sc e with
    | some es => chkEs C sc as es
    | none => false
  | .mth o r as, e => (!tt || leaf e) && match o.shape C sc e with
    | some (x, es) => chkE C sc false r x && chkEs C sc as es
    | none => false
  | .chain o p a b c, e => match asCmp e with
    | some (x, [q, r], [y, z]) => cmpN q == cmpN (coOf o) && cmpN r == cmpN (coOf p) && !isSet z && chkE C sc false a x && chkE C sc false b y && chkE C sc false c z
    | _ => false
  | .andv a b, e => match asBool e with
    | some (.And, [x, y], _) => chkE C sc tt a x && chkE C sc tt b y
    | some (.And, x :: y :: z :: r, p) => chkE C sc tt a x && chkE C sc tt b (.BoolOp .And (y :: z :: r) p)
    | _ => false
  | .orv a b, e => match asBool e with
    | some (.Or, [x, y], _) => chkE C sc tt a x && chkE C sc tt b y
    | some (.Or, x :: y :: z :: r, p) => chkE C sc tt a x && chkE C sc tt b (.BoolOp .Or (y :: z :: r) p)
    | _ => false
  | .notv a, e => match asUn e with
    | some (.Not, x) => chkE C sc tt a x
    | _ => false
  | .ite t a b, e => (!tt || leaf e) && match asIf e with
    | some (z, x, y) => chkE C sc true t z && chkE C sc false a x && chkE C sc false b y
    | none => false
  | .lc own elt tg k its ifs loc, e => (!tt || leaf e) && match asLC e with
    | some (el, t, it, fs, scope) => !isSet it && blkC C.N sc scope loc && (match k.shape C sc it t with
        | some es => chkEs C sc its es
        | none => false) && chkTn C.N (relS scope sc) (fun x => isCell scope x) tg t && (tnSl tg).all (fun i => (loc.map (·.2)).contains i) &&
        chkF C (relS scope sc) ifs fs && chkE C (relS scope sc) false elt el
    | none => false
def chkEs (C : Ck) (sc : Scope) : List E → List Expr → Bool
  | [], [] => true
  | a :: as, e :: es => chkE C sc false a e && chkEs C sc as es
  | _, _ => false
def chkF (C : Ck) (sc : Scope) : List E → List Expr → Bool
  | [], [] => true
  | [a], [e] => chkE C sc true a e && true
  | _, _ => false
end
end NX
set_option Elab.async false
set_option linter.all false
set_option maxRecDepth 100000
set_option maxHeartbeats 4000000
namespace NX
open PySem PySem.Spec PyProof.Rows L2 OC
section
variable {Ω : Wd} {ta tb tc : WX → TE} {a b c : VT}
theorem ok_var {i : Nat} : TEok Ω (fun _ => tVar i) fun G T Q _ => match OC.getV G i with | some d => Q d T | none => False := fun Bg M T H σ G Qd Xq Q W en w post px => by
  dsimp only at w
  split at w
  · rename_i d hd
    obtain ⟨v, h1, h2⟩ := en.val i d hd
    exact ⟨v, h1, post.here en.sm h2 w⟩
  · exact w.elim
theorem ok_andv (ha : TEok Ω ta a) (hb : TEok Ω tb b) : TEok Ω (fun W => tAndV (ta W) (tb W)) fun G T Q X => a G T (fun x T1 => dtru x fun r => if r = true then b G T1 Q X else Q (.bl false) T1) X := fun Bg M T H σ G Qd Xq Q W en w post px => by
  refine ha _ _ _ _ _ _ _ _ _ _ en w (fun x vx B1 T1 H1 e1 s1 rx w1 => ?_) px
  obtain ⟨q, rfl, w1⟩ := dtru_inv w1
  refine ⟨q, rx.bl_inv, ?_⟩
  cases q with
  | true =>
    simp only [if_true] at w1 ⊢
    exact hb _ _ _ _ _ _ _ _ _ _ (en.ext e1 s1) w1 (post.ext e1) (px.ext e1)
  | false =>
    simp only [Bool.false_eq_true, if_false] at w1 ⊢
    exact post _ _ _ _ _ e1 s1 (.bl _) w1
theorem ok_orv (ha : TEok Ω ta a) (hb : TEok Ω tb b) : TEok Ω (fun W => tOrV (ta W) (tb W)) fun G T Q X => a G T (fun x T1 => dtru x fun r => if r = true then Q (.bl true) T1 else b G T1 Q X) X := fun Bg M T H σ G Qd Xq Q W en w post px => by
  refine ha _ _ _ _ _ _ _ _ _ _ en w (fun x vx B1 T1 H1 e1 s1 rx w1 => ?_) px
  obtain ⟨q, rfl, w1⟩ := dtru_inv w1
  refine ⟨q, rx.bl_inv, ?_⟩
  cases q with
  | true =>
    simp only [if_true] at w1 ⊢
    exact post _ _ _ _ _ e1 s1 (.bl _) w1
  | false =>
    simp only [Bool.false_eq_true, if_false] at w1 ⊢
    exact hb _ _ _ _ _ _ _ _ _ _ (en.ext e1 s1) w1 (post.ext e1) (px.ext e1)
theorem ok_notv (ha : TEok Ω ta a) : TEok Ω (fun W => tNotV (ta W)) fun G T Q X => a G T (fun x T1 => dtru x fun r => Q (.bl (!r)) T1) X := fun Bg M T H σ G Qd Xq Q W en w post px => by
  refine ha _ _ _ _ _ _ _ _ _ _ en w (fun x vx B1 T1 H1 e1 s1 rx w1 => ?_) px
  obtain ⟨q, rfl, w1⟩ := dtru_inv w1
  exact ⟨q, rx.bl_inv, post _ _ _ _ _ e1 s1 (.bl _) w1⟩
theorem ok_ite {tt : WX → TT} {t : VT} (ht : TTok Ω tt t) (ha : TEok Ω ta a) (hb : TEok Ω tb b) : TEok Ω (fun W => tIf (tt W) (ta W) (tb W)) fun G T Q X => t G T (fun x T1 => dtru x fun r => if r = true then a G T1 Q X else b G T1 Q X) X := fun Bg M T H σ G Qd Xq Q W en w post px => by
  refine ht _ _ _ _ _ _ (fun r T1 => if r = true then a G T1 Qd Xq else b G T1 Qd Xq) _ _ _ en w (fun q B1 T1 H1 e1 s1 w1 => ?_) px
  cases q with
  | true =>
    simp only [if_true] at w1 ⊢
    exact ha _ _ _ _ _ _ _ _ _ _ (en.ext e1 s1) w1 (post.ext e1) (px.ext e1)
  | false =>
    simp only [Bool.false_eq_true, if_false] at w1 ⊢
    exact hb _ _ _ _ _ _ _ _ _ _ (en.ext e1 s1) w1 (post.ext e1) (px.ext e1)
theorem ok_chain {o p : CO} {r r' : R2} (ha : TEok Ω ta a) (hb : TEok Ω tb b) (hc : TEok Ω tc c) (hr : OC.ROk2 Ω.K r (OC.cop o)) (hr' : OC.ROk2 Ω.K r' (OC.cop p)) : TEok Ω (fun W => tChain r r' (ta W) (tb W) (tc W))
    fun G T Q X => a G T (fun x T1 => b G T1 (fun y T2 => OC.cop o x y fun r => dtru r fun r => if r = true then c G T2 (fun z T3 => OC.cop p y z fun d => Q d T3) X else Q (.bl false) T2) X) X := fun Bg M T H σ G Qd Xq Q W en w post px => by
  refine ha _ _ _ _ _ _ _ _ _ _ en w (fun x vx B1 T1 H1 e1 s1 rx w1 => ?_) px
  refine hb _ _ _ _ _ _ _ _ _ _ (en.ext e1 s1) w1 (fun y vy B2 T2 H2 e2 s2 ry w2 => ?_) (px.ext e1)
  refine hr _ _ _ _ _ _ _ _ _ s2.bags s2.md (rep_ext e2 rx) ry w2 fun z vz B3 H3 e3' rz w3 => ?_
  obtain ⟨e3, s3⟩ := lift_ext e3' s2
  obtain ⟨q, rfl, w3⟩ := dtru_inv w3
  refine ⟨q, rz.bl_inv, ?_⟩
  cases q with
  | true =>
    simp only [if_true] at w3 ⊢
    refine hc _ _ _ _ _ _ _ _ _ _ (((en.ext e1 s1).ext e2 s2).ext e3 s3) w3 (fun u vu B4 T4 H4 e4 s4 ru w4 => ?_) (px.ext ((e1.trans e2).trans e3))
    exact rok2_up hr' _ _ _ _ _ _ _ _ _ _ s4 (rep_ext (e3.trans e4) ry) ru w4 (post.ext (((e1.trans e2).trans e3).trans e4))
  | false =>
    simp only [Bool.false_eq_true, if_false] at w3 ⊢
    exact post _ _ _ _ _ ((e1.trans e2).trans e3) s3 (.bl _) w3
/-- a value as a test -/
theorem ok_test (ha : TEok Ω ta a) : TTok Ω (fun W => tB (ta W)) a := fun Bg M T H σ G Qb Xq Q W en w post px => by
  refine ha _ _ _ _ _ _ _ _ _ _ en w (fun x vx B1 T1 H1 e1 s1 rx w1 => ?_) px
  obtain ⟨q, rfl, w1⟩ := dtru_inv w1
  exact ⟨q, rx.bl_inv, post _ _ _ _ e1 s1 w1⟩
theorem ok_testR (ha : TEok Ω ta a) : TTok Ω (fun W => tTest (ta W)) a := fun Bg M T H σ G Qb Xq Q W en w post px => by
  refine ha _ _ _ _ _ _ _ _ _ _ en w (fun x vx B1 T1 H1 e1 s1 rx w1 => ?_) px
  obtain ⟨q, rfl, w1⟩ := dtru_inv w1
  exact ⟨q, rx.bl_inv, post _ _ _ _ e1 s1 w1⟩
theorem ok_tand {t u : WX → TT} (ha : TTok Ω t a) (hb : TTok Ω u b) : TTok Ω (fun W => tAnd (t W) (u W)) fun G T Q X => a G T (fun x T1 => dtru x fun r => if r = true then b G T1 Q X else Q (.bl false) T1) X := fun Bg M T H σ G Qb Xq Q W en w post px => by
  refine ha _ _ _ _ _ _ (fun r T1 => if r = true then b G T1 (fun d T1 => dtru d fun b => Qb b T1) Xq else Qb false T1) _ _ _ en w (fun q B1 T1 H1 e1 s1 w1 => ?_) px
  cases q with
  | true =>
    simp only [if_true] at w1 ⊢
    exact hb _ _ _ _ _ _ _ _ _ _ (en.ext e1 s1) w1 (fun q B2 T2 H2 e2 s2 w2 => post _ _ _ _ (e1.trans e2) s2 w2) (px.ext e1)
  | false =>
    simp only [Bool.false_eq_true, if_false] at w1 ⊢
    exact post _ _ _ _ e1 s1 w1
theorem ok_tor {t u : WX → TT} (ha : TTok Ω t a) (hb : TTok Ω u b) : TTok Ω (fun W => tOr (t W) (u W)) fun G T Q X => a G T (fun x T1 => dtru x fun r => if r = true then Q (.bl true) T1 else b G T1 Q X) X := fun Bg M T H σ G Qb Xq Q W en w post px => by
  refine ha _ _ _ _ _ _ (fun r T1 => if r = true then Qb true T1 else b G T1 (fun d T1 => dtru d fun b => Qb b T1) Xq) _ _ _ en w (fun q B1 T1 H1 e1 s1 w1 => ?_) px
  cases q with
  | true =>
    simp only [if_true] at w1 ⊢
    exact post _ _ _ _ e1 s1 w1
  | false =>
    simp only [Bool.false_eq_true, if_false] at w1 ⊢
    exact hb _ _ _ _ _ _ _ _ _ _ (en.ext e1 s1) w1 (fun q B2 T2 H2 e2 s2 w2 => post _ _ _ _ (e1.trans e2) s2 w2) (px.ext e1)
theorem ok_tnot {t : WX → TT} (ha : TTok Ω t a) : TTok Ω (fun W => tNot (t W)) fun G T Q X => a G T (fun x T1 => dtru x fun r => Q (.bl (!r)) T1) X := fun Bg M T H σ G Qb Xq Q W en w post px => by
  exact ha _ _ _ _ _ _ (fun r T1 => Qb (!r) T1) _ _ _ en w (fun q B1 T1 H1 e1 s1 w1 => post _ _ _ _ e1 s1 w1) px
end
/-! ### targets -/
def gOfN (K : PySem.W.Frag) : Tn → TG
  | .name i => gName i
  | .tup ts => gTup K ts.length (go ts)
where go : List Tn → TGs
  | [] => gNil
  | t :: ts => gCons (gOfN K t) (go ts)
mutual
theorem ok_gN {Ω : Wd} : ∀ (tg : Tn) {Bg M : AP} {T : TS} {H : Hp} {σ : L2.St} {G G1 : GV} {x : V} {d : D} {Q : L2.St → Hp → Prop}, EnvE Ω Bg M T H σ G → Rep Ω.K Bg (lv T M) H x d → bindN tg d G = some G1 →
    (∀ σ1, EnvE Ω Bg M T H σ1 G1 → σ1.length = σ.length → (∀ i, i ∉ tnSl tg → σ1[i]? = σ[i]?) → Q σ1 H) → gOfN Ω.K tg x σ H Q
  | .name i, _, _, _, _, _, _, _, _, _, _, en, r, h, post => by
    rw [bindN] at h
    cases h
    exact post _ (en.set r i) List.length_set fun j hj => List.getElem?_set_ne (fun z => hj (by simp [tnSl, z]))
  | .tup ts, _, _, _, _, _, _, _, _, d, _, en, r, h, post => by
    cases d with
    | tup ds =>
      rw [bindN] at h
      split at h
      · rename_i hl
        obtain ⟨a, vs, rfl, hs, rl⟩ := r.tup_inv
        exact ⟨a, vs, rfl, hs, by rw [rl.len]; exact hl.symm, ok_gNs ts en rl h post⟩
      · cases h
    | _ => simp [bindN] at h
theorem ok_gNs {Ω : Wd} : ∀ (ts : List Tn) {Bg M : AP} {T : TS} {H : Hp} {σ : L2.St} {G G1 : GV} {vs : List V} {ds : List D} {Q : L2.St → Hp → Prop}, EnvE Ω Bg M T H σ G → RepL Ω.K Bg (lv T M) H vs ds → bindNs ts ds G = some G1 →
    (∀ σ1, EnvE Ω Bg M T H σ1 G1 → σ1.length = σ.length → (∀ i, i ∉ tnSl.go ts → σ1[i]? = σ[i]?) → Q σ1 H) → gOfN.go Ω.K ts vs σ H Q
  | [], _, _, _, _, _, _, _, _, _, _, en, .nil, h, post => by
    rw [bindNs] at h
    cases h
    exact ⟨rfl, post _ en rfl fun _ _ => rfl⟩
  | [], _, _, _, _, _, _, _, _, _, _, en, .cons _ _, h, post => by simp [bindNs] at h
  | t :: ts, _, _, _, _, _, _, _, _, _, _, en, .nil, h, post => by simp [bindNs] at h
  | t :: ts, _, _, _, _, _, _, _, _, _, _, en, .cons r rl, h, post => by
    rw [bindNs] at h
    split at h
    · rename_i G1 hG
      refine ⟨_, _, rfl, ok_gN t en r hG fun σ1 en1 l1 k1 => ?_⟩
      refine ok_gNs ts en1 rl h fun σ2 en2 l2 k2 => post σ2 en2 (l2.trans l1) fun i hi => ?_
      rw [tnSl.go, List.mem_append, not_or] at hi
      rw [k2 i hi.2, k1 i hi.1]
    · cases h
end
theorem asg_plain {e : Expr} {env : Env} {es : List Expr} (h : nst e = true) : assignEach (e :: es) env = (false, assign e env) :: assignEach es env := by
  cases e <;> first | rfl | cases h
mutual
theorem pg_ofN {C : Ck} {X : Cx} {sc : Scope} {fo : Str → Bool} (hN : X.N = C.N) (nd : C.N.Nodup) (hc : X.calm = true) (hs : X.env.scope = sc) (hf : ∀ x, fo x = true → X.fn x = true) : ∀ (tg : Tn) {e : Expr}, chkTn C.N sc fo tg e = true → PG X e (gOfN X.K tg)
  | .name i, e, h => by
    rw [chkTn] at h
    cases q : asName e with
    | none => rw [q] at h; cases h
    | some x =>
      rw [q] at h
      obtain ⟨p, rfl⟩ := asName_ok q
      simp only [Bool.and_eq_true, Bool.or_eq_true, decide_eq_true_eq] at h
      rw [gOfN]
      rcases h.2 with z | z
      · have z := isLoc_ok z
        rw [← hs] at z
        exact pg_name (by rw [hN]; exact nd) (by rw [hN]; exact h.1) (.inl z) (.inr z)
      · have z1 := isCell_ok z.1
        rw [← hs] at z1
        exact pg_name (by rw [hN]; exact nd) (by rw [hN]; exact h.1) (.inr z1) (.inl (hf x z.2))
  | .tup ts, e, h => by
    rw [chkTn] at h
    cases q : asTup e with
    | none => rw [q] at h; cases h
    | some es =>
      rw [q] at h
      obtain ⟨j, p, rfl⟩ := asTup_ok q
      obtain ⟨h1, h2, h3⟩ := pgs_ofN hN nd hc hs hf ts h
      rw [gOfN]
      exact pg_tup hc h1 h2 h3
theorem pgs_ofN {C : Ck} {X : Cx} {sc : Scope} {fo : Str → Bool} (hN : X.N = C.N) (nd : C.N.Nodup) (hc : X.calm = true) (hs : X.env.scope = sc) (hf : ∀ x, fo x = true → X.fn x = true) : ∀ (ts : List Tn) {es : List Expr}, chkTn.go C.N sc fo ts es = true → PGs X es (gOfN.go X.K ts) ∧ (assignEach es X.env).length = ts.length ∧ (assignEach es X.env).findIdx? (·.1) = none
  | [], [], h => ⟨by rw [gOfN.go]; exact pgs_nil, rfl, rfl⟩
  | [], _ :: _, h => by simp [chkTn.go] at h
  | _ :: _, [], h => by simp [chkTn.go] at h
  | t :: ts, e :: es, h => by
    rw [chkTn.go] at h
    simp only [Bool.and_eq_true] at h
    have h1 := pg_ofN hN nd hc hs hf t h.1.2
    obtain ⟨h2, h3, h4⟩ := pgs_ofN hN nd hc hs hf ts h.2
    have ep : assignEach (e :: es) X.env = (false, assign e X.env) :: assignEach es X.env := asg_plain h.1.1
    refine ⟨?_, ?_, ?_⟩
    · rw [gOfN.go]
      exact pgs_cons h1 h2 (by rw [ep]; rfl)
    · rw [ep, List.length_cons, List.length_cons, h3]
    · rw [ep, List.findIdx?_cons, h4]
      rfl
end
end NX
set_option Elab.async false
set_option linter.all false
set_option maxRecDepth 100000
set_option maxHeartbeats 4000000
namespace NX
open PySem PySem.Spec PyProof.Rows L2 OC
abbrev W0 : WX := fun _ _ _ _ => False
def TFok (Ω : Wd) (t : TT) (mf : GV → TS → (TS → Prop) → (TS → Prop) → Prop) : Prop := ∀ (Bg M : AP) (T : TS) (H : Hp) (σ : L2.St) (G : GV) (A B : TS → Prop) (Q : Bool → Hp → Prop), EnvE Ω Bg M T H σ G → mf G T A B →
  (∀ Bg' T' H', Ext Bg T H Bg' T' H' → Sm Ω.K Ω.mg Bg' M T' H' → A T' → Q true H') → (∀ Bg' T' H', Ext Bg T H Bg' T' H' → Sm Ω.K Ω.mg Bg' M T' H' → B T' → Q false H') → t σ H Q
theorem ok_f0 {Ω : Wd} : TFok Ω tYes fun _ T A _ => A T := fun Bg M T H σ G A B Q en w pa pb => pa _ _ _ .refl en.sm w
theorem ok_f1 {Ω : Wd} {t : WX → TT} {a : VT} (h : TTok Ω t a) : TFok Ω (t W0) fun G T A B => a G T (fun x T1 => dtru x fun q => if q = true then A T1 else B T1) noX := fun Bg M T H σ G A B Q en w pa pb => by
  refine h _ _ _ _ _ _ (fun q T1 => if q = true then A T1 else B T1) _ _ _ en w (fun q B1 T1 H1 e1 s1 w1 => ?_) PostX.no
  cases q with
  | true => exact pa _ _ _ e1 s1 (by simpa using w1)
  | false => exact pb _ _ _ e1 s1 (by simpa using w1)
/-- a place of the kind that is kept from all is written -/
theorem Sm.wrM {K : PySem.W.Frag} {mg : Str → Option Value} {Bg M : AP} {T : TS} {H : Hp} {p : Addr} {o : HO} (s : Sm K mg Bg M T H) (m : M p) : Sm K mg Bg M T (L2.upd H p o) := by
  obtain ⟨m1, m2, m3⟩ := s.mm p m
  have kp : Kp Bg (lv T M) H Bg (lv T M) (L2.upd H p o) := ⟨fun _ q => q, fun a u nb nl h => ⟨by rw [upd_ne fun z => (lv_not nl).2 (by rw [z]; exact m)]; exact h, nb, nl⟩⟩
  refine ⟨fun a q => ?_, s.nb, fun a u q => (s.ob a u q).kp kp (upd_ne fun z => by rw [z, m3] at q; cases q), fun a q => ?_⟩
  · obtain ⟨L, N, e, r⟩ := s.bags a q
    exact ⟨L, N, by rw [upd_ne fun z => m2 (by rw [← z]; exact q)]; exact e, r⟩
  · obtain ⟨q1, q2, q3⟩ := s.mm a q
    refine ⟨?_, q2, q3⟩
    by_cases z : a = p
    · rw [z, upd_same]; exact fun z => nomatch z
    · rw [upd_ne z]; exact q1
theorem Ext.write {Bg Bg' : AP} {T T' : TS} {H H' : Hp} {p : Addr} {o : HO} (e : Ext Bg T H Bg' T' H') (h : H p = none) : Ext Bg T H Bg' T' (L2.upd H' p o) :=
  ⟨e.sub, e.new, fun a u na ta ha => by rw [upd_ne (ne_of_none ha h)]; exact e.keep a u na ta ha, e.thaw, fun a ha => by
    by_cases z : a = p
    · rw [z, upd_same]; exact fun z => nomatch z
    · rw [upd_ne z]; exact e.stay a ha⟩
theorem repL_less {K : PySem.W.Frag} {Bg M M' : AP} {H : Hp} {v : List V} {d : List D} (hm : ∀ a, M' a → M a) (r : RepL K Bg M H v d) : RepL K Bg M' H v d := repL_kp ⟨fun _ q => q, fun a o nb nm h => ⟨h, nb, fun z => nm (hm a z)⟩⟩ r
/-- one more place is kept from all: a new one -/
theorem Sm.more {K : PySem.W.Frag} {mg : Str → Option Value} {Bg M : AP} {T : TS} {H : Hp} {p : Addr} {o : HO} (s : Sm K mg Bg M T H) (hp : H p = none) : Sm K mg Bg (fun q => M q ∨ q = p) T (L2.upd H p o) := by
  obtain ⟨n1, n2, n3⟩ := s.free hp
  have s1 := s.lay (o := o) hp
  have kp : Kp Bg (lv T M) H Bg (lv T fun q => M q ∨ q = p) (L2.upd H p o) := ⟨fun _ q => q, fun a u nb nl h => by
    have ne : a ≠ p := ne_of_none h hp
    exact ⟨by rw [upd_ne ne]; exact h, nb, not_lv (lv_not nl).1 fun z => z.elim (lv_not nl).2 ne⟩⟩
  refine ⟨s1.bags, s1.nb, fun a u q => (s.ob a u q).kp kp (upd_ne fun z => by rw [z, n1] at q; cases q), fun a q => ?_⟩
  rcases q with q | rfl
  · exact s1.mm a q
  · exact ⟨(by rw [upd_same]; exact fun z => (nomatch z)), n2, n1⟩
theorem Sm.lessM {K : PySem.W.Frag} {mg : Str → Option Value} {Bg M M' : AP} {T : TS} {H : Hp} (s : Sm K mg Bg M T H) (h : ∀ a, M' a → M a) : Sm K mg Bg M' T H :=
  ⟨s.bags, s.nb, fun a u q => (s.ob a u q).kp ⟨fun _ q => q, fun a o nb nm h' => ⟨h', nb, not_lv (lv_not nm).1 fun z => (lv_not nm).2 (h a z)⟩⟩ rfl, fun a q => s.mm a (h a q)⟩
theorem ok_lc {Ω : Wd} {wi : WX → TI} {tt : TT} {te : WX → TE} {mi : VTs} {mf : GV → TS → (TS → Prop) → (TS → Prop) → Prop} {me : VT} {own : Bool} {tg : Tn} {loc : List (Str × Nat)} (hi : TIok Ω wi mi) (hf : TFok Ω tt mf) (he : TEok Ω te me) (htg : ∀ i ∈ tnSl tg, i ∈ loc.map (·.2)) :
    TEok Ω (fun W => tLc (wi W) (gOfN Ω.K tg) tt (te W0) (loc.map (·.2))) fun G T Q X => mi G T (fun xs T2 => xs.length ≤ 100000 ∧ wpMap (fun d T3 kk => match bindN tg d (wipeV G (loc.map (·.2))) with
        | some G1 => mf G1 T3 (fun T4 => me G1 T4 (fun y T5 => kk (some y) T5) noX) (fun T4 => kk none T4)
        | none => False) xs [] T2 fun ys T6 => mkL own ys T6 Q) X := fun Bg M T H σ G Qd Xq Q W en w post px => by
  generalize hvs : loc.map (·.2) = vs at *
  refine hi _ _ _ _ _ _ _ _ _ _ en w (fun xs J gs B1 T1 H1 e1 s1 hg Wk w1 => ?_) px
  intro Dl hD
  obtain ⟨hxl, w1⟩ := w1
  have en1 := en.ext e1 s1
  obtain ⟨nT1, nB1, nM⟩ := s1.free hD
  generalize hfd : (fun (d : D) (T3 : TS) (kk : Option D → TS → Prop) => match bindN tg d (wipeV G vs) with
        | some G1 => mf G1 T3 (fun T4 => me G1 T4 (fun y T5 => kk (some y) T5) noX) (fun T4 => kk none T4)
        | none => False) = f at w1
  let M2 : AP := fun q => M q ∨ q = Dl
  let N : Nat → Hp → Prop := fun i H' => ∃ (B : AP) (T' : TS) (av : List V) (ad : List D), Ext B1 T1 H1 B T' H' ∧ Sm Ω.K Ω.mg B M2 T' H' ∧ H' Dl = some (.lst av) ∧ RepL Ω.K B (lv T' M2) H' av ad ∧ ad.length ≤ i ∧ wpMap f (xs.drop i) ad T' (fun ys T6 => mkL own ys T6 Qd)
  refine ⟨fun i m H' => m = xs.length - i ∧ i ≤ xs.length ∧ N i H', ⟨xs.length, by simp, Nat.zero_le _, B1, T1, [], [], Ext.lay hD, s1.more hD, upd_same, .nil, Nat.le_refl _, by simpa using w1⟩, ?_⟩
  rintro i m H2 ⟨rfl, hil, B, T2, av, ad, ex, s2, hDv, rl, hal, wm⟩
  have kp2 : Kp B1 (lv T1 M) H1 B (lv T2 M2) H2 := ⟨ex.sub, fun a o nb nl h => ⟨ex.keep a o nb (lv_not nl).1 h, ex.nb h nb, not_lv (ex.dead h (lv_not nl).1) fun z => z.elim (lv_not nl).2 fun z => by rw [z, hD] at h; cases h⟩⟩
  have en2 : EnvE Ω B M2 T2 H2 σ G := ⟨s2, en1.len, fun j d hj => by
    obtain ⟨v, h1, h2⟩ := en1.val j d hj
    exact ⟨v, h1, rep_kp kp2 h2⟩⟩
  have gh : ∀ p ∈ gs, Rep Ω.K B (lv T2 M2) H2 p.1 p.2 := fun p hp => rep_kp kp2 (hg p hp)
  by_cases hlt : i < xs.length
  · right
    obtain ⟨d, hd⟩ : ∃ d, xs[i]? = some d := ⟨xs[i], by simp [hlt]⟩
    have hdrop : xs.drop i = d :: xs.drop (i + 1) := by
      rw [List.drop_eq_getElem_cons hlt]
      congr 1
      rw [List.getElem?_eq_getElem hlt] at hd
      exact Option.some.inj hd
    rw [hdrop] at wm
    simp only [wpMap] at wm
    obtain ⟨hgo, hy⟩ := Wk.step B (lv T2 M2) H2 i d s2.bags s2.md gh hd
    refine ⟨hgo, N (i + 1), fun H' hn => ⟨xs.length - (i + 1), by omega, rfl, hlt, hn⟩, fun x H3 hyl => ?_⟩
    obtain ⟨e3', rx⟩ := hy x H3 hyl
    obtain ⟨e3, s3⟩ := lift_ext e3' s2
    rw [← hfd] at wm
    simp only at wm
    cases hb : bindN tg d (wipeV G vs) with
    | none => rw [hb] at wm; exact wm.elim
    | some G1 =>
      rw [hb] at wm
      simp only at wm
      refine ok_gN tg ((en2.ext e3 s3).wipe vs) rx hb fun σ1 en3 hl1 hσ => ?_
      refine ⟨wipe_same (hl1.trans (wipe_length _ _)) fun j hj => hσ j (fun z => hj (htg j z)), ?_⟩
      have mD : M2 Dl := .inr rfl
      have keepD : ∀ {B' : AP} {T' : TS} {H' : Hp}, Ext B T2 H2 B' T' H' → H' Dl = some (.lst av) := fun {B' T' H'} e => e.keep _ _ (s2.mm Dl mD).2.1 (s2.mm Dl mD).2.2 hDv
      refine hf _ _ _ _ _ _ _ _ _ en3 wm (fun B4 T4 H4 e4 s4 w4 => ?_) (fun B4 T4 H4 e4 s4 w4 => ?_)
      · rw [if_pos rfl]
        refine he _ _ _ _ _ _ _ _ _ _ (en3.ext e4 s4) w4 (fun y vy B5 T5 H5 e5 s5 ry w5 => ?_) PostX.no
        have eall : Ext B T2 H2 B5 T5 H5 := (e3.trans e4).trans e5
        have kw : Kp B5 (lv T5 M2) H5 B5 (lv T5 M2) (L2.upd H5 Dl (.lst (av ++ [vy]))) := ⟨fun _ q => q, fun a o nb nl h => ⟨by rw [upd_ne fun z => (lv_not nl).2 (by rw [z]; exact mD)]; exact h, nb, nl⟩⟩
        refine ⟨av, keepD eall, ?_, B5, T5, av ++ [vy], ad ++ [y], (ex.trans eall).write hD, s5.wrM mD, upd_same, repL_kp kw ((repL_ext eall rl).append (.cons ry .nil)), ?_, ?_⟩
        · rw [rl.len]
          exact Nat.lt_of_le_of_lt (Nat.le_trans hal (Nat.le_trans (Nat.le_of_lt hlt) hxl)) (by decide)
        · rw [List.length_append, List.length_singleton]
          omega
        · rw [← hfd]
          exact w5
      · rw [if_neg Bool.false_ne_true]
        have eall : Ext B T2 H2 B4 T4 H4 := e3.trans e4
        refine ⟨B4, T4, av, ad, ex.trans eall, s4, keepD eall, repL_ext eall rl, by omega, ?_⟩
        rw [← hfd]
        exact w4
  · left
    have e : i = xs.length := by omega
    subst e
    rw [List.drop_length] at wm
    simp only [wpMap] at wm
    refine ⟨Wk.stop B (lv T2 M2) H2 gh, ?_⟩
    have mD : M2 Dl := .inr rfl
    obtain ⟨q1, q2, q3⟩ := s2.mm Dl mD
    have sM : Sm Ω.K Ω.mg B M T2 H2 := s2.lessM fun a h => .inl h
    have less : ∀ a, lv T2 M a → lv T2 M2 a := fun a h => h.imp (fun z => z) fun z => .inl z
    have rlM := repL_less less rl
    cases own with
    | false => exact post _ _ _ _ _ (e1.trans ex) sM (.lst hDv q2 (not_lv q3 nM) rlM) wm
    | true =>
      have wm : ∀ a, T2 a = none → Qd (.ob a) (T2.put a (.lst ad)) := wm
      have lx : ∀ a, lv (T2.put Dl (.lst ad)) M a → lv T2 M2 a := fun a h => by
        by_cases z : a = Dl
        · exact .inr (.inr z)
        · exact h.imp (fun h => by rw [put_ne z] at h; exact h) fun z => .inl z
      have x : Ext B1 T1 H1 B (T2.put Dl (.lst ad)) H2 := ⟨ex.sub, ex.new, ex.keep, fun a h => by
        by_cases z : a = Dl
        · subst z; exact .inr hD
        · exact ex.thaw a (by show T2 a ≠ _; rw [← put_ne (T := T2) (o := .lst ad) z]; exact h), ex.stay⟩
      have kp : Kp B (lv T2 M2) H2 B (lv (T2.put Dl (.lst ad)) M) H2 := ⟨fun _ q => q, fun a o nb nl h => ⟨h, nb, fun z => nl (lx a z)⟩⟩
      refine post _ _ _ _ _ (e1.trans x) ⟨s2.bags, fun a h => ?_, fun a o h => ?_, fun a h => ?_⟩ (.ob Dl) (wm Dl q3)
      · by_cases z : a = Dl
        · rw [z]; exact q2
        · exact s2.nb a (by show T2 a ≠ _; rw [← put_ne (T := T2) (o := .lst ad) z]; exact h)
      · by_cases z : a = Dl
        · subst z
          rw [put_same] at h
          cases h
          exact ⟨av, hDv, repL_kp kp rl⟩
        · rw [put_ne z] at h
          exact (s2.ob a o h).kp kp rfl
      · obtain ⟨m1, m2, m3⟩ := sM.mm a h
        refine ⟨m1, m2, ?_⟩
        rw [put_ne fun z => by subst z; exact nM h]
        exact m3
end NX
set_option Elab.async false
set_option linter.all false
set_option maxRecDepth 100000
set_option maxHeartbeats 4000000
namespace NX
open PySem PySem.Spec PyProof.Rows L2 OC
section
variable {Ω : Wd} {C : Ck} {F : List Ct} {k : Nat} {sc : Scope}
theorem st_leaf {e : Expr} {m : VT} (hl : leaf e = true) (h : SE Ω C k sc e m) : ST Ω C k sc e m := by
  obtain ⟨t, h1, h2⟩ := h
  refine ⟨_, fun X W g tk => ⟨pt_val (h1 X W g tk) ?_, fun o l p he => by subst he; cases hl⟩, ok_test h2⟩
  cases e <;> first
    | (cases hl; done)
    | (intro _; rfl)
theorem both_leaf {e : Expr} {ir : E} {body : Bool} (hq : ∀ tt, chkE C sc tt ir e = ((!tt || leaf e) && body)) (h : body = true → SE Ω C k sc e (wpE F ir)) :
    (chkE C sc false ir e = true → SE Ω C k sc e (wpE F ir)) ∧ (chkE C sc true ir e = true → ST Ω C k sc e (wpE F ir)) := by
  refine ⟨fun z => ?_, fun z => ?_⟩
  · rw [hq] at z
    exact h (by simpa using z)
  · rw [hq] at z
    simp only [Bool.not_true, Bool.false_or, Bool.and_eq_true] at z
    exact st_leaf z.1 (h z.2)
def SF (Ω : Wd) (C : Ck) (k : Nat) (sc : Scope) (fs : List Expr) (mf : GV → TS → (TS → Prop) → (TS → Prop) → Prop) : Prop := ∃ t, (∀ X, Gd Ω C sc k X → PTs X fs t) ∧ TFok Ω t mf
theorem wpE_op {o : OpS} {as : List E} : wpE F (.op o as) = fun G T Q X => seqM (as.map (wpE F)) G T (fun ds T1 => o.sem F ds T1 Q X) X := by
  funext G T Q X
  rw [wpE, wpEs_seq]
theorem tn_in {own : List Nat} {tg : Tn} (h : (tnSl tg).all (fun i => own.contains i) = true) : ∀ i ∈ tnSl tg, i ∈ own := by
  intro i hi
  simp only [List.all_eq_true] at h
  simpa using h i hi
end
section
variable {Ω : Wd} {C : Ck} {F : List Ct} {k : Nat}
mutual
theorem sE (W : Wr Ω C F k) : ∀ (ir : E) (sc : Scope) (e : Expr), (chkE C sc false ir e = true → SE Ω C k sc e (wpE F ir)) ∧ (chkE C sc true ir e = true → ST Ω C k sc e (wpE F ir))
  | .var i, sc, e => both_leaf (fun tt => by rw [chkE]) fun h => by
    split at h
    · rename_i x hx
      obtain ⟨p, rfl⟩ := asName_ok hx
      simp only [Bool.and_eq_true, decide_eq_true_eq, Bool.not_eq_true'] at h
      have em : wpE F (.var i) = fun G T Q _ => match OC.getV G i with | some d => Q d T | none => False := by funext G T Q X; rw [wpE] <;> rfl
      rw [em]
      exact ⟨_, fun X W g tk => pe_var (by rw [g.eN]; exact h.1.1.1) (by rw [g.esc]; exact vis_ok h.1.1.2) h.1.2 h.2, ok_var⟩
    · cases h
  | .op o as, sc, e => by
    rw [wpE_op]
    have sub : (match o.shape C sc e with
      | some es => chkEs C sc as es
      | none => false) = true → ∃ es, o.shape C sc e = some es ∧ All2 (SE Ω C k sc) es (as.map (wpE F)) := fun h => by
      split at h
      · rename_i es hs
        exact ⟨es, hs, sEs W as sc es h⟩
      · cases h
    refine ⟨fun h => ?_, fun h => ?_⟩
    · rw [chkE] at h
      simp only [Bool.not_false, Bool.true_or, Bool.true_and] at h
      obtain ⟨es, h1, h2⟩ := sub h
      exact o.sound W h1 h2
    · rw [chkE] at h
      rw [Bool.and_eq_true, Bool.or_eq_true] at h
      obtain ⟨es, h1, h2⟩ := sub h.2
      rcases h.1 with q | q
      · exact st_leaf (by simpa using q) (o.sound W h1 h2)
      · exact o.soundT q W h1 h2
  | .mth o r as, sc, e => both_leaf (fun tt => by rw [chkE]) fun h => by
    have em : wpE F (.mth o r as) = fun G T Q X => wpE F r G T (fun x T1 => o.chk x T1 ∧ seqM (as.map (wpE F)) G T1 (fun ds T2 => o.sem F x ds T2 Q X) X) X := by funext G T Q X; rw [wpE, wpEs_seq]
    rw [em]
    split at h
    · rename_i x es hs
      simp only [Bool.and_eq_true] at h
      exact o.sound W hs ((sE W r sc x).1 h.1) (sEs W as sc es h.2)
    · cases h
  | .chain o p a b c, sc, e => by
    have em : wpE F (.chain o p a b c) = fun G T Q X => wpE F a G T (fun x T1 => wpE F b G T1 (fun y T2 => OC.cop o x y fun r => dtru r fun r => if r = true then wpE F c G T2 (fun z T3 => OC.cop p y z fun d => Q d T3) X else Q (.bl false) T2) X) X := by funext G T Q X; rw [wpE]
    rw [em]
    have all : ∀ tt, chkE C sc tt (.chain o p a b c) e = true → SE Ω C k sc e _ ∧ ST Ω C k sc e _ := fun tt h => by
      rw [chkE] at h
      split at h
      · rename_i x q r y z hx
        obtain ⟨ps, rfl⟩ := asCmp_ok hx
        simp only [Bool.and_eq_true, Bool.not_eq_true'] at h
        obtain ⟨⟨⟨⟨⟨hq, hr⟩, hs⟩, ha⟩, hb⟩, hc⟩ := h
        obtain rfl := cmp_of hq
        obtain rfl := cmp_of hr
        obtain ⟨ta, h1, h2⟩ := (sE W a sc x).1 ha
        obtain ⟨tb, h3, h4⟩ := (sE W b sc y).1 hb
        obtain ⟨tc, h5, h6⟩ := (sE W c sc z).1 hc
        have hm := pc_mark (op := coOf p) hs
        have hk := ok_chain (Ω := Ω) h2 h4 h6 (OC.roc_of (K := Ω.K) o) (OC.roc_of (K := Ω.K) p)
        refine ⟨⟨_, fun X W g tk => ?_, hk⟩, ⟨_, fun X W g tk => ⟨?_, fun o l p he => by cases he⟩, ok_testR hk⟩⟩
        · have t1 := opc_of X g.hu o
          have t2 := opc_of X g.hu p
          rw [g.eK] at t1 t2
          exact pe_chain t1 t2 (h1 X W g tk) (h3 X W g tk) (h5 X W g tk) hm
        · have t1 := opc_of X g.hu o
          have t2 := opc_of X g.hu p
          rw [g.eK] at t1 t2
          exact pt_chain t1 t2 (h1 X W g tk) (h3 X W g tk) (h5 X W g tk) hm
      · cases h
    exact ⟨fun h => (all _ h).1, fun h => (all _ h).2⟩
  | .andv a b, sc, e => by
    have em : wpE F (.andv a b) = fun G T Q X => wpE F a G T (fun x T1 => dtru x fun r => if r = true then wpE F b G T1 Q X else Q (.bl false) T1) X := by funext G T Q X; rw [wpE]
    rw [em]
    refine ⟨fun h => ?_, fun h => ?_⟩
    · rw [chkE] at h
      split at h
      · rename_i x y ps hx
        obtain rfl := asBool_ok hx
        simp only [Bool.and_eq_true] at h
        obtain ⟨ta, h1, h2⟩ := (sE W a sc x).1 h.1
        obtain ⟨tb, h3, h4⟩ := (sE W b sc y).1 h.2
        exact ⟨_, fun X W g tk => pe_and (h1 X W g tk) (pe_one (h3 X W g tk)), ok_andv h2 h4⟩
      · rename_i x y z r ps hx
        obtain rfl := asBool_ok hx
        simp only [Bool.and_eq_true] at h
        obtain ⟨ta, h1, h2⟩ := (sE W a sc x).1 h.1
        obtain ⟨tb, h3, h4⟩ := (sE W b sc _).1 h.2
        exact ⟨_, fun X W g tk => pe_and (h1 X W g tk) (h3 X W g tk), ok_andv h2 h4⟩
      · cases h
    · rw [chkE] at h
      split at h
      · rename_i x y ps hx
        obtain rfl := asBool_ok hx
        simp only [Bool.and_eq_true] at h
        obtain ⟨ta, h1, h2⟩ := (sE W a sc x).2 h.1
        obtain ⟨tb, h3, h4⟩ := (sE W b sc y).2 h.2
        have all : ∀ X W, Gd Ω C sc k X → Takes X W → PW X (.BoolOp .And [x, y] ps) (tAnd (ta W) (tb W)) := fun X W g tk => pw_and (h1 X W g tk).1 (pw_and1 (h3 X W g tk).1)
        exact ⟨_, fun X W g tk => ⟨(all X W g tk).pt, fun _ _ _ _ => all X W g tk⟩, ok_tand h2 h4⟩
      · rename_i x y z r ps hx
        obtain rfl := asBool_ok hx
        simp only [Bool.and_eq_true] at h
        obtain ⟨ta, h1, h2⟩ := (sE W a sc x).2 h.1
        obtain ⟨tb, h3, h4⟩ := (sE W b sc _).2 h.2
        have all : ∀ X W, Gd Ω C sc k X → Takes X W → PW X (.BoolOp .And (x :: y :: z :: r) ps) (tAnd (ta W) (tb W)) := fun X W g tk => pw_and (h1 X W g tk).1 ((h3 X W g tk).2 _ _ _ rfl)
        exact ⟨_, fun X W g tk => ⟨(all X W g tk).pt, fun _ _ _ _ => all X W g tk⟩, ok_tand h2 h4⟩
      · cases h
  | .orv a b, sc, e => by
    have em : wpE F (.orv a b) = fun G T Q X => wpE F a G T (fun x T1 => dtru x fun r => if r = true then Q (.bl true) T1 else wpE F b G T1 Q X) X := by funext G T Q X; rw [wpE]
    rw [em]
    refine ⟨fun h => ?_, fun h => ?_⟩
    · rw [chkE] at h
      split at h
      · rename_i x y ps hx
        obtain rfl := asBool_ok hx
        simp only [Bool.and_eq_true] at h
        obtain ⟨ta, h1, h2⟩ := (sE W a sc x).1 h.1
        obtain ⟨tb, h3, h4⟩ := (sE W b sc y).1 h.2
        exact ⟨_, fun X W g tk => pe_or (h1 X W g tk) (pe_one (h3 X W g tk)), ok_orv h2 h4⟩
      · rename_i x y z r ps hx
        obtain rfl := asBool_ok hx
        simp only [Bool.and_eq_true] at h
        obtain ⟨ta, h1, h2⟩ := (sE W a sc x).1 h.1
        obtain ⟨tb, h3, h4⟩ := (sE W b sc _).1 h.2
        exact ⟨_, fun X W g tk => pe_or (h1 X W g tk) (h3 X W g tk), ok_orv h2 h4⟩
      · cases h
    · rw [chkE] at h
      split at h
      · rename_i x y ps hx
        obtain rfl := asBool_ok hx
        simp only [Bool.and_eq_true] at h
        obtain ⟨ta, h1, h2⟩ := (sE W a sc x).2 h.1
        obtain ⟨tb, h3, h4⟩ := (sE W b sc y).2 h.2
        have all : ∀ X W, Gd Ω C sc k X → Takes X W → PW X (.BoolOp .Or [x, y] ps) (tOr (ta W) (tb W)) := fun X W g tk => pw_or (h1 X W g tk).1 (pw_or1 (h3 X W g tk).1)
        exact ⟨_, fun X W g tk => ⟨(all X W g tk).pt, fun _ _ _ _ => all X W g tk⟩, ok_tor h2 h4⟩
      · rename_i x y z r ps hx
        obtain rfl := asBool_ok hx
        simp only [Bool.and_eq_true] at h
        obtain ⟨ta, h1, h2⟩ := (sE W a sc x).2 h.1
        obtain ⟨tb, h3, h4⟩ := (sE W b sc _).2 h.2
        have all : ∀ X W, Gd Ω C sc k X → Takes X W → PW X (.BoolOp .Or (x :: y :: z :: r) ps) (tOr (ta W) (tb W)) := fun X W g tk => pw_or (h1 X W g tk).1 ((h3 X W g tk).2 _ _ _ rfl)
        exact ⟨_, fun X W g tk => ⟨(all X W g tk).pt, fun _ _ _ _ => all X W g tk⟩, ok_tor h2 h4⟩
      · cases h
  | .notv a, sc, e => by
    have em : wpE F (.notv a) = fun G T Q X => wpE F a G T (fun x T1 => dtru x fun r => Q (.bl (!r)) T1) X := by funext G T Q X; rw [wpE]
    rw [em]
    refine ⟨fun h => ?_, fun h => ?_⟩
    · rw [chkE] at h
      split at h
      · rename_i x hx
        obtain ⟨ps, rfl⟩ := asUn_ok hx
        obtain ⟨ta, h1, h2⟩ := (sE W a sc x).1 h
        exact ⟨_, fun X W g tk => pe_not (h1 X W g tk), ok_notv h2⟩
      · cases h
    · rw [chkE] at h
      split at h
      · rename_i x hx
        obtain ⟨ps, rfl⟩ := asUn_ok hx
        obtain ⟨ta, h1, h2⟩ := (sE W a sc x).2 h
        exact ⟨_, fun X W g tk => ⟨pt_not (h1 X W g tk).1, fun o l p he => by cases he⟩, ok_tnot h2⟩
      · cases h
  | .ite t a b, sc, e => both_leaf (fun tt => by rw [chkE]) fun h => by
    have em : wpE F (.ite t a b) = fun G T Q X => wpE F t G T (fun x T1 => dtru x fun r => if r = true then wpE F a G T1 Q X else wpE F b G T1 Q X) X := by funext G T Q X; rw [wpE]
    rw [em]
    split at h
    · rename_i z x y hx
      obtain ⟨ps, rfl⟩ := asIf_ok hx
      simp only [Bool.and_eq_true] at h
      obtain ⟨tt, h5, h6⟩ := (sE W t sc z).2 h.1.1
      obtain ⟨ta, h1, h2⟩ := (sE W a sc x).1 h.1.2
      obtain ⟨tb, h3, h4⟩ := (sE W b sc y).1 h.2
      exact ⟨_, fun X W g tk => pe_ifExp (h5 X W g tk).1 (h1 X W g tk) (h3 X W g tk), ok_ite h6 h2 h4⟩
    · cases h
  | .lc own elt tg ik its ifs loc, sc, e => both_leaf (fun tt => by rw [chkE]) fun h => by
    split at h
    · rename_i el t it fs scope hx
      obtain ⟨ps, rfl⟩ := asLC_ok hx
      simp only [Bool.and_eq_true, Bool.not_eq_true'] at h
      obtain ⟨⟨⟨⟨⟨⟨hset, hblk⟩, hi⟩, htg⟩, hin⟩, hf⟩, he⟩ := h
      have hsi : SI Ω C k sc it t fun G T Q X => seqM (its.map (wpE F)) G T (fun ds T1 => ik.sem ds T1 Q) X := by
        split at hi
        · rename_i es hs
          exact ik.sound W hs (sEs W its sc es hi)
        · cases hi
      obtain ⟨wi, i1, i2⟩ := hsi
      obtain ⟨tf, f1, f2⟩ := sF W ifs (relS scope sc) fs hf
      obtain ⟨te, e1, e2⟩ := (sE W elt (relS scope sc) el).1 he
      have em : wpE F (.lc own elt tg ik its ifs loc) = fun G T Q X => seqM (its.map (wpE F)) G T (fun ds T1 => ik.sem ds T1 fun xs T2 => xs.length ≤ 100000 ∧ wpMap (fun d T3 kk => match bindN tg d (wipeV G (loc.map (·.2))) with
        | some G1 => wpIf F ifs G1 T3 (fun T4 => wpE F elt G1 T4 (fun y T5 => kk (some y) T5) noX) (fun T4 => kk none T4)
        | none => False) xs [] T2 fun ys T6 => mkL own ys T6 Q) X := by
        funext G T Q X
        rw [wpE, wpEs_seq]
        all_goals rfl
      rw [em]
      refine ⟨_, fun X W g tk => ?_, ok_lc (own := own) i2 f2 e2 (tn_in hin)⟩
      refine pe_lc g.calm (by rw [g.eN]; exact g.nd) (i1 X W g tk) (by rw [g.eN, g.esc]; exact blkOk_by hblk) (fun s H Ca cl fp => ?_) (fun s H Ca cl fp => f1 _ (g.blk s H Ca cl fp)) (fun s H Ca cl fp => e1 _ _ (g.blk s H Ca cl fp) takes0) (fold_ok hset)
      have gb := g.blk (scope := scope) s H Ca cl fp
      have := pg_ofN (X := X.blk s H scope (compEnvC scope cl Ca X.env) fp) (C := C) gb.eN gb.nd gb.calm gb.esc (fun x hx => by
        show (scope.names.lookup x == some .cell) = true
        rw [isCell_ok hx]
        rfl) tg htg
      have eK : (X.blk s H scope (compEnvC scope cl Ca X.env) fp).K = Ω.K := g.eK
      rw [eK] at this
      exact this
    · cases h
theorem sEs (W : Wr Ω C F k) : ∀ (irs : List E) (sc : Scope) (es : List Expr), chkEs C sc irs es = true → All2 (SE Ω C k sc) es (irs.map (wpE F))
  | [], sc, [], _ => .nil
  | [], _, _ :: _, h => by simp [chkEs] at h
  | _ :: _, _, [], h => by simp [chkEs] at h
  | a :: as, sc, e :: es, h => by
    rw [chkEs] at h
    simp only [Bool.and_eq_true] at h
    exact .cons ((sE W a sc e).1 h.1) (sEs W as sc es h.2)
theorem sF (W : Wr Ω C F k) : ∀ (irs : List E) (sc : Scope) (fs : List Expr), chkF C sc irs fs = true → SF Ω C k sc fs (wpIf F irs)
  | [], sc, [], _ => by
    have em : wpIf F [] = fun _ T A _ => A T := by funext G T A B; rw [wpIf]
    rw [em]
    exact ⟨_, fun X g => pts_nil, ok_f0⟩
  | [], _, _ :: _, h => by simp [chkF] at h
  | [a], sc, [e], h => by
    rw [chkF] at h
    simp only [Bool.and_eq_true] at h
    obtain ⟨t, h1, h2⟩ := (sE W a sc e).2 h.1
    have em : wpIf F [a] = fun G T A B => wpE F a G T (fun x T1 => dtru x fun q => if q = true then A T1 else B T1) noX := by
      funext G T A B
      rw [wpIf]
      simp only [wpIf]
    rw [em]
    exact ⟨_, fun X g => pts_one (h1 X W0 g takes0).1, ok_f1 h2⟩
  | [_], _, [], h => by simp [chkF] at h
  | [_], _, _ :: _ :: _, h => by simp [chkF] at h
  | _ :: _ :: _, _, [], h => by simp [chkF] at h
  | _ :: _ :: _, _, _ :: _, h => by simp [chkF] at h
end
end
end NX
set_option Elab.async false
set_option linter.all false
set_option maxRecDepth 100000
set_option maxHeartbeats 4000000
/-! The wider small language: statements. -/
namespace NX
open PySem PySem.Spec PyProof.Rows L2 OC
structure Ks where
  nx : GV → TS → Prop
  rt : QD
  bk : GV → TS → Prop
  ct : GV → TS → Prop
  ex : Xd → GV → TS → Prop
abbrev MS := GV → TS → Ks → Prop
structure EnvS (Ω : Wd) (B0 : AP) (T0 : TS) (H0 : Hp) (M Bg : AP) (T : TS) (H : Hp) (σ : L2.St) (G : GV) (gs : List (V × D)) : Prop where
  ext : Ext B0 T0 H0 Bg T H
  env : EnvE Ω Bg M T H σ G
  gst : ∀ p ∈ gs, Rep Ω.K Bg (lv T M) H p.1 p.2
section
variable {Ω : Wd} {B0 M Bg Bg' : AP} {T0 T T' : TS} {H0 H H' : Hp} {σ : L2.St} {G : GV} {gs : List (V × D)}
theorem EnvS.grow (e : EnvS Ω B0 T0 H0 M Bg T H σ G gs) (x : Ext Bg T H Bg' T' H') (s : Sm Ω.K Ω.mg Bg' M T' H') : EnvS Ω B0 T0 H0 M Bg' T' H' σ G gs :=
  ⟨e.ext.trans x, e.env.ext x s, fun p hp => rep_ext x (e.gst p hp)⟩
theorem EnvS.put {v : V} {d : D} (e : EnvS Ω B0 T0 H0 M Bg T H σ G gs) (r : Rep Ω.K Bg (lv T M) H v d) (i : Nat) : EnvS Ω B0 T0 H0 M Bg T H (σ.set i (some v)) (G.set i (some d)) gs := ⟨e.ext, e.env.set r i, e.gst⟩
end
structure Kont (Ω : Wd) (B0 : AP) (T0 : TS) (H0 : Hp) (M : AP) (gs : List (V × D)) (kd : Ks) (W : WX) (Dn : Ends) : Prop where
  nx : ∀ Bg T H σ G, EnvS Ω B0 T0 H0 M Bg T H σ G gs → kd.nx G T → Dn.nx σ H
  rt : ∀ Bg T H v d, Ext B0 T0 H0 Bg T H → Sm Ω.K Ω.mg Bg M T H → Rep Ω.K Bg (lv T M) H v d → kd.rt d T → Dn.rt v H
  bk : ∀ Bg T H σ G, EnvS Ω B0 T0 H0 M Bg T H σ G gs → kd.bk G T → Dn.bk σ H
  ct : ∀ Bg T H σ G, EnvS Ω B0 T0 H0 M Bg T H σ G gs → kd.ct G T → Dn.ct σ H
  ex : ∀ Bg T H σ G x cls d, EnvS Ω B0 T0 H0 M Bg T H σ G gs → RepX Ω Bg M T H cls d x → kd.ex x G T → W cls d σ H
def TSok (Ω : Wd) (t : WX → L2.TS) (m : MS) : Prop := ∀ (B0 : AP) (T0 : TS) (H0 : Hp) (M Bg : AP) (T : TS) (H : Hp) (σ : L2.St) (G : GV) (gs : List (V × D)) (kd : Ks) (W : WX) (Dn : Ends), EnvS Ω B0 T0 H0 M Bg T H σ G gs → m G T kd → Kont Ω B0 T0 H0 M gs kd W Dn → t W Dn σ H
structure Gs (Ω : Wd) (C : Ck) (sc : Scope) (k : Nat) (X : Cx) : Prop where
  g : Gd Ω C sc k X
  fn : ∀ x, X.fn x = true
  kind : sc.kind = .function
  po : PassesOwn (model X.prog X.w) X.A X.env X.xe
  sk : X.stack = X.env :: X.outer
  fr : X.env.frame = some X.env.locals
def SS (Ω : Wd) (C : Ck) (k : Nat) (sc : Scope) (st : Stmt) (m : MS) : Prop := ∃ t : WX → L2.TS, (∀ X W, Gs Ω C sc k X → Takes X W → PS X st (t W)) ∧ TSok Ω t m
def SSs (Ω : Wd) (C : Ck) (k : Nat) (sc : Scope) (st : List Stmt) (m : MS) : Prop := ∃ t : WX → L2.TS, (∀ X W, Gs Ω C sc k X → Takes X W → PSs X st (t W)) ∧ TSok Ω t m
/-- a simple statement over the values of its parts -/
structure StS where
  shape : Ck → Scope → Stmt → Option (List Expr)
  pre : GV → Prop
  sem : List Ct → List D → MS
  mono : ∀ {F : List Ct} {ds : List D} {G : GV} {T : TS} {K K' : Ks}, (∀ G T, K.nx G T → K'.nx G T) → (∀ d T, K.rt d T → K'.rt d T) → (∀ G T, K.bk G T → K'.bk G T) → (∀ G T, K.ct G T → K'.ct G T) → (∀ x G T, K.ex x G T → K'.ex x G T) → sem F ds G T K → sem F ds G T K'
  sound : ∀ {Ω : Wd} {C : Ck} {F : List Ct} {k : Nat} {sc : Scope} {st : Stmt} {es : List Expr} {ms : List VT}, Wr Ω C F k → shape C sc st = some es → All2 (SE Ω C k sc) es ms → SS Ω C k sc st fun G T K => pre G ∧ seqM ms G T (fun ds T1 => sem F ds G T1 K) fun x T1 => K.ex x G T1
/-- what is said beside the text -/
structure GhS where
  sem : GV → TS → (GV → TS → Prop) → Prop
  mono : ∀ {G : GV} {T : TS} {Q Q' : GV → TS → Prop}, (∀ G T, Q G T → Q' G T) → sem G T Q → sem G T Q'
  sound : ∀ {Ω : Wd} {B0 M Bg : AP} {T0 T : TS} {H0 H : Hp} {σ : L2.St} {G : GV} {gs : List (V × D)} {Q : GV → TS → Prop}, EnvS Ω B0 T0 H0 M Bg T H σ G gs → sem G T Q → ∃ G' T', EnvS Ω B0 T0 H0 M Bg T' H σ G' gs ∧ Q G' T'
inductive S where
  | st (o : StS) (as : List E)
  | asgLc (i : Nat) (own : Bool) (elt : E) (tg : Tn) (k : IkS) (its ifs : List E) (loc : List (Str × Nat))
  | ite (t : E) (a b : List S)
  | forS (tg : Tn) (k : IkS) (as : List E) (body : List S)
  | whileS (t : E) (body : List S)
  | brk
  | cnt
  | pass
  | gh (o : GhS)
def wpFor (body : MS) (tg : Tn) (k : Ks) : List D → GV → TS → Prop
  | [], G, T => k.nx G T
  | d :: ds, G, T => match bindN tg d G with
    | some G1 => body G1 T { nx := wpFor body tg k ds, rt := k.rt, bk := k.nx, ct := wpFor body tg k ds, ex := k.ex }
    | none => False
def wpWh (test : VT) (body : MS) (k : Ks) : Nat → GV → TS → Prop
  | 0, _, _ => False
  | n + 1, G, T => test G T (fun x T1 => dtru x fun b => if b = true then body G T1 { nx := wpWh test body k n, rt := k.rt, bk := k.nx, ct := wpWh test body k n, ex := k.ex } else k.nx G T1) fun x T1 => k.ex x G T1
mutual
def wpS (F : List Ct) : S → MS
  | .st o as, G, T, K => o.pre G ∧ wpEs F as G T (fun ds T1 => o.sem F ds G T1 K) fun x T1 => K.ex x G T1
  | .asgLc i own elt tg k its ifs loc, G, T, K => wpE F (.lc own elt tg k its ifs loc) G T (fun d T1 => K.nx (G.set i (some d)) T1) fun x T1 => K.ex x G T1
  | .ite t a b, G, T, K => wpE F t G T (fun x T1 => dtru x fun r => if r = true then wpSs F a G T1 K else wpSs F b G T1 K) fun x T1 => K.ex x G T1
  | .forS tg k as body, G, T, K => wpEs F as G T (fun ds T1 => k.sem ds T1 fun xs T2 => wpFor (wpSs F body) tg K xs G T2) fun x T1 => K.ex x G T1
  | .whileS t body, G, T, K => ∃ n, wpWh (wpE F t) (wpSs F body) K n G T
  | .brk, G, T, K => K.bk G T
  | .cnt, G, T, K => K.ct G T
  | .pass, G, T, K => K.nx G T
  | .gh o, G, T, K => o.sem G T K.nx
def wpSs (F : List Ct) : List S → MS
  | [], G, T, K => K.nx G T
  | s :: r, G, T, K => wpS F s G T { nx := fun G1 T1 => wpSs F r G1 T1 K, rt := K.rt, bk := K.bk, ct := K.ct, ex := K.ex }
end
/-- a def's body: n slots, the parameters' data first; behind it some things may be let go -/
def start0 (n : Nat) (ds : List D) : GV := ds.map some ++ List.replicate (n - ds.length) none
def wpBody (F : List Ct) (n : Nat) (body : List S) (ds : List D) (T : TS) (Q : QD) (X : XD) : Prop :=
  wpSs F body (start0 n ds) T { nx := fun _ T1 => ∃ T2, T2.Sub T1 ∧ Q .non T2, rt := fun d T1 => ∃ T2, T2.Sub T1 ∧ Q d T2, bk := fun _ _ => False, ct := fun _ _ => False, ex := fun x _ T1 => ∃ T2, T2.Sub T1 ∧ X x T2 }
def slotOf (C : Ck) (sc : Scope) (i : Nat) (x : Str) : Bool := decide (C.N[i]? = some x) && (isLoc sc x || isCell sc x)
mutual
def chkS (C : Ck) (sc : Scope) : S → Stmt → Bool
  | .st o as, st => match o.shape C sc st with
    | some es => chkEs C sc as es
    | none => false
  | .asgLc i own elt tg k its ifs loc, st => match asAsg st with
    | some (.Name x px, v, _) => slotOf C sc i x && swT sc x px v && chkE C sc false (.lc own elt tg k its ifs loc) v
    | _ => false
  | .ite t a b, st => match asIfS st with
    | some (v, x, y) => chkE C sc true t v && chkSs C sc a x && chkSs C sc b y
    | none => false
  | .forS tg k as body, st => match asFor st with
    | some (t, it, b) => !isSet it && (match k.shape C sc it t with
      | some es => chkEs C sc as es
      | none => false) && chkTn C.N sc (fun _ => true) tg t && chkSs C sc body b
    | none => false
  | .whileS t body, st => match asWh st with
    | some (v, b) => chkE C sc true t v && chkSs C sc body b
    | none => false
  | .brk, st => OC.stK st == 1
  | .cnt, st => OC.stK st == 2
  | .pass, st => OC.stK st == 3
  | .gh _, _ => false
def chkSs (C : Ck) (sc : Scope) : List S → List Stmt → Bool
  | [], st => st.isEmpty
  | s :: r, st => (match s with
    | .gh _ => chkSs C sc r st
    | _ => false) || (match st with
    | x :: y => chkS C sc s x && chkSs C sc r y
    | [] => false)
end
section
variable {Ω : Wd}
theorem oks_ite {tt : WX → TT} {t : VT} {ta tb : WX → L2.TS} {a b : MS} (ht : TTok Ω tt t) (ha : TSok Ω ta a) (hb : TSok Ω tb b) : TSok Ω (fun W => tIfS (tt W) (ta W) (tb W)) fun G T K => t G T (fun x T1 => dtru x fun r => if r = true then a G T1 K else b G T1 K) fun x T1 => K.ex x G T1 := fun B0 T0 H0 M Bg T H σ G gs kd W Dn en w ko => by
  refine ht _ _ _ _ _ _ (fun r T1 => if r = true then a G T1 kd else b G T1 kd) _ _ _ en.env w (fun q B1 T1 H1 e1 s1 w1 => ?_) fun x c d B1 T1 H1 e1 s1 r q => ko.ex _ _ _ _ _ _ _ _ (en.grow e1 s1) r q
  cases q with
  | true =>
    simp only [if_true] at w1 ⊢
    exact ha _ _ _ _ _ _ _ _ _ _ _ _ _ (en.grow e1 s1) w1 ko
  | false =>
    simp only [Bool.false_eq_true, if_false] at w1 ⊢
    exact hb _ _ _ _ _ _ _ _ _ _ _ _ _ (en.grow e1 s1) w1 ko
theorem oks_nil : TSok Ω (fun _ => tNext) fun G T K => K.nx G T := fun B0 T0 H0 M Bg T H σ G gs kd W Dn en w ko => ko.nx _ _ _ _ _ en w
theorem oks_cons {t u : WX → L2.TS} {s r : MS} (h : TSok Ω t s) (hr : TSok Ω u r) : TSok Ω (fun W => tSeq (t W) (u W)) fun G T K => s G T { nx := fun G1 T1 => r G1 T1 K, rt := K.rt, bk := K.bk, ct := K.ct, ex := K.ex } := fun B0 T0 H0 M Bg T H σ G gs kd W Dn en w ko =>
  h _ _ _ _ _ _ _ _ _ _ _ _ _ en w ⟨fun B1 T1 H1 σ1 G1 en1 w1 => hr _ _ _ _ _ _ _ _ _ _ _ _ _ en1 w1 ko, ko.rt, ko.bk, ko.ct, ko.ex⟩
theorem oks_gh {u : WX → L2.TS} {o : GhS} {r : MS} (hr : TSok Ω u r) : TSok Ω u fun G T K => o.sem G T fun G1 T1 => r G1 T1 K := fun B0 T0 H0 M Bg T H σ G gs kd W Dn en w ko => by
  obtain ⟨G', T', en', w'⟩ := o.sound en w
  exact hr _ _ _ _ _ _ _ _ _ _ _ _ _ en' w' ko
theorem oks_brk : TSok Ω (fun _ => tBreak) fun G T K => K.bk G T := fun B0 T0 H0 M Bg T H σ G gs kd W Dn en w ko => ko.bk _ _ _ _ _ en w
theorem oks_cnt : TSok Ω (fun _ => tCont) fun G T K => K.ct G T := fun B0 T0 H0 M Bg T H σ G gs kd W Dn en w ko => ko.ct _ _ _ _ _ en w
theorem oks_for {wi : WX → TI} {tb : WX → L2.TS} {tg : Tn} {mi : VTs} {body : MS} (hi : TIok Ω wi mi) (hb : TSok Ω tb body) : TSok Ω (fun W => tFor (wi W) (gOfN Ω.K tg) (tb W)) fun G T K => mi G T (fun xs T2 => wpFor body tg K xs G T2) fun x T1 => K.ex x G T1 := fun B0 T0 H0 M Bg T H σ G gs kd W Dn en w ko => by
  refine hi _ _ _ _ _ _ _ _ _ _ en.env w (fun xs J g2 B1 T1 H1 e1 s1 hg Wk w1 => ?_) fun x c d B1 T1 H1 e1 s1 r q => ko.ex _ _ _ _ _ _ _ _ (en.grow e1 s1) r q
  let N : Nat → L2.St → Hp → Prop := fun i σ' H' => ∃ (B : AP) (T' : TS) (G' : GV), EnvS Ω B0 T0 H0 M B T' H' σ' G' (g2 ++ gs) ∧ wpFor body tg kd (xs.drop i) G' T'
  have en1 : EnvS Ω B0 T0 H0 M B1 T1 H1 σ G (g2 ++ gs) := by
    have z := en.grow e1 s1
    exact ⟨z.ext, z.env, fun p hp => (List.mem_append.mp hp).elim (hg p) (z.gst p)⟩
  have drp : ∀ {B : AP} {T' : TS} {H' : Hp} {σ' : L2.St} {G' : GV}, EnvS Ω B0 T0 H0 M B T' H' σ' G' (g2 ++ gs) → EnvS Ω B0 T0 H0 M B T' H' σ' G' gs := fun z => ⟨z.ext, z.env, fun p hp => z.gst p (List.mem_append_right _ hp)⟩
  refine ⟨fun i m σ' H' => m = xs.length - i ∧ i ≤ xs.length ∧ N i σ' H', ⟨xs.length, by simp, Nat.zero_le _, B1, T1, G, en1, by simpa using w1⟩, ?_⟩
  rintro i m σ2 H2 ⟨rfl, hil, B, T2, G2, en2, wf⟩
  have gh : ∀ p ∈ g2, Rep Ω.K B (lv T2 M) H2 p.1 p.2 := fun p hp => en2.gst p (List.mem_append_left _ hp)
  by_cases hlt : i < xs.length
  · right
    obtain ⟨d, hd⟩ : ∃ d, xs[i]? = some d := ⟨xs[i], by simp [hlt]⟩
    have hdrop : xs.drop i = d :: xs.drop (i + 1) := by
      rw [List.drop_eq_getElem_cons hlt]
      congr 1
      rw [List.getElem?_eq_getElem hlt] at hd
      exact Option.some.inj hd
    rw [hdrop] at wf
    simp only [wpFor] at wf
    obtain ⟨hgo, hy⟩ := Wk.step B (lv T2 M) H2 i d en2.env.sm.bags en2.env.sm.md gh hd
    refine ⟨hgo, N (i + 1), fun σ' H' hn => ⟨xs.length - (i + 1), by omega, rfl, hlt, hn⟩, fun x H3 hyl => ?_⟩
    obtain ⟨e3', rx⟩ := hy x H3 hyl
    obtain ⟨e3, s3⟩ := lift_ext e3' en2.env.sm
    split at wf
    · rename_i G3 hG
      have en3 := en2.grow e3 s3
      refine ok_gN tg en3.env rx hG fun σ3 en4 _ _ => ?_
      refine hb _ _ _ _ _ _ _ _ _ _ _ _ _ (⟨en3.ext, en4, en3.gst⟩ : EnvS Ω B0 T0 H0 M B T2 H3 σ3 G3 (g2 ++ gs)) wf ⟨fun B4 T4 H4 σ4 G4 en4 w4 => ⟨B4, T4, G4, en4, w4⟩, ko.rt, fun B4 T4 H4 σ4 G4 en4 w4 => ko.nx _ _ _ _ _ (drp en4) w4, fun B4 T4 H4 σ4 G4 en4 w4 => ⟨B4, T4, G4, en4, w4⟩, fun B4 T4 H4 σ4 G4 x c d en4 r w4 => ko.ex _ _ _ _ _ _ _ _ (drp en4) r w4⟩
    · exact wf.elim
  · left
    have e : i = xs.length := by omega
    subst e
    rw [List.drop_length] at wf
    simp only [wpFor] at wf
    exact ⟨Wk.stop B (lv T2 M) H2 gh, ko.nx _ _ _ _ _ (drp en2) wf⟩
theorem oks_while {tt : WX → TT} {t : VT} {tb : WX → L2.TS} {body : MS} (ht : TTok Ω tt t) (hb : TSok Ω tb body) : TSok Ω (fun W => tWhile (tt W) (tb W)) fun G T K => ∃ n, wpWh t body K n G T := fun B0 T0 H0 M Bg T H σ G gs kd W Dn en w ko => by
  obtain ⟨n, w⟩ := w
  refine ⟨fun m σ' H' => ∃ (B : AP) (T' : TS) (G' : GV), EnvS Ω B0 T0 H0 M B T' H' σ' G' gs ∧ wpWh t body kd m G' T', ⟨n, Bg, T, G, en, w⟩, ?_⟩
  rintro m σ1 H1 ⟨B, T1, G1, en1, w1⟩
  cases m with
  | zero => exact w1.elim
  | succ m =>
    simp only [wpWh] at w1
    refine ht _ _ _ _ _ _ (fun b T1 => if b = true then body G1 T1 { nx := wpWh t body kd m, rt := kd.rt, bk := kd.nx, ct := wpWh t body kd m, ex := kd.ex } else kd.nx G1 T1) _ _ _ en1.env w1 (fun q B2 T2 H2 e2 s2 w2 => ?_) fun x c d B1 T1 H1 e1 s1 r q => ko.ex _ _ _ _ _ _ _ _ (en1.grow e1 s1) r q
    cases q with
    | true =>
      simp only [if_true] at w2 ⊢
      refine ⟨fun σ' H' => ∃ (B : AP) (T' : TS) (G' : GV), EnvS Ω B0 T0 H0 M B T' H' σ' G' gs ∧ wpWh t body kd m G' T', fun σ' H' z => ⟨m, Nat.lt_succ_self m, z⟩, ?_⟩
      exact hb _ _ _ _ _ _ _ _ _ _ _ _ _ (en1.grow e2 s2) w2 ⟨fun B4 T4 H4 σ4 G4 en4 w4 => ⟨B4, T4, G4, en4, w4⟩, ko.rt, ko.nx, fun B4 T4 H4 σ4 G4 en4 w4 => ⟨B4, T4, G4, en4, w4⟩, ko.ex⟩
    | false =>
      simp only [Bool.false_eq_true, if_false] at w2 ⊢
      exact ko.nx _ _ _ _ _ (en1.grow e2 s2) w2
end
section
variable {Ω : Wd} {C : Ck} {F : List Ct} {k : Nat} {sc : Scope}
theorem slot_ok {i : Nat} {x : Str} {X : Cx} (g : Gs Ω C sc k X) (h : slotOf C sc i x = true) : X.N.Nodup ∧ X.N[i]? = some x ∧ Loc X.env.scope x ∧ (X.fn x = true ∨ X.env.scope.names.lookup x = some .local) := by
  unfold slotOf at h
  simp only [Bool.and_eq_true, decide_eq_true_eq, Bool.or_eq_true] at h
  refine ⟨by rw [g.g.eN]; exact g.g.nd, by rw [g.g.eN]; exact h.1, ?_, .inl (g.fn x)⟩
  rw [g.g.esc]
  rcases h.2 with z | z
  · exact .inl (isLoc_ok z)
  · exact .inr (isCell_ok z)
theorem oks_asg {te : WX → TE} {m : VT} {i : Nat} (h : TEok Ω te m) : TSok Ω (fun W => tAsg (te W) (gName i)) fun G T K => m G T (fun d T1 => K.nx (G.set i (some d)) T1) fun x T1 => K.ex x G T1 := fun B0 T0 H0 M Bg T H σ G gs kd W Dn en w ko =>
  h _ _ _ _ _ _ _ _ _ _ en.env w (fun d v B1 T1 H1 e1 s1 r q => ko.nx _ _ _ _ _ ((en.grow e1 s1).put r i) q) fun x c d B1 T1 H1 e1 s1 r q => ko.ex _ _ _ _ _ _ _ _ (en.grow e1 s1) r q
/-- name = [..], the names swapped -/
theorem ss_lc (W : Wr Ω C F k) {i : Nat} {x : Str} {px pos : Pos} {own : Bool} {elt : E} {tg : Tn} {ik : IkS} {its ifs : List E} {loc : List (Str × Nat)} {v : Expr} (hs : slotOf C sc i x = true) (hw : swT sc x px v = true) (he : chkE C sc false (.lc own elt tg ik its ifs loc) v = true) :
    SS Ω C k sc (.Assign [.Name x px] v pos) fun G T K => wpE F (.lc own elt tg ik its ifs loc) G T (fun d T1 => K.nx (G.set i (some d)) T1) fun x T1 => K.ex x G T1 := by
  unfold swT at hw
  split at hw
  · rename_i scope p hv
    cases v <;> simp only [lcSc] at hv <;> first
      | (cases hv; done)
      | skip
    rename_i elt0 gens scope0 p0
    cases hv
    simp only [Bool.and_eq_true, Bool.not_eq_true'] at hw
    obtain ⟨⟨hl, hline⟩, hany⟩ := hw
    rw [chkE] at he
    simp only [Bool.not_false, Bool.true_or, Bool.true_and] at he
    split at he
    · rename_i el t it fs scope1 hx
      obtain ⟨ps, hx⟩ := asLC_ok hx
      cases hx
      simp only [Bool.and_eq_true, Bool.not_eq_true'] at he
      obtain ⟨⟨⟨⟨⟨⟨hset, hblk⟩, hi⟩, htg⟩, hin⟩, hf⟩, he⟩ := he
      have hsi : SI Ω C k sc it t fun G T Q X => seqM (its.map (wpE F)) G T (fun ds T1 => ik.sem ds T1 Q) X := by
        split at hi
        · rename_i es hs
          exact ik.sound W hs (sEs W its sc es hi)
        · cases hi
      obtain ⟨wi, i1, i2⟩ := hsi
      obtain ⟨tf, f1, f2⟩ := sF W ifs (relS scope sc) _ hf
      obtain ⟨te, e1, e2⟩ := (sE W elt (relS scope sc) _).1 he
      have em : wpE F (.lc own elt tg ik its ifs loc) = fun G T Q X => seqM (its.map (wpE F)) G T (fun ds T1 => ik.sem ds T1 fun xs T2 => xs.length ≤ 100000 ∧ wpMap (fun d T3 kk => match bindN tg d (wipeV G (loc.map (·.2))) with
        | some G1 => wpIf F ifs G1 T3 (fun T4 => wpE F elt G1 T4 (fun y T5 => kk (some y) T5) noX) (fun T4 => kk none T4)
        | none => False) xs [] T2 fun ys T6 => mkL own ys T6 Q) X := by
        funext G T Q X
        rw [wpE, wpEs_seq]
        all_goals rfl
      rw [em]
      refine ⟨_, fun X W gs tk => ?_, oks_asg (ok_lc (own := own) i2 f2 e2 (tn_in hin))⟩
      have g := gs.g
      obtain ⟨n1, n2, _, _⟩ := slot_ok gs hs
      have hlx : X.env.scope.names.lookup x = some .local := by rw [g.esc]; exact isLoc_ok hl
      refine ps_setLc g.calm n1 n2 hlx (sw_true (by rw [g.esc]; exact gs.kind) hlx hline hany) (i1 X W g tk) (by rw [g.eN, g.esc]; exact blkOk_by hblk) (fun s H Ca cl fp => ?_) (fun s H Ca cl fp => f1 _ (g.blk s H Ca cl fp)) (fun s H Ca cl fp => e1 _ _ (g.blk s H Ca cl fp) takes0) (fold_ok hset)
      have gb := g.blk (scope := scope) s H Ca cl fp
      have := pg_ofN (X := X.blk s H scope (compEnvC scope cl Ca X.env) fp) (C := C) gb.eN gb.nd gb.calm gb.esc (fun x hx => by
        show (scope.names.lookup x == some .cell) = true
        rw [isCell_ok hx]
        rfl) tg htg
      have eK : (X.blk s H scope (compEnvC scope cl Ca X.env) fp).K = Ω.K := g.eK
      rw [eK] at this
      exact this
    · cases he
  · cases hw
mutual
theorem sS (W : Wr Ω C F k) : ∀ (ir : S) (sc : Scope) (st : Stmt), chkS C sc ir st = true → SS Ω C k sc st (wpS F ir)
  | .st o as, sc, st, h => by
    have em : wpS F (.st o as) = fun G T K => o.pre G ∧ seqM (as.map (wpE F)) G T (fun ds T1 => o.sem F ds G T1 K) fun x T1 => K.ex x G T1 := by funext G T K; rw [wpS, wpEs_seq]
    rw [em]
    rw [chkS] at h
    split at h
    · rename_i es hs
      exact o.sound W hs (sEs W as sc es h)
    · cases h
  | .asgLc i own elt tg ik its ifs loc, sc, st, h => by
    have em : wpS F (.asgLc i own elt tg ik its ifs loc) = fun G T K => wpE F (.lc own elt tg ik its ifs loc) G T (fun d T1 => K.nx (G.set i (some d)) T1) fun x T1 => K.ex x G T1 := by funext G T K; rw [wpS]
    rw [em]
    rw [chkS] at h
    split at h
    · rename_i x px v pos hx
      obtain rfl := asAsg_ok hx
      simp only [Bool.and_eq_true] at h
      exact ss_lc W h.1.1 h.1.2 h.2
    · cases h
  | .ite t a b, sc, st, h => by
    have em : wpS F (.ite t a b) = fun G T K => wpE F t G T (fun x T1 => dtru x fun r => if r = true then wpSs F a G T1 K else wpSs F b G T1 K) fun x T1 => K.ex x G T1 := by funext G T K; rw [wpS]
    rw [em]
    rw [chkS] at h
    split at h
    · rename_i v x y hx
      obtain ⟨p, rfl⟩ := asIfS_ok hx
      simp only [Bool.and_eq_true] at h
      obtain ⟨tt, h1, h2⟩ := (sE W t sc v).2 h.1.1
      obtain ⟨ta, h3, h4⟩ := sSs W a sc x h.1.2
      obtain ⟨tb, h5, h6⟩ := sSs W b sc y h.2
      exact ⟨_, fun X W g tk => ps_if (h1 X W g.g tk).1 (h3 X W g tk) (h5 X W g tk), oks_ite h2 h4 h6⟩
    · cases h
  | .forS tg ik as body, sc, st, h => by
    have em : wpS F (.forS tg ik as body) = fun G T K => seqM (as.map (wpE F)) G T (fun ds T1 => ik.sem ds T1 fun xs T2 => wpFor (wpSs F body) tg K xs G T2) fun x T1 => K.ex x G T1 := by funext G T K; rw [wpS, wpEs_seq]
    rw [em]
    rw [chkS] at h
    split at h
    · rename_i t it b hx
      obtain ⟨p, rfl⟩ := asFor_ok hx
      simp only [Bool.and_eq_true, Bool.not_eq_true'] at h
      obtain ⟨⟨⟨hset, hi⟩, ht⟩, hb⟩ := h
      have hsi : SI Ω C k sc it t fun G T Q X => seqM (as.map (wpE F)) G T (fun ds T1 => ik.sem ds T1 Q) X := by
        split at hi
        · rename_i es hs
          exact ik.sound W hs (sEs W as sc es hi)
        · cases hi
      obtain ⟨wi, i1, i2⟩ := hsi
      obtain ⟨tb, h3, h4⟩ := sSs W body sc b hb
      refine ⟨_, fun X W g tk => ?_, oks_for (tg := tg) i2 h4⟩
      have := pg_ofN (X := X) (C := C) g.g.eN g.g.nd g.g.calm g.g.esc (fun x _ => g.fn x) tg ht
      rw [g.g.eK] at this
      exact ps_for g.po g.g.calm (i1 X W g.g tk) this (h3 X W g tk) (fold_ok hset)
    · cases h
  | .whileS t body, sc, st, h => by
    have em : wpS F (.whileS t body) = fun G T K => ∃ n, wpWh (wpE F t) (wpSs F body) K n G T := by funext G T K; rw [wpS]
    rw [em]
    rw [chkS] at h
    split at h
    · rename_i v b hx
      obtain ⟨p, rfl⟩ := asWh_ok hx
      simp only [Bool.and_eq_true] at h
      obtain ⟨tt, h1, h2⟩ := (sE W t sc v).2 h.1
      obtain ⟨tb, h3, h4⟩ := sSs W body sc b h.2
      exact ⟨_, fun X W g tk => ps_while g.po (h1 X W g.g tk).1 (h3 X W g tk), oks_while h2 h4⟩
    · cases h
  | .brk, sc, st, h => by
    have em : wpS F .brk = fun G T K => K.bk G T := by funext G T K; rw [wpS]
    rw [em]
    rw [chkS] at h
    cases st <;> first
      | exact ⟨_, fun X W g tk => ps_break, oks_brk⟩
      | (simp [OC.stK] at h)
  | .cnt, sc, st, h => by
    have em : wpS F .cnt = fun G T K => K.ct G T := by funext G T K; rw [wpS]
    rw [em]
    rw [chkS] at h
    cases st <;> first
      | exact ⟨_, fun X W g tk => ps_continue, oks_cnt⟩
      | (simp [OC.stK] at h)
  | .pass, sc, st, h => by
    have em : wpS F .pass = fun G T K => K.nx G T := by funext G T K; rw [wpS]
    rw [em]
    rw [chkS] at h
    cases st <;> first
      | exact ⟨_, fun X W g tk => ps_pass, oks_nil⟩
      | (simp [OC.stK] at h)
  | .gh _, sc, st, h => by rw [chkS] at h; cases h
theorem sSs (W : Wr Ω C F k) : ∀ (irs : List S) (sc : Scope) (st : List Stmt), chkSs C sc irs st = true → SSs Ω C k sc st (wpSs F irs)
  | [], sc, st, h => by
    have em : wpSs F [] = fun G T K => K.nx G T := by funext G T K; rw [wpSs]
    rw [em]
    rw [chkSs] at h
    cases st with
    | nil => exact ⟨_, fun X W g tk => pss_nil, oks_nil⟩
    | cons _ _ => cases h
  | s :: r, sc, st, h => by
    have em : wpSs F (s :: r) = fun G T K => wpS F s G T { nx := fun G1 T1 => wpSs F r G1 T1 K, rt := K.rt, bk := K.bk, ct := K.ct, ex := K.ex } := by funext G T K; rw [wpSs]
    rw [em]
    rw [chkSs.eq_def] at h
    simp only at h
    rw [Bool.or_eq_true] at h
    rcases h with h | h
    · split at h
      · rename_i o
        have em2 : wpS F (.gh o) = fun G T K => o.sem G T K.nx := by funext G T K; rw [wpS]
        rw [em2]
        obtain ⟨t, h1, h2⟩ := sSs W r sc st h
        exact ⟨t, h1, oks_gh h2⟩
      · cases h
    · cases st with
      | nil => cases h
      | cons x y =>
        simp only [Bool.and_eq_true] at h
        obtain ⟨t, h1, h2⟩ := sS W s sc x h.1
        obtain ⟨u, h3, h4⟩ := sSs W r sc y h.2
        exact ⟨_, fun X W g tk => pss_cons (h1 X W g tk) (h3 X W g tk), oks_cons h2 h4⟩
end
end
end NX
set_option Elab.async false
set_option linter.all false
set_option maxRecDepth 100000
set_option maxHeartbeats 4000000
/-! The wider small language: a def by its body. -/
namespace NX
open PySem PySem.Spec PyProof.Rows L2 OC
/-- a def of the text, at work where no repr is under way, by its body -/
theorem g_fnX {Ω : Wd} {x qual : Str} {params : Arguments} {body : List Stmt} {scope : Scope} {dvs : List V} {kws : List (Str × V)} {f : Addr} {fd : FuncData} {N ps : List Str} {k : Nat} {sp : Sp} (F : FunD Ω.K x qual params body scope dvs kws f fd) (S : FnScope N ps scope) (len : ∀ vs H Q E, sp vs H Q E → vs.length = ps.length)
    (hbody : ∀ (cdv : Value) (A : Around) (outer : List Env) (s : Shared) (H : Hp) (vs : List V) (Q : VK) (E : XK), Room k (A.deeper (envOfC qual scope s.heap.objs.size f cdv)) → A.guards = some [] → sp vs H Q E →
      ∃ t, PSs (cxOf (L2.CX Ω.P Ω.w) Ω.P Ω.w Ω.K Ω.mg Ω.base N qual scope f cdv A outer s H E) body t ∧ t { nx := fun _ H' => Q .non H', rt := Q } (start N vs) H) : GFn Ω (k + 1) f fd ps sp := by
  obtain ⟨oc, od, dV, kV, doc, pm, an, cdv, ct, osl, rfl, lk, hcd, _, _⟩ := F.ex
  refine ⟨len, fun A outer s H args us vs Q E hr hgd e0 hb r hsp => ?_⟩
  have KX : Ω.K.In s.heap := e0.mod.kin.keeps fun b o e => (e0.bs b o e).1
  have hkind : ∀ y ∈ ps.zip us, scope.names.lookup y.1 = some .local ∨ (scope.names.lookup y.1 = some .cell ∧ ((cellsFrom (s.heap.objs.size + 1) scope.names []).lookup y.1).isSome = true) := by
    rintro ⟨n, v⟩ hy
    exact (S.par n (List.of_mem_zip hy).1).imp (fun q => q) fun q => ⟨q, PySem.W.cellsFrom_some _ _ _ (.inl q)⟩
  refine codeAny_call_function (hr.depth) (KX _ _ lk) rfl S.co S.gen rfl (PySem.W.codeRec_of KX hcd) (hb _ _ _ _ (wpAny_newFunctionEnv_cells S.kind hkind fun env he s1 x => ?_))
  subst he
  refine ⟨(e0.mod.nolimit.keeps fun b o e => (e0.bs b o e).1).keeps x.toInCall.keep, codeAny_func ?_⟩
  obtain ⟨t, ht, hq⟩ := hbody cdv A outer s H vs Q E (hr.deeper _) hgd hsp
  have I := inv_start (CX := L2.CX Ω.P Ω.w) (E := E) (N := N) (ps := ps) (w := Ω.w) (P := Ω.P) S hr.hd e0 (len _ _ _ _ hsp) r x
  refine wpAny_mono (ht.run [] s1 (start N vs) H _ I hq) (fun fl s' hs => ?_) (fun e s' hs => hs)
  cases fl with
  | ret u =>
    obtain ⟨v, σ', H', J, rv, q⟩ := hs
    exact ⟨v, H', J.os, J.bare, J.base, J.hok, rv, q⟩
  | next =>
    obtain ⟨σ', H', J, q⟩ := hs
    exact ⟨V.non, H', J.os, J.bare, J.base, J.hok, rfl, q⟩
  | brk =>
    obtain ⟨_, _, _, q⟩ := hs
    exact False.elim q
  | cont =>
    obtain ⟨_, _, _, q⟩ := hs
    exact False.elim q
/-- what the look asks of a def -/
def chkFn (C : Ck) (np : Nat) (irs : List S) (body : List Stmt) (sc : Scope) : Bool :=
  (match sc.kind with | .function => true | _ => false) && !sc.isCoroutine && !sc.isGenerator && decide C.N.Nodup && ((C.N.take np).all fun x => isLoc sc x || isCell sc x) &&
    (sc.names.all fun y => match y.2 with | .free => false | _ => true) && decide (np ≤ C.N.length) && chkSs C sc irs body
theorem repX_less {Ω : Wd} {Bg M : AP} {T T' : TS} {H : Hp} {cls : Value} {d : Option Addr} {x : Xd} (h : T'.Sub T) (r : RepX Ω Bg M T H cls d x) : RepX Ω Bg M T' H cls d x := by
  obtain ⟨r1, r2⟩ := r
  refine ⟨r1, ?_⟩
  cases q : x.at_ with
  | none => rw [q] at r2; exact r2
  | some p =>
    rw [q] at r2
    obtain ⟨p, v, h1, h2, h3, h4, h5⟩ := r2
    exact ⟨p, v, h1, h2, h3, not_lv ((Ext.less (Bg := Bg) (H := H) h).dead h2 (lv_not h4).1) (lv_not h4).2, rep_ext (Ext.less h) h5⟩
/-- THE RULE: a def of the text keeps a promise if its body in the small language does -/
theorem gfn_ok {Ω : Wd} {C : Ck} {F : List Ct} {k : Nat} {x qual : Str} {params : Arguments} {body : List Stmt} {scope : Scope} {dvs : List V} {kws : List (Str × V)} {f : Addr} {fd : FuncData} {np : Nat} {irs : List S} {c : Ct} (W : Wr Ω C F k) (Fu : FunD Ω.K x qual params body scope dvs kws f fd)
    (hck : chkFn C np irs body scope = true) (hn : c.n = np) (hc : ∀ ds T Q X, c.c ds T Q X → wpBody F C.N.length irs ds T Q X) : GFn Ω (k + 1) f fd (C.N.take np) (SpD Ω c) ∧ (C.N.take np).length = c.n := by
  unfold chkFn at hck
  simp only [Bool.and_eq_true, decide_eq_true_eq, Bool.not_eq_true', List.all_eq_true] at hck
  obtain ⟨⟨⟨⟨⟨⟨⟨h1, h2⟩, h3⟩, h4⟩, h5⟩, h6⟩, h7⟩, h8⟩ := hck
  have hkind : scope.kind = .function := by
    split at h1
    · assumption
    · cases h1
  have hpl : (C.N.take np).length = np := by rw [List.length_take]; omega
  have S : FnScope C.N (C.N.take np) scope := ⟨hkind, h2, h3, h4, by rw [hpl], fun y hy => by
    have := h5 y hy
    rw [Bool.or_eq_true] at this
    exact this.imp isLoc_ok isCell_ok, fun y hy z => by
    have := h6 y hy
    rw [z] at this
    cases this⟩
  obtain ⟨t, t1, t2⟩ := sSs W irs scope body h8
  refine ⟨?_, by rw [hpl, hn]⟩
  refine g_fnX Fu S (fun vs H Q E h => ?_) (fun cdv A outer s H vs Q E hr hg h => ?_)
  · obtain ⟨Bg, M, T, ds, Qd, Xq, _, rl, hcd, _⟩ := h
    rw [rl.len, c.len hcd, hpl, hn]
  · obtain ⟨Bg, M, T, ds, Qd, Xq, sm, rl, hcd, post, postX⟩ := h
    have tk : Takes (cxOf (L2.CX Ω.P Ω.w) Ω.P Ω.w Ω.K Ω.mg Ω.base C.N qual scope f cdv A outer s H E) (fun cls d _ H => E cls d H) := takes_of rfl rfl rfl rfl
    refine ⟨t _, t1 _ _ ⟨⟨rfl, rfl, rfl, rfl, rfl, rfl, h4, rfl, rfl, hr, hg⟩, fun _ => rfl, hkind, passes_of rfl, rfl, rfl⟩ tk, ?_⟩
    have hl : ds.length = np := by rw [c.len hcd, hn]
    refine t2 Bg T H M Bg T H _ (start0 C.N.length ds) [] _ _ _ ⟨.refl, ⟨sm, ?_, fun i d z => ?_⟩, fun p hp => nomatch hp⟩ (hc ds T Qd Xq hcd) ⟨fun B1 T1 H1 σ1 G1 en1 q => ?_, fun B1 T1 H1 v d e1 s1 r q => ?_, fun _ _ _ _ _ _ z => z.elim, fun _ _ _ _ _ _ z => z.elim, fun B1 T1 H1 σ1 G1 x cls d en1 r q => ?_⟩
    · unfold L2.start start0
      rw [List.length_append, List.length_append, List.length_map, List.length_map, List.length_replicate, List.length_replicate, rl.len]
    · have z := getV_some z
      unfold start0 at z
      by_cases q : i < ds.length
      · rw [List.getElem?_append_left (by rw [List.length_map]; exact q), List.getElem?_map] at z
        cases e : ds[i]? with
        | none => rw [e] at z; cases z
        | some d' =>
          rw [e] at z
          have z : some (some d') = some (some d) := z
          cases z
          obtain ⟨v, hv, rv⟩ := rl.get e
          exact ⟨v, by rw [start_get (by rw [rl.len]; exact q), hv], rv⟩
      · rw [List.getElem?_append_right (by rw [List.length_map]; omega), List.getElem?_replicate] at z
        split at z <;> cases z
    · obtain ⟨T2, sub, q⟩ := q
      exact post .non .non B1 T2 H1 (en1.ext.trans (Ext.less sub)) (en1.env.sm.less sub) .non q
    · obtain ⟨T2, sub, q⟩ := q
      exact post d v B1 T2 H1 (e1.trans (Ext.less sub)) (s1.less sub) (rep_ext (Ext.less sub) r) q
    · obtain ⟨T2, sub, q⟩ := q
      exact postX x cls d B1 T2 H1 (en1.ext.trans (Ext.less sub)) (en1.env.sm.less sub) (repX_less sub r) q
end NX
set_option Elab.async false
set_option linter.all false
set_option maxRecDepth 100000
set_option maxHeartbeats 4000000
/-! The wider small language: operations. -/
namespace NX
open PySem PySem.Spec PyProof.Rows L2 OC
/-! ### contents -/
mutual
/-- d, with the contents of the things that may change written in, is the datum p -/
inductive Rsv (T : TS) : D → D → Prop
  | non : Rsv T .non .non
  | bl (b : Bool) : Rsv T (.bl b) (.bl b)
  | int (i : Int) : Rsv T (.int i) (.int i)
  | str (s : Str) : Rsv T (.str s) (.str s)
  | tup {xs ps : List D} (h : RsvL T xs ps) : Rsv T (.tup xs) (.tup ps)
  | lst {xs ps : List D} (h : RsvL T xs ps) : Rsv T (.lst xs) (.lst ps)
  | ob {a : Addr} {xs ps : List D} (e : T a = some (.lst xs)) (h : RsvL T xs ps) : Rsv T (.ob a) (.lst ps)
inductive RsvL (T : TS) : List D → List D → Prop
  | nil : RsvL T [] []
  | cons {d p : D} {ds ps : List D} (h : Rsv T d p) (t : RsvL T ds ps) : RsvL T (d :: ds) (p :: ps)
end
mutual
theorem Rsv.pure {T : TS} : ∀ (d : D), d.pure = true → Rsv T d d
  | .non, _ => .non
  | .bl b, _ => .bl b
  | .int i, _ => .int i
  | .str s, _ => .str s
  | .tup xs, h => .tup (RsvL.pure xs h)
  | .lst xs, h => .lst (RsvL.pure xs h)
  | .scr _, h => by cases h
  | .bag, h => by cases h
  | .ob _, h => by cases h
theorem RsvL.pure {T : TS} : ∀ (ds : List D), pureL ds = true → RsvL T ds ds
  | [], _ => .nil
  | d :: ds, h => by
    have h : (d.pure && pureL ds) = true := h
    rw [Bool.and_eq_true] at h
    exact .cons (Rsv.pure d h.1) (RsvL.pure ds h.2)
end
mutual
/-- what stands in the heap is that datum -/
theorem Rsv.dp {K : PySem.W.Frag} {mg : Str → Option Value} {Bg M : AP} {T : TS} {H : Hp} (s : Sm K mg Bg M T H) : ∀ {d p : D} {v : V}, Rsv T d p → Rep K Bg (lv T M) H v d → Dp K H v p.py
  | _, _, _, .non, .non => .non
  | _, _, _, .bl b, .bl _ => .bl b
  | _, _, _, .int i, .int _ => .int i
  | _, _, _, .str x, .str _ => .str x
  | _, _, _, .tup h, .tup q _ _ r => .tup (.inl q) (RsvL.dp s h r)
  | _, _, _, .tup h, .lit q r => .tup (.inr q) (RsvL.dp s h r)
  | _, _, _, .lst h, .lst q _ _ r => .lst (.inl (.inl q)) (RsvL.dp s h r)
  | _, _, _, .ob e h, .ob _ => by
    obtain ⟨vs, h1, r⟩ := s.ob _ _ e
    exact .lst (.inl (.inl h1)) (RsvL.dp s h r)
theorem RsvL.dp {K : PySem.W.Frag} {mg : Str → Option Value} {Bg M : AP} {T : TS} {H : Hp} (s : Sm K mg Bg M T H) : ∀ {ds ps : List D} {vs : List V}, RsvL T ds ps → RepL K Bg (lv T M) H vs ds → DpAll K H vs (pyL ps)
  | _, _, _, .nil, .nil => .nil
  | _, _, _, .cons h t, .cons r u => .cons (Rsv.dp s h r) (RsvL.dp s t u)
end
/-- the items of a list, whether it may change or not -/
def viewL (T : TS) : D → Option (List D)
  | .lst xs => some xs
  | .ob a => match T a with
    | some (.lst xs) => some xs
    | _ => none
  | _ => none
theorem view_ok {K : PySem.W.Frag} {mg : Str → Option Value} {Bg M : AP} {T : TS} {H : Hp} {v : V} {d : D} {xs : List D} (s : Sm K mg Bg M T H) (h : viewL T d = some xs) (r : Rep K Bg (lv T M) H v d) : ∃ a vs, v = .ref a ∧ H a = some (.lst vs) ∧ RepL K Bg (lv T M) H vs xs := by
  unfold viewL at h
  split at h
  · cases h
    cases r with
    | lst q _ _ r => exact ⟨_, _, rfl, q, r⟩
  · split at h
    · rename_i e
      cases h
      cases r with
      | ob a =>
        obtain ⟨vs, h1, r⟩ := s.ob _ _ e
        exact ⟨_, vs, rfl, h1, r⟩
    · cases h
  · cases h
/-! ### makers of operations -/
section
variable {Ω : Wd} {ta tb tc : WX → TE} {a b c : VT}
theorem ok_op2 {r : R2} {g : D → D → TS → QD → Prop} (hr : ROk2 Ω r g) (ha : TEok Ω ta a) (hb : TEok Ω tb b) : TEok Ω (fun W => tOp r (ta W) (tb W)) fun G T Q X => a G T (fun x T1 => b G T1 (fun y T2 => g x y T2 Q) X) X := fun Bg M T H σ G Qd Xq Q W en w post px => by
  refine ha _ _ _ _ _ _ _ _ _ _ en w (fun x vx B1 T1 H1 e1 s1 rx w1 => ?_) px
  refine hb _ _ _ _ _ _ _ _ _ _ (en.ext e1 s1) w1 (fun y vy B2 T2 H2 e2 s2 ry w2 => ?_) (px.ext e1)
  exact hr _ _ _ _ _ _ _ _ _ _ s2 (rep_ext e2 rx) ry w2 (post.ext (e1.trans e2))
def ROk1 (Ω : Wd) (r : V → Hp → VK → Prop) (g : D → TS → QD → Prop) : Prop := ∀ (Bg M : AP) (T : TS) (H : Hp) (x : V) (dx : D) (Qd : QD) (Q : VK), Sm Ω.K Ω.mg Bg M T H → Rep Ω.K Bg (lv T M) H x dx → g dx T Qd → Post Ω Bg M T H Qd Q → r x H Q
theorem ok_op1 {r : V → Hp → VK → Prop} {g : D → TS → QD → Prop} (hr : ROk1 Ω r g) (ha : TEok Ω ta a) : TEok Ω (fun W => tUn r (ta W)) fun G T Q X => a G T (fun x T1 => g x T1 Q) X := fun Bg M T H σ G Qd Xq Q W en w post px => by
  refine ha _ _ _ _ _ _ _ _ _ _ en w (fun x vx B1 T1 H1 e1 s1 rx w1 => ?_) px
  exact hr _ _ _ _ _ _ _ _ s1 rx w1 (post.ext e1)
theorem ok_opC {rc : List V → Hp → VK → Prop} {g : List D → TS → QD → Prop} {t : WX → TA} {ms : VTs} {n : Nat} (hr : ROkC Ω rc g) (h : TAok Ω t ms n) : TEok Ω (fun W => tCB rc (t W)) fun G T Q X => ms G T (fun ds T1 => g ds T1 Q) X := fun Bg M T H σ G Qd Xq Q W en w post px => by
  exact h _ _ _ _ _ _ _ _ _ _ en w (fun ds vs B1 T1 H1 e1 s1 rl hl w1 => hr _ _ _ _ _ _ _ _ s1 rl w1 (post.ext e1)) px
end
theorem all2_1 {α β : Type} {R : α → β → Prop} {a : α} {bs : List β} (h : All2 R [a] bs) : ∃ b, bs = [b] ∧ R a b := by
  cases h with
  | cons h t => cases t; exact ⟨_, rfl, h⟩
theorem all2_2 {α β : Type} {R : α → β → Prop} {a c : α} {bs : List β} (h : All2 R [a, c] bs) : ∃ b d, bs = [b, d] ∧ R a b ∧ R c d := by
  cases h with
  | cons h t =>
    obtain ⟨d, rfl, h2⟩ := all2_1 t
    exact ⟨_, _, rfl, h, h2⟩
theorem all2_3 {α β : Type} {R : α → β → Prop} {a c e : α} {bs : List β} (h : All2 R [a, c, e] bs) : ∃ b d f, bs = [b, d, f] ∧ R a b ∧ R c d ∧ R e f := by
  cases h with
  | cons h t =>
    obtain ⟨d, f, rfl, h2, h3⟩ := all2_2 t
    exact ⟨_, _, _, rfl, h, h2, h3⟩
theorem map1 {o : Option Expr} {es : List Expr} (h : (o.map fun x => [x]) = some es) : ∃ x, o = some x ∧ es = [x] := by
  cases o with
  | none => cases h
  | some x => cases h; exact ⟨x, rfl, rfl⟩
theorem map2 {o : Option (Expr × Expr)} {es : List Expr} (h : (o.map fun x => [x.1, x.2]) = some es) : ∃ x y, o = some (x, y) ∧ es = [x, y] := by
  cases o with
  | none => cases h
  | some x => cases h; exact ⟨x.1, x.2, rfl, rfl⟩
/-- of one part -/
def op1S (sh : Ck → Scope → Expr → Option Expr) (g : D → TS → QD → Prop) (gm : ∀ {x : D} {T : TS} {Q Q' : QD}, (∀ d T', Q d T' → Q' d T') → g x T Q → g x T Q')
    (snd : ∀ {Ω : Wd} {C : Ck} {F : List Ct} {k : Nat} {sc : Scope} {e x : Expr} {m : VT}, Wr Ω C F k → sh C sc e = some x → SE Ω C k sc x m → SE Ω C k sc e fun G T Q X => m G T (fun d T1 => g d T1 Q) X) : OpS where
  shape C sc e := (sh C sc e).map fun x => [x]
  sem _ ds T Q _ := match ds with | [x] => g x T Q | _ => False
  tst := false
  mono h _ w := by
    split at w
    · exact gm h w
    · exact w
  sound W hs ha := by
    obtain ⟨x, h1, rfl⟩ := map1 hs
    obtain ⟨m, rfl, h2⟩ := all2_1 ha
    exact snd W h1 h2
  soundT h := nomatch h
/-- of two parts -/
def op2S (sh : Ck → Scope → Expr → Option (Expr × Expr)) (g : D → D → TS → QD → Prop) (gm : ∀ {x y : D} {T : TS} {Q Q' : QD}, (∀ d T', Q d T' → Q' d T') → g x y T Q → g x y T Q')
    (snd : ∀ {Ω : Wd} {C : Ck} {F : List Ct} {k : Nat} {sc : Scope} {e x y : Expr} {m n : VT}, Wr Ω C F k → sh C sc e = some (x, y) → SE Ω C k sc x m → SE Ω C k sc y n → SE Ω C k sc e fun G T Q X => m G T (fun d T1 => n G T1 (fun d2 T2 => g d d2 T2 Q) X) X) : OpS where
  shape C sc e := (sh C sc e).map fun x => [x.1, x.2]
  sem _ ds T Q _ := match ds with | [x, y] => g x y T Q | _ => False
  tst := false
  mono h _ w := by
    split at w
    · exact gm h w
    · exact w
  sound W hs ha := by
    obtain ⟨x, y, h1, rfl⟩ := map2 hs
    obtain ⟨m, n, rfl, h2, h3⟩ := all2_2 ha
    exact snd W h1 h2 h3
  soundT h := nomatch h
/-- of any parts -/
def opNS (sh : Ck → Scope → Expr → Option (List Expr)) (g : List D → TS → QD → Prop) (gm : ∀ {ds : List D} {T : TS} {Q Q' : QD}, (∀ d T', Q d T' → Q' d T') → g ds T Q → g ds T Q')
    (snd : ∀ {Ω : Wd} {C : Ck} {F : List Ct} {k : Nat} {sc : Scope} {e : Expr} {es : List Expr} {ms : List VT}, Wr Ω C F k → sh C sc e = some es → All2 (SE Ω C k sc) es ms → SE Ω C k sc e fun G T Q X => seqM ms G T (fun ds T1 => g ds T1 Q) X) : OpS where
  shape := sh
  sem _ ds T Q _ := g ds T Q
  tst := false
  mono h _ w := gm h w
  sound W hs ha := snd W hs ha
  soundT h := nomatch h
/-! ### constants -/
mutual
def eqD : D → D → Bool
  | .non, .non => true
  | .bl a, .bl b => a == b
  | .int a, .int b => a == b
  | .str a, .str b => decide (a = b)
  | .tup a, .tup b => eqDL a b
  | _, _ => false
def eqDL : List D → List D → Bool
  | [], [] => true
  | a :: as, b :: bs => eqD a b && eqDL as bs
  | _, _ => false
end
mutual
theorem eqD_ok : ∀ {a b : D}, eqD a b = true → a = b
  | .non, b, h => by cases b <;> first | rfl | (simp [eqD] at h)
  | .bl _, b, h => by cases b <;> simp_all [eqD]
  | .int _, b, h => by cases b <;> simp_all [eqD]
  | .str _, b, h => by cases b <;> simp_all [eqD]
  | .tup x, b, h => by
    cases b <;> simp only [eqD, Bool.false_eq_true] at h
    rw [eqDL_ok h]
  | .lst _, b, h => by cases b <;> simp [eqD] at h
  | .scr _, b, h => by cases b <;> simp [eqD] at h
  | .bag, b, h => by cases b <;> simp [eqD] at h
  | .ob _, b, h => by cases b <;> simp [eqD] at h
theorem eqDL_ok : ∀ {a b : List D}, eqDL a b = true → a = b
  | [], [], _ => rfl
  | [], _ :: _, h => by simp [eqDL] at h
  | _ :: _, [], h => by simp [eqDL] at h
  | x :: xs, y :: ys, h => by
    simp only [eqDL, Bool.and_eq_true] at h
    rw [eqD_ok h.1, eqDL_ok h.2]
end
/-- a written constant, or a name of the module -/
def kSh (d : D) (C : Ck) (sc : Scope) (e : Expr) : Bool := match asConst e with
  | some c => (match constD c with | some d' => sameK d d' | none => false)
  | none => match asName e with
    | some x => glb sc x && !(x == ("__debug__" : Str)) && (match C.gs.lookup x with | some d' => eqD d d' | none => false)
    | none => false
def kS (d : D) : OpS where
  shape C sc e := if kSh d C sc e then some [] else none
  sem _ ds T Q _ := match ds with | [] => Q d T | _ => False
  tst := false
  mono h _ w := by
    split at w
    · exact h _ _ w
    · exact w
  sound {Ω C F k sc e es ms} W hs ha := by
    split at hs
    · rename_i h
      cases hs
      cases ha
      have fin : ∀ (v : V), (∀ Bg M H, Rep Ω.K Bg M H v d) → TEok Ω (fun _ => tC v) fun (G : GV) T Q X => seqM [] G T (fun ds T1 => match ds with | [] => Q d T1 | _ => False) X := fun v hv Bg M T H σ G Qd Xq Q W en w post px => post.here en.sm (hv _ _ _) w
      unfold kSh at h
      split at h
      · rename_i c hc
        obtain ⟨j, p, rfl⟩ := asConst_ok hc
        split at h
        · rename_i d' hd
          obtain rfl := sameK_ok h
          cases c <;> simp only [constD] at hd <;> first
            | (cases hd; done)
            | skip
          · cases hd
            exact ⟨_, fun X W g tk => pe_non, fin _ fun _ _ _ => .non⟩
          · cases hd
            exact ⟨_, fun X W g tk => pe_bl, fin _ fun _ _ _ => .bl _⟩
          · cases hd
            exact ⟨_, fun X W g tk => pe_int, fin _ fun _ _ _ => .int _⟩
          · cases hd
            exact ⟨_, fun X W g tk => pe_str, fin _ fun _ _ _ => .str _⟩
        · cases h
      · split at h
        · rename_i x hx
          obtain ⟨p, rfl⟩ := asName_ok hx
          simp only [Bool.and_eq_true, Bool.not_eq_true'] at h
          obtain ⟨⟨hg, hd⟩, h⟩ := h
          split at h
          · rename_i d' hl
            obtain rfl := eqD_ok h
            obtain ⟨u, v, h1, h2, h3⟩ := W.gs x _ hl
            exact ⟨_, fun X W g tk => pe_glob (g.gl hg) (by rw [g.eM]; exact h1) h2 hd, fin v h3⟩
          · cases h
        · cases h
    · cases hs
  soundT h := nomatch h
/-! ### operators -/
def binS (o : BO) : OpS := op2S (fun _ _ e => match asBin e with | some (x, p, y) => if opN p == opN (boOf o) then some (x, y) else none | none => none) (fun x y T Q => OC.bop o x y fun d => Q d T) (fun h w => bop_mono (fun d q => h d _ q) w) (by
  intro Ω C F k sc e x y m n W hs h1 h2
  split at hs
  · rename_i x' p y' hx
    split at hs
    · rename_i ho
      cases hs
      obtain ⟨ps, rfl⟩ := asBin_ok hx
      obtain rfl := op_of ho
      obtain ⟨ta, a1, a2⟩ := h1
      obtain ⟨tb, b1, b2⟩ := h2
      exact ⟨_, fun X W g tk => pe_op (opr_of X o) (a1 X W g tk) (b1 X W g tk), ok_op2 (rok2_up (OC.rok_of o)) a2 b2⟩
    · cases hs
  · cases hs)
/-- lists put behind one another -/
def catS (own : Bool) : OpS := op2S (fun _ _ e => match asBin e with | some (x, p, y) => if opN p == opN (boOf .add) then some (x, y) else none | none => none) (fun x y T Q => ∃ xs ys, viewL T x = some xs ∧ viewL T y = some ys ∧ xs.length + ys.length ≤ sizeLine ∧ mkL own (xs ++ ys) T Q)
  (fun h ⟨xs, ys, a, b, c, w⟩ => ⟨xs, ys, a, b, c, mkL_mono h w⟩) (by
  intro Ω C F k sc e x y m n W hs h1 h2
  split at hs
  · rename_i x' p y' hx
    split at hs
    · rename_i ho
      cases hs
      obtain ⟨ps, rfl⟩ := asBin_ok hx
      obtain rfl := op_of (o := .add) ho
      obtain ⟨ta, a1, a2⟩ := h1
      obtain ⟨tb, b1, b2⟩ := h2
      refine ⟨_, fun X W g tk => pe_op (opr_of X .add) (a1 X W g tk) (b1 X W g tk), ok_op2 (fun Bg M T H x y dx dy Qd Q s rx ry w post => ?_) a2 b2⟩
      obtain ⟨xs, ys, v1, v2, hl, w⟩ := w
      obtain ⟨p, vs, rfl, hp, rp⟩ := view_ok s v1 rx
      obtain ⟨q, ws, rfl, hq, rq⟩ := view_ok s v2 ry
      exact .inr ⟨p, q, vs, ws, rfl, rfl, hp, hq, by rw [rp.len, rq.len]; exact hl, fun a ha => new_lst s (rp.append rq) w post ha⟩
    · cases hs
  · cases hs)
def negS : OpS := op1S (fun _ _ e => match asUn e with | some (.USub, x) => some x | _ => none) (fun x T Q => match x with | .int i => Q (.int (-i)) T | _ => False) (fun h w => by
    split at w
    · exact h _ _ w
    · exact w) (by
  intro Ω C F k sc e x m W hs h1
  split at hs
  · rename_i y hx
    cases hs
    obtain ⟨ps, rfl⟩ := asUn_ok hx
    obtain ⟨ta, a1, a2⟩ := h1
    refine ⟨_, fun X W g tk => pe_un un_neg (a1 X W g tk), ok_op1 (fun Bg M T H x dx Qd Q s rx w post => ?_) a2⟩
    cases dx with
    | int i => exact ⟨i, rx.int_inv, post.here s (.int _) w⟩
    | _ => exact w.elim
  · cases hs)
/-- what is compared by its content -/
def cmpD (o : CO) (x y : D) (T : TS) (Q : QD) : Prop :=
  match o with
  | .isn => (match y with
    | .non => (match x with | .non => Q (.bl true) T | .bag => False | .scr _ => False | _ => Q (.bl false) T)
    | _ => False)
  | .isnot => (match y with
    | .non => (match x with | .non => Q (.bl false) T | .bag => False | .scr _ => False | _ => Q (.bl true) T)
    | _ => False)
  | .eq => ∃ p q, Rsv T x p ∧ Rsv T y q ∧ OC.cop .eq p q fun d => Q d T
  | .ne => ∃ p q, Rsv T x p ∧ Rsv T y q ∧ OC.cop .ne p q fun d => Q d T
  | o => OC.cop o x y fun d => Q d T
theorem cmpD_mono {o : CO} {x y : D} {T : TS} {Q Q' : QD} (h : ∀ d T', Q d T' → Q' d T') (w : cmpD o x y T Q) : cmpD o x y T Q' := by
  cases o with
  | eq => obtain ⟨p, q, a, b, c⟩ := w; exact ⟨p, q, a, b, cop_mono (fun d => h d _) c⟩
  | ne => obtain ⟨p, q, a, b, c⟩ := w; exact ⟨p, q, a, b, cop_mono (fun d => h d _) c⟩
  | isn => cases y <;> cases x <;> first | exact h _ _ w | exact w
  | isnot => cases y <;> cases x <;> first | exact h _ _ w | exact w
  | lt => exact cop_mono (o := .lt) (x := x) (y := y) (P := fun d => Q d T) (fun d => h d _) w
  | le => exact cop_mono (o := .le) (x := x) (y := y) (P := fun d => Q d T) (fun d => h d _) w
  | gt => exact cop_mono (o := .gt) (x := x) (y := y) (P := fun d => Q d T) (fun d => h d _) w
  | ge => exact cop_mono (o := .ge) (x := x) (y := y) (P := fun d => Q d T) (fun d => h d _) w
  | inn => exact cop_mono (o := .inn) (x := x) (y := y) (P := fun d => Q d T) (fun d => h d _) w
  | notin => exact cop_mono (o := .notin) (x := x) (y := y) (P := fun d => Q d T) (fun d => h d _) w
theorem roc_of {Ω : Wd} : ∀ o : CO, ROk2 Ω (OC.rCo Ω.K o) (cmpD o)
  | .eq => fun Bg M T H x y dx dy Qd Q s rx ry g post => by
    obtain ⟨p, q, h1, h2, g⟩ := g
    have gen : (OC.eqOk p ∧ OC.eqOk q) ∧ Qd (.bl (PyData.eqv p.py q.py)) T → OC.rEqA Ω.K x y H Q := fun g => .inr ⟨p.py, q.py, h1.dp s rx, h2.dp s ry, g.1.1.2, g.1.2.2, post.here s (.bl _) g.2⟩
    cases h1 <;> cases h2 <;> first
      | exact gen g
      | exact .inl ⟨by rw [rx.int_inv, ry.int_inv]; rfl, by rw [rx.int_inv, ry.int_inv, OC.dec_int]; exact post.here s (.bl _) g⟩
      | exact .inl ⟨by rw [rx.str_inv, ry.str_inv]; rfl, by rw [rx.str_inv, ry.str_inv, OC.dec_str]; exact post.here s (.bl _) g⟩
  | .ne => fun Bg M T H x y dx dy Qd Q s rx ry g post => by
    obtain ⟨p, q, h1, h2, g⟩ := g
    have gen : (OC.eqOk p ∧ OC.eqOk q) ∧ Qd (.bl (!PyData.eqv p.py q.py)) T → OC.rNeA Ω.K x y H Q := fun g => .inr ⟨p.py, q.py, h1.dp s rx, h2.dp s ry, g.1.1.2, g.1.2.2, post.here s (.bl _) g.2⟩
    cases h1 <;> cases h2 <;> first
      | exact gen g
      | exact .inl ⟨by rw [rx.int_inv, ry.int_inv]; rfl, by rw [rx.int_inv, ry.int_inv, OC.dec_int]; exact post.here s (.bl _) g⟩
      | exact .inl ⟨by rw [rx.str_inv, ry.str_inv]; rfl, by rw [rx.str_inv, ry.str_inv, OC.dec_str]; exact post.here s (.bl _) g⟩
  | .isn => fun Bg M T H x y dx dy Qd Q s rx ry g post => by
    cases dy <;> cases dx <;> first
      | exact False.elim g
      | exact ⟨ry.non_inv, by rw [isn_dec rx (fun z => by cases z)]; exact post.here s (.bl _) g⟩
      | exact ⟨ry.non_inv, by rw [rx.non_inv]; exact post.here s (.bl _) g⟩
  | .isnot => fun Bg M T H x y dx dy Qd Q s rx ry g post => by
    cases dy <;> cases dx <;> first
      | exact False.elim g
      | exact ⟨ry.non_inv, by rw [isn_dec rx (fun z => by cases z)]; exact post.here s (.bl _) g⟩
      | exact ⟨ry.non_inv, by rw [rx.non_inv]; exact post.here s (.bl _) g⟩
  | .lt => rok2_up (OC.roc_of .lt)
  | .le => rok2_up (OC.roc_of .le)
  | .gt => rok2_up (OC.roc_of .gt)
  | .ge => rok2_up (OC.roc_of .ge)
  | .inn => rok2_up (OC.roc_of .inn)
  | .notin => rok2_up (OC.roc_of .notin)
def cmpSh (o : CO) (e : Expr) : Option (Expr × Expr) := match asCmp e with
  | some (x, [p], [y]) => if cmpN p == cmpN (coOf o) && !isSet y then some (x, y) else none
  | _ => none
theorem cmpSh_ok {o : CO} {e x y : Expr} (h : cmpSh o e = some (x, y)) : ∃ ps, e = .Compare x [coOf o] [y] ps ∧ behindInMarks (coOf o) y = false := by
  unfold cmpSh at h
  split at h
  · rename_i x' p y' hx
    split at h
    · rename_i ho
      cases h
      simp only [Bool.and_eq_true, Bool.not_eq_true'] at ho
      obtain ⟨ps, rfl⟩ := asCmp_ok hx
      obtain rfl := cmp_of ho.1
      exact ⟨ps, rfl, pc_mark ho.2⟩
    · cases h
  · cases h
theorem cmp_sound {o : CO} {Ω : Wd} {C : Ck} {k : Nat} {sc : Scope} {e x y : Expr} {m n : VT} (hs : cmpSh o e = some (x, y)) (h1 : SE Ω C k sc x m) (h2 : SE Ω C k sc y n) :
    (SE Ω C k sc e fun G T Q X => m G T (fun d T1 => n G T1 (fun d2 T2 => cmpD o d d2 T2 Q) X) X) ∧ ST Ω C k sc e fun G T Q X => m G T (fun d T1 => n G T1 (fun d2 T2 => cmpD o d d2 T2 Q) X) X := by
  obtain ⟨ps, rfl, hm⟩ := cmpSh_ok hs
  obtain ⟨ta, a1, a2⟩ := h1
  obtain ⟨tb, b1, b2⟩ := h2
  have hk := ok_op2 (roc_of (Ω := Ω) o) a2 b2
  refine ⟨⟨_, fun X W g tk => ?_, hk⟩, ⟨_, fun X W g tk => ⟨?_, fun o l p he => by cases he⟩, ok_testR hk⟩⟩
  · have := opc_of X g.hu o
    rw [g.eK] at this
    exact pe_cmpR this (a1 X W g tk) (b1 X W g tk) hm
  · have := opc_of X g.hu o
    rw [g.eK] at this
    exact pt_cmpR this (a1 X W g tk) (b1 X W g tk) hm
def cmpS (o : CO) : OpS where
  shape C sc e := (cmpSh o e).map fun x => [x.1, x.2]
  sem _ ds T Q _ := match ds with | [x, y] => cmpD o x y T Q | _ => False
  tst := true
  mono h _ w := by
    split at w
    · exact cmpD_mono h w
    · exact w
  sound W hs ha := by
    obtain ⟨x, y, h1, rfl⟩ := map2 hs
    obtain ⟨m, n, rfl, h2, h3⟩ := all2_2 ha
    exact (cmp_sound h1 h2 h3).1
  soundT _ := by
    intro Ω C F k sc e es ms W hs ha
    obtain ⟨x, y, h1, rfl⟩ := map2 hs
    obtain ⟨m, n, rfl, h2, h3⟩ := all2_2 ha
    exact (cmp_sound h1 h2 h3).2
end NX
set_option Elab.async false
set_option linter.all false
set_option maxRecDepth 100000
set_option maxHeartbeats 4000000
namespace NX
open PySem PySem.Spec PyProof.Rows L2 OC
/-! ### displays -/
def tupS : OpS := opNS (fun _ _ e => match asTup e with | some es => if decide (es.length ≤ 1000) && nstL es then some es else none | none => none) (fun ds T Q => Q (.tup ds) T) (fun h w => h _ _ w) (by
  intro Ω C F k sc e es ms W hs ha
  split at hs
  · rename_i es' he
    split at hs
    · rename_i hl
      cases hs
      simp only [Bool.and_eq_true, decide_eq_true_eq] at hl
      obtain ⟨j, ps, rfl⟩ := asTup_ok he
      obtain ⟨t, h1, h2, h3⟩ := sa_of ha hl.2
      refine ⟨fun W => tTup (t W), fun X W g tk => pe_tup (h1 X W g tk), fun Bg M T H σ G Qd Xq Q W en w post px => ?_⟩
      refine h2 _ _ _ _ _ _ _ _ _ _ en w (fun ds vs B1 T1 H1 e1 s1 rl hn w1 => ⟨size1000 (by rw [rl.len, hn]; exact hl.1), fun p hp => ?_⟩) px
      exact new_tup s1 rl w1 (post.ext e1) hp
    · cases hs
  · cases hs)
def lstS (own : Bool) : OpS := opNS (fun _ _ e => match asLst e with | some es => if decide (es.length ≤ 1000) && nstL es then some es else none | none => none) (fun ds T Q => mkL own ds T Q) (fun h w => mkL_mono h w) (by
  intro Ω C F k sc e es ms W hs ha
  split at hs
  · rename_i es' he
    split at hs
    · rename_i hl
      cases hs
      simp only [Bool.and_eq_true, decide_eq_true_eq] at hl
      obtain ⟨ps, rfl⟩ := asLst_ok he
      obtain ⟨t, h1, h2, h3⟩ := sa_of ha hl.2
      refine ⟨fun W => tLst (t W), fun X W g tk => pe_lst (h1 X W g tk), fun Bg M T H σ G Qd Xq Q W en w post px => ?_⟩
      refine h2 _ _ _ _ _ _ _ _ _ _ en w (fun ds vs B1 T1 H1 e1 s1 rl hn w1 => ⟨size1000 (by rw [rl.len, hn]; exact hl.1), fun p hp => ?_⟩) px
      exact new_lst s1 rl w1 (post.ext e1) hp
    · cases hs
  · cases hs)
/-- the law's source of draws is made -/
def mkbagS : OpS := opNS (fun _ _ e => match asLst e with | some [x, y] => if nst x && nst y then some [x, y] else none | _ => none) (fun ds T Q => match ds with | [.int i, .int j] => (0 ≤ i ∧ 0 ≤ j ∧ j < 2 ^ 32) ∧ Q .bag T | _ => False) (fun h w => by
    split at w
    · exact ⟨w.1, h _ _ w.2⟩
    · exact w) (by
  intro Ω C F k sc e es ms W hs ha
  split at hs
  · rename_i x y he
    split at hs
    · rename_i hn
      cases hs
      obtain ⟨ps, rfl⟩ := asLst_ok he
      obtain ⟨t, h1, h2, h3⟩ := sa_of ha (by simp only [Bool.and_eq_true] at hn; show (nst x && (nst y && true)) = true; rw [hn.1, hn.2]; rfl)
      refine ⟨fun W => tLst (t W), fun X W g tk => pe_lst (h1 X W g tk), fun Bg M T H σ G Qd Xq Q W en w post px => ?_⟩
      refine h2 _ _ _ _ _ _ _ _ _ _ en w (fun ds vs B1 T1 H1 e1 s1 rl hn w1 => ?_) px
      split at w1
      · rename_i i j
        obtain ⟨v, u, rfl, r1, r2⟩ := OC.two_inv rl
        obtain ⟨⟨hi, hj, hj2⟩, w1⟩ := w1
        refine ⟨size1000 (by show 2 ≤ 1000; decide), fun p hp => ?_⟩
        rw [r1.int_inv, r2.int_inv]
        have x : OC.Ext B1 H1 (fun q => B1 q ∨ q = p) (L2.upd H1 p (.lst [.int i, .int j])) := ⟨fun q h => .inl h, fun q h n => by
          rcases h with h | h
          · exact absurd h n
          · rw [h]; exact hp, fun q o n h => by rw [upd_ne (ne_of_none h hp)]; exact h, fun q h => by
          rcases h with h | h
          · obtain ⟨L, M', e, r⟩ := s1.bags q h
            exact ⟨L, M', by rw [upd_ne (ne_of_none e hp)]; exact e, r⟩
          · exact ⟨i, j, by rw [h]; exact upd_same, hi, hj, hj2⟩⟩
        obtain ⟨x3, s3⟩ := lift_ext x s1
        exact post _ _ _ _ _ (e1.trans x3) s3 (.bag (.inr rfl)) w1
      · exact w1.elim
    · cases hs
  · cases hs)
/-! ### subscripts -/
def ixD (x y : D) (T : TS) (Q : QD) : Prop := match x, y with
  | .ob a, .int i => ∃ xs d, T a = some (.lst xs) ∧ atI xs i = some d ∧ Q d T
  | x, y => OC.ixop x y fun d => Q d T
theorem ixD_mono {x y : D} {T : TS} {Q Q' : QD} (h : ∀ d T', Q d T' → Q' d T') (w : ixD x y T Q) : ixD x y T Q' := by
  unfold ixD at w ⊢
  split
  · obtain ⟨xs, d, a, b, c⟩ := w
    exact ⟨xs, d, a, b, h _ _ c⟩
  · rename_i hne
    split at w
    · exact (hne _ _ rfl rfl).elim
    · exact ixop_mono (fun d => h d _) w
theorem rok_ixD {Ω : Wd} : ROk2 Ω (rIx Ω.K) ixD := fun Bg M T H x y dx dy Qd Q s rx ry w post => by
  unfold ixD at w
  split at w
  · obtain ⟨xs, d, h1, h2, w⟩ := w
    cases rx with
    | ob a =>
      obtain ⟨vs, h3, rl⟩ := s.ob _ _ h1
      obtain ⟨v, h4, h5⟩ := rl.at' h2
      exact .inl ⟨_, vs, _, v, rfl, ry.int_inv, .inl (.inl h3), h4, post.here s h5 w⟩
  · exact rok2_up OC.rok_ix _ _ _ _ _ _ _ _ _ _ s rx ry w post
def ixS : OpS := op2S (fun _ _ e => match asSub e with | some (x, y) => if !isSlc y then some (x, y) else none | none => none) ixD ixD_mono (by
  intro Ω C F k sc e x y m n W hs h1 h2
  split at hs
  · rename_i x' y' hx
    split at hs
    · rename_i ho
      cases hs
      obtain ⟨ps, rfl⟩ := asSub_ok hx
      obtain ⟨ta, a1, a2⟩ := h1
      obtain ⟨tb, b1, b2⟩ := h2
      refine ⟨_, fun X W g tk => ?_, ok_op2 rok_ixD a2 b2⟩
      have := ix_seq (X := X)
      rw [g.eK] at this
      exact pe_ix this (a1 X W g tk) (b1 X W g tk) (plain_ix (by simpa using ho))
    · cases hs
  · cases hs)
def ixnD (n : Nat) (x : D) (T : TS) (Q : QD) : Prop := match x with
  | .ob a => ∃ xs d, T a = some (.lst xs) ∧ xs[n]? = some d ∧ Q d T
  | x => OC.ixnop x n fun d => Q d T
theorem ixnD_mono {n : Nat} {x : D} {T : TS} {Q Q' : QD} (h : ∀ d T', Q d T' → Q' d T') (w : ixnD n x T Q) : ixnD n x T Q' := by
  cases x with
  | ob a =>
    obtain ⟨xs, d, a, b, c⟩ := w
    exact ⟨xs, d, a, b, h _ _ c⟩
  | non => exact ixnop_mono (n := n) (x := .non) (P := fun d => Q d T) (fun d => h d _) w
  | bl b => exact ixnop_mono (n := n) (x := .bl b) (P := fun d => Q d T) (fun d => h d _) w
  | int b => exact ixnop_mono (n := n) (x := .int b) (P := fun d => Q d T) (fun d => h d _) w
  | str b => exact ixnop_mono (n := n) (x := .str b) (P := fun d => Q d T) (fun d => h d _) w
  | tup b => exact ixnop_mono (n := n) (x := .tup b) (P := fun d => Q d T) (fun d => h d _) w
  | lst b => exact ixnop_mono (n := n) (x := .lst b) (P := fun d => Q d T) (fun d => h d _) w
  | scr b => exact ixnop_mono (n := n) (x := .scr b) (P := fun d => Q d T) (fun d => h d _) w
  | bag => exact ixnop_mono (n := n) (x := .bag) (P := fun d => Q d T) (fun d => h d _) w
def ixnS (n : Nat) : OpS := op1S (fun _ _ e => match asSub e with
    | some (x, y) => (match asConst y with | some (.int i) => if i == (n : Int) then some x else none | _ => none)
    | none => none) (ixnD n) ixnD_mono (by
  intro Ω C F k sc e x m W hs h1
  split at hs
  · rename_i x' y hx
    split at hs
    · rename_i i hi
      split at hs
      · rename_i he
        cases hs
        obtain ⟨ps, rfl⟩ := asSub_ok hx
        obtain ⟨j, p, rfl⟩ := asConst_ok hi
        have e : i = (n : Int) := by simpa using he
        subst e
        obtain ⟨ta, a1, a2⟩ := h1
        refine ⟨fun W => tOp (rIx Ω.K) (ta W) (tC (.int (n : Int))), fun X W g tk => ?_, fun Bg M T H σ G Qd Xq Q W en w post px => ?_⟩
        · have := ix_seq (X := X)
          rw [g.eK] at this
          exact pe_ix this (a1 X W g tk) pe_int (plain_ix rfl)
        · refine a2 _ _ _ _ _ _ _ _ _ _ en w (fun x vx B1 T1 H1 e1 s1 rx w1 => ?_) px
          have post := post.ext e1
          show rIx Ω.K vx (.int (n : Int)) H1 Q
          cases x <;> first
            | exact False.elim w1
            | skip
          · simp only [ixnD, ixnop] at w1
            split at w1
            · rename_i d hd
              obtain ⟨p, vs, rfl, hs, rl⟩ := rx.tup_inv
              obtain ⟨v, h1, h2⟩ := rl.get hd
              exact .inr (.inl ⟨p, vs, _, v, rfl, rfl, hs, atI_nat h1, post.here s1 h2 w1⟩)
            · exact w1.elim
          · simp only [ixnD, ixnop] at w1
            split at w1
            · rename_i d hd
              obtain ⟨p, vs, rfl, hs, _, _, rl⟩ := rx.lst_inv
              obtain ⟨v, h1, h2⟩ := rl.get hd
              exact .inl ⟨p, vs, _, v, rfl, rfl, .inl (.inl hs), atI_nat h1, post.here s1 h2 w1⟩
            · exact w1.elim
          · obtain ⟨p, rfl, hb⟩ := rx.bag_inv
            obtain ⟨L, M', hl, h1, h2, h3⟩ := s1.bags p hb
            match n, w1 with
            | 0, w1 => exact .inl ⟨p, _, _, .int L, rfl, rfl, .inl (.inl hl), rfl, post.here s1 (.int _) (w1 L h1)⟩
            | 1, w1 => exact .inl ⟨p, _, _, .int M', rfl, rfl, .inl (.inl hl), rfl, post.here s1 (.int _) (w1 M' h2 h3)⟩
            | _ + 2, w1 => exact w1.elim
          · obtain ⟨xs, d, q1, q2, w1⟩ := w1
            cases rx with
            | ob a =>
              obtain ⟨vs, h3, rl⟩ := s1.ob _ _ q1
              obtain ⟨v, h4, h5⟩ := rl.get q2
              exact .inl ⟨_, vs, _, v, rfl, rfl, .inl (.inl h3), atI_nat h4, post.here s1 h5 w1⟩
      · cases hs
    · cases hs
  · cases hs)
/-- what a slice's reading keeps -/
def SlOk (r : PySem.W.Frag → V → Option Int → Option Int → Hp → VK → Prop) (g : D → Option Int → Option Int → TS → QD → Prop) : Prop := ∀ (Ω : Wd) (Bg M : AP) (T : TS) (H : Hp) (x : V) (dx : D) (p q : Option Int) (Qd : QD) (Q : VK), Sm Ω.K Ω.mg Bg M T H → Rep Ω.K Bg (lv T M) H x dx → g dx p q T Qd → Post Ω Bg M T H Qd Q → r Ω.K x p q H Q
structure SlK where
  r : PySem.W.Frag → V → Option Int → Option Int → Hp → VK → Prop
  g : D → Option Int → Option Int → TS → QD → Prop
  gm : ∀ {x : D} {p q : Option Int} {T : TS} {Q Q' : QD}, (∀ d T', Q d T' → Q' d T') → g x p q T Q → g x p q T Q'
  hS : ∀ X : Cx, SlR X (r X.K)
  hr : SlOk r g
def asSl (e : Expr) : Option (Expr × Option Expr × Option Expr) := match asSub e with
  | some (x, y) => (match asSlc y with
    | some (l, h) => some (x, l, h)
    | none => none)
  | none => none
theorem asSl_ok {e x : Expr} {l h : Option Expr} (hs : asSl e = some (x, l, h)) : ∃ p q, e = .Subscript x (.Slice l h none p) q := by
  unfold asSl at hs
  split at hs
  · rename_i x' y hx
    split at hs
    · rename_i l' h' hy
      cases hs
      obtain ⟨ps, rfl⟩ := asSub_ok hx
      obtain ⟨p, rfl⟩ := asSlc_ok hy
      exact ⟨_, _, rfl⟩
    · cases hs
  · cases hs
/-- x[i:] with a written or reckoned i -/
def slLS (z : SlK) : OpS := op2S (fun _ _ e => match asSl e with | some (x, some l, none) => some (x, l) | _ => none) (fun x y T Q => match y with | .int i => z.g x (some i) none T Q | _ => False) (fun h w => by
    split at w
    · exact z.gm h w
    · exact w) (by
  intro Ω C F k sc e x y m n W hs h1 h2
  split at hs
  · rename_i x' l hx
    cases hs
    obtain ⟨p, q, rfl⟩ := asSl_ok hx
    obtain ⟨ta, a1, a2⟩ := h1
    obtain ⟨tb, b1, b2⟩ := h2
    refine ⟨fun W => tSl (z.r Ω.K) (ta W) (tPart (tb W)) tNoPart, fun X W g tk => ?_, fun Bg M T H σ G Qd Xq Q W en w post px => ?_⟩
    · have := z.hS X
      rw [g.eK] at this
      exact pe_slice this (a1 X W g tk) (po_some (b1 X W g tk)) po_none
    · refine a2 _ _ _ _ _ _ _ _ _ _ en w (fun x vx B1 T1 H1 e1 s1 rx w1 => ?_) px
      refine b2 _ _ _ _ _ _ _ _ _ _ (en.ext e1 s1) w1 (fun y vy B2 T2 H2 e2 s2 ry w2 => ?_) (px.ext e1)
      cases y with
      | int i => exact ⟨i, ry.int_inv, z.hr _ _ _ _ _ _ _ _ _ _ _ s2 (rep_ext e2 rx) w2 (post.ext (e1.trans e2))⟩
      | _ => exact w2.elim
  · cases hs)
/-- x[:j] -/
def slHS (z : SlK) : OpS := op2S (fun _ _ e => match asSl e with | some (x, none, some l) => some (x, l) | _ => none) (fun x y T Q => match y with | .int i => z.g x none (some i) T Q | _ => False) (fun h w => by
    split at w
    · exact z.gm h w
    · exact w) (by
  intro Ω C F k sc e x y m n W hs h1 h2
  split at hs
  · rename_i x' l hx
    cases hs
    obtain ⟨p, q, rfl⟩ := asSl_ok hx
    obtain ⟨ta, a1, a2⟩ := h1
    obtain ⟨tb, b1, b2⟩ := h2
    refine ⟨fun W => tSl (z.r Ω.K) (ta W) tNoPart (tPart (tb W)), fun X W g tk => ?_, fun Bg M T H σ G Qd Xq Q W en w post px => ?_⟩
    · have := z.hS X
      rw [g.eK] at this
      exact pe_slice this (a1 X W g tk) po_none (po_some (b1 X W g tk))
    · refine a2 _ _ _ _ _ _ _ _ _ _ en w (fun x vx B1 T1 H1 e1 s1 rx w1 => ?_) px
      refine b2 _ _ _ _ _ _ _ _ _ _ (en.ext e1 s1) w1 (fun y vy B2 T2 H2 e2 s2 ry w2 => ?_) (px.ext e1)
      cases y with
      | int i => exact ⟨i, ry.int_inv, z.hr _ _ _ _ _ _ _ _ _ _ _ s2 (rep_ext e2 rx) w2 (post.ext (e1.trans e2))⟩
      | _ => exact w2.elim
  · cases hs)
/-- x[i:j], i written -/
def slKS (i : Nat) (z : SlK) : OpS := op2S (fun _ _ e => match asSl e with
    | some (x, some l, some h) => (match asConst l with | some (.int j) => if j == (i : Int) then some (x, h) else none | _ => none)
    | _ => none) (fun x y T Q => match y with | .int j => z.g x (some (i : Int)) (some j) T Q | _ => False) (fun h w => by
    split at w
    · exact z.gm h w
    · exact w) (by
  intro Ω C F k sc e x y m n W hs h1 h2
  split at hs
  · rename_i x' l h hx
    split at hs
    · rename_i j hj
      split at hs
      · rename_i he
        cases hs
        obtain ⟨p, q, rfl⟩ := asSl_ok hx
        obtain ⟨u, v, rfl⟩ := asConst_ok hj
        have e : j = (i : Int) := by simpa using he
        subst e
        obtain ⟨ta, a1, a2⟩ := h1
        obtain ⟨tb, b1, b2⟩ := h2
        refine ⟨fun W => tSl (z.r Ω.K) (ta W) (tPart (tC (.int (i : Int)))) (tPart (tb W)), fun X W g tk => ?_, fun Bg M T H σ G Qd Xq Q W en w post px => ?_⟩
        · have := z.hS X
          rw [g.eK] at this
          exact pe_slice this (a1 X W g tk) (po_some pe_int) (po_some (b1 X W g tk))
        · refine a2 _ _ _ _ _ _ _ _ _ _ en w (fun x vx B1 T1 H1 e1 s1 rx w1 => ⟨_, rfl, ?_⟩) px
          refine b2 _ _ _ _ _ _ _ _ _ _ (en.ext e1 s1) w1 (fun y vy B2 T2 H2 e2 s2 ry w2 => ?_) (px.ext e1)
          cases y with
          | int i => exact ⟨i, ry.int_inv, z.hr _ _ _ _ _ _ _ _ _ _ _ s2 (rep_ext e2 rx) w2 (post.ext (e1.trans e2))⟩
          | _ => exact w2.elim
      · cases hs
    · cases hs
  · cases hs)
/-- of lists -/
def slL (own : Bool) : SlK where
  r := rSlL
  g x p q T Q := ∃ xs, viewL T x = some xs ∧ mkL own (cutD xs p q) T Q
  gm h w := by
    obtain ⟨xs, a, b⟩ := w
    exact ⟨xs, a, mkL_mono h b⟩
  hS X := sl_list
  hr := fun Ω Bg M T H x dx p q Qd Q s rx ⟨xs, hv, w⟩ post => by
    obtain ⟨a, vs, rfl, ha, rl⟩ := view_ok s hv rx
    exact ⟨a, vs, rfl, .inl (.inl ha), fun p hp => new_lst s (rl.cut _ _) w post hp⟩
/-! ### calls -/
section
variable {X : Cx} {k : Nat} {f : Addr} {fd : FuncData} {ps : List Str} {sp : Sp} {x : Str} {p pos : Pos} {e : Expr} {es : List Expr} {t : TA} {W : WX}
abbrev wdX (X : Cx) : Wd := ⟨X.prog, X.w, X.K, X.mg, X.base⟩
def tCallW (sp : Sp) (W : WX) (t : TA) : TE := fun σ H Q => t σ H fun vs H1 => sp vs H1 Q (WE W σ)
theorem g_runW {pins : List (Addr × Obj)} {σ : L2.St} {H : Hp} {s : Shared} {Q : VK} {us : List Value} {vs : List V} (F : GFn (wdX X) k f fd ps sp) (hr : Room k X.A) (hg : X.A.guards = some []) (hb : Binds X.K fd ps []) (tk : Takes X W)
    (I : Inv X pins σ H s) (r : Vals vs us) (h : sp vs H Q (WE W σ)) : wpAny (model X.prog X.w) X.A (call (.ref f) us) (EP X pins σ Q) X.xe s := by
  have hl : us.length = ps.length := by rw [← r.length]; exact F.len _ _ _ _ h
  have hb' := hb s us I.kIn (by rw [List.append_nil]; exact hl)
  rw [List.append_nil] at hb'
  refine wpAny_call (codeAny_mono (F.run X.A X.stack s H ⟨us, []⟩ us vs Q (WE W σ) hr hg I.env0 hb' r h) fun r s' hq => ?_)
  cases r with
  | error e => exact passAt tk σ pins H s e s' I hq
  | ok fl =>
    cases fl with
    | ret u => exact I.after hq
    | next => exact hq.elim
    | brk => exact hq.elim
    | cont => exact hq.elim
theorem pe_callW (F : GFn (wdX X) k f fd ps sp) (hr : Room k X.A) (hgd : X.A.guards = some []) (hg : Gl X x) (hm : X.mg x = some (.ref f)) (hk : PySem.W.keepIn X.K (.ref f) = true) (hb : Binds X.K fd ps []) (tk : Takes X W)
    (ha : PA X (e :: es) t) (hdb : (x == ("__debug__" : Str)) = false) (he : starEach (e :: es) X.env = (false, eval e X.env) :: starEach es X.env) (hpl : (backTo pos (starEach es X.env)).any (·.1) = false) :
    PE X (.Call (.Name x p) (e :: es) [] pos) (tCallW sp W t) := by
  refine ⟨fun pins s σ H Q I h => wpAny_Call_Name_kw (ld_glob I hg hm ?_ hdb)⟩
  refine PySem.W.callWith_K (h₀ := X.base) I.ok.mod.kin hk (thn (ha.run pos pins s σ H _ I h) fun us s1 z => ?_) he hpl
  obtain ⟨vs, H1, I1, r, q⟩ := z
  exact ⟨I1.kIn, g_runW F hr hgd hb tk I1 r q⟩
theorem pe_callW0 (F : GFn (wdX X) k f fd ps sp) (hr : Room k X.A) (hgd : X.A.guards = some []) (hg : Gl X x) (hm : X.mg x = some (.ref f)) (hk : PySem.W.keepIn X.K (.ref f) = true) (hb : Binds X.K fd ps []) (tk : Takes X W)
    (hdb : (x == ("__debug__" : Str)) = false) : PE X (.Call (.Name x p) [] [] pos) (tCallW sp W tNil) :=
  ⟨fun pins s σ H Q I h => wpAny_Call_Name_kw (ld_glob I hg hm (PySem.W.callWith_K0 I.kIn hk (g_runW (us := []) F hr hgd hb tk I .nil h)) hdb)⟩
end
theorem Gd.wd {Ω : Wd} {C : Ck} {sc : Scope} {k : Nat} {X : Cx} (g : Gd Ω C sc k X) : Ω = wdX X := by
  obtain ⟨P, w, K, mg, base⟩ := Ω
  obtain ⟨h1, h2, h3, h4, h5, _⟩ := g
  cases h1; cases h2; cases h3; cases h4; cases h5
  rfl
theorem ok_callW {Ω : Wd} {t : WX → TA} {ms : VTs} {n : Nat} {c : Ct} (h : TAok Ω t ms n) : TEok Ω (fun W => tCallW (SpD Ω c) W (t W)) fun G T Q X => ms G T (fun ds T1 => c.c ds T1 Q X) X := fun Bg M T H σ G Qd Xq Q W en w post px => by
  refine h _ _ _ _ _ _ _ _ _ _ en w (fun ds vs B1 T1 H1 e1 s1 rl hl w1 => ?_) px
  exact ⟨B1, M, T1, ds, Qd, Xq, s1, rl, w1, post.ext e1, px.ext e1⟩
def callS (f : Nat) : OpS where
  shape C sc e := match asCall e with
    | some (x, es) => if decide (C.fs[f]? = some (.fn x)) && glb sc x && !(x == ("__debug__" : Str)) && nstL es then some es else none
    | none => none
  sem F ds T Q X := match F[f]? with | some c => c.c ds T Q X | none => False
  tst := false
  mono h h' w := by
    split at w
    · rename_i c hc
      exact c.mono h h' w
    · exact w
  sound {Ω C F k sc e es ms} W hs ha := by
    split at hs
    · rename_i x es' hx
      split at hs
      · rename_i hc
        cases hs
        obtain ⟨p, q, rfl⟩ := asCall_ok hx
        simp only [Bool.and_eq_true, decide_eq_true_eq, Bool.not_eq_true'] at hc
        obtain ⟨⟨⟨hf, hg⟩, hd⟩, hn⟩ := hc
        obtain ⟨c, h1, fa, fd, ps, e1, e2, e3, e4, e5⟩ := W.fs f _ hf
        simp only [h1]
        cases es with
        | nil =>
          cases ha
          refine ⟨fun W => tCallW (SpD Ω c) W tNil, fun X W g tk => ?_, ok_callW (n := 0) (ms := seqM []) fun Bg M T H σ G Qd Xq Q W en w post px => post _ _ _ _ _ .refl en.sm .nil rfl w⟩
          obtain rfl := g.wd
          exact pe_callW0 e5 g.room g.gd (g.gl hg) e1 e2 e3 tk hd
        | cons y ys =>
          obtain ⟨t, t1, t2, t3⟩ := sa_of ha hn
          refine ⟨_, fun X W g tk => ?_, ok_callW t2⟩
          have z1 := t1 X W g tk
          obtain rfl := g.wd
          have hn' : (nst y && nstL ys) = true := hn
          rw [Bool.and_eq_true] at hn'
          exact pe_callW e5 g.room g.gd (g.gl hg) e1 e2 e3 tk z1 hd (star_cons hn'.1) (star_all hn'.2)
      · cases hs
    · cases hs
  soundT h := nomatch h
end NX
set_option Elab.async false
set_option linter.all false
set_option maxRecDepth 100000
set_option maxHeartbeats 4000000
namespace NX
open PySem PySem.Spec PyProof.Rows L2 OC
/-! ### built-ins by their names -/
def biD (f : Bi) (ds : List D) (T : TS) (Q : QD) : Prop := match f, ds with
  | .len, [.ob a] => ∃ xs, T a = some (.lst xs) ∧ Q (.int xs.length) T
  | .sum, [.ob a] => ∃ xs ns, T a = some (.lst xs) ∧ intsOf xs = some ns ∧ Q (.int ns.sum) T
  | .all, [.ob a] => ∃ xs ns, T a = some (.lst xs) ∧ blsOf xs = some ns ∧ Q (.bl (ns.all id)) T
  | .any, [.ob a] => ∃ xs ns, T a = some (.lst xs) ∧ blsOf xs = some ns ∧ Q (.bl (ns.any id)) T
  | .repr, [x] => ∃ p, Rsv T x p ∧ showOk p ∧ Q (.str p.py.shown) T
  | f, ds => OC.biop f ds fun d => Q d T
theorem biD_mono {f : Bi} {ds : List D} {T : TS} {Q Q' : QD} (h : ∀ d T', Q d T' → Q' d T') (w : biD f ds T Q) : biD f ds T Q' := by
  unfold biD at w ⊢
  split
  · obtain ⟨xs, a, b⟩ := w
    exact ⟨xs, a, h _ _ b⟩
  · obtain ⟨xs, ns, a, b, c⟩ := w
    exact ⟨xs, ns, a, b, h _ _ c⟩
  · obtain ⟨xs, ns, a, b, c⟩ := w
    exact ⟨xs, ns, a, b, h _ _ c⟩
  · obtain ⟨xs, ns, a, b, c⟩ := w
    exact ⟨xs, ns, a, b, h _ _ c⟩
  · obtain ⟨p, a, b, c⟩ := w
    exact ⟨p, a, b, h _ _ c⟩
  · rename_i h1 h2 h3 h4 h5
    split at w
    · exact (h1 _ rfl rfl).elim
    · exact (h2 _ rfl rfl).elim
    · exact (h3 _ rfl rfl).elim
    · exact (h4 _ rfl rfl).elim
    · exact (h5 _ rfl rfl).elim
    · exact biop_mono (fun d => h d _) w
theorem rok_biD {Ω : Wd} (f : Bi) : ROkC Ω (rBi Ω.K f) (biD f) := fun Bg M T H vs ds Qd Q s rl w post => by
  unfold biD at w
  split at w
  · obtain ⟨xs, h1, w⟩ := w
    obtain ⟨v, rfl, r⟩ := one_inv rl
    cases r with
    | ob a =>
      obtain ⟨ws, h2, l⟩ := s.ob _ _ h1
      exact ⟨_, _, rfl, .inl ⟨ws, .inl (.inl h2), rfl⟩, by rw [l.len]; exact post.here s (.int _) w⟩
  · obtain ⟨xs, ns, h1, hn, w⟩ := w
    obtain ⟨v, rfl, r⟩ := one_inv rl
    cases r with
    | ob a =>
      obtain ⟨ws, h2, l⟩ := s.ob _ _ h1
      rw [ints_ok hn] at l
      exact ⟨_, ns, rfl, .inl (.inl (by rw [← l.ints_inv]; exact h2)), post.here s (.int _) w⟩
  · obtain ⟨xs, ns, h1, hn, w⟩ := w
    obtain ⟨v, rfl, r⟩ := one_inv rl
    cases r with
    | ob a =>
      obtain ⟨ws, h2, l⟩ := s.ob _ _ h1
      rw [bls_ok hn] at l
      exact ⟨_, ns, rfl, .inl (.inl (by rw [← l.bls_inv]; exact h2)), post.here s (.bl _) w⟩
  · obtain ⟨xs, ns, h1, hn, w⟩ := w
    obtain ⟨v, rfl, r⟩ := one_inv rl
    cases r with
    | ob a =>
      obtain ⟨ws, h2, l⟩ := s.ob _ _ h1
      rw [bls_ok hn] at l
      exact ⟨_, ns, rfl, .inl (.inl (by rw [← l.bls_inv]; exact h2)), post.here s (.bl _) w⟩
  · obtain ⟨p, hp, ⟨g1, g2, g3, g4⟩, w⟩ := w
    obtain ⟨v, rfl, r⟩ := one_inv rl
    exact ⟨v, _, rfl, hp.dp s r, g2, g3, g4, py_nodict _, post.here s (.str _) w⟩
  · exact rokC_up (OC.rok_bi f) _ _ _ _ _ _ _ _ s rl w post
/-- the name of a call, its arguments: a built-in's -/
def bltSh (nm : String) (C : Ck) (sc : Scope) (e : Expr) : Option (List Expr) := match asCall e with
  | some (x, es) => if blt C sc x nm && !es.isEmpty && nstL es then some es else none
  | none => none
theorem bltSh_ok {nm : String} {C : Ck} {sc : Scope} {e : Expr} {es : List Expr} (h : bltSh nm C sc e = some es) : ∃ p q y ys, e = .Call (.Name (nm : Str) p) es [] q ∧ glb sc (nm : Str) = true ∧ (nm : Str) ∈ C.bs ∧ nstL es = true ∧ es = y :: ys ∧ nst y = true ∧ nstL ys = true := by
  unfold bltSh at h
  split at h
  · rename_i x es' hx
    split at h
    · rename_i hb
      cases h
      obtain ⟨p, q, rfl⟩ := asCall_ok hx
      simp only [Bool.and_eq_true] at hb
      obtain ⟨⟨hb, hn⟩, hl⟩ := hb
      obtain ⟨rfl, hg, hbs⟩ := blt_ok hb
      cases es with
      | nil => cases hn
      | cons y ys =>
        have hl' : (nst y && nstL ys) = true := hl
        rw [Bool.and_eq_true] at hl'
        exact ⟨p, q, y, ys, rfl, hg, hbs, hl, rfl, hl'.1, hl'.2⟩
    · cases h
  · cases h
/-- a built-in function, by its reading -/
def bltS (nm id : String) (hb : bootBuiltins (nm : Str) = some (.builtin id)) (hn : ((nm : Str) == ("__debug__" : Str)) = false) (hn2 : (nm : Str) ≠ "__name__") (r : PySem.W.Frag → List V → Hp → VK → Prop) (hc : ∀ X : Cx, X.calm = true → X.A.guards = some [] → X.A.units + 64 < cLine → CallR X (.builtin id) (r X.K))
    (g : List D → TS → QD → Prop) (gm : ∀ {ds : List D} {T : TS} {Q Q' : QD}, (∀ d T', Q d T' → Q' d T') → g ds T Q → g ds T Q') (hr : ∀ Ω : Wd, ROkC Ω (r Ω.K) g) : OpS := opNS (bltSh nm) g gm (by
  intro Ω C F k sc e es ms W hs ha
  obtain ⟨p, q, y, ys, rfl, hg, hbs, hl, rfl, hy, hys⟩ := bltSh_ok hs
  obtain ⟨t, h1, h2, h3⟩ := sa_of ha hl
  refine ⟨_, fun X W' g tk => ?_, ok_opC (hr Ω) h2⟩
  have z := hc X g.calm g.gd g.hu
  rw [g.eK] at z
  exact pe_callB z (g.gl hg) (by rw [g.eM]; exact W.bs _ hbs) hb (h1 X W' g tk) hn2 hn (star_cons hy) (star_all hys))
/-- a type called -/
def tyS (nm : String) (hb : bootBuiltins (nm : Str) = some (.type nm)) (hn : ((nm : Str) == ("__debug__" : Str)) = false) (hn2 : (nm : Str) ≠ "__name__") (r : PySem.W.Frag → List V → Hp → VK → Prop) (hc : ∀ X : Cx, X.calm = true → X.A.guards = some [] → X.A.units + 64 < cLine → CallR X (.type nm) (r X.K))
    (g : List D → TS → QD → Prop) (gm : ∀ {ds : List D} {T : TS} {Q Q' : QD}, (∀ d T', Q d T' → Q' d T') → g ds T Q → g ds T Q') (hr : ∀ Ω : Wd, ROkC Ω (r Ω.K) g) : OpS := opNS (bltSh nm) g gm (by
  intro Ω C F k sc e es ms W hs ha
  obtain ⟨p, q, y, ys, rfl, hg, hbs, hl, rfl, hy, hys⟩ := bltSh_ok hs
  obtain ⟨t, h1, h2, h3⟩ := sa_of ha hl
  refine ⟨_, fun X W' g tk => ?_, ok_opC (hr Ω) h2⟩
  have z := hc X g.calm g.gd g.hu
  rw [g.eK] at z
  exact pe_callTy z (g.gl hg) (by rw [g.eM]; exact W.bs _ hbs) hb (h1 X W' g tk) hn2 hn (star_cons hy) (star_all hys))
def biS (f : Bi) : OpS := opNS (bltSh (biNm f)) (biD f) biD_mono (by
  intro Ω C F k sc e es ms W hs ha
  obtain ⟨p, q, y, ys, rfl, hg, hbs, hl, rfl, hy, hys⟩ := bltSh_ok hs
  obtain ⟨t, h1, h2, h3⟩ := sa_of ha hl
  refine ⟨_, fun X W' g tk => ?_, ok_opC (rok_biD f) h2⟩
  have := OC.pe_biAll (X := X) (f := f) (p := p) (pos := q) g.calm g.gd g.hu (g.gl hg) (by rw [g.eM]; exact W.bs _ hbs) (h1 X W' g tk) (star_cons hy) (star_all hys)
  rw [g.eK] at this
  exact this)
def nmIs (C : Ck) (sc : Scope) (z : Expr) (nm : String) : Bool := match asName z with | some w => blt C sc w nm | none => false
theorem nmIs_ok {C : Ck} {sc : Scope} {z : Expr} {nm : String} (h : nmIs C sc z nm = true) : ∃ p, z = .Name (nm : Str) p ∧ glb sc (nm : Str) = true ∧ (nm : Str) ∈ C.bs := by
  unfold nmIs at h
  split at h
  · rename_i v hv
    obtain ⟨pz, rfl⟩ := asName_ok hv
    obtain ⟨rfl, hg2, hbs2⟩ := blt_ok h
    exact ⟨pz, rfl, hg2, hbs2⟩
  · cases h
/-- isinstance -/
def isiS (t : Ty) : OpS := op1S (fun C sc e => match asCall e with
    | some (x, [y, z]) => if blt C sc x "isinstance" && nst y && nmIs C sc z (tyNm t) then some y else none
    | _ => none) (fun x T Q => match x with
    | .ob a => ∃ xs, T a = some (.lst xs) ∧ Q (.bl (OC.isTy t (.lst []))) T
    | x => x.pure = true ∧ Q (.bl (OC.isTy t x)) T) (fun h w => by
    split at w
    · obtain ⟨xs, a, b⟩ := w
      exact ⟨xs, a, h _ _ b⟩
    · exact ⟨w.1, h _ _ w.2⟩) (by
  intro Ω C F k sc e x m W hs h1
  split at hs
  · rename_i nm y z hx
    split at hs
    · rename_i hb
      cases hs
      obtain ⟨p, q, rfl⟩ := asCall_ok hx
      simp only [Bool.and_eq_true] at hb
      obtain ⟨⟨hb, hn⟩, hz⟩ := hb
      obtain ⟨rfl, hg, hbs⟩ := blt_ok hb
      obtain ⟨pz, rfl, hg2, hbs2⟩ := nmIs_ok hz
      obtain ⟨ta, a1, a2⟩ := h1
      refine ⟨fun W => tCB (rIsi Ω.K) (tCons (ta W) (tCons (tC (.ty (tyNm t))) tNil)), fun X W' g tk => ?_, fun Bg M T H σ G Qd Xq Q W en w post px => ?_⟩
      · have := pe_callB (X := X) (p := p) (pos := q) call_isi (g.gl hg) (by rw [g.eM]; exact W.bs _ hbs) (by decide +kernel) (pa_cons (a1 X W' g tk) (pa_cons (pe_bltn (v := .ty (tyNm t)) (pos := pz) (g.gl hg2) (by rw [g.eM]; exact W.bs _ hbs2) (boot_ty t) rfl (by cases t <;> decide) (by cases t <;> decide)) pa_nil) (star_cons hn)) (by decide) (by decide) (star_cons hn) rfl
        rw [g.eK] at this
        exact this
      · refine a2 _ _ _ _ _ _ _ _ _ _ en w (fun x vx B1 T1 H1 e1 s1 rx w1 => ?_) px
        split at w1
        · obtain ⟨xs, h1, w1⟩ := w1
          cases rx with
          | ob a =>
            obtain ⟨ws, h2, l⟩ := s1.ob _ _ h1
            exact ⟨.ref _, .ty (tyNm t), _, _, isTy t (.lst []), rfl, .ty _, .base (.lst h2), kit_ty (kit_D t (.lst []) rfl), (post.ext e1).here s1 (.bl _) w1⟩
        · exact ⟨vx, .ty (tyNm t), _, _, isTy t x, rfl, .ty _, rx.ty w1.1, kit_ty (kit_D t x w1.1), (post.ext e1).here s1 (.bl _) w1.2⟩
    · cases hs
  · cases hs)
/-! ### methods of lists -/
def asMt : Expr → Option (Expr × Str × List Expr × Pos × Pos)
  | .Call (.Attribute o m ap) es [] cp => some (o, m, es, ap, cp)
  | _ => none
theorem asMt_ok {e o : Expr} {m : Str} {es : List Expr} {ap cp : Pos} (h : asMt e = some (o, m, es, ap, cp)) : e = .Call (.Attribute o m ap) es [] cp := by
  unfold asMt at h
  split at h
  · cases h; rfl
  · cases h
def noSup : Expr → Bool
  | .Call (.Name _ _) [] [] _ => false
  | _ => true
theorem sup_ok {o : Expr} {n : Str} {env : Env} {w : Sem Value} (h : noSup o = true) : attributeBase o n env w = w := by
  unfold attributeBase
  split
  · cases h
  · rfl
/-- o.m() -/
def mt0Sh (nm : String) (_ : Ck) (_ : Scope) (e : Expr) : Option Expr := match asMt e with
  | some (o, m, [], ap, cp) => if decide (m = (nm : Str)) && noSup o && (ap.endLine == cp.line) then some o else none
  | _ => none
theorem mt0Sh_ok {nm : String} {C : Ck} {sc : Scope} {e o : Expr} (h : mt0Sh nm C sc e = some o) : ∃ ap cp, e = .Call (.Attribute o (nm : Str) ap) [] [] cp ∧ noSup o = true ∧ (ap.endLine == cp.line) = true := by
  unfold mt0Sh at h
  split at h
  · rename_i o' m ap cp hx
    split at h
    · rename_i hb
      cases h
      simp only [Bool.and_eq_true, decide_eq_true_eq] at hb
      obtain ⟨⟨rfl, h1⟩, h2⟩ := hb
      exact ⟨ap, cp, asMt_ok hx, h1, h2⟩
    · cases h
  · cases h
/-- o.m(e) -/
def mt1Sh (nm : String) (_ : Ck) (_ : Scope) (e : Expr) : Option (Expr × Expr) := match asMt e with
  | some (o, m, [x], ap, cp) => if decide (m = (nm : Str)) && noSup o && (ap.endLine == cp.line) && nst x then some (o, x) else none
  | _ => none
theorem mt1Sh_ok {nm : String} {C : Ck} {sc : Scope} {e o x : Expr} (h : mt1Sh nm C sc e = some (o, x)) : ∃ ap cp, e = .Call (.Attribute o (nm : Str) ap) [x] [] cp ∧ noSup o = true ∧ (ap.endLine == cp.line) = true ∧ nst x = true := by
  unfold mt1Sh at h
  split at h
  · rename_i o' m x' ap cp hx
    split at h
    · rename_i hb
      cases h
      simp only [Bool.and_eq_true, decide_eq_true_eq] at hb
      obtain ⟨⟨⟨rfl, h1⟩, h2⟩, h3⟩ := hb
      exact ⟨ap, cp, asMt_ok hx, h1, h2, h3⟩
    · cases h
  · cases h
/-- what a list's content becomes -/
theorem wr_lst {Ω : Wd} {Bg M : AP} {T : TS} {H : Hp} {a : Addr} {o : Ob} {xs : List D} {vs : List V} {d : D} {v : V} {Qd : QD} {Q : VK} (s : Sm Ω.K Ω.mg Bg M T H) (h : T a = some o) (rl : RepL Ω.K Bg (lv T M) H vs xs) (r : Rep Ω.K Bg (lv T M) H v d) (post : Post Ω Bg M T H Qd Q) (q : Qd d (T.put a (.lst xs))) : Q v (L2.upd H a (.lst vs)) :=
  have x : Ext Bg T H Bg (T.put a (.lst xs)) (L2.upd H a (.lst vs)) := Ext.wr (some_ne h)
  post _ _ _ _ _ x (s.put (u := .lst xs) (.inr (some_ne h)) ⟨vs, upd_same, repL_ext x rl⟩) (rep_ext x r) q
theorem list_ty {Ω : Wd} {Bg M : AP} {T : TS} {H : Hp} {a : Addr} {xs : List D} (s : Sm Ω.K Ω.mg Bg M T H) (h : T a = some (.lst xs)) : tyV Ω.K "list" (.ref a) H := by
  obtain ⟨vs, h2, l⟩ := s.ob _ _ h
  exact .inl ⟨rfl, _, .inl (.inl h2)⟩
/-- a list that may change -/
def isL (x : D) (T : TS) : Prop := match x with | .ob a => ∃ xs, T a = some (.lst xs) | _ => False
theorem isL_inv {x : D} {T : TS} (h : isL x T) : ∃ a xs, x = .ob a ∧ T a = some (.lst xs) := by
  cases x with
  | ob a => obtain ⟨xs, h⟩ := h; exact ⟨a, xs, rfl, h⟩
  | _ => exact h.elim
/-- a method of a list, of one argument -/
def lm1S (nm id : String) (slot : Slot "list" (nm : Str) id) (hty : typeOf (.builtin id) = pure (.type "method_descriptor")) (r : PySem.W.Frag → V → List V → Hp → VK → Prop) (hm : ∀ X : Cx, X.A.units + 64 < cLine → MtR X id (r X.K)) (g : D → D → TS → QD → Prop)
    (gm : ∀ {a : D} {x : D} {T : TS} {Q Q' : QD}, (∀ d T', Q d T' → Q' d T') → g a x T Q → g a x T Q') (hr : ∀ Ω : Wd, ROk2 Ω (fun x y H Q => r Ω.K x [y] H Q) g) : MtS where
  shape C sc e := (mt1Sh nm C sc e).map fun x => (x.1, [x.2])
  chk := isL
  sem _ x ds T Q _ := match ds with | [d] => g x d T Q | _ => False
  mono h _ w := by
    split at w
    · exact gm h w
    · exact w
  sound {Ω C F k sc e ro es mr ms} W hs h1 ha := by
    cases hq : mt1Sh nm C sc e with
    | none => rw [hq] at hs; cases hs
    | some p =>
      rw [hq] at hs
      cases hs
      obtain ⟨ap, cp, rfl, hn, hl, hx⟩ := mt1Sh_ok hq
      obtain ⟨m, rfl, tb, b1, b2⟩ := all2_1 ha
      obtain ⟨ta, a1, a2⟩ := h1
      refine ⟨fun W => tBM Ω.K "list" (r Ω.K) (ta W) (tCons (tb W) tNil), fun X W' g tk => ?_, fun Bg M T H σ G Qd Xq Q W en w post px => ?_⟩
      · have z := hm X g.hu
        have := pe_bm (X := X) (apos := ap) (cpos := cp) PySem.F.plainAttrs_list slot hty z (a1 X W' g tk) (pa_cons (b1 X W' g tk) pa_nil (star_cons hx)) (sup_ok hn) (by rw [star_cons hx]; rfl) hl (star_cons hx) rfl
        rw [g.eK] at this
        exact this
      · refine a2 _ _ _ _ _ _ _ _ _ _ en w (fun x vx B1 T1 H1 e1 s1 rx w1 => ?_) px
        obtain ⟨wc, w1⟩ := w1
        obtain ⟨a, xs, rfl, h0⟩ := isL_inv wc
        have tv : tyV Ω.K "list" vx H1 := by cases rx; exact list_ty s1 h0
        refine ⟨tv, b2 _ _ _ _ _ _ _ _ _ _ (en.ext e1 s1) w1 (fun y vy B2 T2 H2 e2 s2 ry w2 => ?_) (px.ext e1)⟩
        exact hr Ω _ _ _ _ _ _ _ _ _ _ s2 (rep_ext e2 rx) ry w2 (post.ext (e1.trans e2))
/-- a method of a list, of no argument -/
def lm0S (nm id : String) (slot : Slot "list" (nm : Str) id) (hty : typeOf (.builtin id) = pure (.type "method_descriptor")) (r : PySem.W.Frag → V → List V → Hp → VK → Prop) (hm : ∀ X : Cx, X.A.units + 64 < cLine → MtR X id (r X.K)) (g : D → TS → QD → Prop)
    (gm : ∀ {a : D} {T : TS} {Q Q' : QD}, (∀ d T', Q d T' → Q' d T') → g a T Q → g a T Q') (hr : ∀ Ω : Wd, ROk1 Ω (fun x H Q => r Ω.K x [] H Q) g) (gl : ∀ {a : D} {T : TS} {Q : QD}, g a T Q → isL a T) : OpS := op1S (mt0Sh nm) g gm (by
  intro Ω C F k sc e x m W hs h1
  obtain ⟨ap, cp, rfl, hn, hl⟩ := mt0Sh_ok hs
  obtain ⟨ta, a1, a2⟩ := h1
  refine ⟨fun W => tBM0 Ω.K "list" (r Ω.K) (ta W), fun X W' g tk => ?_, fun Bg M T H σ G Qd Xq Q W en w post px => ?_⟩
  · have z := hm X g.hu
    have := pe_bm0 (X := X) (apos := ap) (cpos := cp) PySem.F.plainAttrs_list slot hty z (a1 X W' g tk) (sup_ok hn) hl
    rw [g.eK] at this
    exact this
  · refine a2 _ _ _ _ _ _ _ _ _ _ en w (fun x vx B1 T1 H1 e1 s1 rx w1 => ?_) px
    obtain ⟨a, xs, rfl, h0⟩ := isL_inv (gl w1)
    have tv : tyV Ω.K "list" vx H1 := by cases rx; exact list_ty s1 h0
    exact ⟨tv, hr Ω _ _ _ _ _ _ _ _ s1 rx w1 (post.ext e1)⟩)
def appS : MtS := lm1S "append" "list.append" PySem.F.slot_list_append PySem.F.type_list_append (fun _ => rAppend) (fun _ _ => mt_append) (fun x d T Q => match x with | .ob a => ∃ xs, T a = some (.lst xs) ∧ xs.length < 100000 ∧ Q .non (T.put a (.lst (xs ++ [d]))) | _ => False)
  (fun h w => by
    split at w
    · obtain ⟨xs, a, b, c⟩ := w
      exact ⟨xs, a, b, h _ _ c⟩
    · exact w) (fun Ω Bg M T H x y dx dy Qd Q s rx ry w post => by
    cases rx <;> first
      | exact False.elim w
      | skip
    obtain ⟨xs, h1, h2, w⟩ := w
    obtain ⟨vs, h3, rl⟩ := s.ob _ _ h1
    exact ⟨_, vs, y, rfl, rfl, h3, by rw [rl.len]; exact Nat.lt_of_lt_of_le h2 (by decide), wr_lst s h1 (rl.append (.cons ry .nil)) .non post w⟩)
def extS : MtS := lm1S "extend" "list.extend" PySem.F.slot_list_extend PySem.F.type_list_extend (fun _ => rExtend) (fun _ _ => mt_extend) (fun x d T Q => match x with | .ob a => ∃ xs ys, T a = some (.lst xs) ∧ viewL T d = some ys ∧ xs.length + ys.length < 100000 ∧ Q .non (T.put a (.lst (xs ++ ys))) | _ => False)
  (fun h w => by
    split at w
    · obtain ⟨xs, ys, a, b, c, d⟩ := w
      exact ⟨xs, ys, a, b, c, h _ _ d⟩
    · exact w) (fun Ω Bg M T H x y dx dy Qd Q s rx ry w post => by
    cases rx <;> first
      | exact False.elim w
      | skip
    obtain ⟨xs, ys, h1, h2, h4, w⟩ := w
    obtain ⟨vs, h3, rl⟩ := s.ob _ _ h1
    obtain ⟨b, us, rfl, h5, rl2⟩ := view_ok s h2 ry
    exact ⟨_, b, vs, us, rfl, rfl, h3, h5, by rw [rl.len, rl2.len]; exact Nat.le_of_lt (Nat.lt_of_lt_of_le h4 (by decide)), wr_lst s h1 (rl.append rl2) .non post w⟩)
theorem repL_erase {K : PySem.W.Frag} {Bg M : AP} {H : Hp} : ∀ {vs : List V} {ds : List D} (n : Nat), RepL K Bg M H vs ds → RepL K Bg M H (vs.eraseIdx n) (ds.eraseIdx n)
  | _, _, _, .nil => .nil
  | _, _, 0, .cons _ t => t
  | _, _, n + 1, .cons r t => .cons r (repL_erase n t)
theorem repL_rev {K : PySem.W.Frag} {Bg M : AP} {H : Hp} : ∀ {vs : List V} {ds : List D}, RepL K Bg M H vs ds → RepL K Bg M H vs.reverse ds.reverse
  | _, _, .nil => .nil
  | _, _, .cons r t => by rw [List.reverse_cons, List.reverse_cons]; exact (repL_rev t).append (.cons r .nil)
def popS : MtS := lm1S "pop" "list.pop" PySem.F.slot_list_pop PySem.F.type_list_pop (fun _ => rPopAt) (fun _ _ => mt_popAt) (fun x d T Q => match x, d with | .ob a, .int i => ∃ xs n y, T a = some (.lst xs) ∧ xs.length ≤ 100000 ∧ ixN xs.length i = some n ∧ xs[n]? = some y ∧ Q y (T.put a (.lst (xs.eraseIdx n))) | _, _ => False)
  (fun h w => by
    split at w
    · obtain ⟨xs, n, y, a, b, c, d, e⟩ := w
      exact ⟨xs, n, y, a, b, c, d, h _ _ e⟩
    · exact w) (fun Ω Bg M T H x y dx dy Qd Q s rx ry w post => by
    cases rx <;> first
      | exact False.elim w
      | skip
    cases ry <;> first
      | exact False.elim w
      | skip
    obtain ⟨xs, n, z, h1, b1, h2, h4, w⟩ := w
    obtain ⟨vs, h3, rl⟩ := s.ob _ _ h1
    obtain ⟨v, h5, rv⟩ := rl.get h4
    obtain ⟨k1, k2, k3, k4⟩ := ixN_seq h2
    exact ⟨_, vs, _, n, v, rfl, rfl, h3, by omega, by omega, by rw [rl.len]; exact k1, h5, wr_lst s h1 (repL_erase n rl) rv post w⟩)
def revS : OpS := lm0S "reverse" "list.reverse" PySem.F.slot_list_reverse PySem.F.type_list_reverse (fun _ => rReverse) (fun _ _ => mt_reverse) (fun x T Q => match x with | .ob a => ∃ xs, T a = some (.lst xs) ∧ Q .non (T.put a (.lst xs.reverse)) | _ => False)
  (fun h w => by
    split at w
    · obtain ⟨xs, a, b⟩ := w
      exact ⟨xs, a, h _ _ b⟩
    · exact w) (fun Ω Bg M T H x dx Qd Q s rx w post => by
    cases rx <;> first
      | exact False.elim w
      | skip
    obtain ⟨xs, h1, w⟩ := w
    obtain ⟨vs, h3, rl⟩ := s.ob _ _ h1
    exact ⟨_, vs, rfl, rfl, h3, wr_lst s h1 (repL_rev rl) .non post w⟩) (fun {a T Q} w => by
    cases a <;> first
      | exact w.elim
      | skip
    obtain ⟨xs, h1, _⟩ := w
    exact ⟨xs, h1⟩)
theorem dropLast_erase {α : Type} : ∀ (l : List α), l.dropLast = l.eraseIdx (l.length - 1)
  | [] => rfl
  | [a] => rfl
  | a :: b :: l => by
    have := dropLast_erase (b :: l)
    simp only [List.length_cons, Nat.add_sub_cancel] at this ⊢
    rw [List.dropLast_cons₂, this, List.eraseIdx_cons_succ]
def pop0S : OpS := lm0S "pop" "list.pop" PySem.F.slot_list_pop PySem.F.type_list_pop (fun _ => rPop) (fun _ _ => mt_pop) (fun x T Q => match x with | .ob a => ∃ xs y, T a = some (.lst (xs ++ [y])) ∧ Q y (T.put a (.lst xs)) | _ => False)
  (fun h w => by
    split at w
    · obtain ⟨xs, y, a, b⟩ := w
      exact ⟨xs, y, a, h _ _ b⟩
    · exact w) (fun Ω Bg M T H x dx Qd Q s rx w post => by
    cases rx <;> first
      | exact False.elim w
      | skip
    obtain ⟨xs, y, h1, w⟩ := w
    obtain ⟨vs, h3, rl⟩ := s.ob _ _ h1
    have hl : vs.length = xs.length + 1 := by rw [rl.len, List.length_append]; rfl
    obtain ⟨v, h5, rv⟩ := rl.get (i := xs.length) (d := y) (by simp)
    have r2 := repL_erase xs.length rl
    have e2 : (xs ++ [y]).eraseIdx xs.length = xs := by simp [List.eraseIdx_append_of_length_le]
    rw [e2] at r2
    refine ⟨_, vs, v, rfl, rfl, h3, by rw [hl, Nat.add_sub_cancel]; exact h5, ?_⟩
    rw [dropLast_erase, hl, Nat.add_sub_cancel]
    exact wr_lst s h1 r2 rv post w) (fun {a T Q} w => by
    cases a <;> first
      | exact w.elim
      | skip
    obtain ⟨xs, y, h1, _⟩ := w
    exact ⟨_, h1⟩)
end NX
set_option Elab.async false
set_option linter.all false
set_option maxRecDepth 100000
set_option maxHeartbeats 4000000
/-! The wider small language: what is walked; simple statements. -/
namespace NX
open PySem PySem.Spec PyProof.Rows L2 OC
section
variable {K : PySem.W.Frag}
theorem walks_lst (p : Addr) (xs : List D) : Walks K (Itl K p) [(.ref p, .lst xs)] xs := ⟨fun Bg M H i d bg md hr hi => by
    obtain ⟨p', vs', e, hp', _, _, rl'⟩ := (hr _ (List.mem_singleton.mpr rfl)).lst_inv
    cases e
    obtain ⟨v, hv, rv⟩ := rl'.get hi
    refine ⟨⟨vs', v, .inl (.inl hp'), hv⟩, fun x H' hy => ?_⟩
    obtain ⟨rfl, hy⟩ := hy
    have := hy vs' (.inl (.inl hp'))
    rw [hv] at this
    cases this
    exact ⟨OC.Ext.refl bg, rv⟩, fun Bg M H hr => by
    obtain ⟨p', vs', e, hp', _, _, rl'⟩ := (hr _ (List.mem_singleton.mpr rfl)).lst_inv
    cases e
    exact ⟨vs', .inl (.inl hp'), by rw [rl'.len]; exact Nat.le_refl _⟩⟩
theorem walks_tup (p : Addr) (xs : List D) : Walks K (Itt K p) [(.ref p, .tup xs)] xs := ⟨fun Bg M H i d bg md hr hi => by
    obtain ⟨p', vs', e, hp', rl'⟩ := (hr _ (List.mem_singleton.mpr rfl)).tup_inv
    cases e
    obtain ⟨v, hv, rv⟩ := rl'.get hi
    refine ⟨⟨vs', v, hp', hv⟩, fun x H' hy => ?_⟩
    obtain ⟨rfl, hy⟩ := hy
    have := hy vs' hp'
    rw [hv] at this
    cases this
    exact ⟨OC.Ext.refl bg, rv⟩, fun Bg M H hr => by
    obtain ⟨p', vs', e, hp', rl'⟩ := (hr _ (List.mem_singleton.mpr rfl)).tup_inv
    cases e
    exact ⟨vs', hp', by rw [rl'.len]; exact Nat.le_refl _⟩⟩
theorem walks_rev (p : Addr) (xs : List D) (n : Nat) (hn : n = xs.length) : Walks K (Itv K p n) [(.ref p, .lst xs)] xs.reverse := ⟨fun Bg M H i d bg md hr hi => by
    obtain ⟨p', vs', e, hp', _, _, rl'⟩ := (hr _ (List.mem_singleton.mpr rfl)).lst_inv
    cases e
    have hlt : i < xs.length := by
      have := lt_of_get hi
      rwa [List.length_reverse] at this
    rw [List.getElem?_reverse hlt] at hi
    obtain ⟨v, hv, rv⟩ := rl'.get hi
    rw [hn]
    refine ⟨⟨hlt, vs', v, .inl (.inl hp'), hv⟩, fun x H' hy => ?_⟩
    obtain ⟨rfl, hy⟩ := hy
    have := hy vs' (.inl (.inl hp'))
    rw [hv] at this
    cases this
    exact ⟨OC.Ext.refl bg, rv⟩, fun Bg M H hr => by
    show n ≤ _
    rw [List.length_reverse, hn]
    exact Nat.le_refl _⟩
theorem walks_enum (p : Addr) (xs : List D) : Walks K (Ite K p) [(.ref p, .lst xs)] (xs.zipIdx.map fun p => .tup [.int (p.2 : Nat), p.1]) := ⟨fun Bg M H i d bg md hr hi => by
    obtain ⟨p', vs', e, hp', _, _, rl'⟩ := (hr _ (List.mem_singleton.mpr rfl)).lst_inv
    cases e
    rw [List.getElem?_map, List.getElem?_zipIdx] at hi
    cases q : xs[i]? with
    | none => rw [q] at hi; cases hi
    | some y =>
      rw [q] at hi
      cases hi
      obtain ⟨v, hv, rv⟩ := rl'.get q
      refine ⟨⟨vs', v, .inl (.inl hp'), hv⟩, fun x H' hy => ?_⟩
      obtain ⟨T, z, rfl, hT, rfl, hz⟩ := hy
      have := hz vs' (.inl (.inl hp'))
      rw [hv] at this
      cases this
      have ex := OC.Ext.lay (o := .tup [.int (i : Nat), v]) bg hT
      obtain ⟨m1, m2⟩ := fresh_md bg md hT
      refine ⟨ex, .tup (.inl upd_same) m1 m2 (.cons ?_ (.cons (rv.ext ex fun a m => .inl m) .nil))⟩
      rw [Nat.zero_add]
      exact .int _, fun Bg M H hr => by
    obtain ⟨p', vs', e, hp', _, _, rl'⟩ := (hr _ (List.mem_singleton.mpr rfl)).lst_inv
    cases e
    exact ⟨vs', .inl (.inl hp'), by rw [rl'.len, List.length_map, List.length_zipIdx]; exact Nat.le_refl _⟩⟩
theorem walks_zip (p q : Addr) (xs ys : List D) : Walks K (Itz K p q) [(.ref p, .lst xs), (.ref q, .lst ys)] (List.zipWith (fun x y => .tup [x, y]) xs ys) := ⟨fun Bg M H i d bg md hr hi => by
    obtain ⟨p', vs', e, hp', _, _, rl'⟩ := (hr (.ref p, .lst xs) (by simp)).lst_inv
    cases e
    obtain ⟨q', ws', e, hq', _, _, rm'⟩ := (hr (.ref q, .lst ys) (by simp)).lst_inv
    cases e
    rw [List.getElem?_zipWith] at hi
    cases qx : xs[i]? with
    | none => rw [qx] at hi; cases hi
    | some x =>
      cases qy : ys[i]? with
      | none => rw [qx, qy] at hi; cases hi
      | some y =>
        rw [qx, qy] at hi
        cases hi
        obtain ⟨v, hv, rv⟩ := rl'.get qx
        obtain ⟨u, hu, ru⟩ := rm'.get qy
        refine ⟨⟨vs', ws', v, u, .inl (.inl hp'), .inl (.inl hq'), hv, hu⟩, fun x H' hy => ?_⟩
        obtain ⟨T, z, z2, rfl, hT, rfl, hz, hz2⟩ := hy
        have t1 := hz vs' (.inl (.inl hp'))
        rw [hv] at t1
        cases t1
        have t2 := hz2 ws' (.inl (.inl hq'))
        rw [hu] at t2
        cases t2
        have ex := OC.Ext.lay (o := .tup [v, u]) bg hT
        obtain ⟨m1, m2⟩ := fresh_md bg md hT
        exact ⟨ex, .tup (.inl upd_same) m1 m2 (.cons (rv.ext ex fun a m => .inl m) (.cons (ru.ext ex fun a m => .inl m) .nil))⟩, fun Bg M H hr => by
    obtain ⟨p', vs', e, hp', _, _, rl'⟩ := (hr (.ref p, .lst xs) (by simp)).lst_inv
    cases e
    obtain ⟨q', ws', e, hq', _, _, rm'⟩ := (hr (.ref q, .lst ys) (by simp)).lst_inv
    cases e
    refine ⟨vs', ws', .inl (.inl hp'), .inl (.inl hq'), ?_⟩
    rw [rl'.len, rm'.len, List.length_zipWith]
    omega⟩
end
/-- of one part -/
def ik1S (sh : Ck → Scope → Expr → Expr → Option Expr) (g : D → Option (List D)) (ok : D → Prop) (snd : ∀ {Ω : Wd} {C : Ck} {F : List Ct} {k : Nat} {sc : Scope} {it tg x : Expr} {m : VT}, Wr Ω C F k → sh C sc it tg = some x → SE Ω C k sc x m → SI Ω C k sc it tg fun G T Q X => m G T (fun d T1 => ok d ∧ ∃ xs, g d = some xs ∧ Q xs T1) X) : IkS where
  shape C sc it tg := (sh C sc it tg).map fun x => [x]
  sem ds T Q := match ds with | [d] => ok d ∧ ∃ xs, g d = some xs ∧ Q xs T | _ => False
  mono h w := by
    split at w
    · obtain ⟨a, xs, b, c⟩ := w
      exact ⟨a, xs, b, h _ _ c⟩
    · exact w
  sound W hs ha := by
    obtain ⟨x, h1, rfl⟩ := map1 hs
    obtain ⟨m, rfl, h2⟩ := all2_1 ha
    exact snd W h1 h2
def lstOf : D → Option (List D)
  | .lst xs => some xs
  | _ => none
def tupOf : D → Option (List D)
  | .tup xs => some xs
  | _ => none
theorem lstOf_inv {d : D} {xs : List D} (h : lstOf d = some xs) : d = .lst xs := by cases d <;> simp_all [lstOf]
theorem tupOf_inv {d : D} {xs : List D} (h : tupOf d = some xs) : d = .tup xs := by cases d <;> simp_all [tupOf]
def lstI : IkS := ik1S (fun _ _ it _ => some it) lstOf (fun _ => True) (by
  intro Ω C F k sc it tg x m W hs h1
  cases hs
  obtain ⟨t, a1, a2⟩ := h1
  refine ⟨fun W => iList Ω.K (t W), fun X W' g tk => ?_, fun Bg M T H σ G Qd Xq R W en w post px => ?_⟩
  · have := pi_list (tg := tg) (a1 X W' g tk)
    rw [g.eK] at this
    exact this
  · refine a2 _ _ _ _ _ _ _ _ _ _ en w (fun x vx B1 T1 H1 e1 s1 rx w1 => ?_) px
    obtain ⟨_, xs, h1, w1⟩ := w1
    obtain rfl := lstOf_inv h1
    obtain ⟨p, vs, rfl, hp, n1, n2, rl⟩ := rx.lst_inv
    exact ⟨p, rfl, ⟨vs, .inl (.inl hp)⟩, post xs (Itl Ω.K p) [(.ref p, .lst xs)] _ _ _ e1 s1 (fun q hq => by cases List.mem_singleton.mp hq; exact rx) (walks_lst p xs) w1⟩)
def tupI : IkS := ik1S (fun _ _ it _ => some it) tupOf (fun _ => True) (by
  intro Ω C F k sc it tg x m W hs h1
  cases hs
  obtain ⟨t, a1, a2⟩ := h1
  refine ⟨fun W => iTup Ω.K (t W), fun X W' g tk => ?_, fun Bg M T H σ G Qd Xq R W en w post px => ?_⟩
  · have := pi_tup (tg := tg) (a1 X W' g tk)
    rw [g.eK] at this
    exact this
  · refine a2 _ _ _ _ _ _ _ _ _ _ en w (fun x vx B1 T1 H1 e1 s1 rx w1 => ?_) px
    obtain ⟨_, xs, h1, w1⟩ := w1
    obtain rfl := tupOf_inv h1
    obtain ⟨p, vs, rfl, hp, rl⟩ := rx.tup_inv
    exact ⟨p, rfl, ⟨vs, hp⟩, post xs (Itt Ω.K p) [(.ref p, .tup xs)] _ _ _ e1 s1 (fun q hq => by cases List.mem_singleton.mp hq; exact rx) (walks_tup p xs) w1⟩)
def blt1 (nm : String) (C : Ck) (sc : Scope) (it : Expr) : Option Expr := match asCall it with
  | some (x, [y]) => if blt C sc x nm && nst y then some y else none
  | _ => none
theorem blt1_ok {nm : String} {C : Ck} {sc : Scope} {it y : Expr} (h : blt1 nm C sc it = some y) : ∃ p q, it = .Call (.Name (nm : Str) p) [y] [] q ∧ glb sc (nm : Str) = true ∧ (nm : Str) ∈ C.bs ∧ nst y = true := by
  unfold blt1 at h
  split at h
  · rename_i x y' hx
    split at h
    · rename_i hb
      cases h
      obtain ⟨p, q, rfl⟩ := asCall_ok hx
      simp only [Bool.and_eq_true] at hb
      obtain ⟨rfl, hg, hbs⟩ := blt_ok hb.1
      exact ⟨p, q, rfl, hg, hbs, hb.2⟩
    · cases h
  · cases h
def rngD (lo hi : Int) : List D := (List.range (hi - lo).toNat).map fun i : Nat => .int (lo + i)
def rng1I : IkS := ik1S (fun C sc it _ => blt1 "range" C sc it) (fun d => match d with | .int n => some (rngD 0 n) | _ => none) (fun d => match d with | .int n => -(2 ^ 62) ≤ n ∧ n < 2 ^ 62 | _ => False) (by
  intro Ω C F k sc it tg x m W hs h1
  obtain ⟨p, q, rfl, hg, hbs, hn⟩ := blt1_ok hs
  obtain ⟨t, a1, a2⟩ := h1
  refine ⟨fun W => iRng1 (tCons (t W) tNil), fun X W' g tk => pi_range1 (g.gl hg) (by rw [g.eM]; exact W.bs _ hbs) (pa_cons (a1 X W' g tk) pa_nil (star_cons hn)) (star_cons hn), fun Bg M T H σ G Qd Xq R W en w post px => ?_⟩
  refine a2 _ _ _ _ _ _ _ _ _ _ en w (fun x vx B1 T1 H1 e1 s1 rx w1 => ?_) px
  obtain ⟨h0, xs, h1, w1⟩ := w1
  cases x <;> first
    | exact False.elim h0
    | skip
  rename_i n
  cases h1
  have Wk := walks_rng (K := Ω.K) 0 n.toNat
  have e : rngD 0 n = ((List.range n.toNat).map fun i : Nat => D.int ((0 : Int) + i)) := by unfold rngD; rw [Int.sub_zero]
  rw [e] at w1
  exact ⟨n, by rw [rx.int_inv], h0.1, h0.2, post _ (Itr 0 n.toNat) [] _ _ _ e1 s1 (fun q hq => nomatch hq) Wk w1⟩)
def rng2I : IkS where
  shape C sc it _ := match asCall it with
    | some (x, [y, z]) => if blt C sc x "range" && nst y && nst z then some [y, z] else none
    | _ => none
  sem ds T Q := match ds with | [.int a, .int b] => (-(2 ^ 62) ≤ a ∧ a < 2 ^ 62 ∧ -(2 ^ 62) ≤ b ∧ b < 2 ^ 62) ∧ Q (rngD a b) T | _ => False
  mono h w := by
    split at w
    · exact ⟨w.1, h _ _ w.2⟩
    · exact w
  sound {Ω C F k sc it tg es ms} W hs ha := by
    split at hs
    · rename_i x y z hx
      split at hs
      · rename_i hb
        cases hs
        obtain ⟨p, q, rfl⟩ := asCall_ok hx
        simp only [Bool.and_eq_true] at hb
        obtain ⟨⟨hb, n1⟩, n2⟩ := hb
        obtain ⟨rfl, hg, hbs⟩ := blt_ok hb
        obtain ⟨m, n, rfl, ⟨t, a1, a2⟩, u, b1, b2⟩ := all2_2 ha
        refine ⟨fun W => iRng2 (tCons (t W) (tCons (u W) tNil)), fun X W' g tk => pi_range2 (g.gl hg) (by rw [g.eM]; exact W.bs _ hbs) (pa_cons (a1 X W' g tk) (pa_cons (b1 X W' g tk) pa_nil (star_cons n2)) (star_cons n1)) (by rw [star_cons n1, star_cons n2]; rfl) (star_cons n2), fun Bg M T H σ G Qd Xq R W en w post px => ?_⟩
        refine a2 _ _ _ _ _ _ _ _ _ _ en w (fun x vx B1 T1 H1 e1 s1 rx w1 => ?_) px
        refine b2 _ _ _ _ _ _ _ _ _ _ (en.ext e1 s1) w1 (fun y vy B2 T2 H2 e2 s2 ry w2 => ?_) (px.ext e1)
        cases x <;> cases y <;> first
          | exact False.elim w2
          | skip
        rename_i lo n
        exact ⟨lo, n, by rw [rx.int_inv, ry.int_inv], w2.1, post _ (Itr lo (n - lo).toNat) [] _ _ _ (e1.trans e2) s2 (fun q hq => nomatch hq) (walks_rng lo _) w2.2⟩
      · cases hs
    · cases hs
def revI : IkS := ik1S (fun C sc it _ => blt1 "reversed" C sc it) (fun d => (lstOf d).map List.reverse) (fun _ => True) (by
  intro Ω C F k sc it tg x m W hs h1
  obtain ⟨p, q, rfl, hg, hbs, hn⟩ := blt1_ok hs
  obtain ⟨t, a1, a2⟩ := h1
  refine ⟨fun W => iRev Ω.K (tCons (t W) tNil), fun X W' g tk => ?_, fun Bg M T H σ G Qd Xq R W en w post px => ?_⟩
  · have := pi_reversed (X := X) (tg := tg) (p := p) (pos := q) (g.gl hg) (by rw [g.eM]; exact W.bs _ hbs) (pa_cons (a1 X W' g tk) pa_nil (star_cons hn)) (star_cons hn)
    rw [g.eK] at this
    exact this
  · refine a2 _ _ _ _ _ _ _ _ _ _ en w (fun x vx B1 T1 H1 e1 s1 rx w1 => ?_) px
    obtain ⟨_, ys, h1, w1⟩ := w1
    cases hq : lstOf x with
    | none => rw [hq] at h1; cases h1
    | some xs =>
      rw [hq] at h1
      cases h1
      obtain rfl := lstOf_inv hq
      obtain ⟨p, vs, rfl, hp, n1, n2, rl⟩ := rx.lst_inv
      exact ⟨p, vs, rfl, .inl (.inl hp), post xs.reverse (Itv Ω.K p vs.length) [(.ref p, .lst xs)] _ _ _ e1 s1 (fun q hq => by cases List.mem_singleton.mp hq; exact rx) (walks_rev p xs _ rl.len) w1⟩)
def enumI : IkS := ik1S (fun C sc it tg => if (asTup tg).isSome then blt1 "enumerate" C sc it else none) (fun d => (lstOf d).map fun xs => xs.zipIdx.map fun p => .tup [.int (p.2 : Nat), p.1]) (fun _ => True) (by
  intro Ω C F k sc it tg x m W hs h1
  split at hs
  · rename_i ht
    obtain ⟨p, q, rfl, hg, hbs, hn⟩ := blt1_ok hs
    obtain ⟨es, he⟩ := Option.isSome_iff_exists.mp ht
    obtain ⟨j, pt, rfl⟩ := asTup_ok he
    obtain ⟨t, a1, a2⟩ := h1
    refine ⟨fun W => iEnum Ω.K (tCons (t W) tNil), fun X W' g tk => ?_, fun Bg M T H σ G Qd Xq R W en w post px => ?_⟩
    · have := pi_enum (X := X) (p := p) (pos := q) (tpos := pt) (elts := es) (kk := j) (g.gl hg) (by rw [g.eM]; exact W.bs _ hbs) (pa_cons (a1 X W' g tk) pa_nil (star_cons hn)) (star_cons hn)
      rw [g.eK] at this
      exact this
    · refine a2 _ _ _ _ _ _ _ _ _ _ en w (fun x vx B1 T1 H1 e1 s1 rx w1 => ?_) px
      obtain ⟨_, ys, h1, w1⟩ := w1
      cases hq : lstOf x with
      | none => rw [hq] at h1; cases h1
      | some xs =>
        rw [hq] at h1
        cases h1
        obtain rfl := lstOf_inv hq
        obtain ⟨p, vs, rfl, hp, n1, n2, rl⟩ := rx.lst_inv
        exact ⟨p, vs, rfl, .inl (.inl hp), post _ (Ite Ω.K p) [(.ref p, .lst xs)] _ _ _ e1 s1 (fun q hq => by cases List.mem_singleton.mp hq; exact rx) (walks_enum p xs) w1⟩
  · cases hs)
def zipI : IkS where
  shape C sc it tg := match asCall it with
    | some (x, [y, z]) => if blt C sc x "zip" && nst y && nst z && (asTup tg).isSome then some [y, z] else none
    | _ => none
  sem ds T Q := match ds with | [.lst xs, .lst ys] => Q (List.zipWith (fun x y => .tup [x, y]) xs ys) T | _ => False
  mono h w := by
    split at w
    · exact h _ _ w
    · exact w
  sound {Ω C F k sc it tg es ms} W hs ha := by
    split at hs
    · rename_i x y z hx
      split at hs
      · rename_i hb
        cases hs
        obtain ⟨p, q, rfl⟩ := asCall_ok hx
        simp only [Bool.and_eq_true] at hb
        obtain ⟨⟨⟨hb, n1⟩, n2⟩, ht⟩ := hb
        obtain ⟨rfl, hg, hbs⟩ := blt_ok hb
        obtain ⟨es, he⟩ := Option.isSome_iff_exists.mp ht
        obtain ⟨j, pt, rfl⟩ := asTup_ok he
        obtain ⟨m, n, rfl, ⟨t, a1, a2⟩, u, b1, b2⟩ := all2_2 ha
        refine ⟨fun W => iZip Ω.K (tCons (t W) (tCons (u W) tNil)), fun X W' g tk => ?_, fun Bg M T H σ G Qd Xq R W en w post px => ?_⟩
        · have := pi_zip (X := X) (p := p) (pos := q) (tpos := pt) (elts := es) (kk := j) (g.gl hg) (by rw [g.eM]; exact W.bs _ hbs) (pa_cons (a1 X W' g tk) (pa_cons (b1 X W' g tk) pa_nil (star_cons n2)) (star_cons n1)) (star_cons n1) (star_all (by show (nst z && nstL []) = true; rw [n2]; rfl))
          rw [g.eK] at this
          exact this
        · refine a2 _ _ _ _ _ _ _ _ _ _ en w (fun x vx B1 T1 H1 e1 s1 rx w1 => ?_) px
          refine b2 _ _ _ _ _ _ _ _ _ _ (en.ext e1 s1) w1 (fun y vy B2 T2 H2 e2 s2 ry w2 => ?_) (px.ext e1)
          cases x <;> cases y <;> first
            | exact False.elim w2
            | skip
          rename_i xs ys
          have rx := rep_ext e2 rx
          obtain ⟨p, vs, rfl, hp, n1, n2, rl⟩ := rx.lst_inv
          obtain ⟨q, ws, rfl, hq, n3, n4, rm⟩ := ry.lst_inv
          refine ⟨p, q, vs, ws, rfl, .inl (.inl hp), .inl (.inl hq), post _ (Itz Ω.K p q) [(.ref p, .lst xs), (.ref q, .lst ys)] _ _ _ (e1.trans e2) s2 (fun z hz => ?_) (walks_zip p q xs ys) w2⟩
          rcases List.mem_cons.mp hz with rfl | hz
          · exact rx
          · cases List.mem_singleton.mp hz
            exact ry
      · cases hs
    · cases hs
end NX
set_option Elab.async false
set_option linter.all false
set_option maxRecDepth 100000
set_option maxHeartbeats 4000000
/-! The wider small language: simple statements. -/
namespace NX
open PySem PySem.Spec PyProof.Rows L2 OC
/-- the exceptions of a statement's parts -/
theorem Kont.px {Ω : Wd} {B0 M Bg : AP} {T0 T : TS} {H0 H : Hp} {σ : L2.St} {G : GV} {gs : List (V × D)} {kd : Ks} {W : WX} {Dn : Ends} (ko : Kont Ω B0 T0 H0 M gs kd W Dn) (en : EnvS Ω B0 T0 H0 M Bg T H σ G gs) : PostX Ω Bg M T H (fun x T1 => kd.ex x G T1) (fun c d H' => W c d σ H') := fun x c d B1 T1 H1 e1 s1 r q => ko.ex _ _ _ _ _ _ _ _ (en.grow e1 s1) r q
theorem ss_pre {Ω : Wd} {C : Ck} {k : Nat} {sc : Scope} {st : Stmt} {m : MS} (h : SS Ω C k sc st m) : SS Ω C k sc st fun G T K => True ∧ m G T K := by
  obtain ⟨t, h1, h2⟩ := h
  exact ⟨t, h1, fun B0 T0 H0 M Bg T H σ G gs kd W Dn en w ko => h2 _ _ _ _ _ _ _ _ _ _ _ _ _ en w.2 ko⟩
theorem repL_set {K : PySem.W.Frag} {Bg M : AP} {H : Hp} {v : V} {d : D} : ∀ {vs : List V} {ds : List D} (n : Nat), RepL K Bg M H vs ds → Rep K Bg M H v d → RepL K Bg M H (vs.set n v) (ds.set n d)
  | _, _, _, .nil, _ => .nil
  | _, _, 0, .cons _ t, r => .cons r t
  | _, _, n + 1, .cons q t, r => .cons q (repL_set n t r)
/-- of one part -/
def st1S (sh : Ck → Scope → Stmt → Option Expr) (g : D → MS) (gm : ∀ {d : D} {G : GV} {T : TS} {K K' : Ks}, (∀ G T, K.nx G T → K'.nx G T) → (∀ d T, K.rt d T → K'.rt d T) → (∀ G T, K.bk G T → K'.bk G T) → (∀ G T, K.ct G T → K'.ct G T) → (∀ x G T, K.ex x G T → K'.ex x G T) → g d G T K → g d G T K')
    (snd : ∀ {Ω : Wd} {C : Ck} {F : List Ct} {k : Nat} {sc : Scope} {st : Stmt} {x : Expr} {m : VT}, Wr Ω C F k → sh C sc st = some x → SE Ω C k sc x m → SS Ω C k sc st fun G T K => m G T (fun d T1 => g d G T1 K) fun x T1 => K.ex x G T1) : StS where
  shape C sc st := (sh C sc st).map fun x => [x]
  pre _ := True
  sem _ ds G T K := match ds with | [d] => g d G T K | _ => False
  mono h1 h2 h3 h4 h5 w := by
    split at w
    · exact gm h1 h2 h3 h4 h5 w
    · exact w
  sound W hs ha := by
    obtain ⟨x, h1, rfl⟩ := map1 hs
    obtain ⟨m, rfl, h2⟩ := all2_1 ha
    exact ss_pre (snd W h1 h2)
def asgSh (i : Nat) (C : Ck) (sc : Scope) (st : Stmt) : Option Expr := match asAsg st with
  | some (.Name x _, v, _) => if slotOf C sc i x && (noComp v || isCell sc x && (lcSc v).isSome) then some v else none
  | _ => none
/-- x = e -/
def asgS (i : Nat) : StS := st1S (asgSh i) (fun d G T K => K.nx (G.set i (some d)) T) (fun h _ _ _ _ w => h _ _ w) (by
  intro Ω C F k sc st x m W hs h1
  unfold asgSh at hs
  split at hs
  · rename_i y py v pos hx
    obtain rfl := asAsg_ok hx
    split at hs
    · rename_i hb
      cases hs
      simp only [Bool.and_eq_true, Bool.or_eq_true] at hb
      obtain ⟨hsl, hc⟩ := hb
      obtain ⟨t, a1, a2⟩ := h1
      refine ⟨_, fun X W g tk => ?_, oks_asg a2⟩
      obtain ⟨n1, n2, n3, n4⟩ := slot_ok g hsl
      rcases hc with hc | hc
      · exact ps_set n1 n2 n3 (a1 X W g.g tk) (sw_no hc) n4
      · refine ps_set n1 n2 n3 (a1 X W g.g tk) ?_ n4
        cases x <;> first
          | (cases hc.2; done)
          | skip
        exact sw_cell (by rw [g.g.esc]; exact g.kind) (by rw [g.g.esc]; exact isCell_ok hc.1)
    · cases hs
  · cases hs)
/-- e -/
def dropS : StS := st1S (fun _ _ st => match asEx st with | some (v, _) => if noComp v then some v else none | none => none) (fun _ G T K => K.nx G T) (fun h _ _ _ _ w => h _ _ w) (by
  intro Ω C F k sc st x m W hs h1
  split at hs
  · rename_i v pos hx
    obtain rfl := asEx_ok hx
    split at hs
    · rename_i hb
      cases hs
      obtain ⟨t, a1, a2⟩ := h1
      exact ⟨_, fun X W g tk => ps_expr (a1 X W g.g tk) (sw_no hb), fun B0 T0 H0 M Bg T H σ G gs kd W Dn en w ko => a2 _ _ _ _ _ _ _ _ _ _ en.env w (fun d v B1 T1 H1 e1 s1 r q => ko.nx _ _ _ _ _ (en.grow e1 s1) q) (ko.px en)⟩
    · cases hs
  · cases hs)
/-- return e -/
def retS : StS := st1S (fun _ _ st => match asRet st with | some v => v | none => none) (fun d _ T K => K.rt d T) (fun _ h _ _ _ w => h _ _ w) (by
  intro Ω C F k sc st x m W hs h1
  split at hs
  · rename_i v hx
    cases hs
    obtain ⟨p, rfl⟩ := asRet_ok hx
    obtain ⟨t, a1, a2⟩ := h1
    exact ⟨_, fun X W g tk => ps_ret (a1 X W g.g tk), fun B0 T0 H0 M Bg T H σ G gs kd W Dn en w ko => a2 _ _ _ _ _ _ _ _ _ _ en.env w (fun d v B1 T1 H1 e1 s1 r q => ko.rt _ _ _ _ _ (en.ext.trans e1) s1 r q) (ko.px en)⟩
  · cases hs)
/-- of no part -/
def st0S (sh : Ck → Scope → Stmt → Bool) (g : MS) (gm : ∀ {G : GV} {T : TS} {K K' : Ks}, (∀ G T, K.nx G T → K'.nx G T) → (∀ d T, K.rt d T → K'.rt d T) → (∀ G T, K.bk G T → K'.bk G T) → (∀ G T, K.ct G T → K'.ct G T) → (∀ x G T, K.ex x G T → K'.ex x G T) → g G T K → g G T K')
    (snd : ∀ {Ω : Wd} {C : Ck} {F : List Ct} {k : Nat} {sc : Scope} {st : Stmt}, Wr Ω C F k → sh C sc st = true → SS Ω C k sc st g) : StS where
  shape C sc st := if sh C sc st then some [] else none
  pre _ := True
  sem _ ds G T K := match ds with | [] => g G T K | _ => False
  mono h1 h2 h3 h4 h5 w := by
    split at w
    · exact gm h1 h2 h3 h4 h5 w
    · exact w
  sound W hs ha := by
    split at hs
    · rename_i h
      cases hs
      cases ha
      exact ss_pre (snd W h)
    · cases hs
def retNS : StS := st0S (fun _ _ st => match asRet st with | some none => true | _ => false) (fun _ T K => K.rt .non T) (fun _ h _ _ _ w => h _ _ w) (by
  intro Ω C F k sc st W hs
  split at hs
  · rename_i hx
    obtain ⟨p, rfl⟩ := asRet_ok hx
    exact ⟨fun _ => tRetN, fun X W g tk => ps_retN, fun B0 T0 H0 M Bg T H σ G gs kd W Dn en w ko => ko.rt _ _ _ _ _ en.ext en.env.sm .non w⟩
  · cases hs)
/-- a, b = e, f -/
def parS (i j : Nat) : StS where
  shape C sc st := match asAsg st with
    | some (t, v, _) => (match asPair t, asTup v with
      | some (x, px, y, py), some [u, z] => if decide (C.N[i]? = some x) && decide (C.N[j]? = some y) && decide (i ≠ j) && isLoc sc x && isLoc sc y && (py.line == px.line) && decide (x ≠ y) && nst u && nst z && !([u, z].all (foldedForSure 8)) && !([u, z].all (constantsAlone 8)) then some [u, z] else none
      | _, _ => none)
    | none => none
  pre _ := True
  sem _ ds G T K := match ds with | [a, b] => K.nx ((G.set i (some a)).set j (some b)) T | _ => False
  mono h1 _ _ _ _ w := by
    split at w
    · exact h1 _ _ w
    · exact w
  sound {Ω C F k sc st es ms} W hs ha := by
    split at hs
    · rename_i t v pos hx
      obtain rfl := asAsg_ok hx
      split at hs
      · rename_i x px y py u z hp ht
        split at hs
        · rename_i h
          cases hs
          obtain ⟨kt, pt, rfl⟩ := asPair_ok hp
          obtain ⟨k2, pt2, rfl⟩ := asTup_ok ht
          simp only [Bool.and_eq_true, decide_eq_true_eq, Bool.not_eq_true'] at h
          obtain ⟨⟨⟨⟨⟨⟨⟨⟨⟨⟨hi, hj⟩, hij⟩, lx⟩, ly⟩, hl⟩, hxy⟩, nu⟩, nz⟩, hf⟩, hc⟩ := h
          obtain ⟨m, n, rfl, ⟨ta, a1, a2⟩, tb, b1, b2⟩ := all2_2 ha
          refine ⟨fun W => tPar i j (tCons (ta W) (tCons (tb W) tNil)), fun X W g tk => ?_, fun B0 T0 H0 M Bg T H σ G gs kd W Dn en w ko => ?_⟩
          · have ex : X.env.scope.names.lookup x = some .local := by rw [g.g.esc]; exact isLoc_ok lx
            have ey : X.env.scope.names.lookup y = some .local := by rw [g.g.esc]; exact isLoc_ok ly
            exact ps_par g.g.calm (by rw [g.g.eN]; exact g.g.nd) (by rw [g.g.eN]; exact hi) (by rw [g.g.eN]; exact hj) hij ex ey (pa_cons (a1 X W g.g tk) (pa_cons (b1 X W g.g tk) pa_nil (star_cons nz)) (star_cons nu))
              (ss_par (by rw [g.g.esc]; exact g.kind) ex ey hl hxy nu nz hf hc) (sws_no rfl)
          · refine a2 _ _ _ _ _ _ _ _ _ _ en.env w.2 (fun d v B1 T1 H1 e1 s1 r q => ?_) (ko.px en)
            refine b2 _ _ _ _ _ _ _ _ _ _ (en.grow e1 s1).env q (fun d2 v2 B2 T2 H2 e2 s2 r2 q2 => ?_) (ko.px (en.grow e1 s1))
            exact ⟨_, _, rfl, ko.nx _ _ _ _ _ ((((en.grow e1 s1).grow e2 s2).put (rep_ext e2 r) i).put r2 j) q2⟩
        · cases hs
      · cases hs
    · cases hs
/-- a, b, c = e, f, g -/
def par3S (i j l : Nat) : StS where
  shape C sc st := match asAsg st with
    | some (t, v, _) => (match asTrip t, asTup v with
      | some (x, px, y, py, z, pz), some [u, q, r] => if decide (C.N[i]? = some x) && decide (C.N[j]? = some y) && decide (C.N[l]? = some z) && decide (i ≠ j) && decide (i ≠ l) && decide (j ≠ l) && isLoc sc x && isLoc sc y && isLoc sc z && (py.line == px.line) && (pz.line == px.line) &&
    decide (x ≠ y) && decide (x ≠ z) && decide (y ≠ z) && nst u && nst q && nst r && !([u, q, r].all (foldedForSure 8)) && !([u, q, r].all (constantsAlone 8)) then some [u, q, r] else none
      | _, _ => none)
    | none => none
  pre _ := True
  sem _ ds G T K := match ds with | [a, b, c] => K.nx (((G.set i (some a)).set j (some b)).set l (some c)) T | _ => False
  mono h1 _ _ _ _ w := by
    split at w
    · exact h1 _ _ w
    · exact w
  sound {Ω C F k sc st es ms} W hs ha := by
    split at hs
    · rename_i t v pos hx
      obtain rfl := asAsg_ok hx
      split at hs
      · rename_i x px y py z pz u q r hp ht
        split at hs
        · rename_i h
          cases hs
          obtain ⟨kt, pt, rfl⟩ := asTrip_ok hp
          obtain ⟨k2, pt2, rfl⟩ := asTup_ok ht
          simp only [Bool.and_eq_true, decide_eq_true_eq, Bool.not_eq_true'] at h
          obtain ⟨⟨⟨⟨⟨⟨⟨⟨⟨⟨⟨⟨⟨⟨⟨⟨⟨⟨hi, hj⟩, hl⟩, hij⟩, hil⟩, hjl⟩, lx⟩, ly⟩, lz⟩, l1⟩, l2⟩, hxy⟩, hxz⟩, hyz⟩, nu⟩, nq⟩, nr⟩, hf⟩, hc⟩ := h
          obtain ⟨m, n, o, rfl, ⟨ta, a1, a2⟩, ⟨tb, b1, b2⟩, tc, c1, c2⟩ := all2_3 ha
          refine ⟨fun W => tPar3 i j l (tCons (ta W) (tCons (tb W) (tCons (tc W) tNil))), fun X W g tk => ?_, fun B0 T0 H0 M Bg T H σ G gs kd W Dn en w ko => ?_⟩
          · have ex : X.env.scope.names.lookup x = some .local := by rw [g.g.esc]; exact isLoc_ok lx
            have ey : X.env.scope.names.lookup y = some .local := by rw [g.g.esc]; exact isLoc_ok ly
            have ez : X.env.scope.names.lookup z = some .local := by rw [g.g.esc]; exact isLoc_ok lz
            exact ps_par3 g.g.calm (by rw [g.g.eN]; exact g.g.nd) (by rw [g.g.eN]; exact hi) (by rw [g.g.eN]; exact hj) (by rw [g.g.eN]; exact hl) hij hil hjl ex ey ez
              (pa_cons (a1 X W g.g tk) (pa_cons (b1 X W g.g tk) (pa_cons (c1 X W g.g tk) pa_nil (star_cons nr)) (star_cons nq)) (star_cons nu))
              (ss_par3 (by rw [g.g.esc]; exact g.kind) ex ey ez l1 l2 hxy hxz hyz nu nq nr hf hc) (sws_no rfl)
          · refine a2 _ _ _ _ _ _ _ _ _ _ en.env w.2 (fun d v B1 T1 H1 e1 s1 r q => ?_) (ko.px en)
            have en1 := en.grow e1 s1
            refine b2 _ _ _ _ _ _ _ _ _ _ en1.env q (fun d2 v2 B2 T2 H2 e2 s2 r2 q2 => ?_) (ko.px en1)
            have en2 := en1.grow e2 s2
            refine c2 _ _ _ _ _ _ _ _ _ _ en2.env q2 (fun d3 v3 B3 T3 H3 e3 s3 r3 q3 => ?_) (ko.px en2)
            exact ⟨_, _, _, rfl, ko.nx _ _ _ _ _ ((((en2.grow e3 s3).put (rep_ext (e2.trans e3) r) i).put (rep_ext e3 r2) j).put r3 l) q3⟩
        · cases hs
      · cases hs
    · cases hs
/-- a, (b, c) = e -/
def unpS (tg : Tn) : StS := st1S (fun C sc st => match asAsg st with
    | some (t, v, _) => if chkTn C.N sc (fun _ => true) tg t && (asTup t).isSome && noComp v && swN sc t v then some v else none
    | none => none) (fun d G T K => match bindN tg d G with | some G1 => K.nx G1 T | none => False) (fun h _ _ _ _ w => by
    split at w
    · exact h _ _ w
    · exact w) (by
  intro Ω C F k sc st x m W hs h1
  split at hs
  · rename_i t v pos hx
    obtain rfl := asAsg_ok hx
    split at hs
    · rename_i hb
      cases hs
      simp only [Bool.and_eq_true] at hb
      obtain ⟨⟨⟨ht, h2⟩, n1⟩, n2⟩ := hb
      obtain ⟨es, he⟩ := Option.isSome_iff_exists.mp h2
      obtain ⟨j, p, rfl⟩ := asTup_ok he
      obtain ⟨te, a1, a2⟩ := h1
      refine ⟨fun W => tAsg (te W) (gOfN Ω.K tg), fun X W g tk => ?_, fun B0 T0 H0 M Bg T H σ G gs kd W Dn en w ko => ?_⟩
      · have := pg_ofN (X := X) (C := C) g.g.eN g.g.nd g.g.calm g.g.esc (fun x _ => g.fn x) tg ht
        rw [g.g.eK] at this
        exact ps_asg (a1 X W g.g tk) this (sws_no n1) (ss_swN g.g.esc n2) rfl
      · refine a2 _ _ _ _ _ _ _ _ _ _ en.env w (fun d v B1 T1 H1 e1 s1 r q => ?_) (ko.px en)
        split at q
        · rename_i G1 hb
          have en1 := en.grow e1 s1
          exact ok_gN tg en1.env r hb fun σ1 en2 _ _ => ko.nx _ _ _ _ _ ⟨en1.ext, en2, en1.gst⟩ q
        · exact q.elim
    · cases hs
  · cases hs)
/-- xs[i] = e, of a list -/
theorem ss_sub {x y e : Expr} {p : Pos} {env : Env} : swappedStores [.Subscript x y p] e env = pure none := by cases e <;> rfl
def setixS : StS where
  shape _ _ st := match asAsg st with
    | some (t, v, _) => (match asSub t with
      | some (x, y) => if !isSlc y && noComp v then some [v, x, y] else none
      | none => none)
    | none => none
  pre _ := True
  sem _ ds G T K := match ds with | [d, .ob a, .int j] => ∃ xs n, T a = some (.lst xs) ∧ ixN xs.length j = some n ∧ K.nx G (T.put a (.lst (xs.set n d))) | _ => False
  mono h _ _ _ _ w := by
    split at w
    · obtain ⟨xs, n, h1, h2, h3⟩ := w
      exact ⟨xs, n, h1, h2, h _ _ h3⟩
    · exact w
  sound {Ω C F k sc st es ms} W hs ha := by
    split at hs
    · rename_i t v pos hx
      obtain rfl := asAsg_ok hx
      split at hs
      · rename_i x y hsb
        split at hs
        · rename_i hb
          cases hs
          obtain ⟨p, rfl⟩ := asSub_ok hsb
          simp only [Bool.and_eq_true, Bool.not_eq_true'] at hb
          obtain ⟨n0, n1⟩ := hb
          obtain ⟨m, m2, m3, rfl, ⟨te, a1, a2⟩, ⟨tb, b1, b2⟩, tc, c1, c2⟩ := all2_3 ha
          refine ⟨fun W => tAsg (te W) (gSub (tb W) (tc W) rSetL), fun X W g tk => ps_asg (a1 X W g.g tk) (pg_sub (b1 X W g.g tk) (c1 X W g.g tk) set_list (by intro v; cases y <;> first | rfl | (cases n0; done))) (sws_no n1) ss_sub rfl, fun B0 T0 H0 M Bg T H σ G gs kd W Dn en w ko => ?_⟩
          refine a2 _ _ _ _ _ _ _ _ _ _ en.env w.2 (fun d v B1 T1 H1 e1 s1 r w1 => ?_) (ko.px en)
          have en1 := en.grow e1 s1
          refine b2 _ _ _ _ _ _ _ _ _ _ en1.env w1 (fun b vb B2 T2 H2 e2 s2 rb w2 => ?_) (ko.px en1)
          have en2 := en1.grow e2 s2
          refine c2 _ _ _ _ _ _ _ _ _ _ en2.env w2 (fun c vc B3 T3 H3 e3 s3 rc w3 => ?_) (ko.px en2)
          have en3 := en2.grow e3 s3
          cases b <;> first
            | exact False.elim w3
            | skip
          cases c <;> first
            | exact False.elim w3
            | skip
          obtain ⟨xs, n, h1, h2, w3⟩ := w3
          cases rb
          obtain ⟨us, h3, rl⟩ := s3.ob _ _ h1
          have x : Ext B3 T3 H3 B3 (T3.put _ (.lst (xs.set n d))) (L2.upd H3 _ (.lst (us.set n v))) := Ext.wr (some_ne h1)
          have rs : RepL Ω.K B3 (lv T3 M) H3 (us.set n v) (xs.set n d) := repL_set n rl (rep_ext (e2.trans e3) r)
          have s4 := s3.put (u := .lst (xs.set n d)) (.inr (some_ne h1)) ⟨us.set n v, upd_same, repL_ext x rs⟩
          refine ⟨_, us, _, n, rfl, rc.int_inv, h3, by rw [rl.len]; exact h2, ko.nx _ _ _ _ _ (en3.grow x s4) w3⟩
        · cases hs
      · cases hs
    · cases hs
/-! ### beside the text -/
/-- the list in a slot changes no more -/
def frzG (i : Nat) : GhS where
  sem G T Q := match OC.getV G i with
    | some (.ob a) => ∃ xs, T a = some (.lst xs) ∧ Q (G.set i (some (.lst xs))) (T.cut a)
    | some (.lst _) => Q G T
    | _ => False
  mono h w := by
    split at w
    · obtain ⟨xs, a, b⟩ := w
      exact ⟨xs, a, h _ _ b⟩
    · exact h _ _ w
    · exact w
  sound {Ω B0 M Bg T0 T H0 H σ G gs Q} en w := by
    split at w
    · rename_i a hx
      obtain ⟨xs, h1, q⟩ := w
      refine ⟨_, _, ?_, q⟩
      have x : Ext Bg T H Bg (T.cut a) H := Ext.less cut_sub
      have en1 := en.grow x (en.env.sm.less cut_sub)
      obtain ⟨v, hv, rv⟩ := en.env.val i _ hx
      cases rv
      have z := (en1.put (en.env.sm.freeze h1) i)
      have hi : i < σ.length := (List.getElem?_eq_some_iff.mp hv).1
      have es : σ.set i (some (.ref a)) = σ := by
        apply List.ext_getElem?
        intro j
        by_cases z : i = j
        · subst z
          rw [List.getElem?_set_self hi, hv]
        · rw [List.getElem?_set_ne z]
      rw [es] at z
      exact z
    · exact ⟨G, T, en, w⟩
    · exact w.elim
end NX
set_option Elab.async false
set_option linter.all false
set_option maxRecDepth 100000
set_option maxHeartbeats 4000000
/-! The end of a law: from the law's promise to the row. -/
namespace NX
open PySem PySem.Spec PyProof.Rows L2 OC
theorem law_fok {P : Program} {w : World} {K : PySem.W.Frag} {mg mb : Str → Option Value} {k : Nat} {fa a : Addr} {x : Str} {c : Ct} {s1 : Shared} {vs : List Value} {ns : List Int}
    (KX : K.In s1.heap) (hns : s1.heap.Ns mainGlobals mg) (hb : s1.heap.Ns builtinsNs mb) (hbb : ∀ x : Str, x ≠ "__name__" → mb x = bootBuiltins x) (hlim : s1.heap.NoLimit) (hg : s1.gens = #[]) (hx : mg x = some (.ref fa))
    (ha : s1.heap.get? a = some { cls := .type "list", data := .seq vs.toArray }) (hi : IntsAre vs ns) (hl : ns.length ≤ sizeLine) (hr : Room k callerA) (F : ∀ base : Heap, K.In base → base.Ns mainGlobals mg → FOK ⟨P, w, K, mg, base⟩ k (.fn x) c) (hc : c.c [.scr ns] TS.none (fun d _ => d = .bl true) noX) :
    codeAny (model P w) callerA (.call (.ref fa) ⟨[.ref a], []⟩) (fun r s' => r = .ok (.ret (.bool true)) ∧ OldK s1.heap s'.heap ∧ s'.os = s1.os ∧ AllBare s'.gens) s1 := by
  have go : ∀ H : Hp, (∀ b, H b = none ∨ ∃ o xs, H b = some (.frz o (.lst xs))) → Rep K (fun _ => False) (lv TS.none fun _ => False) H (.ref a) (.scr ns) → HOk P w H s1.heap → (∀ b, H b ≠ none → b = a) → (H a ≠ none → K.lookup a = none) →
      codeAny (model P w) callerA (.call (.ref fa) ⟨[.ref a], []⟩) (fun r s' => r = .ok (.ret (.bool true)) ∧ OldK s1.heap s'.heap ∧ s'.os = s1.os ∧ AllBare s'.gens) s1 := by
    intro H hO hS hok hA hK
    have free : ∀ {b : Addr} {o : Obj} {es : Array DictEntry} {ep : Nat}, s1.heap.get? b = some o → o.data = .dict es ep → H b = none := fun {b o es ep} e d => by
      cases q : H b with
      | none => rfl
      | some u =>
        obtain rfl : b = a := hA b (fun z => by rw [q] at z; cases z)
        rw [ha] at e
        cases e
        exact absurd d (fun z => by cases z)
    have low : ∀ {b : Addr} {m : Str → Option Value}, s1.heap.Ns b m → (hidT s1.heap H).Ns b m := by
      rintro b m ⟨o, es, ep, e, d, r⟩
      exact ⟨o, es, ep, hidT_get e (free e d), d, r⟩
    have kin : K.In (hidT s1.heap H) := fun b o e => hidT_get (KX b o e) (by
      cases q : H b with
      | none => rfl
      | some u =>
        have nz : H b ≠ none := fun z => by rw [q] at z; cases z
        obtain rfl : b = a := hA b nz
        rw [hK nz] at e
        cases e)
    have lim : (hidT s1.heap H).NoLimit := by
      obtain ⟨mc, h1, h2⟩ := hlim
      exact ⟨mc, low h1, h2⟩
    obtain ⟨f, fd, ps, e1, e2, e3, e4, e5⟩ := F (hidT s1.heap H) kin (low hns)
    have e1 : mg x = some (.ref f) := e1
    rw [hx] at e1
    cases e1
    have hps : ps.length = 1 := by rw [e4, ← c.len hc]; rfl
    have e0 : Env0 P w K mg (hidT s1.heap H) callerA [] s1 H :=
      ⟨rfl, ⟨kin, low hns, ⟨mb, low hb, hbb⟩, lim⟩, fun b o e => of_hidT e, Nat.le_of_eq (hidT_size _ _), trivial, fun b hb => (nomatch hb), hok, .of_eq hg⟩
    have bind := e3 s1 [.ref a] KX (by rw [hps]; rfl)
    refine codeAny_mono (e5.run callerA [] s1 H ⟨[.ref a], []⟩ [.ref a] [.ref a] (fun v _ => v = .bl true) (fun _ _ _ => False) hr rfl e0 bind (.cons rfl .nil) ?_) fun r s' h => ?_
    · refine ⟨fun _ => False, fun _ => False, TS.none, [.scr ns], fun d _ => d = .bl true, noX, ⟨fun _ z => z.elim, fun a z => absurd rfl z, fun a o z => (nomatch z), fun _ z => z.elim⟩, .cons hS .nil, hc, fun d v B' T' H' _ _ r q => ?_, PostX.no⟩
      subst q
      exact r.bl_inv
    · cases r with
      | error e =>
        obtain ⟨_, _, _, _, _, _, _, _, _, _, _, _, z⟩ := h
        exact z.elim
      | ok fl =>
        cases fl with
        | next => exact h.elim
        | brk => exact h.elim
        | cont => exact h.elim
        | ret u =>
          obtain ⟨v, H', os, bare, un, hok', r', q⟩ := h
          cases q
          cases (show u = Value.bool true from r')
          refine ⟨rfl, OldK.of_keep fun b o e => ?_, os, bare⟩
          rcases hO b with z | ⟨ob, xs, z⟩
          · exact un.keep b o e z (fun y => (nomatch y)) (fun y => (nomatch y))
          · obtain ⟨k1, _⟩ := hok b _ z
            obtain ⟨k2, _⟩ := hok' b _ (un.frzs b ob _ z)
            exact k2.trans (k1.symm.trans e)
  have rv := vals_ints hi
  have nl : ∀ b, ¬ lv TS.none (fun _ => False) b := fun b z => z.elim (fun z => z rfl) fun z => z
  cases hk : K.lookup a with
  | some o =>
    have e := KX a o hk
    rw [ha] at e
    cases e
    refine go (fun _ => none) (fun _ => .inl rfl) (.scrK ⟨_, vs.toArray, _, hk, rfl, rfl, rfl, ?_, by simpa using rv⟩) (fun b u z => nomatch z) (fun b z => absurd rfl z) (fun z => absurd rfl z)
    rw [List.size_toArray, hi.length]
    exact hl
  | none =>
    refine go (fun b => if b = a then some (.frz { cls := .type "list", data := .seq vs.toArray } (.lst (ns.map V.int))) else none) (fun b => ?_) (.scr (if_pos rfl) (fun z => z) (nl a)) (fun b u z => ?_) (fun b z => ?_) (fun _ => hk)
    · by_cases q : b = a
      · exact .inr ⟨_, _, if_pos q⟩
      · exact .inl (if_neg q)
    · by_cases q : b = a
      · cases (if_pos q).symm.trans z
        subst q
        exact ⟨ha, by rw [List.length_map]; exact hl, vs, _, rv, ha⟩
      · cases (if_neg q).symm.trans z
    · by_cases q : b = a
      · exact q
      · exact absurd (if_neg q) z
theorem walkN {l : PySem.W.OpenLaw} {n k : Nat} {q : Program} {loose : List Str} {XP : (Str → Option Value) → Heap → Prop} {YP : World → Heap → Prop} {d : DefRec} {c : Ct} {x : Str} (hn : l.most = some n) (hn2 : n ≤ sizeLine) (hdf : d.params.defaults = []) (hx : d.name = x) (hr : Room k callerA)
    (F : ∀ (w : World) (mg : Str → Option Value) (h : Heap), YP w h → h.Ns mainGlobals mg → ∃ K : PySem.W.Frag, K.In h ∧ ∀ base : Heap, K.In base → base.Ns mainGlobals mg → FOK ⟨l.prog, w, K, mg, base⟩ k (.fn x) c)
    (hc : ∀ ns : List Int, ns.length ≤ n → c.c [.scr ns] TS.none (fun d _ => d = .bl true) noX) : PySem.W.WalkO q loose XP YP l.row.toRowW d [] (fun f vs => PySem.call f vs) :=
  Att.attach_call hn hdf fun w _ _ mg _ _ _ _ _ _ _ _ ns G Y _ _ _ hmg hobj hints hlen hg => by
    obtain ⟨K, KX, hF⟩ := F w mg _ Y G.T.g
    subst hx
    exact law_fok KX G.T.g G.T.b G.T.builtins G.T.nolimit hg hmg hobj hints (Nat.le_trans hlen hn2) hr hF (hc ns hlen)
end NX
set_option Elab.async false
set_option linter.all false
set_option maxRecDepth 100000
set_option maxHeartbeats 4000000
/-! Walking: a weaker wish; expressions and statements one by one; loops by what holds between two turns. -/
namespace NX
open PySem PySem.Spec PyProof.Rows L2 OC
theorem wpMap_mono {f : D → TS → (Option D → TS → Prop) → Prop} (hf : ∀ d T (P Q : Option D → TS → Prop), (∀ o T', P o T' → Q o T') → f d T P → f d T Q) {P Q : List D → TS → Prop} (h : ∀ d T', P d T' → Q d T') : ∀ (xs acc : List D) (T : TS), wpMap f xs acc T P → wpMap f xs acc T Q
  | [], acc, T, w => h _ _ w
  | x :: xs, acc, T, w => by
    simp only [wpMap] at w ⊢
    refine hf x _ _ _ (fun o T' z => ?_) w
    cases o with
    | some y => exact wpMap_mono hf h xs _ _ z
    | none => exact wpMap_mono hf h xs _ _ z
section
variable {F : List Ct}
mutual
theorem wpE_mono : ∀ (e : E) {G : GV} {T : TS} {P Q : QD} {X Y : XD}, (∀ d T', P d T' → Q d T') → (∀ x T', X x T' → Y x T') → wpE F e G T P X → wpE F e G T Q Y
  | .var i, G, T, P, Q, X, Y, h, hx, w => by
    simp only [wpE] at w ⊢
    split <;> simp_all
  | .op o as, G, T, P, Q, X, Y, h, hx, w => by
    simp only [wpE] at w ⊢
    exact wpEs_mono as (fun ds T' => o.mono h hx) hx w
  | .mth o r as, G, T, P, Q, X, Y, h, hx, w => by
    simp only [wpE] at w ⊢
    exact wpE_mono r (fun x T1 z => ⟨z.1, wpEs_mono as (fun ds T' => o.mono h hx) hx z.2⟩) hx w
  | .chain o p a b c, G, T, P, Q, X, Y, h, hx, w => by
    simp only [wpE] at w ⊢
    refine wpE_mono a (fun x T1 => wpE_mono b (fun y T2 => cop_mono fun r => dtru_mono fun q z => ?_) hx) hx w
    split
    · rename_i hq
      rw [if_pos hq] at z
      exact wpE_mono c (fun u T3 => cop_mono fun d => h d _) hx z
    · rename_i hq
      rw [if_neg hq] at z
      exact h _ _ z
  | .andv a b, G, T, P, Q, X, Y, h, hx, w => by
    simp only [wpE] at w ⊢
    refine wpE_mono a (fun x T1 => dtru_mono fun q z => ?_) hx w
    split
    · rename_i hq
      rw [if_pos hq] at z
      exact wpE_mono b h hx z
    · rename_i hq
      rw [if_neg hq] at z
      exact h _ _ z
  | .orv a b, G, T, P, Q, X, Y, h, hx, w => by
    simp only [wpE] at w ⊢
    refine wpE_mono a (fun x T1 => dtru_mono fun q z => ?_) hx w
    split
    · rename_i hq
      rw [if_pos hq] at z
      exact h _ _ z
    · rename_i hq
      rw [if_neg hq] at z
      exact wpE_mono b h hx z
  | .notv a, G, T, P, Q, X, Y, h, hx, w => by
    simp only [wpE] at w ⊢
    exact wpE_mono a (fun x T1 => dtru_mono fun q z => h _ _ z) hx w
  | .ite t a b, G, T, P, Q, X, Y, h, hx, w => by
    simp only [wpE] at w ⊢
    refine wpE_mono t (fun x T1 => dtru_mono fun q z => ?_) hx w
    split
    · rename_i hq
      rw [if_pos hq] at z
      exact wpE_mono a h hx z
    · rename_i hq
      rw [if_neg hq] at z
      exact wpE_mono b h hx z
  | .lc own elt tg k its ifs loc, G, T, P, Q, X, Y, h, hx, w => by
    simp only [wpE] at w ⊢
    refine wpEs_mono its (fun ds T1 => k.mono fun xs T2 z => ⟨z.1, ?_⟩) hx w
    refine wpMap_mono (fun d T3 A B hab y => ?_) (fun ys T6 y => mkL_mono h y) xs [] T2 z.2
    split
    · rename_i G1 hG
      rw [hG] at y
      exact wpIf_mono ifs (fun T4 u => wpE_mono elt (fun v T5 q => hab _ _ q) (fun _ _ z => z) u) (fun T4 u => hab _ _ u) y
    · rename_i hG
      rw [hG] at y
      exact y
theorem wpEs_mono : ∀ (es : List E) {G : GV} {T : TS} {P Q : List D → TS → Prop} {X Y : XD}, (∀ d T', P d T' → Q d T') → (∀ x T', X x T' → Y x T') → wpEs F es G T P X → wpEs F es G T Q Y
  | [], G, T, P, Q, X, Y, h, hx, w => by
    simp only [wpEs] at w ⊢
    exact h _ _ w
  | e :: es, G, T, P, Q, X, Y, h, hx, w => by
    simp only [wpEs] at w ⊢
    exact wpE_mono e (fun d T1 => wpEs_mono es (fun ds T2 z => h _ _ z) hx) hx w
theorem wpIf_mono : ∀ (es : List E) {G : GV} {T : TS} {A B A' B' : TS → Prop}, (∀ T', A T' → A' T') → (∀ T', B T' → B' T') → wpIf F es G T A B → wpIf F es G T A' B'
  | [], G, T, A, B, A', B', ha, hb, w => by
    simp only [wpIf] at w ⊢
    exact ha _ w
  | e :: es, G, T, A, B, A', B', ha, hb, w => by
    simp only [wpIf] at w ⊢
    refine wpE_mono e (fun d T1 => dtru_mono fun q z => ?_) (fun _ _ z => z) w
    split
    · rename_i hq
      rw [if_pos hq] at z
      exact wpIf_mono es ha hb z
    · rename_i hq
      rw [if_neg hq] at z
      exact hb _ z
end
variable {G : GV} {T : TS} {Q : QD} {X : XD} {K : Ks} {r : List S}
/-- an expression by what its value is; things stay as they are -/
theorem ev {e : E} (P : D → Prop) (h : wpE F e G T (fun d T' => T' = T ∧ P d) X) (k : ∀ d, P d → Q d T) : wpE F e G T Q X := wpE_mono e (fun d T' z => by obtain ⟨rfl, z⟩ := z; exact k d z) (fun _ _ z => z) h
/-! ### expressions -/
theorem es_nil {Q : List D → TS → Prop} : wpEs F [] G T Q X = Q [] T := by rw [wpEs]
theorem es_cons {e : E} {es : List E} {Q : List D → TS → Prop} : wpEs F (e :: es) G T Q X = wpE F e G T (fun d T1 => wpEs F es G T1 (fun ds T2 => Q (d :: ds) T2) X) X := by rw [wpEs]
theorem ex_var {i : Nat} : wpE F (.var i) G T Q X = match OC.getV G i with | some d => Q d T | none => False := by rw [wpE] <;> rfl
theorem ex_k {d : D} : wpE F (.op (kS d) []) G T Q X = Q d T := by rw [wpE, wpEs]; rfl
theorem ex_bin {o : BO} {a b : E} : wpE F (.op (binS o) [a, b]) G T Q X = wpE F a G T (fun x T1 => wpE F b G T1 (fun y T2 => OC.bop o x y fun d => Q d T2) X) X := by rw [wpE, wpEs]; simp only [wpEs]; rfl
theorem ex_cat {o : Bool} {a b : E} : wpE F (.op (catS o) [a, b]) G T Q X = wpE F a G T (fun x T1 => wpE F b G T1 (fun y T2 => ∃ xs ys, viewL T2 x = some xs ∧ viewL T2 y = some ys ∧ xs.length + ys.length ≤ sizeLine ∧ mkL o (xs ++ ys) T2 Q) X) X := by rw [wpE, wpEs]; simp only [wpEs]; rfl
theorem ex_neg {a : E} : wpE F (.op negS [a]) G T Q X = wpE F a G T (fun x T1 => match x with | .int i => Q (.int (-i)) T1 | _ => False) X := by rw [wpE, wpEs]; simp only [wpEs]; rfl
theorem ex_cmp {o : CO} {a b : E} : wpE F (.op (cmpS o) [a, b]) G T Q X = wpE F a G T (fun x T1 => wpE F b G T1 (fun y T2 => cmpD o x y T2 Q) X) X := by rw [wpE, wpEs]; simp only [wpEs]; rfl
theorem ex_tup {as : List E} : wpE F (.op tupS as) G T Q X = wpEs F as G T (fun ds T1 => Q (.tup ds) T1) X := by rw [wpE] <;> rfl
theorem ex_lst {o : Bool} {as : List E} : wpE F (.op (lstS o) as) G T Q X = wpEs F as G T (fun ds T1 => mkL o ds T1 Q) X := by rw [wpE] <;> rfl
theorem ex_mkbag {a b : E} : wpE F (.op mkbagS [a, b]) G T Q X = wpE F a G T (fun x T1 => wpE F b G T1 (fun y T2 => match x, y with | .int i, .int j => (0 ≤ i ∧ 0 ≤ j ∧ j < 2 ^ 32) ∧ Q .bag T2 | _, _ => False) X) X := by
  rw [wpE, wpEs]
  simp only [wpEs]
  congr 1
  funext x T1
  congr 1
  funext y T2
  cases x <;> cases y <;> rfl
theorem ex_ix {a b : E} : wpE F (.op ixS [a, b]) G T Q X = wpE F a G T (fun x T1 => wpE F b G T1 (fun y T2 => ixD x y T2 Q) X) X := by rw [wpE, wpEs]; simp only [wpEs]; rfl
theorem ex_ixn {n : Nat} {a : E} : wpE F (.op (ixnS n) [a]) G T Q X = wpE F a G T (fun x T1 => ixnD n x T1 Q) X := by rw [wpE, wpEs]; simp only [wpEs]; rfl
theorem ex_slL {z : SlK} {a b : E} : wpE F (.op (slLS z) [a, b]) G T Q X = wpE F a G T (fun x T1 => wpE F b G T1 (fun y T2 => match y with | .int i => z.g x (some i) none T2 Q | _ => False) X) X := by rw [wpE, wpEs]; simp only [wpEs]; rfl
theorem ex_slH {z : SlK} {a b : E} : wpE F (.op (slHS z) [a, b]) G T Q X = wpE F a G T (fun x T1 => wpE F b G T1 (fun y T2 => match y with | .int i => z.g x none (some i) T2 Q | _ => False) X) X := by rw [wpE, wpEs]; simp only [wpEs]; rfl
theorem ex_slK {i : Nat} {z : SlK} {a b : E} : wpE F (.op (slKS i z) [a, b]) G T Q X = wpE F a G T (fun x T1 => wpE F b G T1 (fun y T2 => match y with | .int j => z.g x (some (i : Int)) (some j) T2 Q | _ => False) X) X := by rw [wpE, wpEs]; simp only [wpEs]; rfl
theorem slL_g {o : Bool} {x : D} {p q : Option Int} : (slL o).g x p q T Q = ∃ xs, viewL T x = some xs ∧ mkL o (cutD xs p q) T Q := by first | (exact propext Iff.rfl)
theorem ex_call {f : Nat} {as : List E} : wpE F (.op (callS f) as) G T Q X = wpEs F as G T (fun ds T1 => match F[f]? with | some c => c.c ds T1 Q X | none => False) X := by rw [wpE] <;> rfl
theorem ex_bi {f : Bi} {as : List E} : wpE F (.op (biS f) as) G T Q X = wpEs F as G T (fun ds T1 => biD f ds T1 Q) X := by rw [wpE] <;> rfl
theorem ex_isi {t : Ty} {a : E} : wpE F (.op (isiS t) [a]) G T Q X = wpE F a G T (fun x T1 => match x with | .ob a => ∃ xs, T1 a = some (.lst xs) ∧ Q (.bl (OC.isTy t (.lst []))) T1 | x => x.pure = true ∧ Q (.bl (OC.isTy t x)) T1) X := by rw [wpE, wpEs]; simp only [wpEs]; rfl
theorem ex_app {a b : E} : wpE F (.mth appS a [b]) G T Q X = wpE F a G T (fun x T1 => isL x T1 ∧ wpE F b G T1 (fun d T2 => match x with | .ob a => ∃ xs, T2 a = some (.lst xs) ∧ xs.length < 100000 ∧ Q .non (T2.put a (.lst (xs ++ [d]))) | _ => False) X) X := by rw [wpE]; simp only [wpEs]; rfl
theorem ex_ext {a b : E} : wpE F (.mth extS a [b]) G T Q X = wpE F a G T (fun x T1 => isL x T1 ∧ wpE F b G T1 (fun d T2 => match x with | .ob a => ∃ xs ys, T2 a = some (.lst xs) ∧ viewL T2 d = some ys ∧ xs.length + ys.length < 100000 ∧ Q .non (T2.put a (.lst (xs ++ ys))) | _ => False) X) X := by rw [wpE]; simp only [wpEs]; rfl
theorem ex_pop {a b : E} : wpE F (.mth popS a [b]) G T Q X = wpE F a G T (fun x T1 => isL x T1 ∧ wpE F b G T1 (fun d T2 => match x, d with | .ob a, .int i => ∃ xs n y, T2 a = some (.lst xs) ∧ xs.length ≤ 100000 ∧ ixN xs.length i = some n ∧ xs[n]? = some y ∧ Q y (T2.put a (.lst (xs.eraseIdx n))) | _, _ => False) X) X := by rw [wpE]; simp only [wpEs]; rfl
theorem ex_rev {a : E} : wpE F (.op revS [a]) G T Q X = wpE F a G T (fun x T1 => match x with | .ob a => ∃ xs, T1 a = some (.lst xs) ∧ Q .non (T1.put a (.lst xs.reverse)) | _ => False) X := by rw [wpE, wpEs]; simp only [wpEs]; rfl
theorem ex_pop0 {a : E} : wpE F (.op pop0S [a]) G T Q X = wpE F a G T (fun x T1 => match x with | .ob a => ∃ xs y, T1 a = some (.lst (xs ++ [y])) ∧ Q y (T1.put a (.lst xs)) | _ => False) X := by rw [wpE, wpEs]; simp only [wpEs]; rfl
theorem ex_chain {o p : CO} {a b c : E} : wpE F (.chain o p a b c) G T Q X = wpE F a G T (fun x T1 => wpE F b G T1 (fun y T2 => OC.cop o x y fun r => dtru r fun r => if r = true then wpE F c G T2 (fun z T3 => OC.cop p y z fun d => Q d T3) X else Q (.bl false) T2) X) X := by rw [wpE]
theorem ex_and {a b : E} : wpE F (.andv a b) G T Q X = wpE F a G T (fun x T1 => dtru x fun r => if r = true then wpE F b G T1 Q X else Q (.bl false) T1) X := by rw [wpE]
theorem ex_or {a b : E} : wpE F (.orv a b) G T Q X = wpE F a G T (fun x T1 => dtru x fun r => if r = true then Q (.bl true) T1 else wpE F b G T1 Q X) X := by rw [wpE]
theorem ex_not {a : E} : wpE F (.notv a) G T Q X = wpE F a G T (fun x T1 => dtru x fun r => Q (.bl (!r)) T1) X := by rw [wpE]
theorem ex_ite {t a b : E} : wpE F (.ite t a b) G T Q X = wpE F t G T (fun x T1 => dtru x fun r => if r = true then wpE F a G T1 Q X else wpE F b G T1 Q X) X := by rw [wpE]
theorem ex_lc {o : Bool} {elt : E} {tg : Tn} {k : IkS} {its ifs : List E} {loc : List (Str × Nat)} : wpE F (.lc o elt tg k its ifs loc) G T Q X = wpEs F its G T (fun ds T1 => k.sem ds T1 fun xs T2 => xs.length ≤ 100000 ∧
      wpMap (fun d T3 kk => match bindN tg d (wipeV G (loc.map (·.2))) with
        | some G1 => wpIf F ifs G1 T3 (fun T4 => wpE F elt G1 T4 (fun y T5 => kk (some y) T5) noX) (fun T4 => kk none T4)
        | none => False) xs [] T2 fun ys T6 => mkL o ys T6 Q) X := by rw [wpE] <;> rfl
/-! ### what is walked -/
theorem ik_l {xs : List D} {Q : List D → TS → Prop} : lstI.sem [.lst xs] T Q = Q xs T := propext ⟨fun ⟨_, ys, h, q⟩ => by cases h; exact q, fun q => ⟨trivial, xs, rfl, q⟩⟩
theorem ik_t {xs : List D} {Q : List D → TS → Prop} : tupI.sem [.tup xs] T Q = Q xs T := propext ⟨fun ⟨_, ys, h, q⟩ => by cases h; exact q, fun q => ⟨trivial, xs, rfl, q⟩⟩
theorem ik_r1 {n : Int} {Q : List D → TS → Prop} : rng1I.sem [.int n] T Q = ((-(2 ^ 62) ≤ n ∧ n < 2 ^ 62) ∧ Q (rngD 0 n) T) := propext ⟨fun ⟨a, ys, h, q⟩ => by cases h; exact ⟨a, q⟩, fun q => ⟨q.1, _, rfl, q.2⟩⟩
theorem ik_r2 {a b : Int} {Q : List D → TS → Prop} : rng2I.sem [.int a, .int b] T Q = ((-(2 ^ 62) ≤ a ∧ a < 2 ^ 62 ∧ -(2 ^ 62) ≤ b ∧ b < 2 ^ 62) ∧ Q (rngD a b) T) := by first | (exact propext Iff.rfl)
theorem ik_rev {xs : List D} {Q : List D → TS → Prop} : revI.sem [.lst xs] T Q = Q xs.reverse T := propext ⟨fun ⟨_, ys, h, q⟩ => by cases h; exact q, fun q => ⟨trivial, _, rfl, q⟩⟩
theorem ik_enum {xs : List D} {Q : List D → TS → Prop} : enumI.sem [.lst xs] T Q = Q (xs.zipIdx.map fun p => .tup [.int (p.2 : Nat), p.1]) T := propext ⟨fun ⟨_, ys, h, q⟩ => by cases h; exact q, fun q => ⟨trivial, _, rfl, q⟩⟩
theorem ik_zip {xs ys : List D} {Q : List D → TS → Prop} : zipI.sem [.lst xs, .lst ys] T Q = Q (List.zipWith (fun x y => .tup [x, y]) xs ys) T := by first | (exact propext Iff.rfl)
/-! ### statements, the first of a block -/
theorem sq_nil : wpSs F [] G T K = K.nx G T := by rw [wpSs]
theorem sq_asg {i : Nat} {e : E} : wpSs F (.st (asgS i) [e] :: r) G T K = wpE F e G T (fun d T1 => wpSs F r (G.set i (some d)) T1 K) fun x T1 => K.ex x G T1 := by rw [wpSs, wpS]; simp only [wpEs]; exact propext ⟨fun h => h.2, fun h => ⟨trivial, h⟩⟩
theorem sq_par {i j : Nat} {a b : E} : wpSs F (.st (parS i j) [a, b] :: r) G T K = wpE F a G T (fun x T1 => wpE F b G T1 (fun y T2 => wpSs F r ((G.set i (some x)).set j (some y)) T2 K) fun x T1 => K.ex x G T1) fun x T1 => K.ex x G T1 := by rw [wpSs, wpS]; simp only [wpEs]; exact propext ⟨fun h => h.2, fun h => ⟨trivial, h⟩⟩
theorem sq_par3 {i j l : Nat} {a b c : E} : wpSs F (.st (par3S i j l) [a, b, c] :: r) G T K = wpE F a G T (fun x T1 => wpE F b G T1 (fun y T2 => wpE F c G T2 (fun z T3 => wpSs F r (((G.set i (some x)).set j (some y)).set l (some z)) T3 K) fun x T1 => K.ex x G T1) fun x T1 => K.ex x G T1) fun x T1 => K.ex x G T1 := by rw [wpSs, wpS]; simp only [wpEs]; exact propext ⟨fun h => h.2, fun h => ⟨trivial, h⟩⟩
theorem sq_unp {tg : Tn} {e : E} : wpSs F (.st (unpS tg) [e] :: r) G T K = wpE F e G T (fun d T1 => match bindN tg d G with | some G1 => wpSs F r G1 T1 K | none => False) fun x T1 => K.ex x G T1 := by rw [wpSs, wpS]; simp only [wpEs]; exact propext ⟨fun h => h.2, fun h => ⟨trivial, h⟩⟩
theorem sq_drop {e : E} : wpSs F (.st dropS [e] :: r) G T K = wpE F e G T (fun _ T1 => wpSs F r G T1 K) fun x T1 => K.ex x G T1 := by rw [wpSs, wpS]; simp only [wpEs]; exact propext ⟨fun h => h.2, fun h => ⟨trivial, h⟩⟩
theorem sq_ret {e : E} : wpSs F (.st retS [e] :: r) G T K = wpE F e G T K.rt fun x T1 => K.ex x G T1 := by rw [wpSs, wpS]; simp only [wpEs]; exact propext ⟨fun h => h.2, fun h => ⟨trivial, h⟩⟩
theorem sq_retN : wpSs F (.st retNS [] :: r) G T K = K.rt .non T := by rw [wpSs, wpS]; simp only [wpEs]; exact propext ⟨fun h => h.2, fun h => ⟨trivial, h⟩⟩
theorem sq_setix {e a j : E} : wpSs F (.st setixS [e, a, j] :: r) G T K = wpE F e G T (fun d T1 => wpE F a G T1 (fun b T2 => wpE F j G T2 (fun i T3 => match b, i with | .ob a, .int j => ∃ xs n, T3 a = some (.lst xs) ∧ ixN xs.length j = some n ∧ wpSs F r G (T3.put a (.lst (xs.set n d))) K | _, _ => False) fun x T1 => K.ex x G T1) fun x T1 => K.ex x G T1) fun x T1 => K.ex x G T1 := by
  rw [wpSs, wpS]
  simp only [wpEs]
  refine propext ⟨fun h => ?_, fun h => ⟨trivial, ?_⟩⟩
  · refine wpE_mono e (fun d T1 => wpE_mono a (fun b T2 => wpE_mono j (fun i T3 z => ?_) fun _ _ z => z) fun _ _ z => z) (fun _ _ z => z) h.2
    cases b <;> cases i <;> exact z
  · refine wpE_mono e (fun d T1 => wpE_mono a (fun b T2 => wpE_mono j (fun i T3 z => ?_) fun _ _ z => z) fun _ _ z => z) (fun _ _ z => z) h
    cases b <;> cases i <;> exact z
theorem sq_ite {t : E} {a b : List S} : wpSs F (.ite t a b :: r) G T K = wpE F t G T (fun x T1 => dtru x fun q => if q = true then wpSs F a G T1 { nx := fun G1 T1 => wpSs F r G1 T1 K, rt := K.rt, bk := K.bk, ct := K.ct, ex := K.ex } else wpSs F b G T1 { nx := fun G1 T1 => wpSs F r G1 T1 K, rt := K.rt, bk := K.bk, ct := K.ct, ex := K.ex }) fun x T1 => K.ex x G T1 := by rw [wpSs, wpS]
theorem sq_for {tg : Tn} {k : IkS} {as : List E} {body : List S} : wpSs F (.forS tg k as body :: r) G T K = wpEs F as G T (fun ds T1 => k.sem ds T1 fun xs T2 => wpFor (wpSs F body) tg { nx := fun G1 T1 => wpSs F r G1 T1 K, rt := K.rt, bk := K.bk, ct := K.ct, ex := K.ex } xs G T2) fun x T1 => K.ex x G T1 := by rw [wpSs, wpS]
theorem sq_pass : wpSs F (.pass :: r) G T K = wpSs F r G T K := by rw [wpSs, wpS]
theorem sq_frz {i : Nat} {a : Addr} (hx : OC.getV G i = some (.ob a)) : wpSs F (.gh (frzG i) :: r) G T K = ∃ xs, T a = some (.lst xs) ∧ wpSs F r (G.set i (some (.lst xs))) (T.cut a) K := by
  rw [wpSs, wpS]
  show (match OC.getV G i with
    | some (.ob a) => ∃ xs : List D, T a = some (Ob.lst xs) ∧ wpSs F r (G.set i (some (.lst xs))) (T.cut a) K
    | some (.lst _) => wpSs F r G T K
    | _ => False) = _
  rw [hx]
end
/-! ### loops -/
theorem for_inv {body : MS} {tg : Tn} {k : Ks} (I : GV → TS → Prop) : ∀ (xs : List D), (∀ d ∈ xs, ∀ G T, I G T → ∀ nx : GV → TS → Prop, (∀ G' T', I G' T' → nx G' T') → match bindN tg d G with | some G1 => body G1 T { nx := nx, rt := k.rt, bk := k.nx, ct := nx, ex := k.ex } | none => False) →
    (∀ G T, I G T → k.nx G T) → ∀ G T, I G T → wpFor body tg k xs G T
  | [], _, hn, G, T, hi => hn G T hi
  | d :: ds, hs, hn, G, T, hi => hs d List.mem_cons_self G T hi _ fun G' T' hi' => for_inv I ds (fun e he => hs e (List.mem_cons_of_mem _ he)) hn G' T' hi'
/-- a comprehension whose turns are known -/
theorem map_det {f : D → TS → (Option D → TS → Prop) → Prop} {Q : List D → TS → Prop} {T : TS} (g : D → Option D) : ∀ (xs acc : List D), (∀ x ∈ xs, ∀ kk : Option D → TS → Prop, kk (g x) T → f x T kk) → Q (acc ++ xs.filterMap g) T → wpMap f xs acc T Q
  | [], acc, _, q => by simpa [wpMap] using q
  | x :: xs, acc, h, q => by
    rw [wpMap]
    refine h x List.mem_cons_self _ ?_
    cases e : g x with
    | none => exact map_det g xs acc (fun y hy => h y (List.mem_cons_of_mem _ hy)) (by rw [List.filterMap_cons, e] at q; exact q)
    | some y => exact map_det g xs (acc ++ [y]) (fun z hz => h z (List.mem_cons_of_mem _ hz)) (by rw [List.filterMap_cons, e] at q; simpa using q)
theorem map_all {f : D → TS → (Option D → TS → Prop) → Prop} {Q : List D → TS → Prop} {T : TS} (g : D → D) (xs : List D) (h : ∀ x ∈ xs, ∀ kk : Option D → TS → Prop, kk (some (g x)) T → f x T kk) (q : Q (xs.map g) T) : wpMap f xs [] T Q :=
  map_det (fun x => some (g x)) xs [] h (by rw [List.nil_append, List.filterMap_eq_map']; exact q)
/-- over coded things -/
theorem map_enc {α : Type} {f : D → TS → (Option D → TS → Prop) → Prop} {Q : List D → TS → Prop} {T : TS} (enc : α → D) (g : α → D) : ∀ (xs : List α) (acc : List D), (∀ x ∈ xs, ∀ kk : Option D → TS → Prop, kk (some (g x)) T → f (enc x) T kk) → Q (acc ++ xs.map g) T → wpMap f (xs.map enc) acc T Q
  | [], acc, _, q => by simpa [wpMap] using q
  | x :: xs, acc, h, q => by
    rw [List.map_cons, wpMap]
    refine h x List.mem_cons_self _ ?_
    exact map_enc enc g xs (acc ++ [g x]) (fun z hz => h z (List.mem_cons_of_mem _ hz)) (by simpa using q)
/-- both ways of an if meet again -/
theorem join2 {F : List Ct} {c : Bool} {A B : List S} {G : GV} {T : TS} {J : GV → TS → Prop} {rt : QD} {bk ct : GV → TS → Prop} {ex : Xd → GV → TS → Prop} (P : GV → TS → Prop) (hr : ∀ G1 T1, P G1 T1 → J G1 T1)
    (h : ∀ J' : GV → TS → Prop, (∀ G1 T1, P G1 T1 → J' G1 T1) → if c = true then wpSs F A G T ⟨J', rt, bk, ct, ex⟩ else wpSs F B G T ⟨J', rt, bk, ct, ex⟩) : if c = true then wpSs F A G T ⟨J, rt, bk, ct, ex⟩ else wpSs F B G T ⟨J, rt, bk, ct, ex⟩ := h J hr
/-! ### promises -/
end NX
set_option Elab.async false
set_option linter.all false
set_option maxRecDepth 100000
set_option maxHeartbeats 4000000
/-! The wider small language: list(), tuple(), lists unpacked. -/
namespace NX
open PySem PySem.Spec PyProof.Rows L2 OC
/-- the items of a list or a tuple -/
def viewS (T : TS) : D → Option (List D)
  | .tup xs => some xs
  | d => viewL T d
theorem viewS_ok {K : PySem.W.Frag} {mg : Str → Option Value} {Bg M : AP} {T : TS} {H : Hp} {v : V} {d : D} {xs : List D} (s : Sm K mg Bg M T H) (h : viewS T d = some xs) (r : Rep K Bg (lv T M) H v d) : ∃ a vs, v = .ref a ∧ (SqL K H a vs ∨ SqT K H a vs) ∧ RepL K Bg (lv T M) H vs xs := by
  cases d with
  | tup ys =>
    cases h
    obtain ⟨p, vs, rfl, hs, rl⟩ := r.tup_inv
    exact ⟨p, vs, rfl, .inr hs, rl⟩
  | lst ys =>
    obtain ⟨p, vs, rfl, hp, rl⟩ := view_ok s (d := .lst ys) h r
    exact ⟨p, vs, rfl, .inl (.inl (.inl hp)), rl⟩
  | ob a =>
    obtain ⟨p, vs, rfl, hp, rl⟩ := view_ok s (d := .ob a) h r
    exact ⟨p, vs, rfl, .inl (.inl (.inl hp)), rl⟩
  | _ => cases h
def lsOfS (own : Bool) : OpS := tyS "list" (by decide +kernel) (by decide) (by decide) (fun K xs H Q => ∃ p ys, xs = [.ref p] ∧ (SqL K H p ys ∨ SqT K H p ys) ∧ ∀ l, H l = none → Q (.ref l) (upd H l (.lst ys))) (fun X _ _ _ => call_list_of) (fun ds T Q => match ds with | [d] => ∃ xs, viewS T d = some xs ∧ mkL own xs T Q | _ => False) (fun h w => by
    split at w
    · obtain ⟨xs, a, b⟩ := w
      exact ⟨xs, a, mkL_mono h b⟩
    · exact w) (fun Ω Bg M T H vs ds Qd Q s rl w post => by
    match ds, rl, w with
    | [d], rl, ⟨xs, hv, w⟩ =>
      obtain ⟨v, rfl, r⟩ := one_inv rl
      obtain ⟨a, us, rfl, hs, rl2⟩ := viewS_ok s hv r
      exact ⟨a, us, rfl, hs, fun l hl => new_lst s rl2 w post hl⟩)
def tuOfS : OpS := tyS "tuple" (by decide +kernel) (by decide) (by decide) (fun K xs H Q => ∃ p ys, xs = [.ref p] ∧ ((SqL K H p ys ∧ ∀ l, H l = none → Q (.ref l) (upd H l (.tup ys))) ∨ (SqT K H p ys ∧ Q (.ref p) H))) (fun X _ _ _ => call_tuple_of) (fun ds T Q => match ds with | [d] => ∃ xs, viewL T d = some xs ∧ Q (.tup xs) T | _ => False) (fun h w => by
    split at w
    · obtain ⟨xs, a, b⟩ := w
      exact ⟨xs, a, h _ _ b⟩
    · exact w) (fun Ω Bg M T H vs ds Qd Q s rl w post => by
    match ds, rl, w with
    | [d], rl, ⟨xs, hv, w⟩ =>
      obtain ⟨v, rfl, r⟩ := one_inv rl
      obtain ⟨a, us, rfl, hs, rl2⟩ := view_ok s hv r
      exact ⟨a, us, rfl, .inl ⟨.inl (.inl hs), fun l hl => new_tup s rl2 w post hl⟩⟩)
section
variable {F : List Ct} {G : GV} {T : TS} {Q : QD} {X : XD}
theorem ex_lsOf {o : Bool} {a : E} : wpE F (.op (lsOfS o) [a]) G T Q X = wpE F a G T (fun d T1 => ∃ xs, viewS T1 d = some xs ∧ mkL o xs T1 Q) X := by rw [wpE, wpEs]; simp only [wpEs]; rfl
theorem ex_tuOf {a : E} : wpE F (.op tuOfS [a]) G T Q X = wpE F a G T (fun d T1 => ∃ xs, viewL T1 d = some xs ∧ Q (.tup xs) T1) X := by rw [wpE, wpEs]; simp only [wpEs]; rfl
end
/-- a, b = a list -/
def unpLS (ts : List Tn) : StS := st1S (fun C sc st => match asAsg st with
    | some (t, v, _) => if chkTn C.N sc (fun _ => true) (.tup ts) t && (asTup t).isSome && noComp v && noTup v then some v else none
    | none => none) (fun d G T K => ∃ xs, viewL T d = some xs ∧ xs.length = ts.length ∧ match bindNs ts xs G with | some G1 => K.nx G1 T | none => False) (fun h _ _ _ _ w => by
    obtain ⟨xs, a, b, c⟩ := w
    refine ⟨xs, a, b, ?_⟩
    split at c
    · exact h _ _ c
    · exact c.elim) (by
  intro Ω C F k sc st x m W hs h1
  split at hs
  · rename_i t v pos hx
    obtain rfl := asAsg_ok hx
    split at hs
    · rename_i hb
      cases hs
      simp only [Bool.and_eq_true] at hb
      obtain ⟨⟨⟨ht, h2⟩, n1⟩, n2⟩ := hb
      obtain ⟨es, he⟩ := Option.isSome_iff_exists.mp h2
      obtain ⟨j, p, rfl⟩ := asTup_ok he
      obtain ⟨te, a1, a2⟩ := h1
      refine ⟨fun W => tAsg (te W) (gUnl Ω.K ts.length (gOfN.go Ω.K ts)), fun X W g tk => ?_, fun B0 T0 H0 M Bg T H σ G gs kd W Dn en w ko => ?_⟩
      · rw [chkTn, he] at ht
        obtain ⟨h1, h2, h3⟩ := pgs_ofN (X := X) (C := C) g.g.eN g.g.nd g.g.calm g.g.esc (fun x _ => g.fn x) ts ht
        have := pg_unl (k := j) (pos := p) g.g.calm h1 h2 h3
        rw [g.g.eK] at this
        exact ps_asg (a1 X W g.g tk) this (sws_no n1) (ss_no n2) rfl
      · refine a2 _ _ _ _ _ _ _ _ _ _ en.env w (fun d v B1 T1 H1 e1 s1 r q => ?_) (ko.px en)
        obtain ⟨xs, hv, hl, q⟩ := q
        split at q
        · rename_i G1 hb
          have en1 := en.grow e1 s1
          obtain ⟨a, vs, rfl, ha, rl⟩ := view_ok s1 hv r
          exact ⟨a, vs, rfl, .inl (.inl ha), by rw [rl.len]; exact hl, ok_gNs ts en1.env rl hb fun σ1 en2 _ _ => ko.nx _ _ _ _ _ ⟨en1.ext, en2, en1.gst⟩ q⟩
        · exact q.elim
    · cases hs
  · cases hs)
theorem sq_unpL {F : List Ct} {G : GV} {T : TS} {K : Ks} {r : List S} {ts : List Tn} {e : E} : wpSs F (.st (unpLS ts) [e] :: r) G T K = wpE F e G T (fun d T1 => ∃ xs, viewL T1 d = some xs ∧ xs.length = ts.length ∧ match bindNs ts xs G with | some G1 => wpSs F r G1 T1 K | none => False) fun x T1 => K.ex x G T1 := by rw [wpSs, wpS]; simp only [wpEs]; exact propext ⟨fun h => h.2, fun h => ⟨trivial, h⟩⟩
end NX
set_option Elab.async false
set_option linter.all false
set_option maxRecDepth 100000
set_option maxHeartbeats 4000000
/-! A law's defs one after another. -/
namespace NX
open PySem PySem.Spec PyProof.Rows L2 OC
def AllOk (Ω : Wd) (fs : List Fk) (F : List Ct) (i : Nat) : Prop := ∀ (j : Nat) (x : Fk), (fs.take i)[j]? = some x → ∃ c, (F.take i)[j]? = some c ∧ FOK Ω i x c
theorem all_zero {Ω : Wd} {fs : List Fk} {F : List Ct} : AllOk Ω fs F 0 := fun j x h => by
  rw [List.take_zero] at h
  cases h
theorem all_step {Ω : Wd} {fs : List Fk} {F : List Ct} {i : Nat} {x : Fk} {c : Ct} (A : AllOk Ω fs F i) (hx : fs[i]? = some x) (hc : F[i]? = some c) (ok : FOK Ω (i + 1) x c) : AllOk Ω fs F (i + 1) := fun j y h => by
  by_cases q : j < i
  · have h : (fs.take i)[j]? = some y := by
      rw [List.getElem?_take_of_lt q]
      rw [List.getElem?_take_of_lt (by omega)] at h
      exact h
    obtain ⟨d, h1, h2⟩ := A j y h
    refine ⟨d, ?_, h2.mono (Nat.le_succ i)⟩
    rw [List.getElem?_take_of_lt (by omega)]
    rw [List.getElem?_take_of_lt q] at h1
    exact h1
  · by_cases e : j = i
    · subst e
      rw [List.getElem?_take_of_lt (by omega), hx] at h
      cases h
      exact ⟨c, by rw [List.getElem?_take_of_lt (by omega)]; exact hc, ok⟩
    · have : (fs.take (i + 1))[j]? = none := by
        rw [List.getElem?_eq_none_iff, List.length_take]
        omega
      rw [this] at h
      cases h
theorem all_last {Ω : Wd} {fs : List Fk} {F : List Ct} {i j : Nat} {x : Fk} {c : Ct} (A : AllOk Ω fs F i) (hj : j < i) (hx : fs[j]? = some x) (hc : F[j]? = some c) : FOK Ω i x c := by
  obtain ⟨d, h1, h2⟩ := A j x (by rw [List.getElem?_take_of_lt hj]; exact hx)
  rw [List.getElem?_take_of_lt hj, hc] at h1
  cases h1
  exact h2
/-- what the module's names stand for -/
structure Gf (Ω : Wd) (bs : List Str) (gs : List (Str × D)) (cs : List Str) (na : List (Str × Str)) (ks : List (Str × List (Str × Int))) : Prop where
  bs : ∀ x, x ∈ bs → Ω.mg x = none
  gs : ∀ x d, gs.lookup x = some d → ∃ u v, Ω.mg x = some u ∧ RelV v u ∧ ∀ Bg M H, Rep Ω.K Bg M H v d
  cs : ∀ x, x ∈ cs → ∃ A, Ω.mg x = some (.ref A) ∧ Cls Ω.K A
  na : ∀ p, p ∈ na → ∃ A, Ω.mg p.1 = some (.ref A) ∧ Cls Ω.K A ∧ NoAttr Ω.K A p.2
  ks : ∀ x kvs, ks.lookup x = some kvs → KTab Ω x kvs
theorem wr_of {Ω : Wd} {fs : List Fk} {F : List Ct} {i : Nat} {N bs : List Str} {gs : List (Str × D)} {cs : List Str} {na : List (Str × Str)} {ks : List (Str × List (Str × Int))} (A : AllOk Ω fs F i) (g : Gf Ω bs gs cs na ks) : Wr Ω ⟨N, fs.take i, bs, gs, cs, na, ks⟩ (F.take i) i := ⟨A, g.bs, g.gs, g.cs, g.na, g.ks⟩
/-- a def of the text -/
theorem step_fn {Ω : Wd} {fs : List Fk} {F : List Ct} {i : Nat} {N bs : List Str} {gs : List (Str × D)} {cs : List Str} {na : List (Str × Str)} {ks : List (Str × List (Str × Int))} {x y qual : Str} {params : Arguments} {body : List Stmt} {scope : Scope} {kws : List (Str × V)} {f : Addr} {fd : FuncData} {np : Nat} {irs : List S} {c : Ct} (A : AllOk Ω fs F i) (g : Gf Ω bs gs cs na ks)
    (Fu : FunD Ω.K y qual params body scope [] kws f fd) (hm : Ω.mg x = some (.ref f)) (hx : fs[i]? = some (.fn x)) (hc : F[i]? = some c) (look : chkFn ⟨N, fs.take i, bs, gs, cs, na, ks⟩ np irs body scope = true)
    (hb : ∀ (kV doc pm : Value) (an : Option Addr) (cdv ct : Value) (us : List Value), us.length = (N.take np).length → bindArgs (PySem.W.fnOf y qual params body scope .none kV doc pm an cdv ct) ⟨us, []⟩ = pure ((N.take np).zip us))
    (hn : c.n = np) (ok : ∀ ds T Q X, c.c ds T Q X → wpBody (F.take i) N.length irs ds T Q X) : AllOk Ω fs F (i + 1) := by
  obtain ⟨h1, h2⟩ := gfn_ok (C := ⟨N, fs.take i, bs, gs, cs, na, ks⟩) (wr_of A g) Fu look hn ok
  exact all_step A hx hc ⟨f, fd, N.take np, hm, Fu.kp, Fu.bindsN hb, h2, h1⟩
theorem fun_of {K : PySem.W.Frag} {x qual : Str} {st : Stmt} {f : Addr} {fd : FuncData} {kws : List (Str × V)} (F : FunD K x qual (defArgs st) (defBody st) (defScope st) [] kws f fd) : Fun K x qual st f fd := by
  obtain ⟨oc, od, dV, kV, doc, pm, an, cdv, ct, osl, e, l, c, hd, _⟩ := F.ex
  rcases hd with ⟨_, e2⟩ | ⟨e2, _⟩
  · subst e2
    exact ⟨⟨oc, od, kV, doc, pm, an, cdv, ct, osl, e, l, c⟩, F.kp⟩
  · exact absurd rfl e2
/-- the names that the head tells free -/
theorem free_all {fa : List He.Fa} {fn : List He.DefD} {K : PySem.W.Frag} {h : Heap} {mg : Str → Option Value} (X : K.In h) (G : h.Ns mainGlobals mg) (c : He.SaysD fa fn K) {bs : List Str} (hb : bs.all (fun x => fa.any fun f => match f with | .free y => decide (y = x) | _ => false) = true) : ∀ x, x ∈ bs → mg x = none := fun x hx => by
  have z := List.all_eq_true.mp hb x hx
  obtain ⟨f, hf, e⟩ := List.any_eq_true.mp z
  cases f <;> first
    | (cases e; done)
    | skip
  rename_i y
  have e : y = x := of_decide_eq_true e
  subst e
  obtain ⟨i, hi, e⟩ := List.mem_iff_getElem.mp hf
  exact He.free_ok X G (c.fact i (f := .free y) (by rw [List.getElem?_eq_getElem hi, e]))
theorem lookup_in {α : Type} : ∀ {l : List (Str × α)} {x : Str} {d : α}, l.lookup x = some d → (x, d) ∈ l
  | [], _, _, h => by cases h
  | (y, e) :: l, x, d, h => by
    rw [List.lookup_cons] at h
    split at h
    · rename_i hq
      cases h
      rw [beq_iff_eq.mp hq]
      exact List.mem_cons_self
    · exact List.mem_cons_of_mem _ (lookup_in h)
/-- a written tuple -/
theorem tup_const {K : PySem.W.Frag} {Bg M : AP} {H : Hp} {x : Str} {vs : List He.Dv} {ds : List D} (h : He.tupB K x vs = true) (r : RepL K Bg M H (vs.map (He.Dv.v K)) ds) : Rep K Bg M H (.ref (He.ga K x)) (.tup ds) := by
  rcases He.tupB_ok h (fun _ => none) with z | z
  · rcases z with z | ⟨o, z⟩ <;> cases z
  · exact .lit z r
/-- the law -/
def lawC : Ct where
  n := 1
  c ds T Q _ := ∃ ns : List Int, ds = [.scr ns] ∧ ns.length ≤ 63 ∧ Q (.bl true) T
  len h := by obtain ⟨ns, rfl, _⟩ := h; rfl
  mono h _ w := by obtain ⟨ns, e, a, b⟩ := w; exact ⟨ns, e, a, h _ _ b⟩
end NX
set_option Elab.async false
set_option linter.all false
set_option maxRecDepth 100000
set_option maxHeartbeats 4000000
set_option exponentiation.threshold 20000
/-! Promises in short; ratios as rational numbers. -/
namespace NX
open PySem PySem.Spec PyProof.Rows L2 OC
/-- a def that changes nothing and returns f of its arguments -/
def fnc {α : Type} (n : Nat) (args : α → List D) (pre : α → Prop) (f : α → D) (hn : ∀ x, (args x).length = n := by intro _; rfl) : Ct where
  n := n
  c ds T Q _ := ∃ x, ds = args x ∧ pre x ∧ Q (f x) T
  len h := by obtain ⟨x, rfl, _⟩ := h; exact hn x
  mono h _ w := by obtain ⟨x, e, a, b⟩ := w; exact ⟨x, e, a, h _ _ b⟩
/-- a def that changes nothing and returns something of which post holds -/
def rlc {α : Type} (n : Nat) (args : α → List D) (pre : α → Prop) (post : α → D → Prop) (hn : ∀ x, (args x).length = n := by intro _; rfl) : Ct where
  n := n
  c ds T Q _ := ∃ x, ds = args x ∧ pre x ∧ ∀ d, post x d → Q d T
  len h := by obtain ⟨x, rfl, _⟩ := h; exact hn x
  mono h _ w := by obtain ⟨x, e, a, b⟩ := w; exact ⟨x, e, a, fun d hd => h _ _ (b d hd)⟩
/-- an old def by a promise that asks more -/
theorem step_oldI {Ω : Wd} {fs : List Fk} {F : List Ct} {i m : Nat} {x : Str} {c : OC.DC} {c' : Ct} (A : AllOk Ω fs F i) (hx : fs[i]? = some (.fn x)) (hc : F[i]? = some c') (h : OC.FOK Ω.P Ω.w Ω.K Ω.mg Ω.base m x c) (hmi : m ≤ i + 1) (hl : ∀ ds Q, c ds Q → ds.length = c'.n) (hi : ∀ ds T Q E, c'.c ds T Q E → c ds fun d => Q d T) (hne : ∃ ds T Q E, c'.c ds T Q E) : AllOk Ω fs F (i + 1) :=
  all_step A hx hc ((FOK.old h hl hi hne).mono hmi)
/-! ### rational numbers -/
def encQ (q : Rat) : D := .tup [.int q.num, .int (q.den : Int)]
def Bq (n : Nat) (q : Rat) : Prop := q.num.natAbs < 2 ^ n ∧ q.den < 2 ^ n
theorem Bq.mono {m n : Nat} {q : Rat} (h : Bq m q) (hmn : m ≤ n) : Bq n q := ⟨Nat.lt_of_lt_of_le h.1 (Nat.pow_le_pow_right (by decide) hmn), Nat.lt_of_lt_of_le h.2 (Nat.pow_le_pow_right (by decide) hmn)⟩
theorem den_pos (q : Rat) : 0 < (q.den : Int) := by have := q.den_pos; omega
theorem den_ne (q : Rat) : (q.den : Int) ≠ 0 := Int.ne_of_gt (den_pos q)
def pairQ (q : Rat) : Int × Int := (q.num, (q.den : Int))
theorem pairQ_low (q : Rat) : Low (pairQ q) := ⟨den_pos q, q.reduced⟩
theorem pairQ_bt {n : Nat} {q : Rat} (h : Bq n q) : Bt n (pairQ q) := ⟨h.1, by show ((q.den : Int)).natAbs < _; rw [Int.natAbs_natCast]; exact h.2⟩
theorem encQ_R2 (q : Rat) : encQ q = R2 (pairQ q) := rfl
theorem encQ_inj {x y : Rat} (h : encQ x = encQ y) : x = y := by
  unfold encQ at h
  simp only [D.tup.injEq, List.cons.injEq, D.int.injEq, and_true] at h
  exact Rat.ext h.1 (by omega)
/-- lowest terms are those of the quotient -/
theorem lowR_q {a b : Int} (h : b ≠ 0) : lowR a b = pairQ (Rat.divInt a b) := by
  refine lowR_uniq h (pairQ_low _) ?_
  have e := Rat.num_divInt_den (Rat.divInt a b)
  rw [Rat.divInt_eq_divInt_iff (den_ne _) h] at e
  exact e
theorem low_pair {p : Int × Int} (h : Low p) : p = pairQ (Rat.divInt p.1 p.2) := by
  rw [← lowR_q (Int.ne_of_gt h.pos), lowR_self h]
theorem lessR_q (x y : Rat) : lessR (pairQ x) (pairQ y) = decide (x < y) := by
  unfold lessR
  exact decide_eq_decide.mpr (Rat.lt_iff x y).symm
/-! ### sizes -/
/-! ### the promises of the first core, in rational numbers -/
def takeC : Ct := rlc 2 (fun n : Int => [.bag, .int n]) (fun n => 0 < n ∧ n.natAbs < 2 ^ 8000) fun n d => ∃ r : Int, d = .int r ∧ 0 ≤ r ∧ r < n
def bagC : Ct := fnc 2 (fun p : List Int × Int => [.scr p.1, .int p.2]) (fun p => 0 ≤ p.2 ∧ p.2 < 64) fun _ => .bag
def partC : Ct := fnc 2 (fun p : Int × Int => [.int p.1, .int p.2]) (fun _ => True) fun p => .int (Int.gcd p.1 p.2)
def lowestC : Ct := fnc 2 (fun p : Int × Int => [.int p.1, .int p.2]) (fun p => p.2 ≠ 0 ∧ p.2.natAbs < 2 ^ 8000) fun p => encQ (Rat.divInt p.1 p.2)
def islessC : Ct := fnc 2 (fun p : Rat × Rat => [encQ p.1, encQ p.2]) (fun p => Bq 4000 p.1 ∧ Bq 4000 p.2) fun p => .bl (decide (p.1 < p.2))
def isintC : Ct := fnc 1 (fun d : D => [d]) (fun d => d.pure = true) fun d => .bl (isIntD d)
def isratC : Ct := fnc 1 (fun d : D => [d]) (fun d => d.pure = true) fun d => .bl (isRatD d)
theorem bq01 (n : Nat) (h : 1 ≤ n) : Bq n 0 := ⟨by show 0 < 2 ^ n; exact Nat.pow_pos (by decide), by show 1 < 2 ^ n; exact Nat.lt_of_lt_of_le (show 1 < 2 ^ 1 by decide) (Nat.pow_le_pow_right (by decide) h)⟩
theorem take_i : ∀ ds T Q E, takeC.c ds T Q E → c_take ds fun d => Q d T := by
  rintro ds T Q E ⟨n, rfl, ⟨h1, h2⟩, h3⟩
  exact draw h1 h2 fun r a b => h3 _ ⟨r, rfl, a, b⟩
theorem bag_i : ∀ ds T Q E, bagC.c ds T Q E → c_bag ds fun d => Q d T := by
  rintro ds T Q E ⟨⟨ns, a⟩, rfl, ⟨h1, h2⟩, h3⟩
  exact ⟨ns, a, rfl, h1, h2, h3⟩
theorem part_i : ∀ ds T Q E, partC.c ds T Q E → c_part ds fun d => Q d T := by
  rintro ds T Q E ⟨⟨a, b⟩, rfl, _, h3⟩
  exact ⟨a, b, rfl, h3⟩
theorem lowest_i : ∀ ds T Q E, lowestC.c ds T Q E → c_lowest ds fun d => Q d T := by
  rintro ds T Q E ⟨⟨a, b⟩, rfl, ⟨h1, h2⟩, h3⟩
  refine ⟨a, b, rfl, h1, h2, ?_⟩
  have e : R2 (lowT a b, lowU a b) = encQ (Rat.divInt a b) := by rw [encQ_R2, ← lowR_q h1]; rfl
  rw [e]
  exact h3
theorem isless_i : ∀ ds T Q E, islessC.c ds T Q E → c_isless ds fun d => Q d T := by
  rintro ds T Q E ⟨⟨x, y⟩, rfl, ⟨h1, h2⟩, h3⟩
  refine ⟨pairQ x, pairQ y, rfl, pairQ_bt h1, pairQ_bt h2, ?_⟩
  rw [lessR_q]
  exact h3
theorem isint_i : ∀ ds T Q E, isintC.c ds T Q E → c_isint ds fun d => Q d T := by
  rintro ds T Q E ⟨d, rfl, h1, h3⟩
  exact ⟨d, rfl, h1, h3⟩
theorem israt_i : ∀ ds T Q E, isratC.c ds T Q E → c_isratio ds fun d => Q d T := by
  rintro ds T Q E ⟨d, rfl, h1, h3⟩
  exact ⟨d, rfl, h1, h3⟩
theorem isRat_q (q : Rat) : isRatD (encQ q) = true := isRat_lowR (pairQ_low q)
/-- a thing of that size is there -/
theorem inh_fnc {α : Type} {n : Nat} {args : α → List D} {hn : ∀ x, (args x).length = n} {pre : α → Prop} {f : α → D} (x : α) (h : pre x) : ∃ ds T Q E, (fnc n args pre f hn).c ds T Q E := ⟨_, TS.none, fun _ _ => True, noX, x, rfl, h, trivial⟩
theorem inh_rlc {α : Type} {n : Nat} {args : α → List D} {hn : ∀ x, (args x).length = n} {pre : α → Prop} {post : α → D → Prop} (x : α) (h : pre x) : ∃ ds T Q E, (rlc n args pre post hn).c ds T Q E := ⟨_, TS.none, fun _ _ => True, noX, x, rfl, h, fun _ _ => trivial⟩
theorem take_h : ∃ ds T Q E, takeC.c ds T Q E := inh_rlc (1 : Int) ⟨by decide, by decide +kernel⟩
theorem bag_h : ∃ ds T Q E, bagC.c ds T Q E := inh_fnc ([], 0) ⟨by decide, by decide⟩
theorem part_h : ∃ ds T Q E, partC.c ds T Q E := inh_fnc (0, 0) trivial
theorem lowest_h : ∃ ds T Q E, lowestC.c ds T Q E := inh_fnc (0, 1) ⟨by decide, by decide +kernel⟩
theorem isless_h : ∃ ds T Q E, islessC.c ds T Q E := inh_fnc (0, 0) ⟨bq01 _ (by decide), bq01 _ (by decide)⟩
theorem isint_h : ∃ ds T Q E, isintC.c ds T Q E := inh_fnc .non rfl
theorem israt_h : ∃ ds T Q E, isratC.c ds T Q E := inh_fnc .non rfl
end NX
set_option Elab.async false
set_option linter.all false
set_option maxRecDepth 100000
set_option maxHeartbeats 4000000
set_option exponentiation.threshold 20000
/-! Walking made short: comparisons of known things, promises by what they give. -/
namespace NX
open PySem PySem.Spec PyProof.Rows L2 OC
/-! ### plain data -/
mutual
def Pd : Nat → D → Prop
  | _, .int _ => True
  | _, .bl _ => True
  | _, .non => True
  | _, .str s => (PyData.str s).canLay0 = true
  | n + 1, .tup xs => PdL n xs
  | n + 1, .lst xs => PdL n xs
  | _, _ => False
def PdL : Nat → List D → Prop
  | _, [] => True
  | n, d :: ds => Pd n d ∧ PdL n ds
end
theorem pd_int {n : Nat} {i : Int} : Pd n (.int i) := by cases n <;> simp only [Pd]
theorem pd_bl {n : Nat} {b : Bool} : Pd n (.bl b) := by cases n <;> simp only [Pd]
theorem pdL_all {n : Nat} : ∀ {ds : List D}, PdL n ds ↔ ∀ d ∈ ds, Pd n d
  | [] => Iff.intro (fun _ d h => nomatch h) (fun _ => trivial)
  | d :: ds => by
    rw [PdL, pdL_all (ds := ds)]
    exact ⟨fun h e he => by
      rcases List.mem_cons.mp he with rfl | he
      · exact h.1
      · exact h.2 e he, fun h => ⟨h d List.mem_cons_self, fun e he => h e (List.mem_cons_of_mem _ he)⟩⟩
theorem pd_tup {n : Nat} {ds : List D} (h : ∀ d ∈ ds, Pd n d) : Pd (n + 1) (.tup ds) := by rw [Pd]; exact pdL_all.mpr h
theorem pd_lst {n : Nat} {ds : List D} (h : ∀ d ∈ ds, Pd n d) : Pd (n + 1) (.lst ds) := by rw [Pd]; exact pdL_all.mpr h
mutual
theorem pd_ok : ∀ (d : D) (n : Nat), Pd n d → d.pure = true ∧ d.py.depth ≤ n ∧ d.py.canLay0 = true ∧ PyData.eqv d.py d.py = true
  | .int i, n, _ => ⟨rfl, Nat.zero_le _, rfl, by simp [D.py, PyData.eqv]⟩
  | .bl b, n, _ => ⟨rfl, Nat.zero_le _, rfl, by simp [D.py, PyData.eqv]⟩
  | .non, n, _ => ⟨rfl, Nat.zero_le _, rfl, by simp [D.py, PyData.eqv]⟩
  | .str s, n, h => ⟨rfl, Nat.zero_le _, by cases n <;> (simp only [Pd] at h; exact h), by simp [D.py, PyData.eqv]⟩
  | .tup xs, 0, h => by simp only [Pd] at h
  | .lst xs, 0, h => by simp only [Pd] at h
  | .tup xs, n + 1, h => by
    rw [Pd] at h
    obtain ⟨h1, h2, h3, h4⟩ := pd_okL xs n h
    exact ⟨h1, Nat.succ_le_succ h2, h3, h4⟩
  | .lst xs, n + 1, h => by
    rw [Pd] at h
    obtain ⟨h1, h2, h3, h4⟩ := pd_okL xs n h
    exact ⟨h1, Nat.succ_le_succ h2, h3, h4⟩
  | .scr s, n, h => by cases n <;> simp only [Pd] at h
  | .bag, n, h => by cases n <;> simp only [Pd] at h
  | .ob _, n, h => by cases n <;> simp only [Pd] at h
theorem pd_okL : ∀ (xs : List D) (n : Nat), PdL n xs → pureL xs = true ∧ PyData.depthAll (pyL xs) ≤ n ∧ PyData.canLayAll0 (pyL xs) = true ∧ PyData.eqvAll (pyL xs) (pyL xs) = true
  | [], n, _ => ⟨rfl, Nat.zero_le _, rfl, by simp [pyL, PyData.eqvAll]⟩
  | d :: ds, n, h => by
    rw [PdL] at h
    obtain ⟨h1, h3, h4, h5⟩ := pd_ok d n h.1
    obtain ⟨k1, k3, k4, k5⟩ := pd_okL ds n h.2
    refine ⟨?_, ?_, ?_, ?_⟩
    · show (d.pure && pureL ds) = true
      rw [h1, k1]
      rfl
    · show max d.py.depth (PyData.depthAll (pyL ds)) ≤ n
      omega
    · show (d.py.canLay0 && PyData.canLayAll0 (pyL ds)) = true
      rw [h4, k4]
      rfl
    · show (PyData.eqv d.py d.py && PyData.eqvAll (pyL ds) (pyL ds)) = true
      rw [h5, k5]
      rfl
end
theorem pd_pure {n : Nat} {d : D} (h : Pd n d) : d.pure = true := (pd_ok d n h).1
theorem pd_eqOk {n : Nat} {d : D} (h : Pd n d) (hn : n ≤ 60) : eqOk d := by
  obtain ⟨h1, h2, h3, h4⟩ := pd_ok d n h
  refine ⟨h1, ?_⟩
  show (d.py.canLay0 && decide (d.py.depth ≤ 64)) = true
  rw [h3, decide_eq_true (by omega)]
  rfl
mutual
/-- no truth values inside -/
def Nb : D → Prop
  | .bl _ => False
  | .tup xs => NbL xs
  | .lst xs => NbL xs
  | _ => True
def NbL : List D → Prop
  | [] => True
  | d :: ds => Nb d ∧ NbL ds
end
mutual
theorem eqv_inj : ∀ (x y : D), x.pure = true → y.pure = true → Nb x → Nb y → PyData.eqv x.py y.py = true → x = y
  | .int i, y, _, hy, _, nb, h => by cases y <;> simp_all [D.py, PyData.eqv, Nb, D.pure]
  | .bl b, y, _, _, nb, _, h => by simp only [Nb] at nb
  | .non, y, _, hy, _, _, h => by cases y <;> simp_all [D.py, PyData.eqv, D.pure]
  | .str s, y, _, hy, _, _, h => by cases y <;> simp_all [D.py, PyData.eqv, D.pure]
  | .tup xs, y, px, py, nx, ny, h => by
    cases y with
    | tup ys =>
      rw [eqv_injL xs ys px py (by rw [Nb] at nx; exact nx) (by rw [Nb] at ny; exact ny) h]
    | _ => simp_all [D.py, PyData.eqv, D.pure]
  | .lst xs, y, px, py, nx, ny, h => by
    cases y with
    | lst ys =>
      rw [eqv_injL xs ys px py (by rw [Nb] at nx; exact nx) (by rw [Nb] at ny; exact ny) h]
    | _ => simp_all [D.py, PyData.eqv, D.pure]
  | .scr s, _, h, _, _, _, _ => by cases h
  | .bag, _, h, _, _, _, _ => by cases h
  | .ob _, _, h, _, _, _, _ => by cases h
theorem eqv_injL : ∀ (xs ys : List D), pureL xs = true → pureL ys = true → NbL xs → NbL ys → PyData.eqvAll (pyL xs) (pyL ys) = true → xs = ys
  | [], [], _, _, _, _, _ => rfl
  | [], y :: ys, _, _, _, _, h => by simp [pyL, PyData.eqvAll] at h
  | x :: xs, [], _, _, _, _, h => by simp [pyL, PyData.eqvAll] at h
  | x :: xs, y :: ys, px, py, nx, ny, h => by
    have px : (x.pure && pureL xs) = true := px
    have py : (y.pure && pureL ys) = true := py
    have h : (PyData.eqv x.py y.py && PyData.eqvAll (pyL xs) (pyL ys)) = true := h
    rw [NbL] at nx ny
    simp only [Bool.and_eq_true] at px py h
    rw [eqv_inj x y px.1 py.1 nx.1 ny.1 h.1, eqv_injL xs ys px.2 py.2 nx.2 ny.2 h.2]
end
mutual
theorem rsv_inv {T : TS} : ∀ (d p : D), d.pure = true → Rsv T d p → p = d
  | .non, _, _, .non => rfl
  | .bl _, _, _, .bl _ => rfl
  | .int _, _, _, .int _ => rfl
  | .str _, _, _, .str _ => rfl
  | .tup xs, _, h, .tup r => by rw [rsv_invL xs _ h r]
  | .lst xs, _, h, .lst r => by rw [rsv_invL xs _ h r]
theorem rsv_invL {T : TS} : ∀ (d p : List D), pureL d = true → RsvL T d p → p = d
  | [], _, _, .nil => rfl
  | x :: xs, _, h, .cons a b => by
    have h : (x.pure && pureL xs) = true := h
    simp only [Bool.and_eq_true] at h
    rw [rsv_inv x _ h.1 a, rsv_invL xs _ h.2 b]
end
section
variable {T : TS} {Q : QD} {X : XD}
theorem cm_of {o : CO} {x y : D} (ho : o = .eq ∨ o = .ne) (hx : x.pure = true) (hy : y.pure = true) : cmpD o x y T Q = OC.cop o x y fun d => Q d T := by
  refine propext ⟨fun h => ?_, fun h => ?_⟩
  · rcases ho with rfl | rfl <;>
    · obtain ⟨p, q, a, b, c⟩ := h
      rw [rsv_inv _ _ hx a, rsv_inv _ _ hy b] at c
      exact c
  · rcases ho with rfl | rfl <;> exact ⟨x, y, Rsv.pure x hx, Rsv.pure y hy, h⟩
theorem cm_eqI {i j : Int} : cmpD .eq (.int i) (.int j) T Q = Q (.bl (decide (i = j))) T := cm_of (.inl rfl) rfl rfl
theorem cm_neI {i j : Int} : cmpD .ne (.int i) (.int j) T Q = Q (.bl (!decide (i = j))) T := cm_of (.inr rfl) rfl rfl
theorem cm_eqS {i j : Str} : cmpD .eq (.str i) (.str j) T Q = Q (.bl (decide (i = j))) T := cm_of (.inl rfl) rfl rfl
theorem cm_neS {i j : Str} : cmpD .ne (.str i) (.str j) T Q = Q (.bl (!decide (i = j))) T := cm_of (.inr rfl) rfl rfl
theorem cm_ltI {i j : Int} : cmpD .lt (.int i) (.int j) T Q = Q (.bl (decide (i < j))) T := by first | exact propext Iff.rfl
theorem cm_leI {i j : Int} : cmpD .le (.int i) (.int j) T Q = Q (.bl (decide (i ≤ j))) T := by first | exact propext Iff.rfl
theorem cm_gtI {i j : Int} : cmpD .gt (.int i) (.int j) T Q = Q (.bl (decide (j < i))) T := by first | exact propext Iff.rfl
theorem cm_geI {i j : Int} : cmpD .ge (.int i) (.int j) T Q = Q (.bl (decide (j ≤ i))) T := by first | exact propext Iff.rfl
theorem co_eqI {i j : Int} {P : D → Prop} : OC.cop .eq (.int i) (.int j) P = P (.bl (decide (i = j))) := by first | exact propext Iff.rfl
theorem co_neI {i j : Int} {P : D → Prop} : OC.cop .ne (.int i) (.int j) P = P (.bl (!decide (i = j))) := by first | exact propext Iff.rfl
theorem co_ltI {i j : Int} {P : D → Prop} : OC.cop .lt (.int i) (.int j) P = P (.bl (decide (i < j))) := by first | exact propext Iff.rfl
theorem co_leI {i j : Int} {P : D → Prop} : OC.cop .le (.int i) (.int j) P = P (.bl (decide (i ≤ j))) := by first | exact propext Iff.rfl
theorem co_gtI {i j : Int} {P : D → Prop} : OC.cop .gt (.int i) (.int j) P = P (.bl (decide (j < i))) := by first | exact propext Iff.rfl
theorem co_geI {i j : Int} {P : D → Prop} : OC.cop .ge (.int i) (.int j) P = P (.bl (decide (j ≤ i))) := by first | exact propext Iff.rfl
theorem cm_eqB {i j : Bool} : cmpD .eq (.bl i) (.bl j) T Q = Q (.bl (i == j)) T := by
  rw [cm_of (.inl rfl) rfl rfl]
  refine propext ⟨fun h => ?_, fun h => ⟨⟨pd_eqOk (n := 0) pd_bl (by decide), pd_eqOk (n := 0) pd_bl (by decide)⟩, ?_⟩⟩
  · have := h.2
    simpa [D.py, PyData.eqv] using this
  · simpa [D.py, PyData.eqv] using h
theorem cm_neB {i j : Bool} : cmpD .ne (.bl i) (.bl j) T Q = Q (.bl (!(i == j))) T := by
  rw [cm_of (.inr rfl) rfl rfl]
  refine propext ⟨fun h => ?_, fun h => ⟨⟨pd_eqOk (n := 0) pd_bl (by decide), pd_eqOk (n := 0) pd_bl (by decide)⟩, ?_⟩⟩
  · have := h.2
    simpa [D.py, PyData.eqv] using this
  · simpa [D.py, PyData.eqv] using h
theorem beqI {i j : Int} : (i == j) = decide (i = j) := by by_cases h : i = j <;> simp [h]
theorem beqS {i j : Str} : (i == j) = decide (i = j) := by by_cases h : i = j <;> simp [h]
theorem cm_eqP {n : Nat} {x y : D} (hx : Pd n x) (hy : Pd n y) (hn : n ≤ 60) (q : Q (.bl (PyData.eqv x.py y.py)) T) : cmpD .eq x y T Q := by
  rw [cm_of (.inl rfl) (pd_pure hx) (pd_pure hy)]
  cases x <;> cases y <;> first
    | exact ⟨⟨pd_eqOk hx hn, pd_eqOk hy hn⟩, q⟩
    | (simpa [D.py, PyData.eqv, cop, beqI, beqS] using q)
theorem cm_neP {n : Nat} {x y : D} (hx : Pd n x) (hy : Pd n y) (hn : n ≤ 60) (q : Q (.bl (!PyData.eqv x.py y.py)) T) : cmpD .ne x y T Q := by
  rw [cm_of (.inr rfl) (pd_pure hx) (pd_pure hy)]
  cases x <;> cases y <;> first
    | exact ⟨⟨pd_eqOk hx hn, pd_eqOk hy hn⟩, q⟩
    | (simpa [D.py, PyData.eqv, cop, beqI, beqS] using q)
theorem pureL_of {n : Nat} {xs : List D} (h : ∀ x ∈ xs, Pd n x) : pureL xs = true := (pd_okL xs n (pdL_all.mpr h)).1
/-- a list that may change, compared -/
theorem cm_ob {o : CO} {n : Nat} {a : Addr} {xs : List D} {y : D} (ho : o = .eq ∨ o = .ne) (ha : T a = some (.lst xs)) (hx : ∀ x ∈ xs, Pd n x) (h : cmpD o (.lst xs) y T Q) : cmpD o (.ob a) y T Q := by
  rcases ho with rfl | rfl <;>
  · obtain ⟨p, q, r1, r2, r3⟩ := h
    rw [rsv_inv (.lst xs) p (pureL_of hx) r1] at r3
    exact ⟨_, q, .ob ha (RsvL.pure xs (pureL_of hx)), r2, r3⟩
theorem eqv_nil {xs : List D} : PyData.eqv (D.lst xs).py (D.lst []).py = xs.isEmpty := by cases xs <;> rfl
theorem cm_neN {n : Nat} {xs : List D} (hx : ∀ x ∈ xs, Pd n x) (hn : n < 60) (q : Q (.bl (!xs.isEmpty)) T) : cmpD .ne (.lst xs) (.lst []) T Q := by
  refine cm_neP (n := n + 1) (pd_lst hx) (pd_lst fun _ h => nomatch h) hn ?_
  rw [eqv_nil]
  exact q
theorem cm_eqN {n : Nat} {xs : List D} (hx : ∀ x ∈ xs, Pd n x) (hn : n < 60) (q : Q (.bl xs.isEmpty) T) : cmpD .eq (.lst xs) (.lst []) T Q := by
  refine cm_eqP (n := n + 1) (pd_lst hx) (pd_lst fun _ h => nomatch h) hn ?_
  rw [eqv_nil]
  exact q
theorem pd_q {n : Nat} {q : Rat} : Pd (n + 1) (encQ q) := pd_tup fun d hd => by
  simp only [List.mem_cons, List.not_mem_nil, or_false] at hd
  rcases hd with rfl | rfl <;> exact pd_int
theorem nb_q {q : Rat} : Nb (encQ q) := by simp only [encQ, Nb, NbL, and_self]
theorem eqv_q {x y : Rat} : PyData.eqv (encQ x).py (encQ y).py = decide (x = y) := by
  by_cases h : x = y
  · rw [h, decide_eq_true rfl]
    exact (pd_ok _ 1 pd_q).2.2.2
  · rw [decide_eq_false h]
    cases e : PyData.eqv (encQ x).py (encQ y).py with
    | false => rfl
    | true => exact absurd (encQ_inj (eqv_inj _ _ rfl rfl nb_q nb_q e)) h
theorem cm_eqQ {x y : Rat} : cmpD .eq (encQ x) (encQ y) T Q = Q (.bl (decide (x = y))) T := by
  rw [cm_of (.inl rfl) rfl rfl]
  show ((eqOk (encQ x) ∧ eqOk (encQ y)) ∧ Q (.bl (PyData.eqv (encQ x).py (encQ y).py)) T) = _
  rw [eqv_q]
  exact propext ⟨fun h => h.2, fun h => ⟨⟨pd_eqOk (n := 1) pd_q (by decide), pd_eqOk (n := 1) pd_q (by decide)⟩, h⟩⟩
theorem cm_neQ {x y : Rat} : cmpD .ne (encQ x) (encQ y) T Q = Q (.bl (!decide (x = y))) T := by
  rw [cm_of (.inr rfl) rfl rfl]
  show ((eqOk (encQ x) ∧ eqOk (encQ y)) ∧ Q (.bl (!PyData.eqv (encQ x).py (encQ y).py)) T) = _
  rw [eqv_q]
  exact propext ⟨fun h => h.2, fun h => ⟨⟨pd_eqOk (n := 1) pd_q (by decide), pd_eqOk (n := 1) pd_q (by decide)⟩, h⟩⟩
theorem q11 : D.tup [.int 1, .int 1] = encQ 1 := rfl
/-! ### promises -/
/-- a def that changes nothing and returns the code of something of which post holds -/
def rle {α β : Type} (n : Nat) (args : α → List D) (pre : α → Prop) (enc : β → D) (post : α → β → Prop) (hn : ∀ x, (args x).length = n := by intro _; rfl) : Ct where
  n := n
  c ds T Q _ := ∃ x, ds = args x ∧ pre x ∧ ∀ y, post x y → Q (enc y) T
  len h := by obtain ⟨x, rfl, _⟩ := h; exact hn x
  mono h _ w := by obtain ⟨x, e, a, b⟩ := w; exact ⟨x, e, a, fun d hd => h _ _ (b d hd)⟩
theorem rle_c {α β : Type} {n : Nat} {args : α → List D} {hn : ∀ x, (args x).length = n} {pre : α → Prop} {enc : β → D} {post : α → β → Prop} {x : α} (hi : ∀ x y, args x = args y → x = y) : (rle n args pre enc post hn).c (args x) T Q X = (pre x ∧ ∀ y, post x y → Q (enc y) T) := propext ⟨fun ⟨y, e, a, b⟩ => by cases hi _ _ e; exact ⟨a, b⟩, fun h => ⟨x, rfl, h.1, h.2⟩⟩
theorem fnc_cI {α : Type} {n : Nat} {args : α → List D} {hn : ∀ x, (args x).length = n} {pre : α → Prop} {f : α → D} {x : α} (hi : ∀ x y, args x = args y → x = y) : (fnc n args pre f hn).c (args x) T Q X = (pre x ∧ Q (f x) T) := propext ⟨fun ⟨y, e, a, b⟩ => by cases hi _ _ e; exact ⟨a, b⟩, fun h => ⟨x, rfl, h.1, h.2⟩⟩
/-- of a bag -/
def bagP {β : Type} (enc : β → D) (post : β → Prop) : Ct := rle 1 (fun _ : Unit => [.bag]) (fun _ => True) enc fun _ => post
theorem bagP_c {β : Type} {enc : β → D} {post : β → Prop} : (bagP enc post).c [.bag] T Q X = ∀ y, post y → Q (enc y) T := propext ⟨fun ⟨_, _, _, h⟩ => h, fun h => ⟨(), rfl, trivial, h⟩⟩
/-- how many may be drawn from -/
def TkOk (n : Int) : Prop := 0 < n ∧ n.natAbs < 2 ^ 8000
theorem tk_of {n : Int} (h0 : 0 < n) (h1 : n < 10000000000000000000000000000000000000000) : TkOk n := ⟨h0, Nat.lt_of_lt_of_le (show n.natAbs < 2 ^ 200 by omega) (Nat.pow_le_pow_right (by decide) (by decide))⟩
theorem tk (n : Int) (h : (decide (0 < n) && decide (n < 10000000000000000000000000000000000000000)) = true) : TkOk n := by
  simp only [Bool.and_eq_true, decide_eq_true_eq] at h
  exact tk_of h.1 h.2
theorem take_c {n : Int} : takeC.c [.bag, .int n] T Q X = (TkOk n ∧ ∀ r : Int, 0 ≤ r → r < n → Q (.int r) T) := propext ⟨fun ⟨m, e, a, b⟩ => by cases e; exact ⟨a, fun r h1 h2 => b _ ⟨r, rfl, h1, h2⟩⟩, fun h => ⟨n, rfl, h.1, fun d ⟨r, e, h1, h2⟩ => by cases e; exact h.2 r h1 h2⟩⟩
theorem bag_c {ns : List Int} {k : Int} : bagC.c [.scr ns, .int k] T Q X = ((0 ≤ k ∧ k < 64) ∧ Q .bag T) := propext ⟨fun ⟨m, e, a, b⟩ => by cases e; exact ⟨a, b⟩, fun h => ⟨(ns, k), rfl, h.1, h.2⟩⟩
theorem part_c {a b : Int} : partC.c [.int a, .int b] T Q X = Q (.int (Int.gcd a b)) T := propext ⟨fun ⟨⟨c, d⟩, e, _, q⟩ => by cases e; exact q, fun h => ⟨(a, b), rfl, trivial, h⟩⟩
theorem lowest_c {a b : Int} : lowestC.c [.int a, .int b] T Q X = ((b ≠ 0 ∧ b.natAbs < 2 ^ 8000) ∧ Q (encQ (Rat.divInt a b)) T) := propext ⟨fun ⟨⟨c, d⟩, e, h, q⟩ => by cases e; exact ⟨h, q⟩, fun h => ⟨(a, b), rfl, h.1, h.2⟩⟩
theorem two_inj {x y a b : Rat} (h : [encQ x, encQ y] = [encQ a, encQ b]) : x = a ∧ y = b := by
  simp only [List.cons.injEq, and_true] at h
  exact ⟨encQ_inj h.1, encQ_inj h.2⟩
theorem isless_c {x y : Rat} : islessC.c [encQ x, encQ y] T Q X = ((Bq 4000 x ∧ Bq 4000 y) ∧ Q (.bl (decide (x < y))) T) := propext ⟨fun ⟨⟨c, d⟩, e, h, q⟩ => by obtain ⟨rfl, rfl⟩ := two_inj e; exact ⟨h, q⟩, fun h => ⟨(x, y), rfl, h.1, h.2⟩⟩
theorem israt_c {d : D} : isratC.c [d] T Q X = (d.pure = true ∧ Q (.bl (isRatD d)) T) := propext ⟨fun ⟨c, e, h, q⟩ => by cases e; exact ⟨h, q⟩, fun h => ⟨d, rfl, h.1, h.2⟩⟩
/-! ### what is owned -/
theorem mkL_t {xs : List D} : mkL true xs T Q = ∀ a, T a = none → Q (.ob a) (T.put a (.lst xs)) := by first | exact propext Iff.rfl
theorem mkL_f {xs : List D} : mkL false xs T Q = Q (.lst xs) T := by first | exact propext Iff.rfl
theorem viewL_l {xs : List D} : viewL T (.lst xs) = some xs := by first | rfl
theorem viewS_l {xs : List D} : viewS T (.lst xs) = some xs := by first | rfl
theorem viewS_t {xs : List D} : viewS T (.tup xs) = some xs := by first | rfl
theorem someE {α : Type} {x : α} {P : α → Prop} : (∃ y, some x = some y ∧ P y) = P x := propext ⟨fun ⟨_, e, h⟩ => by cases e; exact h, fun h => ⟨x, rfl, h⟩⟩
theorem TS.Sub.trans {A B C : TS} (h : A.Sub B) (k : B.Sub C) : A.Sub C := fun a o e => k a o (h a o e)
end
/-- a loop over coded things: what is behind, what is ahead -/
theorem for_enc {α : Type} {body : MS} {tg : Tn} {k : Ks} (enc : α → D) (I : List α → List α → GV → TS → Prop)
    (hs : ∀ ps x rs G T, I ps (x :: rs) G T → ∀ nx : GV → TS → Prop, (∀ G' T', I (ps ++ [x]) rs G' T' → nx G' T') → match bindN tg (enc x) G with | some G1 => body G1 T { nx := nx, rt := k.rt, bk := k.nx, ct := nx, ex := k.ex } | none => False)
    (hn : ∀ ps G T, I ps [] G T → k.nx G T) : ∀ (rs ps : List α) (G : GV) (T : TS), I ps rs G T → wpFor body tg k (rs.map enc) G T
  | [], ps, G, T, hi => hn ps G T hi
  | x :: rs, ps, G, T, hi => hs ps x rs G T hi _ fun G' T' hi' => for_enc enc I hs hn rs (ps ++ [x]) G' T' hi'
theorem ixn_t {n : Nat} {xs : List D} {T : TS} {Q : QD} : ixnD n (.tup xs) T Q = match xs[n]? with | some d => Q d T | none => False := by first | exact propext Iff.rfl
theorem ixn_l {n : Nat} {xs : List D} {T : TS} {Q : QD} : ixnD n (.lst xs) T Q = match xs[n]? with | some d => Q d T | none => False := by first | exact propext Iff.rfl
theorem ixn_o {n : Nat} {a : Addr} {T : TS} {Q : QD} : ixnD n (.ob a) T Q = ∃ xs d, T a = some (.lst xs) ∧ xs[n]? = some d ∧ Q d T := by first | exact propext Iff.rfl
theorem ixn_q0 {q : Rat} {T : TS} {Q : QD} : ixnD 0 (encQ q) T Q = Q (.int q.num) T := by first | exact propext Iff.rfl
theorem ixn_q1 {q : Rat} {T : TS} {Q : QD} : ixnD 1 (encQ q) T Q = Q (.int q.den) T := by first | exact propext Iff.rfl
/-! built-in functions upon known things -/
theorem bi_len_l {T : TS} {Q : QD} {xs : List D} : biD .len [.lst xs] T Q = Q (.int xs.length) T := by first | exact propext Iff.rfl
theorem bi_len_t {T : TS} {Q : QD} {xs : List D} : biD .len [.tup xs] T Q = Q (.int xs.length) T := by first | exact propext Iff.rfl
theorem bi_len_s {T : TS} {Q : QD} {xs : List Int} : biD .len [.scr xs] T Q = Q (.int xs.length) T := by first | exact propext Iff.rfl
theorem bi_len_x {T : TS} {Q : QD} {s : Str} : biD .len [.str s] T Q = (s.length ≤ sizeLine ∧ Q (.int s.length) T) := by first | exact propext Iff.rfl
theorem bi_len_o {T : TS} {Q : QD} {a : Addr} : biD .len [.ob a] T Q = ∃ xs, T a = some (.lst xs) ∧ Q (.int xs.length) T := by first | exact propext Iff.rfl
theorem bi_abs {T : TS} {Q : QD} {i : Int} : biD .abs [.int i] T Q = Q (.int (if i < 0 then -i else i)) T := by first | exact propext Iff.rfl
theorem bi_max2 {T : TS} {Q : QD} {i j : Int} : biD .max [.int i, .int j] T Q = Q (.int (if j > i then j else i)) T := by first | exact propext Iff.rfl
theorem bi_min2 {T : TS} {Q : QD} {i j : Int} : biD .min [.int i, .int j] T Q = Q (.int (if j < i then j else i)) T := by first | exact propext Iff.rfl
theorem bi_max3 {T : TS} {Q : QD} {i j k : Int} : biD .max [.int i, .int j, .int k] T Q = Q (.int (if k > (if j > i then j else i) then k else (if j > i then j else i))) T := by first | exact propext Iff.rfl
theorem bi_sum_l {T : TS} {Q : QD} {xs : List D} : biD .sum [.lst xs] T Q = (match intsOf xs with | some ns => Q (.int ns.sum) T | none => False) := by first | exact propext Iff.rfl
theorem bi_sum_o {T : TS} {Q : QD} {a : Addr} : biD .sum [.ob a] T Q = ∃ xs ns, T a = some (.lst xs) ∧ intsOf xs = some ns ∧ Q (.int ns.sum) T := by first | exact propext Iff.rfl
theorem bi_all_l {T : TS} {Q : QD} {xs : List D} : biD .all [.lst xs] T Q = (match blsOf xs with | some bs => Q (.bl (bs.all id)) T | none => False) := by first | exact propext Iff.rfl
theorem bi_all_o {T : TS} {Q : QD} {a : Addr} : biD .all [.ob a] T Q = ∃ xs ns, T a = some (.lst xs) ∧ blsOf xs = some ns ∧ Q (.bl (ns.all id)) T := by first | exact propext Iff.rfl
theorem bi_any_l {T : TS} {Q : QD} {xs : List D} : biD .any [.lst xs] T Q = (match blsOf xs with | some bs => Q (.bl (bs.any id)) T | none => False) := by first | exact propext Iff.rfl
theorem bi_any_o {T : TS} {Q : QD} {a : Addr} : biD .any [.ob a] T Q = ∃ xs ns, T a = some (.lst xs) ∧ blsOf xs = some ns ∧ Q (.bl (ns.any id)) T := by first | exact propext Iff.rfl
theorem bi_repr {T : TS} {Q : QD} {x : D} : biD .repr [x] T Q = ∃ p, Rsv T x p ∧ showOk p ∧ Q (.str p.py.shown) T := by first | exact propext Iff.rfl
theorem bi_divmod {T : TS} {Q : QD} {i j : Int} : biD .divmod [.int i, .int j] T Q = ((0 < j ∧ j.natAbs.log2 < 9000) ∧ Q (.tup [.int (i / j), .int (i % j)]) T) := by first | exact propext Iff.rfl
theorem bi_int_i {T : TS} {Q : QD} {i : Int} : biD .int [.int i] T Q = Q (.int i) T := by first | exact propext Iff.rfl
theorem bi_int_b {T : TS} {Q : QD} {b : Bool} : biD .int [.bl b] T Q = Q (.int (if b then 1 else 0)) T := by first | exact propext Iff.rfl
/-- isinstance -/
def isiD (t : Ty) (x : D) (T : TS) (Q : QD) : Prop := match x with
  | .ob a => ∃ xs, T a = some (.lst xs) ∧ Q (.bl (OC.isTy t (.lst []))) T
  | x => x.pure = true ∧ Q (.bl (OC.isTy t x)) T
theorem ex_isD {F : List Ct} {G : GV} {T : TS} {Q : QD} {X : XD} {t : Ty} {a : E} : wpE F (.op (isiS t) [a]) G T Q X = wpE F a G T (fun x T1 => isiD t x T1 Q) X := by rw [ex_isi]; rfl
theorem isi_p {t : Ty} {x : D} {T : TS} {Q : QD} (h : x.pure = true) : isiD t x T Q = Q (.bl (OC.isTy t x)) T := by
  cases x with
  | ob a => cases h
  | _ => exact propext ⟨fun z => z.2, fun z => ⟨h, z⟩⟩
theorem isi_i {t : Ty} {i : Int} {T : TS} {Q : QD} : isiD t (.int i) T Q = Q (.bl (OC.isTy t (.int i))) T := isi_p rfl
theorem isi_b {t : Ty} {i : Bool} {T : TS} {Q : QD} : isiD t (.bl i) T Q = Q (.bl (OC.isTy t (.bl i))) T := isi_p rfl
theorem isi_s {t : Ty} {i : Str} {T : TS} {Q : QD} : isiD t (.str i) T Q = Q (.bl (OC.isTy t (.str i))) T := isi_p rfl
theorem isi_n {t : Ty} {T : TS} {Q : QD} : isiD t .non T Q = Q (.bl (OC.isTy t .non)) T := isi_p rfl
/-! ### targets -/
theorem bn_name {i : Nat} {d : D} {G : GV} : bindN (.name i) d G = some (G.set i (some d)) := by rw [bindN]
theorem bn_tup {ts : List Tn} {ds : List D} {G : GV} : bindN (.tup ts) (.tup ds) G = if ts.length = ds.length then bindNs ts ds G else none := by rw [bindN]
theorem bns_nil {G : GV} : bindNs [] [] G = some G := by rw [bindNs]
theorem bns_cons {t : Tn} {ts : List Tn} {d : D} {ds : List D} {G : GV} : bindNs (t :: ts) (d :: ds) G = match bindN t d G with | some G1 => bindNs ts ds G1 | none => none := by cases h : bindN t d G <;> simp only [bindNs, h]
/-! ### lists -/
theorem cutD_lo {xs : List D} {c : Int} (h : 0 ≤ c) : OC.cutD xs (some c) none = xs.drop c.toNat := by
  unfold OC.cutD HT.sIx
  have h' : ¬ c < 0 := by omega
  simp only [if_neg h']
  by_cases q : c.toNat ≤ xs.length
  · rw [Nat.min_eq_left q, List.take_of_length_le (by simp)]
  · rw [Nat.min_eq_right (by omega), List.drop_eq_nil_of_le (by omega), List.drop_eq_nil_of_le (by omega)]
    simp
theorem cutD_hi {xs : List D} {c : Int} (h : 0 ≤ c) : OC.cutD xs none (some c) = xs.take c.toNat := by
  unfold OC.cutD HT.sIx
  have h' : ¬ c < 0 := by omega
  simp only [if_neg h', List.drop_zero, Nat.sub_zero]
  by_cases q : c.toNat ≤ xs.length
  · rw [Nat.min_eq_left q]
  · rw [Nat.min_eq_right (by omega), List.take_of_length_le (by omega), List.take_of_length_le (by omega)]
theorem if_nil {F : List Ct} {G : GV} {T : TS} {A B : TS → Prop} : wpIf F [] G T A B = A T := by rw [wpIf]
theorem if_cons {F : List Ct} {e : E} {es : List E} {G : GV} {T : TS} {A B : TS → Prop} : wpIf F (e :: es) G T A B = wpE F e G T (fun x T1 => dtru x fun q => if q = true then wpIf F es G T1 A B else B T1) noX := by rw [wpIf]
/-- the numbers from 0 -/
theorem rng0 {n : Int} : rngD 0 n = (List.range n.toNat).map fun i : Nat => .int i := by
  unfold rngD
  rw [Int.sub_zero]
  refine List.map_congr_left fun i _ => ?_
  rw [Int.zero_add]
theorem mem_rng' {a b : Int} {d : D} (h : d ∈ rngD a b) : ∃ k : Int, d = .int k ∧ a ≤ k ∧ k < b := by
  unfold rngD at h
  simp only [List.mem_map, List.mem_range] at h
  obtain ⟨i, hi, rfl⟩ := h
  exact ⟨_, rfl, by omega, by omega⟩
/-! ### one of a written list -/
theorem atI_map {α β : Type} {f : α → β} {l : List α} {r : Int} : atI (l.map f) r = (atI l r).map f := by
  unfold atI
  rw [List.length_map]
  cases ixN l.length r with
  | none => rfl
  | some j => simp
/-- which -/
def pick {α : Type} [Inhabited α] (l : List α) (r : Int) : α := (atI l r).getD default
def picks {α : Type} (l : List α) (r : Int) : Prop := (atI l r).isSome = true
theorem pick_mem {α : Type} [Inhabited α] {l : List α} {r : Int} (h0 : 0 ≤ r) (h1 : r < l.length) : picks l r ∧ pick l r ∈ l := by
  have e : atI l r = l[r.toNat]? := by
    unfold atI ixN
    rw [if_pos h0, if_pos h1]
    rfl
  have hl : r.toNat < l.length := by omega
  unfold picks pick
  rw [e, List.getElem?_eq_getElem hl]
  exact ⟨rfl, List.getElem_mem hl⟩
theorem pick_ok {α : Type} [Inhabited α] {l : List α} {r n : Int} (h0 : 0 ≤ r) (h1 : r < n) (hn : n = l.length := by rfl) : picks l r := (pick_mem h0 (by rw [← hn]; exact h1)).1
theorem pick_in {α : Type} [Inhabited α] {l : List α} {r n : Int} {x : α} (h : x = pick l r) (h0 : 0 ≤ r) (h1 : r < n) (hn : n = l.length := by rfl) : x ∈ l := by rw [h]; exact (pick_mem h0 (by rw [← hn]; exact h1)).2
theorem pk {α : Type} [Inhabited α] {T : TS} {Q : QD} {f : α → D} {l : List α} {r : Int} : ixD (.lst (l.map f)) (.int r) T Q = (picks l r ∧ ∀ x, x = pick l r → Q (f x) T) := by
  show (match atI (l.map f) r with | some d => Q d T | none => False) = _
  unfold picks pick
  rw [atI_map]
  cases e : atI l r with
  | none => simp
  | some x => simp
instance : Inhabited D := ⟨.non⟩
section
variable {T : TS} {Q : QD} {r : Int}
theorem pkI2 {x0 x1 : Int} : ixD (.lst [.int x0, .int x1]) (.int r) T Q = (picks [x0, x1] r ∧ ∀ x, x = pick [x0, x1] r → Q (.int x) T) := pk (f := .int) (l := [x0, x1])
theorem pkQ2 {x0 x1 : Rat} : ixD (.lst [encQ x0, encQ x1]) (.int r) T Q = (picks [x0, x1] r ∧ ∀ x, x = pick [x0, x1] r → Q (encQ x) T) := pk (f := encQ) (l := [x0, x1])
theorem pkL2 {x0 x1 : List D} : ixD (.lst [.lst x0, .lst x1]) (.int r) T Q = (picks [x0, x1] r ∧ ∀ x, x = pick [x0, x1] r → Q (.lst x) T) := pk (f := .lst) (l := [x0, x1])
theorem pkU2 {x0 x1 : List D} : ixD (.lst [.tup x0, .tup x1]) (.int r) T Q = (picks [x0, x1] r ∧ ∀ x, x = pick [x0, x1] r → Q (.tup x) T) := pk (f := .tup) (l := [x0, x1])
theorem pkI3 {x0 x1 x2 : Int} : ixD (.lst [.int x0, .int x1, .int x2]) (.int r) T Q = (picks [x0, x1, x2] r ∧ ∀ x, x = pick [x0, x1, x2] r → Q (.int x) T) := pk (f := .int) (l := [x0, x1, x2])
theorem pkQ3 {x0 x1 x2 : Rat} : ixD (.lst [encQ x0, encQ x1, encQ x2]) (.int r) T Q = (picks [x0, x1, x2] r ∧ ∀ x, x = pick [x0, x1, x2] r → Q (encQ x) T) := pk (f := encQ) (l := [x0, x1, x2])
theorem pkL3 {x0 x1 x2 : List D} : ixD (.lst [.lst x0, .lst x1, .lst x2]) (.int r) T Q = (picks [x0, x1, x2] r ∧ ∀ x, x = pick [x0, x1, x2] r → Q (.lst x) T) := pk (f := .lst) (l := [x0, x1, x2])
theorem pkU3 {x0 x1 x2 : List D} : ixD (.lst [.tup x0, .tup x1, .tup x2]) (.int r) T Q = (picks [x0, x1, x2] r ∧ ∀ x, x = pick [x0, x1, x2] r → Q (.tup x) T) := pk (f := .tup) (l := [x0, x1, x2])
theorem pkI4 {x0 x1 x2 x3 : Int} : ixD (.lst [.int x0, .int x1, .int x2, .int x3]) (.int r) T Q = (picks [x0, x1, x2, x3] r ∧ ∀ x, x = pick [x0, x1, x2, x3] r → Q (.int x) T) := pk (f := .int) (l := [x0, x1, x2, x3])
theorem pkQ4 {x0 x1 x2 x3 : Rat} : ixD (.lst [encQ x0, encQ x1, encQ x2, encQ x3]) (.int r) T Q = (picks [x0, x1, x2, x3] r ∧ ∀ x, x = pick [x0, x1, x2, x3] r → Q (encQ x) T) := pk (f := encQ) (l := [x0, x1, x2, x3])
theorem pkL4 {x0 x1 x2 x3 : List D} : ixD (.lst [.lst x0, .lst x1, .lst x2, .lst x3]) (.int r) T Q = (picks [x0, x1, x2, x3] r ∧ ∀ x, x = pick [x0, x1, x2, x3] r → Q (.lst x) T) := pk (f := .lst) (l := [x0, x1, x2, x3])
theorem pkU4 {x0 x1 x2 x3 : List D} : ixD (.lst [.tup x0, .tup x1, .tup x2, .tup x3]) (.int r) T Q = (picks [x0, x1, x2, x3] r ∧ ∀ x, x = pick [x0, x1, x2, x3] r → Q (.tup x) T) := pk (f := .tup) (l := [x0, x1, x2, x3])
theorem pkI5 {x0 x1 x2 x3 x4 : Int} : ixD (.lst [.int x0, .int x1, .int x2, .int x3, .int x4]) (.int r) T Q = (picks [x0, x1, x2, x3, x4] r ∧ ∀ x, x = pick [x0, x1, x2, x3, x4] r → Q (.int x) T) := pk (f := .int) (l := [x0, x1, x2, x3, x4])
theorem pkQ5 {x0 x1 x2 x3 x4 : Rat} : ixD (.lst [encQ x0, encQ x1, encQ x2, encQ x3, encQ x4]) (.int r) T Q = (picks [x0, x1, x2, x3, x4] r ∧ ∀ x, x = pick [x0, x1, x2, x3, x4] r → Q (encQ x) T) := pk (f := encQ) (l := [x0, x1, x2, x3, x4])
theorem pkL5 {x0 x1 x2 x3 x4 : List D} : ixD (.lst [.lst x0, .lst x1, .lst x2, .lst x3, .lst x4]) (.int r) T Q = (picks [x0, x1, x2, x3, x4] r ∧ ∀ x, x = pick [x0, x1, x2, x3, x4] r → Q (.lst x) T) := pk (f := .lst) (l := [x0, x1, x2, x3, x4])
theorem pkU5 {x0 x1 x2 x3 x4 : List D} : ixD (.lst [.tup x0, .tup x1, .tup x2, .tup x3, .tup x4]) (.int r) T Q = (picks [x0, x1, x2, x3, x4] r ∧ ∀ x, x = pick [x0, x1, x2, x3, x4] r → Q (.tup x) T) := pk (f := .tup) (l := [x0, x1, x2, x3, x4])
theorem pkI6 {x0 x1 x2 x3 x4 x5 : Int} : ixD (.lst [.int x0, .int x1, .int x2, .int x3, .int x4, .int x5]) (.int r) T Q = (picks [x0, x1, x2, x3, x4, x5] r ∧ ∀ x, x = pick [x0, x1, x2, x3, x4, x5] r → Q (.int x) T) := pk (f := .int) (l := [x0, x1, x2, x3, x4, x5])
theorem ix_l {ds : List D} : ixD (.lst ds) (.int r) T Q = match atI ds r with | some d => Q d T | none => False := by first | exact propext Iff.rfl
theorem ix_o {a : Addr} : ixD (.ob a) (.int r) T Q = ∃ xs d, T a = some (.lst xs) ∧ atI xs r = some d ∧ Q d T := by first | exact propext Iff.rfl
end
section
variable {T : TS} {Q : QD} {r : Int}
theorem ret_here {d : D} (h : Q d T) : ∃ T2, T2.Sub T ∧ Q d T2 := ⟨T, TS.Sub.refl, h⟩
end
end NX
set_option Elab.async false
set_option linter.all false
set_option maxRecDepth 100000
set_option maxHeartbeats 4000000
/-! The wider small language: tuples cut, sorted numbers, the least and the greatest, what lies in a list. -/
namespace NX
open PySem PySem.Spec PyProof.Rows L2 OC
/-- of tuples, not the whole -/
def slT : SlK where
  r := rSlT
  g x p q T Q := match x with | .tup xs => ¬ (HT.sIx xs.length 0 p = 0 ∧ HT.sIx xs.length xs.length q = xs.length) ∧ Q (.tup (OC.cutD xs p q)) T | _ => False
  gm h w := by
    split at w
    · exact ⟨w.1, h _ _ w.2⟩
    · exact w
  hS X := sl_tup
  hr := fun Ω Bg M T H x dx p q Qd Q s rx w post => by
    cases dx with
    | tup xs =>
      obtain ⟨a, vs, rfl, hs, rl⟩ := rx.tup_inv
      refine ⟨a, vs, rfl, hs, by rw [rl.len]; exact w.1, fun p hp => new_tup s (rl.cut _ _) w.2 post hp⟩
    | _ => exact w.elim
theorem slT_g {T : TS} {Q : QD} {xs : List D} {p q : Option Int} : slT.g (.tup xs) p q T Q = (¬ (HT.sIx xs.length 0 p = 0 ∧ HT.sIx xs.length xs.length q = xs.length) ∧ Q (.tup (OC.cutD xs p q)) T) := by first | exact propext Iff.rfl
/-- whole numbers, sorted -/
def srtIS (own : Bool) : OpS := bltS "sorted" "sorted" (by decide +kernel) (by decide) (by decide) rSortedI (fun X _ _ _ => cr_sortedI) (fun ds T Q => match ds with | [d] => ∃ ns : List Int, viewL T d = some (ns.map D.int) ∧ ∀ ms : List Int, ms.Perm ns → ms.Pairwise (· ≤ ·) → mkL own (ms.map D.int) T Q | _ => False) (fun h w => by
    split at w
    · obtain ⟨ns, a, b⟩ := w
      exact ⟨ns, a, fun ms h1 h2 => mkL_mono h (b ms h1 h2)⟩
    · exact w) (fun Ω Bg M T H vs ds Qd Q s rl w post => by
    match ds, rl, w with
    | [d], rl, ⟨ns, hv, w⟩ =>
      obtain ⟨v, rfl, r⟩ := one_inv rl
      obtain ⟨a, us, rfl, hs, rl2⟩ := view_ok s hv r
      cases RepL.ints_inv rl2
      exact ⟨a, ns, rfl, .inl (.inl hs), fun ms p h1 h2 hp => new_lst s (RepL.ints ms) (w ms h1 h2) post hp⟩)
/-- the least of a list -/
def mnLS : OpS := bltS "min" "min" (by decide +kernel) (by decide) (by decide) rMin (fun X hc _ _ => cr_min hc) (fun ds T Q => match ds with | [d] => ∃ ns : List Int, viewL T d = some (ns.map D.int) ∧ 0 < ns.length ∧ ∀ m, m ∈ ns → (∀ y, y ∈ ns → m ≤ y) → Q (.int m) T | _ => False) (fun h w => by
    split at w
    · obtain ⟨ns, a, b, c⟩ := w
      exact ⟨ns, a, b, fun m h1 h2 => h _ _ (c m h1 h2)⟩
    · exact w) (fun Ω Bg M T H vs ds Qd Q s rl w post => by
    match ds, rl, w with
    | [d], rl, ⟨ns, hv, hl, w⟩ =>
      obtain ⟨v, rfl, r⟩ := one_inv rl
      obtain ⟨a, us, rfl, hs, rl2⟩ := view_ok s hv r
      cases RepL.ints_inv rl2
      exact ⟨a, ns, rfl, .inl (.inl hs), hl, fun m h1 h2 => post.here s (.int m) (w m h1 h2)⟩)
def mxLS : OpS := bltS "max" "max" (by decide +kernel) (by decide) (by decide) rMax (fun X hc _ _ => cr_max hc) (fun ds T Q => match ds with | [d] => ∃ ns : List Int, viewL T d = some (ns.map D.int) ∧ 0 < ns.length ∧ ∀ m, m ∈ ns → (∀ y, y ∈ ns → y ≤ m) → Q (.int m) T | _ => False) (fun h w => by
    split at w
    · obtain ⟨ns, a, b, c⟩ := w
      exact ⟨ns, a, b, fun m h1 h2 => h _ _ (c m h1 h2)⟩
    · exact w) (fun Ω Bg M T H vs ds Qd Q s rl w post => by
    match ds, rl, w with
    | [d], rl, ⟨ns, hv, hl, w⟩ =>
      obtain ⟨v, rfl, r⟩ := one_inv rl
      obtain ⟨a, us, rfl, hs, rl2⟩ := view_ok s hv r
      cases RepL.ints_inv rl2
      exact ⟨a, ns, rfl, .inl (.inl hs), hl, fun m h1 h2 => post.here s (.int m) (w m h1 h2)⟩)
/-- whether an equal one lies in the list -/
def inD (yes : Bool) (x y : D) (T : TS) (Q : QD) : Prop := ∃ p ps, Rsv T x p ∧ Rsv T y (.lst ps) ∧ eqOk p ∧ eqOk (.lst ps) ∧ Q (.bl ((ps.any fun z => PyData.eqv z.py p.py) == yes)) T
theorem any_py {p : PyData} : ∀ ps : List D, ((pyL ps).any fun z => PyData.eqv z p) = ps.any fun z => PyData.eqv z.py p
  | [] => rfl
  | d :: ps => by
    show (PyData.eqv d.py p || (pyL ps).any fun z => PyData.eqv z p) = _
    rw [any_py ps]
    rfl
def rInB (K : PySem.W.Frag) (yes : Bool) : R2 := if yes = true then rInD K else rNotInD K
def inOp (yes : Bool) : CmpOp := if yes = true then .In else .NotIn
theorem op_inB {X : Cx} (hu : X.A.units + 65 < cLine) (yes : Bool) : OpR X (compareOp (inOp yes)) (rInB X.K yes) := by
  cases yes
  · exact op_notInD hu
  · exact op_inD hu
theorem rok_in {Ω : Wd} (yes : Bool) : ROk2 Ω (rInB Ω.K yes) (inD yes) := fun Bg M T H x y dx dy Qd Q s rx ry ⟨p, ps, r1, r2, h1, h2, q⟩ post => by
  have d1 := r1.dp s rx
  have d2 := r2.dp s ry
  cases yes
  · refine ⟨_, _, d1, d2, h1.2, h2.2, ?_⟩
    rw [any_py]
    refine post.here s (.bl _) ?_
    have : ((ps.any fun z => PyData.eqv z.py p.py) == false) = !(ps.any fun z => PyData.eqv z.py p.py) := by cases (ps.any fun z => PyData.eqv z.py p.py) <;> rfl
    rw [← this]
    exact q
  · refine ⟨_, _, d1, d2, h1.2, h2.2, ?_⟩
    rw [any_py]
    refine post.here s (.bl _) ?_
    have : ((ps.any fun z => PyData.eqv z.py p.py) == true) = (ps.any fun z => PyData.eqv z.py p.py) := by cases (ps.any fun z => PyData.eqv z.py p.py) <;> rfl
    rw [← this]
    exact q
def inSh (yes : Bool) (e : Expr) : Option (Expr × Expr) := match asCmp e with
  | some (x, [p], [y]) => if cmpN p == cmpN (inOp yes) && !isSet y then some (x, y) else none
  | _ => none
theorem cmp_in {p : CmpOp} {yes : Bool} (h : (cmpN p == cmpN (inOp yes)) = true) : p = inOp yes := by
  cases yes <;> cases p <;> first | rfl | cases h
theorem inSh_ok {yes : Bool} {e x y : Expr} (h : inSh yes e = some (x, y)) : ∃ ps, e = .Compare x [inOp yes] [y] ps ∧ behindInMarks (inOp yes) y = false := by
  unfold inSh at h
  split at h
  · rename_i x' p y' hx
    split at h
    · rename_i ho
      cases h
      simp only [Bool.and_eq_true, Bool.not_eq_true'] at ho
      obtain ⟨ps, rfl⟩ := asCmp_ok hx
      obtain rfl := cmp_in ho.1
      exact ⟨ps, rfl, pc_mark ho.2⟩
    · cases h
  · cases h
theorem Gd.hu65 {Ω : Wd} {C : Ck} {sc : Scope} {k : Nat} {X : Cx} (g : Gd Ω C sc k X) : X.A.units + 65 < cLine := by have := g.room.un; omega
theorem in_sound {yes : Bool} {Ω : Wd} {C : Ck} {k : Nat} {sc : Scope} {e x y : Expr} {m n : VT} (hs : inSh yes e = some (x, y)) (h1 : SE Ω C k sc x m) (h2 : SE Ω C k sc y n) :
    (SE Ω C k sc e fun G T Q X => m G T (fun d T1 => n G T1 (fun d2 T2 => inD yes d d2 T2 Q) X) X) ∧ ST Ω C k sc e fun G T Q X => m G T (fun d T1 => n G T1 (fun d2 T2 => inD yes d d2 T2 Q) X) X := by
  obtain ⟨ps, rfl, hm⟩ := inSh_ok hs
  obtain ⟨ta, a1, a2⟩ := h1
  obtain ⟨tb, b1, b2⟩ := h2
  have hk := ok_op2 (rok_in (Ω := Ω) yes) a2 b2
  refine ⟨⟨_, fun X W g tk => ?_, hk⟩, ⟨_, fun X W g tk => ⟨?_, fun o l p he => by cases he⟩, ok_testR hk⟩⟩
  · have := op_inB (X := X) g.hu65 yes
    rw [g.eK] at this
    exact pe_cmpR this (a1 X W g tk) (b1 X W g tk) hm
  · have := op_inB (X := X) g.hu65 yes
    rw [g.eK] at this
    exact pt_cmpR this (a1 X W g tk) (b1 X W g tk) hm
theorem inD_mono {yes : Bool} {x y : D} {T : TS} {Q Q' : QD} (h : ∀ d T', Q d T' → Q' d T') (w : inD yes x y T Q) : inD yes x y T Q' := by
  obtain ⟨p, ps, a, b, c, d, q⟩ := w
  exact ⟨p, ps, a, b, c, d, h _ _ q⟩
def inS (yes : Bool) : OpS where
  shape C sc e := (inSh yes e).map fun x => [x.1, x.2]
  sem _ ds T Q _ := match ds with | [x, y] => inD yes x y T Q | _ => False
  tst := true
  mono h _ w := by
    split at w
    · exact inD_mono h w
    · exact w
  sound W hs ha := by
    obtain ⟨x, y, h1, rfl⟩ := map2 hs
    obtain ⟨m, n, rfl, h2, h3⟩ := all2_2 ha
    exact (in_sound h1 h2 h3).1
  soundT _ := by
    intro Ω C F k sc e es ms W hs ha
    obtain ⟨x, y, h1, rfl⟩ := map2 hs
    obtain ⟨m, n, rfl, h2, h3⟩ := all2_2 ha
    exact (in_sound h1 h2 h3).2
section
variable {F : List Ct} {G : GV} {T : TS} {Q : QD} {X : XD}
theorem ex_in {b : Bool} {x y : E} : wpE F (.op (inS b) [x, y]) G T Q X = wpE F x G T (fun d T1 => wpE F y G T1 (fun e T2 => inD b d e T2 Q) X) X := by rw [wpE, wpEs]; simp only [wpEs]; rfl
theorem ex_srtI {o : Bool} {a : E} : wpE F (.op (srtIS o) [a]) G T Q X = wpE F a G T (fun d T1 => ∃ ns : List Int, viewL T1 d = some (ns.map D.int) ∧ ∀ ms : List Int, ms.Perm ns → ms.Pairwise (· ≤ ·) → mkL o (ms.map D.int) T1 Q) X := by rw [wpE, wpEs]; simp only [wpEs]; rfl
theorem ex_mnL {a : E} : wpE F (.op mnLS [a]) G T Q X = wpE F a G T (fun d T1 => ∃ ns : List Int, viewL T1 d = some (ns.map D.int) ∧ 0 < ns.length ∧ ∀ m, m ∈ ns → (∀ y, y ∈ ns → m ≤ y) → Q (.int m) T1) X := by rw [wpE, wpEs]; simp only [wpEs]; rfl
theorem ex_mxL {a : E} : wpE F (.op mxLS [a]) G T Q X = wpE F a G T (fun d T1 => ∃ ns : List Int, viewL T1 d = some (ns.map D.int) ∧ 0 < ns.length ∧ ∀ m, m ∈ ns → (∀ y, y ∈ ns → y ≤ m) → Q (.int m) T1) X := by rw [wpE, wpEs]; simp only [wpEs]; rfl
theorem any_int {i : Int} : ∀ ns : List Int, ((ns.map D.int).any fun z => PyData.eqv z.py (D.int i).py) = decide (i ∈ ns)
  | [] => by simp
  | n :: ns => by
    rw [List.map_cons, List.any_cons, any_int ns]
    simp only [D.py, PyData.eqv, List.mem_cons, beqI]
    by_cases h : n = i
    · simp [h]
    · have : ¬ i = n := fun e => h e.symm
      simp [h, this]
/-- a number among numbers -/
theorem in_ints {b : Bool} {i : Int} {y : D} {ns : List Int} (hv : viewL T y = some (ns.map D.int)) (q : Q (.bl (decide (i ∈ ns) == b)) T) : inD b (.int i) y T Q := by
  have hp : ∀ x ∈ ns.map D.int, Pd 0 x := fun x hx => by
    obtain ⟨n, _, rfl⟩ := List.mem_map.mp hx
    exact pd_int
  refine ⟨.int i, ns.map D.int, .int i, ?_, pd_eqOk (n := 0) pd_int (by decide), pd_eqOk (n := 1) (pd_lst hp) (by decide), by rw [any_int]; exact q⟩
  unfold viewL at hv
  split at hv
  · cases hv
    exact Rsv.pure _ (pureL_of hp)
  · split at hv
    · rename_i e
      cases hv
      exact .ob e (RsvL.pure _ (pureL_of hp))
    · cases hv
  · cases hv
end
end NX
set_option Elab.async false
set_option linter.all false
set_option maxRecDepth 100000
set_option maxHeartbeats 4000000
/-! The wider small language: min(xs, default=None). -/
namespace NX
open PySem PySem.Spec PyProof.Rows L2 OC
theorem dp_ints {K : PySem.W.Frag} {H : Hp} : ∀ ns : List Int, DpAll K H (ns.map V.int) (ns.map PyData.int)
  | [] => .nil
  | n :: ns => .cons (.int n) (dp_ints ns)
theorem depth_ints : ∀ ns : List Int, PyData.depthAll (ns.map PyData.int) = 0
  | [] => rfl
  | n :: ns => by
    show max 0 (PyData.depthAll (ns.map PyData.int)) = 0
    rw [depth_ints ns]
    rfl
theorem fold_min : ∀ (ns : List Int) (n : Int), ns.foldl min n ∈ n :: ns ∧ ∀ y ∈ n :: ns, ns.foldl min n ≤ y
  | [], n => ⟨List.mem_cons_self, fun y h => by cases List.mem_singleton.mp h; exact Int.le_refl _⟩
  | k :: ns, n => by
    obtain ⟨h1, h2⟩ := fold_min ns (min n k)
    rw [List.foldl_cons]
    refine ⟨?_, fun y hy => ?_⟩
    · rcases List.mem_cons.mp h1 with e | h
      · rw [e]
        by_cases q : n ≤ k
        · rw [Int.min_eq_left q]; exact List.mem_cons_self
        · rw [Int.min_eq_right (by omega)]; exact List.mem_cons_of_mem _ List.mem_cons_self
      · exact List.mem_cons_of_mem _ (List.mem_cons_of_mem _ h)
    · have h3 := h2 (min n k) List.mem_cons_self
      rcases List.mem_cons.mp hy with rfl | hy
      · omega
      · rcases List.mem_cons.mp hy with rfl | hy
        · omega
        · exact h2 y (List.mem_cons_of_mem _ hy)
def rMinDf (K : PySem.W.Frag) : List V → List V → Hp → VK → Prop := fun vs zs H Q => ∃ (a : Addr) (ns : List Int), vs = [V.ref a] ∧ zs = [V.non] ∧ SqL K H a (ns.map V.int) ∧ (ns = [] → Q .non H) ∧ ∀ m, m ∈ ns → (∀ y, y ∈ ns → m ≤ y) → Q (.int m) H
theorem cr_minDf {X : Cx} (hc : X.calm = true) (hu : X.A.units + 64 < cLine) : CallRK X (.builtin "min") [Str.ofString "default"] (rMinDf X.K) := by
  intro pins s σ H vs zs us ws Q I r1 r2 h
  obtain ⟨a, ns, rfl, rfl, hs, q0, q⟩ := h
  obtain ⟨its, rv, hl, hz⟩ := I.list hs
  rw [Vals.ref1 r1]
  obtain ⟨wv, rfl, rw2⟩ := vals1 r2
  obtain rfl : wv = Value.none := rw2
  obtain ⟨as, hr⟩ := Dp.readsAll I (ns.map PyData.int) _ its (dp_ints ns) rv
  show wpAny _ _ (call (.builtin "min") [.ref a] [(Str.ofString "default", Value.none)]) _ _ _
  refine PySem.W.min_list_default (I.ok.hd hc) hl.isList (xs := ns.map PyData.int) hr ⟨fun x hx y hy => ?_, fun x hx => ?_⟩ (by rw [depth_ints]; omega) (fun e h' tk hk => ?_) fun y ys i v h' tk bs e hv hrd hk => ?_
  · obtain ⟨n, _, rfl⟩ := List.mem_map.mp hx
    obtain ⟨m, _, rfl⟩ := List.mem_map.mp hy
    rfl
  · obtain ⟨n, _, rfl⟩ := List.mem_map.mp hx
    intro e
    cases e
  · exact ⟨.non, H, I.kept hk, rfl, q0 (List.map_eq_nil_iff.mp e)⟩
  · cases ns with
    | nil => cases e
    | cons n ns =>
      rw [List.map_cons, List.cons.injEq] at e
      obtain ⟨e1, e2⟩ := e
      subst e1 e2
      rw [PySem.W.minD_ints] at hrd
      cases hrd with
      | int _ t =>
        obtain ⟨h1, h2⟩ := fold_min ns n
        exact ⟨.int _, H, I.kept hk, ⟨_, rfl⟩, q _ h1 h2⟩
def isNoneC : Expr → Bool
  | .Constant .none _ _ => true
  | _ => false
theorem isNoneC_ok {e : Expr} (h : isNoneC e = true) : ∃ j p, e = .Constant .none j p := by
  unfold isNoneC at h
  split at h
  · exact ⟨_, _, rfl⟩
  · cases h
/-- f(x, default=None) -/
def asDf : Expr → Option (Str × Expr)
  | .Call (.Name x _) [e] [k] _ => if decide (k.arg = some (Str.ofString "default")) && isNoneC k.value then some (x, e) else none
  | _ => none
theorem asDf_ok {e : Expr} {x : Str} {a : Expr} (h : asDf e = some (x, a)) : ∃ p q j r s, e = .Call (.Name x p) [a] [⟨some (Str.ofString "default"), .Constant .none j r, s⟩] q := by
  unfold asDf at h
  split at h
  · rename_i y p1 b k q1
    split at h
    · rename_i hb
      cases h
      simp only [Bool.and_eq_true, decide_eq_true_eq] at hb
      obtain ⟨j, r, e⟩ := isNoneC_ok hb.2
      obtain ⟨ka, kv, kp⟩ := k
      obtain rfl : ka = _ := hb.1
      obtain rfl : kv = _ := e
      exact ⟨_, _, _, _, _, rfl⟩
    · cases h
  · cases h
def mnDS : OpS := op1S (fun C sc e => match asDf e with | some (x, a) => if blt C sc x "min" && nst a then some a else none | none => none) (fun d T Q => ∃ ns : List Int, viewL T d = some (ns.map D.int) ∧ (ns = [] → Q .non T) ∧ ∀ m, m ∈ ns → (∀ y, y ∈ ns → m ≤ y) → Q (.int m) T) (fun h w => by
    obtain ⟨ns, a, b, c⟩ := w
    exact ⟨ns, a, fun e => h _ _ (b e), fun m h1 h2 => h _ _ (c m h1 h2)⟩) (by
  intro Ω C F k sc e x m W hs h1
  split at hs
  · rename_i y a hx
    split at hs
    · rename_i hb
      cases hs
      obtain ⟨p, q, j, r, s, rfl⟩ := asDf_ok hx
      simp only [Bool.and_eq_true] at hb
      obtain ⟨rfl, hg, hbs⟩ := blt_ok hb.1
      obtain ⟨ta, a1, a2⟩ := h1
      refine ⟨fun W => tCKw (rMinDf Ω.K) (tCons (ta W) tNil) (tCons (tC .non) tNil), fun X W' g tk => ?_, fun Bg M T H σ G Qd Xq Q W' en w post px => ?_⟩
      · have z := cr_minDf (X := X) g.calm g.hu
        rw [g.eK] at z
        exact pe_callBK z (g.gl hg) (by rw [g.eM]; exact W.bs _ hbs) (by decide +kernel) (pa_cons (a1 X W' g tk) pa_nil (star_cons hb.2)) (pk_cons pe_non pk_nil) (by decide) (by decide) (by rw [star_cons hb.2]; rfl) (by rw [star_cons hb.2]; rfl)
      · refine a2 _ _ _ _ _ _ _ _ _ _ en w (fun d v B1 T1 H1 e1 s1 rx w1 => ?_) px
        obtain ⟨ns, hv, w0, w2⟩ := w1
        obtain ⟨a, us, rfl, hs, rl2⟩ := view_ok s1 hv rx
        cases RepL.ints_inv rl2
        have post := post.ext e1
        exact ⟨a, ns, rfl, rfl, .inl (.inl hs), fun e => post.here s1 .non (w0 e), fun m h1 h2 => post.here s1 (.int m) (w2 m h1 h2)⟩
    · cases hs
  · cases hs)
theorem ex_mnD {F : List Ct} {G : GV} {T : TS} {Q : QD} {X : XD} {a : E} : wpE F (.op mnDS [a]) G T Q X = wpE F a G T (fun d T1 => ∃ ns : List Int, viewL T1 d = some (ns.map D.int) ∧ (ns = [] → Q .non T1) ∧ ∀ m, m ∈ ns → (∀ y, y ∈ ns → m ≤ y) → Q (.int m) T1) X := by rw [wpE, wpEs]; simp only [wpEs]; rfl
end NX
set_option Elab.async false
set_option linter.all false
set_option maxRecDepth 100000
set_option maxHeartbeats 4000000
/-! The wider small language: instances, dicts, tables of the module. -/
namespace NX
open PySem PySem.Spec PyProof.Rows L2 OC
/-! ### keyed data -/
def valD (kvs : List (Key × D)) (k : Key) : Option D := (kvs.find? fun kv => decide (kv.1 = k)).map (·.2)
def dropD (kvs : List (Key × D)) (k : Key) : List (Key × D) := kvs.filter fun kv => decide (kv.1 ≠ k)
section
variable {K : PySem.W.Frag} {Bg M : AP} {H : Hp}
theorem RepK.len {α : Type} : ∀ {vs : List (α × V)} {ds : List (α × D)}, RepK K Bg M H vs ds → vs.length = ds.length
  | _, _, .nil => rfl
  | _, _, .cons _ t => by rw [List.length_cons, List.length_cons, RepK.len t]
theorem RepK.look : ∀ {vs : List (Str × V)} {ds : List (Str × D)} {f : Str} {d : D}, RepK K Bg M H vs ds → ds.lookup f = some d → ∃ v, vs.lookup f = some v ∧ Rep K Bg M H v d
  | _, _, _, _, .nil, h => by cases h
  | _, _, f, d, .cons (k := k) r t, h => by
    rw [List.lookup_cons] at h
    rw [List.lookup_cons]
    split at h
    · cases h
      exact ⟨_, rfl, r⟩
    · exact t.look h
theorem RepK.look0 : ∀ {vs : List (Str × V)} {ds : List (Str × D)} {f : Str}, RepK K Bg M H vs ds → ds.lookup f = none → vs.lookup f = none
  | _, _, _, .nil, _ => rfl
  | _, _, f, .cons (k := k) r t, h => by
    rw [List.lookup_cons] at h
    rw [List.lookup_cons]
    split at h
    · cases h
    · exact t.look0 h
theorem RepK.val : ∀ {vs : List (Key × V)} {ds : List (Key × D)} {k : Key} {d : D}, RepK K Bg M H vs ds → valD ds k = some d → ∃ v, valV vs k = some v ∧ Rep K Bg M H v d
  | _, _, _, _, .nil, h => by cases h
  | _, _, k, d, .cons (k := j) (d := d0) (vs := vs) (ds := ds) r t, h => by
    by_cases e : j = k
    · have : valD ((j, d0) :: ds) k = some d0 := by simp [valD, List.find?_cons, e]
      rw [this] at h
      cases h
      exact ⟨_, valV_pos e, r⟩
    · have : valD ((j, d0) :: ds) k = valD ds k := by simp [valD, List.find?_cons, e]
      rw [this] at h
      obtain ⟨v, h1, h2⟩ := t.val h
      exact ⟨v, by rw [valV_neg e]; exact h1, h2⟩
theorem RepK.val0 : ∀ {vs : List (Key × V)} {ds : List (Key × D)} {k : Key}, RepK K Bg M H vs ds → valD ds k = none → valV vs k = none
  | _, _, _, .nil, _ => rfl
  | _, _, k, .cons (k := j) (d := d0) (vs := vs) (ds := ds) r t, h => by
    by_cases e : j = k
    · have : valD ((j, d0) :: ds) k = some d0 := by simp [valD, List.find?_cons, e]
      rw [this] at h
      cases h
    · have : valD ((j, d0) :: ds) k = valD ds k := by simp [valD, List.find?_cons, e]
      rw [this] at h
      rw [valV_neg e]
      exact t.val0 h
theorem RepK.isS {vs : List (Key × V)} {ds : List (Key × D)} {k : Key} (r : RepK K Bg M H vs ds) : (valV vs k).isSome = (valD ds k).isSome := by
  cases h : valD ds k with
  | none => rw [r.val0 h]; rfl
  | some d =>
    obtain ⟨v, h1, _⟩ := r.val h
    rw [h1]
    rfl
theorem RepK.any {k : Key} : ∀ {vs : List (Key × V)} {ds : List (Key × D)}, RepK K Bg M H vs ds → (vs.any fun kv => decide (kv.1 = k)) = (ds.any fun kv => decide (kv.1 = k))
  | _, _, .nil => rfl
  | _, _, .cons r t => by rw [List.any_cons, List.any_cons, t.any]
theorem RepK.dropD {k : Key} : ∀ {vs : List (Key × V)} {ds : List (Key × D)}, RepK K Bg M H vs ds → RepK K Bg M H (dropK vs k) (NX.dropD ds k)
  | _, _, .nil => .nil
  | _, _, .cons (k := j) (v := v) (d := d) (vs := vs) (ds := ds) q t => by
    by_cases e : j = k
    · have h1 : dropK ((j, v) :: vs) k = dropK vs k := List.filter_cons_of_neg (by simp [e])
      have h2 : NX.dropD ((j, d) :: ds) k = NX.dropD ds k := List.filter_cons_of_neg (by simp [e])
      rw [h1, h2]
      exact t.dropD
    · have h1 : dropK ((j, v) :: vs) k = (j, v) :: dropK vs k := List.filter_cons_of_pos (by simp [e])
      have h2 : NX.dropD ((j, d) :: ds) k = (j, d) :: NX.dropD ds k := List.filter_cons_of_pos (by simp [e])
      rw [h1, h2]
      exact .cons q t.dropD
end
/-- what a thing becomes -/
theorem wr_ob {Ω : Wd} {Bg M : AP} {T : TS} {H : Hp} {a : Addr} {o u : Ob} {ho : HO} (s : Sm Ω.K Ω.mg Bg M T H) (h : T a = some o) (ok : ObOk Ω.K Ω.mg Bg (lv (T.put a u) M) (L2.upd H a ho) a u) : Ext Bg T H Bg (T.put a u) (L2.upd H a ho) ∧ Sm Ω.K Ω.mg Bg M (T.put a u) (L2.upd H a ho) :=
  ⟨Ext.wr (some_ne h), s.put (.inr (some_ne h)) ok⟩
/-! ### fields -/
def asAt : Expr → Option (Expr × Str)
  | .Attribute o f _ => some (o, f)
  | _ => none
theorem asAt_ok {e o : Expr} {f : Str} (h : asAt e = some (o, f)) : ∃ p, e = .Attribute o f p := by
  unfold asAt at h
  split at h
  · cases h; exact ⟨_, rfl⟩
  · cases h
def fldSh (c f : Str) (C : Ck) (e : Expr) : Option Expr := match asAt e with
  | some (o, g) => if decide (g = f) && noSup o && decide ((c, f) ∈ C.na) then some o else none
  | none => none
theorem fldSh_ok {c f : Str} {C : Ck} {e o : Expr} (h : fldSh c f C e = some o) : (∃ p, e = .Attribute o f p) ∧ noSup o = true ∧ (c, f) ∈ C.na := by
  unfold fldSh at h
  split at h
  · rename_i o' g hx
    split at h
    · rename_i hb
      cases h
      simp only [Bool.and_eq_true, decide_eq_true_eq] at hb
      obtain ⟨⟨rfl, h1⟩, h2⟩ := hb
      exact ⟨asAt_ok hx, h1, h2⟩
    · cases h
  · cases h
/-- an instance of c -/
def insD (c : Str) (x : D) (T : TS) (Q : Addr → List (Str × D) → Prop) : Prop := match x with
  | .ob a => ∃ fs, T a = some (.ins c fs) ∧ Q a fs
  | _ => False
theorem insD_inv {c : Str} {x : D} {T : TS} {Q : Addr → List (Str × D) → Prop} (h : insD c x T Q) : ∃ a fs, x = .ob a ∧ T a = some (.ins c fs) ∧ Q a fs := by
  cases x with
  | ob a => obtain ⟨fs, h1, h2⟩ := h; exact ⟨a, fs, rfl, h1, h2⟩
  | _ => exact h.elim
theorem insD_mono {c : Str} {x : D} {T : TS} {Q Q' : Addr → List (Str × D) → Prop} (h : ∀ a fs, Q a fs → Q' a fs) (w : insD c x T Q) : insD c x T Q' := by
  obtain ⟨a, fs, rfl, h1, h2⟩ := insD_inv w
  exact ⟨fs, h1, h _ _ h2⟩
theorem na_inv {Ω : Wd} {C : Ck} {F : List Ct} {k : Nat} (W : Wr Ω C F k) {c f : Str} (h : (c, f) ∈ C.na) {A : Addr} (hm : Ω.mg c = some (.ref A)) : Cls Ω.K A ∧ NoAttr Ω.K A f := by
  obtain ⟨A', h1, h2, h3⟩ := W.na _ h
  rw [hm] at h1
  cases h1
  exact ⟨h2, h3⟩
/-- o.f -/
def fldS (c f : Str) : OpS := op1S (fun C _ e => fldSh c f C e) (fun x T Q => insD c x T fun _ fs => ∃ d, fs.lookup f = some d ∧ Q d T) (fun h w => insD_mono (fun _ _ ⟨d, a, b⟩ => ⟨d, a, h _ _ b⟩) w) (by
  intro Ω C F k sc e x m W hs h1
  obtain ⟨⟨p, rfl⟩, hn, hna⟩ := fldSh_ok hs
  obtain ⟨ta, a1, a2⟩ := h1
  refine ⟨fun W => tFld Ω.K (ta W) f, fun X W' g tk => ?_, fun Bg M T H σ G Qd Xq Q W' en w post px => ?_⟩
  · have := pe_fld (X := X) (f := f) (pos := p) (a1 X W' g tk) (sup_ok hn)
    rw [g.eK] at this
    exact this
  · refine a2 _ _ _ _ _ _ _ _ _ _ en w (fun x vx B1 T1 H1 e1 s1 rx w1 => ?_) px
    obtain ⟨a, fs, rfl, ha, d, hd, w1⟩ := insD_inv w1
    cases rx
    obtain ⟨A, dx, vs, hm, hH, rk⟩ := s1.ob _ _ ha
    obtain ⟨v, hv, rv⟩ := rk.look hd
    obtain ⟨c1, c2⟩ := na_inv W hna hm
    exact ⟨_, A, dx, vs, v, rfl, hH, c1, c2, hv, (post.ext e1).here s1 rv w1⟩)
end NX
set_option Elab.async false
set_option linter.all false
set_option maxRecDepth 100000
set_option maxHeartbeats 4000000
/-! The wider small language: methods of the text, makers. -/
namespace NX
open PySem PySem.Spec PyProof.Rows L2 OC
section
variable {X : Cx} {k : Nat} {C f : Addr} {fd : FuncData} {ps : List Str} {sp : Sp} {x m : Str} {p pos apos : Pos} {e o : Expr} {es : List Expr} {ta : TE} {t : TA} {W : WX}
def tMethW (C : Addr) (m : Str) (sp : Sp) (W : WX) (ta : TE) (t : TA) : TE := fun σ H Q => ta σ H fun x H1 => ∃ a dx fs, x = .ref a ∧ H1 a = some (.ins C dx fs) ∧ fs.lookup m = none ∧
  t σ H1 fun vs H2 => sp (x :: vs) H2 Q (WE W σ)
theorem any_all {α : Type} {f : α → Bool} : ∀ {l : List α}, l.any f = false → (l.all fun x => !f x) = true
  | [], _ => rfl
  | x :: l, h => by
    rw [List.any_cons, Bool.or_eq_false_iff] at h
    rw [List.all_cons, h.1, any_all h.2]
    rfl
theorem meth_at {E : Value → Shared → Prop} {s : Shared} {Q : Value → Shared → Prop} (hn : noSup o = true) (hl : nstL es = true) (h30 : es.length < 30) (hline : (apos.endLine == pos.line) = true)
    (h : wpAny (model X.prog X.w) X.A (eval o X.env) (fun ov s1 => ∀ pl : Sem Bool, wpAny (model X.prog X.w) X.A (getMethod ov m pl) (fun fx s2 => wpAny (model X.prog X.w) X.A (callWith pos fx.1 fx.2 (backTo pos (starEach es X.env)) (backToKw pos (keywordEach [] X.env))) Q E s2) E s1) E s) :
    wpAny (model X.prog X.w) X.A (eval (.Call (.Attribute o m apos) es [] pos) X.env) Q E s := by
  rw [arm_eval_Call, sup_ok hn]
  refine wpAny_bind (wpAny_mono h (fun ov s₁ h₁ => ?_) fun _ _ e => e)
  refine wpAny_bind (wpAny_standAt ?_)
  have hform : methodCallForm (es.length + ([] : List Keyword).length) (backTo pos (starEach es X.env)) (backToKw pos (keywordEach [] X.env)) = true := by
    have z : (((backTo pos (starEach es X.env)).all fun x => !x.1) && (backToKw pos (keywordEach [] X.env)).all (fun x => x.1.isSome) && decide (es.length + ([] : List Keyword).length + (if ([] : List Keyword).isEmpty then 0 else 1) < 30)) = true := by
      rw [any_all (star_all (pos := pos) (env := X.env) hl)]
      have e : ((backToKw pos (keywordEach [] X.env)).all (fun x => x.1.isSome)) = true := rfl
      rw [e]
      simpa using h30
    exact z
  have hpos : methodCallPos true o X.env apos pos = pure pos := by unfold methodCallPos; simp [hline]
  unfold methodCall
  rw [hform]
  refine wpAny_bind (wpAny_holding (wpAny_mono (h₁ _) (fun fx s2 h2 => ?_) fun _ _ e => e))
  exact wpAny_bind (wpAny_of_eq hpos h2)
theorem pe_methW (he : PE X o ta) (c : Cls X.K C) (hm : Meth X.K C m f) (F : GFn (wdX X) k f fd ps sp) (hr : Room k X.A) (hg : X.A.guards = some []) (hb : Binds X.K fd ps []) (tk : Takes X W) (ha : PA X (e :: es) t) (hn : noSup o = true) (hes : nstL (e :: es) = true) (h30 : (e :: es).length < 30) (hline : (apos.endLine == pos.line) = true)
    (hst : starEach (e :: es) X.env = (false, eval e X.env) :: starEach es X.env) (hpl : (backTo pos (starEach es X.env)).any (·.1) = false) : PE X (.Call (.Attribute o m apos) (e :: es) [] pos) (tMethW C m sp W ta t) := by
  refine ⟨fun pins s σ H Q I h => ?_⟩
  refine meth_at hn hes h30 hline (thn (he.run pins s σ H _ I h) fun u s1 ⟨x, H1, J1, relx, a, dx, fs, eqx, atA, l, q⟩ pl => ?_)
  subst eqx
  obtain rfl : u = Value.ref a := relx
  refine getmeth_ok J1 atA c hm l ?_
  refine PySem.W.callWith_K (first := [.ref a]) (h₀ := X.base) I.ok.mod.kin hm.kp (thn (ha.run pos pins s1 σ H1 _ J1 q) fun us s2 ⟨vs, H2, J2, r, post2⟩ => ⟨J2.kIn, ?_⟩) hst hpl
  exact g_runW (us := .ref a :: us) (vs := .ref a :: vs) F hr hg hb tk J2 (.cons rfl r) post2
theorem pe_methW0 (he : PE X o ta) (c : Cls X.K C) (hm : Meth X.K C m f) (F : GFn (wdX X) k f fd ps sp) (hr : Room k X.A) (hg : X.A.guards = some []) (hb : Binds X.K fd ps []) (tk : Takes X W) (hn : noSup o = true) (hline : (apos.endLine == pos.line) = true) :
    PE X (.Call (.Attribute o m apos) [] [] pos) (tMethW C m sp W ta tNil) := by
  refine ⟨fun pins s σ H Q I h => ?_⟩
  refine meth_at hn rfl (by decide) hline (thn (he.run pins s σ H _ I h) fun u s1 ⟨x, H1, J1, relx, a, dx, fs, eqx, atA, l, q⟩ pl => ?_)
  subst eqx
  obtain rfl : u = Value.ref a := relx
  refine getmeth_ok J1 atA c hm l ?_
  exact PySem.W.callWith_K0 (first := [.ref a]) J1.kIn hm.kp (g_runW (us := [.ref a]) (vs := [.ref a]) F hr hg hb tk J1 (.cons rfl .nil) q)
def tMakeW (C : Addr) (sp : Sp) (W : WX) (t : TA) : TE := fun σ H Q => t σ H fun vs H1 => ∀ x dx, H1 x = none → H1 dx = none → dx ≠ x →
  sp (.ref x :: vs) (upd (upd H1 dx (.own x)) x (.ins C dx [])) (fun v H2 => v = .non ∧ Q (.ref x) H2) (WE W σ)
theorem run_makeW {pins : List (Addr × Obj)} {σ : L2.St} {H : Hp} {s : Shared} {Q : VK} {us : List Value} {vs : List V} (M : Mk X.K C f) (F : GFn (wdX X) k f fd ps sp) (hr : Room (k + 1) X.A) (hg : X.A.guards = some []) (hb : Binds X.K fd ps []) (tk : Takes X W)
    (I : Inv X pins σ H s) (r : Vals vs us)
    (h : ∀ x dx, H x = none → H dx = none → dx ≠ x → sp (.ref x :: vs) (upd (upd H dx (.own x)) x (.ins C dx [])) (fun v H2 => v = .non ∧ Q (.ref x) H2) (WE W σ)) :
    wpAny (model X.prog X.w) X.A (call (.ref C) us) (EP X pins σ Q) X.xe s := by
  have got := h (s.heap.objs.size + 1) s.heap.objs.size (I.hok.fresh (Nat.le_succ _)) (I.hok.fresh (Nat.le_refl _)) (Nat.ne_of_lt (Nat.lt_succ_self _))
  have J2 := Inv.made (C := C) I
  have rr : Vals (V.ref (s.heap.objs.size + 1) :: vs) (Value.ref (s.heap.objs.size + 1) :: us) := .cons rfl r
  have len2 : (Value.ref (s.heap.objs.size + 1) :: us).length = ps.length := by
    have e := rr.length
    rw [F.len _ _ _ _ got] at e
    exact e.symm
  have bnd := hb { s with heap := (s.heap.push PySem.W.emptyDict).push (PySem.W.instObj C s.heap.objs.size) } (Value.ref (s.heap.objs.size + 1) :: us) J2.kIn (by rw [List.append_nil]; exact len2)
  rw [List.append_nil] at bnd
  refine wpAny_call (make_map (f := f) I.kIn M.makes M.init (beq_iff_eq.mp M.fn) (codeAny_mono (F.run _ X.stack _ _ ⟨Value.ref (s.heap.objs.size + 1) :: us, []⟩ (Value.ref (s.heap.objs.size + 1) :: us) _ _ (WE W σ) (hr.make C us []) hg
    (J2.env0.make C us []) bnd rr got) fun r s' back => ?_))
  cases r with
  | error e => exact passAt tk σ pins _ _ e s' J2 back
  | ok fl =>
    cases fl with
    | ret u =>
      obtain ⟨v, H', J3, relv, eqv1, post3⟩ := J2.after back
      subst eqv1
      exact ⟨relv, ⟨V.ref (s.heap.objs.size + 1), H', J3, rfl, post3⟩⟩
    | next => exact False.elim back
    | brk => exact False.elim back
    | cont => exact False.elim back
theorem pe_makeW0 (M : Mk X.K C f) (F : GFn (wdX X) k f fd ps sp) (hr : Room (k + 1) X.A) (hgd : X.A.guards = some []) (hg : Gl X x) (hm : X.mg x = some (.ref C)) (hb : Binds X.K fd ps []) (tk : Takes X W) (hdb : (x == ("__debug__" : Str)) = false) :
    PE X (.Call (.Name x p) [] [] pos) (tMakeW C sp W tNil) := by
  refine ⟨fun pins s σ H Q I h => ?_⟩
  refine wpAny_Call_Name_kw (ld_glob I hg hm ?_ hdb)
  exact PySem.W.callWith_K0 I.kIn M.kp (run_makeW (us := []) M F hr hgd hb tk I .nil h)
end
/-- o.m(..), of an instance of c -/
def methS (i : Nat) (c m : Str) : MtS where
  shape C sc e := match asMt e with
    | some (o, m', es, ap, cp) => if decide (m' = m) && decide (C.fs[i]? = some (.me c m)) && noSup o && nstL es && decide (es.length < 30) && (ap.endLine == cp.line) then some (o, es) else none
    | none => none
  chk x T := insD c x T fun _ fs => fs.lookup m = none
  sem F x ds T Q X := match F[i]? with | some ct => ct.c (x :: ds) T Q X | none => False
  mono h h' w := by
    split at w
    · rename_i ct _
      exact ct.mono h h' w
    · exact w
  sound {Ω C F k sc e r es mr ms} W hs h1 ha := by
    split at hs
    · rename_i o m' es' ap cp hx
      split at hs
      · rename_i hb
        cases hs
        obtain rfl := asMt_ok hx
        simp only [Bool.and_eq_true, decide_eq_true_eq] at hb
        obtain ⟨⟨⟨⟨⟨rfl, hf⟩, hn⟩, hl⟩, h30⟩, hline⟩ := hb
        obtain ⟨ct, hF, Ca, f, fd, ps, q0, q1, q2, q3, q4, q5⟩ := W.fs i _ hf
        simp only [hF]
        obtain ⟨ta, a1, a2⟩ := h1
        have core : ∀ {t : WX → TA} {n : Nat}, TAok Ω t (seqM ms) n → TEok Ω (fun W' => tMethW Ca m' (SpD Ω ct) W' (ta W') (t W')) fun G T Q X => mr G T (fun x T1 => (insD c x T1 fun _ fs => fs.lookup m' = none) ∧ seqM ms G T1 (fun ds T2 => ct.c (x :: ds) T2 Q X) X) X := by
          intro t n ht Bg M T H σ G Qd Xq Q W' en w post px
          refine a2 _ _ _ _ _ _ _ _ _ _ en w (fun x vx B1 T1 H1 e1 s1 rx w1 => ?_) px
          obtain ⟨wc, w1⟩ := w1
          obtain ⟨a, fs, rfl, hT, hl0⟩ := insD_inv wc
          cases rx
          obtain ⟨A, dx, vs, hm, hH, rk⟩ := s1.ob _ _ hT
          rw [q0] at hm
          cases hm
          refine ⟨_, dx, vs, rfl, hH, rk.look0 hl0, ht _ _ _ _ _ _ _ _ _ _ (en.ext e1 s1) w1 (fun ds vs B2 T2 H2 e2 s2 rl hl w2 => ?_) (px.ext e1)⟩
          exact ⟨B2, M, T2, _, Qd, Xq, s2, .cons (.ob _) rl, w2, post.ext (e1.trans e2), px.ext (e1.trans e2)⟩
        cases es with
        | nil =>
          cases ha
          refine ⟨_, fun X W' g tk => ?_, core (t := fun _ => tNil) (n := 0) fun Bg M T H σ G Qd Xq Q W en w post px => post _ _ _ _ _ .refl en.sm .nil rfl w⟩
          have z0 := a1 X W' g tk
          obtain rfl := g.wd
          exact pe_methW0 z0 q1 q2 q5 g.room g.gd q3 tk hn hline
        | cons y ys =>
          obtain ⟨t, t1, t2, t3⟩ := sa_of ha hl
          refine ⟨_, fun X W' g tk => ?_, core t2⟩
          have z0 := a1 X W' g tk
          have z1 := t1 X W' g tk
          obtain rfl := g.wd
          have hn' : (nst y && nstL ys) = true := hl
          rw [Bool.and_eq_true] at hn'
          exact pe_methW z0 q1 q2 q5 g.room g.gd q3 tk z1 hn hl h30 hline (star_cons hn'.1) (star_all hn'.2)
      · cases hs
    · cases hs
/-- c() -/
def mkS (i : Nat) (c : Str) : OpS where
  shape C sc e := match asCall e with
    | some (x, []) => if decide (x = c) && decide (C.fs[i]? = some (.mk c)) && glb sc x && !(x == ("__debug__" : Str)) then some [] else none
    | _ => none
  sem F ds T Q X := match ds, F[i]? with
    | [], some ct => ∀ a, T a = none → ct.c [.ob a] (T.put a (.ins c [])) (fun d T1 => d = .non ∧ Q (.ob a) T1) X
    | _, _ => False
  tst := false
  mono h h' w := by
    split at w
    · rename_i ct _
      exact fun a ha => ct.mono (fun d T1 q => ⟨q.1, h _ _ q.2⟩) h' (w a ha)
    · exact w
  sound {Ω C F k sc e es ms} W hs ha := by
    split at hs
    · rename_i x hx
      split at hs
      · rename_i hb
        cases hs
        cases ha
        obtain ⟨p, q, rfl⟩ := asCall_ok hx
        simp only [Bool.and_eq_true, decide_eq_true_eq, Bool.not_eq_true'] at hb
        obtain ⟨⟨⟨rfl, hf⟩, hg⟩, hd⟩ := hb
        obtain ⟨ct, hF, j, Ca, f, fd, ps, hj, q0, q1, q3, q4, q5⟩ := W.fs i _ hf
        simp only [hF]
        refine ⟨fun W' => tMakeW Ca (SpD Ω ct) W' tNil, fun X W' g tk => ?_, fun Bg M T H σ G Qd Xq Q W' en w post px => ?_⟩
        · obtain rfl := g.wd
          exact pe_makeW0 q1 q5 (g.room.mono hj) g.gd (g.gl hg) q0 q3 tk hd
        · have w : ∀ a, T a = none → ct.c [.ob a] (T.put a (.ins x [])) (fun d T1 => d = .non ∧ Qd (.ob a) T1) Xq := w
          intro a dx h1 h2 hne
          have sm := en.sm
          obtain ⟨n1, n2, n3⟩ := sm.free h1
          have e1 : Ext Bg T H Bg T (upd H dx (.own a)) := Ext.lay h2
          have s1 := sm.lay (o := .own a) h2
          have h1' : upd H dx (.own a) a = none := by rw [upd_ne (Ne.symm hne)]; exact h1
          have e2 : Ext Bg T (upd H dx (.own a)) Bg (T.put a (.ins x [])) (upd (upd H dx (.own a)) a (.ins Ca dx [])) := Ext.own h1'
          have s2 := s1.put (u := .ins x []) (o := .ins Ca dx []) (.inl h1') ⟨Ca, dx, [], q0, upd_same, .nil⟩
          refine ⟨Bg, M, _, [.ob a], _, Xq, s2, .cons (.ob a) .nil, w a n1, fun d v B3 T3 H3 e3 s3 r3 q => ?_, px.ext (e1.trans e2)⟩
          obtain ⟨rfl, q⟩ := q
          exact ⟨r3.non_inv, post _ _ _ _ _ ((e1.trans e2).trans e3) s3 (.ob a) q⟩
      · cases hs
    · cases hs
  soundT h := nomatch h
end NX
set_option Elab.async false
set_option linter.all false
set_option maxRecDepth 100000
set_option maxHeartbeats 4000000
/-! The wider small language: dicts. -/
namespace NX
open PySem PySem.Spec PyProof.Rows L2 OC
/-- {} -/
def asDic0 : Expr → Bool
  | .Dict [] [] _ => true
  | _ => false
def dicS : OpS where
  shape _ _ e := if asDic0 e then some [] else none
  sem _ ds T Q _ := match ds with | [] => ∀ a, T a = none → Q (.ob a) (T.put a (.dic [])) | _ => False
  tst := false
  mono h _ w := by
    split at w
    · exact fun a ha => h _ _ (w a ha)
    · exact w
  sound {Ω C F k sc e es ms} W hs ha := by
    split at hs
    · rename_i hb
      cases hs
      cases ha
      have he : ∃ p, e = .Dict [] [] p := by
        unfold asDic0 at hb
        split at hb
        · exact ⟨_, rfl⟩
        · cases hb
      obtain ⟨p, rfl⟩ := he
      refine ⟨fun _ => tDNewK, fun X W g tk => pe_dnewK, fun Bg M T H σ G Qd Xq Q W' en w post px => fun a ha => ?_⟩
      have w : ∀ a, T a = none → Qd (.ob a) (T.put a (.dic [])) := w
      obtain ⟨n1, n2, n3⟩ := en.sm.free ha
      exact post _ _ _ _ _ (Ext.own ha) (en.sm.put (u := .dic []) (.inl ha) ⟨[], upd_same, .nil⟩) (.ob a) (w a n1)
    · cases hs
  soundT h := nomatch h
/-- a key -/
def keyD : D → Option Key
  | .int i => some (.inl i)
  | .str s => some (.inr s)
  | _ => none
theorem keyD_ok {K : PySem.W.Frag} {Bg M : AP} {H : Hp} {v : V} {d : D} {k : Key} (h : keyD d = some k) (r : Rep K Bg M H v d) : v = kV k := by
  cases d <;> simp only [keyD] at h <;> cases h
  · exact r.int_inv
  · exact r.str_inv
/-- a dict that may change, a key -/
def dicD (x y : D) (T : TS) (Q : Addr → List (Key × D) → Key → Prop) : Prop := match x with
  | .ob a => ∃ kvs k, T a = some (.dic kvs) ∧ keyD y = some k ∧ Q a kvs k
  | _ => False
theorem dicD_inv {x y : D} {T : TS} {Q : Addr → List (Key × D) → Key → Prop} (h : dicD x y T Q) : ∃ a kvs k, x = .ob a ∧ T a = some (.dic kvs) ∧ keyD y = some k ∧ Q a kvs k := by
  cases x with
  | ob a => obtain ⟨kvs, k, h1, h2, h3⟩ := h; exact ⟨a, kvs, k, rfl, h1, h2, h3⟩
  | _ => exact h.elim
theorem dicD_mono {x y : D} {T : TS} {Q Q' : Addr → List (Key × D) → Key → Prop} (h : ∀ a kvs k, Q a kvs k → Q' a kvs k) (w : dicD x y T Q) : dicD x y T Q' := by
  obtain ⟨a, kvs, k, rfl, h1, h2, h3⟩ := dicD_inv w
  exact ⟨kvs, k, h1, h2, h _ _ _ h3⟩
/-- d[k] -/
def dgetS : OpS := op2S (fun _ _ e => match asSub e with | some (x, y) => if !isSlc y then some (x, y) else none | none => none) (fun x y T Q => dicD x y T fun _ kvs k => ∃ d, valD kvs k = some d ∧ Q d T) (fun h w => dicD_mono (fun _ _ _ ⟨d, q1, q2⟩ => ⟨d, q1, h _ _ q2⟩) w) (by
  intro Ω C F k sc e x y m n W hs h1 h2
  split at hs
  · rename_i x' y' hx
    split at hs
    · rename_i ho
      cases hs
      obtain ⟨ps, rfl⟩ := asSub_ok hx
      obtain ⟨ta, a1, a2⟩ := h1
      obtain ⟨tb, b1, b2⟩ := h2
      refine ⟨fun W => tDGet (ta W) (tb W), fun X W' g tk => pe_dget (by have := g.hu; omega) (a1 X W' g tk) (b1 X W' g tk) (plain_ix (by simpa using ho)), fun Bg M T H σ G Qd Xq Q W' en w post px => ?_⟩
      refine a2 _ _ _ _ _ _ _ _ _ _ en w (fun x vx B1 T1 H1 e1 s1 rx w1 => ?_) px
      refine b2 _ _ _ _ _ _ _ _ _ _ (en.ext e1 s1) w1 (fun y vy B2 T2 H2 e2 s2 ry w2 => ?_) (px.ext e1)
      obtain ⟨a, kvs, k, rfl, ha, hk, d, hd, w2⟩ := dicD_inv w2
      cases rx
      obtain ⟨vs, hH, rk⟩ := s2.ob _ _ ha
      obtain ⟨v, hv, rv⟩ := rk.val hd
      obtain rfl := keyD_ok hk ry
      have g := DGet.k (k := k) hH
      rw [hv] at g
      exact ⟨_, v, rfl, g, (post.ext (e1.trans e2)).here s2 rv w2⟩
    · cases hs
  · cases hs)
/-- k in d, k not in d -/
theorem din_sound {b : Bool} {Ω : Wd} {C : Ck} {F : List Ct} {k : Nat} {sc : Scope} {e x y : Expr} {m n : VT} (W : Wr Ω C F k) (hs : cmpSh (if b then .inn else .notin) e = some (x, y)) (h1 : SE Ω C k sc x m) (h2 : SE Ω C k sc y n) :
    (SE Ω C k sc e fun G T Q X => m G T (fun d T1 => n G T1 (fun d2 T2 => dicD d2 d T2 fun _ kvs k => Q (.bl (if b then (valD kvs k).isSome else !(valD kvs k).isSome)) T2) X) X) ∧ ST Ω C k sc e fun G T Q X => m G T (fun d T1 => n G T1 (fun d2 T2 => dicD d2 d T2 fun _ kvs k => Q (.bl (if b then (valD kvs k).isSome else !(valD kvs k).isSome)) T2) X) X := by
  obtain ⟨ps, rfl, hm⟩ := cmpSh_ok hs
  obtain ⟨ta, a1, a2⟩ := h1
  obtain ⟨tb, b1, b2⟩ := h2
  have hk : TEok Ω (fun W => if b then tDIn (ta W) (tb W) else tDNotIn (ta W) (tb W)) fun G T Q X => m G T (fun d T1 => n G T1 (fun d2 T2 => dicD d2 d T2 fun _ kvs k => Q (.bl (if b then (valD kvs k).isSome else !(valD kvs k).isSome)) T2) X) X := fun Bg M T H σ G Qd Xq Q W' en w post px => by
    have core : ta W' σ H fun y H1 => tb W' σ H1 fun x H2 => ∃ a o, x = .ref a ∧ DGet H2 a y o ∧ Q (.bl (if b then o.isSome else !o.isSome)) H2 := by
      refine a2 _ _ _ _ _ _ _ _ _ _ en w (fun y vy B1 T1 H1 e1 s1 ry w1 => ?_) px
      refine b2 _ _ _ _ _ _ _ _ _ _ (en.ext e1 s1) w1 (fun x vx B2 T2 H2 e2 s2 rx w2 => ?_) (px.ext e1)
      obtain ⟨a, kvs, k, rfl, ha, hk, w2⟩ := dicD_inv w2
      cases rx
      obtain ⟨vs, hH, rk⟩ := s2.ob _ _ ha
      obtain rfl := keyD_ok hk (rep_ext e2 ry)
      refine ⟨_, valV vs k, rfl, DGet.k hH, ?_⟩
      rw [rk.isS]
      exact (post.ext (e1.trans e2)).here s2 (.bl _) w2
    cases b with
    | true => exact core
    | false => exact core
  refine ⟨⟨_, fun X W' g tk => ?_, hk⟩, ⟨_, fun X W' g tk => ⟨?_, fun o l p he => by cases he⟩, ok_testR hk⟩⟩
  · have hu := g.hu
    cases b with
    | true => exact pe_cmp (pc_din (by omega) (a1 X W' g tk) (b1 X W' g tk)) hm
    | false => exact pe_cmp (pc_dnotin (by omega) (a1 X W' g tk) (b1 X W' g tk)) hm
  · have hu := g.hu
    cases b with
    | true => exact pt_cmp (pc_din (by omega) (a1 X W' g tk) (b1 X W' g tk)) hm
    | false => exact pt_cmp (pc_dnotin (by omega) (a1 X W' g tk) (b1 X W' g tk)) hm
def dinS (b : Bool) : OpS where
  shape C sc e := (cmpSh (if b then .inn else .notin) e).map fun x => [x.1, x.2]
  sem _ ds T Q _ := match ds with | [y, x] => dicD x y T fun _ kvs k => Q (.bl (if b then (valD kvs k).isSome else !(valD kvs k).isSome)) T | _ => False
  tst := true
  mono h _ w := by
    split at w
    · exact dicD_mono (fun _ _ _ q => h _ _ q) w
    · exact w
  sound W hs ha := by
    obtain ⟨x, y, h1, rfl⟩ := map2 hs
    obtain ⟨m, n, rfl, h2, h3⟩ := all2_2 ha
    exact (din_sound W h1 h2 h3).1
  soundT _ := by
    intro Ω C F k sc e es ms W hs ha
    obtain ⟨x, y, h1, rfl⟩ := map2 hs
    obtain ⟨m, n, rfl, h2, h3⟩ := all2_2 ha
    exact (din_sound W h1 h2 h3).2
/-- d.pop(k) -/
def dpopS : MtS where
  shape C sc e := (mt1Sh "pop" C sc e).map fun x => (x.1, [x.2])
  chk x T := match x with | .ob a => ∃ kvs, T a = some (.dic kvs) | _ => False
  sem _ x ds T Q _ := match ds with | [y] => dicD x y T fun a kvs k => ∃ d, valD kvs k = some d ∧ Q d (T.put a (.dic (dropD kvs k))) | _ => False
  mono h _ w := by
    split at w
    · exact dicD_mono (fun _ _ _ ⟨d, q1, q2⟩ => ⟨d, q1, h _ _ q2⟩) w
    · exact w
  sound {Ω C F k sc e ro es mr ms} W hs h1 ha := by
    cases hq : mt1Sh "pop" C sc e with
    | none => rw [hq] at hs; cases hs
    | some p =>
      rw [hq] at hs
      cases hs
      obtain ⟨ap, cp, rfl, hn, hl, hx⟩ := mt1Sh_ok hq
      obtain ⟨m, rfl, tb, b1, b2⟩ := all2_1 ha
      obtain ⟨ta, a1, a2⟩ := h1
      refine ⟨fun W => tDPop1 (ta W) (tb W), fun X W' g tk => pe_dpop1 (a1 X W' g tk) (b1 X W' g tk) ⟨sup_ok hn, by rw [star_cons hx]; rfl, hl, by rw [star_cons hx]; rfl⟩, fun Bg M T H σ G Qd Xq Q W' en w post px => ?_⟩
      refine a2 _ _ _ _ _ _ _ _ _ _ en w (fun x vx B1 T1 H1 e1 s1 rx w1 => ?_) px
      obtain ⟨wc, w1⟩ := w1
      cases x <;> first
        | exact wc.elim
        | skip
      rename_i a
      obtain ⟨kvs, hT⟩ := wc
      cases rx
      obtain ⟨vs, hH, rk⟩ := s1.ob _ _ hT
      refine ⟨_, rfl, .inl ⟨vs, .inl hH⟩, b2 _ _ _ _ _ _ _ _ _ _ (en.ext e1 s1) w1 (fun y vy B2 T2 H2 e2 s2 ry w2 => ?_) (px.ext e1)⟩
      have w2 : dicD (.ob a) y T2 fun a kvs k => ∃ d, valD kvs k = some d ∧ Qd d (T2.put a (.dic (dropD kvs k))) := w2
      obtain ⟨a', kvs, k, ea, ha, hk, d, hd, w2⟩ := dicD_inv w2
      cases ea
      obtain ⟨vs, hH, rk⟩ := s2.ob _ _ ha
      obtain ⟨v, hv, rv⟩ := rk.val hd
      obtain rfl := keyD_ok hk ry
      have x3 : Ext B2 T2 H2 B2 (T2.put _ (.dic (dropD kvs k))) (L2.upd H2 _ (.dK (dropK vs k))) := Ext.wr (some_ne ha)
      obtain ⟨x4, s4⟩ := wr_ob (u := .dic (dropD kvs k)) (ho := .dK (dropK vs k)) s2 ha ⟨_, upd_same, rk.dropD.ext x3⟩
      exact ⟨vs, k, v, hH, rfl, hv, post _ _ _ _ _ ((e1.trans e2).trans x4) s4 (rep_ext x4 rv) w2⟩
/-- a written table of the module -/
theorem ix_kd {X : Cx} {d : Addr} {es : Array DictEntry} {n : Nat} (D : KDict X.K X.w d es n) : IxR X (fun x y H Q => ∃ (z : Str) (u0 : Value) (v0 : V), x = .ref d ∧ y = .str z ∧ PySem.W.nsIn X.K d z = some (some u0) ∧ RelV v0 u0 ∧ Q v0 H) := by
  intro value slice pins s σ H x y v u Q I rx ry h hs
  obtain ⟨z, u0, v0, rfl, rfl, e, r, q⟩ := h
  cases rx
  obtain ⟨t, rfl⟩ := ry
  exact tail_any (kd_type D I) PySem.F.slot_dict_getitem.lookup (wpAny_getItem_of (PySem.strKind_is X.prog X.w z t) (PySem.W.mapOf_K (prog := X.prog) I.kIn D.at_ D.lit) (PySem.W.find_K D.at_ e) ⟨v0, H, I.tok _, r, q⟩) hs
theorem look_mem {α : Type} : ∀ {l : List (Str × α)} {x : Str} {d : α}, l.lookup x = some d → (x, d) ∈ l
  | [], _, _, h => by cases h
  | (y, e) :: l, x, d, h => by
    rw [List.lookup_cons] at h
    split at h
    · rename_i hq
      cases h
      rw [beq_iff_eq.mp hq]
      exact List.mem_cons_self
    · exact List.mem_cons_of_mem _ (look_mem h)
def tabS (x : Str) (kvs : List (Str × Int)) : OpS := op1S (fun C sc e => match asSub e with
    | some (o, y) => (match asName o with
      | some z => if decide (z = x) && decide (C.ks.lookup x = some kvs) && glb sc x && !(x == ("__debug__" : Str)) && !isSlc y then some y else none
      | none => none)
    | none => none) (fun d T Q => match d with | .str s => ∃ i, kvs.lookup s = some i ∧ Q (.int i) T | _ => False) (fun h w => by
    split at w
    · obtain ⟨i, h1, h2⟩ := w
      exact ⟨i, h1, h _ _ h2⟩
    · exact w) (by
  intro Ω C F k sc e y m W hs h1
  split at hs
  · rename_i o y' hx
    split at hs
    · rename_i z hz
      split at hs
      · rename_i hb
        cases hs
        obtain ⟨ps, rfl⟩ := asSub_ok hx
        obtain ⟨pz, rfl⟩ := asName_ok hz
        simp only [Bool.and_eq_true, decide_eq_true_eq, Bool.not_eq_true'] at hb
        obtain ⟨⟨⟨⟨rfl, hl⟩, hg⟩, hd⟩, ho⟩ := hb
        obtain ⟨A, es, n, hm, D, hall⟩ := W.ks _ _ hl
        obtain ⟨ta, a1, a2⟩ := h1
        refine ⟨fun W => tOp (fun x y H Q => ∃ (z : Str) (u0 : Value) (v0 : V), x = .ref A ∧ y = .str z ∧ PySem.W.nsIn Ω.K A z = some (some u0) ∧ RelV v0 u0 ∧ Q v0 H) (tC (.ref A)) (ta W), fun X W' g tk => ?_, fun Bg M T H σ G Qd Xq Q W' en w post px => ?_⟩
        · have D' : KDict X.K X.w A es n := by rw [g.eK, g.eW]; exact D
          have z := pe_ix (pos := ps) (ix_kd D') (pe_glob (v := .ref A) (pos := pz) (g.gl hg) (by rw [g.eM]; exact hm) rfl hd) (a1 X W' g tk) (plain_ix ho)
          rw [g.eK] at z
          exact z
        · refine a2 _ _ _ _ _ _ _ _ _ _ en w (fun x vx B1 T1 H1 e1 s1 rx w1 => ?_) px
          split at w1
          · rename_i s
            obtain ⟨i, hi, w1⟩ := w1
            have hmem : (s, i) ∈ kvs := look_mem hi
            obtain ⟨u, hu, ru⟩ := hall _ hmem
            exact ⟨s, u, .int i, rfl, rx.str_inv, hu, ru, (post.ext e1).here s1 (.int _) w1⟩
          · exact w1.elim
      · cases hs
    · cases hs
  · cases hs)
end NX
set_option Elab.async false
set_option linter.all false
set_option maxRecDepth 100000
set_option maxHeartbeats 4000000
/-! sorted(d.items()) of a dict whose keys are whole numbers, put in ascending order. -/
namespace NX
open PySem PySem.Spec PyProof.Rows L2 OC
theorem perm_asc {α : Type} (f : α → Int) : ∀ {l l' : List α}, l'.Perm l → l.Pairwise (fun x y => f x < f y) → l'.Pairwise (fun x y => f x ≤ f y) → l' = l
  | [], l', p, _, _ => p.eq_nil
  | x :: l, l', p, h1, h2 => by
    cases l' with
    | nil => exact absurd p.symm.eq_nil (by simp)
    | cons y r =>
      by_cases e : y = x
      · subst e
        rw [perm_asc f (List.Perm.cons_inv p) (List.pairwise_cons.mp h1).2 (List.pairwise_cons.mp h2).2]
      · exfalso
        have hy : y ∈ l := (List.mem_cons.mp (p.mem_iff.mp List.mem_cons_self)).resolve_left e
        have hx : x ∈ r := (List.mem_cons.mp (p.mem_iff.mpr List.mem_cons_self)).resolve_left fun z => e z.symm
        have a := (List.pairwise_cons.mp h1).1 y hy
        have b := (List.pairwise_cons.mp h2).1 x hx
        omega
/-- the number of a pair, read off the heap -/
def keyI (h : Heap) : Value → Int
  | .ref a => match DT.seqAt0 h a with
    | some (.int i _) => i
    | _ => 0
  | _ => 0
def PairK (h : Heap) (v : Value) (i : Int) : Prop := ∃ (a : Addr) (t : Tok) (u : Value), v = .ref a ∧ IsTup h a #[.int i t, u]
theorem PairK.key {h : Heap} {v : Value} {i : Int} (x : PairK h v i) : keyI h v = i := by
  obtain ⟨a, t, u, rfl, h1⟩ := x
  simp only [keyI, DT.seqAt0_of h1]
  rfl
theorem firsts_k {h : Heap} : ∀ vs : List Value, (∀ v ∈ vs, ∃ i, PairK h v i) → ∃ fs : List Value, PySem.W.KatTups h vs fs ∧ fs.length = vs.length ∧ ∀ f ∈ fs, ∃ n t, f = Value.int n t
  | [], _ => ⟨[], PySem.W.KatTups.nil, rfl, fun f hf => by simp at hf⟩
  | v :: vs, x => by
    obtain ⟨fs, k, hl, hi⟩ := firsts_k vs fun u hu => x u (List.mem_cons_of_mem _ hu)
    obtain ⟨i, a, t, u, rfl, o, ho, hc, n, hd⟩ := x v List.mem_cons_self
    refine ⟨.int i t :: fs, PySem.W.KatTups.cons ho hc hd rfl k, by rw [List.length_cons, List.length_cons, hl], fun f hf => ?_⟩
    rcases List.mem_cons.mp hf with rfl | hf
    · exact ⟨i, t, rfl⟩
    · exact hi f hf
section
variable {prog : Program} {w : World} {A : Around} {E : Value → Shared → Prop} {s : Shared}
theorem kind_k {vs : List Value} (h2 : 2 ≤ vs.length) (x : ∀ v ∈ vs, ∃ i, PairK s.heap v i) (inj : ∀ v ∈ vs, ∀ u ∈ vs, keyI s.heap v = keyI s.heap u → v = u) (Q : SortKind → Shared → Prop)
    (h : ∀ κ, TS.Cmp prog w A s κ (pairsOf vs) (fun v => keyI s.heap v) → Q κ s) : wpAny (model prog w) A (keyKind' vs.toArray) Q E s := by
  obtain ⟨fs, k, hl, hi⟩ := firsts_k vs x
  refine PySem.W.kat_kind (T := Value.type "int") k (by omega) (fun f hf => ?_) rfl (h _ ?_)
  · obtain ⟨n, t, rfl⟩ := hi f hf
    exact PySem.W.Looks.of_pure rfl
  · intro p q hp hq Q' E' hQ
    rw [pairsOf_toList] at hp hq
    have mp := (mem_zip_self hp).2
    have mq := (mem_zip_self hq).2
    obtain ⟨i, py⟩ := x _ mp
    obtain ⟨j, pz⟩ := x _ mq
    have hQ : Q' (decide (keyI s.heap p.1 < keyI s.heap q.1)) s := hQ
    by_cases e : p.1 = q.1
    · rw [← e] at hQ pz ⊢
      have irr : decide (keyI s.heap p.1 < keyI s.heap p.1) = false := decide_eq_false (Int.lt_irrefl _)
      rw [irr] at hQ
      obtain ⟨a, t, u, e1, o, ho, hc, n, hd⟩ := py
      rw [e1]
      refine PySem.W.kat_lt ho hd ho hd ?_
      show PySem.W.KatLex prog w A _ (decide (2 < 2)) Q' [(Value.int i t, Value.int i t), (u, u)] 0 s
      refine PySem.W.kat_cons (SeqAt.EqAt.same _ prog w _ _ ?_)
      refine PySem.W.kat_yes (PySem.W.kat_cons (SeqAt.EqAt.same _ prog w _ _ ?_))
      exact PySem.W.kat_yes (PySem.W.kat_nil hQ)
    · have ne : ¬ i = j := fun z => e (inj _ mp _ mq (by rw [py.key, pz.key, z]))
      rw [py.key, pz.key] at hQ
      obtain ⟨a, t, u, e1, o, ho, hc, n, hd⟩ := py
      obtain ⟨a', t', u', e2, o', ho', hc', n', hd'⟩ := pz
      rw [e1, e2]
      refine PySem.W.kat_lt ho hd ho' hd' ?_
      show PySem.W.KatLex prog w A _ _ Q' [(Value.int i t, Value.int j t'), (u, u')] 0 s
      refine PySem.W.kat_cons (wpAny_eqBool_int ?_)
      rw [show (i == j) = false from beq_eq_false_iff_ne.mpr ne]
      exact PySem.W.kat_no (TS.oneLt_ints _ hQ)
end
section
variable {X : Cx}
def rItemsK : V → List V → Hp → VK → Prop := fun x xs H Q => ∃ (a : Addr) (kvs : List (Key × V)), x = .ref a ∧ xs = [] ∧ H a = some (.dK kvs) ∧ ∀ p, H p = none → Q (.ref p) (upd H p (DX.itemsO p a))
theorem mt_itemsK : MtR X "dict.items" rItemsK := by
  intro pins s σ H x xs v us Q I rx rxs h
  obtain ⟨a, kvs, rfl, rfl, ha, q⟩ := h
  cases rx
  cases rxs
  obtain ⟨z, hd, xs', rel, o, es, ep, ho, hx, hdat, _⟩ := dk_of I.hok ha
  refine DT.callItems (es := es) (ep := ep) hd ⟨o, ho, hx, hdat⟩ ?_
  have hf : H s.heap.objs.size = none := I.hok.fresh (Nat.le_refl _)
  exact ⟨.ref s.heap.objs.size, upd H s.heap.objs.size (DX.itemsO s.heap.objs.size a), I.laid (t' := s.toks) (fun b u e => Heap.get?_push_of_some _ e) (Nat.le_refl _) (DX.itemsO_ok (Heap.get?_push_size _ rfl)), rfl, q _ hf⟩
abbrev entK (e : Int × V) : Key × V := (Sum.inl e.1, e.2)
def rSortK : List V → Hp → VK → Prop := fun vs H Q => ∃ (p a : Addr) (ks : List (Int × V)), vs = [.ref p] ∧ H p = some (DX.itemsO p a) ∧ H a = some (.dK (ks.map entK)) ∧ ks.length < 64 ∧ ks.Pairwise (fun e f => e.1 < f.1) ∧
  ∀ (H' : Hp) (l : Addr) (as : List Addr), (∀ b o, H b = some o → H' b = some o) → H l = none → as.length = ks.length → H' l = some (.lst (as.map V.ref)) →
    (∀ (j : Nat) (b : Addr) (e : Int × V), as[j]? = some b → ks[j]? = some e → H b = none ∧ H' b = some (.tup [.int e.1, e.2])) → Q (.ref l) H'
theorem pairs_at {knd : KeyKind X.prog X.w Key} : ∀ {es : List DictEntry} {kvs : List (Key × Value)} {j : Nat} {e : DictEntry}, Pairs knd es kvs → es[j]? = some e → ∃ kv, kvs[j]? = some kv ∧ knd.is kv.1 e.key = true ∧ e.val = kv.2
  | _, _, j, e, .nil, h => by simp at h
  | _, _, 0, e, .cons h1 h2 t, h => by
    simp only [List.getElem?_cons_zero] at h
    cases h
    exact ⟨_, rfl, h1, h2⟩
  | _, _, j + 1, e, .cons h1 h2 t, h => by
    simp only [List.getElem?_cons_succ] at h
    obtain ⟨kv, a, b⟩ := pairs_at t h
    exact ⟨kv, by simpa using a, b⟩
theorem cr_sortedK (hc : X.calm = true) : CallR X (.builtin "sorted") rSortK := by
  intro pins s σ H xs us Q I r h
  obtain ⟨p, a, ks, rfl, gp, ga1, few, asc, q⟩ := h
  obtain rfl := Vals.ref1 r
  have seen : s.heap.IsItemsView p a := (show ObjOk X.prog X.w H s.heap p (DX.itemsO p a) from I.hok p _ gp).1
  obtain ⟨z, hd, vs0, relK, o, es, ep, atD, exd, dat, keysD, prs, ndk⟩ := dk_of I.hok ga1
  have ln1 : (ks.map entK).length = vs0.length := relK.length
  rw [List.length_map] at ln1
  have ln2 : es.size = vs0.length := by rw [← Array.length_toList]; exact prs.length
  have calmA : X.A.handled = none := I.ok.hd hc
  refine DT.sortedI (es := es) (ep := ep) calmA seen ⟨o, atD, exd, dat⟩ (by rw [sizeLine_eq]; omega) fun h' tk1 ad grow big len0 mad => ?_
  have len1 : ad.length = ks.length := by omega
  have dist : ad.Nodup := List.Pairwise.imp (fun h => Nat.ne_of_lt h) mad.rise
  have pair : ∀ (j : Nat) (b : Addr), ad[j]? = some b → ∃ (e : Int × V) (t : Tok) (u : Value), ks[j]? = some e ∧ RelV e.2 u ∧ h'.get? b = some { cls := .type "tuple", data := .seq #[Value.int e.1 t, u] } := by
    intro j b gj
    obtain ⟨en, ge, gg⟩ := mad.pairs j b gj
    rw [← Array.getElem?_toList] at ge
    obtain ⟨kv, h1, hs, h3⟩ := pairs_at prs ge
    obtain ⟨e0, he0, r1, r2⟩ := DX.pget relK h1
    rw [List.getElem?_map] at he0
    cases hkj : ks[j]? with
    | none =>
      rw [hkj] at he0
      cases he0
    | some e =>
      rw [hkj] at he0
      have same : entK e = e0 := Option.some.inj he0
      rw [← same] at r1 r2
      have r1 : kv.1 = Sum.inl e.1 := r1.symm
      rw [r1] at hs
      have hs : keyIs (.inl e.1) en.key = true := hs
      obtain ⟨t, ht⟩ := Value.isInt_shape (k := e.1) (v := en.key) hs
      refine ⟨e, t, en.val, rfl, by rw [h3]; exact r2, ?_⟩
      rw [gg, ht]
  have atL : (h'.push { cls := .type "list", data := .seq (ad.map Value.ref).toArray }).get? h'.objs.size = some (seqObj "list" (ad.map Value.ref).toArray 0) := Heap.get?_push_size _ rfl
  have old0 : ∀ b o, s.heap.get? b = some o → (h'.push { cls := .type "list", data := .seq (ad.map Value.ref).toArray }).get? b = some o := fun b o e => Heap.get?_push_of_some _ (grow b o e)
  have apart : ∀ b o, h'.get? b = some o → b ≠ h'.objs.size := fun b o e => Nat.ne_of_lt (Heap.lt_size e)
  generalize eqs : h'.push { cls := .type "list", data := .seq (ad.map Value.ref).toArray } = hs at atL old0 ⊢
  have old1 : ∀ b o, h'.get? b = some o → hs.get? b = some o := fun b o e => by rw [← eqs]; exact Heap.get?_push_of_some _ e
  have keyd : ∀ (j : Nat) (b : Addr), ad[j]? = some b → ∃ e : Int × V, ks[j]? = some e ∧ PairK (TS.midHeap hs h'.objs.size (ad.map Value.ref)) (.ref b) e.1 := by
    intro j b gj
    obtain ⟨e, t, u, ge, hr, gg⟩ := pair j b gj
    exact ⟨e, ge, b, t, u, rfl, ⟨_, TS.midHeap_old (apart _ _ gg) (old1 _ _ gg), rfl, 0, rfl⟩⟩
  have numb : ∀ (j : Nat) (b : Addr) (e : Int × V), ad[j]? = some b → ks[j]? = some e → keyI (TS.midHeap hs h'.objs.size (ad.map Value.ref)) (.ref b) = e.1 := by
    intro j b e gj ge
    obtain ⟨e1, ge1, gp1⟩ := keyd j b gj
    have same : e1 = e := Option.some.inj (ge1.symm.trans ge)
    rw [← same]
    exact gp1.key
  have place : ∀ v ∈ ad.map Value.ref, ∃ (j : Nat) (b : Addr) (e : Int × V), v = .ref b ∧ ad[j]? = some b ∧ ks[j]? = some e := by
    intro v gv
    obtain ⟨b, gb, rfl⟩ := List.mem_map.mp gv
    obtain ⟨j, gj⟩ := List.mem_iff_getElem?.mp gb
    obtain ⟨e, _, _, ge, _⟩ := pair j b gj
    exact ⟨j, b, e, rfl, gj, ge⟩
  have kinj : ∀ (i j : Nat) (e f : Int × V), ks[i]? = some e → ks[j]? = some f → e.1 = f.1 → i = j := by
    intro i j e f hi gj hef
    rw [List.pairwise_iff_getElem] at asc
    obtain ⟨li, gi⟩ := List.getElem?_eq_some_iff.mp hi
    obtain ⟨lj, gj⟩ := List.getElem?_eq_some_iff.mp gj
    rcases Nat.lt_trichotomy i j with z | z | z
    · have := asc i j li lj z
      rw [gi, gj] at this
      omega
    · exact z
    · have := asc j i lj li z
      rw [gi, gj] at this
      omega
  refine wpAny_call_entry PyProof.Rows.slot_list_sort ⟨_, atL, rfl⟩ PyProof.Rows.entry_list_sort
    (SK.plain_sort (s := { s with heap := hs, toks := tk1 }) (r := fun v => keyI (TS.midHeap hs h'.objs.size (ad.map Value.ref)) v) atL (by rw [List.length_map]; omega) (fun h2' Qk hQk => ?_) fun ps out o1 o2 o3 => ⟨.none, rfl, ?_⟩) (PyProof.Rows.args_list_sort _)
  · refine kind_k (s := { s with heap := TS.midHeap hs h'.objs.size (ad.map Value.ref), toks := tk1 }) h2' (fun v gv => ?_) (fun v gv u gu hvu => ?_) Qk hQk
    · obtain ⟨j, b, e, rfl, gj, ge⟩ := place v gv
      obtain ⟨e1, _, gp1⟩ := keyd j b gj
      exact ⟨e1.1, gp1⟩
    · obtain ⟨j, b, e, rfl, gj, ge⟩ := place v gv
      obtain ⟨j2, b2, e2, rfl, hj2, he2⟩ := place u gu
      have hvu : keyI (TS.midHeap hs h'.objs.size (ad.map Value.ref)) (.ref b) = keyI (TS.midHeap hs h'.objs.size (ad.map Value.ref)) (.ref b2) := hvu
      rw [numb j b e gj ge, numb j2 b2 e2 hj2 he2] at hvu
      obtain rfl := kinj _ _ _ _ ge he2 hvu
      rw [gj] at hj2
      cases hj2
      rfl
  · show EP X pins σ Q (.ref h'.objs.size) { s with heap := sortedHeap hs h'.objs.size (ad.map Value.ref) out, toks := tk1 }
    have hzip : ((ad.map Value.ref).zip (ad.map Value.ref)).Pairwise (fun p q => keyI (TS.midHeap hs h'.objs.size (ad.map Value.ref)) p.1 < keyI (TS.midHeap hs h'.objs.size (ad.map Value.ref)) q.1) := by
      rw [List.pairwise_iff_getElem]
      intro i j hi gj hij
      rw [List.getElem_zip, List.getElem_zip]
      simp only [List.length_zip, List.length_map, Nat.min_self] at hi gj
      simp only [List.getElem_map]
      obtain ⟨e, _, _, ge, _⟩ := pair i ad[i] (List.getElem?_eq_getElem hi)
      obtain ⟨f, _, _, hf, _⟩ := pair j ad[j] (List.getElem?_eq_getElem gj)
      rw [numb i _ e (List.getElem?_eq_getElem hi) ge, numb j _ f (List.getElem?_eq_getElem gj) hf]
      rw [List.pairwise_iff_getElem] at asc
      obtain ⟨li, gi⟩ := List.getElem?_eq_some_iff.mp ge
      obtain ⟨lj, gj⟩ := List.getElem?_eq_some_iff.mp hf
      have := asc i j li lj hij
      rw [gi, gj] at this
      exact this
    have hps : ps = (ad.map Value.ref).zip (ad.map Value.ref) := perm_asc (fun p : Value × Value => keyI (TS.midHeap hs h'.objs.size (ad.map Value.ref)) p.1) o2 hzip o3
    have hout : out.toList = ad.map Value.ref := by
      rw [o1, hps]
      exact List.map_snd_zip (Nat.le_refl _)
    have keepF : ∀ b o, b ≠ h'.objs.size → hs.get? b = some o → (sortedHeap hs h'.objs.size (ad.map Value.ref) out).get? b = some o := fun b o gb e => (PyProof.Rows.sortedHeap_old gb (Heap.lt_size e)).trans e
    have keepS : ∀ b o, s.heap.get? b = some o → (sortedHeap hs h'.objs.size (ad.map Value.ref) out).get? b = some o := fun b o e => keepF b o (apart _ _ (grow b o e)) (old0 b o e)
    obtain ⟨n9, at9⟩ := PyProof.Rows.sortedHeap_at (vs := ad.map Value.ref) (out := out) atL
    have J1 : Inv X pins σ H { s with heap := sortedHeap hs h'.objs.size (ad.map Value.ref) out, toks := tk1 } := I.kept (t' := tk1) keepS
    have free0 : H h'.objs.size = none := I.hok.fresh (Nat.le_of_lt big)
    have lenV : (ad.map V.ref).length ≤ sizeLine := by
      rw [List.length_map, sizeLine_eq]
      omega
    have vls : Vals (ad.map V.ref) out.toList := by
      rw [hout]
      exact vals_maps V.ref Value.ref ad fun _ _ => rfl
    have J2 : Inv X pins σ (upd H h'.objs.size (.lst (ad.map V.ref))) { s with heap := sortedHeap hs h'.objs.size (ad.map Value.ref) out, toks := tk1 } :=
      J1.take (h' := sortedHeap hs h'.objs.size (ad.map Value.ref) out) (t' := tk1) (fun b ob _ e => e) (I.fpOk (Nat.le_of_lt big) free0) ⟨lenV, out.toList, n9, vls, at9⟩
    obtain ⟨H2, J3, g, got⟩ := DX.takeT (P := fun b vs => ∃ (j : Nat) (e : Int × V), ad[j]? = some b ∧ ks[j]? = some e ∧ vs = [.int e.1, e.2]) I ad _ J2 dist fun b gb => by
      obtain ⟨j, gj⟩ := List.mem_iff_getElem?.mp gb
      obtain ⟨e, t, u, ge, hr, gg⟩ := pair j b gj
      have abv : s.heap.objs.size ≤ b := Nat.le_of_lt (mad.above b gb)
      refine ⟨abv, ?_, [.int e.1, e.2], ⟨j, e, gj, ge, rfl⟩, fun H3 => ⟨(by rw [sizeLine_eq]; show 2 ≤ 16777216; omega), [Value.int e.1 t, u], .cons ⟨t, rfl⟩ (.cons hr .nil), ⟨_, keepF _ _ (apart _ _ gg) (old1 _ _ gg), rfl, 0, rfl⟩⟩⟩
      rw [upd_ne (apart _ _ gg)]
      exact I.hok.fresh abv
    have growH : ∀ b o, H b = some o → H2 b = some o := fun b o e => g b o (by rw [upd_ne (ne_of_none e free0)]; exact e)
    refine ⟨.ref h'.objs.size, H2, J3, rfl, q H2 h'.objs.size ad growH free0 len1 (g _ _ upd_same) fun i b e hi ge => ?_⟩
    obtain ⟨vs, ⟨j, f, j1, j2, ev⟩, gH⟩ := got b (List.mem_of_getElem? hi)
    have eij : i = j := (List.getElem?_inj (List.getElem?_eq_some_iff.mp hi).1 dist).mp (hi.trans j1.symm)
    subst eij
    have same : f = e := Option.some.inj (j2.symm.trans ge)
    rw [ev, same] at gH
    exact ⟨I.hok.fresh (Nat.le_of_lt (mad.above b (List.mem_of_getElem? hi))), gH⟩
end
theorem repK_ints {K : PySem.W.Frag} {Bg M : AP} {H : Hp} : ∀ {vs : List (Key × V)} {es : List (Int × D)}, RepK K Bg M H vs (es.map fun e => (Sum.inl e.1, e.2)) → ∃ ws : List (Int × V), vs = ws.map entK ∧ RepK K Bg M H ws es
  | [], [], _ => ⟨[], rfl, .nil⟩
  | _ :: _, [], h => by cases h
  | [], _ :: _, h => by cases h
  | (k, v) :: vs, (i, d) :: es, h => by
    cases h with
    | cons r t =>
      obtain ⟨ws, rfl, h2⟩ := repK_ints t
      exact ⟨(i, v) :: ws, rfl, .cons r h2⟩
theorem RepK.keys_eq {α : Type} {K : PySem.W.Frag} {Bg M : AP} {H : Hp} : ∀ {vs : List (α × V)} {ds : List (α × D)}, RepK K Bg M H vs ds → vs.map (·.1) = ds.map (·.1)
  | _, _, .nil => rfl
  | _, _, .cons _ t => by rw [List.map_cons, List.map_cons, t.keys_eq]
theorem RepK.at' {α : Type} {K : PySem.W.Frag} {Bg M : AP} {H : Hp} : ∀ {vs : List (α × V)} {ds : List (α × D)} {j : Nat} {p : α × D}, RepK K Bg M H vs ds → ds[j]? = some p → ∃ v, vs[j]? = some (p.1, v) ∧ Rep K Bg M H v p.2
  | _, _, _, _, .nil, h => by simp at h
  | _, _, 0, _, .cons r _, h => by
    simp only [List.getElem?_cons_zero] at h
    cases h
    exact ⟨_, rfl, r⟩
  | _, _, j + 1, _, .cons _ t, h => by
    simp only [List.getElem?_cons_succ] at h
    obtain ⟨v, a, b⟩ := t.at' h
    exact ⟨v, by simpa using a, b⟩
/-- more in the heap -/
theorem Ext.more {Bg : AP} {T : TS} {H H' : Hp} (k : ∀ b o, H b = some o → H' b = some o) : Ext Bg T H Bg T H' :=
  ⟨fun _ q => q, fun _ q n => absurd q n, fun a o _ _ h => k a o h, fun _ q => .inl q, fun a q => by
    cases e : H a with
    | none => exact absurd e q
    | some o => rw [k a o e]; exact fun z => nomatch z⟩
theorem Sm.moreH {K : PySem.W.Frag} {mg : Str → Option Value} {Bg M : AP} {T : TS} {H H' : Hp} (s : Sm K mg Bg M T H) (k : ∀ b o, H b = some o → H' b = some o) : Sm K mg Bg M T H' :=
  ⟨fun a q => by
    obtain ⟨L, N, e, r⟩ := s.bags a q
    exact ⟨L, N, k _ _ e, r⟩, s.nb, fun a u q => (s.ob a u q).kp (Ext.more k).kp (by
      cases e : H a with
      | none => exact absurd e (s.there (some_ne q))
      | some o => rw [k a o e]), mm_ext s (Ext.more k)⟩
theorem repL_of_at {K : PySem.W.Frag} {Bg M : AP} {H : Hp} : ∀ {vs : List V} {ds : List D}, vs.length = ds.length → (∀ (j : Nat) (v : V) (d : D), vs[j]? = some v → ds[j]? = some d → Rep K Bg M H v d) → RepL K Bg M H vs ds
  | [], [], _, _ => .nil
  | [], _ :: _, h, _ => by simp at h
  | _ :: _, [], h, _ => by simp at h
  | v :: vs, d :: ds, h, q => .cons (q 0 v d rfl rfl) (repL_of_at (by simpa using h) fun j v d h1 h2 => q (j + 1) v d (by simpa using h1) (by simpa using h2))
/-- sorted(d.items()) -/
def sitSh (C : Ck) (sc : Scope) (e : Expr) : Option Expr := match blt1 "sorted" C sc e with
  | some y => mt0Sh "items" C sc y
  | none => none
def sitS : OpS := op1S sitSh (fun x T Q => match x with | .ob a => ∃ es : List (Int × D), T a = some (.dic (es.map fun e => (Sum.inl e.1, e.2))) ∧ es.length < 64 ∧ (es.map (·.1)).Pairwise (· < ·) ∧ Q (.lst (es.map fun e => .tup [.int e.1, e.2])) T | _ => False) (fun h w => by
    split at w
    · obtain ⟨es, a, b, c, d⟩ := w
      exact ⟨es, a, b, c, h _ _ d⟩
    · exact w) (by
  intro Ω C F k sc e x m W hs h1
  unfold sitSh at hs
  split at hs
  · rename_i y hy
    obtain ⟨p, q, rfl, hg, hbs, hn⟩ := blt1_ok hy
    obtain ⟨ap, cp, rfl, hns, hl⟩ := mt0Sh_ok hs
    obtain ⟨ta, a1, a2⟩ := h1
    refine ⟨fun W => tCB rSortK (tCons (tBM0 Ω.K "dict" rItemsK (ta W)) tNil), fun X W' g tk => ?_, fun Bg M T H σ G Qd Xq Q W' en w post px => ?_⟩
    · have z := pe_bm0 (X := X) (apos := ap) (cpos := cp) PySem.F.plainAttrs_dict PySem.F.slot_dict_items PySem.F.type_dict_items mt_itemsK (a1 X W' g tk) (sup_ok hns) hl
      rw [g.eK] at z
      exact pe_callB (cr_sortedK g.calm) (g.gl hg) (by rw [g.eM]; exact W.bs _ hbs) (by decide +kernel) (pa_cons z pa_nil (star_cons hn)) (by decide) (by decide) (star_cons hn) rfl
    · refine a2 _ _ _ _ _ _ _ _ _ _ en w (fun x vx B1 T1 H1 e1 s1 rx w1 => ?_) px
      split at w1
      · rename_i a
        obtain ⟨es, ha, h64, hasc, w1⟩ := w1
        cases rx
        obtain ⟨vs, hH, rk⟩ := s1.ob _ _ ha
        obtain ⟨ws, rfl, rw⟩ := repK_ints rk
        refine ⟨.inr (.inr (.inl ⟨rfl, .inl ⟨_, hH⟩⟩)), a, _, rfl, rfl, hH, fun pi hpi => ?_⟩
        have k1 : ∀ b o, H1 b = some o → upd H1 pi (DX.itemsO pi a) b = some o := fun b o e => by rw [upd_ne (ne_of_none e hpi)]; exact e
        refine ⟨pi, a, ws, rfl, upd_same, k1 _ _ hH, by rw [rw.len]; exact h64, ?_, fun H' l as hk hl0 hlen hL hat => ?_⟩
        · have := rw.keys_eq
          rw [← this, List.pairwise_map] at hasc
          exact hasc
        · have k2 : ∀ b o, H1 b = some o → H' b = some o := fun b o e => hk b o (k1 b o e)
          have x := Ext.more (Bg := B1) (T := T1) k2
          have s2 := s1.moreH k2
          have fr : ∀ b, upd H1 pi (DX.itemsO pi a) b = none → H1 b = none := fun b hb => by
            cases e : H1 b with
            | none => rfl
            | some o => rw [k1 b o e] at hb; cases hb
          obtain ⟨n1, n2, n3⟩ := s1.free (fr l hl0)
          refine post _ _ _ _ _ (e1.trans x) s2 (.lst hL n2 (not_lv n1 n3) (repL_of_at (by rw [List.length_map, List.length_map, hlen, rw.len]) fun j v d hv hd => ?_)) w1
          rw [List.getElem?_map] at hv hd
          cases hj : as[j]? with
          | none => rw [hj] at hv; cases hv
          | some b =>
            rw [hj] at hv
            cases hv
            cases he : es[j]? with
            | none => rw [he] at hd; cases hd
            | some e =>
              rw [he] at hd
              cases hd
              obtain ⟨v, hv2, rv⟩ := rw.at' he
              obtain ⟨hb0, hb1⟩ := hat j b _ hj hv2
              obtain ⟨m1, m2, m3⟩ := s1.free (fr b hb0)
              exact .tup (.inl hb1) m2 (not_lv m1 m3) (.cons (.int _) (.cons (rep_ext x rv) .nil))
      · exact w1.elim
  · cases hs)
end NX
set_option Elab.async false
set_option linter.all false
set_option maxRecDepth 100000
set_option maxHeartbeats 4000000
/-! Walking: instances and dicts. -/
namespace NX
open PySem PySem.Spec PyProof.Rows L2 OC
section
variable {F : List Ct} {G : GV} {T : TS} {Q : QD} {X : XD} {K : Ks} {r : List S}
theorem ex_fld {c f : Str} {a : E} : wpE F (.op (fldS c f) [a]) G T Q X = wpE F a G T (fun x T1 => insD c x T1 fun _ fs => ∃ d, fs.lookup f = some d ∧ Q d T1) X := by rw [wpE, wpEs]; simp only [wpEs]; rfl
theorem ex_meth {i : Nat} {c m : Str} {a : E} {as : List E} : wpE F (.mth (methS i c m) a as) G T Q X = wpE F a G T (fun x T1 => (insD c x T1 fun _ fs => fs.lookup m = none) ∧ wpEs F as G T1 (fun ds T2 => match F[i]? with | some ct => ct.c (x :: ds) T2 Q X | none => False) X) X := by rw [wpE] <;> rfl
theorem ex_mk {i : Nat} {c : Str} : wpE F (.op (mkS i c) []) G T Q X = match F[i]? with | some ct => ∀ a, T a = none → ct.c [.ob a] (T.put a (.ins c [])) (fun d T1 => d = D.non ∧ Q (.ob a) T1) X | none => False := by
  rw [wpE, wpEs]
  show (match ([] : List D), F[i]? with
    | [], some ct => ∀ a, T a = none → ct.c [.ob a] (T.put a (.ins c [])) (fun d T1 => d = D.non ∧ Q (.ob a) T1) X
    | _, _ => False) = _
  cases F[i]? <;> rfl
theorem ex_dic : wpE F (.op dicS []) G T Q X = ∀ a, T a = none → Q (.ob a) (T.put a (.dic [])) := by rw [wpE, wpEs]; rfl
theorem ex_dget {a b : E} : wpE F (.op dgetS [a, b]) G T Q X = wpE F a G T (fun x T1 => wpE F b G T1 (fun y T2 => dicD x y T2 fun _ kvs k => ∃ d, valD kvs k = some d ∧ Q d T2) X) X := by rw [wpE, wpEs]; simp only [wpEs]; rfl
theorem ex_din {o : Bool} {a b : E} : wpE F (.op (dinS o) [a, b]) G T Q X = wpE F a G T (fun y T1 => wpE F b G T1 (fun x T2 => dicD x y T2 fun _ kvs k => Q (.bl (if o then (valD kvs k).isSome else !(valD kvs k).isSome)) T2) X) X := by rw [wpE, wpEs]; simp only [wpEs]; rfl
theorem ex_dpop {a b : E} : wpE F (.mth dpopS a [b]) G T Q X = wpE F a G T (fun x T1 => (match x with | .ob a => ∃ kvs, T1 a = some (.dic kvs) | _ => False) ∧ wpE F b G T1 (fun y T2 => dicD x y T2 fun a kvs k => ∃ d, valD kvs k = some d ∧ Q d (T2.put a (.dic (dropD kvs k)))) X) X := by rw [wpE]; simp only [wpEs]; rfl
theorem ex_tab {x : Str} {kvs : List (Str × Int)} {a : E} : wpE F (.op (tabS x kvs) [a]) G T Q X = wpE F a G T (fun d T1 => match d with | .str s => ∃ i, kvs.lookup s = some i ∧ Q (.int i) T1 | _ => False) X := by rw [wpE, wpEs]; simp only [wpEs]; rfl
theorem ex_sit {a : E} : wpE F (.op sitS [a]) G T Q X = wpE F a G T (fun x T1 => match x with | .ob a => ∃ es : List (Int × D), T1 a = some (.dic (es.map fun e => (Sum.inl e.1, e.2))) ∧ es.length < 64 ∧ (es.map (·.1)).Pairwise (· < ·) ∧ Q (.lst (es.map fun e => .tup [.int e.1, e.2])) T1 | _ => False) X := by rw [wpE, wpEs]; simp only [wpEs]; rfl
theorem insD_ob {c : Str} {a : Addr} {Q : Addr → List (Str × D) → Prop} : insD c (.ob a) T Q = ∃ fs, T a = some (.ins c fs) ∧ Q a fs := rfl
theorem dicD_i {a : Addr} {i : Int} {Q : Addr → List (Key × D) → Key → Prop} : dicD (.ob a) (.int i) T Q = ∃ kvs, T a = some (.dic kvs) ∧ Q a kvs (.inl i) := by
  apply propext
  constructor
  · rintro ⟨kvs, k, h1, h2, h3⟩
    cases h2
    exact ⟨kvs, h1, h3⟩
  · rintro ⟨kvs, h1, h3⟩
    exact ⟨kvs, _, h1, rfl, h3⟩
end
end NX
set_option Elab.async false
set_option linter.all false
set_option maxRecDepth 100000
set_option maxHeartbeats 4000000
set_option exponentiation.threshold 20000
namespace NX
open PySem PySem.Spec PyProof.Rows L2 OC
/-- the number of the outer turns -/
theorem turns_ok {lo hi : Int} (ns : List Int) (h0 : 0 ≤ lo) (h1 : lo ≤ 64) (h2 : 0 ≤ hi) (h3 : hi ≤ 64) : -(2 ^ 62) ≤ (if (if (ns.length : Int) < hi then (ns.length : Int) else hi) > lo then (if (ns.length : Int) < hi then (ns.length : Int) else hi) else lo) ∧ (if (if (ns.length : Int) < hi then (ns.length : Int) else hi) > lo then (if (ns.length : Int) < hi then (ns.length : Int) else hi) else lo) < 2 ^ 62 := by
  split <;> split <;> omega
theorem turn_k {lo hi : Int} {ns : List Int} {d : D} (h0 : 0 ≤ lo) (h1 : lo ≤ 64) (h2 : 0 ≤ hi) (h3 : hi ≤ 64) (h : d ∈ rngD 0 (if (if (ns.length : Int) < hi then (ns.length : Int) else hi) > lo then (if (ns.length : Int) < hi then (ns.length : Int) else hi) else lo)) : ∃ k : Int, d = .int k ∧ 0 ≤ k ∧ k < 64 := by
  obtain ⟨k, rfl, a, b⟩ := mem_rng' h
  refine ⟨k, rfl, a, ?_⟩
  split at b <;> split at b <;> omega
/-- the outer loop of a law, its bag drawn first -/
theorem outer {F : List Ct} {b : Nat} {lo hi : Int} {body rest : List S} {ns : List Int} {T : TS} {G : GV} {o1 o2 : Option D} {K : Ks} (m : Nat) (hb : F[b]? = some bagC) (h0 : 0 ≤ lo) (h1 : lo ≤ 64) (h2 : 0 ≤ hi) (h3 : hi ≤ 64) (hG : G.length = m)
    (hbody : ∀ (k : Int) (G : GV) (nx : GV → TS → Prop), G.length = m → (∀ G' : GV, G'.length = m → ∀ p q, nx (some (.scr ns) :: p :: q :: G') T) → wpSs F body (some (.scr ns) :: some (.int k) :: some .bag :: G) T { nx := nx, rt := K.rt, bk := fun G1 T1 => wpSs F rest G1 T1 K, ct := nx, ex := K.ex })
    (hrest : ∀ (G : GV) p q, G.length = m → wpSs F rest (some (.scr ns) :: p :: q :: G) T K) :
    wpSs F (.forS (.name 1) rng1I [.op (biS .max) [.op (kS (.int lo)) [], .op (biS .min) [.op (kS (.int hi)) [], .op (biS .len) [.var 0]]]] (.st (asgS 2) [.op (callS b) [.var 0, .var 1]] :: body) :: rest) (some (.scr ns) :: o1 :: o2 :: G) T K := by
  try dsimp only
  rw [sq_for]
  simp only [ex_var, ex_k, ex_bin, ex_cat, ex_neg, ex_cmp, ex_tup, ex_lst, ex_mkbag, ex_ix, ex_ixn, ex_slL, ex_slH, ex_slK, slL_g, ex_call, ex_bi, ex_isD, isi_i, isi_b, isi_s, isi_n, ex_app, ex_ext, ex_pop, ex_rev, ex_pop0, ex_chain, ex_and, ex_or, ex_not, ex_ite, ex_lc, ex_lsOf, ex_tuOf, ex_in, ex_srtI, ex_mnL, ex_mxL, ex_mnD, ex_fld, ex_meth, ex_mk, ex_dic, ex_dget, ex_din, ex_dpop, ex_tab, ex_sit, insD_ob, dicD_i, slT_g, es_nil, es_cons, OC.getV, List.set, bop, augop, ixn_t, ixn_l, ixn_o, ixn_q0, ixn_q1, pkI2, pkI3, pkI4, pkI5, pkI6, pkQ2, pkQ3, pkQ4, pkQ5, pkU2, pkU3, pkU4, pkU5, pkL2, pkL3, pkL4, pkL5, bi_len_l, bi_len_t, bi_len_s, bi_len_x, bi_len_o, bi_abs, bi_max2, bi_min2, bi_max3, bi_sum_l, bi_sum_o, bi_all_l, bi_all_o, bi_any_l, bi_any_o, bi_repr, bi_divmod, bi_int_i, bi_int_b, dtru, bn_name, bn_tup, bns_nil, bns_cons, if_true, if_false, Bool.false_eq_true, List.getElem?_cons_zero, List.getElem?_cons_succ, List.length_cons, List.length_nil, cm_eqI, cm_neI, cm_eqS, cm_neS, cm_ltI, cm_leI, cm_gtI, cm_geI, co_eqI, co_neI, co_ltI, co_leI, co_gtI, co_geI, cm_eqB, cm_neB, cm_eqQ, cm_neQ, mkL_t, mkL_f, viewL_l, viewS_l, viewS_t, someE, ik_l, ik_t, ik_r1, ik_r2, ik_rev, ik_enum, ik_zip, bagP_c, true_and, and_true, Bool.not_true, Bool.not_false, if_nil, if_cons, OC.wipeV, List.map_cons, List.map_nil, List.length_map]
  refine ⟨turns_ok ns h0 h1 h2 h3, for_inv (fun G1 T1 => T1 = T ∧ ∃ p q G', G1 = some (.scr ns) :: p :: q :: G' ∧ G'.length = m) _ ?_ ?_ _ _ ⟨rfl, _, _, _, rfl, hG⟩⟩
  · rintro d hd _ _ ⟨rfl, p, q, G', rfl, hm⟩ nx hnx
    obtain ⟨k, rfl, k0, k1⟩ := turn_k h0 h1 h2 h3 hd
    try simp only [ex_var, ex_k, ex_bin, ex_cat, ex_neg, ex_cmp, ex_tup, ex_lst, ex_mkbag, ex_ix, ex_ixn, ex_slL, ex_slH, ex_slK, slL_g, ex_call, ex_bi, ex_isD, isi_i, isi_b, isi_s, isi_n, ex_app, ex_ext, ex_pop, ex_rev, ex_pop0, ex_chain, ex_and, ex_or, ex_not, ex_ite, ex_lc, ex_lsOf, ex_tuOf, ex_in, ex_srtI, ex_mnL, ex_mxL, ex_mnD, ex_fld, ex_meth, ex_mk, ex_dic, ex_dget, ex_din, ex_dpop, ex_tab, ex_sit, insD_ob, dicD_i, slT_g, es_nil, es_cons, OC.getV, List.set, bop, augop, ixn_t, ixn_l, ixn_o, ixn_q0, ixn_q1, pkI2, pkI3, pkI4, pkI5, pkI6, pkQ2, pkQ3, pkQ4, pkQ5, pkU2, pkU3, pkU4, pkU5, pkL2, pkL3, pkL4, pkL5, bi_len_l, bi_len_t, bi_len_s, bi_len_x, bi_len_o, bi_abs, bi_max2, bi_min2, bi_max3, bi_sum_l, bi_sum_o, bi_all_l, bi_all_o, bi_any_l, bi_any_o, bi_repr, bi_divmod, bi_int_i, bi_int_b, dtru, bn_name, bn_tup, bns_nil, bns_cons, if_true, if_false, Bool.false_eq_true, List.getElem?_cons_zero, List.getElem?_cons_succ, List.length_cons, List.length_nil, cm_eqI, cm_neI, cm_eqS, cm_neS, cm_ltI, cm_leI, cm_gtI, cm_geI, co_eqI, co_neI, co_ltI, co_leI, co_gtI, co_geI, cm_eqB, cm_neB, cm_eqQ, cm_neQ, mkL_t, mkL_f, viewL_l, viewS_l, viewS_t, someE, ik_l, ik_t, ik_r1, ik_r2, ik_rev, ik_enum, ik_zip, bagP_c, true_and, and_true, Bool.not_true, Bool.not_false, if_nil, if_cons, OC.wipeV, List.map_cons, List.map_nil, List.length_map]
    try dsimp only
    rw [sq_asg]
    simp only [ex_var, ex_k, ex_bin, ex_cat, ex_neg, ex_cmp, ex_tup, ex_lst, ex_mkbag, ex_ix, ex_ixn, ex_slL, ex_slH, ex_slK, slL_g, ex_call, ex_bi, ex_isD, isi_i, isi_b, isi_s, isi_n, ex_app, ex_ext, ex_pop, ex_rev, ex_pop0, ex_chain, ex_and, ex_or, ex_not, ex_ite, ex_lc, ex_lsOf, ex_tuOf, ex_in, ex_srtI, ex_mnL, ex_mxL, ex_mnD, ex_fld, ex_meth, ex_mk, ex_dic, ex_dget, ex_din, ex_dpop, ex_tab, ex_sit, insD_ob, dicD_i, slT_g, es_nil, es_cons, OC.getV, List.set, bop, augop, ixn_t, ixn_l, ixn_o, ixn_q0, ixn_q1, pkI2, pkI3, pkI4, pkI5, pkI6, pkQ2, pkQ3, pkQ4, pkQ5, pkU2, pkU3, pkU4, pkU5, pkL2, pkL3, pkL4, pkL5, bi_len_l, bi_len_t, bi_len_s, bi_len_x, bi_len_o, bi_abs, bi_max2, bi_min2, bi_max3, bi_sum_l, bi_sum_o, bi_all_l, bi_all_o, bi_any_l, bi_any_o, bi_repr, bi_divmod, bi_int_i, bi_int_b, dtru, bn_name, bn_tup, bns_nil, bns_cons, if_true, if_false, Bool.false_eq_true, List.getElem?_cons_zero, List.getElem?_cons_succ, List.length_cons, List.length_nil, cm_eqI, cm_neI, cm_eqS, cm_neS, cm_ltI, cm_leI, cm_gtI, cm_geI, co_eqI, co_neI, co_ltI, co_leI, co_gtI, co_geI, cm_eqB, cm_neB, cm_eqQ, cm_neQ, mkL_t, mkL_f, viewL_l, viewS_l, viewS_t, someE, ik_l, ik_t, ik_r1, ik_r2, ik_rev, ik_enum, ik_zip, bagP_c, true_and, and_true, Bool.not_true, Bool.not_false, if_nil, if_cons, OC.wipeV, List.map_cons, List.map_nil, List.length_map, hb, bag_c]
    exact ⟨⟨k0, k1⟩, hbody k _ _ hm fun G2 h p q => hnx _ _ ⟨rfl, _, _, _, rfl, h⟩⟩
  · rintro _ _ ⟨rfl, p, q, G', rfl, hm⟩
    exact hrest _ _ _ hm
/-- a loop of so many turns, in which only what lies behind may change -/
theorem inner {F : List Ct} {tn : Int} {j : Nat} {body rest : List S} {T : TS} {K : Ks} (I : GV → Prop) (h0 : 0 ≤ tn) (h1 : tn < 2 ^ 62) {G : GV} (hG : I G)
    (hbody : ∀ (G : GV) (k : Int) (nx : GV → TS → Prop), I G → 0 ≤ k → k < tn → (∀ G', I G' → nx G' T) → wpSs F body (G.set j (some (.int k))) T { nx := nx, rt := K.rt, bk := fun G1 T1 => wpSs F rest G1 T1 K, ct := nx, ex := K.ex })
    (hrest : ∀ G, I G → wpSs F rest G T K) : wpSs F (.forS (.name j) rng1I [.op (kS (.int tn)) []] body :: rest) G T K := by
  try dsimp only
  rw [sq_for]
  simp only [ex_var, ex_k, ex_bin, ex_cat, ex_neg, ex_cmp, ex_tup, ex_lst, ex_mkbag, ex_ix, ex_ixn, ex_slL, ex_slH, ex_slK, slL_g, ex_call, ex_bi, ex_isD, isi_i, isi_b, isi_s, isi_n, ex_app, ex_ext, ex_pop, ex_rev, ex_pop0, ex_chain, ex_and, ex_or, ex_not, ex_ite, ex_lc, ex_lsOf, ex_tuOf, ex_in, ex_srtI, ex_mnL, ex_mxL, ex_mnD, ex_fld, ex_meth, ex_mk, ex_dic, ex_dget, ex_din, ex_dpop, ex_tab, ex_sit, insD_ob, dicD_i, slT_g, es_nil, es_cons, OC.getV, List.set, bop, augop, ixn_t, ixn_l, ixn_o, ixn_q0, ixn_q1, pkI2, pkI3, pkI4, pkI5, pkI6, pkQ2, pkQ3, pkQ4, pkQ5, pkU2, pkU3, pkU4, pkU5, pkL2, pkL3, pkL4, pkL5, bi_len_l, bi_len_t, bi_len_s, bi_len_x, bi_len_o, bi_abs, bi_max2, bi_min2, bi_max3, bi_sum_l, bi_sum_o, bi_all_l, bi_all_o, bi_any_l, bi_any_o, bi_repr, bi_divmod, bi_int_i, bi_int_b, dtru, bn_name, bn_tup, bns_nil, bns_cons, if_true, if_false, Bool.false_eq_true, List.getElem?_cons_zero, List.getElem?_cons_succ, List.length_cons, List.length_nil, cm_eqI, cm_neI, cm_eqS, cm_neS, cm_ltI, cm_leI, cm_gtI, cm_geI, co_eqI, co_neI, co_ltI, co_leI, co_gtI, co_geI, cm_eqB, cm_neB, cm_eqQ, cm_neQ, mkL_t, mkL_f, viewL_l, viewS_l, viewS_t, someE, ik_l, ik_t, ik_r1, ik_r2, ik_rev, ik_enum, ik_zip, bagP_c, true_and, and_true, Bool.not_true, Bool.not_false, if_nil, if_cons, OC.wipeV, List.map_cons, List.map_nil, List.length_map]
  refine ⟨⟨by omega, h1⟩, for_inv (fun G1 T1 => T1 = T ∧ I G1) _ ?_ ?_ _ _ ⟨rfl, hG⟩⟩
  · rintro d hd G1 _ ⟨rfl, hI⟩ nx hnx
    obtain ⟨k, rfl, k0, k1⟩ := mem_rng' hd
    exact hbody G1 k nx hI k0 k1 fun G' h => hnx _ _ ⟨rfl, h⟩
  · rintro G1 _ ⟨rfl, hI⟩
    exact hrest G1 hI
end NX
set_option Elab.async false
set_option linter.all false
set_option maxRecDepth 100000
set_option maxHeartbeats 4000000
set_option Elab.async false
set_option linter.all false
set_option maxRecDepth 100000
set_option maxHeartbeats 4000000
set_option exponentiation.threshold 20000
namespace NX
open PySem PySem.Spec PyProof.Rows L2 OC
/-! ### sets of cuts -/
def encP (p : Rat × Rat) : D := .tup [encQ p.1, encQ p.2]
def encS (l : List (Rat × Rat)) : D := .lst (l.map encP)
theorem encP_inj {x y : Rat × Rat} (h : encP x = encP y) : x = y := by
  unfold encP at h
  simp only [D.tup.injEq, List.cons.injEq, and_true] at h
  exact Prod.ext (encQ_inj h.1) (encQ_inj h.2)
theorem map_injS {α β : Type} {f : α → β} (hf : ∀ x y, f x = f y → x = y) : ∀ {x y : List α}, x.map f = y.map f → x = y
  | [], [], _ => rfl
  | [], _ :: _, h => by cases h
  | _ :: _, [], h => by cases h
  | a :: x, b :: y, h => by
    rw [List.map_cons, List.map_cons, List.cons.injEq] at h
    rw [hf _ _ h.1, map_injS hf h.2]
theorem encS_inj {x y : List (Rat × Rat)} (h : encS x = encS y) : x = y := by
  unfold encS at h
  exact map_injS (fun _ _ => encP_inj) (D.lst.inj h)
/-- ends of so many bits -/
def Bs (n : Nat) (l : List (Rat × Rat)) : Prop := ∀ p ∈ l, Bq n p.1 ∧ Bq n p.2
theorem bq1 {n : Nat} (h : 1 ≤ n) : Bq n 1 := ⟨Nat.lt_of_lt_of_le (show (1 : Nat) < 2 ^ 1 by decide) (Nat.pow_le_pow_right (by decide) h), Nat.lt_of_lt_of_le (show (1 : Nat) < 2 ^ 1 by decide) (Nat.pow_le_pow_right (by decide) h)⟩
theorem bls_map {α : Type} {g : α → Bool} : ∀ {l : List α}, blsOf (l.map fun x => .bl (g x)) = some (l.map g)
  | [] => rfl
  | x :: l => by
    rw [List.map_cons, blsOf, bls_map (l := l)]
    rfl
end NX
set_option Elab.async false
set_option linter.all false
set_option maxRecDepth 100000
set_option maxHeartbeats 4000000
set_option exponentiation.threshold 20000
namespace NX
open PySem PySem.Spec PyProof.Rows L2 OC
/-! ### sets of cuts in plain words -/
/-- in order, apart, from x to 1 -/
def CanF (x : Rat) (l : List (Rat × Rat)) : Prop := (∀ p ∈ l, x ≤ p.1 ∧ p.1 < p.2 ∧ p.2 ≤ 1) ∧ l.Pairwise fun p q => p.2 < q.1
abbrev Can (l : List (Rat × Rat)) : Prop := CanF 0 l
theorem CanF.tail {x : Rat} {p : Rat × Rat} {l : List (Rat × Rat)} (h : CanF x (p :: l)) : CanF p.2 l := by
  have h2 := List.pairwise_cons.mp h.2
  exact ⟨fun q hq => ⟨by have := h2.1 q hq; grind, (h.1 q (List.mem_cons_of_mem _ hq)).2⟩, h2.2⟩
/-! ### lengths -/
/-! ### denominators -/
/-- all ends are whole in parts of N -/
def Dn (N : Nat) (l : List (Rat × Rat)) : Prop := ∀ p ∈ l, p.1.den ∣ N ∧ p.2.den ∣ N
theorem den_divInt {a : Int} {N : Nat} (h : N ≠ 0) : (Rat.divInt a N).den ∣ N := by
  have hN : (N : Int) ≠ 0 := by omega
  have e := Rat.num_divInt_den (Rat.divInt a N)
  rw [Rat.divInt_eq_divInt_iff (den_ne _) hN] at e
  have e2 := congrArg Int.natAbs e
  rw [Int.natAbs_mul, Int.natAbs_mul, Int.natAbs_natCast, Int.natAbs_natCast] at e2
  refine Nat.Coprime.dvd_of_dvd_mul_left (Nat.Coprime.symm (Rat.divInt a N).reduced) ⟨a.natAbs, ?_⟩
  rw [e2, Nat.mul_comm]
theorem bq_unit {n N : Nat} {x : Rat} (hN : 0 < N) (hn : N < 2 ^ n) (hd : x.den ∣ N) (h0 : 0 ≤ x) (h1 : x ≤ 1) : Bq n x := by
  have hle : x.den ≤ N := Nat.le_of_dvd hN hd
  refine ⟨?_, by omega⟩
  have e := Rat.num_divInt_den x
  have a1 : 0 ≤ x.num := Rat.num_nonneg.mpr h0
  have a2 : x.num ≤ x.den := by
    have := (Rat.le_iff x 1).mp h1
    simpa using this
  omega
theorem Dn.mono {N M : Nat} {l : List (Rat × Rat)} (h : Dn N l) (hd : N ∣ M) : Dn M l := fun p hp => ⟨Nat.dvd_trans (h p hp).1 hd, Nat.dvd_trans (h p hp).2 hd⟩
theorem CanF.take {x : Rat} {l : List (Rat × Rat)} (h : CanF x l) (k : Nat) : CanF x (l.take k) := ⟨fun p hp => h.1 p (List.mem_of_mem_take hp), h.2.sublist (List.take_sublist k l)⟩
end NX
set_option Elab.async false
set_option linter.all false
set_option maxRecDepth 100000
set_option maxHeartbeats 4000000
set_option exponentiation.threshold 20000
namespace NX
open PySem PySem.Spec PyProof.Rows L2 OC
theorem ixn_p0 {p : Rat × Rat} {T : TS} {Q : QD} : ixnD 0 (encP p) T Q = Q (encQ p.1) T := by first | exact propext Iff.rfl
theorem ixn_p1 {p : Rat × Rat} {T : TS} {Q : QD} : ixnD 1 (encP p) T Q = Q (encQ p.2) T := by first | exact propext Iff.rfl
theorem isRat_enc {d : D} (h : isRatD d = true) : ∃ q : Rat, d = encQ q := by
  unfold isRatD at h
  split at h
  · rename_i a b
    simp only [Bool.and_eq_true, decide_eq_true_eq] at h
    have e := low_pair (p := (a, b)) ⟨h.1, h.2⟩
    refine ⟨Rat.divInt a b, ?_⟩
    rw [encQ_R2, ← e]
    rfl
  · cases h
/-- its ends can be compared -/
def SpB (d : D) : Prop := ∀ x y, d = .tup [x, y] → ∀ q, (x = encQ q ∨ y = encQ q) → Bq 4000 q
def SpanD (d : D) : Prop := ∃ p : Rat × Rat, d = encP p ∧ 0 ≤ p.1 ∧ p.1 < p.2 ∧ p.2 ≤ 1
def isspanC : Ct := rle 1 (fun d : D => [d]) (fun d => d.pure = true ∧ SpB d) D.bl fun d b => b = true ↔ SpanD d
theorem isspan_c {T : TS} {Q : QD} {X : XD} {d : D} : isspanC.c [d] T Q X = ((d.pure = true ∧ SpB d) ∧ ∀ b : Bool, (b = true ↔ SpanD d) → Q (.bl b) T) := rle_c (x := d) fun x y h => by
  simp only [List.cons.injEq, and_true] at h
  exact h
theorem pure_two {x y : D} (h : (D.tup [x, y]).pure = true) : x.pure = true ∧ y.pure = true := by
  have h : (x.pure && (y.pure && true)) = true := h
  simp only [Bool.and_eq_true, and_true] at h
  exact h
theorem num_nn {q : Rat} : (0 ≤ q.num) ↔ 0 ≤ q := Rat.num_nonneg
def b_isspan (ν : Nat → Str) (r l : Nat) : List S := [.ite (.orv (.notv (.op (isiS .tuple) [.var 0])) (.orv (.op (cmpS .ne) [.op (biS .len) [.var 0], .op (kS (.int 2)) []]) (.notv (.op (biS .all) [.lc false (.op (callS r) [.var 3]) (.name 3) tupI [.var 0] [] [(ν 3, 3)]])))) [.st retS [.op (kS (.bl false)) []]] [], .st (unpS (.tup [.name 1, .name 2])) [.var 0], .st retS [.andv (.op (cmpS .ge) [.op (ixnS 0) [.var 1], .op (kS (.int 0)) []]) (.andv (.op (callS l) [.var 1, .var 2]) (.notv (.op (callS l) [.op (kS (.tup [(.int 1), (.int 1)])) [], .var 2])))]]
theorem isspan_ok {F : List Ct} {ν : Nat → Str} {r l : Nat} (hr : F[r]? = some isratC) (hl : F[l]? = some islessC) : ∀ ds T Q X, (isspanC).c ds T Q X → wpBody F 4 (b_isspan ν r l) ds T Q X := by
  rintro _ T Q X ⟨d, rfl, ⟨hp, hb⟩, hq⟩
  have no : ¬ SpanD d → ∃ T2, T2.Sub T ∧ Q (.bl false) T2 := fun h => ret_here (hq false ⟨(fun e => nomatch e), fun e => absurd e h⟩)
  have yes : SpanD d → Q (.bl true) T := fun h => hq true ⟨fun _ => h, fun _ => rfl⟩
  unfold b_isspan
  simp only [wpBody, start0, List.map_cons, List.map_nil, List.length, List.replicate, List.cons_append, List.nil_append, Nat.reduceAdd, Nat.reduceSub]
  try dsimp only
  by_cases ht : ∃ x y, d = .tup [x, y]
  · obtain ⟨x, y, rfl⟩ := ht
    obtain ⟨px, py⟩ := pure_two hp
    try dsimp only
    rw [sq_ite]
    simp only [ex_var, ex_k, ex_bin, ex_cat, ex_neg, ex_cmp, ex_tup, ex_lst, ex_mkbag, ex_ix, ex_ixn, ex_slL, ex_slH, ex_slK, slL_g, ex_call, ex_bi, ex_isD, isi_i, isi_b, isi_s, isi_n, ex_app, ex_ext, ex_pop, ex_rev, ex_pop0, ex_chain, ex_and, ex_or, ex_not, ex_ite, ex_lc, ex_lsOf, ex_tuOf, ex_in, ex_srtI, ex_mnL, ex_mxL, ex_mnD, ex_fld, ex_meth, ex_mk, ex_dic, ex_dget, ex_din, ex_dpop, ex_tab, ex_sit, insD_ob, dicD_i, slT_g, es_nil, es_cons, OC.getV, List.set, bop, augop, ixn_t, ixn_l, ixn_o, ixn_q0, ixn_q1, pkI2, pkI3, pkI4, pkI5, pkI6, pkQ2, pkQ3, pkQ4, pkQ5, pkU2, pkU3, pkU4, pkU5, pkL2, pkL3, pkL4, pkL5, bi_len_l, bi_len_t, bi_len_s, bi_len_x, bi_len_o, bi_abs, bi_max2, bi_min2, bi_max3, bi_sum_l, bi_sum_o, bi_all_l, bi_all_o, bi_any_l, bi_any_o, bi_repr, bi_divmod, bi_int_i, bi_int_b, dtru, bn_name, bn_tup, bns_nil, bns_cons, if_true, if_false, Bool.false_eq_true, List.getElem?_cons_zero, List.getElem?_cons_succ, List.length_cons, List.length_nil, cm_eqI, cm_neI, cm_eqS, cm_neS, cm_ltI, cm_leI, cm_gtI, cm_geI, co_eqI, co_neI, co_ltI, co_leI, co_gtI, co_geI, cm_eqB, cm_neB, cm_eqQ, cm_neQ, mkL_t, mkL_f, viewL_l, viewS_l, viewS_t, someE, ik_l, ik_t, ik_r1, ik_r2, ik_rev, ik_enum, ik_zip, bagP_c, true_and, and_true, Bool.not_true, Bool.not_false, if_nil, if_cons, OC.wipeV, List.map_cons, List.map_nil, List.length_map, hr, hl, israt_c, isless_c]
    rw [isi_p hp, show isTy Ty.tuple (D.tup [x, y]) = true from rfl]
    try simp only [ex_var, ex_k, ex_bin, ex_cat, ex_neg, ex_cmp, ex_tup, ex_lst, ex_mkbag, ex_ix, ex_ixn, ex_slL, ex_slH, ex_slK, slL_g, ex_call, ex_bi, ex_isD, isi_i, isi_b, isi_s, isi_n, ex_app, ex_ext, ex_pop, ex_rev, ex_pop0, ex_chain, ex_and, ex_or, ex_not, ex_ite, ex_lc, ex_lsOf, ex_tuOf, ex_in, ex_srtI, ex_mnL, ex_mxL, ex_mnD, ex_fld, ex_meth, ex_mk, ex_dic, ex_dget, ex_din, ex_dpop, ex_tab, ex_sit, insD_ob, dicD_i, slT_g, es_nil, es_cons, OC.getV, List.set, bop, augop, ixn_t, ixn_l, ixn_o, ixn_q0, ixn_q1, pkI2, pkI3, pkI4, pkI5, pkI6, pkQ2, pkQ3, pkQ4, pkQ5, pkU2, pkU3, pkU4, pkU5, pkL2, pkL3, pkL4, pkL5, bi_len_l, bi_len_t, bi_len_s, bi_len_x, bi_len_o, bi_abs, bi_max2, bi_min2, bi_max3, bi_sum_l, bi_sum_o, bi_all_l, bi_all_o, bi_any_l, bi_any_o, bi_repr, bi_divmod, bi_int_i, bi_int_b, dtru, bn_name, bn_tup, bns_nil, bns_cons, if_true, if_false, Bool.false_eq_true, List.getElem?_cons_zero, List.getElem?_cons_succ, List.length_cons, List.length_nil, cm_eqI, cm_neI, cm_eqS, cm_neS, cm_ltI, cm_leI, cm_gtI, cm_geI, co_eqI, co_neI, co_ltI, co_leI, co_gtI, co_geI, cm_eqB, cm_neB, cm_eqQ, cm_neQ, mkL_t, mkL_f, viewL_l, viewS_l, viewS_t, someE, ik_l, ik_t, ik_r1, ik_r2, ik_rev, ik_enum, ik_zip, bagP_c, true_and, and_true, Bool.not_true, Bool.not_false, if_nil, if_cons, OC.wipeV, List.map_cons, List.map_nil, List.length_map, hr, hl, israt_c, isless_c]
    simp only [show decide ((((0 : Nat) + 1 + 1 : Nat) : Int) = 2) = true from rfl, Bool.not_true, Bool.false_eq_true, if_false]
    refine ⟨by decide, map_all (fun e => .bl (isRatD e)) [x, y] (fun e he kk hk => ?_) ?_⟩
    · refine ⟨?_, hk⟩
      simp only [List.mem_cons, List.not_mem_nil, or_false] at he
      rcases he with rfl | rfl
      · exact px
      · exact py
    rw [show ([x, y].map fun e => D.bl (isRatD e)) = [.bl (isRatD x), .bl (isRatD y)] from rfl]
    rw [show blsOf [D.bl (isRatD x), D.bl (isRatD y)] = some [isRatD x, isRatD y] from rfl]
    try simp only [ex_var, ex_k, ex_bin, ex_cat, ex_neg, ex_cmp, ex_tup, ex_lst, ex_mkbag, ex_ix, ex_ixn, ex_slL, ex_slH, ex_slK, slL_g, ex_call, ex_bi, ex_isD, isi_i, isi_b, isi_s, isi_n, ex_app, ex_ext, ex_pop, ex_rev, ex_pop0, ex_chain, ex_and, ex_or, ex_not, ex_ite, ex_lc, ex_lsOf, ex_tuOf, ex_in, ex_srtI, ex_mnL, ex_mxL, ex_mnD, ex_fld, ex_meth, ex_mk, ex_dic, ex_dget, ex_din, ex_dpop, ex_tab, ex_sit, insD_ob, dicD_i, slT_g, es_nil, es_cons, OC.getV, List.set, bop, augop, ixn_t, ixn_l, ixn_o, ixn_q0, ixn_q1, pkI2, pkI3, pkI4, pkI5, pkI6, pkQ2, pkQ3, pkQ4, pkQ5, pkU2, pkU3, pkU4, pkU5, pkL2, pkL3, pkL4, pkL5, bi_len_l, bi_len_t, bi_len_s, bi_len_x, bi_len_o, bi_abs, bi_max2, bi_min2, bi_max3, bi_sum_l, bi_sum_o, bi_all_l, bi_all_o, bi_any_l, bi_any_o, bi_repr, bi_divmod, bi_int_i, bi_int_b, dtru, bn_name, bn_tup, bns_nil, bns_cons, if_true, if_false, Bool.false_eq_true, List.getElem?_cons_zero, List.getElem?_cons_succ, List.length_cons, List.length_nil, cm_eqI, cm_neI, cm_eqS, cm_neS, cm_ltI, cm_leI, cm_gtI, cm_geI, co_eqI, co_neI, co_ltI, co_leI, co_gtI, co_geI, cm_eqB, cm_neB, cm_eqQ, cm_neQ, mkL_t, mkL_f, viewL_l, viewS_l, viewS_t, someE, ik_l, ik_t, ik_r1, ik_r2, ik_rev, ik_enum, ik_zip, bagP_c, true_and, and_true, Bool.not_true, Bool.not_false, if_nil, if_cons, OC.wipeV, List.map_cons, List.map_nil, List.length_map, hr, hl, israt_c, isless_c]
    by_cases rx : isRatD x = true
    · by_cases ry : isRatD y = true
      · obtain ⟨a, rfl⟩ := isRat_enc rx
        obtain ⟨b, rfl⟩ := isRat_enc ry
        have ba := hb _ _ rfl a (.inl rfl)
        have bb := hb _ _ rfl b (.inr rfl)
        have sp : SpanD (.tup [encQ a, encQ b]) ↔ 0 ≤ a ∧ a < b ∧ b ≤ 1 := by
          constructor
          · rintro ⟨p, e, h⟩
            have e := encP_inj (x := (a, b)) e
            subst e
            exact h
          · exact fun h => ⟨(a, b), rfl, h⟩
        rw [rx, ry]
        simp only [List.all_cons, List.all_nil, id, Bool.and_true, Bool.not_true, Bool.false_eq_true, if_false]
        try dsimp only
        rw [sq_nil]
        simp only [ex_var, ex_k, ex_bin, ex_cat, ex_neg, ex_cmp, ex_tup, ex_lst, ex_mkbag, ex_ix, ex_ixn, ex_slL, ex_slH, ex_slK, slL_g, ex_call, ex_bi, ex_isD, isi_i, isi_b, isi_s, isi_n, ex_app, ex_ext, ex_pop, ex_rev, ex_pop0, ex_chain, ex_and, ex_or, ex_not, ex_ite, ex_lc, ex_lsOf, ex_tuOf, ex_in, ex_srtI, ex_mnL, ex_mxL, ex_mnD, ex_fld, ex_meth, ex_mk, ex_dic, ex_dget, ex_din, ex_dpop, ex_tab, ex_sit, insD_ob, dicD_i, slT_g, es_nil, es_cons, OC.getV, List.set, bop, augop, ixn_t, ixn_l, ixn_o, ixn_q0, ixn_q1, pkI2, pkI3, pkI4, pkI5, pkI6, pkQ2, pkQ3, pkQ4, pkQ5, pkU2, pkU3, pkU4, pkU5, pkL2, pkL3, pkL4, pkL5, bi_len_l, bi_len_t, bi_len_s, bi_len_x, bi_len_o, bi_abs, bi_max2, bi_min2, bi_max3, bi_sum_l, bi_sum_o, bi_all_l, bi_all_o, bi_any_l, bi_any_o, bi_repr, bi_divmod, bi_int_i, bi_int_b, dtru, bn_name, bn_tup, bns_nil, bns_cons, if_true, if_false, Bool.false_eq_true, List.getElem?_cons_zero, List.getElem?_cons_succ, List.length_cons, List.length_nil, cm_eqI, cm_neI, cm_eqS, cm_neS, cm_ltI, cm_leI, cm_gtI, cm_geI, co_eqI, co_neI, co_ltI, co_leI, co_gtI, co_geI, cm_eqB, cm_neB, cm_eqQ, cm_neQ, mkL_t, mkL_f, viewL_l, viewS_l, viewS_t, someE, ik_l, ik_t, ik_r1, ik_r2, ik_rev, ik_enum, ik_zip, bagP_c, true_and, and_true, Bool.not_true, Bool.not_false, if_nil, if_cons, OC.wipeV, List.map_cons, List.map_nil, List.length_map, hr, hl, israt_c, isless_c]
        simp only [ex_var, ex_k, ex_bin, ex_cat, ex_neg, ex_cmp, ex_tup, ex_lst, ex_mkbag, ex_ix, ex_ixn, ex_slL, ex_slH, ex_slK, slL_g, ex_call, ex_bi, ex_isD, isi_i, isi_b, isi_s, isi_n, ex_app, ex_ext, ex_pop, ex_rev, ex_pop0, ex_chain, ex_and, ex_or, ex_not, ex_ite, ex_lc, ex_lsOf, ex_tuOf, ex_in, ex_srtI, ex_mnL, ex_mxL, ex_mnD, ex_fld, ex_meth, ex_mk, ex_dic, ex_dget, ex_din, ex_dpop, ex_tab, ex_sit, insD_ob, dicD_i, slT_g, es_nil, es_cons, OC.getV, List.set, bop, augop, ixn_t, ixn_l, ixn_o, ixn_q0, ixn_q1, pkI2, pkI3, pkI4, pkI5, pkI6, pkQ2, pkQ3, pkQ4, pkQ5, pkU2, pkU3, pkU4, pkU5, pkL2, pkL3, pkL4, pkL5, bi_len_l, bi_len_t, bi_len_s, bi_len_x, bi_len_o, bi_abs, bi_max2, bi_min2, bi_max3, bi_sum_l, bi_sum_o, bi_all_l, bi_all_o, bi_any_l, bi_any_o, bi_repr, bi_divmod, bi_int_i, bi_int_b, dtru, bn_name, bn_tup, bns_nil, bns_cons, if_true, if_false, Bool.false_eq_true, List.getElem?_cons_zero, List.getElem?_cons_succ, List.length_cons, List.length_nil, cm_eqI, cm_neI, cm_eqS, cm_neS, cm_ltI, cm_leI, cm_gtI, cm_geI, co_eqI, co_neI, co_ltI, co_leI, co_gtI, co_geI, cm_eqB, cm_neB, cm_eqQ, cm_neQ, mkL_t, mkL_f, viewL_l, viewS_l, viewS_t, someE, ik_l, ik_t, ik_r1, ik_r2, ik_rev, ik_enum, ik_zip, bagP_c, true_and, and_true, Bool.not_true, Bool.not_false, if_nil, if_cons, OC.wipeV, List.map_cons, List.map_nil, List.length_map, hr, hl, israt_c, isless_c, sq_asg, sq_par, sq_par3, sq_ret, sq_retN, sq_drop, sq_unp, sq_unpL, sq_pass, sq_nil, q11]
        by_cases c1 : 0 ≤ a.num
        · simp only [c1, decide_true, if_true]
          refine ⟨⟨ba, bb⟩, ?_⟩
          by_cases c2 : a < b
          · simp only [c2, decide_true, if_true]
            refine ⟨⟨bq1 (by decide), bb⟩, ?_⟩
            by_cases c3 : 1 < b
            · rw [decide_eq_true c3]
              exact no fun h => by have := sp.mp h; grind
            · rw [decide_eq_false c3]
              exact ret_here (yes (sp.mpr ⟨num_nn.mp c1, c2, by grind⟩))
          · simp only [c2, decide_false, Bool.false_eq_true, if_false]
            exact no fun h => c2 (sp.mp h).2.1
        · simp only [c1, decide_false, Bool.false_eq_true, if_false]
          exact no fun h => c1 (num_nn.mpr (sp.mp h).1)
      · have ry' : isRatD y = false := by cases h : isRatD y; rfl; exact absurd h ry
        rw [rx, ry']
        simp only [List.all_cons, List.all_nil, id, Bool.and_true, Bool.and_false, Bool.not_false, if_true]
        simp only [ex_var, ex_k, ex_bin, ex_cat, ex_neg, ex_cmp, ex_tup, ex_lst, ex_mkbag, ex_ix, ex_ixn, ex_slL, ex_slH, ex_slK, slL_g, ex_call, ex_bi, ex_isD, isi_i, isi_b, isi_s, isi_n, ex_app, ex_ext, ex_pop, ex_rev, ex_pop0, ex_chain, ex_and, ex_or, ex_not, ex_ite, ex_lc, ex_lsOf, ex_tuOf, ex_in, ex_srtI, ex_mnL, ex_mxL, ex_mnD, ex_fld, ex_meth, ex_mk, ex_dic, ex_dget, ex_din, ex_dpop, ex_tab, ex_sit, insD_ob, dicD_i, slT_g, es_nil, es_cons, OC.getV, List.set, bop, augop, ixn_t, ixn_l, ixn_o, ixn_q0, ixn_q1, pkI2, pkI3, pkI4, pkI5, pkI6, pkQ2, pkQ3, pkQ4, pkQ5, pkU2, pkU3, pkU4, pkU5, pkL2, pkL3, pkL4, pkL5, bi_len_l, bi_len_t, bi_len_s, bi_len_x, bi_len_o, bi_abs, bi_max2, bi_min2, bi_max3, bi_sum_l, bi_sum_o, bi_all_l, bi_all_o, bi_any_l, bi_any_o, bi_repr, bi_divmod, bi_int_i, bi_int_b, dtru, bn_name, bn_tup, bns_nil, bns_cons, if_true, if_false, Bool.false_eq_true, List.getElem?_cons_zero, List.getElem?_cons_succ, List.length_cons, List.length_nil, cm_eqI, cm_neI, cm_eqS, cm_neS, cm_ltI, cm_leI, cm_gtI, cm_geI, co_eqI, co_neI, co_ltI, co_leI, co_gtI, co_geI, cm_eqB, cm_neB, cm_eqQ, cm_neQ, mkL_t, mkL_f, viewL_l, viewS_l, viewS_t, someE, ik_l, ik_t, ik_r1, ik_r2, ik_rev, ik_enum, ik_zip, bagP_c, true_and, and_true, Bool.not_true, Bool.not_false, if_nil, if_cons, OC.wipeV, List.map_cons, List.map_nil, List.length_map, hr, hl, israt_c, isless_c, sq_asg, sq_par, sq_par3, sq_ret, sq_retN, sq_drop, sq_unp, sq_unpL, sq_pass, sq_nil]
        refine no ?_
        rintro ⟨p, e, _⟩
        unfold encP at e
        simp only [D.tup.injEq, List.cons.injEq, and_true] at e
        rw [e.2, isRat_q] at ry'
        cases ry'
    · have rx' : isRatD x = false := by cases h : isRatD x; rfl; exact absurd h rx
      rw [rx']
      simp only [List.all_cons, List.all_nil, id, Bool.false_and, Bool.not_false, if_true]
      simp only [ex_var, ex_k, ex_bin, ex_cat, ex_neg, ex_cmp, ex_tup, ex_lst, ex_mkbag, ex_ix, ex_ixn, ex_slL, ex_slH, ex_slK, slL_g, ex_call, ex_bi, ex_isD, isi_i, isi_b, isi_s, isi_n, ex_app, ex_ext, ex_pop, ex_rev, ex_pop0, ex_chain, ex_and, ex_or, ex_not, ex_ite, ex_lc, ex_lsOf, ex_tuOf, ex_in, ex_srtI, ex_mnL, ex_mxL, ex_mnD, ex_fld, ex_meth, ex_mk, ex_dic, ex_dget, ex_din, ex_dpop, ex_tab, ex_sit, insD_ob, dicD_i, slT_g, es_nil, es_cons, OC.getV, List.set, bop, augop, ixn_t, ixn_l, ixn_o, ixn_q0, ixn_q1, pkI2, pkI3, pkI4, pkI5, pkI6, pkQ2, pkQ3, pkQ4, pkQ5, pkU2, pkU3, pkU4, pkU5, pkL2, pkL3, pkL4, pkL5, bi_len_l, bi_len_t, bi_len_s, bi_len_x, bi_len_o, bi_abs, bi_max2, bi_min2, bi_max3, bi_sum_l, bi_sum_o, bi_all_l, bi_all_o, bi_any_l, bi_any_o, bi_repr, bi_divmod, bi_int_i, bi_int_b, dtru, bn_name, bn_tup, bns_nil, bns_cons, if_true, if_false, Bool.false_eq_true, List.getElem?_cons_zero, List.getElem?_cons_succ, List.length_cons, List.length_nil, cm_eqI, cm_neI, cm_eqS, cm_neS, cm_ltI, cm_leI, cm_gtI, cm_geI, co_eqI, co_neI, co_ltI, co_leI, co_gtI, co_geI, cm_eqB, cm_neB, cm_eqQ, cm_neQ, mkL_t, mkL_f, viewL_l, viewS_l, viewS_t, someE, ik_l, ik_t, ik_r1, ik_r2, ik_rev, ik_enum, ik_zip, bagP_c, true_and, and_true, Bool.not_true, Bool.not_false, if_nil, if_cons, OC.wipeV, List.map_cons, List.map_nil, List.length_map, hr, hl, israt_c, isless_c, sq_asg, sq_par, sq_par3, sq_ret, sq_retN, sq_drop, sq_unp, sq_unpL, sq_pass, sq_nil]
      refine no ?_
      rintro ⟨p, e, _⟩
      unfold encP at e
      simp only [D.tup.injEq, List.cons.injEq, and_true] at e
      rw [e.1, isRat_q] at rx'
      cases rx'
  · have nos : ¬ SpanD d := fun ⟨p, e, _⟩ => ht ⟨_, _, e⟩
    try dsimp only
    rw [sq_ite]
    simp only [ex_var, ex_k, ex_bin, ex_cat, ex_neg, ex_cmp, ex_tup, ex_lst, ex_mkbag, ex_ix, ex_ixn, ex_slL, ex_slH, ex_slK, slL_g, ex_call, ex_bi, ex_isD, isi_i, isi_b, isi_s, isi_n, ex_app, ex_ext, ex_pop, ex_rev, ex_pop0, ex_chain, ex_and, ex_or, ex_not, ex_ite, ex_lc, ex_lsOf, ex_tuOf, ex_in, ex_srtI, ex_mnL, ex_mxL, ex_mnD, ex_fld, ex_meth, ex_mk, ex_dic, ex_dget, ex_din, ex_dpop, ex_tab, ex_sit, insD_ob, dicD_i, slT_g, es_nil, es_cons, OC.getV, List.set, bop, augop, ixn_t, ixn_l, ixn_o, ixn_q0, ixn_q1, pkI2, pkI3, pkI4, pkI5, pkI6, pkQ2, pkQ3, pkQ4, pkQ5, pkU2, pkU3, pkU4, pkU5, pkL2, pkL3, pkL4, pkL5, bi_len_l, bi_len_t, bi_len_s, bi_len_x, bi_len_o, bi_abs, bi_max2, bi_min2, bi_max3, bi_sum_l, bi_sum_o, bi_all_l, bi_all_o, bi_any_l, bi_any_o, bi_repr, bi_divmod, bi_int_i, bi_int_b, dtru, bn_name, bn_tup, bns_nil, bns_cons, if_true, if_false, Bool.false_eq_true, List.getElem?_cons_zero, List.getElem?_cons_succ, List.length_cons, List.length_nil, cm_eqI, cm_neI, cm_eqS, cm_neS, cm_ltI, cm_leI, cm_gtI, cm_geI, co_eqI, co_neI, co_ltI, co_leI, co_gtI, co_geI, cm_eqB, cm_neB, cm_eqQ, cm_neQ, mkL_t, mkL_f, viewL_l, viewS_l, viewS_t, someE, ik_l, ik_t, ik_r1, ik_r2, ik_rev, ik_enum, ik_zip, bagP_c, true_and, and_true, Bool.not_true, Bool.not_false, if_nil, if_cons, OC.wipeV, List.map_cons, List.map_nil, List.length_map, hr, hl, israt_c, isless_c]
    rw [isi_p hp]
    cases d with
    | tup xs =>
      rw [show isTy Ty.tuple (D.tup xs) = true from rfl]
      try simp only [ex_var, ex_k, ex_bin, ex_cat, ex_neg, ex_cmp, ex_tup, ex_lst, ex_mkbag, ex_ix, ex_ixn, ex_slL, ex_slH, ex_slK, slL_g, ex_call, ex_bi, ex_isD, isi_i, isi_b, isi_s, isi_n, ex_app, ex_ext, ex_pop, ex_rev, ex_pop0, ex_chain, ex_and, ex_or, ex_not, ex_ite, ex_lc, ex_lsOf, ex_tuOf, ex_in, ex_srtI, ex_mnL, ex_mxL, ex_mnD, ex_fld, ex_meth, ex_mk, ex_dic, ex_dget, ex_din, ex_dpop, ex_tab, ex_sit, insD_ob, dicD_i, slT_g, es_nil, es_cons, OC.getV, List.set, bop, augop, ixn_t, ixn_l, ixn_o, ixn_q0, ixn_q1, pkI2, pkI3, pkI4, pkI5, pkI6, pkQ2, pkQ3, pkQ4, pkQ5, pkU2, pkU3, pkU4, pkU5, pkL2, pkL3, pkL4, pkL5, bi_len_l, bi_len_t, bi_len_s, bi_len_x, bi_len_o, bi_abs, bi_max2, bi_min2, bi_max3, bi_sum_l, bi_sum_o, bi_all_l, bi_all_o, bi_any_l, bi_any_o, bi_repr, bi_divmod, bi_int_i, bi_int_b, dtru, bn_name, bn_tup, bns_nil, bns_cons, if_true, if_false, Bool.false_eq_true, List.getElem?_cons_zero, List.getElem?_cons_succ, List.length_cons, List.length_nil, cm_eqI, cm_neI, cm_eqS, cm_neS, cm_ltI, cm_leI, cm_gtI, cm_geI, co_eqI, co_neI, co_ltI, co_leI, co_gtI, co_geI, cm_eqB, cm_neB, cm_eqQ, cm_neQ, mkL_t, mkL_f, viewL_l, viewS_l, viewS_t, someE, ik_l, ik_t, ik_r1, ik_r2, ik_rev, ik_enum, ik_zip, bagP_c, true_and, and_true, Bool.not_true, Bool.not_false, if_nil, if_cons, OC.wipeV, List.map_cons, List.map_nil, List.length_map, hr, hl, israt_c, isless_c]
      have hl : ¬ ((xs.length : Nat) : Int) = 2 := fun e => by
        have e : xs.length = 2 := by omega
        match xs, e with
        | [x, y], _ => exact ht ⟨x, y, rfl⟩
      rw [decide_eq_false hl]
      try simp only [ex_var, ex_k, ex_bin, ex_cat, ex_neg, ex_cmp, ex_tup, ex_lst, ex_mkbag, ex_ix, ex_ixn, ex_slL, ex_slH, ex_slK, slL_g, ex_call, ex_bi, ex_isD, isi_i, isi_b, isi_s, isi_n, ex_app, ex_ext, ex_pop, ex_rev, ex_pop0, ex_chain, ex_and, ex_or, ex_not, ex_ite, ex_lc, ex_lsOf, ex_tuOf, ex_in, ex_srtI, ex_mnL, ex_mxL, ex_mnD, ex_fld, ex_meth, ex_mk, ex_dic, ex_dget, ex_din, ex_dpop, ex_tab, ex_sit, insD_ob, dicD_i, slT_g, es_nil, es_cons, OC.getV, List.set, bop, augop, ixn_t, ixn_l, ixn_o, ixn_q0, ixn_q1, pkI2, pkI3, pkI4, pkI5, pkI6, pkQ2, pkQ3, pkQ4, pkQ5, pkU2, pkU3, pkU4, pkU5, pkL2, pkL3, pkL4, pkL5, bi_len_l, bi_len_t, bi_len_s, bi_len_x, bi_len_o, bi_abs, bi_max2, bi_min2, bi_max3, bi_sum_l, bi_sum_o, bi_all_l, bi_all_o, bi_any_l, bi_any_o, bi_repr, bi_divmod, bi_int_i, bi_int_b, dtru, bn_name, bn_tup, bns_nil, bns_cons, if_true, if_false, Bool.false_eq_true, List.getElem?_cons_zero, List.getElem?_cons_succ, List.length_cons, List.length_nil, cm_eqI, cm_neI, cm_eqS, cm_neS, cm_ltI, cm_leI, cm_gtI, cm_geI, co_eqI, co_neI, co_ltI, co_leI, co_gtI, co_geI, cm_eqB, cm_neB, cm_eqQ, cm_neQ, mkL_t, mkL_f, viewL_l, viewS_l, viewS_t, someE, ik_l, ik_t, ik_r1, ik_r2, ik_rev, ik_enum, ik_zip, bagP_c, true_and, and_true, Bool.not_true, Bool.not_false, if_nil, if_cons, OC.wipeV, List.map_cons, List.map_nil, List.length_map, hr, hl, israt_c, isless_c]
      simp only [ex_var, ex_k, ex_bin, ex_cat, ex_neg, ex_cmp, ex_tup, ex_lst, ex_mkbag, ex_ix, ex_ixn, ex_slL, ex_slH, ex_slK, slL_g, ex_call, ex_bi, ex_isD, isi_i, isi_b, isi_s, isi_n, ex_app, ex_ext, ex_pop, ex_rev, ex_pop0, ex_chain, ex_and, ex_or, ex_not, ex_ite, ex_lc, ex_lsOf, ex_tuOf, ex_in, ex_srtI, ex_mnL, ex_mxL, ex_mnD, ex_fld, ex_meth, ex_mk, ex_dic, ex_dget, ex_din, ex_dpop, ex_tab, ex_sit, insD_ob, dicD_i, slT_g, es_nil, es_cons, OC.getV, List.set, bop, augop, ixn_t, ixn_l, ixn_o, ixn_q0, ixn_q1, pkI2, pkI3, pkI4, pkI5, pkI6, pkQ2, pkQ3, pkQ4, pkQ5, pkU2, pkU3, pkU4, pkU5, pkL2, pkL3, pkL4, pkL5, bi_len_l, bi_len_t, bi_len_s, bi_len_x, bi_len_o, bi_abs, bi_max2, bi_min2, bi_max3, bi_sum_l, bi_sum_o, bi_all_l, bi_all_o, bi_any_l, bi_any_o, bi_repr, bi_divmod, bi_int_i, bi_int_b, dtru, bn_name, bn_tup, bns_nil, bns_cons, if_true, if_false, Bool.false_eq_true, List.getElem?_cons_zero, List.getElem?_cons_succ, List.length_cons, List.length_nil, cm_eqI, cm_neI, cm_eqS, cm_neS, cm_ltI, cm_leI, cm_gtI, cm_geI, co_eqI, co_neI, co_ltI, co_leI, co_gtI, co_geI, cm_eqB, cm_neB, cm_eqQ, cm_neQ, mkL_t, mkL_f, viewL_l, viewS_l, viewS_t, someE, ik_l, ik_t, ik_r1, ik_r2, ik_rev, ik_enum, ik_zip, bagP_c, true_and, and_true, Bool.not_true, Bool.not_false, if_nil, if_cons, OC.wipeV, List.map_cons, List.map_nil, List.length_map, hr, hl, israt_c, isless_c, sq_asg, sq_par, sq_par3, sq_ret, sq_retN, sq_drop, sq_unp, sq_unpL, sq_pass, sq_nil]
      exact no nos
    | _ =>
      simp only [isTy, Bool.not_false, if_true]
      simp only [ex_var, ex_k, ex_bin, ex_cat, ex_neg, ex_cmp, ex_tup, ex_lst, ex_mkbag, ex_ix, ex_ixn, ex_slL, ex_slH, ex_slK, slL_g, ex_call, ex_bi, ex_isD, isi_i, isi_b, isi_s, isi_n, ex_app, ex_ext, ex_pop, ex_rev, ex_pop0, ex_chain, ex_and, ex_or, ex_not, ex_ite, ex_lc, ex_lsOf, ex_tuOf, ex_in, ex_srtI, ex_mnL, ex_mxL, ex_mnD, ex_fld, ex_meth, ex_mk, ex_dic, ex_dget, ex_din, ex_dpop, ex_tab, ex_sit, insD_ob, dicD_i, slT_g, es_nil, es_cons, OC.getV, List.set, bop, augop, ixn_t, ixn_l, ixn_o, ixn_q0, ixn_q1, pkI2, pkI3, pkI4, pkI5, pkI6, pkQ2, pkQ3, pkQ4, pkQ5, pkU2, pkU3, pkU4, pkU5, pkL2, pkL3, pkL4, pkL5, bi_len_l, bi_len_t, bi_len_s, bi_len_x, bi_len_o, bi_abs, bi_max2, bi_min2, bi_max3, bi_sum_l, bi_sum_o, bi_all_l, bi_all_o, bi_any_l, bi_any_o, bi_repr, bi_divmod, bi_int_i, bi_int_b, dtru, bn_name, bn_tup, bns_nil, bns_cons, if_true, if_false, Bool.false_eq_true, List.getElem?_cons_zero, List.getElem?_cons_succ, List.length_cons, List.length_nil, cm_eqI, cm_neI, cm_eqS, cm_neS, cm_ltI, cm_leI, cm_gtI, cm_geI, co_eqI, co_neI, co_ltI, co_leI, co_gtI, co_geI, cm_eqB, cm_neB, cm_eqQ, cm_neQ, mkL_t, mkL_f, viewL_l, viewS_l, viewS_t, someE, ik_l, ik_t, ik_r1, ik_r2, ik_rev, ik_enum, ik_zip, bagP_c, true_and, and_true, Bool.not_true, Bool.not_false, if_nil, if_cons, OC.wipeV, List.map_cons, List.map_nil, List.length_map, hr, hl, israt_c, isless_c, sq_asg, sq_par, sq_par3, sq_ret, sq_retN, sq_drop, sq_unp, sq_unpL, sq_pass, sq_nil]
      exact no nos
end NX
set_option Elab.async false
set_option linter.all false
set_option maxRecDepth 100000
set_option maxHeartbeats 4000000
set_option exponentiation.threshold 20000
namespace NX
open PySem PySem.Spec PyProof.Rows L2 OC
/-- things made one by one -/
theorem map_rel {β : Type} {f : D → TS → (Option D → TS → Prop) → Prop} {Q : List D → TS → Prop} {T : TS} (enc : β → D) (R : D → β → Prop) : ∀ (xs : List D) (acc : List D), (∀ x ∈ xs, ∀ kk : Option D → TS → Prop, (∀ y, R x y → kk (some (enc y)) T) → f x T kk) → (∀ ys : List β, All2 R xs ys → Q (acc ++ ys.map enc) T) → wpMap f xs acc T Q
  | [], acc, _, q => by
    have := q [] .nil
    simpa [wpMap] using this
  | x :: xs, acc, h, q => by
    rw [wpMap]
    refine h x List.mem_cons_self _ fun y hy => ?_
    exact map_rel enc R xs (acc ++ [enc y]) (fun z hz => h z (List.mem_cons_of_mem _ hz)) fun ys hys => by
      have := q (y :: ys) (.cons hy hys)
      simpa using this
theorem all_rel {P : D → Prop} : ∀ {xs : List D} {bs : List Bool}, All2 (fun x b => b = true ↔ P x) xs bs → ((bs.all id = true) ↔ ∀ x ∈ xs, P x)
  | [], [], .nil => ⟨(fun _ x h => nomatch h), fun _ => rfl⟩
  | x :: xs, b :: bs, .cons h t => by
    rw [List.all_cons, Bool.and_eq_true, all_rel t, id, h]
    exact ⟨fun z y hy => by
      rcases List.mem_cons.mp hy with rfl | hy
      · exact z.1
      · exact z.2 y hy, fun z => ⟨z x List.mem_cons_self, fun y hy => z y (List.mem_cons_of_mem _ hy)⟩⟩
def CutsD (d : D) : Prop := ∃ l, d = encS l ∧ Can l
def iscutsC : Ct := rle 1 (fun d : D => [d]) (fun d => d.pure = true ∧ ∀ xs, d = .lst xs → xs.length ≤ 100000 ∧ ∀ x ∈ xs, SpB x) D.bl fun d b => b = true ↔ CutsD d
theorem iscuts_c {T : TS} {Q : QD} {X : XD} {d : D} : iscutsC.c [d] T Q X = ((d.pure = true ∧ ∀ xs, d = .lst xs → xs.length ≤ 100000 ∧ ∀ x ∈ xs, SpB x) ∧ ∀ b : Bool, (b = true ↔ CutsD d) → Q (.bl b) T) := rle_c (x := d) fun x y h => by
  simp only [List.cons.injEq, and_true] at h
  exact h
theorem spans_of : ∀ {xs : List D}, (∀ x ∈ xs, SpanD x) → ∃ l : List (Rat × Rat), xs = l.map encP ∧ ∀ p ∈ l, 0 ≤ p.1 ∧ p.1 < p.2 ∧ p.2 ≤ 1
  | [], _ => ⟨[], rfl, (fun _ h => nomatch h)⟩
  | x :: xs, h => by
    obtain ⟨l, e, hl⟩ := spans_of (xs := xs) fun y hy => h y (List.mem_cons_of_mem _ hy)
    obtain ⟨p, e2, hp⟩ := h x List.mem_cons_self
    refine ⟨p :: l, by rw [e, e2]; rfl, fun q hq => ?_⟩
    rcases List.mem_cons.mp hq with rfl | hq
    · exact hp
    · exact hl q hq
/-- neighbours in order: all in order -/
theorem chain_pair : ∀ {l : List (Rat × Rat)}, (∀ p ∈ l, p.1 < p.2) → (((l.zip l.tail).all fun z => decide (z.1.2 < z.2.1)) = true ↔ l.Pairwise fun p q => p.2 < q.1)
  | [], _ => ⟨fun _ => List.Pairwise.nil, fun _ => rfl⟩
  | [p], _ => ⟨fun _ => List.pairwise_singleton _ _, fun _ => rfl⟩
  | p :: q :: l, h => by
    have ih := chain_pair (l := q :: l) fun r hr => h r (List.mem_cons_of_mem _ hr)
    rw [List.tail_cons, List.zip_cons_cons, List.all_cons, Bool.and_eq_true, decide_eq_true_eq]
    rw [List.tail_cons] at ih
    rw [ih]
    constructor
    · rintro ⟨h1, h2⟩
      refine List.pairwise_cons.mpr ⟨fun r hr => ?_, h2⟩
      rcases List.mem_cons.mp hr with rfl | hr
      · exact h1
      · have a1 := (List.pairwise_cons.mp h2).1 r hr
        have a2 := h q (by simp)
        dsimp only at h1
        grind
    · intro h1
      have := List.pairwise_cons.mp h1
      exact ⟨this.1 q List.mem_cons_self, this.2⟩
theorem bn_2 {i j : Nat} {x y : D} {G : GV} : bindN (.tup [.name i, .name j]) (.tup [x, y]) G = some ((G.set i (some x)).set j (some y)) := by
  simp only [bn_tup, bns_cons, bn_name, bns_nil, List.length_cons, List.length_nil, if_true]
theorem pureL_mem : ∀ {xs : List D} {x : D}, pureL xs = true → x ∈ xs → x.pure = true
  | y :: ys, x, h, hx => by
    have h : (y.pure && pureL ys) = true := h
    rw [Bool.and_eq_true] at h
    rcases List.mem_cons.mp hx with rfl | hx
    · exact h.1
    · exact pureL_mem h.2 hx
def b_iscuts (ν : Nat → Str) (s l : Nat) : List S := [.ite (.orv (.notv (.op (isiS .list) [.var 0])) (.notv (.op (biS .all) [.lc false (.op (callS s) [.var 1]) (.name 1) lstI [.var 0] [] [(ν 1, 1)]]))) [.st retS [.op (kS (.bl false)) []]] [], .st retS [.op (biS .all) [.lc false (.op (callS l) [.op (ixnS 1) [.var 2], .op (ixnS 0) [.var 3]]) (.tup [.name 2, .name 3]) zipI [.var 0, .op (slLS (slL false)) [.var 0, .op (kS (.int 1)) []]] [] [(ν 2, 2), (ν 3, 3)]]]]
theorem iscuts_ok {F : List Ct} {ν : Nat → Str} {s l : Nat} (hs : F[s]? = some isspanC) (hl : F[l]? = some islessC) : ∀ ds T Q X, (iscutsC).c ds T Q X → wpBody F 4 (b_iscuts ν s l) ds T Q X := by
  rintro _ T Q X ⟨d, rfl, ⟨hp, hb⟩, hq⟩
  have no : ¬ CutsD d → ∃ T2, T2.Sub T ∧ Q (.bl false) T2 := fun h => ret_here (hq false ⟨(fun e => nomatch e), fun e => absurd e h⟩)
  unfold b_iscuts
  simp only [wpBody, start0, List.map_cons, List.map_nil, List.length, List.replicate, List.cons_append, List.nil_append, Nat.reduceAdd, Nat.reduceSub]
  try dsimp only
  try dsimp only
  rw [sq_ite]
  simp only [ex_var, ex_k, ex_bin, ex_cat, ex_neg, ex_cmp, ex_tup, ex_lst, ex_mkbag, ex_ix, ex_ixn, ex_slL, ex_slH, ex_slK, slL_g, ex_call, ex_bi, ex_isD, isi_i, isi_b, isi_s, isi_n, ex_app, ex_ext, ex_pop, ex_rev, ex_pop0, ex_chain, ex_and, ex_or, ex_not, ex_ite, ex_lc, ex_lsOf, ex_tuOf, ex_in, ex_srtI, ex_mnL, ex_mxL, ex_mnD, ex_fld, ex_meth, ex_mk, ex_dic, ex_dget, ex_din, ex_dpop, ex_tab, ex_sit, insD_ob, dicD_i, slT_g, es_nil, es_cons, OC.getV, List.set, bop, augop, ixn_t, ixn_l, ixn_o, ixn_q0, ixn_q1, pkI2, pkI3, pkI4, pkI5, pkI6, pkQ2, pkQ3, pkQ4, pkQ5, pkU2, pkU3, pkU4, pkU5, pkL2, pkL3, pkL4, pkL5, bi_len_l, bi_len_t, bi_len_s, bi_len_x, bi_len_o, bi_abs, bi_max2, bi_min2, bi_max3, bi_sum_l, bi_sum_o, bi_all_l, bi_all_o, bi_any_l, bi_any_o, bi_repr, bi_divmod, bi_int_i, bi_int_b, dtru, bn_name, bn_tup, bns_nil, bns_cons, if_true, if_false, Bool.false_eq_true, List.getElem?_cons_zero, List.getElem?_cons_succ, List.length_cons, List.length_nil, cm_eqI, cm_neI, cm_eqS, cm_neS, cm_ltI, cm_leI, cm_gtI, cm_geI, co_eqI, co_neI, co_ltI, co_leI, co_gtI, co_geI, cm_eqB, cm_neB, cm_eqQ, cm_neQ, mkL_t, mkL_f, viewL_l, viewS_l, viewS_t, someE, ik_l, ik_t, ik_r1, ik_r2, ik_rev, ik_enum, ik_zip, bagP_c, true_and, and_true, Bool.not_true, Bool.not_false, if_nil, if_cons, OC.wipeV, List.map_cons, List.map_nil, List.length_map, hs, hl, isspan_c, isless_c]
  rw [isi_p hp]
  cases d with
  | lst xs =>
    obtain ⟨hlen, hS⟩ := hb xs rfl
    rw [show isTy Ty.list (D.lst xs) = true from rfl]
    try simp only [ex_var, ex_k, ex_bin, ex_cat, ex_neg, ex_cmp, ex_tup, ex_lst, ex_mkbag, ex_ix, ex_ixn, ex_slL, ex_slH, ex_slK, slL_g, ex_call, ex_bi, ex_isD, isi_i, isi_b, isi_s, isi_n, ex_app, ex_ext, ex_pop, ex_rev, ex_pop0, ex_chain, ex_and, ex_or, ex_not, ex_ite, ex_lc, ex_lsOf, ex_tuOf, ex_in, ex_srtI, ex_mnL, ex_mxL, ex_mnD, ex_fld, ex_meth, ex_mk, ex_dic, ex_dget, ex_din, ex_dpop, ex_tab, ex_sit, insD_ob, dicD_i, slT_g, es_nil, es_cons, OC.getV, List.set, bop, augop, ixn_t, ixn_l, ixn_o, ixn_q0, ixn_q1, pkI2, pkI3, pkI4, pkI5, pkI6, pkQ2, pkQ3, pkQ4, pkQ5, pkU2, pkU3, pkU4, pkU5, pkL2, pkL3, pkL4, pkL5, bi_len_l, bi_len_t, bi_len_s, bi_len_x, bi_len_o, bi_abs, bi_max2, bi_min2, bi_max3, bi_sum_l, bi_sum_o, bi_all_l, bi_all_o, bi_any_l, bi_any_o, bi_repr, bi_divmod, bi_int_i, bi_int_b, dtru, bn_name, bn_tup, bns_nil, bns_cons, if_true, if_false, Bool.false_eq_true, List.getElem?_cons_zero, List.getElem?_cons_succ, List.length_cons, List.length_nil, cm_eqI, cm_neI, cm_eqS, cm_neS, cm_ltI, cm_leI, cm_gtI, cm_geI, co_eqI, co_neI, co_ltI, co_leI, co_gtI, co_geI, cm_eqB, cm_neB, cm_eqQ, cm_neQ, mkL_t, mkL_f, viewL_l, viewS_l, viewS_t, someE, ik_l, ik_t, ik_r1, ik_r2, ik_rev, ik_enum, ik_zip, bagP_c, true_and, and_true, Bool.not_true, Bool.not_false, if_nil, if_cons, OC.wipeV, List.map_cons, List.map_nil, List.length_map, hs, hl, isspan_c, isless_c]
    refine ⟨hlen, map_rel D.bl (fun x b => b = true ↔ SpanD x) xs [] (fun x hx kk hk => ?_) fun bs hbs => ?_⟩
    · exact ⟨⟨pureL_mem hp hx, hS x hx⟩, hk⟩
    rw [List.nil_append, show (bs.map D.bl) = bs.map fun b => D.bl (id b) from rfl, bls_map, List.map_id]
    try simp only [ex_var, ex_k, ex_bin, ex_cat, ex_neg, ex_cmp, ex_tup, ex_lst, ex_mkbag, ex_ix, ex_ixn, ex_slL, ex_slH, ex_slK, slL_g, ex_call, ex_bi, ex_isD, isi_i, isi_b, isi_s, isi_n, ex_app, ex_ext, ex_pop, ex_rev, ex_pop0, ex_chain, ex_and, ex_or, ex_not, ex_ite, ex_lc, ex_lsOf, ex_tuOf, ex_in, ex_srtI, ex_mnL, ex_mxL, ex_mnD, ex_fld, ex_meth, ex_mk, ex_dic, ex_dget, ex_din, ex_dpop, ex_tab, ex_sit, insD_ob, dicD_i, slT_g, es_nil, es_cons, OC.getV, List.set, bop, augop, ixn_t, ixn_l, ixn_o, ixn_q0, ixn_q1, pkI2, pkI3, pkI4, pkI5, pkI6, pkQ2, pkQ3, pkQ4, pkQ5, pkU2, pkU3, pkU4, pkU5, pkL2, pkL3, pkL4, pkL5, bi_len_l, bi_len_t, bi_len_s, bi_len_x, bi_len_o, bi_abs, bi_max2, bi_min2, bi_max3, bi_sum_l, bi_sum_o, bi_all_l, bi_all_o, bi_any_l, bi_any_o, bi_repr, bi_divmod, bi_int_i, bi_int_b, dtru, bn_name, bn_tup, bns_nil, bns_cons, if_true, if_false, Bool.false_eq_true, List.getElem?_cons_zero, List.getElem?_cons_succ, List.length_cons, List.length_nil, cm_eqI, cm_neI, cm_eqS, cm_neS, cm_ltI, cm_leI, cm_gtI, cm_geI, co_eqI, co_neI, co_ltI, co_leI, co_gtI, co_geI, cm_eqB, cm_neB, cm_eqQ, cm_neQ, mkL_t, mkL_f, viewL_l, viewS_l, viewS_t, someE, ik_l, ik_t, ik_r1, ik_r2, ik_rev, ik_enum, ik_zip, bagP_c, true_and, and_true, Bool.not_true, Bool.not_false, if_nil, if_cons, OC.wipeV, List.map_cons, List.map_nil, List.length_map, hs, hl, isspan_c, isless_c]
    have ha := all_rel hbs
    cases c : bs.all id with
    | false =>
      simp only [Bool.not_false, if_true]
      simp only [ex_var, ex_k, ex_bin, ex_cat, ex_neg, ex_cmp, ex_tup, ex_lst, ex_mkbag, ex_ix, ex_ixn, ex_slL, ex_slH, ex_slK, slL_g, ex_call, ex_bi, ex_isD, isi_i, isi_b, isi_s, isi_n, ex_app, ex_ext, ex_pop, ex_rev, ex_pop0, ex_chain, ex_and, ex_or, ex_not, ex_ite, ex_lc, ex_lsOf, ex_tuOf, ex_in, ex_srtI, ex_mnL, ex_mxL, ex_mnD, ex_fld, ex_meth, ex_mk, ex_dic, ex_dget, ex_din, ex_dpop, ex_tab, ex_sit, insD_ob, dicD_i, slT_g, es_nil, es_cons, OC.getV, List.set, bop, augop, ixn_t, ixn_l, ixn_o, ixn_q0, ixn_q1, pkI2, pkI3, pkI4, pkI5, pkI6, pkQ2, pkQ3, pkQ4, pkQ5, pkU2, pkU3, pkU4, pkU5, pkL2, pkL3, pkL4, pkL5, bi_len_l, bi_len_t, bi_len_s, bi_len_x, bi_len_o, bi_abs, bi_max2, bi_min2, bi_max3, bi_sum_l, bi_sum_o, bi_all_l, bi_all_o, bi_any_l, bi_any_o, bi_repr, bi_divmod, bi_int_i, bi_int_b, dtru, bn_name, bn_tup, bns_nil, bns_cons, if_true, if_false, Bool.false_eq_true, List.getElem?_cons_zero, List.getElem?_cons_succ, List.length_cons, List.length_nil, cm_eqI, cm_neI, cm_eqS, cm_neS, cm_ltI, cm_leI, cm_gtI, cm_geI, co_eqI, co_neI, co_ltI, co_leI, co_gtI, co_geI, cm_eqB, cm_neB, cm_eqQ, cm_neQ, mkL_t, mkL_f, viewL_l, viewS_l, viewS_t, someE, ik_l, ik_t, ik_r1, ik_r2, ik_rev, ik_enum, ik_zip, bagP_c, true_and, and_true, Bool.not_true, Bool.not_false, if_nil, if_cons, OC.wipeV, List.map_cons, List.map_nil, List.length_map, hs, hl, isspan_c, isless_c, sq_asg, sq_par, sq_par3, sq_ret, sq_retN, sq_drop, sq_unp, sq_unpL, sq_pass, sq_nil]
      refine no ?_
      rintro ⟨l, e, hc⟩
      unfold encS at e
      cases e
      rw [c] at ha
      refine absurd (ha.mpr fun x hx => ?_) (fun e => nomatch e)
      obtain ⟨p, hp, rfl⟩ := List.mem_map.mp hx
      exact ⟨p, rfl, hc.1 p hp⟩
    | true =>
      simp only [Bool.not_true, if_false, Bool.false_eq_true]
      try dsimp only
      rw [sq_nil]
      simp only [ex_var, ex_k, ex_bin, ex_cat, ex_neg, ex_cmp, ex_tup, ex_lst, ex_mkbag, ex_ix, ex_ixn, ex_slL, ex_slH, ex_slK, slL_g, ex_call, ex_bi, ex_isD, isi_i, isi_b, isi_s, isi_n, ex_app, ex_ext, ex_pop, ex_rev, ex_pop0, ex_chain, ex_and, ex_or, ex_not, ex_ite, ex_lc, ex_lsOf, ex_tuOf, ex_in, ex_srtI, ex_mnL, ex_mxL, ex_mnD, ex_fld, ex_meth, ex_mk, ex_dic, ex_dget, ex_din, ex_dpop, ex_tab, ex_sit, insD_ob, dicD_i, slT_g, es_nil, es_cons, OC.getV, List.set, bop, augop, ixn_t, ixn_l, ixn_o, ixn_q0, ixn_q1, pkI2, pkI3, pkI4, pkI5, pkI6, pkQ2, pkQ3, pkQ4, pkQ5, pkU2, pkU3, pkU4, pkU5, pkL2, pkL3, pkL4, pkL5, bi_len_l, bi_len_t, bi_len_s, bi_len_x, bi_len_o, bi_abs, bi_max2, bi_min2, bi_max3, bi_sum_l, bi_sum_o, bi_all_l, bi_all_o, bi_any_l, bi_any_o, bi_repr, bi_divmod, bi_int_i, bi_int_b, dtru, bn_name, bn_tup, bns_nil, bns_cons, if_true, if_false, Bool.false_eq_true, List.getElem?_cons_zero, List.getElem?_cons_succ, List.length_cons, List.length_nil, cm_eqI, cm_neI, cm_eqS, cm_neS, cm_ltI, cm_leI, cm_gtI, cm_geI, co_eqI, co_neI, co_ltI, co_leI, co_gtI, co_geI, cm_eqB, cm_neB, cm_eqQ, cm_neQ, mkL_t, mkL_f, viewL_l, viewS_l, viewS_t, someE, ik_l, ik_t, ik_r1, ik_r2, ik_rev, ik_enum, ik_zip, bagP_c, true_and, and_true, Bool.not_true, Bool.not_false, if_nil, if_cons, OC.wipeV, List.map_cons, List.map_nil, List.length_map, hs, hl, isspan_c, isless_c]
      obtain ⟨l, rfl, hsp⟩ := spans_of (ha.mp c)
      have bq : ∀ p ∈ l, Bq 4000 p.1 ∧ Bq 4000 p.2 := fun p hp => ⟨hS _ (List.mem_map_of_mem hp) _ _ rfl p.1 (.inl rfl), hS _ (List.mem_map_of_mem hp) _ _ rfl p.2 (.inr rfl)⟩
      try dsimp only
      rw [sq_ret]
      simp only [ex_var, ex_k, ex_bin, ex_cat, ex_neg, ex_cmp, ex_tup, ex_lst, ex_mkbag, ex_ix, ex_ixn, ex_slL, ex_slH, ex_slK, slL_g, ex_call, ex_bi, ex_isD, isi_i, isi_b, isi_s, isi_n, ex_app, ex_ext, ex_pop, ex_rev, ex_pop0, ex_chain, ex_and, ex_or, ex_not, ex_ite, ex_lc, ex_lsOf, ex_tuOf, ex_in, ex_srtI, ex_mnL, ex_mxL, ex_mnD, ex_fld, ex_meth, ex_mk, ex_dic, ex_dget, ex_din, ex_dpop, ex_tab, ex_sit, insD_ob, dicD_i, slT_g, es_nil, es_cons, OC.getV, List.set, bop, augop, ixn_t, ixn_l, ixn_o, ixn_q0, ixn_q1, pkI2, pkI3, pkI4, pkI5, pkI6, pkQ2, pkQ3, pkQ4, pkQ5, pkU2, pkU3, pkU4, pkU5, pkL2, pkL3, pkL4, pkL5, bi_len_l, bi_len_t, bi_len_s, bi_len_x, bi_len_o, bi_abs, bi_max2, bi_min2, bi_max3, bi_sum_l, bi_sum_o, bi_all_l, bi_all_o, bi_any_l, bi_any_o, bi_repr, bi_divmod, bi_int_i, bi_int_b, dtru, bn_name, bn_tup, bns_nil, bns_cons, if_true, if_false, Bool.false_eq_true, List.getElem?_cons_zero, List.getElem?_cons_succ, List.length_cons, List.length_nil, cm_eqI, cm_neI, cm_eqS, cm_neS, cm_ltI, cm_leI, cm_gtI, cm_geI, co_eqI, co_neI, co_ltI, co_leI, co_gtI, co_geI, cm_eqB, cm_neB, cm_eqQ, cm_neQ, mkL_t, mkL_f, viewL_l, viewS_l, viewS_t, someE, ik_l, ik_t, ik_r1, ik_r2, ik_rev, ik_enum, ik_zip, bagP_c, true_and, and_true, Bool.not_true, Bool.not_false, if_nil, if_cons, OC.wipeV, List.map_cons, List.map_nil, List.length_map, hs, hl, isspan_c, isless_c]
      rw [cutD_lo (by decide), show (1 : Int).toNat = 1 from rfl, List.drop_one, ← List.map_tail, List.zipWith_map]
      have ez : List.zipWith (fun a b : Rat × Rat => D.tup [encP a, encP b]) l l.tail = (l.zip l.tail).map fun z => .tup [encP z.1, encP z.2] := by
        rw [List.zip, List.map_zipWith]
      rw [ez]
      refine ⟨?_, map_enc (fun z : (Rat × Rat) × (Rat × Rat) => D.tup [encP z.1, encP z.2]) (fun z => .bl (decide (z.1.2 < z.2.1))) (l.zip l.tail) [] (fun z hz kk hk => ?_) ?_⟩
      · rw [List.length_map] at hlen ⊢
        exact Nat.le_trans (by rw [List.length_zip]; omega) hlen
      · skip
        try simp only [ex_var, ex_k, ex_bin, ex_cat, ex_neg, ex_cmp, ex_tup, ex_lst, ex_mkbag, ex_ix, ex_ixn, ex_slL, ex_slH, ex_slK, slL_g, ex_call, ex_bi, ex_isD, isi_i, isi_b, isi_s, isi_n, ex_app, ex_ext, ex_pop, ex_rev, ex_pop0, ex_chain, ex_and, ex_or, ex_not, ex_ite, ex_lc, ex_lsOf, ex_tuOf, ex_in, ex_srtI, ex_mnL, ex_mxL, ex_mnD, ex_fld, ex_meth, ex_mk, ex_dic, ex_dget, ex_din, ex_dpop, ex_tab, ex_sit, insD_ob, dicD_i, slT_g, es_nil, es_cons, OC.getV, List.set, bop, augop, ixn_t, ixn_l, ixn_o, ixn_q0, ixn_q1, pkI2, pkI3, pkI4, pkI5, pkI6, pkQ2, pkQ3, pkQ4, pkQ5, pkU2, pkU3, pkU4, pkU5, pkL2, pkL3, pkL4, pkL5, bi_len_l, bi_len_t, bi_len_s, bi_len_x, bi_len_o, bi_abs, bi_max2, bi_min2, bi_max3, bi_sum_l, bi_sum_o, bi_all_l, bi_all_o, bi_any_l, bi_any_o, bi_repr, bi_divmod, bi_int_i, bi_int_b, dtru, bn_name, bn_tup, bns_nil, bns_cons, if_true, if_false, Bool.false_eq_true, List.getElem?_cons_zero, List.getElem?_cons_succ, List.length_cons, List.length_nil, cm_eqI, cm_neI, cm_eqS, cm_neS, cm_ltI, cm_leI, cm_gtI, cm_geI, co_eqI, co_neI, co_ltI, co_leI, co_gtI, co_geI, cm_eqB, cm_neB, cm_eqQ, cm_neQ, mkL_t, mkL_f, viewL_l, viewS_l, viewS_t, someE, ik_l, ik_t, ik_r1, ik_r2, ik_rev, ik_enum, ik_zip, bagP_c, true_and, and_true, Bool.not_true, Bool.not_false, if_nil, if_cons, OC.wipeV, List.map_cons, List.map_nil, List.length_map, hs, hl, isspan_c, isless_c, bn_2, ixn_p0, ixn_p1]
        have hz := List.of_mem_zip hz
        exact ⟨⟨(bq _ hz.1).2, (bq _ (List.mem_of_mem_tail hz.2)).1⟩, hk⟩
      · rw [List.nil_append, bls_map]
        try simp only [ex_var, ex_k, ex_bin, ex_cat, ex_neg, ex_cmp, ex_tup, ex_lst, ex_mkbag, ex_ix, ex_ixn, ex_slL, ex_slH, ex_slK, slL_g, ex_call, ex_bi, ex_isD, isi_i, isi_b, isi_s, isi_n, ex_app, ex_ext, ex_pop, ex_rev, ex_pop0, ex_chain, ex_and, ex_or, ex_not, ex_ite, ex_lc, ex_lsOf, ex_tuOf, ex_in, ex_srtI, ex_mnL, ex_mxL, ex_mnD, ex_fld, ex_meth, ex_mk, ex_dic, ex_dget, ex_din, ex_dpop, ex_tab, ex_sit, insD_ob, dicD_i, slT_g, es_nil, es_cons, OC.getV, List.set, bop, augop, ixn_t, ixn_l, ixn_o, ixn_q0, ixn_q1, pkI2, pkI3, pkI4, pkI5, pkI6, pkQ2, pkQ3, pkQ4, pkQ5, pkU2, pkU3, pkU4, pkU5, pkL2, pkL3, pkL4, pkL5, bi_len_l, bi_len_t, bi_len_s, bi_len_x, bi_len_o, bi_abs, bi_max2, bi_min2, bi_max3, bi_sum_l, bi_sum_o, bi_all_l, bi_all_o, bi_any_l, bi_any_o, bi_repr, bi_divmod, bi_int_i, bi_int_b, dtru, bn_name, bn_tup, bns_nil, bns_cons, if_true, if_false, Bool.false_eq_true, List.getElem?_cons_zero, List.getElem?_cons_succ, List.length_cons, List.length_nil, cm_eqI, cm_neI, cm_eqS, cm_neS, cm_ltI, cm_leI, cm_gtI, cm_geI, co_eqI, co_neI, co_ltI, co_leI, co_gtI, co_geI, cm_eqB, cm_neB, cm_eqQ, cm_neQ, mkL_t, mkL_f, viewL_l, viewS_l, viewS_t, someE, ik_l, ik_t, ik_r1, ik_r2, ik_rev, ik_enum, ik_zip, bagP_c, true_and, and_true, Bool.not_true, Bool.not_false, if_nil, if_cons, OC.wipeV, List.map_cons, List.map_nil, List.length_map, hs, hl, isspan_c, isless_c]
        refine ret_here (hq _ ?_)
        rw [List.all_map]
        have cp := chain_pair (l := l) fun p hp => (hsp p hp).2.1
        show ((l.zip l.tail).all fun z => decide (z.1.2 < z.2.1)) = true ↔ _
        rw [cp]
        constructor
        · exact fun h => ⟨l, rfl, hsp, h⟩
        · rintro ⟨m, e, hc⟩
          cases encS_inj (x := l) e
          exact hc.2
  | _ =>
    simp only [isTy, Bool.not_false, if_true]
    simp only [ex_var, ex_k, ex_bin, ex_cat, ex_neg, ex_cmp, ex_tup, ex_lst, ex_mkbag, ex_ix, ex_ixn, ex_slL, ex_slH, ex_slK, slL_g, ex_call, ex_bi, ex_isD, isi_i, isi_b, isi_s, isi_n, ex_app, ex_ext, ex_pop, ex_rev, ex_pop0, ex_chain, ex_and, ex_or, ex_not, ex_ite, ex_lc, ex_lsOf, ex_tuOf, ex_in, ex_srtI, ex_mnL, ex_mxL, ex_mnD, ex_fld, ex_meth, ex_mk, ex_dic, ex_dget, ex_din, ex_dpop, ex_tab, ex_sit, insD_ob, dicD_i, slT_g, es_nil, es_cons, OC.getV, List.set, bop, augop, ixn_t, ixn_l, ixn_o, ixn_q0, ixn_q1, pkI2, pkI3, pkI4, pkI5, pkI6, pkQ2, pkQ3, pkQ4, pkQ5, pkU2, pkU3, pkU4, pkU5, pkL2, pkL3, pkL4, pkL5, bi_len_l, bi_len_t, bi_len_s, bi_len_x, bi_len_o, bi_abs, bi_max2, bi_min2, bi_max3, bi_sum_l, bi_sum_o, bi_all_l, bi_all_o, bi_any_l, bi_any_o, bi_repr, bi_divmod, bi_int_i, bi_int_b, dtru, bn_name, bn_tup, bns_nil, bns_cons, if_true, if_false, Bool.false_eq_true, List.getElem?_cons_zero, List.getElem?_cons_succ, List.length_cons, List.length_nil, cm_eqI, cm_neI, cm_eqS, cm_neS, cm_ltI, cm_leI, cm_gtI, cm_geI, co_eqI, co_neI, co_ltI, co_leI, co_gtI, co_geI, cm_eqB, cm_neB, cm_eqQ, cm_neQ, mkL_t, mkL_f, viewL_l, viewS_l, viewS_t, someE, ik_l, ik_t, ik_r1, ik_r2, ik_rev, ik_enum, ik_zip, bagP_c, true_and, and_true, Bool.not_true, Bool.not_false, if_nil, if_cons, OC.wipeV, List.map_cons, List.map_nil, List.length_map, hs, hl, isspan_c, isless_c, sq_asg, sq_par, sq_par3, sq_ret, sq_retN, sq_drop, sq_unp, sq_unpL, sq_pass, sq_nil]
    refine no ?_
    rintro ⟨l, e, _⟩
    cases e
end NX
set_option Elab.async false
set_option linter.all false
set_option maxRecDepth 100000
set_option maxHeartbeats 4000000
set_option exponentiation.threshold 20000
set_option Elab.async false
set_option linter.all false
set_option maxRecDepth 100000
set_option maxHeartbeats 4000000
set_option exponentiation.threshold 20000
namespace NX
open PySem PySem.Spec PyProof.Rows L2 OC
/-! ### sets of units, as sets of cuts -/
def stepF (us : List Nat) (acc : List (Nat × Nat)) (u : Nat) : List (Nat × Nat) := if u ∈ us then (match acc.getLast? with | some p => if p.2 = u then acc.dropLast ++ [(p.1, u + 1)] else acc ++ [(u, u + 1)] | none => [(u, u + 1)]) else acc
def runsF (us : List Nat) (n : Nat) : List (Nat × Nat) := (List.range n).foldl (stepF us) []
theorem runsF_succ (us : List Nat) (n : Nat) : runsF us (n + 1) = stepF us (runsF us n) n := by
  unfold runsF
  rw [List.range_succ, List.foldl_append]
  rfl
structure Runs (us : List Nat) (n : Nat) (l : List (Nat × Nat)) : Prop where
  one : ∀ p ∈ l, p.1 < p.2 ∧ p.2 ≤ n
  gap : l.Pairwise fun p q => p.2 < q.1
  mem : ∀ u, u < n → (u ∈ us ↔ ∃ p ∈ l, p.1 ≤ u ∧ u < p.2)
  sum : (l.map fun p => p.2 - p.1).sum = ((List.range n).filter fun u => decide (u ∈ us)).length
theorem runs_step {us : List Nat} {n : Nat} {l : List (Nat × Nat)} (h : Runs us n l) : Runs us (n + 1) (stepF us l n) := by
  have cnt : ((List.range (n + 1)).filter fun u => decide (u ∈ us)).length = ((List.range n).filter fun u => decide (u ∈ us)).length + if n ∈ us then 1 else 0 := by
    rw [List.range_succ, List.filter_append, List.length_append]
    by_cases c : n ∈ us <;> simp [c]
  unfold stepF
  by_cases c : n ∈ us
  · rw [if_pos c]
    rcases List.eq_nil_or_concat l with rfl | ⟨m, p, rfl⟩
    · refine ⟨fun p hp => ?_, List.pairwise_singleton _ _, fun u hu => ?_, ?_⟩
      · cases List.mem_singleton.mp hp
        exact ⟨Nat.lt_succ_self _, Nat.le_refl _⟩
      · by_cases e : u = n
        · subst e
          exact ⟨fun _ => ⟨_, List.mem_singleton.mpr rfl, Nat.le_refl _, Nat.lt_succ_self _⟩, fun _ => c⟩
        · rw [h.mem u (by omega)]
          constructor
          · rintro ⟨p, hp, _⟩
            cases hp
          · rintro ⟨p, hp, h1, h2⟩
            cases List.mem_singleton.mp hp
            dsimp only at h1 h2
            omega
      · have := h.sum
        simp only [List.map_nil, List.sum_nil] at this
        rw [cnt, if_pos c, ← this]
        simp
    · rw [List.concat_eq_append] at h ⊢
      rw [List.getLast?_concat, List.dropLast_concat]
      have hp := h.one p (by simp)
      have pw := List.pairwise_append.mp h.gap
      dsimp only
      have s0 := h.sum
      rw [List.map_append, List.sum_append] at s0
      simp only [List.map_cons, List.map_nil, List.sum_cons, List.sum_nil] at s0
      by_cases e : p.2 = n
      · rw [if_pos e]
        refine ⟨fun q hq => ?_, ?_, fun u hu => ?_, ?_⟩
        · rcases List.mem_append.mp hq with hq | hq
          · have := h.one q (List.mem_append_left _ hq)
            exact ⟨this.1, by omega⟩
          · cases List.mem_singleton.mp hq
            exact ⟨by dsimp only; omega, Nat.le_refl _⟩
        · refine List.pairwise_append.mpr ⟨pw.1, List.pairwise_singleton _ _, fun a ha b hb => ?_⟩
          cases List.mem_singleton.mp hb
          exact pw.2.2 a ha p (by simp)
        · by_cases eu : u = n
          · subst eu
            exact ⟨fun _ => ⟨_, List.mem_append_right _ (List.mem_singleton.mpr rfl), by dsimp only; omega, Nat.lt_succ_self _⟩, fun _ => c⟩
          · rw [h.mem u (by omega)]
            constructor
            · rintro ⟨q, hq, h1, h2⟩
              rcases List.mem_append.mp hq with hq | hq
              · exact ⟨q, List.mem_append_left _ hq, h1, h2⟩
              · cases List.mem_singleton.mp hq
                exact ⟨_, List.mem_append_right _ (List.mem_singleton.mpr rfl), h1, by dsimp only; omega⟩
            · rintro ⟨q, hq, h1, h2⟩
              rcases List.mem_append.mp hq with hq | hq
              · exact ⟨q, List.mem_append_left _ hq, h1, h2⟩
              · cases List.mem_singleton.mp hq
                exact ⟨p, List.mem_append_right _ (List.mem_singleton.mpr rfl), h1, by omega⟩
        · rw [cnt, if_pos c, List.map_append, List.sum_append]
          simp only [List.map_cons, List.map_nil, List.sum_cons, List.sum_nil]
          omega
      · rw [if_neg e]
        refine ⟨fun q hq => ?_, ?_, fun u hu => ?_, ?_⟩
        · rcases List.mem_append.mp hq with hq | hq
          · have := h.one q hq
            exact ⟨this.1, by omega⟩
          · cases List.mem_singleton.mp hq
            exact ⟨Nat.lt_succ_self _, Nat.le_refl _⟩
        · refine List.pairwise_append.mpr ⟨h.gap, List.pairwise_singleton _ _, fun a ha b hb => ?_⟩
          cases List.mem_singleton.mp hb
          dsimp only
          rcases List.mem_append.mp ha with ha | ha
          · have a1 := pw.2.2 a ha p (by simp)
            have := hp.2
            have := hp.1
            omega
          · cases List.mem_singleton.mp ha
            have := hp.2
            omega
        · by_cases eu : u = n
          · subst eu
            exact ⟨fun _ => ⟨_, List.mem_append_right _ (List.mem_singleton.mpr rfl), Nat.le_refl _, Nat.lt_succ_self _⟩, fun _ => c⟩
          · rw [h.mem u (by omega)]
            constructor
            · rintro ⟨q, hq, h1, h2⟩
              exact ⟨q, List.mem_append_left _ hq, h1, h2⟩
            · rintro ⟨q, hq, h1, h2⟩
              rcases List.mem_append.mp hq with hq | hq
              · exact ⟨q, hq, h1, h2⟩
              · cases List.mem_singleton.mp hq
                dsimp only at h1 h2
                omega
        · rw [cnt, if_pos c, List.map_append, List.map_append, List.sum_append, List.sum_append]
          simp only [List.map_cons, List.map_nil, List.sum_cons, List.sum_nil]
          omega
  · rw [if_neg c]
    refine ⟨fun q hq => ?_, h.gap, fun u hu => ?_, by rw [cnt, if_neg c, h.sum]; rfl⟩
    · have := h.one q hq
      exact ⟨this.1, by omega⟩
    · by_cases eu : u = n
      · subst eu
        refine ⟨fun z => absurd z c, ?_⟩
        rintro ⟨q, hq, h1, h2⟩
        have := (h.one q hq).2
        omega
      · exact h.mem u (by omega)
theorem runs_ok (us : List Nat) : ∀ n, Runs us n (runsF us n)
  | 0 => ⟨(fun _ h => nomatch h), List.Pairwise.nil, fun u hu => absurd hu (Nat.not_lt_zero _), rfl⟩
  | n + 1 => by
    rw [runsF_succ]
    exact runs_step (runs_ok us n)
/-! ### parts of one -/
def fr (a g : Nat) : Rat := Rat.divInt a g
section
variable {g : Nat} (hg : 0 < g)
include hg
theorem fr_sub (a b : Nat) : fr a g - fr b g = Rat.divInt ((a : Int) - b) g := by
  have hN : (g : Int) ≠ 0 := by omega
  unfold fr
  rw [Rat.divInt_sub_divInt _ _ hN hN, Rat.divInt_eq_divInt_iff (Int.mul_ne_zero hN hN) hN]
  grind
theorem fr_le {a b : Nat} : fr a g ≤ fr b g ↔ a ≤ b := by
  have e := fr_sub hg b a
  have h : 0 ≤ Rat.divInt ((b : Int) - a) g ↔ 0 ≤ (b : Int) - a := Rat.divInt_nonneg_iff_of_pos_right (by omega)
  rw [← e] at h
  constructor
  · intro z
    have := h.mp (by grind)
    omega
  · intro z
    have := h.mpr (by omega)
    grind
theorem fr_lt {a b : Nat} : fr a g < fr b g ↔ a < b := by
  have := fr_le hg (a := b) (b := a)
  constructor
  · intro z
    have : ¬ b ≤ a := fun q => by have := this.mpr q; grind
    omega
  · intro z
    have : ¬ fr b g ≤ fr a g := fun q => by have := this.mp q; omega
    grind
theorem fr_one : fr g g = 1 := by
  have hN : (g : Int) ≠ 0 := by omega
  unfold fr
  rw [show (1 : Rat) = Rat.divInt 1 1 from rfl, Rat.divInt_eq_divInt_iff hN (by decide)]
  grind
theorem fr_zero : fr 0 g = 0 := by
  unfold fr
  have hN : (g : Int) ≠ 0 := by omega
  rw [show (0 : Rat) = Rat.divInt 0 1 from rfl, Rat.divInt_eq_divInt_iff hN (by decide)]
  grind
theorem fr_den (a : Nat) : (fr a g).den ∣ g := den_divInt (by omega)
def formQ (us : List Nat) (g : Nat) : List (Rat × Rat) := (runsF us g).map fun p => (fr p.1 g, fr p.2 g)
omit hg in
theorem formQ_mem {us : List Nat} {p : Rat × Rat} (h : p ∈ formQ us g) : ∃ r ∈ runsF us g, p = (fr r.1 g, fr r.2 g) := by
  obtain ⟨r, hr, rfl⟩ := List.mem_map.mp h
  exact ⟨r, hr, rfl⟩
theorem form_can (us : List Nat) : Can (formQ us g) := by
  have R := runs_ok us g
  refine ⟨fun p hp => ?_, ?_⟩
  · obtain ⟨r, hr, rfl⟩ := formQ_mem hp
    have := R.one r hr
    refine ⟨?_, (fr_lt hg).mpr this.1, ?_⟩
    · rw [← fr_zero hg]
      exact (fr_le hg).mpr (Nat.zero_le _)
    · rw [← fr_one hg]
      exact (fr_le hg).mpr this.2
  · unfold formQ
    rw [List.pairwise_map]
    exact R.gap.imp fun h => (fr_lt hg).mpr h
theorem form_dn (us : List Nat) : Dn g (formQ us g) := fun p hp => by
  obtain ⟨r, hr, rfl⟩ := formQ_mem hp
  exact ⟨fr_den hg _, fr_den hg _⟩
end
/-! ### drawn units, their set of cuts -/
def encU (us : List Nat) : D := .lst (us.map fun i : Nat => .int i)
theorem encU_inj {x y : List Nat} (h : encU x = encU y) : x = y := by
  unfold encU at h
  exact map_injS (fun a b e => by have := D.int.inj e; omega) (D.lst.inj h)
def grainC : Ct := bagP D.int fun g => 0 < g ∧ g ≤ 30
def unitsC : Ct := rle 2 (fun g : Int => [.bag, .int g]) (fun g => 0 < g ∧ g ≤ 1000) encU fun g us => us.Sublist (List.range g.toNat)
theorem units_c {T : TS} {Q : QD} {X : XD} {g : Int} : unitsC.c [.bag, .int g] T Q X = ((0 < g ∧ g ≤ 1000) ∧ ∀ us : List Nat, us.Sublist (List.range g.toNat) → Q (encU us) T) := rle_c (x := g) fun x y h => by
  simp only [List.cons.injEq, D.int.injEq, and_true, true_and] at h
  exact h
def b_drawngrain (t : Nat) : List S := [.st retS [.op ixS [.op (lstS false) [.op (binS .add) [.op (kS (.int 1)) [], .op (callS t) [.var 0, .op (kS (.int 6)) []]], .op (kS (.int 12)) [], .op (kS (.int 30)) [], .op (kS (.int 7)) []], .op (callS t) [.var 0, .op (kS (.int 4)) []]]]]
theorem drawngrain_ok {F : List Ct} {t : Nat} (ht : F[t]? = some takeC) : ∀ ds T Q X, (grainC).c ds T Q X → wpBody F 1 (b_drawngrain t) ds T Q X := by
  rintro _ T Q X ⟨_, rfl, _, hq⟩
  unfold b_drawngrain
  simp only [wpBody, start0, List.map_cons, List.map_nil, List.length, List.replicate, List.cons_append, List.nil_append, Nat.reduceAdd, Nat.reduceSub]
  try dsimp only
  simp only [ex_var, ex_k, ex_bin, ex_cat, ex_neg, ex_cmp, ex_tup, ex_lst, ex_mkbag, ex_ix, ex_ixn, ex_slL, ex_slH, ex_slK, slL_g, ex_call, ex_bi, ex_isD, isi_i, isi_b, isi_s, isi_n, ex_app, ex_ext, ex_pop, ex_rev, ex_pop0, ex_chain, ex_and, ex_or, ex_not, ex_ite, ex_lc, ex_lsOf, ex_tuOf, ex_in, ex_srtI, ex_mnL, ex_mxL, ex_mnD, ex_fld, ex_meth, ex_mk, ex_dic, ex_dget, ex_din, ex_dpop, ex_tab, ex_sit, insD_ob, dicD_i, slT_g, es_nil, es_cons, OC.getV, List.set, bop, augop, ixn_t, ixn_l, ixn_o, ixn_q0, ixn_q1, pkI2, pkI3, pkI4, pkI5, pkI6, pkQ2, pkQ3, pkQ4, pkQ5, pkU2, pkU3, pkU4, pkU5, pkL2, pkL3, pkL4, pkL5, bi_len_l, bi_len_t, bi_len_s, bi_len_x, bi_len_o, bi_abs, bi_max2, bi_min2, bi_max3, bi_sum_l, bi_sum_o, bi_all_l, bi_all_o, bi_any_l, bi_any_o, bi_repr, bi_divmod, bi_int_i, bi_int_b, dtru, bn_name, bn_tup, bns_nil, bns_cons, if_true, if_false, Bool.false_eq_true, List.getElem?_cons_zero, List.getElem?_cons_succ, List.length_cons, List.length_nil, cm_eqI, cm_neI, cm_eqS, cm_neS, cm_ltI, cm_leI, cm_gtI, cm_geI, co_eqI, co_neI, co_ltI, co_leI, co_gtI, co_geI, cm_eqB, cm_neB, cm_eqQ, cm_neQ, mkL_t, mkL_f, viewL_l, viewS_l, viewS_t, someE, ik_l, ik_t, ik_r1, ik_r2, ik_rev, ik_enum, ik_zip, bagP_c, true_and, and_true, Bool.not_true, Bool.not_false, if_nil, if_cons, OC.wipeV, List.map_cons, List.map_nil, List.length_map, ht, take_c, tk 4 rfl, tk 6 rfl, sq_asg, sq_par, sq_par3, sq_ret, sq_retN, sq_drop, sq_unp, sq_unpL, sq_pass, sq_nil]
  refine fun a a0 a1 r r0 r1 => ⟨pick_ok r0 r1, fun x hx => ret_here (hq x ?_)⟩
  have hx := pick_in hx r0 r1
  simp only [List.mem_cons, List.not_mem_nil, or_false] at hx
  omega
def b_unitsL (t : Nat) : List S := [.st (par3S 2 3 4) [.op (lstS true) [], .op (cmpS .eq) [.op (callS t) [.var 0, .op (kS (.int 2)) []], .op (kS (.int 0)) []], .op (binS .add) [.op (kS (.int 1)) [], .op (callS t) [.var 0, .op (kS (.int 4)) []]]], .forS (.name 5) rng1I [.var 1] [.ite (.op (cmpS .eq) [.op (callS t) [.var 0, .var 4], .op (kS (.int 0)) []]) [.st (asgS 3) [.notv (.var 3)]] [], .ite (.var 3) [.st dropS [.mth appS (.var 2) [.var 5]]] []], .gh (frzG 2), .st retS [.var 2]]
theorem unitsL_ok {F : List Ct} {t : Nat} (ht : F[t]? = some takeC) : ∀ ds T Q X, (unitsC).c ds T Q X → wpBody F 6 (b_unitsL t) ds T Q X := by
  rintro _ T Q X ⟨g, rfl, ⟨g0, g1⟩, hq⟩
  dsimp only at g0 g1 hq ⊢
  unfold b_unitsL
  simp only [wpBody, start0, List.map_cons, List.map_nil, List.length, List.replicate, List.cons_append, List.nil_append, Nat.reduceAdd, Nat.reduceSub]
  try dsimp only
  try dsimp only
  rw [sq_par3]
  simp only [ex_var, ex_k, ex_bin, ex_cat, ex_neg, ex_cmp, ex_tup, ex_lst, ex_mkbag, ex_ix, ex_ixn, ex_slL, ex_slH, ex_slK, slL_g, ex_call, ex_bi, ex_isD, isi_i, isi_b, isi_s, isi_n, ex_app, ex_ext, ex_pop, ex_rev, ex_pop0, ex_chain, ex_and, ex_or, ex_not, ex_ite, ex_lc, ex_lsOf, ex_tuOf, ex_in, ex_srtI, ex_mnL, ex_mxL, ex_mnD, ex_fld, ex_meth, ex_mk, ex_dic, ex_dget, ex_din, ex_dpop, ex_tab, ex_sit, insD_ob, dicD_i, slT_g, es_nil, es_cons, OC.getV, List.set, bop, augop, ixn_t, ixn_l, ixn_o, ixn_q0, ixn_q1, pkI2, pkI3, pkI4, pkI5, pkI6, pkQ2, pkQ3, pkQ4, pkQ5, pkU2, pkU3, pkU4, pkU5, pkL2, pkL3, pkL4, pkL5, bi_len_l, bi_len_t, bi_len_s, bi_len_x, bi_len_o, bi_abs, bi_max2, bi_min2, bi_max3, bi_sum_l, bi_sum_o, bi_all_l, bi_all_o, bi_any_l, bi_any_o, bi_repr, bi_divmod, bi_int_i, bi_int_b, dtru, bn_name, bn_tup, bns_nil, bns_cons, if_true, if_false, Bool.false_eq_true, List.getElem?_cons_zero, List.getElem?_cons_succ, List.length_cons, List.length_nil, cm_eqI, cm_neI, cm_eqS, cm_neS, cm_ltI, cm_leI, cm_gtI, cm_geI, co_eqI, co_neI, co_ltI, co_leI, co_gtI, co_geI, cm_eqB, cm_neB, cm_eqQ, cm_neQ, mkL_t, mkL_f, viewL_l, viewS_l, viewS_t, someE, ik_l, ik_t, ik_r1, ik_r2, ik_rev, ik_enum, ik_zip, bagP_c, true_and, and_true, Bool.not_true, Bool.not_false, if_nil, if_cons, OC.wipeV, List.map_cons, List.map_nil, List.length_map, ht, take_c, tk 2 rfl, tk 4 rfl]
  intro o ho r0 a0 a1 pc p0 p1
  try dsimp only
  rw [sq_for]
  simp only [ex_var, ex_k, ex_bin, ex_cat, ex_neg, ex_cmp, ex_tup, ex_lst, ex_mkbag, ex_ix, ex_ixn, ex_slL, ex_slH, ex_slK, slL_g, ex_call, ex_bi, ex_isD, isi_i, isi_b, isi_s, isi_n, ex_app, ex_ext, ex_pop, ex_rev, ex_pop0, ex_chain, ex_and, ex_or, ex_not, ex_ite, ex_lc, ex_lsOf, ex_tuOf, ex_in, ex_srtI, ex_mnL, ex_mxL, ex_mnD, ex_fld, ex_meth, ex_mk, ex_dic, ex_dget, ex_din, ex_dpop, ex_tab, ex_sit, insD_ob, dicD_i, slT_g, es_nil, es_cons, OC.getV, List.set, bop, augop, ixn_t, ixn_l, ixn_o, ixn_q0, ixn_q1, pkI2, pkI3, pkI4, pkI5, pkI6, pkQ2, pkQ3, pkQ4, pkQ5, pkU2, pkU3, pkU4, pkU5, pkL2, pkL3, pkL4, pkL5, bi_len_l, bi_len_t, bi_len_s, bi_len_x, bi_len_o, bi_abs, bi_max2, bi_min2, bi_max3, bi_sum_l, bi_sum_o, bi_all_l, bi_all_o, bi_any_l, bi_any_o, bi_repr, bi_divmod, bi_int_i, bi_int_b, dtru, bn_name, bn_tup, bns_nil, bns_cons, if_true, if_false, Bool.false_eq_true, List.getElem?_cons_zero, List.getElem?_cons_succ, List.length_cons, List.length_nil, cm_eqI, cm_neI, cm_eqS, cm_neS, cm_ltI, cm_leI, cm_gtI, cm_geI, co_eqI, co_neI, co_ltI, co_leI, co_gtI, co_geI, cm_eqB, cm_neB, cm_eqQ, cm_neQ, mkL_t, mkL_f, viewL_l, viewS_l, viewS_t, someE, ik_l, ik_t, ik_r1, ik_r2, ik_rev, ik_enum, ik_zip, bagP_c, true_and, and_true, Bool.not_true, Bool.not_false, if_nil, if_cons, OC.wipeV, List.map_cons, List.map_nil, List.length_map, ht, take_c, tk 2 rfl, tk 4 rfl, rng0]
  refine ⟨by omega, for_enc (fun i : Nat => D.int i) (fun ps rs G T1 => ps.length + rs.length ≤ 1000 ∧ ps ++ rs = List.range g.toNat ∧ ∃ us : List Nat, us.Sublist ps ∧ T1 = T.put o (.lst (us.map fun i : Nat => .int i)) ∧ ∃ (b : Bool) (o5 : Option D), G = [some D.bag, some (.int g), some (.ob o), some (.bl b), some (.int (1 + pc)), o5]) ?_ ?_ (List.range g.toNat) [] _ _ ⟨by rw [List.length_range, List.length_nil]; omega, rfl, [], List.Sublist.refl _, rfl, _, _, rfl⟩⟩
  · rintro ps i rs G T1 ⟨hle, hps, us, hus, rfl, b, o5, rfl⟩ nx hnx
    have hul := hus.length_le
    rw [List.length_cons] at hle
    try simp only [ex_var, ex_k, ex_bin, ex_cat, ex_neg, ex_cmp, ex_tup, ex_lst, ex_mkbag, ex_ix, ex_ixn, ex_slL, ex_slH, ex_slK, slL_g, ex_call, ex_bi, ex_isD, isi_i, isi_b, isi_s, isi_n, ex_app, ex_ext, ex_pop, ex_rev, ex_pop0, ex_chain, ex_and, ex_or, ex_not, ex_ite, ex_lc, ex_lsOf, ex_tuOf, ex_in, ex_srtI, ex_mnL, ex_mxL, ex_mnD, ex_fld, ex_meth, ex_mk, ex_dic, ex_dget, ex_din, ex_dpop, ex_tab, ex_sit, insD_ob, dicD_i, slT_g, es_nil, es_cons, OC.getV, List.set, bop, augop, ixn_t, ixn_l, ixn_o, ixn_q0, ixn_q1, pkI2, pkI3, pkI4, pkI5, pkI6, pkQ2, pkQ3, pkQ4, pkQ5, pkU2, pkU3, pkU4, pkU5, pkL2, pkL3, pkL4, pkL5, bi_len_l, bi_len_t, bi_len_s, bi_len_x, bi_len_o, bi_abs, bi_max2, bi_min2, bi_max3, bi_sum_l, bi_sum_o, bi_all_l, bi_all_o, bi_any_l, bi_any_o, bi_repr, bi_divmod, bi_int_i, bi_int_b, dtru, bn_name, bn_tup, bns_nil, bns_cons, if_true, if_false, Bool.false_eq_true, List.getElem?_cons_zero, List.getElem?_cons_succ, List.length_cons, List.length_nil, cm_eqI, cm_neI, cm_eqS, cm_neS, cm_ltI, cm_leI, cm_gtI, cm_geI, co_eqI, co_neI, co_ltI, co_leI, co_gtI, co_geI, cm_eqB, cm_neB, cm_eqQ, cm_neQ, mkL_t, mkL_f, viewL_l, viewS_l, viewS_t, someE, ik_l, ik_t, ik_r1, ik_r2, ik_rev, ik_enum, ik_zip, bagP_c, true_and, and_true, Bool.not_true, Bool.not_false, if_nil, if_cons, OC.wipeV, List.map_cons, List.map_nil, List.length_map, ht, take_c, tk 2 rfl, tk 4 rfl]
    try dsimp only
    rw [sq_ite]
    simp only [ex_var, ex_k, ex_bin, ex_cat, ex_neg, ex_cmp, ex_tup, ex_lst, ex_mkbag, ex_ix, ex_ixn, ex_slL, ex_slH, ex_slK, slL_g, ex_call, ex_bi, ex_isD, isi_i, isi_b, isi_s, isi_n, ex_app, ex_ext, ex_pop, ex_rev, ex_pop0, ex_chain, ex_and, ex_or, ex_not, ex_ite, ex_lc, ex_lsOf, ex_tuOf, ex_in, ex_srtI, ex_mnL, ex_mxL, ex_mnD, ex_fld, ex_meth, ex_mk, ex_dic, ex_dget, ex_din, ex_dpop, ex_tab, ex_sit, insD_ob, dicD_i, slT_g, es_nil, es_cons, OC.getV, List.set, bop, augop, ixn_t, ixn_l, ixn_o, ixn_q0, ixn_q1, pkI2, pkI3, pkI4, pkI5, pkI6, pkQ2, pkQ3, pkQ4, pkQ5, pkU2, pkU3, pkU4, pkU5, pkL2, pkL3, pkL4, pkL5, bi_len_l, bi_len_t, bi_len_s, bi_len_x, bi_len_o, bi_abs, bi_max2, bi_min2, bi_max3, bi_sum_l, bi_sum_o, bi_all_l, bi_all_o, bi_any_l, bi_any_o, bi_repr, bi_divmod, bi_int_i, bi_int_b, dtru, bn_name, bn_tup, bns_nil, bns_cons, if_true, if_false, Bool.false_eq_true, List.getElem?_cons_zero, List.getElem?_cons_succ, List.length_cons, List.length_nil, cm_eqI, cm_neI, cm_eqS, cm_neS, cm_ltI, cm_leI, cm_gtI, cm_geI, co_eqI, co_neI, co_ltI, co_leI, co_gtI, co_geI, cm_eqB, cm_neB, cm_eqQ, cm_neQ, mkL_t, mkL_f, viewL_l, viewS_l, viewS_t, someE, ik_l, ik_t, ik_r1, ik_r2, ik_rev, ik_enum, ik_zip, bagP_c, true_and, and_true, Bool.not_true, Bool.not_false, if_nil, if_cons, OC.wipeV, List.map_cons, List.map_nil, List.length_map, ht, take_c, tk 2 rfl, tk 4 rfl]
    refine ⟨tk_of (by omega) (by omega), fun d d0 d1 => ?_⟩
    refine join2 (fun G1 T1 => T1 = T.put o (.lst (us.map fun i : Nat => .int i)) ∧ ∃ b : Bool, G1 = [some D.bag, some (.int g), some (.ob o), some (.bl b), some (.int (1 + pc)), some (.int i)]) ?_ ?_
    · rintro _ _ ⟨rfl, b, rfl⟩
      try dsimp only
      rw [sq_ite]
      simp only [ex_var, ex_k, ex_bin, ex_cat, ex_neg, ex_cmp, ex_tup, ex_lst, ex_mkbag, ex_ix, ex_ixn, ex_slL, ex_slH, ex_slK, slL_g, ex_call, ex_bi, ex_isD, isi_i, isi_b, isi_s, isi_n, ex_app, ex_ext, ex_pop, ex_rev, ex_pop0, ex_chain, ex_and, ex_or, ex_not, ex_ite, ex_lc, ex_lsOf, ex_tuOf, ex_in, ex_srtI, ex_mnL, ex_mxL, ex_mnD, ex_fld, ex_meth, ex_mk, ex_dic, ex_dget, ex_din, ex_dpop, ex_tab, ex_sit, insD_ob, dicD_i, slT_g, es_nil, es_cons, OC.getV, List.set, bop, augop, ixn_t, ixn_l, ixn_o, ixn_q0, ixn_q1, pkI2, pkI3, pkI4, pkI5, pkI6, pkQ2, pkQ3, pkQ4, pkQ5, pkU2, pkU3, pkU4, pkU5, pkL2, pkL3, pkL4, pkL5, bi_len_l, bi_len_t, bi_len_s, bi_len_x, bi_len_o, bi_abs, bi_max2, bi_min2, bi_max3, bi_sum_l, bi_sum_o, bi_all_l, bi_all_o, bi_any_l, bi_any_o, bi_repr, bi_divmod, bi_int_i, bi_int_b, dtru, bn_name, bn_tup, bns_nil, bns_cons, if_true, if_false, Bool.false_eq_true, List.getElem?_cons_zero, List.getElem?_cons_succ, List.length_cons, List.length_nil, cm_eqI, cm_neI, cm_eqS, cm_neS, cm_ltI, cm_leI, cm_gtI, cm_geI, co_eqI, co_neI, co_ltI, co_leI, co_gtI, co_geI, cm_eqB, cm_neB, cm_eqQ, cm_neQ, mkL_t, mkL_f, viewL_l, viewS_l, viewS_t, someE, ik_l, ik_t, ik_r1, ik_r2, ik_rev, ik_enum, ik_zip, bagP_c, true_and, and_true, Bool.not_true, Bool.not_false, if_nil, if_cons, OC.wipeV, List.map_cons, List.map_nil, List.length_map, ht, take_c, tk 2 rfl, tk 4 rfl]
      cases b with
      | true =>
        simp only [if_true]
        simp only [ex_var, ex_k, ex_bin, ex_cat, ex_neg, ex_cmp, ex_tup, ex_lst, ex_mkbag, ex_ix, ex_ixn, ex_slL, ex_slH, ex_slK, slL_g, ex_call, ex_bi, ex_isD, isi_i, isi_b, isi_s, isi_n, ex_app, ex_ext, ex_pop, ex_rev, ex_pop0, ex_chain, ex_and, ex_or, ex_not, ex_ite, ex_lc, ex_lsOf, ex_tuOf, ex_in, ex_srtI, ex_mnL, ex_mxL, ex_mnD, ex_fld, ex_meth, ex_mk, ex_dic, ex_dget, ex_din, ex_dpop, ex_tab, ex_sit, insD_ob, dicD_i, slT_g, es_nil, es_cons, OC.getV, List.set, bop, augop, ixn_t, ixn_l, ixn_o, ixn_q0, ixn_q1, pkI2, pkI3, pkI4, pkI5, pkI6, pkQ2, pkQ3, pkQ4, pkQ5, pkU2, pkU3, pkU4, pkU5, pkL2, pkL3, pkL4, pkL5, bi_len_l, bi_len_t, bi_len_s, bi_len_x, bi_len_o, bi_abs, bi_max2, bi_min2, bi_max3, bi_sum_l, bi_sum_o, bi_all_l, bi_all_o, bi_any_l, bi_any_o, bi_repr, bi_divmod, bi_int_i, bi_int_b, dtru, bn_name, bn_tup, bns_nil, bns_cons, if_true, if_false, Bool.false_eq_true, List.getElem?_cons_zero, List.getElem?_cons_succ, List.length_cons, List.length_nil, cm_eqI, cm_neI, cm_eqS, cm_neS, cm_ltI, cm_leI, cm_gtI, cm_geI, co_eqI, co_neI, co_ltI, co_leI, co_gtI, co_geI, cm_eqB, cm_neB, cm_eqQ, cm_neQ, mkL_t, mkL_f, viewL_l, viewS_l, viewS_t, someE, ik_l, ik_t, ik_r1, ik_r2, ik_rev, ik_enum, ik_zip, bagP_c, true_and, and_true, Bool.not_true, Bool.not_false, if_nil, if_cons, OC.wipeV, List.map_cons, List.map_nil, List.length_map, ht, take_c, tk 2 rfl, tk 4 rfl, sq_asg, sq_par, sq_par3, sq_ret, sq_retN, sq_drop, sq_unp, sq_unpL, sq_pass, sq_nil]
        refine ⟨⟨_, put_same⟩, _, put_same, by rw [List.length_map]; omega, hnx _ _ ⟨by rw [List.length_append]; simpa [Nat.add_assoc, Nat.add_comm, Nat.add_left_comm] using hle, by rw [List.append_assoc]; exact hps, us ++ [i], hus.append (List.Sublist.refl _), ?_, _, _, rfl⟩⟩
        rw [put_put, List.map_append]
        rfl
      | false =>
        simp only [if_false, Bool.false_eq_true]
        simp only [ex_var, ex_k, ex_bin, ex_cat, ex_neg, ex_cmp, ex_tup, ex_lst, ex_mkbag, ex_ix, ex_ixn, ex_slL, ex_slH, ex_slK, slL_g, ex_call, ex_bi, ex_isD, isi_i, isi_b, isi_s, isi_n, ex_app, ex_ext, ex_pop, ex_rev, ex_pop0, ex_chain, ex_and, ex_or, ex_not, ex_ite, ex_lc, ex_lsOf, ex_tuOf, ex_in, ex_srtI, ex_mnL, ex_mxL, ex_mnD, ex_fld, ex_meth, ex_mk, ex_dic, ex_dget, ex_din, ex_dpop, ex_tab, ex_sit, insD_ob, dicD_i, slT_g, es_nil, es_cons, OC.getV, List.set, bop, augop, ixn_t, ixn_l, ixn_o, ixn_q0, ixn_q1, pkI2, pkI3, pkI4, pkI5, pkI6, pkQ2, pkQ3, pkQ4, pkQ5, pkU2, pkU3, pkU4, pkU5, pkL2, pkL3, pkL4, pkL5, bi_len_l, bi_len_t, bi_len_s, bi_len_x, bi_len_o, bi_abs, bi_max2, bi_min2, bi_max3, bi_sum_l, bi_sum_o, bi_all_l, bi_all_o, bi_any_l, bi_any_o, bi_repr, bi_divmod, bi_int_i, bi_int_b, dtru, bn_name, bn_tup, bns_nil, bns_cons, if_true, if_false, Bool.false_eq_true, List.getElem?_cons_zero, List.getElem?_cons_succ, List.length_cons, List.length_nil, cm_eqI, cm_neI, cm_eqS, cm_neS, cm_ltI, cm_leI, cm_gtI, cm_geI, co_eqI, co_neI, co_ltI, co_leI, co_gtI, co_geI, cm_eqB, cm_neB, cm_eqQ, cm_neQ, mkL_t, mkL_f, viewL_l, viewS_l, viewS_t, someE, ik_l, ik_t, ik_r1, ik_r2, ik_rev, ik_enum, ik_zip, bagP_c, true_and, and_true, Bool.not_true, Bool.not_false, if_nil, if_cons, OC.wipeV, List.map_cons, List.map_nil, List.length_map, ht, take_c, tk 2 rfl, tk 4 rfl, sq_asg, sq_par, sq_par3, sq_ret, sq_retN, sq_drop, sq_unp, sq_unpL, sq_pass, sq_nil]
        exact hnx _ _ ⟨by rw [List.length_append]; simpa [Nat.add_assoc, Nat.add_comm, Nat.add_left_comm] using hle, by rw [List.append_assoc]; exact hps, us, hus.trans (List.sublist_append_left _ _), rfl, _, _, rfl⟩
    · intro J hJ
      split
      · skip
        simp only [ex_var, ex_k, ex_bin, ex_cat, ex_neg, ex_cmp, ex_tup, ex_lst, ex_mkbag, ex_ix, ex_ixn, ex_slL, ex_slH, ex_slK, slL_g, ex_call, ex_bi, ex_isD, isi_i, isi_b, isi_s, isi_n, ex_app, ex_ext, ex_pop, ex_rev, ex_pop0, ex_chain, ex_and, ex_or, ex_not, ex_ite, ex_lc, ex_lsOf, ex_tuOf, ex_in, ex_srtI, ex_mnL, ex_mxL, ex_mnD, ex_fld, ex_meth, ex_mk, ex_dic, ex_dget, ex_din, ex_dpop, ex_tab, ex_sit, insD_ob, dicD_i, slT_g, es_nil, es_cons, OC.getV, List.set, bop, augop, ixn_t, ixn_l, ixn_o, ixn_q0, ixn_q1, pkI2, pkI3, pkI4, pkI5, pkI6, pkQ2, pkQ3, pkQ4, pkQ5, pkU2, pkU3, pkU4, pkU5, pkL2, pkL3, pkL4, pkL5, bi_len_l, bi_len_t, bi_len_s, bi_len_x, bi_len_o, bi_abs, bi_max2, bi_min2, bi_max3, bi_sum_l, bi_sum_o, bi_all_l, bi_all_o, bi_any_l, bi_any_o, bi_repr, bi_divmod, bi_int_i, bi_int_b, dtru, bn_name, bn_tup, bns_nil, bns_cons, if_true, if_false, Bool.false_eq_true, List.getElem?_cons_zero, List.getElem?_cons_succ, List.length_cons, List.length_nil, cm_eqI, cm_neI, cm_eqS, cm_neS, cm_ltI, cm_leI, cm_gtI, cm_geI, co_eqI, co_neI, co_ltI, co_leI, co_gtI, co_geI, cm_eqB, cm_neB, cm_eqQ, cm_neQ, mkL_t, mkL_f, viewL_l, viewS_l, viewS_t, someE, ik_l, ik_t, ik_r1, ik_r2, ik_rev, ik_enum, ik_zip, bagP_c, true_and, and_true, Bool.not_true, Bool.not_false, if_nil, if_cons, OC.wipeV, List.map_cons, List.map_nil, List.length_map, ht, take_c, tk 2 rfl, tk 4 rfl, sq_asg, sq_par, sq_par3, sq_ret, sq_retN, sq_drop, sq_unp, sq_unpL, sq_pass, sq_nil]
        exact hJ _ _ ⟨rfl, _, rfl⟩
      · skip
        simp only [ex_var, ex_k, ex_bin, ex_cat, ex_neg, ex_cmp, ex_tup, ex_lst, ex_mkbag, ex_ix, ex_ixn, ex_slL, ex_slH, ex_slK, slL_g, ex_call, ex_bi, ex_isD, isi_i, isi_b, isi_s, isi_n, ex_app, ex_ext, ex_pop, ex_rev, ex_pop0, ex_chain, ex_and, ex_or, ex_not, ex_ite, ex_lc, ex_lsOf, ex_tuOf, ex_in, ex_srtI, ex_mnL, ex_mxL, ex_mnD, ex_fld, ex_meth, ex_mk, ex_dic, ex_dget, ex_din, ex_dpop, ex_tab, ex_sit, insD_ob, dicD_i, slT_g, es_nil, es_cons, OC.getV, List.set, bop, augop, ixn_t, ixn_l, ixn_o, ixn_q0, ixn_q1, pkI2, pkI3, pkI4, pkI5, pkI6, pkQ2, pkQ3, pkQ4, pkQ5, pkU2, pkU3, pkU4, pkU5, pkL2, pkL3, pkL4, pkL5, bi_len_l, bi_len_t, bi_len_s, bi_len_x, bi_len_o, bi_abs, bi_max2, bi_min2, bi_max3, bi_sum_l, bi_sum_o, bi_all_l, bi_all_o, bi_any_l, bi_any_o, bi_repr, bi_divmod, bi_int_i, bi_int_b, dtru, bn_name, bn_tup, bns_nil, bns_cons, if_true, if_false, Bool.false_eq_true, List.getElem?_cons_zero, List.getElem?_cons_succ, List.length_cons, List.length_nil, cm_eqI, cm_neI, cm_eqS, cm_neS, cm_ltI, cm_leI, cm_gtI, cm_geI, co_eqI, co_neI, co_ltI, co_leI, co_gtI, co_geI, cm_eqB, cm_neB, cm_eqQ, cm_neQ, mkL_t, mkL_f, viewL_l, viewS_l, viewS_t, someE, ik_l, ik_t, ik_r1, ik_r2, ik_rev, ik_enum, ik_zip, bagP_c, true_and, and_true, Bool.not_true, Bool.not_false, if_nil, if_cons, OC.wipeV, List.map_cons, List.map_nil, List.length_map, ht, take_c, tk 2 rfl, tk 4 rfl, sq_asg, sq_par, sq_par3, sq_ret, sq_retN, sq_drop, sq_unp, sq_unpL, sq_pass, sq_nil]
        exact hJ _ _ ⟨rfl, _, rfl⟩
  · rintro ps G T1 ⟨hle, hps, us, hus, rfl, b, o5, rfl⟩
    rw [List.append_nil] at hps
    subst hps
    dsimp only
    rw [sq_frz (a := o) rfl]
    refine ⟨_, put_same, ?_⟩
    simp only [ex_var, ex_k, ex_bin, ex_cat, ex_neg, ex_cmp, ex_tup, ex_lst, ex_mkbag, ex_ix, ex_ixn, ex_slL, ex_slH, ex_slK, slL_g, ex_call, ex_bi, ex_isD, isi_i, isi_b, isi_s, isi_n, ex_app, ex_ext, ex_pop, ex_rev, ex_pop0, ex_chain, ex_and, ex_or, ex_not, ex_ite, ex_lc, ex_lsOf, ex_tuOf, ex_in, ex_srtI, ex_mnL, ex_mxL, ex_mnD, ex_fld, ex_meth, ex_mk, ex_dic, ex_dget, ex_din, ex_dpop, ex_tab, ex_sit, insD_ob, dicD_i, slT_g, es_nil, es_cons, OC.getV, List.set, bop, augop, ixn_t, ixn_l, ixn_o, ixn_q0, ixn_q1, pkI2, pkI3, pkI4, pkI5, pkI6, pkQ2, pkQ3, pkQ4, pkQ5, pkU2, pkU3, pkU4, pkU5, pkL2, pkL3, pkL4, pkL5, bi_len_l, bi_len_t, bi_len_s, bi_len_x, bi_len_o, bi_abs, bi_max2, bi_min2, bi_max3, bi_sum_l, bi_sum_o, bi_all_l, bi_all_o, bi_any_l, bi_any_o, bi_repr, bi_divmod, bi_int_i, bi_int_b, dtru, bn_name, bn_tup, bns_nil, bns_cons, if_true, if_false, Bool.false_eq_true, List.getElem?_cons_zero, List.getElem?_cons_succ, List.length_cons, List.length_nil, cm_eqI, cm_neI, cm_eqS, cm_neS, cm_ltI, cm_leI, cm_gtI, cm_geI, co_eqI, co_neI, co_ltI, co_leI, co_gtI, co_geI, cm_eqB, cm_neB, cm_eqQ, cm_neQ, mkL_t, mkL_f, viewL_l, viewS_l, viewS_t, someE, ik_l, ik_t, ik_r1, ik_r2, ik_rev, ik_enum, ik_zip, bagP_c, true_and, and_true, Bool.not_true, Bool.not_false, if_nil, if_cons, OC.wipeV, List.map_cons, List.map_nil, List.length_map, ht, take_c, tk 2 rfl, tk 4 rfl, sq_asg, sq_par, sq_par3, sq_ret, sq_retN, sq_drop, sq_unp, sq_unpL, sq_pass, sq_nil]
    rw [cut_put ho]
    exact ret_here (hq us hus)
def formC : Ct := fnc 2 (fun p : List Nat × Nat => [encU p.1, .int p.2]) (fun p => 0 < p.2 ∧ p.2 ≤ 1000 ∧ p.1.length ≤ 100000) fun p => encS (formQ p.1 p.2)
theorem form_c {T : TS} {Q : QD} {X : XD} {us : List Nat} {g : Nat} : formC.c [encU us, .int g] T Q X = ((0 < g ∧ g ≤ 1000 ∧ us.length ≤ 100000) ∧ Q (encS (formQ us g)) T) := fnc_cI (x := (us, g)) fun x y h => by
  simp only [List.cons.injEq, D.int.injEq, and_true] at h
  exact Prod.ext (encU_inj h.1) (by omega)
def encI (p : Nat × Nat) : D := .tup [.int p.1, .int p.2]
theorem runs_len {us : List Nat} : ∀ n, (runsF us n).length ≤ n
  | 0 => Nat.le_refl _
  | n + 1 => by
    have := runs_len (us := us) n
    rw [runsF_succ]
    unfold stepF
    split
    · split
      · split
        · rw [List.length_append, List.length_dropLast]
          simp only [List.length_cons, List.length_nil]
          omega
        · rw [List.length_append]
          simp only [List.length_cons, List.length_nil]
          omega
      · simp
    · omega
theorem bn_I {i j : Nat} {p : Nat × Nat} {G : GV} : bindN (.tup [.name i, .name j]) (encI p) G = some ((G.set i (some (.int p.1))).set j (some (.int p.2))) := bn_2
theorem pd_I {n : Nat} {p : Nat × Nat} : Pd (n + 1) (encI p) := pd_tup fun d hd => by
  simp only [List.mem_cons, List.not_mem_nil, or_false] at hd
  rcases hd with rfl | rfl <;> exact pd_int
theorem ixn_I0 {p : Nat × Nat} {T : TS} {Q : QD} : ixnD 0 (encI p) T Q = Q (.int p.1) T := by first | exact propext Iff.rfl
theorem ixn_I1 {p : Nat × Nat} {T : TS} {Q : QD} : ixnD 1 (encI p) T Q = Q (.int p.2) T := by first | exact propext Iff.rfl
theorem ixN_last {α : Type} {l : List α} {x : α} : ixN (l ++ [x]).length (-1) = some l.length := by
  unfold ixN
  rw [if_neg (by decide), if_pos (by rw [List.length_append, List.length_singleton]; omega), List.length_append, List.length_singleton]
  congr 1
  omega
theorem atI_last {α : Type} {l : List α} {x : α} : atI (l ++ [x]) (-1) = some x := by
  unfold atI
  rw [ixN_last]
  simp
def b_form (ν : Nat → Str) (l : Nat) : List S := [.st (asgS 2) [.op (lstS true) []], .forS (.name 3) rng1I [.var 1] [.ite (.op (inS true) [.var 3, .var 0]) [.ite (.andv (.op (cmpS .ne) [.var 2, .op (lstS false) []]) (.op (cmpS .eq) [.op (ixnS 1) [.op ixS [.var 2, .op negS [.op (kS (.int 1)) []]]], .var 3])) [.st setixS [.op tupS [.op (ixnS 0) [.op ixS [.var 2, .op negS [.op (kS (.int 1)) []]]], .op (binS .add) [.var 3, .op (kS (.int 1)) []]], .var 2, .op negS [.op (kS (.int 1)) []]]] [.st dropS [.mth appS (.var 2) [.op tupS [.var 3, .op (binS .add) [.var 3, .op (kS (.int 1)) []]]]]]] []], .gh (frzG 2), .st retS [.lc false (.op tupS [.op (callS l) [.var 4, .var 1], .op (callS l) [.var 5, .var 1]]) (.tup [.name 4, .name 5]) lstI [.var 2] [] [(ν 4, 4), (ν 5, 5)]]]
theorem form_ok {F : List Ct} {ν : Nat → Str} {l : Nat} (hl : F[l]? = some lowestC) : ∀ ds T Q X, (formC).c ds T Q X → wpBody F 6 (b_form ν l) ds T Q X := by
  rintro _ T Q X ⟨⟨us, g⟩, rfl, ⟨g0, g1, hul⟩, hq⟩
  dsimp only at g0 g1 hul hq ⊢
  unfold b_form
  simp only [wpBody, start0, List.map_cons, List.map_nil, List.length, List.replicate, List.cons_append, List.nil_append, Nat.reduceAdd, Nat.reduceSub]
  try dsimp only
  try dsimp only
  rw [sq_asg]
  simp only [ex_var, ex_k, ex_bin, ex_cat, ex_neg, ex_cmp, ex_tup, ex_lst, ex_mkbag, ex_ix, ex_ixn, ex_slL, ex_slH, ex_slK, slL_g, ex_call, ex_bi, ex_isD, isi_i, isi_b, isi_s, isi_n, ex_app, ex_ext, ex_pop, ex_rev, ex_pop0, ex_chain, ex_and, ex_or, ex_not, ex_ite, ex_lc, ex_lsOf, ex_tuOf, ex_in, ex_srtI, ex_mnL, ex_mxL, ex_mnD, ex_fld, ex_meth, ex_mk, ex_dic, ex_dget, ex_din, ex_dpop, ex_tab, ex_sit, insD_ob, dicD_i, slT_g, es_nil, es_cons, OC.getV, List.set, bop, augop, ixn_t, ixn_l, ixn_o, ixn_q0, ixn_q1, pkI2, pkI3, pkI4, pkI5, pkI6, pkQ2, pkQ3, pkQ4, pkQ5, pkU2, pkU3, pkU4, pkU5, pkL2, pkL3, pkL4, pkL5, bi_len_l, bi_len_t, bi_len_s, bi_len_x, bi_len_o, bi_abs, bi_max2, bi_min2, bi_max3, bi_sum_l, bi_sum_o, bi_all_l, bi_all_o, bi_any_l, bi_any_o, bi_repr, bi_divmod, bi_int_i, bi_int_b, dtru, bn_name, bn_tup, bns_nil, bns_cons, if_true, if_false, Bool.false_eq_true, List.getElem?_cons_zero, List.getElem?_cons_succ, List.length_cons, List.length_nil, cm_eqI, cm_neI, cm_eqS, cm_neS, cm_ltI, cm_leI, cm_gtI, cm_geI, co_eqI, co_neI, co_ltI, co_leI, co_gtI, co_geI, cm_eqB, cm_neB, cm_eqQ, cm_neQ, mkL_t, mkL_f, viewL_l, viewS_l, viewS_t, someE, ik_l, ik_t, ik_r1, ik_r2, ik_rev, ik_enum, ik_zip, bagP_c, true_and, and_true, Bool.not_true, Bool.not_false, if_nil, if_cons, OC.wipeV, List.map_cons, List.map_nil, List.length_map, hl, lowest_c]
  intro o ho
  try dsimp only
  rw [sq_for]
  simp only [ex_var, ex_k, ex_bin, ex_cat, ex_neg, ex_cmp, ex_tup, ex_lst, ex_mkbag, ex_ix, ex_ixn, ex_slL, ex_slH, ex_slK, slL_g, ex_call, ex_bi, ex_isD, isi_i, isi_b, isi_s, isi_n, ex_app, ex_ext, ex_pop, ex_rev, ex_pop0, ex_chain, ex_and, ex_or, ex_not, ex_ite, ex_lc, ex_lsOf, ex_tuOf, ex_in, ex_srtI, ex_mnL, ex_mxL, ex_mnD, ex_fld, ex_meth, ex_mk, ex_dic, ex_dget, ex_din, ex_dpop, ex_tab, ex_sit, insD_ob, dicD_i, slT_g, es_nil, es_cons, OC.getV, List.set, bop, augop, ixn_t, ixn_l, ixn_o, ixn_q0, ixn_q1, pkI2, pkI3, pkI4, pkI5, pkI6, pkQ2, pkQ3, pkQ4, pkQ5, pkU2, pkU3, pkU4, pkU5, pkL2, pkL3, pkL4, pkL5, bi_len_l, bi_len_t, bi_len_s, bi_len_x, bi_len_o, bi_abs, bi_max2, bi_min2, bi_max3, bi_sum_l, bi_sum_o, bi_all_l, bi_all_o, bi_any_l, bi_any_o, bi_repr, bi_divmod, bi_int_i, bi_int_b, dtru, bn_name, bn_tup, bns_nil, bns_cons, if_true, if_false, Bool.false_eq_true, List.getElem?_cons_zero, List.getElem?_cons_succ, List.length_cons, List.length_nil, cm_eqI, cm_neI, cm_eqS, cm_neS, cm_ltI, cm_leI, cm_gtI, cm_geI, co_eqI, co_neI, co_ltI, co_leI, co_gtI, co_geI, cm_eqB, cm_neB, cm_eqQ, cm_neQ, mkL_t, mkL_f, viewL_l, viewS_l, viewS_t, someE, ik_l, ik_t, ik_r1, ik_r2, ik_rev, ik_enum, ik_zip, bagP_c, true_and, and_true, Bool.not_true, Bool.not_false, if_nil, if_cons, OC.wipeV, List.map_cons, List.map_nil, List.length_map, hl, lowest_c, rng0]
  rw [show ((g : Nat) : Int).toNat = g from rfl]
  refine ⟨by omega, for_enc (fun i : Nat => D.int i) (fun ps rs G T1 => ps ++ rs = List.range g ∧ T1 = T.put o (.lst ((ps.foldl (stepF us) []).map encI)) ∧ ∃ (o3 o4 o5 : Option D), G = [some (encU us), some (.int g), some (.ob o), o3, o4, o5]) ?_ ?_ (List.range g) [] _ _ ⟨rfl, rfl, _, _, _, rfl⟩⟩
  · rintro ps i rs G T1 ⟨hps, rfl, o3, o4, o5, rfl⟩ nx hnx
    have hi : ps = List.range i := by
      have e : ps = (List.range g).take ps.length := by rw [← hps, List.take_left]
      have hpl : ps.length + (i :: rs).length = g := by rw [← List.length_append, hps, List.length_range]
      have e2 : (List.range g)[ps.length]? = some i := by
        rw [← hps, List.getElem?_append_right (Nat.le_refl _), Nat.sub_self]
        rfl
      rw [List.length_cons] at hpl
      rw [List.getElem?_range (by omega)] at e2
      cases e2
      rw [List.take_range] at e
      rw [Nat.min_eq_left (by omega)] at e
      exact e
    have hacc : ps.foldl (stepF us) [] = runsF us i := by rw [hi]; rfl
    have hnx2 : ∀ o4 o5, nx [some (encU us), some (.int g), some (.ob o), some (.int i), o4, o5] (T.put o (.lst ((stepF us (runsF us i) i).map encI))) := fun o4 o5 => hnx _ _ ⟨by rw [List.append_assoc]; exact hps, by rw [List.foldl_append, hacc]; rfl, _, _, _, rfl⟩
    have hig : i < g := by
      have : i ∈ List.range g := by rw [← hps]; simp
      exact List.mem_range.mp this
    have hrl := runs_len (us := us) i
    rw [hacc]
    try simp only [ex_var, ex_k, ex_bin, ex_cat, ex_neg, ex_cmp, ex_tup, ex_lst, ex_mkbag, ex_ix, ex_ixn, ex_slL, ex_slH, ex_slK, slL_g, ex_call, ex_bi, ex_isD, isi_i, isi_b, isi_s, isi_n, ex_app, ex_ext, ex_pop, ex_rev, ex_pop0, ex_chain, ex_and, ex_or, ex_not, ex_ite, ex_lc, ex_lsOf, ex_tuOf, ex_in, ex_srtI, ex_mnL, ex_mxL, ex_mnD, ex_fld, ex_meth, ex_mk, ex_dic, ex_dget, ex_din, ex_dpop, ex_tab, ex_sit, insD_ob, dicD_i, slT_g, es_nil, es_cons, OC.getV, List.set, bop, augop, ixn_t, ixn_l, ixn_o, ixn_q0, ixn_q1, pkI2, pkI3, pkI4, pkI5, pkI6, pkQ2, pkQ3, pkQ4, pkQ5, pkU2, pkU3, pkU4, pkU5, pkL2, pkL3, pkL4, pkL5, bi_len_l, bi_len_t, bi_len_s, bi_len_x, bi_len_o, bi_abs, bi_max2, bi_min2, bi_max3, bi_sum_l, bi_sum_o, bi_all_l, bi_all_o, bi_any_l, bi_any_o, bi_repr, bi_divmod, bi_int_i, bi_int_b, dtru, bn_name, bn_tup, bns_nil, bns_cons, if_true, if_false, Bool.false_eq_true, List.getElem?_cons_zero, List.getElem?_cons_succ, List.length_cons, List.length_nil, cm_eqI, cm_neI, cm_eqS, cm_neS, cm_ltI, cm_leI, cm_gtI, cm_geI, co_eqI, co_neI, co_ltI, co_leI, co_gtI, co_geI, cm_eqB, cm_neB, cm_eqQ, cm_neQ, mkL_t, mkL_f, viewL_l, viewS_l, viewS_t, someE, ik_l, ik_t, ik_r1, ik_r2, ik_rev, ik_enum, ik_zip, bagP_c, true_and, and_true, Bool.not_true, Bool.not_false, if_nil, if_cons, OC.wipeV, List.map_cons, List.map_nil, List.length_map, hl, lowest_c]
    try dsimp only
    rw [sq_ite]
    simp only [ex_var, ex_k, ex_bin, ex_cat, ex_neg, ex_cmp, ex_tup, ex_lst, ex_mkbag, ex_ix, ex_ixn, ex_slL, ex_slH, ex_slK, slL_g, ex_call, ex_bi, ex_isD, isi_i, isi_b, isi_s, isi_n, ex_app, ex_ext, ex_pop, ex_rev, ex_pop0, ex_chain, ex_and, ex_or, ex_not, ex_ite, ex_lc, ex_lsOf, ex_tuOf, ex_in, ex_srtI, ex_mnL, ex_mxL, ex_mnD, ex_fld, ex_meth, ex_mk, ex_dic, ex_dget, ex_din, ex_dpop, ex_tab, ex_sit, insD_ob, dicD_i, slT_g, es_nil, es_cons, OC.getV, List.set, bop, augop, ixn_t, ixn_l, ixn_o, ixn_q0, ixn_q1, pkI2, pkI3, pkI4, pkI5, pkI6, pkQ2, pkQ3, pkQ4, pkQ5, pkU2, pkU3, pkU4, pkU5, pkL2, pkL3, pkL4, pkL5, bi_len_l, bi_len_t, bi_len_s, bi_len_x, bi_len_o, bi_abs, bi_max2, bi_min2, bi_max3, bi_sum_l, bi_sum_o, bi_all_l, bi_all_o, bi_any_l, bi_any_o, bi_repr, bi_divmod, bi_int_i, bi_int_b, dtru, bn_name, bn_tup, bns_nil, bns_cons, if_true, if_false, Bool.false_eq_true, List.getElem?_cons_zero, List.getElem?_cons_succ, List.length_cons, List.length_nil, cm_eqI, cm_neI, cm_eqS, cm_neS, cm_ltI, cm_leI, cm_gtI, cm_geI, co_eqI, co_neI, co_ltI, co_leI, co_gtI, co_geI, cm_eqB, cm_neB, cm_eqQ, cm_neQ, mkL_t, mkL_f, viewL_l, viewS_l, viewS_t, someE, ik_l, ik_t, ik_r1, ik_r2, ik_rev, ik_enum, ik_zip, bagP_c, true_and, and_true, Bool.not_true, Bool.not_false, if_nil, if_cons, OC.wipeV, List.map_cons, List.map_nil, List.length_map, hl, lowest_c]
    refine in_ints (ns := us.map fun i : Nat => (i : Int)) (by unfold encU; rw [List.map_map]; rfl) ?_
    have hm : (decide ((i : Int) ∈ us.map fun i : Nat => (i : Int)) == true) = decide (i ∈ us) := by
      rw [beq_true]
      refine decide_eq_decide.mpr ?_
      rw [List.mem_map]
      constructor
      · rintro ⟨a, ha, e⟩
        rw [show i = a by omega]
        exact ha
      · exact fun h => ⟨i, h, rfl⟩
    rw [hm]
    have hpd : ∀ x ∈ (runsF us i).map encI, Pd 5 x := fun x hx => by
      obtain ⟨p, _, rfl⟩ := List.mem_map.mp hx
      exact pd_I
    by_cases c : i ∈ us
    · rw [decide_eq_true c]
      try simp only [ex_var, ex_k, ex_bin, ex_cat, ex_neg, ex_cmp, ex_tup, ex_lst, ex_mkbag, ex_ix, ex_ixn, ex_slL, ex_slH, ex_slK, slL_g, ex_call, ex_bi, ex_isD, isi_i, isi_b, isi_s, isi_n, ex_app, ex_ext, ex_pop, ex_rev, ex_pop0, ex_chain, ex_and, ex_or, ex_not, ex_ite, ex_lc, ex_lsOf, ex_tuOf, ex_in, ex_srtI, ex_mnL, ex_mxL, ex_mnD, ex_fld, ex_meth, ex_mk, ex_dic, ex_dget, ex_din, ex_dpop, ex_tab, ex_sit, insD_ob, dicD_i, slT_g, es_nil, es_cons, OC.getV, List.set, bop, augop, ixn_t, ixn_l, ixn_o, ixn_q0, ixn_q1, pkI2, pkI3, pkI4, pkI5, pkI6, pkQ2, pkQ3, pkQ4, pkQ5, pkU2, pkU3, pkU4, pkU5, pkL2, pkL3, pkL4, pkL5, bi_len_l, bi_len_t, bi_len_s, bi_len_x, bi_len_o, bi_abs, bi_max2, bi_min2, bi_max3, bi_sum_l, bi_sum_o, bi_all_l, bi_all_o, bi_any_l, bi_any_o, bi_repr, bi_divmod, bi_int_i, bi_int_b, dtru, bn_name, bn_tup, bns_nil, bns_cons, if_true, if_false, Bool.false_eq_true, List.getElem?_cons_zero, List.getElem?_cons_succ, List.length_cons, List.length_nil, cm_eqI, cm_neI, cm_eqS, cm_neS, cm_ltI, cm_leI, cm_gtI, cm_geI, co_eqI, co_neI, co_ltI, co_leI, co_gtI, co_geI, cm_eqB, cm_neB, cm_eqQ, cm_neQ, mkL_t, mkL_f, viewL_l, viewS_l, viewS_t, someE, ik_l, ik_t, ik_r1, ik_r2, ik_rev, ik_enum, ik_zip, bagP_c, true_and, and_true, Bool.not_true, Bool.not_false, if_nil, if_cons, OC.wipeV, List.map_cons, List.map_nil, List.length_map, hl, lowest_c]
      try dsimp only
      rw [sq_ite]
      simp only [ex_var, ex_k, ex_bin, ex_cat, ex_neg, ex_cmp, ex_tup, ex_lst, ex_mkbag, ex_ix, ex_ixn, ex_slL, ex_slH, ex_slK, slL_g, ex_call, ex_bi, ex_isD, isi_i, isi_b, isi_s, isi_n, ex_app, ex_ext, ex_pop, ex_rev, ex_pop0, ex_chain, ex_and, ex_or, ex_not, ex_ite, ex_lc, ex_lsOf, ex_tuOf, ex_in, ex_srtI, ex_mnL, ex_mxL, ex_mnD, ex_fld, ex_meth, ex_mk, ex_dic, ex_dget, ex_din, ex_dpop, ex_tab, ex_sit, insD_ob, dicD_i, slT_g, es_nil, es_cons, OC.getV, List.set, bop, augop, ixn_t, ixn_l, ixn_o, ixn_q0, ixn_q1, pkI2, pkI3, pkI4, pkI5, pkI6, pkQ2, pkQ3, pkQ4, pkQ5, pkU2, pkU3, pkU4, pkU5, pkL2, pkL3, pkL4, pkL5, bi_len_l, bi_len_t, bi_len_s, bi_len_x, bi_len_o, bi_abs, bi_max2, bi_min2, bi_max3, bi_sum_l, bi_sum_o, bi_all_l, bi_all_o, bi_any_l, bi_any_o, bi_repr, bi_divmod, bi_int_i, bi_int_b, dtru, bn_name, bn_tup, bns_nil, bns_cons, if_true, if_false, Bool.false_eq_true, List.getElem?_cons_zero, List.getElem?_cons_succ, List.length_cons, List.length_nil, cm_eqI, cm_neI, cm_eqS, cm_neS, cm_ltI, cm_leI, cm_gtI, cm_geI, co_eqI, co_neI, co_ltI, co_leI, co_gtI, co_geI, cm_eqB, cm_neB, cm_eqQ, cm_neQ, mkL_t, mkL_f, viewL_l, viewS_l, viewS_t, someE, ik_l, ik_t, ik_r1, ik_r2, ik_rev, ik_enum, ik_zip, bagP_c, true_and, and_true, Bool.not_true, Bool.not_false, if_nil, if_cons, OC.wipeV, List.map_cons, List.map_nil, List.length_map, hl, lowest_c]
      refine cm_ob (.inr rfl) put_same hpd (cm_neN hpd (by decide) ?_)
      unfold stepF at hnx2
      rw [if_pos c] at hnx2
      rcases List.eq_nil_or_concat (runsF us i) with e | ⟨m, p, e⟩
      · rw [e] at hnx2 ⊢
        simp only [List.map_nil, List.isEmpty_nil, Bool.not_true, Bool.false_eq_true, if_false]
        simp only [ex_var, ex_k, ex_bin, ex_cat, ex_neg, ex_cmp, ex_tup, ex_lst, ex_mkbag, ex_ix, ex_ixn, ex_slL, ex_slH, ex_slK, slL_g, ex_call, ex_bi, ex_isD, isi_i, isi_b, isi_s, isi_n, ex_app, ex_ext, ex_pop, ex_rev, ex_pop0, ex_chain, ex_and, ex_or, ex_not, ex_ite, ex_lc, ex_lsOf, ex_tuOf, ex_in, ex_srtI, ex_mnL, ex_mxL, ex_mnD, ex_fld, ex_meth, ex_mk, ex_dic, ex_dget, ex_din, ex_dpop, ex_tab, ex_sit, insD_ob, dicD_i, slT_g, es_nil, es_cons, OC.getV, List.set, bop, augop, ixn_t, ixn_l, ixn_o, ixn_q0, ixn_q1, pkI2, pkI3, pkI4, pkI5, pkI6, pkQ2, pkQ3, pkQ4, pkQ5, pkU2, pkU3, pkU4, pkU5, pkL2, pkL3, pkL4, pkL5, bi_len_l, bi_len_t, bi_len_s, bi_len_x, bi_len_o, bi_abs, bi_max2, bi_min2, bi_max3, bi_sum_l, bi_sum_o, bi_all_l, bi_all_o, bi_any_l, bi_any_o, bi_repr, bi_divmod, bi_int_i, bi_int_b, dtru, bn_name, bn_tup, bns_nil, bns_cons, if_true, if_false, Bool.false_eq_true, List.getElem?_cons_zero, List.getElem?_cons_succ, List.length_cons, List.length_nil, cm_eqI, cm_neI, cm_eqS, cm_neS, cm_ltI, cm_leI, cm_gtI, cm_geI, co_eqI, co_neI, co_ltI, co_leI, co_gtI, co_geI, cm_eqB, cm_neB, cm_eqQ, cm_neQ, mkL_t, mkL_f, viewL_l, viewS_l, viewS_t, someE, ik_l, ik_t, ik_r1, ik_r2, ik_rev, ik_enum, ik_zip, bagP_c, true_and, and_true, Bool.not_true, Bool.not_false, if_nil, if_cons, OC.wipeV, List.map_cons, List.map_nil, List.length_map, hl, lowest_c, sq_asg, sq_par, sq_par3, sq_ret, sq_retN, sq_drop, sq_unp, sq_unpL, sq_pass, sq_nil]
        refine ⟨⟨_, put_same⟩, _, put_same, by decide, ?_⟩
        rw [put_put]
        exact hnx2 _ _
      · rw [List.concat_eq_append] at e
        rw [e, List.getLast?_concat, List.dropLast_concat] at hnx2
        rw [e] at hrl ⊢
        rw [List.length_append, List.length_singleton] at hrl
        dsimp only at hnx2
        rw [List.map_append, show [p].map encI = [encI p] from rfl]
        rw [show (!(m.map encI ++ [encI p]).isEmpty) = true by cases m <;> rfl]
        try simp only [ex_var, ex_k, ex_bin, ex_cat, ex_neg, ex_cmp, ex_tup, ex_lst, ex_mkbag, ex_ix, ex_ixn, ex_slL, ex_slH, ex_slK, slL_g, ex_call, ex_bi, ex_isD, isi_i, isi_b, isi_s, isi_n, ex_app, ex_ext, ex_pop, ex_rev, ex_pop0, ex_chain, ex_and, ex_or, ex_not, ex_ite, ex_lc, ex_lsOf, ex_tuOf, ex_in, ex_srtI, ex_mnL, ex_mxL, ex_mnD, ex_fld, ex_meth, ex_mk, ex_dic, ex_dget, ex_din, ex_dpop, ex_tab, ex_sit, insD_ob, dicD_i, slT_g, es_nil, es_cons, OC.getV, List.set, bop, augop, ixn_t, ixn_l, ixn_o, ixn_q0, ixn_q1, pkI2, pkI3, pkI4, pkI5, pkI6, pkQ2, pkQ3, pkQ4, pkQ5, pkU2, pkU3, pkU4, pkU5, pkL2, pkL3, pkL4, pkL5, bi_len_l, bi_len_t, bi_len_s, bi_len_x, bi_len_o, bi_abs, bi_max2, bi_min2, bi_max3, bi_sum_l, bi_sum_o, bi_all_l, bi_all_o, bi_any_l, bi_any_o, bi_repr, bi_divmod, bi_int_i, bi_int_b, dtru, bn_name, bn_tup, bns_nil, bns_cons, if_true, if_false, Bool.false_eq_true, List.getElem?_cons_zero, List.getElem?_cons_succ, List.length_cons, List.length_nil, cm_eqI, cm_neI, cm_eqS, cm_neS, cm_ltI, cm_leI, cm_gtI, cm_geI, co_eqI, co_neI, co_ltI, co_leI, co_gtI, co_geI, cm_eqB, cm_neB, cm_eqQ, cm_neQ, mkL_t, mkL_f, viewL_l, viewS_l, viewS_t, someE, ik_l, ik_t, ik_r1, ik_r2, ik_rev, ik_enum, ik_zip, bagP_c, true_and, and_true, Bool.not_true, Bool.not_false, if_nil, if_cons, OC.wipeV, List.map_cons, List.map_nil, List.length_map, hl, lowest_c, ix_o]
        refine ⟨_, encI p, put_same, atI_last, ?_⟩
        try simp only [ex_var, ex_k, ex_bin, ex_cat, ex_neg, ex_cmp, ex_tup, ex_lst, ex_mkbag, ex_ix, ex_ixn, ex_slL, ex_slH, ex_slK, slL_g, ex_call, ex_bi, ex_isD, isi_i, isi_b, isi_s, isi_n, ex_app, ex_ext, ex_pop, ex_rev, ex_pop0, ex_chain, ex_and, ex_or, ex_not, ex_ite, ex_lc, ex_lsOf, ex_tuOf, ex_in, ex_srtI, ex_mnL, ex_mxL, ex_mnD, ex_fld, ex_meth, ex_mk, ex_dic, ex_dget, ex_din, ex_dpop, ex_tab, ex_sit, insD_ob, dicD_i, slT_g, es_nil, es_cons, OC.getV, List.set, bop, augop, ixn_t, ixn_l, ixn_o, ixn_q0, ixn_q1, pkI2, pkI3, pkI4, pkI5, pkI6, pkQ2, pkQ3, pkQ4, pkQ5, pkU2, pkU3, pkU4, pkU5, pkL2, pkL3, pkL4, pkL5, bi_len_l, bi_len_t, bi_len_s, bi_len_x, bi_len_o, bi_abs, bi_max2, bi_min2, bi_max3, bi_sum_l, bi_sum_o, bi_all_l, bi_all_o, bi_any_l, bi_any_o, bi_repr, bi_divmod, bi_int_i, bi_int_b, dtru, bn_name, bn_tup, bns_nil, bns_cons, if_true, if_false, Bool.false_eq_true, List.getElem?_cons_zero, List.getElem?_cons_succ, List.length_cons, List.length_nil, cm_eqI, cm_neI, cm_eqS, cm_neS, cm_ltI, cm_leI, cm_gtI, cm_geI, co_eqI, co_neI, co_ltI, co_leI, co_gtI, co_geI, cm_eqB, cm_neB, cm_eqQ, cm_neQ, mkL_t, mkL_f, viewL_l, viewS_l, viewS_t, someE, ik_l, ik_t, ik_r1, ik_r2, ik_rev, ik_enum, ik_zip, bagP_c, true_and, and_true, Bool.not_true, Bool.not_false, if_nil, if_cons, OC.wipeV, List.map_cons, List.map_nil, List.length_map, hl, lowest_c, ixn_I1]
        by_cases q : p.2 = i
        · rw [if_pos q] at hnx2
          rw [decide_eq_true (show ((p.2 : Nat) : Int) = i by omega)]
          try simp only [ex_var, ex_k, ex_bin, ex_cat, ex_neg, ex_cmp, ex_tup, ex_lst, ex_mkbag, ex_ix, ex_ixn, ex_slL, ex_slH, ex_slK, slL_g, ex_call, ex_bi, ex_isD, isi_i, isi_b, isi_s, isi_n, ex_app, ex_ext, ex_pop, ex_rev, ex_pop0, ex_chain, ex_and, ex_or, ex_not, ex_ite, ex_lc, ex_lsOf, ex_tuOf, ex_in, ex_srtI, ex_mnL, ex_mxL, ex_mnD, ex_fld, ex_meth, ex_mk, ex_dic, ex_dget, ex_din, ex_dpop, ex_tab, ex_sit, insD_ob, dicD_i, slT_g, es_nil, es_cons, OC.getV, List.set, bop, augop, ixn_t, ixn_l, ixn_o, ixn_q0, ixn_q1, pkI2, pkI3, pkI4, pkI5, pkI6, pkQ2, pkQ3, pkQ4, pkQ5, pkU2, pkU3, pkU4, pkU5, pkL2, pkL3, pkL4, pkL5, bi_len_l, bi_len_t, bi_len_s, bi_len_x, bi_len_o, bi_abs, bi_max2, bi_min2, bi_max3, bi_sum_l, bi_sum_o, bi_all_l, bi_all_o, bi_any_l, bi_any_o, bi_repr, bi_divmod, bi_int_i, bi_int_b, dtru, bn_name, bn_tup, bns_nil, bns_cons, if_true, if_false, Bool.false_eq_true, List.getElem?_cons_zero, List.getElem?_cons_succ, List.length_cons, List.length_nil, cm_eqI, cm_neI, cm_eqS, cm_neS, cm_ltI, cm_leI, cm_gtI, cm_geI, co_eqI, co_neI, co_ltI, co_leI, co_gtI, co_geI, cm_eqB, cm_neB, cm_eqQ, cm_neQ, mkL_t, mkL_f, viewL_l, viewS_l, viewS_t, someE, ik_l, ik_t, ik_r1, ik_r2, ik_rev, ik_enum, ik_zip, bagP_c, true_and, and_true, Bool.not_true, Bool.not_false, if_nil, if_cons, OC.wipeV, List.map_cons, List.map_nil, List.length_map, hl, lowest_c]
          try dsimp only
          rw [sq_setix]
          simp only [ex_var, ex_k, ex_bin, ex_cat, ex_neg, ex_cmp, ex_tup, ex_lst, ex_mkbag, ex_ix, ex_ixn, ex_slL, ex_slH, ex_slK, slL_g, ex_call, ex_bi, ex_isD, isi_i, isi_b, isi_s, isi_n, ex_app, ex_ext, ex_pop, ex_rev, ex_pop0, ex_chain, ex_and, ex_or, ex_not, ex_ite, ex_lc, ex_lsOf, ex_tuOf, ex_in, ex_srtI, ex_mnL, ex_mxL, ex_mnD, ex_fld, ex_meth, ex_mk, ex_dic, ex_dget, ex_din, ex_dpop, ex_tab, ex_sit, insD_ob, dicD_i, slT_g, es_nil, es_cons, OC.getV, List.set, bop, augop, ixn_t, ixn_l, ixn_o, ixn_q0, ixn_q1, pkI2, pkI3, pkI4, pkI5, pkI6, pkQ2, pkQ3, pkQ4, pkQ5, pkU2, pkU3, pkU4, pkU5, pkL2, pkL3, pkL4, pkL5, bi_len_l, bi_len_t, bi_len_s, bi_len_x, bi_len_o, bi_abs, bi_max2, bi_min2, bi_max3, bi_sum_l, bi_sum_o, bi_all_l, bi_all_o, bi_any_l, bi_any_o, bi_repr, bi_divmod, bi_int_i, bi_int_b, dtru, bn_name, bn_tup, bns_nil, bns_cons, if_true, if_false, Bool.false_eq_true, List.getElem?_cons_zero, List.getElem?_cons_succ, List.length_cons, List.length_nil, cm_eqI, cm_neI, cm_eqS, cm_neS, cm_ltI, cm_leI, cm_gtI, cm_geI, co_eqI, co_neI, co_ltI, co_leI, co_gtI, co_geI, cm_eqB, cm_neB, cm_eqQ, cm_neQ, mkL_t, mkL_f, viewL_l, viewS_l, viewS_t, someE, ik_l, ik_t, ik_r1, ik_r2, ik_rev, ik_enum, ik_zip, bagP_c, true_and, and_true, Bool.not_true, Bool.not_false, if_nil, if_cons, OC.wipeV, List.map_cons, List.map_nil, List.length_map, hl, lowest_c, ix_o]
          refine ⟨_, encI p, put_same, atI_last, ?_⟩
          try simp only [ex_var, ex_k, ex_bin, ex_cat, ex_neg, ex_cmp, ex_tup, ex_lst, ex_mkbag, ex_ix, ex_ixn, ex_slL, ex_slH, ex_slK, slL_g, ex_call, ex_bi, ex_isD, isi_i, isi_b, isi_s, isi_n, ex_app, ex_ext, ex_pop, ex_rev, ex_pop0, ex_chain, ex_and, ex_or, ex_not, ex_ite, ex_lc, ex_lsOf, ex_tuOf, ex_in, ex_srtI, ex_mnL, ex_mxL, ex_mnD, ex_fld, ex_meth, ex_mk, ex_dic, ex_dget, ex_din, ex_dpop, ex_tab, ex_sit, insD_ob, dicD_i, slT_g, es_nil, es_cons, OC.getV, List.set, bop, augop, ixn_t, ixn_l, ixn_o, ixn_q0, ixn_q1, pkI2, pkI3, pkI4, pkI5, pkI6, pkQ2, pkQ3, pkQ4, pkQ5, pkU2, pkU3, pkU4, pkU5, pkL2, pkL3, pkL4, pkL5, bi_len_l, bi_len_t, bi_len_s, bi_len_x, bi_len_o, bi_abs, bi_max2, bi_min2, bi_max3, bi_sum_l, bi_sum_o, bi_all_l, bi_all_o, bi_any_l, bi_any_o, bi_repr, bi_divmod, bi_int_i, bi_int_b, dtru, bn_name, bn_tup, bns_nil, bns_cons, if_true, if_false, Bool.false_eq_true, List.getElem?_cons_zero, List.getElem?_cons_succ, List.length_cons, List.length_nil, cm_eqI, cm_neI, cm_eqS, cm_neS, cm_ltI, cm_leI, cm_gtI, cm_geI, co_eqI, co_neI, co_ltI, co_leI, co_gtI, co_geI, cm_eqB, cm_neB, cm_eqQ, cm_neQ, mkL_t, mkL_f, viewL_l, viewS_l, viewS_t, someE, ik_l, ik_t, ik_r1, ik_r2, ik_rev, ik_enum, ik_zip, bagP_c, true_and, and_true, Bool.not_true, Bool.not_false, if_nil, if_cons, OC.wipeV, List.map_cons, List.map_nil, List.length_map, hl, lowest_c, ixn_I0]
          refine ⟨_, m.length, put_same, by have := ixN_last (l := m.map encI) (x := encI p); rwa [List.length_map] at this, ?_⟩
          try dsimp only
          rw [sq_nil]
          simp only [ex_var, ex_k, ex_bin, ex_cat, ex_neg, ex_cmp, ex_tup, ex_lst, ex_mkbag, ex_ix, ex_ixn, ex_slL, ex_slH, ex_slK, slL_g, ex_call, ex_bi, ex_isD, isi_i, isi_b, isi_s, isi_n, ex_app, ex_ext, ex_pop, ex_rev, ex_pop0, ex_chain, ex_and, ex_or, ex_not, ex_ite, ex_lc, ex_lsOf, ex_tuOf, ex_in, ex_srtI, ex_mnL, ex_mxL, ex_mnD, ex_fld, ex_meth, ex_mk, ex_dic, ex_dget, ex_din, ex_dpop, ex_tab, ex_sit, insD_ob, dicD_i, slT_g, es_nil, es_cons, OC.getV, List.set, bop, augop, ixn_t, ixn_l, ixn_o, ixn_q0, ixn_q1, pkI2, pkI3, pkI4, pkI5, pkI6, pkQ2, pkQ3, pkQ4, pkQ5, pkU2, pkU3, pkU4, pkU5, pkL2, pkL3, pkL4, pkL5, bi_len_l, bi_len_t, bi_len_s, bi_len_x, bi_len_o, bi_abs, bi_max2, bi_min2, bi_max3, bi_sum_l, bi_sum_o, bi_all_l, bi_all_o, bi_any_l, bi_any_o, bi_repr, bi_divmod, bi_int_i, bi_int_b, dtru, bn_name, bn_tup, bns_nil, bns_cons, if_true, if_false, Bool.false_eq_true, List.getElem?_cons_zero, List.getElem?_cons_succ, List.length_cons, List.length_nil, cm_eqI, cm_neI, cm_eqS, cm_neS, cm_ltI, cm_leI, cm_gtI, cm_geI, co_eqI, co_neI, co_ltI, co_leI, co_gtI, co_geI, cm_eqB, cm_neB, cm_eqQ, cm_neQ, mkL_t, mkL_f, viewL_l, viewS_l, viewS_t, someE, ik_l, ik_t, ik_r1, ik_r2, ik_rev, ik_enum, ik_zip, bagP_c, true_and, and_true, Bool.not_true, Bool.not_false, if_nil, if_cons, OC.wipeV, List.map_cons, List.map_nil, List.length_map, hl, lowest_c]
          try dsimp only
          rw [sq_nil]
          simp only [ex_var, ex_k, ex_bin, ex_cat, ex_neg, ex_cmp, ex_tup, ex_lst, ex_mkbag, ex_ix, ex_ixn, ex_slL, ex_slH, ex_slK, slL_g, ex_call, ex_bi, ex_isD, isi_i, isi_b, isi_s, isi_n, ex_app, ex_ext, ex_pop, ex_rev, ex_pop0, ex_chain, ex_and, ex_or, ex_not, ex_ite, ex_lc, ex_lsOf, ex_tuOf, ex_in, ex_srtI, ex_mnL, ex_mxL, ex_mnD, ex_fld, ex_meth, ex_mk, ex_dic, ex_dget, ex_din, ex_dpop, ex_tab, ex_sit, insD_ob, dicD_i, slT_g, es_nil, es_cons, OC.getV, List.set, bop, augop, ixn_t, ixn_l, ixn_o, ixn_q0, ixn_q1, pkI2, pkI3, pkI4, pkI5, pkI6, pkQ2, pkQ3, pkQ4, pkQ5, pkU2, pkU3, pkU4, pkU5, pkL2, pkL3, pkL4, pkL5, bi_len_l, bi_len_t, bi_len_s, bi_len_x, bi_len_o, bi_abs, bi_max2, bi_min2, bi_max3, bi_sum_l, bi_sum_o, bi_all_l, bi_all_o, bi_any_l, bi_any_o, bi_repr, bi_divmod, bi_int_i, bi_int_b, dtru, bn_name, bn_tup, bns_nil, bns_cons, if_true, if_false, Bool.false_eq_true, List.getElem?_cons_zero, List.getElem?_cons_succ, List.length_cons, List.length_nil, cm_eqI, cm_neI, cm_eqS, cm_neS, cm_ltI, cm_leI, cm_gtI, cm_geI, co_eqI, co_neI, co_ltI, co_leI, co_gtI, co_geI, cm_eqB, cm_neB, cm_eqQ, cm_neQ, mkL_t, mkL_f, viewL_l, viewS_l, viewS_t, someE, ik_l, ik_t, ik_r1, ik_r2, ik_rev, ik_enum, ik_zip, bagP_c, true_and, and_true, Bool.not_true, Bool.not_false, if_nil, if_cons, OC.wipeV, List.map_cons, List.map_nil, List.length_map, hl, lowest_c]
          rw [put_put]
          have e2 : (m.map encI ++ [encI p]).set m.length (.tup [.int p.1, .int (i + 1)]) = (m ++ [(p.1, i + 1)]).map encI := by
            rw [List.set_append_right _ _ (by rw [List.length_map]; exact Nat.le_refl _), List.length_map, Nat.sub_self, List.map_append]
            rfl
          rw [e2]
          exact hnx2 _ _
        · rw [if_neg q] at hnx2
          rw [decide_eq_false (show ¬ ((p.2 : Nat) : Int) = i by omega)]
          try simp only [ex_var, ex_k, ex_bin, ex_cat, ex_neg, ex_cmp, ex_tup, ex_lst, ex_mkbag, ex_ix, ex_ixn, ex_slL, ex_slH, ex_slK, slL_g, ex_call, ex_bi, ex_isD, isi_i, isi_b, isi_s, isi_n, ex_app, ex_ext, ex_pop, ex_rev, ex_pop0, ex_chain, ex_and, ex_or, ex_not, ex_ite, ex_lc, ex_lsOf, ex_tuOf, ex_in, ex_srtI, ex_mnL, ex_mxL, ex_mnD, ex_fld, ex_meth, ex_mk, ex_dic, ex_dget, ex_din, ex_dpop, ex_tab, ex_sit, insD_ob, dicD_i, slT_g, es_nil, es_cons, OC.getV, List.set, bop, augop, ixn_t, ixn_l, ixn_o, ixn_q0, ixn_q1, pkI2, pkI3, pkI4, pkI5, pkI6, pkQ2, pkQ3, pkQ4, pkQ5, pkU2, pkU3, pkU4, pkU5, pkL2, pkL3, pkL4, pkL5, bi_len_l, bi_len_t, bi_len_s, bi_len_x, bi_len_o, bi_abs, bi_max2, bi_min2, bi_max3, bi_sum_l, bi_sum_o, bi_all_l, bi_all_o, bi_any_l, bi_any_o, bi_repr, bi_divmod, bi_int_i, bi_int_b, dtru, bn_name, bn_tup, bns_nil, bns_cons, if_true, if_false, Bool.false_eq_true, List.getElem?_cons_zero, List.getElem?_cons_succ, List.length_cons, List.length_nil, cm_eqI, cm_neI, cm_eqS, cm_neS, cm_ltI, cm_leI, cm_gtI, cm_geI, co_eqI, co_neI, co_ltI, co_leI, co_gtI, co_geI, cm_eqB, cm_neB, cm_eqQ, cm_neQ, mkL_t, mkL_f, viewL_l, viewS_l, viewS_t, someE, ik_l, ik_t, ik_r1, ik_r2, ik_rev, ik_enum, ik_zip, bagP_c, true_and, and_true, Bool.not_true, Bool.not_false, if_nil, if_cons, OC.wipeV, List.map_cons, List.map_nil, List.length_map, hl, lowest_c]
          simp only [ex_var, ex_k, ex_bin, ex_cat, ex_neg, ex_cmp, ex_tup, ex_lst, ex_mkbag, ex_ix, ex_ixn, ex_slL, ex_slH, ex_slK, slL_g, ex_call, ex_bi, ex_isD, isi_i, isi_b, isi_s, isi_n, ex_app, ex_ext, ex_pop, ex_rev, ex_pop0, ex_chain, ex_and, ex_or, ex_not, ex_ite, ex_lc, ex_lsOf, ex_tuOf, ex_in, ex_srtI, ex_mnL, ex_mxL, ex_mnD, ex_fld, ex_meth, ex_mk, ex_dic, ex_dget, ex_din, ex_dpop, ex_tab, ex_sit, insD_ob, dicD_i, slT_g, es_nil, es_cons, OC.getV, List.set, bop, augop, ixn_t, ixn_l, ixn_o, ixn_q0, ixn_q1, pkI2, pkI3, pkI4, pkI5, pkI6, pkQ2, pkQ3, pkQ4, pkQ5, pkU2, pkU3, pkU4, pkU5, pkL2, pkL3, pkL4, pkL5, bi_len_l, bi_len_t, bi_len_s, bi_len_x, bi_len_o, bi_abs, bi_max2, bi_min2, bi_max3, bi_sum_l, bi_sum_o, bi_all_l, bi_all_o, bi_any_l, bi_any_o, bi_repr, bi_divmod, bi_int_i, bi_int_b, dtru, bn_name, bn_tup, bns_nil, bns_cons, if_true, if_false, Bool.false_eq_true, List.getElem?_cons_zero, List.getElem?_cons_succ, List.length_cons, List.length_nil, cm_eqI, cm_neI, cm_eqS, cm_neS, cm_ltI, cm_leI, cm_gtI, cm_geI, co_eqI, co_neI, co_ltI, co_leI, co_gtI, co_geI, cm_eqB, cm_neB, cm_eqQ, cm_neQ, mkL_t, mkL_f, viewL_l, viewS_l, viewS_t, someE, ik_l, ik_t, ik_r1, ik_r2, ik_rev, ik_enum, ik_zip, bagP_c, true_and, and_true, Bool.not_true, Bool.not_false, if_nil, if_cons, OC.wipeV, List.map_cons, List.map_nil, List.length_map, hl, lowest_c, sq_asg, sq_par, sq_par3, sq_ret, sq_retN, sq_drop, sq_unp, sq_unpL, sq_pass, sq_nil]
          refine ⟨⟨_, put_same⟩, _, put_same, by rw [List.length_append, List.length_map, List.length_singleton]; omega, ?_⟩
          rw [put_put]
          have e2 : m.map encI ++ [encI p] ++ [D.tup [.int i, .int (i + 1)]] = (m ++ [p] ++ [(i, i + 1)]).map encI := by
            rw [List.map_append, List.map_append]
            rfl
          rw [e2]
          exact hnx2 _ _
    · rw [decide_eq_false c]
      unfold stepF at hnx2
      rw [if_neg c] at hnx2
      try simp only [ex_var, ex_k, ex_bin, ex_cat, ex_neg, ex_cmp, ex_tup, ex_lst, ex_mkbag, ex_ix, ex_ixn, ex_slL, ex_slH, ex_slK, slL_g, ex_call, ex_bi, ex_isD, isi_i, isi_b, isi_s, isi_n, ex_app, ex_ext, ex_pop, ex_rev, ex_pop0, ex_chain, ex_and, ex_or, ex_not, ex_ite, ex_lc, ex_lsOf, ex_tuOf, ex_in, ex_srtI, ex_mnL, ex_mxL, ex_mnD, ex_fld, ex_meth, ex_mk, ex_dic, ex_dget, ex_din, ex_dpop, ex_tab, ex_sit, insD_ob, dicD_i, slT_g, es_nil, es_cons, OC.getV, List.set, bop, augop, ixn_t, ixn_l, ixn_o, ixn_q0, ixn_q1, pkI2, pkI3, pkI4, pkI5, pkI6, pkQ2, pkQ3, pkQ4, pkQ5, pkU2, pkU3, pkU4, pkU5, pkL2, pkL3, pkL4, pkL5, bi_len_l, bi_len_t, bi_len_s, bi_len_x, bi_len_o, bi_abs, bi_max2, bi_min2, bi_max3, bi_sum_l, bi_sum_o, bi_all_l, bi_all_o, bi_any_l, bi_any_o, bi_repr, bi_divmod, bi_int_i, bi_int_b, dtru, bn_name, bn_tup, bns_nil, bns_cons, if_true, if_false, Bool.false_eq_true, List.getElem?_cons_zero, List.getElem?_cons_succ, List.length_cons, List.length_nil, cm_eqI, cm_neI, cm_eqS, cm_neS, cm_ltI, cm_leI, cm_gtI, cm_geI, co_eqI, co_neI, co_ltI, co_leI, co_gtI, co_geI, cm_eqB, cm_neB, cm_eqQ, cm_neQ, mkL_t, mkL_f, viewL_l, viewS_l, viewS_t, someE, ik_l, ik_t, ik_r1, ik_r2, ik_rev, ik_enum, ik_zip, bagP_c, true_and, and_true, Bool.not_true, Bool.not_false, if_nil, if_cons, OC.wipeV, List.map_cons, List.map_nil, List.length_map, hl, lowest_c]
      simp only [ex_var, ex_k, ex_bin, ex_cat, ex_neg, ex_cmp, ex_tup, ex_lst, ex_mkbag, ex_ix, ex_ixn, ex_slL, ex_slH, ex_slK, slL_g, ex_call, ex_bi, ex_isD, isi_i, isi_b, isi_s, isi_n, ex_app, ex_ext, ex_pop, ex_rev, ex_pop0, ex_chain, ex_and, ex_or, ex_not, ex_ite, ex_lc, ex_lsOf, ex_tuOf, ex_in, ex_srtI, ex_mnL, ex_mxL, ex_mnD, ex_fld, ex_meth, ex_mk, ex_dic, ex_dget, ex_din, ex_dpop, ex_tab, ex_sit, insD_ob, dicD_i, slT_g, es_nil, es_cons, OC.getV, List.set, bop, augop, ixn_t, ixn_l, ixn_o, ixn_q0, ixn_q1, pkI2, pkI3, pkI4, pkI5, pkI6, pkQ2, pkQ3, pkQ4, pkQ5, pkU2, pkU3, pkU4, pkU5, pkL2, pkL3, pkL4, pkL5, bi_len_l, bi_len_t, bi_len_s, bi_len_x, bi_len_o, bi_abs, bi_max2, bi_min2, bi_max3, bi_sum_l, bi_sum_o, bi_all_l, bi_all_o, bi_any_l, bi_any_o, bi_repr, bi_divmod, bi_int_i, bi_int_b, dtru, bn_name, bn_tup, bns_nil, bns_cons, if_true, if_false, Bool.false_eq_true, List.getElem?_cons_zero, List.getElem?_cons_succ, List.length_cons, List.length_nil, cm_eqI, cm_neI, cm_eqS, cm_neS, cm_ltI, cm_leI, cm_gtI, cm_geI, co_eqI, co_neI, co_ltI, co_leI, co_gtI, co_geI, cm_eqB, cm_neB, cm_eqQ, cm_neQ, mkL_t, mkL_f, viewL_l, viewS_l, viewS_t, someE, ik_l, ik_t, ik_r1, ik_r2, ik_rev, ik_enum, ik_zip, bagP_c, true_and, and_true, Bool.not_true, Bool.not_false, if_nil, if_cons, OC.wipeV, List.map_cons, List.map_nil, List.length_map, hl, lowest_c, sq_asg, sq_par, sq_par3, sq_ret, sq_retN, sq_drop, sq_unp, sq_unpL, sq_pass, sq_nil]
      exact hnx2 _ _
  · rintro ps G T1 ⟨hps, rfl, o3, o4, o5, rfl⟩
    rw [List.append_nil] at hps
    subst hps
    dsimp only
    rw [sq_frz (a := o) rfl]
    refine ⟨_, put_same, ?_⟩
    try dsimp only
    rw [sq_ret]
    simp only [ex_var, ex_k, ex_bin, ex_cat, ex_neg, ex_cmp, ex_tup, ex_lst, ex_mkbag, ex_ix, ex_ixn, ex_slL, ex_slH, ex_slK, slL_g, ex_call, ex_bi, ex_isD, isi_i, isi_b, isi_s, isi_n, ex_app, ex_ext, ex_pop, ex_rev, ex_pop0, ex_chain, ex_and, ex_or, ex_not, ex_ite, ex_lc, ex_lsOf, ex_tuOf, ex_in, ex_srtI, ex_mnL, ex_mxL, ex_mnD, ex_fld, ex_meth, ex_mk, ex_dic, ex_dget, ex_din, ex_dpop, ex_tab, ex_sit, insD_ob, dicD_i, slT_g, es_nil, es_cons, OC.getV, List.set, bop, augop, ixn_t, ixn_l, ixn_o, ixn_q0, ixn_q1, pkI2, pkI3, pkI4, pkI5, pkI6, pkQ2, pkQ3, pkQ4, pkQ5, pkU2, pkU3, pkU4, pkU5, pkL2, pkL3, pkL4, pkL5, bi_len_l, bi_len_t, bi_len_s, bi_len_x, bi_len_o, bi_abs, bi_max2, bi_min2, bi_max3, bi_sum_l, bi_sum_o, bi_all_l, bi_all_o, bi_any_l, bi_any_o, bi_repr, bi_divmod, bi_int_i, bi_int_b, dtru, bn_name, bn_tup, bns_nil, bns_cons, if_true, if_false, Bool.false_eq_true, List.getElem?_cons_zero, List.getElem?_cons_succ, List.length_cons, List.length_nil, cm_eqI, cm_neI, cm_eqS, cm_neS, cm_ltI, cm_leI, cm_gtI, cm_geI, co_eqI, co_neI, co_ltI, co_leI, co_gtI, co_geI, cm_eqB, cm_neB, cm_eqQ, cm_neQ, mkL_t, mkL_f, viewL_l, viewS_l, viewS_t, someE, ik_l, ik_t, ik_r1, ik_r2, ik_rev, ik_enum, ik_zip, bagP_c, true_and, and_true, Bool.not_true, Bool.not_false, if_nil, if_cons, OC.wipeV, List.map_cons, List.map_nil, List.length_map, hl, lowest_c]
    have hrl := runs_len (us := us) g
    refine ⟨by show ((runsF us g).length ≤ 100000); omega, map_enc encI (fun p => encP (fr p.1 g, fr p.2 g)) (runsF us g) [] (fun p hp kk hk => ?_) ?_⟩
    · skip
      try simp only [ex_var, ex_k, ex_bin, ex_cat, ex_neg, ex_cmp, ex_tup, ex_lst, ex_mkbag, ex_ix, ex_ixn, ex_slL, ex_slH, ex_slK, slL_g, ex_call, ex_bi, ex_isD, isi_i, isi_b, isi_s, isi_n, ex_app, ex_ext, ex_pop, ex_rev, ex_pop0, ex_chain, ex_and, ex_or, ex_not, ex_ite, ex_lc, ex_lsOf, ex_tuOf, ex_in, ex_srtI, ex_mnL, ex_mxL, ex_mnD, ex_fld, ex_meth, ex_mk, ex_dic, ex_dget, ex_din, ex_dpop, ex_tab, ex_sit, insD_ob, dicD_i, slT_g, es_nil, es_cons, OC.getV, List.set, bop, augop, ixn_t, ixn_l, ixn_o, ixn_q0, ixn_q1, pkI2, pkI3, pkI4, pkI5, pkI6, pkQ2, pkQ3, pkQ4, pkQ5, pkU2, pkU3, pkU4, pkU5, pkL2, pkL3, pkL4, pkL5, bi_len_l, bi_len_t, bi_len_s, bi_len_x, bi_len_o, bi_abs, bi_max2, bi_min2, bi_max3, bi_sum_l, bi_sum_o, bi_all_l, bi_all_o, bi_any_l, bi_any_o, bi_repr, bi_divmod, bi_int_i, bi_int_b, dtru, bn_name, bn_tup, bns_nil, bns_cons, if_true, if_false, Bool.false_eq_true, List.getElem?_cons_zero, List.getElem?_cons_succ, List.length_cons, List.length_nil, cm_eqI, cm_neI, cm_eqS, cm_neS, cm_ltI, cm_leI, cm_gtI, cm_geI, co_eqI, co_neI, co_ltI, co_leI, co_gtI, co_geI, cm_eqB, cm_neB, cm_eqQ, cm_neQ, mkL_t, mkL_f, viewL_l, viewS_l, viewS_t, someE, ik_l, ik_t, ik_r1, ik_r2, ik_rev, ik_enum, ik_zip, bagP_c, true_and, and_true, Bool.not_true, Bool.not_false, if_nil, if_cons, OC.wipeV, List.map_cons, List.map_nil, List.length_map, hl, lowest_c, bn_I]
      have hgn : ((g : Nat) : Int) ≠ 0 := by omega
      have hgb : ((g : Nat) : Int).natAbs < 2 ^ 8000 := Nat.lt_of_le_of_lt (show ((g : Nat) : Int).natAbs ≤ 1000 by omega) (by decide)
      exact ⟨⟨hgn, hgb⟩, ⟨hgn, hgb⟩, hk⟩
    · rw [cut_put ho, List.nil_append]
      refine ret_here ?_
      unfold encS formQ at hq
      rw [List.map_map] at hq
      exact hq
end NX
set_option Elab.async false
set_option linter.all false
set_option maxRecDepth 100000
set_option maxHeartbeats 4000000
set_option exponentiation.threshold 20000
/-! Entries: amounts of days in units. Plain mathematics. -/
namespace NX
open PySem PySem.Spec PyProof.Rows L2 OC
structure En where
  f : Int
  m : Int
  am : List Rat
def encEn (e : En) : D := .tup [.str "entry", .int e.f, .int e.m, .tup (e.am.map encQ)]
def encEs (es : List En) : D := .lst (es.map encEn)
structure En.Ok (e : En) : Prop where
  f0 : 0 ≤ e.f
  m1 : 1 ≤ e.m
  fm : e.f + e.m ≤ 10 ^ 30
  l1 : 1 ≤ e.am.length
  l4 : e.am.length ≤ 4
  b : ∀ q ∈ e.am, q.num.natAbs ≤ 10 ^ 6 ∧ q.den ≤ 10 ^ 6
structure EsOk (es : List En) : Prop where
  ok : ∀ e ∈ es, e.Ok
  len : es.length ≤ 6
theorem EsOk.cons {e : En} {es : List En} (h : EsOk (e :: es)) : e.Ok ∧ EsOk es := ⟨h.ok e List.mem_cons_self, fun x hx => h.ok x (List.mem_cons_of_mem _ hx), by have := h.len; rw [List.length_cons] at this; omega⟩
/-! ### the grain -/
def amsOf (es : List En) : List Rat := es.flatMap (·.am)
def grF (g : Nat) (qs : List Rat) : Nat := qs.foldl (fun g q => Nat.lcm g q.den) g
def gr (es : List En) : Nat := grF 1 (amsOf es)
/-- a grain that fits -/
structure GOk (es : List En) (g : Nat) : Prop where
  pos : 0 < g
  le : g ≤ 10 ^ 300
  dvd : ∀ e ∈ es, ∀ q ∈ e.am, q.den ∣ g
theorem GOk.cons {e : En} {es : List En} {g : Nat} (h : GOk (e :: es) g) : (∀ q ∈ e.am, q.den ∣ g) ∧ GOk es g := ⟨h.dvd e List.mem_cons_self, h.pos, h.le, fun x hx => h.dvd x (List.mem_cons_of_mem _ hx)⟩
/-! ### units -/
def pc (g : Nat) (q : Rat) : Int := q.num * ((g / q.den : Nat) : Int)
/-! ### units and ratios -/
end NX
set_option Elab.async false
set_option linter.all false
set_option maxRecDepth 100000
set_option maxHeartbeats 4000000
set_option exponentiation.threshold 20000
namespace NX
open PySem PySem.Spec PyProof.Rows L2 OC
/-! ### the program's small functions, over all plain data -/
def isIntD : D → Bool
  | .int _ => true
  | _ => false
theorem d1_inj {x y : D} (h : [x] = [y]) : x = y := by cases h; rfl
/-! ### the grain, the units before a day -/
theorem bn_E {a b c d : Nat} {e : En} {G : GV} : bindN (.tup [.name a, .name b, .name c, .name d]) (encEn e) G = some ((((G.set a (some (.str "entry"))).set b (some (.int e.f))).set c (some (.int e.m))).set d (some (.tup (e.am.map encQ)))) := by
  unfold encEn
  simp only [bn_tup, bns_cons, bns_nil, bn_name, List.length_cons, List.length_nil, if_true]
theorem bn_q2 {a b : Nat} {q : Rat} {G : GV} : bindN (.tup [.name a, .name b]) (encQ q) G = some ((G.set a (some (.int q.num))).set b (some (.int q.den))) := by
  unfold encQ
  simp only [bn_tup, bns_cons, bns_nil, bn_name, List.length_cons, List.length_nil, if_true]
theorem map_inj {α : Type} {f : α → D} (hf : ∀ a b, f a = f b → a = b) : ∀ {l m : List α}, l.map f = m.map f → l = m
  | [], [], _ => rfl
  | [], _ :: _, h => by cases h
  | _ :: _, [], h => by cases h
  | a :: l, b :: m, h => by
    rw [List.map_cons, List.map_cons, List.cons.injEq] at h
    rw [hf _ _ h.1, map_inj hf h.2]
theorem encEn_inj (a b : En) (h : encEn a = encEn b) : a = b := by
  obtain ⟨f, m, am⟩ := a
  obtain ⟨f', m', am'⟩ := b
  simp only [encEn, D.tup.injEq, List.cons.injEq, D.int.injEq, and_true, true_and] at h
  obtain ⟨rfl, rfl, h⟩ := h
  rw [map_inj (fun _ _ => encQ_inj) h]
theorem en1 {e : En} {d : Int} {g : Nat} {e' : En} {d' : Int} {g' : Nat} (h : [encEn e, .int d, D.int (g : Int)] = [encEn e', .int d', .int (g' : Int)]) : (e, d, g) = (e', d', g') := by
  simp only [List.cons.injEq, D.int.injEq, and_true] at h
  obtain ⟨h1, h2, h3⟩ := h
  rw [encEn_inj _ _ h1, h2, show g = g' by omega]
structure G1Ok (e : En) (d : Int) (g : Nat) : Prop where
  ok : e.Ok
  pos : 0 < g
  le : g ≤ 10 ^ 300
  dvd : ∀ q ∈ e.am, q.den ∣ g
  day : d.natAbs ≤ 10 ^ 40
structure GdOk (es : List En) (d : Int) (g : Nat) : Prop where
  ok : EsOk es
  gok : GOk es g
  day : d.natAbs ≤ 10 ^ 40
theorem GdOk.one {es : List En} {d : Int} {g : Nat} (h : GdOk es d g) {e : En} (he : e ∈ es) : G1Ok e d g := ⟨h.ok.ok e he, h.gok.pos, h.gok.le, h.gok.dvd e he, h.day⟩
/-! ### amounts, sums, points -/
theorem EsOk.pre {es ps rs : List En} (h : EsOk es) (e : es = ps ++ rs) : EsOk ps := ⟨fun x hx => h.ok x (by rw [e]; exact List.mem_append_left _ hx), by have := h.len; rw [e, List.length_append] at this; omega⟩
end NX
set_option Elab.async false
set_option linter.all false
set_option maxRecDepth 100000
set_option maxHeartbeats 4000000
set_option exponentiation.threshold 20000
namespace NX
open PySem PySem.Spec PyProof.Rows L2 OC
/-! ### what the laws draw: amounts, entries, statements -/
def AmS (q : Rat) : Prop := q.num.natAbs < 128 ∧ q.den ∣ 2520
theorem AmS.le {q : Rat} (h : AmS q) : q.num.natAbs ≤ 10 ^ 6 ∧ q.den ≤ 10 ^ 6 := ⟨Nat.le_trans (Nat.le_of_lt h.1) (by decide), Nat.le_trans (Nat.le_of_dvd (by decide) h.2) (by decide)⟩
/-- an entry within the days up to a last one -/
structure EnS (last : Int) (e : En) : Prop where
  f0 : 0 ≤ e.f
  m1 : 1 ≤ e.m
  fm : e.f + e.m ≤ last + 1
  l1 : 1 ≤ e.am.length
  l4 : e.am.length ≤ 4
  b : ∀ q ∈ e.am, AmS q
theorem EnS.ok {last : Int} {e : En} (h : EnS last e) (hl : last < 10 ^ 30) : e.Ok := ⟨h.f0, h.m1, by have := h.fm; omega, h.l1, h.l4, fun q hq => (h.b q hq).le⟩
/-! ### statements -/
structure Sn where
  f : Int
  m : Int
  n : Int
def encSt (s : Sn) : D := .tup [.str "statement", .int s.f, .int s.m, .int s.n]
def encSs (ss : List Sn) : D := .lst (ss.map encSt)
/-! ### a case: entries, statements, the last day, the grain -/
def encCase (c : List En × List Sn × Int) : D := .tup [encEs c.1, encSs c.2.1, .int c.2.2, .int (gr c.1)]
theorem bn_case {a b c d : Nat} {x : List En × List Sn × Int} {G : GV} : bindN (.tup [.name a, .name b, .name c, .name d]) (encCase x) G = some ((((G.set a (some (encEs x.1))).set b (some (encSs x.2.1))).set c (some (.int x.2.2))).set d (some (.int (gr x.1)))) := by
  unfold encCase
  simp only [bn_tup, bns_cons, bns_nil, bn_name, List.length_cons, List.length_nil, if_true]
theorem bn_S {a b c d : Nat} {x : Sn} {G : GV} : bindN (.tup [.name a, .name b, .name c, .name d]) (encSt x) G = some ((((G.set a (some (.str "statement"))).set b (some (.int x.f))).set c (some (.int x.m))).set d (some (.int x.n))) := by
  unfold encSt
  simp only [bn_tup, bns_cons, bns_nil, bn_name, List.length_cons, List.length_nil, if_true]
theorem ik_es {es : List En} {T : TS} {Q : List D → TS → Prop} : lstI.sem [encEs es] T Q = Q (es.map encEn) T := ik_l
theorem ik_ss {es : List Sn} {T : TS} {Q : List D → TS → Prop} : lstI.sem [encSs es] T Q = Q (es.map encSt) T := ik_l
theorem bi_len_es {T : TS} {Q : QD} {es : List En} : biD .len [encEs es] T Q = Q (.int es.length) T := by
  unfold encEs
  rw [bi_len_l, List.length_map]
theorem bi_len_ss {T : TS} {Q : QD} {es : List Sn} : biD .len [encSs es] T Q = Q (.int es.length) T := by
  unfold encSs
  rw [bi_len_l, List.length_map]
end NX
set_option Elab.async false
set_option linter.all false
set_option maxRecDepth 100000
set_option maxHeartbeats 4000000
set_option exponentiation.threshold 20000
namespace NX
open PySem PySem.Spec PyProof.Rows L2 OC
/-! ### texts of entries -/
def encPr (p : Int × Int) : D := .tup [.int p.1, .int p.2]
end NX
set_option Elab.async false
set_option linter.all false
set_option maxRecDepth 100000
set_option maxHeartbeats 4000000
set_option exponentiation.threshold 20000
/-! The ring of units: sets as lists of spans. Plain mathematics. -/
namespace NX
open PySem PySem.Spec PyProof.Rows L2 OC
abbrev Us := List (Int × Int)
/-- u is in the set -/
def inU (l : Us) (u : Int) : Prop := ∃ p ∈ l, p.1 ≤ u ∧ u < p.2
structure CanU (g : Int) (l : Us) : Prop where
  one : ∀ p ∈ l, 0 ≤ p.1 ∧ p.1 < p.2 ∧ p.2 ≤ g
  gap : l.Pairwise fun p q => p.2 < q.1
theorem CanU.tail {g : Int} {p : Int × Int} {l : Us} (h : CanU g (p :: l)) : CanU g l := ⟨fun q hq => h.one q (List.mem_cons_of_mem _ hq), (List.pairwise_cons.mp h.gap).2⟩
theorem CanU.range {g : Int} {l : Us} (h : CanU g l) {u : Int} (hu : inU l u) : 0 ≤ u ∧ u < g := by
  obtain ⟨p, hp, h1, h2⟩ := hu
  have := h.one p hp
  omega
/-! ### arcs -/
/-! ### both -/
/-! ### outside -/
end NX
set_option Elab.async false
set_option linter.all false
set_option maxRecDepth 100000
set_option maxHeartbeats 4000000
/-! The wider small language: the greatest of a list of pairs of whole numbers. -/
namespace NX
open PySem PySem.Spec PyProof.Rows L2 OC
def pyP (p : Int × Int) : PyData := .tuple [.int p.1, .int p.2]
def ltP (a b : Int × Int) : Bool := if a.1 = b.1 then decide (a.2 < b.2) else decide (a.1 < b.1)
theorem alike_P (a b : Int × Int) : PySem.W.alike (pyP a) (pyP b) = true := PySem.W.DatumOrd.alike a b
theorem lt_P (a b : Int × Int) : PySem.W.dataLt (pyP a) (pyP b) = ltP a b := PySem.W.DatumOrd.lt_eq a b
def maxP (p : Int × Int) (ps : List (Int × Int)) : Int × Int := ps.foldl (fun a y => if ltP a y = true then y else a) p
theorem maxD_P (p : Int × Int) : ∀ ps : List (Int × Int), PySem.W.maxD (pyP p) (ps.map pyP) = pyP (maxP p ps) := by
  intro ps
  unfold PySem.W.maxD maxP
  induction ps generalizing p with
  | nil => rfl
  | cons k r ih =>
    rw [List.map_cons, List.foldl_cons, List.foldl_cons, ← ih, lt_P]
    cases ltP p k <;> rfl
/-- not above -/
def leP (a b : Int × Int) : Prop := a.1 < b.1 ∨ (a.1 = b.1 ∧ a.2 ≤ b.2)
theorem leP_refl (a : Int × Int) : leP a a := .inr ⟨rfl, Int.le_refl _⟩
theorem ltP_iff {a b : Int × Int} : ltP a b = true ↔ a.1 < b.1 ∨ (a.1 = b.1 ∧ a.2 < b.2) := by
  unfold ltP
  split <;> simp only [decide_eq_true_eq] <;> omega
theorem maxP_ok : ∀ (ps : List (Int × Int)) (p : Int × Int), maxP p ps ∈ p :: ps ∧ ∀ y ∈ p :: ps, leP y (maxP p ps)
  | [], p => ⟨List.mem_cons_self, fun y hy => by cases List.mem_singleton.mp hy; exact leP_refl _⟩
  | k :: ps, p => by
    have e : maxP p (k :: ps) = maxP (if ltP p k = true then k else p) ps := rfl
    obtain ⟨h1, h2⟩ := maxP_ok ps (if ltP p k = true then k else p)
    rw [e]
    have h3 := h2 _ List.mem_cons_self
    refine ⟨?_, fun y hy => ?_⟩
    · rcases List.mem_cons.mp h1 with z | z
      · rw [z]
        split
        · exact List.mem_cons_of_mem _ List.mem_cons_self
        · exact List.mem_cons_self
      · exact List.mem_cons_of_mem _ (List.mem_cons_of_mem _ z)
    · have hc : leP p (if ltP p k = true then k else p) ∧ leP k (if ltP p k = true then k else p) := by
        split
        · rename_i c
          rw [ltP_iff] at c
          unfold leP
          omega
        · rename_i c
          rw [ltP_iff] at c
          unfold leP
          omega
      generalize (if ltP p k = true then k else p) = z at h2 h3 hc ⊢
      have tr : ∀ a, leP a z → leP a (maxP z ps) := fun a ha => by
        unfold leP at *
        omega
      rcases List.mem_cons.mp hy with rfl | hy
      · exact tr _ hc.1
      · rcases List.mem_cons.mp hy with rfl | hy
        · exact tr _ hc.2
        · exact h2 y (List.mem_cons_of_mem _ hy)
theorem vals_back {xs : List V} {us : List Value} {i : Nat} {u : Value} (r : Vals xs us) (h : us[i]? = some u) : ∃ x, xs[i]? = some x ∧ RelV x u := by
  cases e : xs[i]? with
  | none =>
    have := r.none_of e
    rw [h] at this
    cases this
  | some x =>
    obtain ⟨w, h1, h2⟩ := r.get e
    rw [h] at h1
    cases h1
    exact ⟨x, rfl, h2⟩
theorem depth_P : ∀ ps : List (Int × Int), PyData.depthAll (ps.map pyP) ≤ 1
  | [] => Nat.zero_le _
  | p :: ps => by
    show max _ (PyData.depthAll (ps.map pyP)) ≤ 1
    have := depth_P ps
    have h : (pyP p).depth ≤ 1 := Nat.le_of_eq rfl
    exact Nat.max_le.mpr ⟨h, this⟩
def rMaxP (K : PySem.W.Frag) : List V → Hp → VK → Prop := fun vs H Q => ∃ (a : Addr) (xs : List V) (p : Int × Int) (ps : List (Int × Int)), vs = [V.ref a] ∧ SqL K H a xs ∧ DpAll K H xs ((p :: ps).map pyP) ∧ ∀ (i : Nat) (x : V), xs[i]? = some x → (p :: ps)[i]? = some (maxP p ps) → Q x H
theorem cr_maxP {X : Cx} (hc : X.calm = true) (hu : X.A.units + 64 < cLine) : CallR X (.builtin "max") (rMaxP X.K) := by
  intro pins s σ H vs us Q I r h
  obtain ⟨a, xs, p, ps, rfl, hs, hd, q⟩ := h
  obtain ⟨its, rv, hl, hz⟩ := I.list hs
  rw [Vals.ref1 r]
  obtain ⟨as, hr⟩ := Dp.readsAll I ((p :: ps).map pyP) _ its hd rv
  have hdp := depth_P (p :: ps)
  refine PySem.W.max_list_data (I.ok.hd hc) hl.isList (x := pyP p) (xs := ps.map pyP) hr ⟨fun x hx y hy => ?_, fun x hx => ?_⟩ (by show X.A.units + 1 + PyData.depthAll ((p :: ps).map pyP) < cLine; omega) fun i v h' tk bs hv hrd hk => ?_
  · obtain ⟨a1, _, rfl⟩ := List.mem_map.mp (show x ∈ (p :: ps).map pyP from hx)
    obtain ⟨b1, _, rfl⟩ := List.mem_map.mp (show y ∈ (p :: ps).map pyP from hy)
    exact alike_P a1 b1
  · obtain ⟨a1, _, rfl⟩ := List.mem_map.mp (show x ∈ (p :: ps).map pyP from hx)
    intro e
    cases e
  · obtain ⟨x, hx, rx⟩ := vals_back (i := i) rv (by rw [Array.getElem?_toList]; exact hv)
    obtain ⟨bs2, r2, hi, _, _⟩ := PySem.W.readsAll_atA hr i v hv
    have u := (PySem.W.reads_keeps hk r2).unique _ _ hrd
    rw [maxD_P] at u
    have hi2 : i < (p :: ps).length := by rw [← List.length_map (f := pyP)]; exact hi
    refine ⟨x, H, I.kept hk, rx, q i x hx ?_⟩
    rw [List.getElem?_eq_getElem hi2]
    have e1 : ((p :: ps).map pyP).getD i .none = pyP ((p :: ps)[i]) := by
      rw [List.getD_eq_getElem?_getD, List.getElem?_map, List.getElem?_eq_getElem hi2]
      rfl
    have e2 : pyP ((p :: ps)[i]) = pyP (maxP p ps) := e1.symm.trans u.1
    unfold pyP at e2
    simp only [PyData.tuple.injEq, List.cons.injEq, PyData.int.injEq, and_true] at e2
    exact congrArg some (Prod.ext e2.1 e2.2)
theorem rep_at {K : PySem.W.Frag} {Bg M : AP} {H : Hp} : ∀ {vs : List V} {ds : List D} {i : Nat} {v : V} {d : D}, RepL K Bg M H vs ds → vs[i]? = some v → ds[i]? = some d → Rep K Bg M H v d
  | _, _, _, _, _, .nil, h, _ => by cases h
  | _, _, 0, _, _, .cons a _, h, k => by
    cases h
    cases k
    exact a
  | _, _, i + 1, _, _, .cons _ t, h, k => rep_at t (by simpa using h) (by simpa using k)
theorem pureL_P : ∀ ps : List (Int × Int), pureL (ps.map encPr) = true
  | [] => rfl
  | p :: ps => by
    show ((encPr p).pure && pureL (ps.map encPr)) = true
    rw [pureL_P ps]
    rfl
theorem pyL_P : ∀ ps : List (Int × Int), pyL (ps.map encPr) = ps.map pyP
  | [] => rfl
  | p :: ps => by
    show (encPr p).py :: pyL (ps.map encPr) = _
    rw [pyL_P ps]
    rfl
/-- max of a list of pairs -/
def mxPS : OpS := bltS "max" "max" (by decide +kernel) (by decide) (by decide) rMaxP (fun X hc _ hu => cr_maxP hc hu) (fun ds T Q => match ds with | [d] => ∃ ps : List (Int × Int), viewL T d = some (ps.map encPr) ∧ ps ≠ [] ∧ ∀ m, m ∈ ps → (∀ y, y ∈ ps → leP y m) → Q (encPr m) T | _ => False) (fun h w => by
    split at w
    · obtain ⟨ns, a, b, c⟩ := w
      exact ⟨ns, a, b, fun m h1 h2 => h _ _ (c m h1 h2)⟩
    · exact w) (fun Ω Bg M T H vs ds Qd Q s rl w post => by
    match ds, rl, w with
    | [d], rl, ⟨ps, hv, hl, w⟩ =>
      obtain ⟨v, rfl, r⟩ := one_inv rl
      obtain ⟨a, us, rfl, hs, rl2⟩ := view_ok s hv r
      cases ps with
      | nil => exact absurd rfl hl
      | cons p ps =>
        have hd := RsvL.dp s (RsvL.pure _ (pureL_P (p :: ps))) rl2
        rw [pyL_P] at hd
        obtain ⟨m1, m2⟩ := maxP_ok ps p
        exact ⟨a, us, p, ps, rfl, .inl (.inl hs), hd, fun i x hx hp => post.here s (rep_at rl2 hx (by rw [List.getElem?_map, hp]; rfl)) (w _ m1 m2)⟩)
theorem ex_mxP {F : List Ct} {G : GV} {T : TS} {Q : QD} {X : XD} {a : E} : wpE F (.op mxPS [a]) G T Q X = wpE F a G T (fun d T1 => ∃ ps : List (Int × Int), viewL T1 d = some (ps.map encPr) ∧ ps ≠ [] ∧ ∀ m, m ∈ ps → (∀ y, y ∈ ps → leP y m) → Q (encPr m) T1) X := by rw [wpE, wpEs]; simp only [wpEs]; rfl
end NX
set_option Elab.async false
set_option linter.all false
set_option maxRecDepth 100000
set_option maxHeartbeats 4000000
/-! The wider small language: min(xs, key=len). -/
namespace NX
open PySem PySem.Spec PyProof.Rows L2 OC
section
variable {X : Cx} {x y : Str} {p p2 pos kp : Pos} {e : Expr} {es : List Expr} {t : TA} {id id2 : String} {r : List V → Hp → VK → Prop}
/-- a built-in called with key= a built-in -/
theorem pe_keyB (hc : ∀ (pins : List (Addr × Obj)) (s : Shared) (σ : L2.St) (H : Hp) (xs : List V) (us : List Value) (Q : VK), Inv X pins σ H s → Vals xs us → r xs H Q → wpAny (model X.prog X.w) X.A (call (.builtin id) us [(Str.ofString "key", .builtin id2)]) (EP X pins σ Q) X.xe s)
    (hg : Gl X x) (hm : X.mg x = none) (hv : bootBuiltins x = some (.builtin id)) (hg2 : Gl X y) (hm2 : X.mg y = none) (hv2 : bootBuiltins y = some (.builtin id2)) (ha : PA X (e :: es) t)
    (hn : x ≠ "__name__" := by decide) (hdb : (x == ("__debug__" : Str)) = false := by decide) (hn2 : y ≠ "__name__" := by decide) (hdb2 : (y == ("__debug__" : Str)) = false := by decide)
    (he : backTo pos (starEach (e :: es) X.env) = (false, eval e X.env) :: backTo pos (starEach es X.env) := by rfl) (hpl : (backTo pos (starEach (e :: es) X.env)).any (·.1) = false := by rfl) :
    PE X (.Call (.Name x p) (e :: es) [⟨some (Str.ofString "key"), .Name y p2, kp⟩] pos) (tCB r t) := by
  refine ⟨fun pins s σ H Q I h => ?_⟩
  refine wpAny_Call_Name_kw (ld_blt I hg hm hv ?_ hn hdb)
  refine PyProof.Rows.callWith_kw (thn (ha.run pos pins s σ H _ I h) fun us s1 ⟨vs, H1, I1, r1, q1⟩ => ?_) he hpl rfl rfl
  show wpAny _ _ (evalAll [(do let v ← eval (.Name y p2) X.env; standAt pos; pure v)]) _ _ s1
  refine wpAny_evalAll_cons (wpAny_bind (ld_blt I1 hg2 hm2 hv2 (wpAny_bind (wpAny_standAt (wpAny_pure ?_))) hn2 hdb2))
  refine wpAny_evalAll_nil ?_
  exact hc pins s1 σ H1 vs us Q I1 r1 q1
end
def btL (f : Nat → Nat) (i j : Nat) : Bool := decide ((f i : Int) < (f j : Int))
def rMinL (K : PySem.W.Frag) : List V → Hp → VK → Prop := fun vs H Q => ∃ (a : Addr) (xs : List V) (ns : List Nat), vs = [V.ref a] ∧ SqL K H a xs ∧ xs ≠ [] ∧ xs.length = ns.length ∧ (∀ (i : Nat) (x : V), xs[i]? = some x → ∃ (b : Addr) (ys : List V), x = V.ref b ∧ SqL K H b ys ∧ ns[i]? = some ys.length) ∧
  ∀ x : V, xs[argBest (btL fun i => ns.getD i 0) (ns.length - 1)]? = some x → Q x H
theorem cr_minL {X : Cx} (hc : X.calm = true) (pins : List (Addr × Obj)) (s : Shared) (σ : L2.St) (H : Hp) (xs : List V) (us : List Value) (Q : VK) (I : Inv X pins σ H s) (r : Vals xs us) (h : rMinL X.K xs H Q) : wpAny (model X.prog X.w) X.A (call (.builtin "min") us [(Str.ofString "key", .builtin "len")]) (EP X pins σ Q) X.xe s := by
  obtain ⟨a, vs, ns, rfl, hs, hne, hlen, hit, q⟩ := h
  obtain ⟨its, rv, hl, hz⟩ := I.list hs
  rw [Vals.ref1 r]
  have hsz : its.toArray.size = ns.length := by rw [← hlen, rv.length, List.size_toArray]
  have hpos : 0 < its.toArray.size := by
    rw [hsz, ← hlen]
    exact List.length_pos_iff.mpr hne
  refine PySem.call_min_walkKB (PySem.W.iter_listW (A := X.A.in1) (I.ok.hd hc) hl.isList fun s₂ e W st hfp hw hk => ?_)
  refine ⟨_, _, _, _, _, _, _, (fun s' => ∃ h' tk, s' = { s with heap := h', toks := tk } ∧ ∀ b o, s.heap.get? b = some o → h'.get? b = some o), (fun i k _ => ∃ t, k = .int (ns.getD i 0 : Nat) t), btL fun i => ns.getD i 0, rfl, W, st, hfp, hpos, ⟨?_, ?_, ?_, ?_⟩, ⟨_, _, e, fun b o eb => by have := hk b o eb; rw [e] at this; exact this⟩, fun v s' hP ⟨h', tk, es, hk'⟩ => ?_⟩
  · rintro s1 s2 ⟨h1, tk1, rfl, k1⟩ m
    refine ⟨s2.heap, s2.toks, ?_, fun b o eb => m.heap b o (fun hb => ?_) (k1 b o eb)⟩
    · obtain ⟨hp, g, d, tk, os⟩ := s2
      have h1 : g = s.gens := m.gens
      have h2 : d = s.drawn := m.drawn
      have h3 : os = s.os := m.os
      subst h1
      subst h2
      subst h3
      rfl
    · have lt := Heap.lt_size eb
      rcases List.mem_cons.mp hb with z | z
      · rw [z, e] at lt
        have : (s.heap.push { cls := .type "list_iterator", data := .fields #[.ref a, .int 0 0] }).objs.size = s.heap.objs.size + 1 := Heap.size_push ..
        have lt2 : (s.heap.push { cls := .type "list_iterator", data := .fields #[.ref a, .int 0 0] }).objs.size < s.heap.objs.size := lt
        omega
      · rw [List.mem_singleton.mp z] at lt
        exact Nat.lt_irrefl _ lt
  · rintro i k s1 s2 hv _
    exact hv
  · rintro i v s1 o Q2 E2 hi hP ⟨h1, tk1, rfl, k1⟩ hst hS hq
    obtain ⟨x, hx, rx⟩ := vals_back (i := i) rv (by rw [List.getElem?_toArray] at hP; exact hP)
    obtain ⟨b, ys, rfl, hsq, hn⟩ := hit i x hx
    obtain rfl : v = Value.ref b := rx
    obtain ⟨its2, rv2, hl2, hz2⟩ := I.list hsq
    have hn63 := line63
    have l2 := rv2.length
    have hl3 : h1.IsList b its2.toArray := by
      obtain ⟨o2, e2, r2⟩ := hl2.isList
      exact ⟨o2, k1 _ _ e2, r2⟩
    refine Calls.call_len_list (s := { s with heap := h1, toks := tk1 }) hl3 (by rw [List.size_toArray, ← l2]; omega) ?_
    refine hq _ _ ⟨h1, _, rfl, k1⟩ hst hS ⟨tk1 + 1, ?_⟩ fun j k' z => z
    rw [List.getD_eq_getElem?_getD, hn, List.size_toArray, ← l2]
    rfl
  · rintro i j ki kj s1 Q2 E2 _ ⟨ti, rfl⟩ ⟨tj, rfl⟩ hq
    exact CmpOf.ints_lt (prog := X.prog) (w := X.w) (A := X.A.in1) (P := fun i v => ∃ t, v = .int (ns.getD i 0 : Nat) t) (fun i => (ns.getD i 0 : Nat)) (fun i v h => h) i j _ _ _ _ _ ⟨ti, rfl⟩ ⟨tj, rfl⟩ hq
  · subst es
    obtain ⟨x, hx, rx⟩ := vals_back rv (by rw [List.getElem?_toArray] at hP; exact hP)
    exact ⟨x, H, I.kept hk', rx, q x (by rw [← hsz]; exact hx)⟩
/-- f(x, key=g), both built-in -/
def asKy : Expr → Option (Str × Expr × Str)
  | .Call (.Name x _) [e] [k] _ => if decide (k.arg = some (Str.ofString "key")) then (match k.value with | .Name y _ => some (x, e, y) | _ => none) else none
  | _ => none
theorem asKy_ok {e : Expr} {x y : Str} {a : Expr} (h : asKy e = some (x, a, y)) : ∃ p q r s, e = .Call (.Name x p) [a] [⟨some (Str.ofString "key"), .Name y r, s⟩] q := by
  unfold asKy at h
  split at h
  · rename_i z p1 b k q1
    split at h
    · rename_i hb
      rw [decide_eq_true_eq] at hb
      split at h
      · rename_i w r1 hw
        cases h
        obtain ⟨ka, kv, kp⟩ := k
        obtain rfl : ka = _ := hb
        obtain rfl : kv = _ := hw
        exact ⟨_, _, _, _, rfl⟩
      · cases h
    · cases h
  · cases h
def kyS (f g : String) (C : Ck) (sc : Scope) (e : Expr) : Option Expr := match asKy e with
  | some (x, a, y) => if blt C sc x f && blt C sc y g && nst a then some a else none
  | none => none
theorem kyS_ok {f g : String} {C : Ck} {sc : Scope} {e a : Expr} (h : kyS f g C sc e = some a) : ∃ p q r s, e = .Call (.Name (f : Str) p) [a] [⟨some (Str.ofString "key"), .Name (g : Str) r, s⟩] q ∧ (glb sc (f : Str) = true ∧ (f : Str) ∈ C.bs) ∧ (glb sc (g : Str) = true ∧ (g : Str) ∈ C.bs) ∧ nst a = true := by
  unfold kyS at h
  split at h
  · rename_i x b y hx
    split at h
    · rename_i hb
      cases h
      obtain ⟨p, q, r, s, rfl⟩ := asKy_ok hx
      simp only [Bool.and_eq_true] at hb
      obtain ⟨rfl, h1, h2⟩ := blt_ok hb.1.1
      obtain ⟨rfl, h3, h4⟩ := blt_ok hb.1.2
      exact ⟨p, q, r, s, rfl, ⟨h1, h2⟩, ⟨h3, h4⟩, hb.2⟩
    · cases h
  · cases h
theorem rep_lists {K : PySem.W.Frag} {Bg M : AP} {H : Hp} : ∀ {vs : List V} {ls : List (List D)}, RepL K Bg M H vs (ls.map D.lst) → vs.length = ls.length ∧ ∀ (i : Nat) (x : V), vs[i]? = some x → ∃ (b : Addr) (ys : List V), x = V.ref b ∧ SqL K H b ys ∧ (ls.map List.length)[i]? = some ys.length
  | _, [], .nil => ⟨rfl, fun i x h => by cases h⟩
  | _, l :: ls, .cons h t => by
    obtain ⟨h1, h2⟩ := rep_lists t
    refine ⟨by rw [List.length_cons, List.length_cons, h1], fun i x hx => ?_⟩
    cases i with
    | zero =>
      cases hx
      cases h with
      | lst q _ _ r => exact ⟨_, _, rfl, .inl (.inl q), by rw [List.map_cons, List.getElem?_cons_zero, r.len]⟩
    | succ i => exact h2 i x (by simpa using hx)
/-- the first of the shortest -/
def minL (l : List D) (ls : List (List D)) : List D := ls.foldl (fun a y => if y.length < a.length then y else a) l
def shL (a b : List D) : Bool := decide (a.length < b.length)
theorem minL_at (l : List D) (ls : List (List D)) : (l :: ls)[argBest (btL fun i => ((l :: ls).map List.length).getD i 0) (ls.length)]? = some (minL l ls) := by
  have e : (btL fun i => ((l :: ls).map List.length).getD i 0) = fun i j => shL ((l :: ls).getD i []) ((l :: ls).getD j []) := by
    funext i j
    have h : ∀ i, ((l :: ls).map List.length).getD i 0 = ((l :: ls).getD i []).length := fun i => by
      rw [List.getD_eq_getElem?_getD, List.getD_eq_getElem?_getD, List.getElem?_map]
      cases (l :: ls)[i]? <;> rfl
    show decide (((((l :: ls).map List.length).getD i 0 : Nat) : Int) < ((((l :: ls).map List.length).getD j 0 : Nat) : Int)) = shL _ _
    unfold shL
    rw [h, h, Bool.eq_iff_iff, decide_eq_true_eq, decide_eq_true_eq]
    omega
  rw [e]
  obtain ⟨h1, h2⟩ := PySem.W.argBest_fold shL [] l ls ls.length (Nat.le_refl _)
  rw [List.take_length] at h2
  have hlt : argBest (fun i j => shL ((l :: ls).getD i []) ((l :: ls).getD j [])) ls.length < (l :: ls).length := by
    rw [List.length_cons]
    omega
  rw [List.getElem?_eq_getElem hlt]
  rw [List.getD_eq_getElem?_getD, List.getElem?_eq_getElem hlt] at h2
  have : (l :: ls)[argBest (fun i j => shL ((l :: ls).getD i []) ((l :: ls).getD j [])) ls.length] = minL l ls := by
    refine Eq.trans h2 ?_
    unfold minL
    congr 1
    funext a y
    unfold shL
    by_cases c : y.length < a.length <;> simp [c]
  rw [this]
/-- min of a list of lists, key=len -/
def mnKS : OpS := op1S (kyS "min" "len") (fun d T Q => ∃ ls : List (List D), viewL T d = some (ls.map D.lst) ∧ ∃ l r, ls = l :: r ∧ Q (.lst (minL l r)) T) (fun h w => by
    obtain ⟨ns, a, l, r, b, c⟩ := w
    exact ⟨ns, a, l, r, b, h _ _ c⟩) (by
  intro Ω C F k sc e x m W hs h1
  obtain ⟨p, q, r, s, rfl, ⟨g1, b1⟩, ⟨g2, b2⟩, hn⟩ := kyS_ok hs
  obtain ⟨ta, a1, a2⟩ := h1
  refine ⟨fun W => tCB (rMinL Ω.K) (tCons (ta W) tNil), fun X W' g tk => ?_, fun Bg M T H σ G Qd Xq Q W' en w post px => ?_⟩
  · have z := cr_minL (X := X) g.calm
    rw [g.eK] at z
    exact pe_keyB z (g.gl g1) (by rw [g.eM]; exact W.bs _ b1) (by decide +kernel) (g.gl g2) (by rw [g.eM]; exact W.bs _ b2) (by decide +kernel) (pa_cons (a1 X W' g tk) pa_nil (star_cons hn)) (by decide) (by decide) (by decide) (by decide) (by rw [star_cons hn]; rfl) (by rw [star_cons hn]; rfl)
  · refine a2 _ _ _ _ _ _ _ _ _ _ en w (fun d v B1 T1 H1 e1 s1 rx w1 => ?_) px
    obtain ⟨ls, hv, l, r, rfl, w2⟩ := w1
    obtain ⟨a, us, rfl, hs, rl2⟩ := view_ok s1 hv rx
    have post := post.ext e1
    obtain ⟨hlen, hit⟩ := rep_lists rl2
    refine ⟨a, us, (l :: r).map List.length, rfl, .inl (.inl hs), fun z => ?_, by rw [hlen, List.length_map], hit, fun x hx => ?_⟩
    · rw [z] at hlen
      cases hlen
    · rw [List.length_map, List.length_cons, Nat.add_sub_cancel] at hx
      exact post.here s1 (rep_at rl2 hx (by rw [List.getElem?_map, minL_at]; rfl)) w2)
theorem ex_mnK {F : List Ct} {G : GV} {T : TS} {Q : QD} {X : XD} {a : E} : wpE F (.op mnKS [a]) G T Q X = wpE F a G T (fun d T1 => ∃ ls : List (List D), viewL T1 d = some (ls.map D.lst) ∧ ∃ l r, ls = l :: r ∧ Q (.lst (minL l r)) T1) X := by rw [wpE, wpEs]; simp only [wpEs]; rfl
end NX
set_option Elab.async false
set_option linter.all false
set_option maxRecDepth 100000
set_option maxHeartbeats 4000000
/-! The wider small language: sorted(xs, key=len). -/
namespace NX
open PySem PySem.Spec PyProof.Rows L2 OC
theorem each_of {α β : Type} {R : α → β → Prop} : ∀ (as : List α) (bs : List β), as.length = bs.length → (∀ (i : Nat) a b, as[i]? = some a → bs[i]? = some b → R a b) → PySem.W.EachIs R as bs
  | [], [], _, _ => .nil
  | [], _ :: _, h, _ => by cases h
  | _ :: _, [], h, _ => by cases h
  | a :: as, b :: bs, h, hr => .cons (hr 0 a b rfl rfl) (each_of as bs (by simpa using h) fun i x y hx hy => hr (i + 1) x y (by simpa using hx) (by simpa using hy))
theorem vals_of_each {β : Type} {R : Value → β → Prop} {f : β → V} (hR : ∀ v b, R v b → RelV (f b) v) : ∀ {as : List Value} {bs : List β}, PySem.W.EachIs R as bs → Vals (bs.map f) as
  | _, _, .nil => .nil
  | _, _, .cons h t => .cons (hR _ _ h) (vals_of_each hR t)
def rSortL (K : PySem.W.Frag) : List V → Hp → VK → Prop := fun vs H Q => ∃ (a : Addr) (xs : List V) (ns : List Nat), vs = [V.ref a] ∧ SqL K H a xs ∧ xs.length = ns.length ∧ (∀ (i : Nat) (x : V), xs[i]? = some x → ∃ (b : Addr) (ys : List V), x = V.ref b ∧ SqL K H b ys ∧ ns[i]? = some ys.length) ∧
  ∀ p : Addr, H p = none → Q (.ref p) (upd H p (.lst (((xs.zip ns).mergeSort fun a b => decide (a.2 ≤ b.2)).map (·.1))))
theorem cr_sortL {X : Cx} (hc : X.calm = true) (hu : X.A.units + 64 < cLine) (pins : List (Addr × Obj)) (s : Shared) (σ : L2.St) (H : Hp) (xs : List V) (us : List Value) (Q : VK) (I : Inv X pins σ H s) (r : Vals xs us) (h : rSortL X.K xs H Q) : wpAny (model X.prog X.w) X.A (call (.builtin "sorted") us [(Str.ofString "key", .builtin "len")]) (EP X pins σ Q) X.xe s := by
  obtain ⟨a, vs, ns, rfl, hs, hlen, hit, q⟩ := h
  obtain ⟨its, rv, hl, hz⟩ := I.list hs
  rw [Vals.ref1 r]
  have hzl : (vs.zip ns).length = vs.length := by rw [List.length_zip]; omega
  have each : PySem.W.EachIs (fun (v : Value) (b : V × Nat) => RelV b.1 v ∧ ∃ (c : Addr) (ys : List V), b.1 = V.ref c ∧ SqL X.K H c ys ∧ b.2 = ys.length) its (vs.zip ns) := by
    refine each_of _ _ (by rw [hzl]; exact rv.length.symm) fun i v b hv hb => ?_
    obtain ⟨h1, h2⟩ := List.getElem?_zip_eq_some.mp hb
    obtain ⟨u, e1, e2⟩ := rv.get h1
    rw [hv] at e1
    cases e1
    obtain ⟨c, ys, e3, e4, e5⟩ := hit i b.1 h1
    rw [h2] at e5
    exact ⟨e2, c, ys, e3, e4, Option.some.inj e5⟩
  refine PySem.W.sorted_key_data (b := false) (fun b : V × Nat => PyData.int (b.2 : Int)) hl.isList each (fun d hd d' hd' => ?_) (.inr fun d hd => ?_) (by rw [hzl]; exact hz) (fun x hx => by show X.A.units + 2 + 0 < cLine; omega) (PyProof.Rows.ksk_s1 _ _) (fun _ => PyProof.Rows.ksk_l1 _ _) (fun x => PyProof.Rows.ksk_t4 "len" x) (fun v x hR hx h tk keep => ?_) fun out c h' tk keep _ he ho hE => ?_
  · obtain ⟨x, _, rfl⟩ := List.mem_map.mp hd
    obtain ⟨y, _, rfl⟩ := List.mem_map.mp hd'
    rfl
  · obtain ⟨x, _, rfl⟩ := List.mem_map.mp hd
    exact ⟨by simp, by simp⟩
  · obtain ⟨e1, b, ys, e2, hsq, hn⟩ := hR
    obtain ⟨x, n⟩ := x
    dsimp only at e1 e2 hn ⊢
    subst e2
    subst hn
    obtain rfl : v = Value.ref b := e1
    obtain ⟨its2, rv2, hl2, hz2⟩ := I.list hsq
    have hn63 := line63
    have l2 := rv2.length
    have hl3 : h.IsList b its2.toArray := by
      obtain ⟨o2, e2, r2⟩ := hl2.isList
      exact ⟨o2, keep _ _ e2, r2⟩
    refine Calls.call_len_list (s := { s with heap := h, toks := tk }) hl3 (by rw [List.size_toArray, ← l2]; omega) ?_
    refine ⟨h, tk + 1 + 1, rfl, fun _ _ z => z, ?_⟩
    rw [List.size_toArray, ← l2]
    exact Reads.int _ _
  · have hv := vals_of_each (f := fun b : V × Nat => b.1) (fun v b h => h.1) hE
    rw [PySem.W.dataLe_int] at hv
    have e : (fun a b : V × Nat => decide ((a.2 : Int) ≤ (b.2 : Int))) = fun a b => decide (a.2 ≤ b.2) := by
      funext a b
      rw [Bool.eq_iff_iff, decide_eq_true_eq, decide_eq_true_eq]
      omega
    rw [e] at hv
    have hlen2 : (((vs.zip ns).mergeSort fun a b => decide (a.2 ≤ b.2)).map (·.1)).length ≤ sizeLine := by
      rw [List.length_map, List.length_mergeSort, hzl]
      exact hz
    exact ⟨.ref _, upd H (s.heap.objs.size + 1) (.lst (((vs.zip ns).mergeSort fun a b => decide (a.2 ≤ b.2)).map (·.1))), I.laid (t' := tk) keep (Nat.le_succ _) ⟨hlen2, _, _, hv, he⟩, rfl, q _ (I.hok.fresh (Nat.le_succ _))⟩
def srtLn (ls : List (List D)) : List (List D) := ls.mergeSort fun a b => decide (a.length ≤ b.length)
theorem repL_zip {K : PySem.W.Frag} {Bg M : AP} {H : Hp} : ∀ {vs : List V} {ls : List (List D)}, RepL K Bg M H vs (ls.map D.lst) → vs.length = ls.length ∧ ∀ p ∈ vs.zip ls, Rep K Bg M H p.1 (.lst p.2)
  | _, [], .nil => ⟨rfl, fun p hp => nomatch hp⟩
  | _, l :: ls, .cons h t => by
    obtain ⟨h1, h2⟩ := repL_zip t
    refine ⟨by rw [List.length_cons, List.length_cons, h1], fun p hp => ?_⟩
    rcases List.mem_cons.mp hp with rfl | hp
    · exact h
    · exact h2 p hp
theorem repL_unzip {K : PySem.W.Frag} {Bg M : AP} {H : Hp} : ∀ {zs : List (V × List D)}, (∀ p ∈ zs, Rep K Bg M H p.1 (.lst p.2)) → RepL K Bg M H (zs.map (·.1)) (zs.map fun p => D.lst p.2)
  | [], _ => .nil
  | p :: zs, h => .cons (h p List.mem_cons_self) (repL_unzip fun q hq => h q (List.mem_cons_of_mem _ hq))
/-- sorted(xs, key=len) -/
def srtKS (own : Bool) : OpS := op1S (kyS "sorted" "len") (fun d T Q => ∃ ls : List (List D), viewL T d = some (ls.map D.lst) ∧ mkL own ((srtLn ls).map D.lst) T Q) (fun h w => by
    obtain ⟨ns, a, b⟩ := w
    exact ⟨ns, a, mkL_mono h b⟩) (by
  intro Ω C F k sc e x m W hs h1
  obtain ⟨p, q, r, s, rfl, ⟨g1, b1⟩, ⟨g2, b2⟩, hn⟩ := kyS_ok hs
  obtain ⟨ta, a1, a2⟩ := h1
  refine ⟨fun W => tCB (rSortL Ω.K) (tCons (ta W) tNil), fun X W' g tk => ?_, fun Bg M T H σ G Qd Xq Q W' en w post px => ?_⟩
  · have z := cr_sortL (X := X) g.calm g.hu
    rw [g.eK] at z
    exact pe_keyB z (g.gl g1) (by rw [g.eM]; exact W.bs _ b1) (by decide +kernel) (g.gl g2) (by rw [g.eM]; exact W.bs _ b2) (by decide +kernel) (pa_cons (a1 X W' g tk) pa_nil (star_cons hn)) (by decide) (by decide) (by decide) (by decide) (by rw [star_cons hn]; rfl) (by rw [star_cons hn]; rfl)
  · refine a2 _ _ _ _ _ _ _ _ _ _ en w (fun d v B1 T1 H1 e1 s1 rx w1 => ?_) px
    obtain ⟨ls, hv, w2⟩ := w1
    obtain ⟨a, us, rfl, hs, rl2⟩ := view_ok s1 hv rx
    obtain ⟨hlen, hit⟩ := rep_lists rl2
    obtain ⟨_, hzr⟩ := repL_zip rl2
    refine ⟨a, us, ls.map List.length, rfl, .inl (.inl hs), by rw [hlen, List.length_map], hit, fun p2 hp2 => ?_⟩
    have ea : us.zip (ls.map List.length) = (us.zip ls).map fun p => (p.1, p.2.length) := by
      rw [List.zip_map_right]
      rfl
    have e1' : ((us.zip (ls.map List.length)).mergeSort fun a b => decide (a.2 ≤ b.2)).map (·.1) = ((us.zip ls).mergeSort fun a b => decide (a.2.length ≤ b.2.length)).map (·.1) := by
      rw [ea, ← List.map_mergeSort (r := fun a b : V × List D => decide (a.2.length ≤ b.2.length)) (fun a _ b _ => rfl), List.map_map]
      rfl
    have eb : ls = (us.zip ls).map (·.2) := by
      rw [List.map_snd_zip]
      omega
    have e2' : (srtLn ls).map D.lst = ((us.zip ls).mergeSort fun a b => decide (a.2.length ≤ b.2.length)).map fun p => D.lst p.2 := by
      unfold srtLn
      conv => lhs; rw [eb]
      rw [← List.map_mergeSort (r := fun a b : V × List D => decide (a.2.length ≤ b.2.length)) (fun a _ b _ => rfl), List.map_map]
      rfl
    rw [e1']
    rw [e2'] at w2
    exact new_lst s1 (repL_unzip fun p hp => hzr p ((List.mergeSort_perm _ _).mem_iff.mp hp)) w2 (post.ext e1) hp2)
theorem ex_srtK {F : List Ct} {G : GV} {T : TS} {Q : QD} {X : XD} {o : Bool} {a : E} : wpE F (.op (srtKS o) [a]) G T Q X = wpE F a G T (fun d T1 => ∃ ls : List (List D), viewL T1 d = some (ls.map D.lst) ∧ mkL o ((srtLn ls).map D.lst) T1 Q) X := by rw [wpE, wpEs]; simp only [wpEs]; rfl
end NX
set_option Elab.async false
set_option linter.all false
set_option maxRecDepth 100000
set_option maxHeartbeats 4000000
/-! The wider small language: xs[::-1]. -/
namespace NX
open PySem PySem.Spec PyProof.Rows L2 OC
def asBack : Expr → Option Expr
  | .Subscript e (.Slice none none (some (.UnaryOp .USub (.Constant (.int 1) _ _) _)) _) _ => some e
  | _ => none
theorem asBack_ok {e x : Expr} (h : asBack e = some x) : ∃ k p1 p2 p3 pos, e = .Subscript x (.Slice none none (some (.UnaryOp .USub (.Constant (.int 1) k p1) p2)) p3) pos := by
  unfold asBack at h
  split at h
  · cases h
    exact ⟨_, _, _, _, _, rfl⟩
  · cases h
/-- xs[::-1] -/
def rvsS (own : Bool) : OpS := op1S (fun _ _ e => asBack e) (fun d T Q => ∃ xs : List D, viewL T d = some xs ∧ mkL own xs.reverse T Q) (fun h w => by
    obtain ⟨xs, a, b⟩ := w
    exact ⟨xs, a, mkL_mono h b⟩) (by
  intro Ω C F k sc e x m W hs h1
  obtain ⟨k2, p1, p2, p3, pos, rfl⟩ := asBack_ok hs
  obtain ⟨ta, a1, a2⟩ := h1
  refine ⟨fun W => tRevL Ω.K (ta W), fun X W' g tk => ?_, fun Bg M T H σ G Qd Xq Q W' en w post px => ?_⟩
  · have z := pe_revL (k := k2) (p1 := p1) (p2 := p2) (p3 := p3) (pos := pos) (a1 X W' g tk)
    rw [g.eK] at z
    exact z
  · refine a2 _ _ _ _ _ _ _ _ _ _ en w (fun d v B1 T1 H1 e1 s1 rx w1 => ?_) px
    obtain ⟨xs, hv, w2⟩ := w1
    obtain ⟨a, us, rfl, hs2, rl⟩ := view_ok s1 hv rx
    exact ⟨a, us, rfl, .inl (.inl hs2), fun p hp => new_lst s1 (repL_rev rl) w2 (post.ext e1) hp⟩)
theorem ex_rvs {F : List Ct} {G : GV} {T : TS} {Q : QD} {X : XD} {o : Bool} {a : E} : wpE F (.op (rvsS o) [a]) G T Q X = wpE F a G T (fun d T1 => ∃ xs : List D, viewL T1 d = some xs ∧ mkL o xs.reverse T1 Q) X := by rw [wpE, wpEs]; simp only [wpEs]; rfl
end NX
set_option Elab.async false
set_option linter.all false
set_option maxRecDepth 100000
set_option maxHeartbeats 4000000
/-! The wider small language: is, is not of truth values. -/
namespace NX
open PySem PySem.Spec PyProof.Rows L2 OC
/-- both are truth values; yes: is, no: is not -/
def isbD (yes : Bool) (x y : D) (T : TS) (Q : QD) : Prop := match x, y with
  | .bl a, .bl b => Q (.bl (decide (a = b) == yes)) T
  | _, _ => False
def isbO : Bool → CO
  | true => .isn
  | false => .isnot
theorem isb_rok {Ω : Wd} (yes : Bool) : ROk2 Ω (if yes = true then rIsB else rNotB) (isbD yes) := by
  intro Bg M T H x y dx dy Qd Q s rx ry g post
  cases dx <;> first | exact g.elim | skip
  cases dy <;> first | exact g.elim | skip
  rename_i a b
  have g : Qd (.bl (decide (a = b) == yes)) T := g
  cases yes with
  | true =>
    rw [beq_true] at g
    exact ⟨a, b, rx.bl_inv, ry.bl_inv, post.here s (.bl _) g⟩
  | false =>
    rw [beq_false] at g
    exact ⟨a, b, rx.bl_inv, ry.bl_inv, post.here s (.bl _) g⟩
theorem isb_op (X : Cx) (yes : Bool) : OpR X (compareOp (coOf (isbO yes))) (if yes = true then rIsB else rNotB) := by
  cases yes with
  | true => exact op_isBl
  | false => exact op_notBl
theorem isb_sound {yes : Bool} {Ω : Wd} {C : Ck} {k : Nat} {sc : Scope} {e x y : Expr} {m n : VT} (hs : cmpSh (isbO yes) e = some (x, y)) (h1 : SE Ω C k sc x m) (h2 : SE Ω C k sc y n) :
    (SE Ω C k sc e fun G T Q X => m G T (fun d T1 => n G T1 (fun d2 T2 => isbD yes d d2 T2 Q) X) X) ∧ ST Ω C k sc e fun G T Q X => m G T (fun d T1 => n G T1 (fun d2 T2 => isbD yes d d2 T2 Q) X) X := by
  obtain ⟨ps, rfl, hm⟩ := cmpSh_ok hs
  obtain ⟨ta, a1, a2⟩ := h1
  obtain ⟨tb, b1, b2⟩ := h2
  have hk := ok_op2 (isb_rok (Ω := Ω) yes) a2 b2
  exact ⟨⟨_, fun X W g tk => pe_cmpR (isb_op X yes) (a1 X W g tk) (b1 X W g tk) hm, hk⟩, ⟨_, fun X W g tk => ⟨pt_cmpR (isb_op X yes) (a1 X W g tk) (b1 X W g tk) hm, fun o l p he => by cases he⟩, ok_testR hk⟩⟩
def isbS (yes : Bool) : OpS where
  shape C sc e := (cmpSh (isbO yes) e).map fun x => [x.1, x.2]
  sem _ ds T Q _ := match ds with | [x, y] => isbD yes x y T Q | _ => False
  tst := true
  mono h _ w := by
    split at w
    · rename_i x y
      unfold isbD at w ⊢
      split at w
      · exact h _ _ w
      · exact w
    · exact w
  sound W hs ha := by
    obtain ⟨x, y, h1, rfl⟩ := map2 hs
    obtain ⟨m, n, rfl, h2, h3⟩ := all2_2 ha
    exact (isb_sound h1 h2 h3).1
  soundT _ := by
    intro Ω C F k sc e es ms W hs ha
    obtain ⟨x, y, h1, rfl⟩ := map2 hs
    obtain ⟨m, n, rfl, h2, h3⟩ := all2_2 ha
    exact (isb_sound h1 h2 h3).2
theorem ex_isb {F : List Ct} {G : GV} {T : TS} {Q : QD} {X : XD} {o : Bool} {a b : E} : wpE F (.op (isbS o) [a, b]) G T Q X = wpE F a G T (fun d T1 => wpE F b G T1 (fun e T2 => isbD o d e T2 Q) X) X := by rw [wpE, wpEs]; simp only [wpEs]; rfl
theorem isb_b {o a b : Bool} {T : TS} {Q : QD} : isbD o (.bl a) (.bl b) T Q = Q (.bl (decide (a = b) == o)) T := rfl
end NX
set_option Elab.async false
set_option linter.all false
set_option maxRecDepth 100000
set_option maxHeartbeats 4000000
/-! Whether an equal one lies in a tuple. -/
namespace NX
open PySem PySem.Spec PyProof.Rows L2 OC
def rInT (K : PySem.W.Frag) : R2 := fun x y H Q => ∃ d ds, Dp K H x d ∧ Dp K H y (.tuple ds) ∧ SeqAt.shaped d = true ∧ SeqAt.shaped (.tuple ds) = true ∧ Q (.bl (ds.any fun z => PyData.eqv z d)) H
def rNotInT (K : PySem.W.Frag) : R2 := fun x y H Q => ∃ d ds, Dp K H x d ∧ Dp K H y (.tuple ds) ∧ SeqAt.shaped d = true ∧ SeqAt.shaped (.tuple ds) = true ∧ Q (.bl (!ds.any fun z => PyData.eqv z d)) H
theorem op_inT {X : Cx} (hu : X.A.units + 65 < cLine) : OpR X (compareOp .In) (rInT X.K) := by
  intro pins s σ H x y v u Q I rx ry h
  obtain ⟨d, ds, hd, he, sd, se, q⟩ := h
  obtain ⟨as, r1⟩ := Dp.reads I d x v hd rx
  obtain ⟨bs, r2⟩ := Dp.reads I (.tuple ds) y u he ry
  exact SeqAt.in_tuple_reads r2 r1 (SeqAt.canLay_of_shaped se) (SeqAt.canLay_of_shaped sd) (room_in_shaped sd hu) ⟨.bl _, H, I, rfl, q⟩
theorem op_notInT {X : Cx} (hu : X.A.units + 65 < cLine) : OpR X (compareOp .NotIn) (rNotInT X.K) := by
  intro pins s σ H x y v u Q I rx ry h
  obtain ⟨d, ds, hd, he, sd, se, q⟩ := h
  obtain ⟨as, r1⟩ := Dp.reads I d x v hd rx
  obtain ⟨bs, r2⟩ := Dp.reads I (.tuple ds) y u he ry
  exact SeqAt.notIn_tuple_reads r2 r1 (SeqAt.canLay_of_shaped se) (SeqAt.canLay_of_shaped sd) (room_in_shaped sd hu) ⟨.bl _, H, I, rfl, q⟩
def inTD (yes : Bool) (x y : D) (T : TS) (Q : QD) : Prop := ∃ p ps, Rsv T x p ∧ Rsv T y (.tup ps) ∧ eqOk p ∧ eqOk (.tup ps) ∧ Q (.bl ((ps.any fun z => PyData.eqv z.py p.py) == yes)) T
def rInTB (K : PySem.W.Frag) (yes : Bool) : R2 := if yes = true then rInT K else rNotInT K
theorem op_inTB {X : Cx} (hu : X.A.units + 65 < cLine) (yes : Bool) : OpR X (compareOp (inOp yes)) (rInTB X.K yes) := by
  cases yes
  · exact op_notInT hu
  · exact op_inT hu
theorem rok_inT {Ω : Wd} (yes : Bool) : ROk2 Ω (rInTB Ω.K yes) (inTD yes) := fun Bg M T H x y dx dy Qd Q s rx ry ⟨p, ps, r1, r2, h1, h2, q⟩ post => by
  have d1 := r1.dp s rx
  have d2 := r2.dp s ry
  cases yes
  · refine ⟨_, _, d1, d2, h1.2, h2.2, ?_⟩
    rw [any_py]
    refine post.here s (.bl _) ?_
    have : ((ps.any fun z => PyData.eqv z.py p.py) == false) = !(ps.any fun z => PyData.eqv z.py p.py) := by cases (ps.any fun z => PyData.eqv z.py p.py) <;> rfl
    rw [← this]
    exact q
  · refine ⟨_, _, d1, d2, h1.2, h2.2, ?_⟩
    rw [any_py]
    refine post.here s (.bl _) ?_
    have : ((ps.any fun z => PyData.eqv z.py p.py) == true) = (ps.any fun z => PyData.eqv z.py p.py) := by cases (ps.any fun z => PyData.eqv z.py p.py) <;> rfl
    rw [← this]
    exact q
theorem inT_sound {yes : Bool} {Ω : Wd} {C : Ck} {k : Nat} {sc : Scope} {e x y : Expr} {m n : VT} (hs : inSh yes e = some (x, y)) (h1 : SE Ω C k sc x m) (h2 : SE Ω C k sc y n) :
    (SE Ω C k sc e fun G T Q X => m G T (fun d T1 => n G T1 (fun d2 T2 => inTD yes d d2 T2 Q) X) X) ∧ ST Ω C k sc e fun G T Q X => m G T (fun d T1 => n G T1 (fun d2 T2 => inTD yes d d2 T2 Q) X) X := by
  obtain ⟨ps, rfl, hm⟩ := inSh_ok hs
  obtain ⟨ta, a1, a2⟩ := h1
  obtain ⟨tb, b1, b2⟩ := h2
  have hk := ok_op2 (rok_inT (Ω := Ω) yes) a2 b2
  refine ⟨⟨_, fun X W g tk => ?_, hk⟩, ⟨_, fun X W g tk => ⟨?_, fun o l p he => by cases he⟩, ok_testR hk⟩⟩
  · have := op_inTB (X := X) g.hu65 yes
    rw [g.eK] at this
    exact pe_cmpR this (a1 X W g tk) (b1 X W g tk) hm
  · have := op_inTB (X := X) g.hu65 yes
    rw [g.eK] at this
    exact pt_cmpR this (a1 X W g tk) (b1 X W g tk) hm
theorem inTD_mono {yes : Bool} {x y : D} {T : TS} {Q Q' : QD} (h : ∀ d T', Q d T' → Q' d T') (w : inTD yes x y T Q) : inTD yes x y T Q' := by
  obtain ⟨p, ps, a, b, c, d, q⟩ := w
  exact ⟨p, ps, a, b, c, d, h _ _ q⟩
def inTS (yes : Bool) : OpS where
  shape C sc e := (inSh yes e).map fun x => [x.1, x.2]
  sem _ ds T Q _ := match ds with | [x, y] => inTD yes x y T Q | _ => False
  tst := true
  mono h _ w := by
    split at w
    · exact inTD_mono h w
    · exact w
  sound W hs ha := by
    obtain ⟨x, y, h1, rfl⟩ := map2 hs
    obtain ⟨m, n, rfl, h2, h3⟩ := all2_2 ha
    exact (inT_sound h1 h2 h3).1
  soundT _ := by
    intro Ω C F k sc e es ms W hs ha
    obtain ⟨x, y, h1, rfl⟩ := map2 hs
    obtain ⟨m, n, rfl, h2, h3⟩ := all2_2 ha
    exact (inT_sound h1 h2 h3).2
section
variable {F : List Ct} {G : GV} {T : TS} {Q : QD} {X : XD}
theorem ex_inT {b : Bool} {x y : E} : wpE F (.op (inTS b) [x, y]) G T Q X = wpE F x G T (fun d T1 => wpE F y G T1 (fun e T2 => inTD b d e T2 Q) X) X := by rw [wpE, wpEs]; simp only [wpEs]; rfl
theorem cm_isn : cmpD .isn .non .non T Q = Q (.bl true) T := by first | exact propext Iff.rfl
theorem cm_non : cmpD .isnot .non .non T Q = Q (.bl false) T := by first | exact propext Iff.rfl
theorem cm_isi {i : Int} : cmpD .isn (.int i) .non T Q = Q (.bl false) T := by first | exact propext Iff.rfl
theorem cm_noi {i : Int} : cmpD .isnot (.int i) .non T Q = Q (.bl true) T := by first | exact propext Iff.rfl
theorem cm_ist {xs : List D} : cmpD .isn (.tup xs) .non T Q = Q (.bl false) T := by first | exact propext Iff.rfl
theorem cm_not {xs : List D} : cmpD .isnot (.tup xs) .non T Q = Q (.bl true) T := by first | exact propext Iff.rfl
theorem cm_isl {xs : List D} : cmpD .isn (.lst xs) .non T Q = Q (.bl false) T := by first | exact propext Iff.rfl
theorem cm_nol {xs : List D} : cmpD .isnot (.lst xs) .non T Q = Q (.bl true) T := by first | exact propext Iff.rfl
theorem cm_iss {s : Str} : cmpD .isn (.str s) .non T Q = Q (.bl false) T := by first | exact propext Iff.rfl
theorem cm_nos {s : Str} : cmpD .isnot (.str s) .non T Q = Q (.bl true) T := by first | exact propext Iff.rfl
theorem cm_iso {a : Addr} : cmpD .isn (.ob a) .non T Q = Q (.bl false) T := by first | exact propext Iff.rfl
theorem cm_noo {a : Addr} : cmpD .isnot (.ob a) .non T Q = Q (.bl true) T := by first | exact propext Iff.rfl
theorem cm_isq {q : Rat} : cmpD .isn (encQ q) .non T Q = Q (.bl false) T := by first | exact propext Iff.rfl
theorem cm_noq {q : Rat} : cmpD .isnot (encQ q) .non T Q = Q (.bl true) T := by first | exact propext Iff.rfl
end
end NX
set_option Elab.async false
set_option linter.all false
set_option maxRecDepth 100000
set_option maxHeartbeats 4000000
/-! A call that only looks at things which may change, and answers by a plain value. -/
namespace NX
open PySem PySem.Spec PyProof.Rows L2 OC
def plainV : D → Bool
  | .non => true
  | .bl _ => true
  | .int _ => true
  | .str _ => true
  | _ => false
theorem plainV_rep {K : PySem.W.Frag} {Bg M Bg' M' : AP} {H H' : Hp} {v : V} {d : D} (h : plainV d = true) (r : Rep K Bg M H v d) : Rep K Bg' M' H' v d := by
  cases r <;> first
    | exact .non
    | exact .bl _
    | exact .int _
    | exact .str _
    | cases h
theorem none_sub {T : TS} : TS.none.Sub T := fun _ _ h => nomatch h
section
variable {K : PySem.W.Frag} {mg : Str → Option Value} {Bg M : AP} {T : TS} {H : Hp}
mutual
theorem rsv_rep (s : Sm K mg Bg M T H) : ∀ {d p : D} {v : V}, Rsv T d p → Rep K Bg (lv T M) H v d → Rep K Bg (lv TS.none M) H v p
  | _, _, _, .non, r => plainV_rep rfl r
  | _, _, _, .bl _, r => plainV_rep rfl r
  | _, _, _, .int _, r => plainV_rep rfl r
  | _, _, _, .str _, r => plainV_rep rfl r
  | _, _, _, .tup h, .tup q nb nm r => .tup q nb (not_lv rfl (lv_not nm).2) (rsv_repL s h r)
  | _, _, _, .tup h, .lit q r => .lit q (rsv_repL s h r)
  | _, _, _, .lst h, .lst q nb nm r => .lst q nb (not_lv rfl (lv_not nm).2) (rsv_repL s h r)
  | _, _, _, .ob (a := a) e h, .ob _ => by
    obtain ⟨vs, h1, r⟩ := s.ob a _ e
    exact .lst h1 (s.nb a (some_ne e)) (not_lv rfl fun m => by rw [(s.mm a m).2.2] at e; cases e) (rsv_repL s h r)
theorem rsv_repL (s : Sm K mg Bg M T H) : ∀ {ds ps : List D} {vs : List V}, RsvL T ds ps → RepL K Bg (lv T M) H vs ds → RepL K Bg (lv TS.none M) H vs ps
  | _, _, _, .nil, .nil => .nil
  | _, _, _, .cons h t, .cons r u => .cons (rsv_rep s h r) (rsv_repL s t u)
end
/-- what a call that only looks leaves -/
theorem look_back {Bg' : AP} {T' : TS} {H' : Hp} (s : Sm K mg Bg M T H) (e : Ext Bg TS.none H Bg' T' H') (s' : Sm K mg Bg' M T' H') : Ext Bg T H Bg' T H' ∧ Sm K mg Bg' M T H' := by
  have x : Ext Bg T H Bg' T H' := ⟨e.sub, e.new, fun a o n _ h => e.keep a o n rfl h, fun a h => .inl h, e.stay⟩
  have same : ∀ a, live T a → H' a = H a := fun a h => by
    cases w : H a with
    | none => exact absurd w (s.there h)
    | some o => exact e.keep a o (s.nb a h) rfl w
  refine ⟨x, s'.bags, fun a h => ?_, fun a o h => (s.ob a o h).kp x.kp (same a (some_ne h)), mm_ext s x⟩
  cases w : H a with
  | none => exact absurd w (s.there h)
  | some o => exact x.nb w (s.nb a h)
end
theorem ok_brw {Ω : Wd} {c : Ct} {t : WX → TA} {ms : VTs} {n : Nat} (h : TAok Ω t ms n) : TEok Ω (fun W => tCallW (SpD Ω c) W (t W)) fun G T Q X => ms G T (fun ds T1 => ∃ ps, RsvL T1 ds ps ∧ c.c ps TS.none (fun d _ => plainV d = true ∧ Q d T1) noX) X := fun Bg M T H σ G Qd Xq Q W en w post px => by
  refine h _ _ _ _ _ _ _ _ _ _ en w (fun ds vs B1 T1 H1 e1 s1 rl hl w1 => ?_) px
  obtain ⟨ps, hr, hc⟩ := w1
  have s0 : Sm Ω.K Ω.mg B1 M TS.none H1 := s1.less none_sub
  refine ⟨B1, M, TS.none, ps, _, noX, s0, rsv_repL s1 hr rl, hc, fun d v B2 T2 H2 e2 s2 rd ⟨pd, q⟩ => ?_, PostX.no⟩
  obtain ⟨x, s3⟩ := look_back s1 e2 s2
  exact post d v B2 T1 H2 (e1.trans x) s3 (plainV_rep pd rd) q
def brwS (f : Nat) : OpS where
  shape C sc e := match asCall e with
    | some (x, es) => if decide (C.fs[f]? = some (.fn x)) && glb sc x && !(x == ("__debug__" : Str)) && nstL es then some es else none
    | none => none
  sem F ds T Q X := match F[f]? with | some c => ∃ ps, RsvL T ds ps ∧ c.c ps TS.none (fun d _ => plainV d = true ∧ Q d T) noX | none => False
  tst := false
  mono h h' w := by
    split at w
    · rename_i c hc
      obtain ⟨ps, a, b⟩ := w
      exact ⟨ps, a, c.mono (fun d _ z => ⟨z.1, h _ _ z.2⟩) (fun _ _ z => z) b⟩
    · exact w
  sound {Ω C F k sc e es ms} W hs ha := by
    split at hs
    · rename_i x es' hx
      split at hs
      · rename_i hc
        cases hs
        obtain ⟨p, q, rfl⟩ := asCall_ok hx
        simp only [Bool.and_eq_true, decide_eq_true_eq, Bool.not_eq_true'] at hc
        obtain ⟨⟨⟨hf, hg⟩, hd⟩, hn⟩ := hc
        obtain ⟨c, h1, fa, fd, ps, e1, e2, e3, e4, e5⟩ := W.fs f _ hf
        simp only [h1]
        cases es with
        | nil =>
          cases ha
          refine ⟨fun W => tCallW (SpD Ω c) W tNil, fun X W g tk => ?_, ok_brw (n := 0) (ms := seqM []) fun Bg M T H σ G Qd Xq Q W en w post px => post _ _ _ _ _ .refl en.sm .nil rfl w⟩
          obtain rfl := g.wd
          exact pe_callW0 e5 g.room g.gd (g.gl hg) e1 e2 e3 tk hd
        | cons y ys =>
          obtain ⟨t, t1, t2, t3⟩ := sa_of ha hn
          refine ⟨_, fun X W g tk => ?_, ok_brw t2⟩
          have z1 := t1 X W g tk
          obtain rfl := g.wd
          have hn' : (nst y && nstL ys) = true := hn
          rw [Bool.and_eq_true] at hn'
          exact pe_callW e5 g.room g.gd (g.gl hg) e1 e2 e3 tk z1 hd (star_cons hn'.1) (star_all hn'.2)
      · cases hs
    · cases hs
  soundT h := nomatch h
theorem ex_brw {F : List Ct} {G : GV} {T : TS} {Q : QD} {X : XD} {f : Nat} {as : List E} : wpE F (.op (brwS f) as) G T Q X = wpEs F as G T (fun ds T1 => match F[f]? with | some c => ∃ ps, RsvL T1 ds ps ∧ c.c ps TS.none (fun d _ => plainV d = true ∧ Q d T1) noX | none => False) X := by rw [wpE] <;> rfl
end NX
set_option Elab.async false
set_option linter.all false
set_option maxRecDepth 100000
set_option maxHeartbeats 4000000
set_option exponentiation.threshold 20000
set_option Elab.async false
set_option linter.all false
set_option maxRecDepth 100000
set_option maxHeartbeats 4000000
set_option exponentiation.threshold 20000
namespace NX
open PySem PySem.Spec PyProof.Rows L2 OC
theorem lowQ {q : Rat} {n : Nat} (h1 : q.num.natAbs < 2 ^ n) (h2 : q.den < 2 ^ n) : Bq n q := ⟨h1, h2⟩
theorem showI_mono : ∀ {n : Nat} {d : D}, ShowI n d → ShowI (n + 1) d
  | _, .int i, h => by rw [ShowI] at h ⊢; exact h
  | _, .bl b, h => by rw [ShowI]; trivial
  | _, .non, h => by rw [ShowI]; trivial
  | _, .str s, h => by rw [ShowI] at h ⊢; exact h
  | n + 1, .tup xs, h => by
    rw [ShowI] at h ⊢
    exact fun x hx => showI_mono (h x hx)
  | n + 1, .lst xs, h => by
    rw [ShowI] at h ⊢
    exact fun x hx => showI_mono (h x hx)
  | 0, .tup xs, h => by simp [ShowI] at h
  | 0, .lst xs, h => by simp [ShowI] at h
  | _, .scr _, h => by simp [ShowI] at h
  | _, .bag, h => by simp [ShowI] at h
  | _, .ob _, h => by simp [ShowI] at h
theorem showI_le {n m : Nat} {d : D} (h : n ≤ m) (hd : ShowI n d) : ShowI m d := by
  obtain ⟨k, rfl⟩ := Nat.le.dest h
  induction k with
  | zero => exact hd
  | succ k ih => exact showI_mono (ih (by omega))
theorem spB_of {n : Nat} {x : D} (h : ShowI n x) : SpB x := fun a b e q hq => by
  subst e
  cases n with
  | zero => simp [ShowI] at h
  | succ n =>
    rw [ShowI] at h
    have hQ : ShowI n (encQ q) := by
      rcases hq with rfl | rfl
      · exact h _ List.mem_cons_self
      · exact h _ (List.mem_cons_of_mem _ List.mem_cons_self)
    cases n with
    | zero => simp [encQ, ShowI] at hQ
    | succ n =>
      unfold encQ at hQ
      rw [ShowI] at hQ
      have h1 := hQ (.int q.num) List.mem_cons_self
      have h2 := hQ (.int q.den) (List.mem_cons_of_mem _ List.mem_cons_self)
      rw [ShowI] at h1 h2
      have h2 : (q.den : Int).natAbs < 2 ^ 1900 := h2
      rw [Int.natAbs_natCast] at h2
      exact (lowQ (n := 1900) h1 h2).mono (by decide)
/-- a thing of a moderate size -/
structure Md (n k : Nat) (d : D) : Prop where
  s : ShowI n d
  k : d.nd ≤ k
theorem Md.le {n m k j : Nat} {d : D} (h : Md n k d) (hn : n ≤ m) (hk : k ≤ j) : Md m j d := ⟨showI_le hn h.s, Nat.le_trans h.k hk⟩
theorem Md.ok {d : D} (h : Md 10 4000 d) : showOk d := showOk_of h.s (by decide) (Nat.le_trans h.k (by decide))
theorem nd_len : ∀ xs : List D, xs.length ≤ ndL xs
  | [] => Nat.zero_le _
  | x :: xs => by
    have := nd_len xs
    have h1 : 1 ≤ x.nd := by cases x <;> simp [D.nd]
    show xs.length + 1 ≤ x.nd + ndL xs
    omega
theorem Md.cuts {d : D} (h : Md 10 4000 d) : d.pure = true ∧ ∀ xs, d = .lst xs → xs.length ≤ 100000 ∧ ∀ x ∈ xs, SpB x := by
  refine ⟨h.ok.1, fun xs e => ?_⟩
  subst e
  have h1 := h.s
  have h2 : 1 + ndL xs ≤ 4000 := h.k
  have := nd_len xs
  rw [ShowI] at h1
  exact ⟨by omega, fun x hx => spB_of (h1 x hx)⟩
theorem Md.lst {n k : Nat} {xs : List D} (h : ∀ x ∈ xs, Md n k x) {j : Nat} (hj : 1 + k * xs.length ≤ j) : Md (n + 1) j (.lst xs) := ⟨by rw [ShowI]; exact fun x hx => (h x hx).s, by
  have := ndL_le (k := k) (xs := xs) fun x hx => (h x hx).k
  show 1 + ndL xs ≤ j
  omega⟩
theorem Md.tup {n k : Nat} {xs : List D} (h : ∀ x ∈ xs, Md n k x) {j : Nat} (hj : 1 + k * xs.length ≤ j) : Md (n + 1) j (.tup xs) := ⟨by rw [ShowI]; exact fun x hx => (h x hx).s, by
  have := ndL_le (k := k) (xs := xs) fun x hx => (h x hx).k
  show 1 + ndL xs ≤ j
  omega⟩
theorem md_int {n : Nat} {i : Int} (h : i.natAbs < 2 ^ 1900) : Md n 1 (.int i) := ⟨by rw [ShowI]; exact h, Nat.le_refl _⟩
theorem md_bl {n : Nat} {b : Bool} : Md n 1 (.bl b) := ⟨by rw [ShowI]; trivial, Nat.le_refl _⟩
theorem md_non {n : Nat} : Md n 1 .non := ⟨by rw [ShowI]; trivial, Nat.le_refl _⟩
theorem md_Q {q : Rat} (h : Bq 1000 q) : Md 1 3 (encQ q) := Md.tup (n := 0) (k := 1) (fun x hx => by
  have h1 := h.1
  have h2 := h.2
  have big : (2 : Nat) ^ 1000 < 2 ^ 1900 := by decide
  simp only [List.mem_cons, List.not_mem_nil, or_false] at hx
  rcases hx with rfl | rfl
  · exact md_int (by omega)
  · exact md_int (by rw [Int.natAbs_natCast]; omega)) (Nat.le_refl _)
theorem md_P {p : Rat × Rat} (h : Bq 1000 p.1 ∧ Bq 1000 p.2) : Md 2 7 (encP p) := Md.tup (n := 1) (k := 3) (fun x hx => by
  simp only [List.mem_cons, List.not_mem_nil, or_false] at hx
  rcases hx with rfl | rfl
  · exact md_Q h.1
  · exact md_Q h.2) (Nat.le_refl _)
theorem pickD {xs : List D} {r : Int} {T : TS} {Q : QD} {P : D → Prop} (h0 : 0 ≤ r) (h1 : r < xs.length) (hP : ∀ d ∈ xs, P d) (q : ∀ d, P d → Q d T) : ixD (.lst xs) (.int r) T Q := by
  have hl : r.toNat < xs.length := by omega
  have e : atI xs r = some xs[r.toNat] := by
    unfold atI ixN
    rw [if_pos h0, if_pos h1]
    simp only [Option.bind_some]
    exact List.getElem?_eq_getElem hl
  rw [ix_l, e]
  exact q _ (hP _ (List.getElem_mem hl))
theorem pickO {xs : List D} {a : Addr} {r : Int} {T : TS} {Q : QD} {P : D → Prop} (ha : T a = some (.lst xs)) (h0 : 0 ≤ r) (h1 : r < xs.length) (hP : ∀ d ∈ xs, P d) (q : ∀ d, P d → Q d T) : ixD (.ob a) (.int r) T Q := by
  have hl : r.toNat < xs.length := by omega
  have e : atI xs r = some xs[r.toNat] := by
    unfold atI ixN
    rw [if_pos h0, if_pos h1]
    simp only [Option.bind_some]
    exact List.getElem?_eq_getElem hl
  rw [ix_o]
  exact ⟨xs, _, ha, e, q _ (hP _ (List.getElem_mem hl))⟩
theorem pd_P {p : Rat × Rat} {n : Nat} : Pd (n + 2) (encP p) := pd_tup fun d hd => by
  simp only [List.mem_cons, List.not_mem_nil, or_false] at hd
  rcases hd with rfl | rfl
  · exact pd_tup fun d hd => by
      simp only [List.mem_cons, List.not_mem_nil, or_false] at hd
      rcases hd with rfl | rfl <;> exact pd_int
  · exact pd_tup fun d hd => by
      simp only [List.mem_cons, List.not_mem_nil, or_false] at hd
      rcases hd with rfl | rfl <;> exact pd_int
theorem md_t2 {x y : D} (hx : Md 0 1 x) (hy : Md 0 1 y) : Md 1 5 (.tup [x, y]) := Md.tup (n := 0) (k := 1) (fun z hz => by
  simp only [List.mem_cons, List.not_mem_nil, or_false] at hz
  rcases hz with rfl | rfl
  · exact hx
  · exact hy) (show 1 + 1 * 2 ≤ 5 by decide)
theorem md_l2 {x y : D} (hx : Md 0 1 x) (hy : Md 0 1 y) : Md 1 5 (.lst [x, y]) := Md.lst (n := 0) (k := 1) (fun z hz => by
  simp only [List.mem_cons, List.not_mem_nil, or_false] at hz
  rcases hz with rfl | rfl
  · exact hx
  · exact hy) (show 1 + 1 * 2 ≤ 5 by decide)
theorem md_t1 {x : D} (hx : Md 0 1 x) : Md 1 5 (.tup [x]) := Md.tup (n := 0) (k := 1) (fun z hz => by
  simp only [List.mem_cons, List.not_mem_nil, or_false] at hz
  rcases hz with rfl
  exact hx) (show 1 + 1 * 1 ≤ 5 by decide)
theorem str_0 : StrSh ("" : Str) := ⟨by decide +kernel, by decide +kernel, by decide +kernel⟩
theorem str_h : StrSh ("1/2" : Str) := ⟨by decide +kernel, by decide +kernel, by decide +kernel⟩
theorem str_a : StrSh ("a" : Str) := ⟨by decide +kernel, by decide +kernel, by decide +kernel⟩
theorem isInt_int {d : D} (hp : d.pure = true) : (OC.isTy .int d && !OC.isTy .bool d) = isIntD d := by
  cases d <;> rfl
def oddC : Ct := bagP (fun d : D => d) fun d => Md 2 10 d
def b_odd7 (t : Nat) : List S := [.st (asgS 1) [.op (lstS false) [.op (kS .non) [], .op (kS (.bl true)) [], .op (kS (.bl false)) [], .op (kS (.int 0)) [], .op (kS (.int 1)) [], .op negS [.op (kS (.int 1)) []], .op (kS (.str ("" : Str))) [], .op (kS (.str ("1/2" : Str))) [], .op (kS (.str ("a" : Str))) [], .op tupS [], .op (lstS false) [], .op tupS [.op (kS (.int 1)) []], .op (lstS false) [.op (kS (.int 1)) [], .op (kS (.int 2)) []], .op tupS [.op (kS (.int 1)) [], .op (kS (.int 2)) [], .op (kS (.int 3)) []], .op tupS [.op tupS [.op (kS (.int 1)) [], .op (kS (.int 2)) []], .op (kS (.int 3)) []], .op (lstS false) [.op tupS [.op (kS (.int 0)) [], .op (kS (.int 1)) []]]]], .st retS [.op ixS [.var 1, .op (callS t) [.var 0, .op (kS (.int 16)) []]]]]
theorem odd7_ok {F : List Ct} {t : Nat} (ht : F[t]? = some takeC) : ∀ ds T Q X, (oddC).c ds T Q X → wpBody F 2 (b_odd7 t) ds T Q X := by
  rintro _ T Q X ⟨_, rfl, _, hq⟩
  unfold b_odd7
  simp only [wpBody, start0, List.map_cons, List.map_nil, List.length, List.replicate, List.cons_append, List.nil_append, Nat.reduceAdd, Nat.reduceSub]
  try dsimp only
  try dsimp only
  rw [sq_asg]
  simp only [ex_var, ex_k, ex_bin, ex_cat, ex_neg, ex_cmp, ex_tup, ex_lst, ex_mkbag, ex_ix, ex_ixn, ex_slL, ex_slH, ex_slK, slL_g, ex_call, ex_bi, ex_isD, isi_i, isi_b, isi_s, isi_n, ex_app, ex_ext, ex_pop, ex_rev, ex_pop0, ex_chain, ex_and, ex_or, ex_not, ex_ite, ex_lc, ex_lsOf, ex_tuOf, ex_in, ex_srtI, ex_mnL, ex_mxL, ex_mnD, ex_fld, ex_meth, ex_mk, ex_dic, ex_dget, ex_din, ex_dpop, ex_tab, ex_sit, insD_ob, dicD_i, slT_g, es_nil, es_cons, OC.getV, List.set, bop, augop, ixn_t, ixn_l, ixn_o, ixn_q0, ixn_q1, pkI2, pkI3, pkI4, pkI5, pkI6, pkQ2, pkQ3, pkQ4, pkQ5, pkU2, pkU3, pkU4, pkU5, pkL2, pkL3, pkL4, pkL5, bi_len_l, bi_len_t, bi_len_s, bi_len_x, bi_len_o, bi_abs, bi_max2, bi_min2, bi_max3, bi_sum_l, bi_sum_o, bi_all_l, bi_all_o, bi_any_l, bi_any_o, bi_repr, bi_divmod, bi_int_i, bi_int_b, dtru, bn_name, bn_tup, bns_nil, bns_cons, if_true, if_false, Bool.false_eq_true, List.getElem?_cons_zero, List.getElem?_cons_succ, List.length_cons, List.length_nil, cm_eqI, cm_neI, cm_eqS, cm_neS, cm_ltI, cm_leI, cm_gtI, cm_geI, co_eqI, co_neI, co_ltI, co_leI, co_gtI, co_geI, cm_eqB, cm_neB, cm_eqQ, cm_neQ, mkL_t, mkL_f, viewL_l, viewS_l, viewS_t, someE, ik_l, ik_t, ik_r1, ik_r2, ik_rev, ik_enum, ik_zip, bagP_c, true_and, and_true, Bool.not_true, Bool.not_false, if_nil, if_cons, OC.wipeV, List.map_cons, List.map_nil, List.length_map, ex_isb, isb_b, ex_rvs, ex_srtK, ex_mxP, ex_mnK, ex_brw, ex_inT, cm_isn, cm_non, cm_isi, cm_noi, cm_ist, cm_not, cm_isl, cm_nol, cm_iss, cm_nos, cm_iso, cm_noo, cm_isq, cm_noq, bn_E, bn_q2, ik_es, ik_ss, bn_case, bn_S, bi_len_es, bi_len_ss, ht, take_c, tk 16 rfl]
  try dsimp only
  rw [sq_ret]
  simp only [ex_var, ex_k, ex_bin, ex_cat, ex_neg, ex_cmp, ex_tup, ex_lst, ex_mkbag, ex_ix, ex_ixn, ex_slL, ex_slH, ex_slK, slL_g, ex_call, ex_bi, ex_isD, isi_i, isi_b, isi_s, isi_n, ex_app, ex_ext, ex_pop, ex_rev, ex_pop0, ex_chain, ex_and, ex_or, ex_not, ex_ite, ex_lc, ex_lsOf, ex_tuOf, ex_in, ex_srtI, ex_mnL, ex_mxL, ex_mnD, ex_fld, ex_meth, ex_mk, ex_dic, ex_dget, ex_din, ex_dpop, ex_tab, ex_sit, insD_ob, dicD_i, slT_g, es_nil, es_cons, OC.getV, List.set, bop, augop, ixn_t, ixn_l, ixn_o, ixn_q0, ixn_q1, pkI2, pkI3, pkI4, pkI5, pkI6, pkQ2, pkQ3, pkQ4, pkQ5, pkU2, pkU3, pkU4, pkU5, pkL2, pkL3, pkL4, pkL5, bi_len_l, bi_len_t, bi_len_s, bi_len_x, bi_len_o, bi_abs, bi_max2, bi_min2, bi_max3, bi_sum_l, bi_sum_o, bi_all_l, bi_all_o, bi_any_l, bi_any_o, bi_repr, bi_divmod, bi_int_i, bi_int_b, dtru, bn_name, bn_tup, bns_nil, bns_cons, if_true, if_false, Bool.false_eq_true, List.getElem?_cons_zero, List.getElem?_cons_succ, List.length_cons, List.length_nil, cm_eqI, cm_neI, cm_eqS, cm_neS, cm_ltI, cm_leI, cm_gtI, cm_geI, co_eqI, co_neI, co_ltI, co_leI, co_gtI, co_geI, cm_eqB, cm_neB, cm_eqQ, cm_neQ, mkL_t, mkL_f, viewL_l, viewS_l, viewS_t, someE, ik_l, ik_t, ik_r1, ik_r2, ik_rev, ik_enum, ik_zip, bagP_c, true_and, and_true, Bool.not_true, Bool.not_false, if_nil, if_cons, OC.wipeV, List.map_cons, List.map_nil, List.length_map, ex_isb, isb_b, ex_rvs, ex_srtK, ex_mxP, ex_mnK, ex_brw, ex_inT, cm_isn, cm_non, cm_isi, cm_noi, cm_ist, cm_not, cm_isl, cm_nol, cm_iss, cm_nos, cm_iso, cm_noo, cm_isq, cm_noq, bn_E, bn_q2, ik_es, ik_ss, bn_case, bn_S, bi_len_es, bi_len_ss, ht, take_c, tk 16 rfl]
  intro r r0 r1
  refine pickD (P := Md 2 10) r0 r1 (fun d hd => ?_) fun d hd => ret_here (hq d hd)
  simp only [List.mem_cons, List.not_mem_nil, or_false] at hd
  rcases hd with rfl | rfl | rfl | rfl | rfl | rfl | rfl | rfl | rfl | rfl | rfl | rfl | rfl | rfl | rfl | rfl <;> exact ⟨by simp [ShowI, str_0, str_h, str_a], by decide +kernel⟩
def ratLC : Ct := fnc 1 (fun d : D => [d]) (fun d => d.pure = true) fun d => .bl (isRatD d)
theorem ratL_c {d : D} {T : TS} {Q : QD} {X : XD} : ratLC.c [d] T Q X = (d.pure = true ∧ Q (.bl (isRatD d)) T) := fnc_cI fun _ _ h => d1_inj h
def b_isratL (ν : Nat → Str) (cP : Nat) : List S := [.ite (.orv (.notv (.op (isiS .tuple) [.var 0])) (.op (cmpS .ne) [.op (biS .len) [.var 0], .op (kS (.int 2)) []])) [.st retS [.op (kS (.bl false)) []]] [], .ite (.notv (.op (biS .all) [.lc false (.andv (.op (isiS .int) [.var 1]) (.notv (.op (isiS .bool) [.var 1]))) (.name 1) tupI [.var 0] [] [(ν 1, 1)]])) [.st retS [.op (kS (.bl false)) []]] [], .st retS [.andv (.op (cmpS .gt) [.op (ixnS 1) [.var 0], .op (kS (.int 0)) []]) (.op (cmpS .eq) [.op (callS cP) [.op (ixnS 0) [.var 0], .op (ixnS 1) [.var 0]], .op (kS (.int 1)) []])]]
theorem isratL_ok {F : List Ct} {ν : Nat → Str} {cP : Nat} (hcP : F[cP]? = some partC) : ∀ ds T Q X, (ratLC).c ds T Q X → wpBody F 2 (b_isratL ν cP) ds T Q X := by
  rintro _ T Q X ⟨d, rfl, hp, hq⟩
  dsimp only at hp hq
  have no : isRatD d = false → ∃ T2, T2.Sub T ∧ Q (.bl false) T2 := fun h => by rw [h] at hq; exact ret_here hq
  unfold b_isratL
  simp only [wpBody, start0, List.map_cons, List.map_nil, List.length, List.replicate, List.cons_append, List.nil_append, Nat.reduceAdd, Nat.reduceSub]
  try dsimp only
  by_cases ht : ∃ x y, d = .tup [x, y]
  · obtain ⟨x, y, rfl⟩ := ht
    obtain ⟨px, py⟩ := pure_two hp
    try dsimp only
    rw [sq_ite]
    simp only [ex_var, ex_k, ex_bin, ex_cat, ex_neg, ex_cmp, ex_tup, ex_lst, ex_mkbag, ex_ix, ex_ixn, ex_slL, ex_slH, ex_slK, slL_g, ex_call, ex_bi, ex_isD, isi_i, isi_b, isi_s, isi_n, ex_app, ex_ext, ex_pop, ex_rev, ex_pop0, ex_chain, ex_and, ex_or, ex_not, ex_ite, ex_lc, ex_lsOf, ex_tuOf, ex_in, ex_srtI, ex_mnL, ex_mxL, ex_mnD, ex_fld, ex_meth, ex_mk, ex_dic, ex_dget, ex_din, ex_dpop, ex_tab, ex_sit, insD_ob, dicD_i, slT_g, es_nil, es_cons, OC.getV, List.set, bop, augop, ixn_t, ixn_l, ixn_o, ixn_q0, ixn_q1, pkI2, pkI3, pkI4, pkI5, pkI6, pkQ2, pkQ3, pkQ4, pkQ5, pkU2, pkU3, pkU4, pkU5, pkL2, pkL3, pkL4, pkL5, bi_len_l, bi_len_t, bi_len_s, bi_len_x, bi_len_o, bi_abs, bi_max2, bi_min2, bi_max3, bi_sum_l, bi_sum_o, bi_all_l, bi_all_o, bi_any_l, bi_any_o, bi_repr, bi_divmod, bi_int_i, bi_int_b, dtru, bn_name, bn_tup, bns_nil, bns_cons, if_true, if_false, Bool.false_eq_true, List.getElem?_cons_zero, List.getElem?_cons_succ, List.length_cons, List.length_nil, cm_eqI, cm_neI, cm_eqS, cm_neS, cm_ltI, cm_leI, cm_gtI, cm_geI, co_eqI, co_neI, co_ltI, co_leI, co_gtI, co_geI, cm_eqB, cm_neB, cm_eqQ, cm_neQ, mkL_t, mkL_f, viewL_l, viewS_l, viewS_t, someE, ik_l, ik_t, ik_r1, ik_r2, ik_rev, ik_enum, ik_zip, bagP_c, true_and, and_true, Bool.not_true, Bool.not_false, if_nil, if_cons, OC.wipeV, List.map_cons, List.map_nil, List.length_map, ex_isb, isb_b, ex_rvs, ex_srtK, ex_mxP, ex_mnK, ex_brw, ex_inT, cm_isn, cm_non, cm_isi, cm_noi, cm_ist, cm_not, cm_isl, cm_nol, cm_iss, cm_nos, cm_iso, cm_noo, cm_isq, cm_noq, bn_E, bn_q2, ik_es, ik_ss, bn_case, bn_S, bi_len_es, bi_len_ss, hcP, part_c]
    rw [isi_p hp, show isTy Ty.tuple (D.tup [x, y]) = true from rfl]
    try simp only [ex_var, ex_k, ex_bin, ex_cat, ex_neg, ex_cmp, ex_tup, ex_lst, ex_mkbag, ex_ix, ex_ixn, ex_slL, ex_slH, ex_slK, slL_g, ex_call, ex_bi, ex_isD, isi_i, isi_b, isi_s, isi_n, ex_app, ex_ext, ex_pop, ex_rev, ex_pop0, ex_chain, ex_and, ex_or, ex_not, ex_ite, ex_lc, ex_lsOf, ex_tuOf, ex_in, ex_srtI, ex_mnL, ex_mxL, ex_mnD, ex_fld, ex_meth, ex_mk, ex_dic, ex_dget, ex_din, ex_dpop, ex_tab, ex_sit, insD_ob, dicD_i, slT_g, es_nil, es_cons, OC.getV, List.set, bop, augop, ixn_t, ixn_l, ixn_o, ixn_q0, ixn_q1, pkI2, pkI3, pkI4, pkI5, pkI6, pkQ2, pkQ3, pkQ4, pkQ5, pkU2, pkU3, pkU4, pkU5, pkL2, pkL3, pkL4, pkL5, bi_len_l, bi_len_t, bi_len_s, bi_len_x, bi_len_o, bi_abs, bi_max2, bi_min2, bi_max3, bi_sum_l, bi_sum_o, bi_all_l, bi_all_o, bi_any_l, bi_any_o, bi_repr, bi_divmod, bi_int_i, bi_int_b, dtru, bn_name, bn_tup, bns_nil, bns_cons, if_true, if_false, Bool.false_eq_true, List.getElem?_cons_zero, List.getElem?_cons_succ, List.length_cons, List.length_nil, cm_eqI, cm_neI, cm_eqS, cm_neS, cm_ltI, cm_leI, cm_gtI, cm_geI, co_eqI, co_neI, co_ltI, co_leI, co_gtI, co_geI, cm_eqB, cm_neB, cm_eqQ, cm_neQ, mkL_t, mkL_f, viewL_l, viewS_l, viewS_t, someE, ik_l, ik_t, ik_r1, ik_r2, ik_rev, ik_enum, ik_zip, bagP_c, true_and, and_true, Bool.not_true, Bool.not_false, if_nil, if_cons, OC.wipeV, List.map_cons, List.map_nil, List.length_map, ex_isb, isb_b, ex_rvs, ex_srtK, ex_mxP, ex_mnK, ex_brw, ex_inT, cm_isn, cm_non, cm_isi, cm_noi, cm_ist, cm_not, cm_isl, cm_nol, cm_iss, cm_nos, cm_iso, cm_noo, cm_isq, cm_noq, bn_E, bn_q2, ik_es, ik_ss, bn_case, bn_S, bi_len_es, bi_len_ss, hcP, part_c]
    simp only [show decide ((((0 : Nat) + 1 + 1 : Nat) : Int) = 2) = true from rfl, Bool.not_true, Bool.false_eq_true, if_false]
    try dsimp only
    rw [sq_nil]
    simp only [ex_var, ex_k, ex_bin, ex_cat, ex_neg, ex_cmp, ex_tup, ex_lst, ex_mkbag, ex_ix, ex_ixn, ex_slL, ex_slH, ex_slK, slL_g, ex_call, ex_bi, ex_isD, isi_i, isi_b, isi_s, isi_n, ex_app, ex_ext, ex_pop, ex_rev, ex_pop0, ex_chain, ex_and, ex_or, ex_not, ex_ite, ex_lc, ex_lsOf, ex_tuOf, ex_in, ex_srtI, ex_mnL, ex_mxL, ex_mnD, ex_fld, ex_meth, ex_mk, ex_dic, ex_dget, ex_din, ex_dpop, ex_tab, ex_sit, insD_ob, dicD_i, slT_g, es_nil, es_cons, OC.getV, List.set, bop, augop, ixn_t, ixn_l, ixn_o, ixn_q0, ixn_q1, pkI2, pkI3, pkI4, pkI5, pkI6, pkQ2, pkQ3, pkQ4, pkQ5, pkU2, pkU3, pkU4, pkU5, pkL2, pkL3, pkL4, pkL5, bi_len_l, bi_len_t, bi_len_s, bi_len_x, bi_len_o, bi_abs, bi_max2, bi_min2, bi_max3, bi_sum_l, bi_sum_o, bi_all_l, bi_all_o, bi_any_l, bi_any_o, bi_repr, bi_divmod, bi_int_i, bi_int_b, dtru, bn_name, bn_tup, bns_nil, bns_cons, if_true, if_false, Bool.false_eq_true, List.getElem?_cons_zero, List.getElem?_cons_succ, List.length_cons, List.length_nil, cm_eqI, cm_neI, cm_eqS, cm_neS, cm_ltI, cm_leI, cm_gtI, cm_geI, co_eqI, co_neI, co_ltI, co_leI, co_gtI, co_geI, cm_eqB, cm_neB, cm_eqQ, cm_neQ, mkL_t, mkL_f, viewL_l, viewS_l, viewS_t, someE, ik_l, ik_t, ik_r1, ik_r2, ik_rev, ik_enum, ik_zip, bagP_c, true_and, and_true, Bool.not_true, Bool.not_false, if_nil, if_cons, OC.wipeV, List.map_cons, List.map_nil, List.length_map, ex_isb, isb_b, ex_rvs, ex_srtK, ex_mxP, ex_mnK, ex_brw, ex_inT, cm_isn, cm_non, cm_isi, cm_noi, cm_ist, cm_not, cm_isl, cm_nol, cm_iss, cm_nos, cm_iso, cm_noo, cm_isq, cm_noq, bn_E, bn_q2, ik_es, ik_ss, bn_case, bn_S, bi_len_es, bi_len_ss, hcP, part_c]
    try dsimp only
    rw [sq_ite]
    simp only [ex_var, ex_k, ex_bin, ex_cat, ex_neg, ex_cmp, ex_tup, ex_lst, ex_mkbag, ex_ix, ex_ixn, ex_slL, ex_slH, ex_slK, slL_g, ex_call, ex_bi, ex_isD, isi_i, isi_b, isi_s, isi_n, ex_app, ex_ext, ex_pop, ex_rev, ex_pop0, ex_chain, ex_and, ex_or, ex_not, ex_ite, ex_lc, ex_lsOf, ex_tuOf, ex_in, ex_srtI, ex_mnL, ex_mxL, ex_mnD, ex_fld, ex_meth, ex_mk, ex_dic, ex_dget, ex_din, ex_dpop, ex_tab, ex_sit, insD_ob, dicD_i, slT_g, es_nil, es_cons, OC.getV, List.set, bop, augop, ixn_t, ixn_l, ixn_o, ixn_q0, ixn_q1, pkI2, pkI3, pkI4, pkI5, pkI6, pkQ2, pkQ3, pkQ4, pkQ5, pkU2, pkU3, pkU4, pkU5, pkL2, pkL3, pkL4, pkL5, bi_len_l, bi_len_t, bi_len_s, bi_len_x, bi_len_o, bi_abs, bi_max2, bi_min2, bi_max3, bi_sum_l, bi_sum_o, bi_all_l, bi_all_o, bi_any_l, bi_any_o, bi_repr, bi_divmod, bi_int_i, bi_int_b, dtru, bn_name, bn_tup, bns_nil, bns_cons, if_true, if_false, Bool.false_eq_true, List.getElem?_cons_zero, List.getElem?_cons_succ, List.length_cons, List.length_nil, cm_eqI, cm_neI, cm_eqS, cm_neS, cm_ltI, cm_leI, cm_gtI, cm_geI, co_eqI, co_neI, co_ltI, co_leI, co_gtI, co_geI, cm_eqB, cm_neB, cm_eqQ, cm_neQ, mkL_t, mkL_f, viewL_l, viewS_l, viewS_t, someE, ik_l, ik_t, ik_r1, ik_r2, ik_rev, ik_enum, ik_zip, bagP_c, true_and, and_true, Bool.not_true, Bool.not_false, if_nil, if_cons, OC.wipeV, List.map_cons, List.map_nil, List.length_map, ex_isb, isb_b, ex_rvs, ex_srtK, ex_mxP, ex_mnK, ex_brw, ex_inT, cm_isn, cm_non, cm_isi, cm_noi, cm_ist, cm_not, cm_isl, cm_nol, cm_iss, cm_nos, cm_iso, cm_noo, cm_isq, cm_noq, bn_E, bn_q2, ik_es, ik_ss, bn_case, bn_S, bi_len_es, bi_len_ss, hcP, part_c]
    refine ⟨by decide, map_all (fun e => .bl (isIntD e)) [x, y] (fun e he kk hk => ?_) ?_⟩
    · have hpe : e.pure = true := by
        simp only [List.mem_cons, List.not_mem_nil, or_false] at he
        rcases he with rfl | rfl
        · exact px
        · exact py
      have hi := isInt_int hpe
      rw [isi_p hpe]
      dsimp only
      cases hI : OC.isTy .int e with
      | true =>
        rw [hI, Bool.true_and] at hi
        rw [if_pos rfl, isi_p hpe]
        dsimp only
        rw [hi]
        exact hk
      | false =>
        rw [hI, Bool.false_and] at hi
        rw [if_neg (by decide)]
        rw [← hi] at hk
        exact hk
    rw [show ([x, y].map fun e => D.bl (isIntD e)) = [.bl (isIntD x), .bl (isIntD y)] from rfl]
    rw [show blsOf [D.bl (isIntD x), D.bl (isIntD y)] = some [isIntD x, isIntD y] from rfl]
    try simp only [ex_var, ex_k, ex_bin, ex_cat, ex_neg, ex_cmp, ex_tup, ex_lst, ex_mkbag, ex_ix, ex_ixn, ex_slL, ex_slH, ex_slK, slL_g, ex_call, ex_bi, ex_isD, isi_i, isi_b, isi_s, isi_n, ex_app, ex_ext, ex_pop, ex_rev, ex_pop0, ex_chain, ex_and, ex_or, ex_not, ex_ite, ex_lc, ex_lsOf, ex_tuOf, ex_in, ex_srtI, ex_mnL, ex_mxL, ex_mnD, ex_fld, ex_meth, ex_mk, ex_dic, ex_dget, ex_din, ex_dpop, ex_tab, ex_sit, insD_ob, dicD_i, slT_g, es_nil, es_cons, OC.getV, List.set, bop, augop, ixn_t, ixn_l, ixn_o, ixn_q0, ixn_q1, pkI2, pkI3, pkI4, pkI5, pkI6, pkQ2, pkQ3, pkQ4, pkQ5, pkU2, pkU3, pkU4, pkU5, pkL2, pkL3, pkL4, pkL5, bi_len_l, bi_len_t, bi_len_s, bi_len_x, bi_len_o, bi_abs, bi_max2, bi_min2, bi_max3, bi_sum_l, bi_sum_o, bi_all_l, bi_all_o, bi_any_l, bi_any_o, bi_repr, bi_divmod, bi_int_i, bi_int_b, dtru, bn_name, bn_tup, bns_nil, bns_cons, if_true, if_false, Bool.false_eq_true, List.getElem?_cons_zero, List.getElem?_cons_succ, List.length_cons, List.length_nil, cm_eqI, cm_neI, cm_eqS, cm_neS, cm_ltI, cm_leI, cm_gtI, cm_geI, co_eqI, co_neI, co_ltI, co_leI, co_gtI, co_geI, cm_eqB, cm_neB, cm_eqQ, cm_neQ, mkL_t, mkL_f, viewL_l, viewS_l, viewS_t, someE, ik_l, ik_t, ik_r1, ik_r2, ik_rev, ik_enum, ik_zip, bagP_c, true_and, and_true, Bool.not_true, Bool.not_false, if_nil, if_cons, OC.wipeV, List.map_cons, List.map_nil, List.length_map, ex_isb, isb_b, ex_rvs, ex_srtK, ex_mxP, ex_mnK, ex_brw, ex_inT, cm_isn, cm_non, cm_isi, cm_noi, cm_ist, cm_not, cm_isl, cm_nol, cm_iss, cm_nos, cm_iso, cm_noo, cm_isq, cm_noq, bn_E, bn_q2, ik_es, ik_ss, bn_case, bn_S, bi_len_es, bi_len_ss, hcP, part_c]
    by_cases hx : ∃ a, x = .int a
    · obtain ⟨a, rfl⟩ := hx
      by_cases hy : ∃ b, y = .int b
      · obtain ⟨b, rfl⟩ := hy
        simp only [isIntD, List.all_cons, List.all_nil, id, Bool.and_true, Bool.not_true, Bool.false_eq_true, if_false]
        try dsimp only
        rw [sq_nil]
        simp only [ex_var, ex_k, ex_bin, ex_cat, ex_neg, ex_cmp, ex_tup, ex_lst, ex_mkbag, ex_ix, ex_ixn, ex_slL, ex_slH, ex_slK, slL_g, ex_call, ex_bi, ex_isD, isi_i, isi_b, isi_s, isi_n, ex_app, ex_ext, ex_pop, ex_rev, ex_pop0, ex_chain, ex_and, ex_or, ex_not, ex_ite, ex_lc, ex_lsOf, ex_tuOf, ex_in, ex_srtI, ex_mnL, ex_mxL, ex_mnD, ex_fld, ex_meth, ex_mk, ex_dic, ex_dget, ex_din, ex_dpop, ex_tab, ex_sit, insD_ob, dicD_i, slT_g, es_nil, es_cons, OC.getV, List.set, bop, augop, ixn_t, ixn_l, ixn_o, ixn_q0, ixn_q1, pkI2, pkI3, pkI4, pkI5, pkI6, pkQ2, pkQ3, pkQ4, pkQ5, pkU2, pkU3, pkU4, pkU5, pkL2, pkL3, pkL4, pkL5, bi_len_l, bi_len_t, bi_len_s, bi_len_x, bi_len_o, bi_abs, bi_max2, bi_min2, bi_max3, bi_sum_l, bi_sum_o, bi_all_l, bi_all_o, bi_any_l, bi_any_o, bi_repr, bi_divmod, bi_int_i, bi_int_b, dtru, bn_name, bn_tup, bns_nil, bns_cons, if_true, if_false, Bool.false_eq_true, List.getElem?_cons_zero, List.getElem?_cons_succ, List.length_cons, List.length_nil, cm_eqI, cm_neI, cm_eqS, cm_neS, cm_ltI, cm_leI, cm_gtI, cm_geI, co_eqI, co_neI, co_ltI, co_leI, co_gtI, co_geI, cm_eqB, cm_neB, cm_eqQ, cm_neQ, mkL_t, mkL_f, viewL_l, viewS_l, viewS_t, someE, ik_l, ik_t, ik_r1, ik_r2, ik_rev, ik_enum, ik_zip, bagP_c, true_and, and_true, Bool.not_true, Bool.not_false, if_nil, if_cons, OC.wipeV, List.map_cons, List.map_nil, List.length_map, ex_isb, isb_b, ex_rvs, ex_srtK, ex_mxP, ex_mnK, ex_brw, ex_inT, cm_isn, cm_non, cm_isi, cm_noi, cm_ist, cm_not, cm_isl, cm_nol, cm_iss, cm_nos, cm_iso, cm_noo, cm_isq, cm_noq, bn_E, bn_q2, ik_es, ik_ss, bn_case, bn_S, bi_len_es, bi_len_ss, hcP, part_c]
        try dsimp only
        rw [sq_ret]
        simp only [ex_var, ex_k, ex_bin, ex_cat, ex_neg, ex_cmp, ex_tup, ex_lst, ex_mkbag, ex_ix, ex_ixn, ex_slL, ex_slH, ex_slK, slL_g, ex_call, ex_bi, ex_isD, isi_i, isi_b, isi_s, isi_n, ex_app, ex_ext, ex_pop, ex_rev, ex_pop0, ex_chain, ex_and, ex_or, ex_not, ex_ite, ex_lc, ex_lsOf, ex_tuOf, ex_in, ex_srtI, ex_mnL, ex_mxL, ex_mnD, ex_fld, ex_meth, ex_mk, ex_dic, ex_dget, ex_din, ex_dpop, ex_tab, ex_sit, insD_ob, dicD_i, slT_g, es_nil, es_cons, OC.getV, List.set, bop, augop, ixn_t, ixn_l, ixn_o, ixn_q0, ixn_q1, pkI2, pkI3, pkI4, pkI5, pkI6, pkQ2, pkQ3, pkQ4, pkQ5, pkU2, pkU3, pkU4, pkU5, pkL2, pkL3, pkL4, pkL5, bi_len_l, bi_len_t, bi_len_s, bi_len_x, bi_len_o, bi_abs, bi_max2, bi_min2, bi_max3, bi_sum_l, bi_sum_o, bi_all_l, bi_all_o, bi_any_l, bi_any_o, bi_repr, bi_divmod, bi_int_i, bi_int_b, dtru, bn_name, bn_tup, bns_nil, bns_cons, if_true, if_false, Bool.false_eq_true, List.getElem?_cons_zero, List.getElem?_cons_succ, List.length_cons, List.length_nil, cm_eqI, cm_neI, cm_eqS, cm_neS, cm_ltI, cm_leI, cm_gtI, cm_geI, co_eqI, co_neI, co_ltI, co_leI, co_gtI, co_geI, cm_eqB, cm_neB, cm_eqQ, cm_neQ, mkL_t, mkL_f, viewL_l, viewS_l, viewS_t, someE, ik_l, ik_t, ik_r1, ik_r2, ik_rev, ik_enum, ik_zip, bagP_c, true_and, and_true, Bool.not_true, Bool.not_false, if_nil, if_cons, OC.wipeV, List.map_cons, List.map_nil, List.length_map, ex_isb, isb_b, ex_rvs, ex_srtK, ex_mxP, ex_mnK, ex_brw, ex_inT, cm_isn, cm_non, cm_isi, cm_noi, cm_ist, cm_not, cm_isl, cm_nol, cm_iss, cm_nos, cm_iso, cm_noo, cm_isq, cm_noq, bn_E, bn_q2, ik_es, ik_ss, bn_case, bn_S, bi_len_es, bi_len_ss, hcP, part_c]
        by_cases c : 0 < b
        · rw [if_pos (decide_eq_true c)]
          have e : isRatD (.tup [.int a, .int b]) = decide ((Int.gcd a b : Int) = 1) := by
            show (decide (0 < b) && decide (Int.gcd a b = 1)) = _
            rw [decide_eq_true c, Bool.true_and]
            by_cases z : Int.gcd a b = 1
            · rw [decide_eq_true z, decide_eq_true (by omega)]
            · rw [decide_eq_false z, decide_eq_false (by omega)]
          rw [e] at hq
          exact ret_here hq
        · rw [if_neg (by rw [decide_eq_true_eq]; exact c)]
          refine no ?_
          show (decide (0 < b) && decide (Int.gcd a b = 1)) = _
          rw [decide_eq_false c, Bool.false_and]
      · have hn : isIntD y = false := by cases y <;> first | rfl | exact absurd ⟨_, rfl⟩ hy
        rw [hn]
        simp only [List.all_cons, List.all_nil, id, Bool.and_true, Bool.and_false, Bool.not_false, if_true]
        simp only [ex_var, ex_k, ex_bin, ex_cat, ex_neg, ex_cmp, ex_tup, ex_lst, ex_mkbag, ex_ix, ex_ixn, ex_slL, ex_slH, ex_slK, slL_g, ex_call, ex_bi, ex_isD, isi_i, isi_b, isi_s, isi_n, ex_app, ex_ext, ex_pop, ex_rev, ex_pop0, ex_chain, ex_and, ex_or, ex_not, ex_ite, ex_lc, ex_lsOf, ex_tuOf, ex_in, ex_srtI, ex_mnL, ex_mxL, ex_mnD, ex_fld, ex_meth, ex_mk, ex_dic, ex_dget, ex_din, ex_dpop, ex_tab, ex_sit, insD_ob, dicD_i, slT_g, es_nil, es_cons, OC.getV, List.set, bop, augop, ixn_t, ixn_l, ixn_o, ixn_q0, ixn_q1, pkI2, pkI3, pkI4, pkI5, pkI6, pkQ2, pkQ3, pkQ4, pkQ5, pkU2, pkU3, pkU4, pkU5, pkL2, pkL3, pkL4, pkL5, bi_len_l, bi_len_t, bi_len_s, bi_len_x, bi_len_o, bi_abs, bi_max2, bi_min2, bi_max3, bi_sum_l, bi_sum_o, bi_all_l, bi_all_o, bi_any_l, bi_any_o, bi_repr, bi_divmod, bi_int_i, bi_int_b, dtru, bn_name, bn_tup, bns_nil, bns_cons, if_true, if_false, Bool.false_eq_true, List.getElem?_cons_zero, List.getElem?_cons_succ, List.length_cons, List.length_nil, cm_eqI, cm_neI, cm_eqS, cm_neS, cm_ltI, cm_leI, cm_gtI, cm_geI, co_eqI, co_neI, co_ltI, co_leI, co_gtI, co_geI, cm_eqB, cm_neB, cm_eqQ, cm_neQ, mkL_t, mkL_f, viewL_l, viewS_l, viewS_t, someE, ik_l, ik_t, ik_r1, ik_r2, ik_rev, ik_enum, ik_zip, bagP_c, true_and, and_true, Bool.not_true, Bool.not_false, if_nil, if_cons, OC.wipeV, List.map_cons, List.map_nil, List.length_map, ex_isb, isb_b, ex_rvs, ex_srtK, ex_mxP, ex_mnK, ex_brw, ex_inT, cm_isn, cm_non, cm_isi, cm_noi, cm_ist, cm_not, cm_isl, cm_nol, cm_iss, cm_nos, cm_iso, cm_noo, cm_isq, cm_noq, bn_E, bn_q2, ik_es, ik_ss, bn_case, bn_S, bi_len_es, bi_len_ss, hcP, part_c, sq_asg, sq_par, sq_par3, sq_ret, sq_retN, sq_drop, sq_unp, sq_unpL, sq_pass, sq_nil]
        refine no ?_
        cases y <;> first | rfl | exact absurd ⟨_, rfl⟩ hy
    · have hn : isIntD x = false := by cases x <;> first | rfl | exact absurd ⟨_, rfl⟩ hx
      rw [hn]
      simp only [List.all_cons, List.all_nil, id, Bool.false_and, Bool.not_false, if_true]
      simp only [ex_var, ex_k, ex_bin, ex_cat, ex_neg, ex_cmp, ex_tup, ex_lst, ex_mkbag, ex_ix, ex_ixn, ex_slL, ex_slH, ex_slK, slL_g, ex_call, ex_bi, ex_isD, isi_i, isi_b, isi_s, isi_n, ex_app, ex_ext, ex_pop, ex_rev, ex_pop0, ex_chain, ex_and, ex_or, ex_not, ex_ite, ex_lc, ex_lsOf, ex_tuOf, ex_in, ex_srtI, ex_mnL, ex_mxL, ex_mnD, ex_fld, ex_meth, ex_mk, ex_dic, ex_dget, ex_din, ex_dpop, ex_tab, ex_sit, insD_ob, dicD_i, slT_g, es_nil, es_cons, OC.getV, List.set, bop, augop, ixn_t, ixn_l, ixn_o, ixn_q0, ixn_q1, pkI2, pkI3, pkI4, pkI5, pkI6, pkQ2, pkQ3, pkQ4, pkQ5, pkU2, pkU3, pkU4, pkU5, pkL2, pkL3, pkL4, pkL5, bi_len_l, bi_len_t, bi_len_s, bi_len_x, bi_len_o, bi_abs, bi_max2, bi_min2, bi_max3, bi_sum_l, bi_sum_o, bi_all_l, bi_all_o, bi_any_l, bi_any_o, bi_repr, bi_divmod, bi_int_i, bi_int_b, dtru, bn_name, bn_tup, bns_nil, bns_cons, if_true, if_false, Bool.false_eq_true, List.getElem?_cons_zero, List.getElem?_cons_succ, List.length_cons, List.length_nil, cm_eqI, cm_neI, cm_eqS, cm_neS, cm_ltI, cm_leI, cm_gtI, cm_geI, co_eqI, co_neI, co_ltI, co_leI, co_gtI, co_geI, cm_eqB, cm_neB, cm_eqQ, cm_neQ, mkL_t, mkL_f, viewL_l, viewS_l, viewS_t, someE, ik_l, ik_t, ik_r1, ik_r2, ik_rev, ik_enum, ik_zip, bagP_c, true_and, and_true, Bool.not_true, Bool.not_false, if_nil, if_cons, OC.wipeV, List.map_cons, List.map_nil, List.length_map, ex_isb, isb_b, ex_rvs, ex_srtK, ex_mxP, ex_mnK, ex_brw, ex_inT, cm_isn, cm_non, cm_isi, cm_noi, cm_ist, cm_not, cm_isl, cm_nol, cm_iss, cm_nos, cm_iso, cm_noo, cm_isq, cm_noq, bn_E, bn_q2, ik_es, ik_ss, bn_case, bn_S, bi_len_es, bi_len_ss, hcP, part_c, sq_asg, sq_par, sq_par3, sq_ret, sq_retN, sq_drop, sq_unp, sq_unpL, sq_pass, sq_nil]
      refine no ?_
      cases x <;> first | rfl | exact absurd ⟨_, rfl⟩ hx
  · have nos : isRatD d = false := by
      unfold isRatD
      split
      · exact absurd ⟨_, _, rfl⟩ ht
      · rfl
    try dsimp only
    rw [sq_ite]
    simp only [ex_var, ex_k, ex_bin, ex_cat, ex_neg, ex_cmp, ex_tup, ex_lst, ex_mkbag, ex_ix, ex_ixn, ex_slL, ex_slH, ex_slK, slL_g, ex_call, ex_bi, ex_isD, isi_i, isi_b, isi_s, isi_n, ex_app, ex_ext, ex_pop, ex_rev, ex_pop0, ex_chain, ex_and, ex_or, ex_not, ex_ite, ex_lc, ex_lsOf, ex_tuOf, ex_in, ex_srtI, ex_mnL, ex_mxL, ex_mnD, ex_fld, ex_meth, ex_mk, ex_dic, ex_dget, ex_din, ex_dpop, ex_tab, ex_sit, insD_ob, dicD_i, slT_g, es_nil, es_cons, OC.getV, List.set, bop, augop, ixn_t, ixn_l, ixn_o, ixn_q0, ixn_q1, pkI2, pkI3, pkI4, pkI5, pkI6, pkQ2, pkQ3, pkQ4, pkQ5, pkU2, pkU3, pkU4, pkU5, pkL2, pkL3, pkL4, pkL5, bi_len_l, bi_len_t, bi_len_s, bi_len_x, bi_len_o, bi_abs, bi_max2, bi_min2, bi_max3, bi_sum_l, bi_sum_o, bi_all_l, bi_all_o, bi_any_l, bi_any_o, bi_repr, bi_divmod, bi_int_i, bi_int_b, dtru, bn_name, bn_tup, bns_nil, bns_cons, if_true, if_false, Bool.false_eq_true, List.getElem?_cons_zero, List.getElem?_cons_succ, List.length_cons, List.length_nil, cm_eqI, cm_neI, cm_eqS, cm_neS, cm_ltI, cm_leI, cm_gtI, cm_geI, co_eqI, co_neI, co_ltI, co_leI, co_gtI, co_geI, cm_eqB, cm_neB, cm_eqQ, cm_neQ, mkL_t, mkL_f, viewL_l, viewS_l, viewS_t, someE, ik_l, ik_t, ik_r1, ik_r2, ik_rev, ik_enum, ik_zip, bagP_c, true_and, and_true, Bool.not_true, Bool.not_false, if_nil, if_cons, OC.wipeV, List.map_cons, List.map_nil, List.length_map, ex_isb, isb_b, ex_rvs, ex_srtK, ex_mxP, ex_mnK, ex_brw, ex_inT, cm_isn, cm_non, cm_isi, cm_noi, cm_ist, cm_not, cm_isl, cm_nol, cm_iss, cm_nos, cm_iso, cm_noo, cm_isq, cm_noq, bn_E, bn_q2, ik_es, ik_ss, bn_case, bn_S, bi_len_es, bi_len_ss, hcP, part_c]
    rw [isi_p hp]
    cases d with
    | tup xs =>
      rw [show isTy Ty.tuple (D.tup xs) = true from rfl]
      try simp only [ex_var, ex_k, ex_bin, ex_cat, ex_neg, ex_cmp, ex_tup, ex_lst, ex_mkbag, ex_ix, ex_ixn, ex_slL, ex_slH, ex_slK, slL_g, ex_call, ex_bi, ex_isD, isi_i, isi_b, isi_s, isi_n, ex_app, ex_ext, ex_pop, ex_rev, ex_pop0, ex_chain, ex_and, ex_or, ex_not, ex_ite, ex_lc, ex_lsOf, ex_tuOf, ex_in, ex_srtI, ex_mnL, ex_mxL, ex_mnD, ex_fld, ex_meth, ex_mk, ex_dic, ex_dget, ex_din, ex_dpop, ex_tab, ex_sit, insD_ob, dicD_i, slT_g, es_nil, es_cons, OC.getV, List.set, bop, augop, ixn_t, ixn_l, ixn_o, ixn_q0, ixn_q1, pkI2, pkI3, pkI4, pkI5, pkI6, pkQ2, pkQ3, pkQ4, pkQ5, pkU2, pkU3, pkU4, pkU5, pkL2, pkL3, pkL4, pkL5, bi_len_l, bi_len_t, bi_len_s, bi_len_x, bi_len_o, bi_abs, bi_max2, bi_min2, bi_max3, bi_sum_l, bi_sum_o, bi_all_l, bi_all_o, bi_any_l, bi_any_o, bi_repr, bi_divmod, bi_int_i, bi_int_b, dtru, bn_name, bn_tup, bns_nil, bns_cons, if_true, if_false, Bool.false_eq_true, List.getElem?_cons_zero, List.getElem?_cons_succ, List.length_cons, List.length_nil, cm_eqI, cm_neI, cm_eqS, cm_neS, cm_ltI, cm_leI, cm_gtI, cm_geI, co_eqI, co_neI, co_ltI, co_leI, co_gtI, co_geI, cm_eqB, cm_neB, cm_eqQ, cm_neQ, mkL_t, mkL_f, viewL_l, viewS_l, viewS_t, someE, ik_l, ik_t, ik_r1, ik_r2, ik_rev, ik_enum, ik_zip, bagP_c, true_and, and_true, Bool.not_true, Bool.not_false, if_nil, if_cons, OC.wipeV, List.map_cons, List.map_nil, List.length_map, ex_isb, isb_b, ex_rvs, ex_srtK, ex_mxP, ex_mnK, ex_brw, ex_inT, cm_isn, cm_non, cm_isi, cm_noi, cm_ist, cm_not, cm_isl, cm_nol, cm_iss, cm_nos, cm_iso, cm_noo, cm_isq, cm_noq, bn_E, bn_q2, ik_es, ik_ss, bn_case, bn_S, bi_len_es, bi_len_ss, hcP, part_c]
      have hl : ¬ ((xs.length : Nat) : Int) = 2 := fun e => by
        have e : xs.length = 2 := by omega
        match xs, e with
        | [x, y], _ => exact ht ⟨x, y, rfl⟩
      rw [decide_eq_false hl]
      try simp only [ex_var, ex_k, ex_bin, ex_cat, ex_neg, ex_cmp, ex_tup, ex_lst, ex_mkbag, ex_ix, ex_ixn, ex_slL, ex_slH, ex_slK, slL_g, ex_call, ex_bi, ex_isD, isi_i, isi_b, isi_s, isi_n, ex_app, ex_ext, ex_pop, ex_rev, ex_pop0, ex_chain, ex_and, ex_or, ex_not, ex_ite, ex_lc, ex_lsOf, ex_tuOf, ex_in, ex_srtI, ex_mnL, ex_mxL, ex_mnD, ex_fld, ex_meth, ex_mk, ex_dic, ex_dget, ex_din, ex_dpop, ex_tab, ex_sit, insD_ob, dicD_i, slT_g, es_nil, es_cons, OC.getV, List.set, bop, augop, ixn_t, ixn_l, ixn_o, ixn_q0, ixn_q1, pkI2, pkI3, pkI4, pkI5, pkI6, pkQ2, pkQ3, pkQ4, pkQ5, pkU2, pkU3, pkU4, pkU5, pkL2, pkL3, pkL4, pkL5, bi_len_l, bi_len_t, bi_len_s, bi_len_x, bi_len_o, bi_abs, bi_max2, bi_min2, bi_max3, bi_sum_l, bi_sum_o, bi_all_l, bi_all_o, bi_any_l, bi_any_o, bi_repr, bi_divmod, bi_int_i, bi_int_b, dtru, bn_name, bn_tup, bns_nil, bns_cons, if_true, if_false, Bool.false_eq_true, List.getElem?_cons_zero, List.getElem?_cons_succ, List.length_cons, List.length_nil, cm_eqI, cm_neI, cm_eqS, cm_neS, cm_ltI, cm_leI, cm_gtI, cm_geI, co_eqI, co_neI, co_ltI, co_leI, co_gtI, co_geI, cm_eqB, cm_neB, cm_eqQ, cm_neQ, mkL_t, mkL_f, viewL_l, viewS_l, viewS_t, someE, ik_l, ik_t, ik_r1, ik_r2, ik_rev, ik_enum, ik_zip, bagP_c, true_and, and_true, Bool.not_true, Bool.not_false, if_nil, if_cons, OC.wipeV, List.map_cons, List.map_nil, List.length_map, ex_isb, isb_b, ex_rvs, ex_srtK, ex_mxP, ex_mnK, ex_brw, ex_inT, cm_isn, cm_non, cm_isi, cm_noi, cm_ist, cm_not, cm_isl, cm_nol, cm_iss, cm_nos, cm_iso, cm_noo, cm_isq, cm_noq, bn_E, bn_q2, ik_es, ik_ss, bn_case, bn_S, bi_len_es, bi_len_ss, hcP, part_c]
      simp only [ex_var, ex_k, ex_bin, ex_cat, ex_neg, ex_cmp, ex_tup, ex_lst, ex_mkbag, ex_ix, ex_ixn, ex_slL, ex_slH, ex_slK, slL_g, ex_call, ex_bi, ex_isD, isi_i, isi_b, isi_s, isi_n, ex_app, ex_ext, ex_pop, ex_rev, ex_pop0, ex_chain, ex_and, ex_or, ex_not, ex_ite, ex_lc, ex_lsOf, ex_tuOf, ex_in, ex_srtI, ex_mnL, ex_mxL, ex_mnD, ex_fld, ex_meth, ex_mk, ex_dic, ex_dget, ex_din, ex_dpop, ex_tab, ex_sit, insD_ob, dicD_i, slT_g, es_nil, es_cons, OC.getV, List.set, bop, augop, ixn_t, ixn_l, ixn_o, ixn_q0, ixn_q1, pkI2, pkI3, pkI4, pkI5, pkI6, pkQ2, pkQ3, pkQ4, pkQ5, pkU2, pkU3, pkU4, pkU5, pkL2, pkL3, pkL4, pkL5, bi_len_l, bi_len_t, bi_len_s, bi_len_x, bi_len_o, bi_abs, bi_max2, bi_min2, bi_max3, bi_sum_l, bi_sum_o, bi_all_l, bi_all_o, bi_any_l, bi_any_o, bi_repr, bi_divmod, bi_int_i, bi_int_b, dtru, bn_name, bn_tup, bns_nil, bns_cons, if_true, if_false, Bool.false_eq_true, List.getElem?_cons_zero, List.getElem?_cons_succ, List.length_cons, List.length_nil, cm_eqI, cm_neI, cm_eqS, cm_neS, cm_ltI, cm_leI, cm_gtI, cm_geI, co_eqI, co_neI, co_ltI, co_leI, co_gtI, co_geI, cm_eqB, cm_neB, cm_eqQ, cm_neQ, mkL_t, mkL_f, viewL_l, viewS_l, viewS_t, someE, ik_l, ik_t, ik_r1, ik_r2, ik_rev, ik_enum, ik_zip, bagP_c, true_and, and_true, Bool.not_true, Bool.not_false, if_nil, if_cons, OC.wipeV, List.map_cons, List.map_nil, List.length_map, ex_isb, isb_b, ex_rvs, ex_srtK, ex_mxP, ex_mnK, ex_brw, ex_inT, cm_isn, cm_non, cm_isi, cm_noi, cm_ist, cm_not, cm_isl, cm_nol, cm_iss, cm_nos, cm_iso, cm_noo, cm_isq, cm_noq, bn_E, bn_q2, ik_es, ik_ss, bn_case, bn_S, bi_len_es, bi_len_ss, hcP, part_c, sq_asg, sq_par, sq_par3, sq_ret, sq_retN, sq_drop, sq_unp, sq_unpL, sq_pass, sq_nil]
      exact no nos
    | _ =>
      simp only [isTy, Bool.not_false, if_true]
      simp only [ex_var, ex_k, ex_bin, ex_cat, ex_neg, ex_cmp, ex_tup, ex_lst, ex_mkbag, ex_ix, ex_ixn, ex_slL, ex_slH, ex_slK, slL_g, ex_call, ex_bi, ex_isD, isi_i, isi_b, isi_s, isi_n, ex_app, ex_ext, ex_pop, ex_rev, ex_pop0, ex_chain, ex_and, ex_or, ex_not, ex_ite, ex_lc, ex_lsOf, ex_tuOf, ex_in, ex_srtI, ex_mnL, ex_mxL, ex_mnD, ex_fld, ex_meth, ex_mk, ex_dic, ex_dget, ex_din, ex_dpop, ex_tab, ex_sit, insD_ob, dicD_i, slT_g, es_nil, es_cons, OC.getV, List.set, bop, augop, ixn_t, ixn_l, ixn_o, ixn_q0, ixn_q1, pkI2, pkI3, pkI4, pkI5, pkI6, pkQ2, pkQ3, pkQ4, pkQ5, pkU2, pkU3, pkU4, pkU5, pkL2, pkL3, pkL4, pkL5, bi_len_l, bi_len_t, bi_len_s, bi_len_x, bi_len_o, bi_abs, bi_max2, bi_min2, bi_max3, bi_sum_l, bi_sum_o, bi_all_l, bi_all_o, bi_any_l, bi_any_o, bi_repr, bi_divmod, bi_int_i, bi_int_b, dtru, bn_name, bn_tup, bns_nil, bns_cons, if_true, if_false, Bool.false_eq_true, List.getElem?_cons_zero, List.getElem?_cons_succ, List.length_cons, List.length_nil, cm_eqI, cm_neI, cm_eqS, cm_neS, cm_ltI, cm_leI, cm_gtI, cm_geI, co_eqI, co_neI, co_ltI, co_leI, co_gtI, co_geI, cm_eqB, cm_neB, cm_eqQ, cm_neQ, mkL_t, mkL_f, viewL_l, viewS_l, viewS_t, someE, ik_l, ik_t, ik_r1, ik_r2, ik_rev, ik_enum, ik_zip, bagP_c, true_and, and_true, Bool.not_true, Bool.not_false, if_nil, if_cons, OC.wipeV, List.map_cons, List.map_nil, List.length_map, ex_isb, isb_b, ex_rvs, ex_srtK, ex_mxP, ex_mnK, ex_brw, ex_inT, cm_isn, cm_non, cm_isi, cm_noi, cm_ist, cm_not, cm_isl, cm_nol, cm_iss, cm_nos, cm_iso, cm_noo, cm_isq, cm_noq, bn_E, bn_q2, ik_es, ik_ss, bn_case, bn_S, bi_len_es, bi_len_ss, hcP, part_c, sq_asg, sq_par, sq_par3, sq_ret, sq_retN, sq_drop, sq_unp, sq_unpL, sq_pass, sq_nil]
      exact no nos
def spanLC : Ct := rle 1 (fun d : D => [d]) (fun d => d.pure = true ∧ SpB d) D.bl fun d b => b = true ↔ SpanD d
theorem spanL_c {T : TS} {Q : QD} {X : XD} {d : D} : spanLC.c [d] T Q X = ((d.pure = true ∧ SpB d) ∧ ∀ b : Bool, (b = true ↔ SpanD d) → Q (.bl b) T) := rle_c (x := d) fun x y h => d1_inj h
def b_isspanL (ν : Nat → Str) (cR : Nat) : List S := [.ite (.orv (.notv (.op (isiS .tuple) [.var 0])) (.orv (.op (cmpS .ne) [.op (biS .len) [.var 0], .op (kS (.int 2)) []]) (.notv (.op (biS .all) [.lc false (.op (callS cR) [.var 3]) (.name 3) tupI [.var 0] [] [(ν 3, 3)]])))) [.st retS [.op (kS (.bl false)) []]] [], .st (unpS (.tup [.name 1, .name 2])) [.var 0], .st retS [.andv (.op (cmpS .le) [.op (kS (.int 0)) [], .op (ixnS 0) [.var 1]]) (.andv (.op (cmpS .lt) [.op (binS .mul) [.op (ixnS 0) [.var 1], .op (ixnS 1) [.var 2]], .op (binS .mul) [.op (ixnS 0) [.var 2], .op (ixnS 1) [.var 1]]]) (.op (cmpS .le) [.op (ixnS 0) [.var 2], .op (ixnS 1) [.var 2]]))]]
theorem isspanL_ok {F : List Ct} {ν : Nat → Str} {cR : Nat} (hcR : F[cR]? = some ratLC) : ∀ ds T Q X, (spanLC).c ds T Q X → wpBody F 4 (b_isspanL ν cR) ds T Q X := by
  rintro _ T Q X ⟨d, rfl, ⟨hp, hb⟩, hq⟩
  have no : ¬ SpanD d → ∃ T2, T2.Sub T ∧ Q (.bl false) T2 := fun h => ret_here (hq false ⟨(fun e => nomatch e), fun e => absurd e h⟩)
  have yes : SpanD d → Q (.bl true) T := fun h => hq true ⟨fun _ => h, fun _ => rfl⟩
  unfold b_isspanL
  simp only [wpBody, start0, List.map_cons, List.map_nil, List.length, List.replicate, List.cons_append, List.nil_append, Nat.reduceAdd, Nat.reduceSub]
  try dsimp only
  by_cases ht : ∃ x y, d = .tup [x, y]
  · obtain ⟨x, y, rfl⟩ := ht
    obtain ⟨px, py⟩ := pure_two hp
    try dsimp only
    rw [sq_ite]
    simp only [ex_var, ex_k, ex_bin, ex_cat, ex_neg, ex_cmp, ex_tup, ex_lst, ex_mkbag, ex_ix, ex_ixn, ex_slL, ex_slH, ex_slK, slL_g, ex_call, ex_bi, ex_isD, isi_i, isi_b, isi_s, isi_n, ex_app, ex_ext, ex_pop, ex_rev, ex_pop0, ex_chain, ex_and, ex_or, ex_not, ex_ite, ex_lc, ex_lsOf, ex_tuOf, ex_in, ex_srtI, ex_mnL, ex_mxL, ex_mnD, ex_fld, ex_meth, ex_mk, ex_dic, ex_dget, ex_din, ex_dpop, ex_tab, ex_sit, insD_ob, dicD_i, slT_g, es_nil, es_cons, OC.getV, List.set, bop, augop, ixn_t, ixn_l, ixn_o, ixn_q0, ixn_q1, pkI2, pkI3, pkI4, pkI5, pkI6, pkQ2, pkQ3, pkQ4, pkQ5, pkU2, pkU3, pkU4, pkU5, pkL2, pkL3, pkL4, pkL5, bi_len_l, bi_len_t, bi_len_s, bi_len_x, bi_len_o, bi_abs, bi_max2, bi_min2, bi_max3, bi_sum_l, bi_sum_o, bi_all_l, bi_all_o, bi_any_l, bi_any_o, bi_repr, bi_divmod, bi_int_i, bi_int_b, dtru, bn_name, bn_tup, bns_nil, bns_cons, if_true, if_false, Bool.false_eq_true, List.getElem?_cons_zero, List.getElem?_cons_succ, List.length_cons, List.length_nil, cm_eqI, cm_neI, cm_eqS, cm_neS, cm_ltI, cm_leI, cm_gtI, cm_geI, co_eqI, co_neI, co_ltI, co_leI, co_gtI, co_geI, cm_eqB, cm_neB, cm_eqQ, cm_neQ, mkL_t, mkL_f, viewL_l, viewS_l, viewS_t, someE, ik_l, ik_t, ik_r1, ik_r2, ik_rev, ik_enum, ik_zip, bagP_c, true_and, and_true, Bool.not_true, Bool.not_false, if_nil, if_cons, OC.wipeV, List.map_cons, List.map_nil, List.length_map, ex_isb, isb_b, ex_rvs, ex_srtK, ex_mxP, ex_mnK, ex_brw, ex_inT, cm_isn, cm_non, cm_isi, cm_noi, cm_ist, cm_not, cm_isl, cm_nol, cm_iss, cm_nos, cm_iso, cm_noo, cm_isq, cm_noq, bn_E, bn_q2, ik_es, ik_ss, bn_case, bn_S, bi_len_es, bi_len_ss, hcR, ratL_c]
    rw [isi_p hp, show isTy Ty.tuple (D.tup [x, y]) = true from rfl]
    try simp only [ex_var, ex_k, ex_bin, ex_cat, ex_neg, ex_cmp, ex_tup, ex_lst, ex_mkbag, ex_ix, ex_ixn, ex_slL, ex_slH, ex_slK, slL_g, ex_call, ex_bi, ex_isD, isi_i, isi_b, isi_s, isi_n, ex_app, ex_ext, ex_pop, ex_rev, ex_pop0, ex_chain, ex_and, ex_or, ex_not, ex_ite, ex_lc, ex_lsOf, ex_tuOf, ex_in, ex_srtI, ex_mnL, ex_mxL, ex_mnD, ex_fld, ex_meth, ex_mk, ex_dic, ex_dget, ex_din, ex_dpop, ex_tab, ex_sit, insD_ob, dicD_i, slT_g, es_nil, es_cons, OC.getV, List.set, bop, augop, ixn_t, ixn_l, ixn_o, ixn_q0, ixn_q1, pkI2, pkI3, pkI4, pkI5, pkI6, pkQ2, pkQ3, pkQ4, pkQ5, pkU2, pkU3, pkU4, pkU5, pkL2, pkL3, pkL4, pkL5, bi_len_l, bi_len_t, bi_len_s, bi_len_x, bi_len_o, bi_abs, bi_max2, bi_min2, bi_max3, bi_sum_l, bi_sum_o, bi_all_l, bi_all_o, bi_any_l, bi_any_o, bi_repr, bi_divmod, bi_int_i, bi_int_b, dtru, bn_name, bn_tup, bns_nil, bns_cons, if_true, if_false, Bool.false_eq_true, List.getElem?_cons_zero, List.getElem?_cons_succ, List.length_cons, List.length_nil, cm_eqI, cm_neI, cm_eqS, cm_neS, cm_ltI, cm_leI, cm_gtI, cm_geI, co_eqI, co_neI, co_ltI, co_leI, co_gtI, co_geI, cm_eqB, cm_neB, cm_eqQ, cm_neQ, mkL_t, mkL_f, viewL_l, viewS_l, viewS_t, someE, ik_l, ik_t, ik_r1, ik_r2, ik_rev, ik_enum, ik_zip, bagP_c, true_and, and_true, Bool.not_true, Bool.not_false, if_nil, if_cons, OC.wipeV, List.map_cons, List.map_nil, List.length_map, ex_isb, isb_b, ex_rvs, ex_srtK, ex_mxP, ex_mnK, ex_brw, ex_inT, cm_isn, cm_non, cm_isi, cm_noi, cm_ist, cm_not, cm_isl, cm_nol, cm_iss, cm_nos, cm_iso, cm_noo, cm_isq, cm_noq, bn_E, bn_q2, ik_es, ik_ss, bn_case, bn_S, bi_len_es, bi_len_ss, hcR, ratL_c]
    simp only [show decide ((((0 : Nat) + 1 + 1 : Nat) : Int) = 2) = true from rfl, Bool.not_true, Bool.false_eq_true, if_false]
    refine ⟨by decide, map_all (fun e => .bl (isRatD e)) [x, y] (fun e he kk hk => ?_) ?_⟩
    · refine ⟨?_, hk⟩
      simp only [List.mem_cons, List.not_mem_nil, or_false] at he
      rcases he with rfl | rfl
      · exact px
      · exact py
    rw [show ([x, y].map fun e => D.bl (isRatD e)) = [.bl (isRatD x), .bl (isRatD y)] from rfl]
    rw [show blsOf [D.bl (isRatD x), D.bl (isRatD y)] = some [isRatD x, isRatD y] from rfl]
    try simp only [ex_var, ex_k, ex_bin, ex_cat, ex_neg, ex_cmp, ex_tup, ex_lst, ex_mkbag, ex_ix, ex_ixn, ex_slL, ex_slH, ex_slK, slL_g, ex_call, ex_bi, ex_isD, isi_i, isi_b, isi_s, isi_n, ex_app, ex_ext, ex_pop, ex_rev, ex_pop0, ex_chain, ex_and, ex_or, ex_not, ex_ite, ex_lc, ex_lsOf, ex_tuOf, ex_in, ex_srtI, ex_mnL, ex_mxL, ex_mnD, ex_fld, ex_meth, ex_mk, ex_dic, ex_dget, ex_din, ex_dpop, ex_tab, ex_sit, insD_ob, dicD_i, slT_g, es_nil, es_cons, OC.getV, List.set, bop, augop, ixn_t, ixn_l, ixn_o, ixn_q0, ixn_q1, pkI2, pkI3, pkI4, pkI5, pkI6, pkQ2, pkQ3, pkQ4, pkQ5, pkU2, pkU3, pkU4, pkU5, pkL2, pkL3, pkL4, pkL5, bi_len_l, bi_len_t, bi_len_s, bi_len_x, bi_len_o, bi_abs, bi_max2, bi_min2, bi_max3, bi_sum_l, bi_sum_o, bi_all_l, bi_all_o, bi_any_l, bi_any_o, bi_repr, bi_divmod, bi_int_i, bi_int_b, dtru, bn_name, bn_tup, bns_nil, bns_cons, if_true, if_false, Bool.false_eq_true, List.getElem?_cons_zero, List.getElem?_cons_succ, List.length_cons, List.length_nil, cm_eqI, cm_neI, cm_eqS, cm_neS, cm_ltI, cm_leI, cm_gtI, cm_geI, co_eqI, co_neI, co_ltI, co_leI, co_gtI, co_geI, cm_eqB, cm_neB, cm_eqQ, cm_neQ, mkL_t, mkL_f, viewL_l, viewS_l, viewS_t, someE, ik_l, ik_t, ik_r1, ik_r2, ik_rev, ik_enum, ik_zip, bagP_c, true_and, and_true, Bool.not_true, Bool.not_false, if_nil, if_cons, OC.wipeV, List.map_cons, List.map_nil, List.length_map, ex_isb, isb_b, ex_rvs, ex_srtK, ex_mxP, ex_mnK, ex_brw, ex_inT, cm_isn, cm_non, cm_isi, cm_noi, cm_ist, cm_not, cm_isl, cm_nol, cm_iss, cm_nos, cm_iso, cm_noo, cm_isq, cm_noq, bn_E, bn_q2, ik_es, ik_ss, bn_case, bn_S, bi_len_es, bi_len_ss, hcR, ratL_c]
    by_cases rx : isRatD x = true
    · by_cases ry : isRatD y = true
      · obtain ⟨a, rfl⟩ := isRat_enc rx
        obtain ⟨b, rfl⟩ := isRat_enc ry
        have ba := hb _ _ rfl a (.inl rfl)
        have bb := hb _ _ rfl b (.inr rfl)
        have sp : SpanD (.tup [encQ a, encQ b]) ↔ 0 ≤ a ∧ a < b ∧ b ≤ 1 := by
          constructor
          · rintro ⟨p, e, h⟩
            have e := encP_inj (x := (a, b)) e
            subst e
            exact h
          · exact fun h => ⟨(a, b), rfl, h⟩
        have db := den_pos b
        have b1 : b ≤ 1 ↔ b.num ≤ b.den := by
          rw [← Rat.not_lt, Rat.lt_iff]
          show ¬ ((1 : Int) * b.den < b.num * (1 : Nat)) ↔ _
          omega
        rw [rx, ry]
        simp only [List.all_cons, List.all_nil, id, Bool.and_true, Bool.not_true, Bool.false_eq_true, if_false]
        try dsimp only
        rw [sq_nil]
        simp only [ex_var, ex_k, ex_bin, ex_cat, ex_neg, ex_cmp, ex_tup, ex_lst, ex_mkbag, ex_ix, ex_ixn, ex_slL, ex_slH, ex_slK, slL_g, ex_call, ex_bi, ex_isD, isi_i, isi_b, isi_s, isi_n, ex_app, ex_ext, ex_pop, ex_rev, ex_pop0, ex_chain, ex_and, ex_or, ex_not, ex_ite, ex_lc, ex_lsOf, ex_tuOf, ex_in, ex_srtI, ex_mnL, ex_mxL, ex_mnD, ex_fld, ex_meth, ex_mk, ex_dic, ex_dget, ex_din, ex_dpop, ex_tab, ex_sit, insD_ob, dicD_i, slT_g, es_nil, es_cons, OC.getV, List.set, bop, augop, ixn_t, ixn_l, ixn_o, ixn_q0, ixn_q1, pkI2, pkI3, pkI4, pkI5, pkI6, pkQ2, pkQ3, pkQ4, pkQ5, pkU2, pkU3, pkU4, pkU5, pkL2, pkL3, pkL4, pkL5, bi_len_l, bi_len_t, bi_len_s, bi_len_x, bi_len_o, bi_abs, bi_max2, bi_min2, bi_max3, bi_sum_l, bi_sum_o, bi_all_l, bi_all_o, bi_any_l, bi_any_o, bi_repr, bi_divmod, bi_int_i, bi_int_b, dtru, bn_name, bn_tup, bns_nil, bns_cons, if_true, if_false, Bool.false_eq_true, List.getElem?_cons_zero, List.getElem?_cons_succ, List.length_cons, List.length_nil, cm_eqI, cm_neI, cm_eqS, cm_neS, cm_ltI, cm_leI, cm_gtI, cm_geI, co_eqI, co_neI, co_ltI, co_leI, co_gtI, co_geI, cm_eqB, cm_neB, cm_eqQ, cm_neQ, mkL_t, mkL_f, viewL_l, viewS_l, viewS_t, someE, ik_l, ik_t, ik_r1, ik_r2, ik_rev, ik_enum, ik_zip, bagP_c, true_and, and_true, Bool.not_true, Bool.not_false, if_nil, if_cons, OC.wipeV, List.map_cons, List.map_nil, List.length_map, ex_isb, isb_b, ex_rvs, ex_srtK, ex_mxP, ex_mnK, ex_brw, ex_inT, cm_isn, cm_non, cm_isi, cm_noi, cm_ist, cm_not, cm_isl, cm_nol, cm_iss, cm_nos, cm_iso, cm_noo, cm_isq, cm_noq, bn_E, bn_q2, ik_es, ik_ss, bn_case, bn_S, bi_len_es, bi_len_ss, hcR, ratL_c]
        simp only [ex_var, ex_k, ex_bin, ex_cat, ex_neg, ex_cmp, ex_tup, ex_lst, ex_mkbag, ex_ix, ex_ixn, ex_slL, ex_slH, ex_slK, slL_g, ex_call, ex_bi, ex_isD, isi_i, isi_b, isi_s, isi_n, ex_app, ex_ext, ex_pop, ex_rev, ex_pop0, ex_chain, ex_and, ex_or, ex_not, ex_ite, ex_lc, ex_lsOf, ex_tuOf, ex_in, ex_srtI, ex_mnL, ex_mxL, ex_mnD, ex_fld, ex_meth, ex_mk, ex_dic, ex_dget, ex_din, ex_dpop, ex_tab, ex_sit, insD_ob, dicD_i, slT_g, es_nil, es_cons, OC.getV, List.set, bop, augop, ixn_t, ixn_l, ixn_o, ixn_q0, ixn_q1, pkI2, pkI3, pkI4, pkI5, pkI6, pkQ2, pkQ3, pkQ4, pkQ5, pkU2, pkU3, pkU4, pkU5, pkL2, pkL3, pkL4, pkL5, bi_len_l, bi_len_t, bi_len_s, bi_len_x, bi_len_o, bi_abs, bi_max2, bi_min2, bi_max3, bi_sum_l, bi_sum_o, bi_all_l, bi_all_o, bi_any_l, bi_any_o, bi_repr, bi_divmod, bi_int_i, bi_int_b, dtru, bn_name, bn_tup, bns_nil, bns_cons, if_true, if_false, Bool.false_eq_true, List.getElem?_cons_zero, List.getElem?_cons_succ, List.length_cons, List.length_nil, cm_eqI, cm_neI, cm_eqS, cm_neS, cm_ltI, cm_leI, cm_gtI, cm_geI, co_eqI, co_neI, co_ltI, co_leI, co_gtI, co_geI, cm_eqB, cm_neB, cm_eqQ, cm_neQ, mkL_t, mkL_f, viewL_l, viewS_l, viewS_t, someE, ik_l, ik_t, ik_r1, ik_r2, ik_rev, ik_enum, ik_zip, bagP_c, true_and, and_true, Bool.not_true, Bool.not_false, if_nil, if_cons, OC.wipeV, List.map_cons, List.map_nil, List.length_map, ex_isb, isb_b, ex_rvs, ex_srtK, ex_mxP, ex_mnK, ex_brw, ex_inT, cm_isn, cm_non, cm_isi, cm_noi, cm_ist, cm_not, cm_isl, cm_nol, cm_iss, cm_nos, cm_iso, cm_noo, cm_isq, cm_noq, bn_E, bn_q2, ik_es, ik_ss, bn_case, bn_S, bi_len_es, bi_len_ss, hcR, ratL_c, sq_asg, sq_par, sq_par3, sq_ret, sq_retN, sq_drop, sq_unp, sq_unpL, sq_pass, sq_nil]
        by_cases c1 : 0 ≤ a.num
        · simp only [c1, decide_true, if_true]
          refine ⟨mulW (a := 4000) (b := 4000) ba.1 (by rw [Int.natAbs_natCast]; exact bb.2), mulW (a := 4000) (b := 4000) bb.1 (by rw [Int.natAbs_natCast]; exact ba.2), ?_⟩
          have lt : a < b ↔ a.num * b.den < b.num * a.den := Rat.lt_iff a b
          by_cases c2 : a.num * b.den < b.num * a.den
          · simp only [c2, decide_true, if_true]
            by_cases c3 : b.num ≤ b.den
            · rw [decide_eq_true c3]
              exact ret_here (yes (sp.mpr ⟨num_nn.mp c1, lt.mpr c2, b1.mpr c3⟩))
            · rw [decide_eq_false c3]
              exact no fun h => c3 (b1.mp (sp.mp h).2.2)
          · simp only [c2, decide_false, Bool.false_eq_true, if_false]
            exact no fun h => c2 (lt.mp (sp.mp h).2.1)
        · simp only [c1, decide_false, Bool.false_eq_true, if_false]
          exact no fun h => c1 (num_nn.mpr (sp.mp h).1)
      · have ry' : isRatD y = false := by cases h : isRatD y; rfl; exact absurd h ry
        rw [rx, ry']
        simp only [List.all_cons, List.all_nil, id, Bool.and_true, Bool.and_false, Bool.not_false, if_true]
        simp only [ex_var, ex_k, ex_bin, ex_cat, ex_neg, ex_cmp, ex_tup, ex_lst, ex_mkbag, ex_ix, ex_ixn, ex_slL, ex_slH, ex_slK, slL_g, ex_call, ex_bi, ex_isD, isi_i, isi_b, isi_s, isi_n, ex_app, ex_ext, ex_pop, ex_rev, ex_pop0, ex_chain, ex_and, ex_or, ex_not, ex_ite, ex_lc, ex_lsOf, ex_tuOf, ex_in, ex_srtI, ex_mnL, ex_mxL, ex_mnD, ex_fld, ex_meth, ex_mk, ex_dic, ex_dget, ex_din, ex_dpop, ex_tab, ex_sit, insD_ob, dicD_i, slT_g, es_nil, es_cons, OC.getV, List.set, bop, augop, ixn_t, ixn_l, ixn_o, ixn_q0, ixn_q1, pkI2, pkI3, pkI4, pkI5, pkI6, pkQ2, pkQ3, pkQ4, pkQ5, pkU2, pkU3, pkU4, pkU5, pkL2, pkL3, pkL4, pkL5, bi_len_l, bi_len_t, bi_len_s, bi_len_x, bi_len_o, bi_abs, bi_max2, bi_min2, bi_max3, bi_sum_l, bi_sum_o, bi_all_l, bi_all_o, bi_any_l, bi_any_o, bi_repr, bi_divmod, bi_int_i, bi_int_b, dtru, bn_name, bn_tup, bns_nil, bns_cons, if_true, if_false, Bool.false_eq_true, List.getElem?_cons_zero, List.getElem?_cons_succ, List.length_cons, List.length_nil, cm_eqI, cm_neI, cm_eqS, cm_neS, cm_ltI, cm_leI, cm_gtI, cm_geI, co_eqI, co_neI, co_ltI, co_leI, co_gtI, co_geI, cm_eqB, cm_neB, cm_eqQ, cm_neQ, mkL_t, mkL_f, viewL_l, viewS_l, viewS_t, someE, ik_l, ik_t, ik_r1, ik_r2, ik_rev, ik_enum, ik_zip, bagP_c, true_and, and_true, Bool.not_true, Bool.not_false, if_nil, if_cons, OC.wipeV, List.map_cons, List.map_nil, List.length_map, ex_isb, isb_b, ex_rvs, ex_srtK, ex_mxP, ex_mnK, ex_brw, ex_inT, cm_isn, cm_non, cm_isi, cm_noi, cm_ist, cm_not, cm_isl, cm_nol, cm_iss, cm_nos, cm_iso, cm_noo, cm_isq, cm_noq, bn_E, bn_q2, ik_es, ik_ss, bn_case, bn_S, bi_len_es, bi_len_ss, hcR, ratL_c, sq_asg, sq_par, sq_par3, sq_ret, sq_retN, sq_drop, sq_unp, sq_unpL, sq_pass, sq_nil]
        refine no ?_
        rintro ⟨p, e, _⟩
        unfold encP at e
        simp only [D.tup.injEq, List.cons.injEq, and_true] at e
        rw [e.2, isRat_q] at ry'
        cases ry'
    · have rx' : isRatD x = false := by cases h : isRatD x; rfl; exact absurd h rx
      rw [rx']
      simp only [List.all_cons, List.all_nil, id, Bool.false_and, Bool.not_false, if_true]
      simp only [ex_var, ex_k, ex_bin, ex_cat, ex_neg, ex_cmp, ex_tup, ex_lst, ex_mkbag, ex_ix, ex_ixn, ex_slL, ex_slH, ex_slK, slL_g, ex_call, ex_bi, ex_isD, isi_i, isi_b, isi_s, isi_n, ex_app, ex_ext, ex_pop, ex_rev, ex_pop0, ex_chain, ex_and, ex_or, ex_not, ex_ite, ex_lc, ex_lsOf, ex_tuOf, ex_in, ex_srtI, ex_mnL, ex_mxL, ex_mnD, ex_fld, ex_meth, ex_mk, ex_dic, ex_dget, ex_din, ex_dpop, ex_tab, ex_sit, insD_ob, dicD_i, slT_g, es_nil, es_cons, OC.getV, List.set, bop, augop, ixn_t, ixn_l, ixn_o, ixn_q0, ixn_q1, pkI2, pkI3, pkI4, pkI5, pkI6, pkQ2, pkQ3, pkQ4, pkQ5, pkU2, pkU3, pkU4, pkU5, pkL2, pkL3, pkL4, pkL5, bi_len_l, bi_len_t, bi_len_s, bi_len_x, bi_len_o, bi_abs, bi_max2, bi_min2, bi_max3, bi_sum_l, bi_sum_o, bi_all_l, bi_all_o, bi_any_l, bi_any_o, bi_repr, bi_divmod, bi_int_i, bi_int_b, dtru, bn_name, bn_tup, bns_nil, bns_cons, if_true, if_false, Bool.false_eq_true, List.getElem?_cons_zero, List.getElem?_cons_succ, List.length_cons, List.length_nil, cm_eqI, cm_neI, cm_eqS, cm_neS, cm_ltI, cm_leI, cm_gtI, cm_geI, co_eqI, co_neI, co_ltI, co_leI, co_gtI, co_geI, cm_eqB, cm_neB, cm_eqQ, cm_neQ, mkL_t, mkL_f, viewL_l, viewS_l, viewS_t, someE, ik_l, ik_t, ik_r1, ik_r2, ik_rev, ik_enum, ik_zip, bagP_c, true_and, and_true, Bool.not_true, Bool.not_false, if_nil, if_cons, OC.wipeV, List.map_cons, List.map_nil, List.length_map, ex_isb, isb_b, ex_rvs, ex_srtK, ex_mxP, ex_mnK, ex_brw, ex_inT, cm_isn, cm_non, cm_isi, cm_noi, cm_ist, cm_not, cm_isl, cm_nol, cm_iss, cm_nos, cm_iso, cm_noo, cm_isq, cm_noq, bn_E, bn_q2, ik_es, ik_ss, bn_case, bn_S, bi_len_es, bi_len_ss, hcR, ratL_c, sq_asg, sq_par, sq_par3, sq_ret, sq_retN, sq_drop, sq_unp, sq_unpL, sq_pass, sq_nil]
      refine no ?_
      rintro ⟨p, e, _⟩
      unfold encP at e
      simp only [D.tup.injEq, List.cons.injEq, and_true] at e
      rw [e.1, isRat_q] at rx'
      cases rx'
  · have nos : ¬ SpanD d := fun ⟨p, e, _⟩ => ht ⟨_, _, e⟩
    try dsimp only
    rw [sq_ite]
    simp only [ex_var, ex_k, ex_bin, ex_cat, ex_neg, ex_cmp, ex_tup, ex_lst, ex_mkbag, ex_ix, ex_ixn, ex_slL, ex_slH, ex_slK, slL_g, ex_call, ex_bi, ex_isD, isi_i, isi_b, isi_s, isi_n, ex_app, ex_ext, ex_pop, ex_rev, ex_pop0, ex_chain, ex_and, ex_or, ex_not, ex_ite, ex_lc, ex_lsOf, ex_tuOf, ex_in, ex_srtI, ex_mnL, ex_mxL, ex_mnD, ex_fld, ex_meth, ex_mk, ex_dic, ex_dget, ex_din, ex_dpop, ex_tab, ex_sit, insD_ob, dicD_i, slT_g, es_nil, es_cons, OC.getV, List.set, bop, augop, ixn_t, ixn_l, ixn_o, ixn_q0, ixn_q1, pkI2, pkI3, pkI4, pkI5, pkI6, pkQ2, pkQ3, pkQ4, pkQ5, pkU2, pkU3, pkU4, pkU5, pkL2, pkL3, pkL4, pkL5, bi_len_l, bi_len_t, bi_len_s, bi_len_x, bi_len_o, bi_abs, bi_max2, bi_min2, bi_max3, bi_sum_l, bi_sum_o, bi_all_l, bi_all_o, bi_any_l, bi_any_o, bi_repr, bi_divmod, bi_int_i, bi_int_b, dtru, bn_name, bn_tup, bns_nil, bns_cons, if_true, if_false, Bool.false_eq_true, List.getElem?_cons_zero, List.getElem?_cons_succ, List.length_cons, List.length_nil, cm_eqI, cm_neI, cm_eqS, cm_neS, cm_ltI, cm_leI, cm_gtI, cm_geI, co_eqI, co_neI, co_ltI, co_leI, co_gtI, co_geI, cm_eqB, cm_neB, cm_eqQ, cm_neQ, mkL_t, mkL_f, viewL_l, viewS_l, viewS_t, someE, ik_l, ik_t, ik_r1, ik_r2, ik_rev, ik_enum, ik_zip, bagP_c, true_and, and_true, Bool.not_true, Bool.not_false, if_nil, if_cons, OC.wipeV, List.map_cons, List.map_nil, List.length_map, ex_isb, isb_b, ex_rvs, ex_srtK, ex_mxP, ex_mnK, ex_brw, ex_inT, cm_isn, cm_non, cm_isi, cm_noi, cm_ist, cm_not, cm_isl, cm_nol, cm_iss, cm_nos, cm_iso, cm_noo, cm_isq, cm_noq, bn_E, bn_q2, ik_es, ik_ss, bn_case, bn_S, bi_len_es, bi_len_ss, hcR, ratL_c]
    rw [isi_p hp]
    cases d with
    | tup xs =>
      rw [show isTy Ty.tuple (D.tup xs) = true from rfl]
      try simp only [ex_var, ex_k, ex_bin, ex_cat, ex_neg, ex_cmp, ex_tup, ex_lst, ex_mkbag, ex_ix, ex_ixn, ex_slL, ex_slH, ex_slK, slL_g, ex_call, ex_bi, ex_isD, isi_i, isi_b, isi_s, isi_n, ex_app, ex_ext, ex_pop, ex_rev, ex_pop0, ex_chain, ex_and, ex_or, ex_not, ex_ite, ex_lc, ex_lsOf, ex_tuOf, ex_in, ex_srtI, ex_mnL, ex_mxL, ex_mnD, ex_fld, ex_meth, ex_mk, ex_dic, ex_dget, ex_din, ex_dpop, ex_tab, ex_sit, insD_ob, dicD_i, slT_g, es_nil, es_cons, OC.getV, List.set, bop, augop, ixn_t, ixn_l, ixn_o, ixn_q0, ixn_q1, pkI2, pkI3, pkI4, pkI5, pkI6, pkQ2, pkQ3, pkQ4, pkQ5, pkU2, pkU3, pkU4, pkU5, pkL2, pkL3, pkL4, pkL5, bi_len_l, bi_len_t, bi_len_s, bi_len_x, bi_len_o, bi_abs, bi_max2, bi_min2, bi_max3, bi_sum_l, bi_sum_o, bi_all_l, bi_all_o, bi_any_l, bi_any_o, bi_repr, bi_divmod, bi_int_i, bi_int_b, dtru, bn_name, bn_tup, bns_nil, bns_cons, if_true, if_false, Bool.false_eq_true, List.getElem?_cons_zero, List.getElem?_cons_succ, List.length_cons, List.length_nil, cm_eqI, cm_neI, cm_eqS, cm_neS, cm_ltI, cm_leI, cm_gtI, cm_geI, co_eqI, co_neI, co_ltI, co_leI, co_gtI, co_geI, cm_eqB, cm_neB, cm_eqQ, cm_neQ, mkL_t, mkL_f, viewL_l, viewS_l, viewS_t, someE, ik_l, ik_t, ik_r1, ik_r2, ik_rev, ik_enum, ik_zip, bagP_c, true_and, and_true, Bool.not_true, Bool.not_false, if_nil, if_cons, OC.wipeV, List.map_cons, List.map_nil, List.length_map, ex_isb, isb_b, ex_rvs, ex_srtK, ex_mxP, ex_mnK, ex_brw, ex_inT, cm_isn, cm_non, cm_isi, cm_noi, cm_ist, cm_not, cm_isl, cm_nol, cm_iss, cm_nos, cm_iso, cm_noo, cm_isq, cm_noq, bn_E, bn_q2, ik_es, ik_ss, bn_case, bn_S, bi_len_es, bi_len_ss, hcR, ratL_c]
      have hl : ¬ ((xs.length : Nat) : Int) = 2 := fun e => by
        have e : xs.length = 2 := by omega
        match xs, e with
        | [x, y], _ => exact ht ⟨x, y, rfl⟩
      rw [decide_eq_false hl]
      try simp only [ex_var, ex_k, ex_bin, ex_cat, ex_neg, ex_cmp, ex_tup, ex_lst, ex_mkbag, ex_ix, ex_ixn, ex_slL, ex_slH, ex_slK, slL_g, ex_call, ex_bi, ex_isD, isi_i, isi_b, isi_s, isi_n, ex_app, ex_ext, ex_pop, ex_rev, ex_pop0, ex_chain, ex_and, ex_or, ex_not, ex_ite, ex_lc, ex_lsOf, ex_tuOf, ex_in, ex_srtI, ex_mnL, ex_mxL, ex_mnD, ex_fld, ex_meth, ex_mk, ex_dic, ex_dget, ex_din, ex_dpop, ex_tab, ex_sit, insD_ob, dicD_i, slT_g, es_nil, es_cons, OC.getV, List.set, bop, augop, ixn_t, ixn_l, ixn_o, ixn_q0, ixn_q1, pkI2, pkI3, pkI4, pkI5, pkI6, pkQ2, pkQ3, pkQ4, pkQ5, pkU2, pkU3, pkU4, pkU5, pkL2, pkL3, pkL4, pkL5, bi_len_l, bi_len_t, bi_len_s, bi_len_x, bi_len_o, bi_abs, bi_max2, bi_min2, bi_max3, bi_sum_l, bi_sum_o, bi_all_l, bi_all_o, bi_any_l, bi_any_o, bi_repr, bi_divmod, bi_int_i, bi_int_b, dtru, bn_name, bn_tup, bns_nil, bns_cons, if_true, if_false, Bool.false_eq_true, List.getElem?_cons_zero, List.getElem?_cons_succ, List.length_cons, List.length_nil, cm_eqI, cm_neI, cm_eqS, cm_neS, cm_ltI, cm_leI, cm_gtI, cm_geI, co_eqI, co_neI, co_ltI, co_leI, co_gtI, co_geI, cm_eqB, cm_neB, cm_eqQ, cm_neQ, mkL_t, mkL_f, viewL_l, viewS_l, viewS_t, someE, ik_l, ik_t, ik_r1, ik_r2, ik_rev, ik_enum, ik_zip, bagP_c, true_and, and_true, Bool.not_true, Bool.not_false, if_nil, if_cons, OC.wipeV, List.map_cons, List.map_nil, List.length_map, ex_isb, isb_b, ex_rvs, ex_srtK, ex_mxP, ex_mnK, ex_brw, ex_inT, cm_isn, cm_non, cm_isi, cm_noi, cm_ist, cm_not, cm_isl, cm_nol, cm_iss, cm_nos, cm_iso, cm_noo, cm_isq, cm_noq, bn_E, bn_q2, ik_es, ik_ss, bn_case, bn_S, bi_len_es, bi_len_ss, hcR, ratL_c]
      simp only [ex_var, ex_k, ex_bin, ex_cat, ex_neg, ex_cmp, ex_tup, ex_lst, ex_mkbag, ex_ix, ex_ixn, ex_slL, ex_slH, ex_slK, slL_g, ex_call, ex_bi, ex_isD, isi_i, isi_b, isi_s, isi_n, ex_app, ex_ext, ex_pop, ex_rev, ex_pop0, ex_chain, ex_and, ex_or, ex_not, ex_ite, ex_lc, ex_lsOf, ex_tuOf, ex_in, ex_srtI, ex_mnL, ex_mxL, ex_mnD, ex_fld, ex_meth, ex_mk, ex_dic, ex_dget, ex_din, ex_dpop, ex_tab, ex_sit, insD_ob, dicD_i, slT_g, es_nil, es_cons, OC.getV, List.set, bop, augop, ixn_t, ixn_l, ixn_o, ixn_q0, ixn_q1, pkI2, pkI3, pkI4, pkI5, pkI6, pkQ2, pkQ3, pkQ4, pkQ5, pkU2, pkU3, pkU4, pkU5, pkL2, pkL3, pkL4, pkL5, bi_len_l, bi_len_t, bi_len_s, bi_len_x, bi_len_o, bi_abs, bi_max2, bi_min2, bi_max3, bi_sum_l, bi_sum_o, bi_all_l, bi_all_o, bi_any_l, bi_any_o, bi_repr, bi_divmod, bi_int_i, bi_int_b, dtru, bn_name, bn_tup, bns_nil, bns_cons, if_true, if_false, Bool.false_eq_true, List.getElem?_cons_zero, List.getElem?_cons_succ, List.length_cons, List.length_nil, cm_eqI, cm_neI, cm_eqS, cm_neS, cm_ltI, cm_leI, cm_gtI, cm_geI, co_eqI, co_neI, co_ltI, co_leI, co_gtI, co_geI, cm_eqB, cm_neB, cm_eqQ, cm_neQ, mkL_t, mkL_f, viewL_l, viewS_l, viewS_t, someE, ik_l, ik_t, ik_r1, ik_r2, ik_rev, ik_enum, ik_zip, bagP_c, true_and, and_true, Bool.not_true, Bool.not_false, if_nil, if_cons, OC.wipeV, List.map_cons, List.map_nil, List.length_map, ex_isb, isb_b, ex_rvs, ex_srtK, ex_mxP, ex_mnK, ex_brw, ex_inT, cm_isn, cm_non, cm_isi, cm_noi, cm_ist, cm_not, cm_isl, cm_nol, cm_iss, cm_nos, cm_iso, cm_noo, cm_isq, cm_noq, bn_E, bn_q2, ik_es, ik_ss, bn_case, bn_S, bi_len_es, bi_len_ss, hcR, ratL_c, sq_asg, sq_par, sq_par3, sq_ret, sq_retN, sq_drop, sq_unp, sq_unpL, sq_pass, sq_nil]
      exact no nos
    | _ =>
      simp only [isTy, Bool.not_false, if_true]
      simp only [ex_var, ex_k, ex_bin, ex_cat, ex_neg, ex_cmp, ex_tup, ex_lst, ex_mkbag, ex_ix, ex_ixn, ex_slL, ex_slH, ex_slK, slL_g, ex_call, ex_bi, ex_isD, isi_i, isi_b, isi_s, isi_n, ex_app, ex_ext, ex_pop, ex_rev, ex_pop0, ex_chain, ex_and, ex_or, ex_not, ex_ite, ex_lc, ex_lsOf, ex_tuOf, ex_in, ex_srtI, ex_mnL, ex_mxL, ex_mnD, ex_fld, ex_meth, ex_mk, ex_dic, ex_dget, ex_din, ex_dpop, ex_tab, ex_sit, insD_ob, dicD_i, slT_g, es_nil, es_cons, OC.getV, List.set, bop, augop, ixn_t, ixn_l, ixn_o, ixn_q0, ixn_q1, pkI2, pkI3, pkI4, pkI5, pkI6, pkQ2, pkQ3, pkQ4, pkQ5, pkU2, pkU3, pkU4, pkU5, pkL2, pkL3, pkL4, pkL5, bi_len_l, bi_len_t, bi_len_s, bi_len_x, bi_len_o, bi_abs, bi_max2, bi_min2, bi_max3, bi_sum_l, bi_sum_o, bi_all_l, bi_all_o, bi_any_l, bi_any_o, bi_repr, bi_divmod, bi_int_i, bi_int_b, dtru, bn_name, bn_tup, bns_nil, bns_cons, if_true, if_false, Bool.false_eq_true, List.getElem?_cons_zero, List.getElem?_cons_succ, List.length_cons, List.length_nil, cm_eqI, cm_neI, cm_eqS, cm_neS, cm_ltI, cm_leI, cm_gtI, cm_geI, co_eqI, co_neI, co_ltI, co_leI, co_gtI, co_geI, cm_eqB, cm_neB, cm_eqQ, cm_neQ, mkL_t, mkL_f, viewL_l, viewS_l, viewS_t, someE, ik_l, ik_t, ik_r1, ik_r2, ik_rev, ik_enum, ik_zip, bagP_c, true_and, and_true, Bool.not_true, Bool.not_false, if_nil, if_cons, OC.wipeV, List.map_cons, List.map_nil, List.length_map, ex_isb, isb_b, ex_rvs, ex_srtK, ex_mxP, ex_mnK, ex_brw, ex_inT, cm_isn, cm_non, cm_isi, cm_noi, cm_ist, cm_not, cm_isl, cm_nol, cm_iss, cm_nos, cm_iso, cm_noo, cm_isq, cm_noq, bn_E, bn_q2, ik_es, ik_ss, bn_case, bn_S, bi_len_es, bi_len_ss, hcR, ratL_c, sq_asg, sq_par, sq_par3, sq_ret, sq_retN, sq_drop, sq_unp, sq_unpL, sq_pass, sq_nil]
      exact no nos
def cutsLC : Ct := rle 1 (fun d : D => [d]) (fun d => d.pure = true ∧ ∀ xs, d = .lst xs → xs.length ≤ 100000 ∧ ∀ x ∈ xs, SpB x) D.bl fun d b => b = true ↔ CutsD d
theorem cutsL_c {T : TS} {Q : QD} {X : XD} {d : D} : cutsLC.c [d] T Q X = ((d.pure = true ∧ ∀ xs, d = .lst xs → xs.length ≤ 100000 ∧ ∀ x ∈ xs, SpB x) ∧ ∀ b : Bool, (b = true ↔ CutsD d) → Q (.bl b) T) := rle_c (x := d) fun x y h => d1_inj h
def b_issetL (ν : Nat → Str) (cS : Nat) : List S := [.ite (.orv (.notv (.op (isiS .list) [.var 0])) (.notv (.op (biS .all) [.lc false (.op (callS cS) [.var 1]) (.name 1) lstI [.var 0] [] [(ν 1, 1)]]))) [.st retS [.op (kS (.bl false)) []]] [], .st retS [.op (biS .all) [.lc false (.op (cmpS .lt) [.op (binS .mul) [.op (ixnS 0) [.op (ixnS 1) [.var 2]], .op (ixnS 1) [.op (ixnS 0) [.var 3]]], .op (binS .mul) [.op (ixnS 0) [.op (ixnS 0) [.var 3]], .op (ixnS 1) [.op (ixnS 1) [.var 2]]]]) (.tup [.name 2, .name 3]) zipI [.var 0, .op (slLS (slL false)) [.var 0, .op (kS (.int 1)) []]] [] [(ν 2, 2), (ν 3, 3)]]]]
theorem issetL_ok {F : List Ct} {ν : Nat → Str} {cS : Nat} (hcS : F[cS]? = some spanLC) : ∀ ds T Q X, (cutsLC).c ds T Q X → wpBody F 4 (b_issetL ν cS) ds T Q X := by
  rintro _ T Q X ⟨d, rfl, ⟨hp, hb⟩, hq⟩
  have no : ¬ CutsD d → ∃ T2, T2.Sub T ∧ Q (.bl false) T2 := fun h => ret_here (hq false ⟨(fun e => nomatch e), fun e => absurd e h⟩)
  unfold b_issetL
  simp only [wpBody, start0, List.map_cons, List.map_nil, List.length, List.replicate, List.cons_append, List.nil_append, Nat.reduceAdd, Nat.reduceSub]
  try dsimp only
  try dsimp only
  rw [sq_ite]
  simp only [ex_var, ex_k, ex_bin, ex_cat, ex_neg, ex_cmp, ex_tup, ex_lst, ex_mkbag, ex_ix, ex_ixn, ex_slL, ex_slH, ex_slK, slL_g, ex_call, ex_bi, ex_isD, isi_i, isi_b, isi_s, isi_n, ex_app, ex_ext, ex_pop, ex_rev, ex_pop0, ex_chain, ex_and, ex_or, ex_not, ex_ite, ex_lc, ex_lsOf, ex_tuOf, ex_in, ex_srtI, ex_mnL, ex_mxL, ex_mnD, ex_fld, ex_meth, ex_mk, ex_dic, ex_dget, ex_din, ex_dpop, ex_tab, ex_sit, insD_ob, dicD_i, slT_g, es_nil, es_cons, OC.getV, List.set, bop, augop, ixn_t, ixn_l, ixn_o, ixn_q0, ixn_q1, pkI2, pkI3, pkI4, pkI5, pkI6, pkQ2, pkQ3, pkQ4, pkQ5, pkU2, pkU3, pkU4, pkU5, pkL2, pkL3, pkL4, pkL5, bi_len_l, bi_len_t, bi_len_s, bi_len_x, bi_len_o, bi_abs, bi_max2, bi_min2, bi_max3, bi_sum_l, bi_sum_o, bi_all_l, bi_all_o, bi_any_l, bi_any_o, bi_repr, bi_divmod, bi_int_i, bi_int_b, dtru, bn_name, bn_tup, bns_nil, bns_cons, if_true, if_false, Bool.false_eq_true, List.getElem?_cons_zero, List.getElem?_cons_succ, List.length_cons, List.length_nil, cm_eqI, cm_neI, cm_eqS, cm_neS, cm_ltI, cm_leI, cm_gtI, cm_geI, co_eqI, co_neI, co_ltI, co_leI, co_gtI, co_geI, cm_eqB, cm_neB, cm_eqQ, cm_neQ, mkL_t, mkL_f, viewL_l, viewS_l, viewS_t, someE, ik_l, ik_t, ik_r1, ik_r2, ik_rev, ik_enum, ik_zip, bagP_c, true_and, and_true, Bool.not_true, Bool.not_false, if_nil, if_cons, OC.wipeV, List.map_cons, List.map_nil, List.length_map, ex_isb, isb_b, ex_rvs, ex_srtK, ex_mxP, ex_mnK, ex_brw, ex_inT, cm_isn, cm_non, cm_isi, cm_noi, cm_ist, cm_not, cm_isl, cm_nol, cm_iss, cm_nos, cm_iso, cm_noo, cm_isq, cm_noq, bn_E, bn_q2, ik_es, ik_ss, bn_case, bn_S, bi_len_es, bi_len_ss, hcS, spanL_c]
  rw [isi_p hp]
  cases d with
  | lst xs =>
    obtain ⟨hlen, hS⟩ := hb xs rfl
    rw [show isTy Ty.list (D.lst xs) = true from rfl]
    try simp only [ex_var, ex_k, ex_bin, ex_cat, ex_neg, ex_cmp, ex_tup, ex_lst, ex_mkbag, ex_ix, ex_ixn, ex_slL, ex_slH, ex_slK, slL_g, ex_call, ex_bi, ex_isD, isi_i, isi_b, isi_s, isi_n, ex_app, ex_ext, ex_pop, ex_rev, ex_pop0, ex_chain, ex_and, ex_or, ex_not, ex_ite, ex_lc, ex_lsOf, ex_tuOf, ex_in, ex_srtI, ex_mnL, ex_mxL, ex_mnD, ex_fld, ex_meth, ex_mk, ex_dic, ex_dget, ex_din, ex_dpop, ex_tab, ex_sit, insD_ob, dicD_i, slT_g, es_nil, es_cons, OC.getV, List.set, bop, augop, ixn_t, ixn_l, ixn_o, ixn_q0, ixn_q1, pkI2, pkI3, pkI4, pkI5, pkI6, pkQ2, pkQ3, pkQ4, pkQ5, pkU2, pkU3, pkU4, pkU5, pkL2, pkL3, pkL4, pkL5, bi_len_l, bi_len_t, bi_len_s, bi_len_x, bi_len_o, bi_abs, bi_max2, bi_min2, bi_max3, bi_sum_l, bi_sum_o, bi_all_l, bi_all_o, bi_any_l, bi_any_o, bi_repr, bi_divmod, bi_int_i, bi_int_b, dtru, bn_name, bn_tup, bns_nil, bns_cons, if_true, if_false, Bool.false_eq_true, List.getElem?_cons_zero, List.getElem?_cons_succ, List.length_cons, List.length_nil, cm_eqI, cm_neI, cm_eqS, cm_neS, cm_ltI, cm_leI, cm_gtI, cm_geI, co_eqI, co_neI, co_ltI, co_leI, co_gtI, co_geI, cm_eqB, cm_neB, cm_eqQ, cm_neQ, mkL_t, mkL_f, viewL_l, viewS_l, viewS_t, someE, ik_l, ik_t, ik_r1, ik_r2, ik_rev, ik_enum, ik_zip, bagP_c, true_and, and_true, Bool.not_true, Bool.not_false, if_nil, if_cons, OC.wipeV, List.map_cons, List.map_nil, List.length_map, ex_isb, isb_b, ex_rvs, ex_srtK, ex_mxP, ex_mnK, ex_brw, ex_inT, cm_isn, cm_non, cm_isi, cm_noi, cm_ist, cm_not, cm_isl, cm_nol, cm_iss, cm_nos, cm_iso, cm_noo, cm_isq, cm_noq, bn_E, bn_q2, ik_es, ik_ss, bn_case, bn_S, bi_len_es, bi_len_ss, hcS, spanL_c]
    refine ⟨hlen, map_rel D.bl (fun x b => b = true ↔ SpanD x) xs [] (fun x hx kk hk => ?_) fun bs hbs => ?_⟩
    · exact ⟨⟨pureL_mem hp hx, hS x hx⟩, hk⟩
    rw [List.nil_append, show (bs.map D.bl) = bs.map fun b => D.bl (id b) from rfl, bls_map, List.map_id]
    try simp only [ex_var, ex_k, ex_bin, ex_cat, ex_neg, ex_cmp, ex_tup, ex_lst, ex_mkbag, ex_ix, ex_ixn, ex_slL, ex_slH, ex_slK, slL_g, ex_call, ex_bi, ex_isD, isi_i, isi_b, isi_s, isi_n, ex_app, ex_ext, ex_pop, ex_rev, ex_pop0, ex_chain, ex_and, ex_or, ex_not, ex_ite, ex_lc, ex_lsOf, ex_tuOf, ex_in, ex_srtI, ex_mnL, ex_mxL, ex_mnD, ex_fld, ex_meth, ex_mk, ex_dic, ex_dget, ex_din, ex_dpop, ex_tab, ex_sit, insD_ob, dicD_i, slT_g, es_nil, es_cons, OC.getV, List.set, bop, augop, ixn_t, ixn_l, ixn_o, ixn_q0, ixn_q1, pkI2, pkI3, pkI4, pkI5, pkI6, pkQ2, pkQ3, pkQ4, pkQ5, pkU2, pkU3, pkU4, pkU5, pkL2, pkL3, pkL4, pkL5, bi_len_l, bi_len_t, bi_len_s, bi_len_x, bi_len_o, bi_abs, bi_max2, bi_min2, bi_max3, bi_sum_l, bi_sum_o, bi_all_l, bi_all_o, bi_any_l, bi_any_o, bi_repr, bi_divmod, bi_int_i, bi_int_b, dtru, bn_name, bn_tup, bns_nil, bns_cons, if_true, if_false, Bool.false_eq_true, List.getElem?_cons_zero, List.getElem?_cons_succ, List.length_cons, List.length_nil, cm_eqI, cm_neI, cm_eqS, cm_neS, cm_ltI, cm_leI, cm_gtI, cm_geI, co_eqI, co_neI, co_ltI, co_leI, co_gtI, co_geI, cm_eqB, cm_neB, cm_eqQ, cm_neQ, mkL_t, mkL_f, viewL_l, viewS_l, viewS_t, someE, ik_l, ik_t, ik_r1, ik_r2, ik_rev, ik_enum, ik_zip, bagP_c, true_and, and_true, Bool.not_true, Bool.not_false, if_nil, if_cons, OC.wipeV, List.map_cons, List.map_nil, List.length_map, ex_isb, isb_b, ex_rvs, ex_srtK, ex_mxP, ex_mnK, ex_brw, ex_inT, cm_isn, cm_non, cm_isi, cm_noi, cm_ist, cm_not, cm_isl, cm_nol, cm_iss, cm_nos, cm_iso, cm_noo, cm_isq, cm_noq, bn_E, bn_q2, ik_es, ik_ss, bn_case, bn_S, bi_len_es, bi_len_ss, hcS, spanL_c]
    have ha := all_rel hbs
    cases c : bs.all id with
    | false =>
      simp only [Bool.not_false, if_true]
      simp only [ex_var, ex_k, ex_bin, ex_cat, ex_neg, ex_cmp, ex_tup, ex_lst, ex_mkbag, ex_ix, ex_ixn, ex_slL, ex_slH, ex_slK, slL_g, ex_call, ex_bi, ex_isD, isi_i, isi_b, isi_s, isi_n, ex_app, ex_ext, ex_pop, ex_rev, ex_pop0, ex_chain, ex_and, ex_or, ex_not, ex_ite, ex_lc, ex_lsOf, ex_tuOf, ex_in, ex_srtI, ex_mnL, ex_mxL, ex_mnD, ex_fld, ex_meth, ex_mk, ex_dic, ex_dget, ex_din, ex_dpop, ex_tab, ex_sit, insD_ob, dicD_i, slT_g, es_nil, es_cons, OC.getV, List.set, bop, augop, ixn_t, ixn_l, ixn_o, ixn_q0, ixn_q1, pkI2, pkI3, pkI4, pkI5, pkI6, pkQ2, pkQ3, pkQ4, pkQ5, pkU2, pkU3, pkU4, pkU5, pkL2, pkL3, pkL4, pkL5, bi_len_l, bi_len_t, bi_len_s, bi_len_x, bi_len_o, bi_abs, bi_max2, bi_min2, bi_max3, bi_sum_l, bi_sum_o, bi_all_l, bi_all_o, bi_any_l, bi_any_o, bi_repr, bi_divmod, bi_int_i, bi_int_b, dtru, bn_name, bn_tup, bns_nil, bns_cons, if_true, if_false, Bool.false_eq_true, List.getElem?_cons_zero, List.getElem?_cons_succ, List.length_cons, List.length_nil, cm_eqI, cm_neI, cm_eqS, cm_neS, cm_ltI, cm_leI, cm_gtI, cm_geI, co_eqI, co_neI, co_ltI, co_leI, co_gtI, co_geI, cm_eqB, cm_neB, cm_eqQ, cm_neQ, mkL_t, mkL_f, viewL_l, viewS_l, viewS_t, someE, ik_l, ik_t, ik_r1, ik_r2, ik_rev, ik_enum, ik_zip, bagP_c, true_and, and_true, Bool.not_true, Bool.not_false, if_nil, if_cons, OC.wipeV, List.map_cons, List.map_nil, List.length_map, ex_isb, isb_b, ex_rvs, ex_srtK, ex_mxP, ex_mnK, ex_brw, ex_inT, cm_isn, cm_non, cm_isi, cm_noi, cm_ist, cm_not, cm_isl, cm_nol, cm_iss, cm_nos, cm_iso, cm_noo, cm_isq, cm_noq, bn_E, bn_q2, ik_es, ik_ss, bn_case, bn_S, bi_len_es, bi_len_ss, hcS, spanL_c, sq_asg, sq_par, sq_par3, sq_ret, sq_retN, sq_drop, sq_unp, sq_unpL, sq_pass, sq_nil]
      refine no ?_
      rintro ⟨l, e, hc⟩
      unfold encS at e
      cases e
      rw [c] at ha
      refine absurd (ha.mpr fun x hx => ?_) (fun e => nomatch e)
      obtain ⟨p, hp, rfl⟩ := List.mem_map.mp hx
      exact ⟨p, rfl, hc.1 p hp⟩
    | true =>
      simp only [Bool.not_true, if_false, Bool.false_eq_true]
      try dsimp only
      rw [sq_nil]
      simp only [ex_var, ex_k, ex_bin, ex_cat, ex_neg, ex_cmp, ex_tup, ex_lst, ex_mkbag, ex_ix, ex_ixn, ex_slL, ex_slH, ex_slK, slL_g, ex_call, ex_bi, ex_isD, isi_i, isi_b, isi_s, isi_n, ex_app, ex_ext, ex_pop, ex_rev, ex_pop0, ex_chain, ex_and, ex_or, ex_not, ex_ite, ex_lc, ex_lsOf, ex_tuOf, ex_in, ex_srtI, ex_mnL, ex_mxL, ex_mnD, ex_fld, ex_meth, ex_mk, ex_dic, ex_dget, ex_din, ex_dpop, ex_tab, ex_sit, insD_ob, dicD_i, slT_g, es_nil, es_cons, OC.getV, List.set, bop, augop, ixn_t, ixn_l, ixn_o, ixn_q0, ixn_q1, pkI2, pkI3, pkI4, pkI5, pkI6, pkQ2, pkQ3, pkQ4, pkQ5, pkU2, pkU3, pkU4, pkU5, pkL2, pkL3, pkL4, pkL5, bi_len_l, bi_len_t, bi_len_s, bi_len_x, bi_len_o, bi_abs, bi_max2, bi_min2, bi_max3, bi_sum_l, bi_sum_o, bi_all_l, bi_all_o, bi_any_l, bi_any_o, bi_repr, bi_divmod, bi_int_i, bi_int_b, dtru, bn_name, bn_tup, bns_nil, bns_cons, if_true, if_false, Bool.false_eq_true, List.getElem?_cons_zero, List.getElem?_cons_succ, List.length_cons, List.length_nil, cm_eqI, cm_neI, cm_eqS, cm_neS, cm_ltI, cm_leI, cm_gtI, cm_geI, co_eqI, co_neI, co_ltI, co_leI, co_gtI, co_geI, cm_eqB, cm_neB, cm_eqQ, cm_neQ, mkL_t, mkL_f, viewL_l, viewS_l, viewS_t, someE, ik_l, ik_t, ik_r1, ik_r2, ik_rev, ik_enum, ik_zip, bagP_c, true_and, and_true, Bool.not_true, Bool.not_false, if_nil, if_cons, OC.wipeV, List.map_cons, List.map_nil, List.length_map, ex_isb, isb_b, ex_rvs, ex_srtK, ex_mxP, ex_mnK, ex_brw, ex_inT, cm_isn, cm_non, cm_isi, cm_noi, cm_ist, cm_not, cm_isl, cm_nol, cm_iss, cm_nos, cm_iso, cm_noo, cm_isq, cm_noq, bn_E, bn_q2, ik_es, ik_ss, bn_case, bn_S, bi_len_es, bi_len_ss, hcS, spanL_c]
      obtain ⟨l, rfl, hsp⟩ := spans_of (ha.mp c)
      have bq : ∀ p ∈ l, Bq 4000 p.1 ∧ Bq 4000 p.2 := fun p hp => ⟨hS _ (List.mem_map_of_mem hp) _ _ rfl p.1 (.inl rfl), hS _ (List.mem_map_of_mem hp) _ _ rfl p.2 (.inr rfl)⟩
      try dsimp only
      rw [sq_ret]
      simp only [ex_var, ex_k, ex_bin, ex_cat, ex_neg, ex_cmp, ex_tup, ex_lst, ex_mkbag, ex_ix, ex_ixn, ex_slL, ex_slH, ex_slK, slL_g, ex_call, ex_bi, ex_isD, isi_i, isi_b, isi_s, isi_n, ex_app, ex_ext, ex_pop, ex_rev, ex_pop0, ex_chain, ex_and, ex_or, ex_not, ex_ite, ex_lc, ex_lsOf, ex_tuOf, ex_in, ex_srtI, ex_mnL, ex_mxL, ex_mnD, ex_fld, ex_meth, ex_mk, ex_dic, ex_dget, ex_din, ex_dpop, ex_tab, ex_sit, insD_ob, dicD_i, slT_g, es_nil, es_cons, OC.getV, List.set, bop, augop, ixn_t, ixn_l, ixn_o, ixn_q0, ixn_q1, pkI2, pkI3, pkI4, pkI5, pkI6, pkQ2, pkQ3, pkQ4, pkQ5, pkU2, pkU3, pkU4, pkU5, pkL2, pkL3, pkL4, pkL5, bi_len_l, bi_len_t, bi_len_s, bi_len_x, bi_len_o, bi_abs, bi_max2, bi_min2, bi_max3, bi_sum_l, bi_sum_o, bi_all_l, bi_all_o, bi_any_l, bi_any_o, bi_repr, bi_divmod, bi_int_i, bi_int_b, dtru, bn_name, bn_tup, bns_nil, bns_cons, if_true, if_false, Bool.false_eq_true, List.getElem?_cons_zero, List.getElem?_cons_succ, List.length_cons, List.length_nil, cm_eqI, cm_neI, cm_eqS, cm_neS, cm_ltI, cm_leI, cm_gtI, cm_geI, co_eqI, co_neI, co_ltI, co_leI, co_gtI, co_geI, cm_eqB, cm_neB, cm_eqQ, cm_neQ, mkL_t, mkL_f, viewL_l, viewS_l, viewS_t, someE, ik_l, ik_t, ik_r1, ik_r2, ik_rev, ik_enum, ik_zip, bagP_c, true_and, and_true, Bool.not_true, Bool.not_false, if_nil, if_cons, OC.wipeV, List.map_cons, List.map_nil, List.length_map, ex_isb, isb_b, ex_rvs, ex_srtK, ex_mxP, ex_mnK, ex_brw, ex_inT, cm_isn, cm_non, cm_isi, cm_noi, cm_ist, cm_not, cm_isl, cm_nol, cm_iss, cm_nos, cm_iso, cm_noo, cm_isq, cm_noq, bn_E, bn_q2, ik_es, ik_ss, bn_case, bn_S, bi_len_es, bi_len_ss, hcS, spanL_c]
      rw [cutD_lo (by decide), show (1 : Int).toNat = 1 from rfl, List.drop_one, ← List.map_tail, List.zipWith_map]
      have ez : List.zipWith (fun a b : Rat × Rat => D.tup [encP a, encP b]) l l.tail = (l.zip l.tail).map fun z => .tup [encP z.1, encP z.2] := by
        rw [List.zip, List.map_zipWith]
      rw [ez]
      refine ⟨?_, map_enc (fun z : (Rat × Rat) × (Rat × Rat) => D.tup [encP z.1, encP z.2]) (fun z => .bl (decide (z.1.2 < z.2.1))) (l.zip l.tail) [] (fun z hz kk hk => ?_) ?_⟩
      · rw [List.length_map] at hlen ⊢
        exact Nat.le_trans (by rw [List.length_zip]; omega) hlen
      · skip
        try simp only [ex_var, ex_k, ex_bin, ex_cat, ex_neg, ex_cmp, ex_tup, ex_lst, ex_mkbag, ex_ix, ex_ixn, ex_slL, ex_slH, ex_slK, slL_g, ex_call, ex_bi, ex_isD, isi_i, isi_b, isi_s, isi_n, ex_app, ex_ext, ex_pop, ex_rev, ex_pop0, ex_chain, ex_and, ex_or, ex_not, ex_ite, ex_lc, ex_lsOf, ex_tuOf, ex_in, ex_srtI, ex_mnL, ex_mxL, ex_mnD, ex_fld, ex_meth, ex_mk, ex_dic, ex_dget, ex_din, ex_dpop, ex_tab, ex_sit, insD_ob, dicD_i, slT_g, es_nil, es_cons, OC.getV, List.set, bop, augop, ixn_t, ixn_l, ixn_o, ixn_q0, ixn_q1, pkI2, pkI3, pkI4, pkI5, pkI6, pkQ2, pkQ3, pkQ4, pkQ5, pkU2, pkU3, pkU4, pkU5, pkL2, pkL3, pkL4, pkL5, bi_len_l, bi_len_t, bi_len_s, bi_len_x, bi_len_o, bi_abs, bi_max2, bi_min2, bi_max3, bi_sum_l, bi_sum_o, bi_all_l, bi_all_o, bi_any_l, bi_any_o, bi_repr, bi_divmod, bi_int_i, bi_int_b, dtru, bn_name, bn_tup, bns_nil, bns_cons, if_true, if_false, Bool.false_eq_true, List.getElem?_cons_zero, List.getElem?_cons_succ, List.length_cons, List.length_nil, cm_eqI, cm_neI, cm_eqS, cm_neS, cm_ltI, cm_leI, cm_gtI, cm_geI, co_eqI, co_neI, co_ltI, co_leI, co_gtI, co_geI, cm_eqB, cm_neB, cm_eqQ, cm_neQ, mkL_t, mkL_f, viewL_l, viewS_l, viewS_t, someE, ik_l, ik_t, ik_r1, ik_r2, ik_rev, ik_enum, ik_zip, bagP_c, true_and, and_true, Bool.not_true, Bool.not_false, if_nil, if_cons, OC.wipeV, List.map_cons, List.map_nil, List.length_map, ex_isb, isb_b, ex_rvs, ex_srtK, ex_mxP, ex_mnK, ex_brw, ex_inT, cm_isn, cm_non, cm_isi, cm_noi, cm_ist, cm_not, cm_isl, cm_nol, cm_iss, cm_nos, cm_iso, cm_noo, cm_isq, cm_noq, bn_E, bn_q2, ik_es, ik_ss, bn_case, bn_S, bi_len_es, bi_len_ss, hcS, spanL_c, bn_2, ixn_p0, ixn_p1]
        have hz := List.of_mem_zip hz
        have b1 := (bq _ hz.1).2
        have b2 := (bq _ (List.mem_of_mem_tail hz.2)).1
        refine ⟨mulW (a := 4000) (b := 4000) b1.1 (by rw [Int.natAbs_natCast]; exact b2.2), mulW (a := 4000) (b := 4000) b2.1 (by rw [Int.natAbs_natCast]; exact b1.2), ?_⟩
        rw [show decide (z.1.2 < z.2.1) = decide (z.1.2.num * z.2.1.den < z.2.1.num * z.1.2.den) by rw [Bool.eq_iff_iff, decide_eq_true_eq, decide_eq_true_eq]; exact Rat.lt_iff _ _] at hk
        exact hk
      · rw [List.nil_append, bls_map]
        try simp only [ex_var, ex_k, ex_bin, ex_cat, ex_neg, ex_cmp, ex_tup, ex_lst, ex_mkbag, ex_ix, ex_ixn, ex_slL, ex_slH, ex_slK, slL_g, ex_call, ex_bi, ex_isD, isi_i, isi_b, isi_s, isi_n, ex_app, ex_ext, ex_pop, ex_rev, ex_pop0, ex_chain, ex_and, ex_or, ex_not, ex_ite, ex_lc, ex_lsOf, ex_tuOf, ex_in, ex_srtI, ex_mnL, ex_mxL, ex_mnD, ex_fld, ex_meth, ex_mk, ex_dic, ex_dget, ex_din, ex_dpop, ex_tab, ex_sit, insD_ob, dicD_i, slT_g, es_nil, es_cons, OC.getV, List.set, bop, augop, ixn_t, ixn_l, ixn_o, ixn_q0, ixn_q1, pkI2, pkI3, pkI4, pkI5, pkI6, pkQ2, pkQ3, pkQ4, pkQ5, pkU2, pkU3, pkU4, pkU5, pkL2, pkL3, pkL4, pkL5, bi_len_l, bi_len_t, bi_len_s, bi_len_x, bi_len_o, bi_abs, bi_max2, bi_min2, bi_max3, bi_sum_l, bi_sum_o, bi_all_l, bi_all_o, bi_any_l, bi_any_o, bi_repr, bi_divmod, bi_int_i, bi_int_b, dtru, bn_name, bn_tup, bns_nil, bns_cons, if_true, if_false, Bool.false_eq_true, List.getElem?_cons_zero, List.getElem?_cons_succ, List.length_cons, List.length_nil, cm_eqI, cm_neI, cm_eqS, cm_neS, cm_ltI, cm_leI, cm_gtI, cm_geI, co_eqI, co_neI, co_ltI, co_leI, co_gtI, co_geI, cm_eqB, cm_neB, cm_eqQ, cm_neQ, mkL_t, mkL_f, viewL_l, viewS_l, viewS_t, someE, ik_l, ik_t, ik_r1, ik_r2, ik_rev, ik_enum, ik_zip, bagP_c, true_and, and_true, Bool.not_true, Bool.not_false, if_nil, if_cons, OC.wipeV, List.map_cons, List.map_nil, List.length_map, ex_isb, isb_b, ex_rvs, ex_srtK, ex_mxP, ex_mnK, ex_brw, ex_inT, cm_isn, cm_non, cm_isi, cm_noi, cm_ist, cm_not, cm_isl, cm_nol, cm_iss, cm_nos, cm_iso, cm_noo, cm_isq, cm_noq, bn_E, bn_q2, ik_es, ik_ss, bn_case, bn_S, bi_len_es, bi_len_ss, hcS, spanL_c]
        refine ret_here (hq _ ?_)
        rw [List.all_map]
        have cp := chain_pair (l := l) fun p hp => (hsp p hp).2.1
        show ((l.zip l.tail).all fun z => decide (z.1.2 < z.2.1)) = true ↔ _
        rw [cp]
        constructor
        · exact fun h => ⟨l, rfl, hsp, h⟩
        · rintro ⟨m, e, hc⟩
          cases encS_inj (x := l) e
          exact hc.2
  | _ =>
    simp only [isTy, Bool.not_false, if_true]
    simp only [ex_var, ex_k, ex_bin, ex_cat, ex_neg, ex_cmp, ex_tup, ex_lst, ex_mkbag, ex_ix, ex_ixn, ex_slL, ex_slH, ex_slK, slL_g, ex_call, ex_bi, ex_isD, isi_i, isi_b, isi_s, isi_n, ex_app, ex_ext, ex_pop, ex_rev, ex_pop0, ex_chain, ex_and, ex_or, ex_not, ex_ite, ex_lc, ex_lsOf, ex_tuOf, ex_in, ex_srtI, ex_mnL, ex_mxL, ex_mnD, ex_fld, ex_meth, ex_mk, ex_dic, ex_dget, ex_din, ex_dpop, ex_tab, ex_sit, insD_ob, dicD_i, slT_g, es_nil, es_cons, OC.getV, List.set, bop, augop, ixn_t, ixn_l, ixn_o, ixn_q0, ixn_q1, pkI2, pkI3, pkI4, pkI5, pkI6, pkQ2, pkQ3, pkQ4, pkQ5, pkU2, pkU3, pkU4, pkU5, pkL2, pkL3, pkL4, pkL5, bi_len_l, bi_len_t, bi_len_s, bi_len_x, bi_len_o, bi_abs, bi_max2, bi_min2, bi_max3, bi_sum_l, bi_sum_o, bi_all_l, bi_all_o, bi_any_l, bi_any_o, bi_repr, bi_divmod, bi_int_i, bi_int_b, dtru, bn_name, bn_tup, bns_nil, bns_cons, if_true, if_false, Bool.false_eq_true, List.getElem?_cons_zero, List.getElem?_cons_succ, List.length_cons, List.length_nil, cm_eqI, cm_neI, cm_eqS, cm_neS, cm_ltI, cm_leI, cm_gtI, cm_geI, co_eqI, co_neI, co_ltI, co_leI, co_gtI, co_geI, cm_eqB, cm_neB, cm_eqQ, cm_neQ, mkL_t, mkL_f, viewL_l, viewS_l, viewS_t, someE, ik_l, ik_t, ik_r1, ik_r2, ik_rev, ik_enum, ik_zip, bagP_c, true_and, and_true, Bool.not_true, Bool.not_false, if_nil, if_cons, OC.wipeV, List.map_cons, List.map_nil, List.length_map, ex_isb, isb_b, ex_rvs, ex_srtK, ex_mxP, ex_mnK, ex_brw, ex_inT, cm_isn, cm_non, cm_isi, cm_noi, cm_ist, cm_not, cm_isl, cm_nol, cm_iss, cm_nos, cm_iso, cm_noo, cm_isq, cm_noq, bn_E, bn_q2, ik_es, ik_ss, bn_case, bn_S, bi_len_es, bi_len_ss, hcS, spanL_c, sq_asg, sq_par, sq_par3, sq_ret, sq_retN, sq_drop, sq_unp, sq_unpL, sq_pass, sq_nil]
    refine no ?_
    rintro ⟨l, e, _⟩
    cases e
def endC : Ct := rle 2 (fun q : Rat => [.bag, encQ q]) (fun q => Bq 1000 q) (fun d : D => d) fun _ d => Md 1 5 d
theorem end_c {T : TS} {Q : QD} {X : XD} {q : Rat} : endC.c [.bag, encQ q] T Q X = (Bq 1000 q ∧ ∀ d, Md 1 5 d → Q d T) := rle_c (x := q) fun x y h => by
  simp only [List.cons.injEq, and_true, true_and] at h
  exact encQ_inj h
theorem cp50 : CPow 10 50 = True := eq_true ⟨by decide, by decide, by decide⟩
theorem e50 : (10 : Int) ^ (Int.toNat 50) = 100000000000000000000000000000000000000000000000000 := by decide
def b_end7 (cT : Nat) : List S := [.st (asgS 2) [.op (lstS true) [.op tupS [.op (binS .mul) [.op (ixnS 0) [.var 1], .op (kS (.int 2)) []], .op (binS .mul) [.op (ixnS 1) [.var 1], .op (kS (.int 2)) []]], .op tupS [.op negS [.op (ixnS 0) [.var 1]], .op (ixnS 1) [.var 1]], .op tupS [.op (binS .add) [.op (ixnS 0) [.var 1], .op (kS (.int 1)) []], .op (ixnS 1) [.var 1]], .op (lsOfS false) [.var 1], .op tupS [.op (ixnS 0) [.var 1]], .op (ixnS 0) [.var 1], .op (kS .non) []]], .st (asgS 2) [.op (catS true) [.var 2, .op (lstS false) [.op tupS [.op (kS (.int 0)) [], .op (kS (.int 1)) []], .op tupS [.op (kS (.int 1)) [], .op (kS (.int 1)) []], .op tupS [.op (kS (.int 2)) [], .op (kS (.int 1)) []], .op tupS [.op negS [.op (kS (.int 1)) []], .op (kS (.int 3)) []], .op tupS [.op (kS (.int 1)) [], .op (kS (.int 0)) []], .op tupS [.op (kS (.bl true)) [], .op (kS (.int 1)) []], .op tupS [.op (binS .pow) [.op (kS (.int 10)) [], .op (kS (.int 50)) []], .op (binS .add) [.op (binS .pow) [.op (kS (.int 10)) [], .op (kS (.int 50)) []], .op (kS (.int 1)) []]]]]], .st dropS [.mth appS (.var 2) [.op tupS [.op (binS .add) [.op (binS .pow) [.op (kS (.int 10)) [], .op (kS (.int 50)) []], .op (kS (.int 1)) []], .op (binS .pow) [.op (kS (.int 10)) [], .op (kS (.int 50)) []]]]], .st retS [.op ixS [.var 2, .op (callS cT) [.var 0, .op (kS (.int 15)) []]]]]
theorem end7_ok {F : List Ct} {cT : Nat} (hcT : F[cT]? = some takeC) : ∀ ds T Q X, (endC).c ds T Q X → wpBody F 3 (b_end7 cT) ds T Q X := by
  rintro _ T Q X ⟨q, rfl, hb, hq⟩
  unfold b_end7
  simp only [wpBody, start0, List.map_cons, List.map_nil, List.length, List.replicate, List.cons_append, List.nil_append, Nat.reduceAdd, Nat.reduceSub]
  try dsimp only
  try dsimp only
  rw [sq_asg]
  simp only [ex_var, ex_k, ex_bin, ex_cat, ex_neg, ex_cmp, ex_tup, ex_lst, ex_mkbag, ex_ix, ex_ixn, ex_slL, ex_slH, ex_slK, slL_g, ex_call, ex_bi, ex_isD, isi_i, isi_b, isi_s, isi_n, ex_app, ex_ext, ex_pop, ex_rev, ex_pop0, ex_chain, ex_and, ex_or, ex_not, ex_ite, ex_lc, ex_lsOf, ex_tuOf, ex_in, ex_srtI, ex_mnL, ex_mxL, ex_mnD, ex_fld, ex_meth, ex_mk, ex_dic, ex_dget, ex_din, ex_dpop, ex_tab, ex_sit, insD_ob, dicD_i, slT_g, es_nil, es_cons, OC.getV, List.set, bop, augop, ixn_t, ixn_l, ixn_o, ixn_q0, ixn_q1, pkI2, pkI3, pkI4, pkI5, pkI6, pkQ2, pkQ3, pkQ4, pkQ5, pkU2, pkU3, pkU4, pkU5, pkL2, pkL3, pkL4, pkL5, bi_len_l, bi_len_t, bi_len_s, bi_len_x, bi_len_o, bi_abs, bi_max2, bi_min2, bi_max3, bi_sum_l, bi_sum_o, bi_all_l, bi_all_o, bi_any_l, bi_any_o, bi_repr, bi_divmod, bi_int_i, bi_int_b, dtru, bn_name, bn_tup, bns_nil, bns_cons, if_true, if_false, Bool.false_eq_true, List.getElem?_cons_zero, List.getElem?_cons_succ, List.length_cons, List.length_nil, cm_eqI, cm_neI, cm_eqS, cm_neS, cm_ltI, cm_leI, cm_gtI, cm_geI, co_eqI, co_neI, co_ltI, co_leI, co_gtI, co_geI, cm_eqB, cm_neB, cm_eqQ, cm_neQ, mkL_t, mkL_f, viewL_l, viewS_l, viewS_t, someE, ik_l, ik_t, ik_r1, ik_r2, ik_rev, ik_enum, ik_zip, bagP_c, true_and, and_true, Bool.not_true, Bool.not_false, if_nil, if_cons, OC.wipeV, List.map_cons, List.map_nil, List.length_map, ex_isb, isb_b, ex_rvs, ex_srtK, ex_mxP, ex_mnK, ex_brw, ex_inT, cm_isn, cm_non, cm_isi, cm_noi, cm_ist, cm_not, cm_isl, cm_nol, cm_iss, cm_nos, cm_iso, cm_noo, cm_isq, cm_noq, bn_E, bn_q2, ik_es, ik_ss, bn_case, bn_S, bi_len_es, bi_len_ss, hcT, take_c, tk 15 rfl]
  refine ⟨mulW (a := 1000) (b := 2) hb.1 (by decide), mulW (a := 1000) (b := 2) (by rw [Int.natAbs_natCast]; exact hb.2) (by decide), [.int q.num, .int q.den], rfl, fun a ha => ?_⟩
  try dsimp only
  rw [sq_asg]
  simp only [ex_var, ex_k, ex_bin, ex_cat, ex_neg, ex_cmp, ex_tup, ex_lst, ex_mkbag, ex_ix, ex_ixn, ex_slL, ex_slH, ex_slK, slL_g, ex_call, ex_bi, ex_isD, isi_i, isi_b, isi_s, isi_n, ex_app, ex_ext, ex_pop, ex_rev, ex_pop0, ex_chain, ex_and, ex_or, ex_not, ex_ite, ex_lc, ex_lsOf, ex_tuOf, ex_in, ex_srtI, ex_mnL, ex_mxL, ex_mnD, ex_fld, ex_meth, ex_mk, ex_dic, ex_dget, ex_din, ex_dpop, ex_tab, ex_sit, insD_ob, dicD_i, slT_g, es_nil, es_cons, OC.getV, List.set, bop, augop, ixn_t, ixn_l, ixn_o, ixn_q0, ixn_q1, pkI2, pkI3, pkI4, pkI5, pkI6, pkQ2, pkQ3, pkQ4, pkQ5, pkU2, pkU3, pkU4, pkU5, pkL2, pkL3, pkL4, pkL5, bi_len_l, bi_len_t, bi_len_s, bi_len_x, bi_len_o, bi_abs, bi_max2, bi_min2, bi_max3, bi_sum_l, bi_sum_o, bi_all_l, bi_all_o, bi_any_l, bi_any_o, bi_repr, bi_divmod, bi_int_i, bi_int_b, dtru, bn_name, bn_tup, bns_nil, bns_cons, if_true, if_false, Bool.false_eq_true, List.getElem?_cons_zero, List.getElem?_cons_succ, List.length_cons, List.length_nil, cm_eqI, cm_neI, cm_eqS, cm_neS, cm_ltI, cm_leI, cm_gtI, cm_geI, co_eqI, co_neI, co_ltI, co_leI, co_gtI, co_geI, cm_eqB, cm_neB, cm_eqQ, cm_neQ, mkL_t, mkL_f, viewL_l, viewS_l, viewS_t, someE, ik_l, ik_t, ik_r1, ik_r2, ik_rev, ik_enum, ik_zip, bagP_c, true_and, and_true, Bool.not_true, Bool.not_false, if_nil, if_cons, OC.wipeV, List.map_cons, List.map_nil, List.length_map, ex_isb, isb_b, ex_rvs, ex_srtK, ex_mxP, ex_mnK, ex_brw, ex_inT, cm_isn, cm_non, cm_isi, cm_noi, cm_ist, cm_not, cm_isl, cm_nol, cm_iss, cm_nos, cm_iso, cm_noo, cm_isq, cm_noq, bn_E, bn_q2, ik_es, ik_ss, bn_case, bn_S, bi_len_es, bi_len_ss, hcT, take_c, tk 15 rfl, cp50, e50]
  have hv : ∀ xs, viewL (T.put a (.lst xs)) (.ob a) = some xs := fun xs => by
    unfold viewL
    dsimp only
    rw [put_same]
  have n1 := hb.1
  have n2 := hb.2
  have big : 4 * (2 : Nat) ^ 1000 < 2 ^ 1900 := by decide
  refine ⟨_, _, hv _, rfl, by rw [sizeLine_eq]; simp, fun b hb2 => ?_⟩
  try dsimp only
  rw [sq_drop]
  simp only [ex_var, ex_k, ex_bin, ex_cat, ex_neg, ex_cmp, ex_tup, ex_lst, ex_mkbag, ex_ix, ex_ixn, ex_slL, ex_slH, ex_slK, slL_g, ex_call, ex_bi, ex_isD, isi_i, isi_b, isi_s, isi_n, ex_app, ex_ext, ex_pop, ex_rev, ex_pop0, ex_chain, ex_and, ex_or, ex_not, ex_ite, ex_lc, ex_lsOf, ex_tuOf, ex_in, ex_srtI, ex_mnL, ex_mxL, ex_mnD, ex_fld, ex_meth, ex_mk, ex_dic, ex_dget, ex_din, ex_dpop, ex_tab, ex_sit, insD_ob, dicD_i, slT_g, es_nil, es_cons, OC.getV, List.set, bop, augop, ixn_t, ixn_l, ixn_o, ixn_q0, ixn_q1, pkI2, pkI3, pkI4, pkI5, pkI6, pkQ2, pkQ3, pkQ4, pkQ5, pkU2, pkU3, pkU4, pkU5, pkL2, pkL3, pkL4, pkL5, bi_len_l, bi_len_t, bi_len_s, bi_len_x, bi_len_o, bi_abs, bi_max2, bi_min2, bi_max3, bi_sum_l, bi_sum_o, bi_all_l, bi_all_o, bi_any_l, bi_any_o, bi_repr, bi_divmod, bi_int_i, bi_int_b, dtru, bn_name, bn_tup, bns_nil, bns_cons, if_true, if_false, Bool.false_eq_true, List.getElem?_cons_zero, List.getElem?_cons_succ, List.length_cons, List.length_nil, cm_eqI, cm_neI, cm_eqS, cm_neS, cm_ltI, cm_leI, cm_gtI, cm_geI, co_eqI, co_neI, co_ltI, co_leI, co_gtI, co_geI, cm_eqB, cm_neB, cm_eqQ, cm_neQ, mkL_t, mkL_f, viewL_l, viewS_l, viewS_t, someE, ik_l, ik_t, ik_r1, ik_r2, ik_rev, ik_enum, ik_zip, bagP_c, true_and, and_true, Bool.not_true, Bool.not_false, if_nil, if_cons, OC.wipeV, List.map_cons, List.map_nil, List.length_map, ex_isb, isb_b, ex_rvs, ex_srtK, ex_mxP, ex_mnK, ex_brw, ex_inT, cm_isn, cm_non, cm_isi, cm_noi, cm_ist, cm_not, cm_isl, cm_nol, cm_iss, cm_nos, cm_iso, cm_noo, cm_isq, cm_noq, bn_E, bn_q2, ik_es, ik_ss, bn_case, bn_S, bi_len_es, bi_len_ss, hcT, take_c, tk 15 rfl, cp50, e50]
  refine ⟨⟨_, put_same⟩, _, put_same, by simp, ?_⟩
  rw [put_put]
  have hs : ∀ u v : Ob, T.Sub ((T.put a u).put b v) := fun u v => (put_sub ha).trans (put_sub (by
    have ne : b ≠ a := fun e => by rw [e, put_same] at hb2; cases hb2
    rw [put_ne ne] at hb2 ⊢
    exact hb2))
  try dsimp only
  rw [sq_ret]
  simp only [ex_var, ex_k, ex_bin, ex_cat, ex_neg, ex_cmp, ex_tup, ex_lst, ex_mkbag, ex_ix, ex_ixn, ex_slL, ex_slH, ex_slK, slL_g, ex_call, ex_bi, ex_isD, isi_i, isi_b, isi_s, isi_n, ex_app, ex_ext, ex_pop, ex_rev, ex_pop0, ex_chain, ex_and, ex_or, ex_not, ex_ite, ex_lc, ex_lsOf, ex_tuOf, ex_in, ex_srtI, ex_mnL, ex_mxL, ex_mnD, ex_fld, ex_meth, ex_mk, ex_dic, ex_dget, ex_din, ex_dpop, ex_tab, ex_sit, insD_ob, dicD_i, slT_g, es_nil, es_cons, OC.getV, List.set, bop, augop, ixn_t, ixn_l, ixn_o, ixn_q0, ixn_q1, pkI2, pkI3, pkI4, pkI5, pkI6, pkQ2, pkQ3, pkQ4, pkQ5, pkU2, pkU3, pkU4, pkU5, pkL2, pkL3, pkL4, pkL5, bi_len_l, bi_len_t, bi_len_s, bi_len_x, bi_len_o, bi_abs, bi_max2, bi_min2, bi_max3, bi_sum_l, bi_sum_o, bi_all_l, bi_all_o, bi_any_l, bi_any_o, bi_repr, bi_divmod, bi_int_i, bi_int_b, dtru, bn_name, bn_tup, bns_nil, bns_cons, if_true, if_false, Bool.false_eq_true, List.getElem?_cons_zero, List.getElem?_cons_succ, List.length_cons, List.length_nil, cm_eqI, cm_neI, cm_eqS, cm_neS, cm_ltI, cm_leI, cm_gtI, cm_geI, co_eqI, co_neI, co_ltI, co_leI, co_gtI, co_geI, cm_eqB, cm_neB, cm_eqQ, cm_neQ, mkL_t, mkL_f, viewL_l, viewS_l, viewS_t, someE, ik_l, ik_t, ik_r1, ik_r2, ik_rev, ik_enum, ik_zip, bagP_c, true_and, and_true, Bool.not_true, Bool.not_false, if_nil, if_cons, OC.wipeV, List.map_cons, List.map_nil, List.length_map, ex_isb, isb_b, ex_rvs, ex_srtK, ex_mxP, ex_mnK, ex_brw, ex_inT, cm_isn, cm_non, cm_isi, cm_noi, cm_ist, cm_not, cm_isl, cm_nol, cm_iss, cm_nos, cm_iso, cm_noo, cm_isq, cm_noq, bn_E, bn_q2, ik_es, ik_ss, bn_case, bn_S, bi_len_es, bi_len_ss, hcT, take_c, tk 15 rfl]
  intro r r0 r1
  refine pickO (P := Md 1 5) put_same r0 (by simp; omega) (fun d hd => ?_) fun d hd => ⟨T, hs _ _, hq d hd⟩
  simp only [List.cons_append, List.nil_append, List.mem_cons, List.not_mem_nil, or_false] at hd
  have m1 : Md 0 1 (.int q.num) := md_int (by omega)
  have m2 : Md 0 1 (.int q.den) := md_int (by rw [Int.natAbs_natCast]; omega)
  have mc : ∀ i : Int, i.natAbs ≤ 10 ^ 51 → Md 0 1 (.int i) := fun i hi => md_int (Nat.lt_of_le_of_lt hi (by decide))
  rcases hd with rfl | rfl | rfl | rfl | rfl | rfl | rfl | rfl | rfl | rfl | rfl | rfl | rfl | rfl | rfl
  · exact md_t2 (md_int (by omega)) (md_int (by omega))
  · exact md_t2 (md_int (by omega)) m2
  · exact md_t2 (md_int (by omega)) m2
  · exact md_l2 m1 m2
  · exact md_t1 m1
  · exact m1.le (by decide) (by decide)
  · exact md_non.le (n := 0) (by decide) (by decide)
  · exact md_t2 (mc _ (by decide)) (mc _ (by decide))
  · exact md_t2 (mc _ (by decide)) (mc _ (by decide))
  · exact md_t2 (mc _ (by decide)) (mc _ (by decide))
  · exact md_t2 (mc _ (by decide)) (mc _ (by decide))
  · exact md_t2 (mc _ (by decide)) (mc _ (by decide))
  · exact md_t2 md_bl (mc _ (by decide))
  · exact md_t2 (mc _ (by decide)) (mc _ (by decide))
  · exact md_t2 (mc _ (by decide)) (mc _ (by decide))
def changedC : Ct := rle 2 (fun l : List (Rat × Rat) => [.bag, encS l]) (fun l => Bs 1000 l ∧ l.length ≤ 40) (fun d : D => d) fun _ d => Md 5 1000 d
theorem changed_c {T : TS} {Q : QD} {X : XD} {l : List (Rat × Rat)} : changedC.c [.bag, encS l] T Q X = ((Bs 1000 l ∧ l.length ≤ 40) ∧ ∀ d, Md 5 1000 d → Q d T) := rle_c (x := l) fun x y h => by
  simp only [List.cons.injEq, and_true, true_and] at h
  exact encS_inj h
def b_changed7 (cO cT cE : Nat) : List S := [.ite (.op (cmpS .eq) [.var 1, .op (lstS false) []]) [.st retS [.op (callS cO) [.var 0]]] [], .st (parS 2 3) [.op (callS cT) [.var 0, .op (biS .len) [.var 1]], .op (callS cT) [.var 0, .op (kS (.int 9)) []]], .st (unpS (.tup [.name 4, .name 5])) [.op ixS [.var 1, .var 2]], .st (asgS 6) [.op (lstS false) [.op tupS [.op (callS cE) [.var 0, .var 4], .var 5], .op tupS [.var 4, .op (callS cE) [.var 0, .var 5]], .op tupS [.var 5, .var 4], .op (lstS false) [.var 4, .var 5]]], .st (asgS 6) [.op (binS .add) [.var 6, .op (lstS false) [.op tupS [.var 4, .var 5, .var 5], .op tupS [.var 4]]]], .ite (.op (cmpS .lt) [.var 3, .op (kS (.int 6)) []]) [.st retS [.op (binS .add) [.op (binS .add) [.op (slHS (slL false)) [.var 1, .var 2], .op (lstS false) [.op ixS [.var 6, .var 3]]], .op (slLS (slL false)) [.var 1, .op (binS .add) [.var 2, .op (kS (.int 1)) []]]]]] [], .st retS [.op ixS [.op (lstS false) [.op tuOfS [.var 1], .op (binS .add) [.var 1, .op (lstS false) [.op ixS [.var 1, .var 2]]], .op (rvsS false) [.var 1]], .op (binS .sub) [.var 3, .op (kS (.int 6)) []]]]]
theorem changed7_ok {F : List Ct} {cO cT cE : Nat} (hcO : F[cO]? = some oddC) (hcT : F[cT]? = some takeC) (hcE : F[cE]? = some endC) : ∀ ds T Q X, (changedC).c ds T Q X → wpBody F 7 (b_changed7 cO cT cE) ds T Q X := by
  rintro _ T Q X ⟨l, rfl, ⟨hb, hl⟩, hq⟩
  unfold b_changed7
  simp only [wpBody, start0, List.map_cons, List.map_nil, List.length, List.replicate, List.cons_append, List.nil_append, Nat.reduceAdd, Nat.reduceSub]
  try dsimp only
  rw [show encS l = D.lst (l.map encP) from rfl]
  have hpd : ∀ x ∈ l.map encP, Pd 2 x := fun x hx => by
    obtain ⟨p, _, rfl⟩ := List.mem_map.mp hx
    exact pd_P
  try dsimp only
  rw [sq_ite]
  simp only [ex_var, ex_k, ex_bin, ex_cat, ex_neg, ex_cmp, ex_tup, ex_lst, ex_mkbag, ex_ix, ex_ixn, ex_slL, ex_slH, ex_slK, slL_g, ex_call, ex_bi, ex_isD, isi_i, isi_b, isi_s, isi_n, ex_app, ex_ext, ex_pop, ex_rev, ex_pop0, ex_chain, ex_and, ex_or, ex_not, ex_ite, ex_lc, ex_lsOf, ex_tuOf, ex_in, ex_srtI, ex_mnL, ex_mxL, ex_mnD, ex_fld, ex_meth, ex_mk, ex_dic, ex_dget, ex_din, ex_dpop, ex_tab, ex_sit, insD_ob, dicD_i, slT_g, es_nil, es_cons, OC.getV, List.set, bop, augop, ixn_t, ixn_l, ixn_o, ixn_q0, ixn_q1, pkI2, pkI3, pkI4, pkI5, pkI6, pkQ2, pkQ3, pkQ4, pkQ5, pkU2, pkU3, pkU4, pkU5, pkL2, pkL3, pkL4, pkL5, bi_len_l, bi_len_t, bi_len_s, bi_len_x, bi_len_o, bi_abs, bi_max2, bi_min2, bi_max3, bi_sum_l, bi_sum_o, bi_all_l, bi_all_o, bi_any_l, bi_any_o, bi_repr, bi_divmod, bi_int_i, bi_int_b, dtru, bn_name, bn_tup, bns_nil, bns_cons, if_true, if_false, Bool.false_eq_true, List.getElem?_cons_zero, List.getElem?_cons_succ, List.length_cons, List.length_nil, cm_eqI, cm_neI, cm_eqS, cm_neS, cm_ltI, cm_leI, cm_gtI, cm_geI, co_eqI, co_neI, co_ltI, co_leI, co_gtI, co_geI, cm_eqB, cm_neB, cm_eqQ, cm_neQ, mkL_t, mkL_f, viewL_l, viewS_l, viewS_t, someE, ik_l, ik_t, ik_r1, ik_r2, ik_rev, ik_enum, ik_zip, bagP_c, true_and, and_true, Bool.not_true, Bool.not_false, if_nil, if_cons, OC.wipeV, List.map_cons, List.map_nil, List.length_map, ex_isb, isb_b, ex_rvs, ex_srtK, ex_mxP, ex_mnK, ex_brw, ex_inT, cm_isn, cm_non, cm_isi, cm_noi, cm_ist, cm_not, cm_isl, cm_nol, cm_iss, cm_nos, cm_iso, cm_noo, cm_isq, cm_noq, bn_E, bn_q2, ik_es, ik_ss, bn_case, bn_S, bi_len_es, bi_len_ss, hcO, hcT, hcE, oddC, take_c, end_c, tk 9 rfl]
  refine cm_eqN hpd (by decide) ?_
  by_cases hne : l = []
  · subst hne
    simp only [List.map_nil, List.isEmpty_nil, if_true]
    try dsimp only
    rw [sq_ret]
    simp only [ex_var, ex_k, ex_bin, ex_cat, ex_neg, ex_cmp, ex_tup, ex_lst, ex_mkbag, ex_ix, ex_ixn, ex_slL, ex_slH, ex_slK, slL_g, ex_call, ex_bi, ex_isD, isi_i, isi_b, isi_s, isi_n, ex_app, ex_ext, ex_pop, ex_rev, ex_pop0, ex_chain, ex_and, ex_or, ex_not, ex_ite, ex_lc, ex_lsOf, ex_tuOf, ex_in, ex_srtI, ex_mnL, ex_mxL, ex_mnD, ex_fld, ex_meth, ex_mk, ex_dic, ex_dget, ex_din, ex_dpop, ex_tab, ex_sit, insD_ob, dicD_i, slT_g, es_nil, es_cons, OC.getV, List.set, bop, augop, ixn_t, ixn_l, ixn_o, ixn_q0, ixn_q1, pkI2, pkI3, pkI4, pkI5, pkI6, pkQ2, pkQ3, pkQ4, pkQ5, pkU2, pkU3, pkU4, pkU5, pkL2, pkL3, pkL4, pkL5, bi_len_l, bi_len_t, bi_len_s, bi_len_x, bi_len_o, bi_abs, bi_max2, bi_min2, bi_max3, bi_sum_l, bi_sum_o, bi_all_l, bi_all_o, bi_any_l, bi_any_o, bi_repr, bi_divmod, bi_int_i, bi_int_b, dtru, bn_name, bn_tup, bns_nil, bns_cons, if_true, if_false, Bool.false_eq_true, List.getElem?_cons_zero, List.getElem?_cons_succ, List.length_cons, List.length_nil, cm_eqI, cm_neI, cm_eqS, cm_neS, cm_ltI, cm_leI, cm_gtI, cm_geI, co_eqI, co_neI, co_ltI, co_leI, co_gtI, co_geI, cm_eqB, cm_neB, cm_eqQ, cm_neQ, mkL_t, mkL_f, viewL_l, viewS_l, viewS_t, someE, ik_l, ik_t, ik_r1, ik_r2, ik_rev, ik_enum, ik_zip, bagP_c, true_and, and_true, Bool.not_true, Bool.not_false, if_nil, if_cons, OC.wipeV, List.map_cons, List.map_nil, List.length_map, ex_isb, isb_b, ex_rvs, ex_srtK, ex_mxP, ex_mnK, ex_brw, ex_inT, cm_isn, cm_non, cm_isi, cm_noi, cm_ist, cm_not, cm_isl, cm_nol, cm_iss, cm_nos, cm_iso, cm_noo, cm_isq, cm_noq, bn_E, bn_q2, ik_es, ik_ss, bn_case, bn_S, bi_len_es, bi_len_ss, hcO, hcT, hcE, oddC, take_c, end_c, tk 9 rfl]
    exact fun d hd => ret_here (hq d (hd.le (by decide) (by decide)))
  have hlp : 0 < l.length := List.length_pos_iff.mpr hne
  have hie : (l.map encP).isEmpty = false := by cases l <;> first | exact absurd rfl hne | rfl
  rw [hie]
  simp only [Bool.false_eq_true, if_false]
  try dsimp only
  rw [sq_nil]
  simp only [ex_var, ex_k, ex_bin, ex_cat, ex_neg, ex_cmp, ex_tup, ex_lst, ex_mkbag, ex_ix, ex_ixn, ex_slL, ex_slH, ex_slK, slL_g, ex_call, ex_bi, ex_isD, isi_i, isi_b, isi_s, isi_n, ex_app, ex_ext, ex_pop, ex_rev, ex_pop0, ex_chain, ex_and, ex_or, ex_not, ex_ite, ex_lc, ex_lsOf, ex_tuOf, ex_in, ex_srtI, ex_mnL, ex_mxL, ex_mnD, ex_fld, ex_meth, ex_mk, ex_dic, ex_dget, ex_din, ex_dpop, ex_tab, ex_sit, insD_ob, dicD_i, slT_g, es_nil, es_cons, OC.getV, List.set, bop, augop, ixn_t, ixn_l, ixn_o, ixn_q0, ixn_q1, pkI2, pkI3, pkI4, pkI5, pkI6, pkQ2, pkQ3, pkQ4, pkQ5, pkU2, pkU3, pkU4, pkU5, pkL2, pkL3, pkL4, pkL5, bi_len_l, bi_len_t, bi_len_s, bi_len_x, bi_len_o, bi_abs, bi_max2, bi_min2, bi_max3, bi_sum_l, bi_sum_o, bi_all_l, bi_all_o, bi_any_l, bi_any_o, bi_repr, bi_divmod, bi_int_i, bi_int_b, dtru, bn_name, bn_tup, bns_nil, bns_cons, if_true, if_false, Bool.false_eq_true, List.getElem?_cons_zero, List.getElem?_cons_succ, List.length_cons, List.length_nil, cm_eqI, cm_neI, cm_eqS, cm_neS, cm_ltI, cm_leI, cm_gtI, cm_geI, co_eqI, co_neI, co_ltI, co_leI, co_gtI, co_geI, cm_eqB, cm_neB, cm_eqQ, cm_neQ, mkL_t, mkL_f, viewL_l, viewS_l, viewS_t, someE, ik_l, ik_t, ik_r1, ik_r2, ik_rev, ik_enum, ik_zip, bagP_c, true_and, and_true, Bool.not_true, Bool.not_false, if_nil, if_cons, OC.wipeV, List.map_cons, List.map_nil, List.length_map, ex_isb, isb_b, ex_rvs, ex_srtK, ex_mxP, ex_mnK, ex_brw, ex_inT, cm_isn, cm_non, cm_isi, cm_noi, cm_ist, cm_not, cm_isl, cm_nol, cm_iss, cm_nos, cm_iso, cm_noo, cm_isq, cm_noq, bn_E, bn_q2, ik_es, ik_ss, bn_case, bn_S, bi_len_es, bi_len_ss, hcO, hcT, hcE, oddC, take_c, end_c, tk 9 rfl]
  try dsimp only
  rw [sq_par]
  simp only [ex_var, ex_k, ex_bin, ex_cat, ex_neg, ex_cmp, ex_tup, ex_lst, ex_mkbag, ex_ix, ex_ixn, ex_slL, ex_slH, ex_slK, slL_g, ex_call, ex_bi, ex_isD, isi_i, isi_b, isi_s, isi_n, ex_app, ex_ext, ex_pop, ex_rev, ex_pop0, ex_chain, ex_and, ex_or, ex_not, ex_ite, ex_lc, ex_lsOf, ex_tuOf, ex_in, ex_srtI, ex_mnL, ex_mxL, ex_mnD, ex_fld, ex_meth, ex_mk, ex_dic, ex_dget, ex_din, ex_dpop, ex_tab, ex_sit, insD_ob, dicD_i, slT_g, es_nil, es_cons, OC.getV, List.set, bop, augop, ixn_t, ixn_l, ixn_o, ixn_q0, ixn_q1, pkI2, pkI3, pkI4, pkI5, pkI6, pkQ2, pkQ3, pkQ4, pkQ5, pkU2, pkU3, pkU4, pkU5, pkL2, pkL3, pkL4, pkL5, bi_len_l, bi_len_t, bi_len_s, bi_len_x, bi_len_o, bi_abs, bi_max2, bi_min2, bi_max3, bi_sum_l, bi_sum_o, bi_all_l, bi_all_o, bi_any_l, bi_any_o, bi_repr, bi_divmod, bi_int_i, bi_int_b, dtru, bn_name, bn_tup, bns_nil, bns_cons, if_true, if_false, Bool.false_eq_true, List.getElem?_cons_zero, List.getElem?_cons_succ, List.length_cons, List.length_nil, cm_eqI, cm_neI, cm_eqS, cm_neS, cm_ltI, cm_leI, cm_gtI, cm_geI, co_eqI, co_neI, co_ltI, co_leI, co_gtI, co_geI, cm_eqB, cm_neB, cm_eqQ, cm_neQ, mkL_t, mkL_f, viewL_l, viewS_l, viewS_t, someE, ik_l, ik_t, ik_r1, ik_r2, ik_rev, ik_enum, ik_zip, bagP_c, true_and, and_true, Bool.not_true, Bool.not_false, if_nil, if_cons, OC.wipeV, List.map_cons, List.map_nil, List.length_map, ex_isb, isb_b, ex_rvs, ex_srtK, ex_mxP, ex_mnK, ex_brw, ex_inT, cm_isn, cm_non, cm_isi, cm_noi, cm_ist, cm_not, cm_isl, cm_nol, cm_iss, cm_nos, cm_iso, cm_noo, cm_isq, cm_noq, bn_E, bn_q2, ik_es, ik_ss, bn_case, bn_S, bi_len_es, bi_len_ss, hcO, hcT, hcE, oddC, take_c, end_c, tk 9 rfl]
  refine ⟨tk_of (by omega) (by omega), fun r r0 r1 w w0 w1 => ?_⟩
  try dsimp only
  rw [sq_unp]
  simp only [ex_var, ex_k, ex_bin, ex_cat, ex_neg, ex_cmp, ex_tup, ex_lst, ex_mkbag, ex_ix, ex_ixn, ex_slL, ex_slH, ex_slK, slL_g, ex_call, ex_bi, ex_isD, isi_i, isi_b, isi_s, isi_n, ex_app, ex_ext, ex_pop, ex_rev, ex_pop0, ex_chain, ex_and, ex_or, ex_not, ex_ite, ex_lc, ex_lsOf, ex_tuOf, ex_in, ex_srtI, ex_mnL, ex_mxL, ex_mnD, ex_fld, ex_meth, ex_mk, ex_dic, ex_dget, ex_din, ex_dpop, ex_tab, ex_sit, insD_ob, dicD_i, slT_g, es_nil, es_cons, OC.getV, List.set, bop, augop, ixn_t, ixn_l, ixn_o, ixn_q0, ixn_q1, pkI2, pkI3, pkI4, pkI5, pkI6, pkQ2, pkQ3, pkQ4, pkQ5, pkU2, pkU3, pkU4, pkU5, pkL2, pkL3, pkL4, pkL5, bi_len_l, bi_len_t, bi_len_s, bi_len_x, bi_len_o, bi_abs, bi_max2, bi_min2, bi_max3, bi_sum_l, bi_sum_o, bi_all_l, bi_all_o, bi_any_l, bi_any_o, bi_repr, bi_divmod, bi_int_i, bi_int_b, dtru, bn_name, bn_tup, bns_nil, bns_cons, if_true, if_false, Bool.false_eq_true, List.getElem?_cons_zero, List.getElem?_cons_succ, List.length_cons, List.length_nil, cm_eqI, cm_neI, cm_eqS, cm_neS, cm_ltI, cm_leI, cm_gtI, cm_geI, co_eqI, co_neI, co_ltI, co_leI, co_gtI, co_geI, cm_eqB, cm_neB, cm_eqQ, cm_neQ, mkL_t, mkL_f, viewL_l, viewS_l, viewS_t, someE, ik_l, ik_t, ik_r1, ik_r2, ik_rev, ik_enum, ik_zip, bagP_c, true_and, and_true, Bool.not_true, Bool.not_false, if_nil, if_cons, OC.wipeV, List.map_cons, List.map_nil, List.length_map, ex_isb, isb_b, ex_rvs, ex_srtK, ex_mxP, ex_mnK, ex_brw, ex_inT, cm_isn, cm_non, cm_isi, cm_noi, cm_ist, cm_not, cm_isl, cm_nol, cm_iss, cm_nos, cm_iso, cm_noo, cm_isq, cm_noq, bn_E, bn_q2, ik_es, ik_ss, bn_case, bn_S, bi_len_es, bi_len_ss, hcO, hcT, hcE, oddC, take_c, end_c, tk 9 rfl]
  have hP : ∀ d ∈ l.map encP, ∃ p ∈ l, d = encP p := fun d hd => by
    obtain ⟨p, hp, rfl⟩ := List.mem_map.mp hd
    exact ⟨p, hp, rfl⟩
  refine pickD (P := fun d => ∃ p ∈ l, d = encP p) r0 (by rw [List.length_map]; exact r1) hP ?_
  rintro _ ⟨⟨x, y⟩, hxy, rfl⟩
  have hx := (hb _ hxy).1
  have hy := (hb _ hxy).2
  dsimp only at hx hy
  rw [show encP (x, y) = D.tup [encQ x, encQ y] from rfl]
  try simp only [ex_var, ex_k, ex_bin, ex_cat, ex_neg, ex_cmp, ex_tup, ex_lst, ex_mkbag, ex_ix, ex_ixn, ex_slL, ex_slH, ex_slK, slL_g, ex_call, ex_bi, ex_isD, isi_i, isi_b, isi_s, isi_n, ex_app, ex_ext, ex_pop, ex_rev, ex_pop0, ex_chain, ex_and, ex_or, ex_not, ex_ite, ex_lc, ex_lsOf, ex_tuOf, ex_in, ex_srtI, ex_mnL, ex_mxL, ex_mnD, ex_fld, ex_meth, ex_mk, ex_dic, ex_dget, ex_din, ex_dpop, ex_tab, ex_sit, insD_ob, dicD_i, slT_g, es_nil, es_cons, OC.getV, List.set, bop, augop, ixn_t, ixn_l, ixn_o, ixn_q0, ixn_q1, pkI2, pkI3, pkI4, pkI5, pkI6, pkQ2, pkQ3, pkQ4, pkQ5, pkU2, pkU3, pkU4, pkU5, pkL2, pkL3, pkL4, pkL5, bi_len_l, bi_len_t, bi_len_s, bi_len_x, bi_len_o, bi_abs, bi_max2, bi_min2, bi_max3, bi_sum_l, bi_sum_o, bi_all_l, bi_all_o, bi_any_l, bi_any_o, bi_repr, bi_divmod, bi_int_i, bi_int_b, dtru, bn_name, bn_tup, bns_nil, bns_cons, if_true, if_false, Bool.false_eq_true, List.getElem?_cons_zero, List.getElem?_cons_succ, List.length_cons, List.length_nil, cm_eqI, cm_neI, cm_eqS, cm_neS, cm_ltI, cm_leI, cm_gtI, cm_geI, co_eqI, co_neI, co_ltI, co_leI, co_gtI, co_geI, cm_eqB, cm_neB, cm_eqQ, cm_neQ, mkL_t, mkL_f, viewL_l, viewS_l, viewS_t, someE, ik_l, ik_t, ik_r1, ik_r2, ik_rev, ik_enum, ik_zip, bagP_c, true_and, and_true, Bool.not_true, Bool.not_false, if_nil, if_cons, OC.wipeV, List.map_cons, List.map_nil, List.length_map, ex_isb, isb_b, ex_rvs, ex_srtK, ex_mxP, ex_mnK, ex_brw, ex_inT, cm_isn, cm_non, cm_isi, cm_noi, cm_ist, cm_not, cm_isl, cm_nol, cm_iss, cm_nos, cm_iso, cm_noo, cm_isq, cm_noq, bn_E, bn_q2, ik_es, ik_ss, bn_case, bn_S, bi_len_es, bi_len_ss, hcO, hcT, hcE, oddC, take_c, end_c, tk 9 rfl]
  try dsimp only
  rw [sq_asg]
  simp only [ex_var, ex_k, ex_bin, ex_cat, ex_neg, ex_cmp, ex_tup, ex_lst, ex_mkbag, ex_ix, ex_ixn, ex_slL, ex_slH, ex_slK, slL_g, ex_call, ex_bi, ex_isD, isi_i, isi_b, isi_s, isi_n, ex_app, ex_ext, ex_pop, ex_rev, ex_pop0, ex_chain, ex_and, ex_or, ex_not, ex_ite, ex_lc, ex_lsOf, ex_tuOf, ex_in, ex_srtI, ex_mnL, ex_mxL, ex_mnD, ex_fld, ex_meth, ex_mk, ex_dic, ex_dget, ex_din, ex_dpop, ex_tab, ex_sit, insD_ob, dicD_i, slT_g, es_nil, es_cons, OC.getV, List.set, bop, augop, ixn_t, ixn_l, ixn_o, ixn_q0, ixn_q1, pkI2, pkI3, pkI4, pkI5, pkI6, pkQ2, pkQ3, pkQ4, pkQ5, pkU2, pkU3, pkU4, pkU5, pkL2, pkL3, pkL4, pkL5, bi_len_l, bi_len_t, bi_len_s, bi_len_x, bi_len_o, bi_abs, bi_max2, bi_min2, bi_max3, bi_sum_l, bi_sum_o, bi_all_l, bi_all_o, bi_any_l, bi_any_o, bi_repr, bi_divmod, bi_int_i, bi_int_b, dtru, bn_name, bn_tup, bns_nil, bns_cons, if_true, if_false, Bool.false_eq_true, List.getElem?_cons_zero, List.getElem?_cons_succ, List.length_cons, List.length_nil, cm_eqI, cm_neI, cm_eqS, cm_neS, cm_ltI, cm_leI, cm_gtI, cm_geI, co_eqI, co_neI, co_ltI, co_leI, co_gtI, co_geI, cm_eqB, cm_neB, cm_eqQ, cm_neQ, mkL_t, mkL_f, viewL_l, viewS_l, viewS_t, someE, ik_l, ik_t, ik_r1, ik_r2, ik_rev, ik_enum, ik_zip, bagP_c, true_and, and_true, Bool.not_true, Bool.not_false, if_nil, if_cons, OC.wipeV, List.map_cons, List.map_nil, List.length_map, ex_isb, isb_b, ex_rvs, ex_srtK, ex_mxP, ex_mnK, ex_brw, ex_inT, cm_isn, cm_non, cm_isi, cm_noi, cm_ist, cm_not, cm_isl, cm_nol, cm_iss, cm_nos, cm_iso, cm_noo, cm_isq, cm_noq, bn_E, bn_q2, ik_es, ik_ss, bn_case, bn_S, bi_len_es, bi_len_ss, hcO, hcT, hcE, oddC, take_c, end_c, tk 9 rfl]
  refine ⟨hx, fun d1 h1 => ⟨hy, fun d2 h2 => ?_⟩⟩
  try dsimp only
  rw [sq_asg]
  simp only [ex_var, ex_k, ex_bin, ex_cat, ex_neg, ex_cmp, ex_tup, ex_lst, ex_mkbag, ex_ix, ex_ixn, ex_slL, ex_slH, ex_slK, slL_g, ex_call, ex_bi, ex_isD, isi_i, isi_b, isi_s, isi_n, ex_app, ex_ext, ex_pop, ex_rev, ex_pop0, ex_chain, ex_and, ex_or, ex_not, ex_ite, ex_lc, ex_lsOf, ex_tuOf, ex_in, ex_srtI, ex_mnL, ex_mxL, ex_mnD, ex_fld, ex_meth, ex_mk, ex_dic, ex_dget, ex_din, ex_dpop, ex_tab, ex_sit, insD_ob, dicD_i, slT_g, es_nil, es_cons, OC.getV, List.set, bop, augop, ixn_t, ixn_l, ixn_o, ixn_q0, ixn_q1, pkI2, pkI3, pkI4, pkI5, pkI6, pkQ2, pkQ3, pkQ4, pkQ5, pkU2, pkU3, pkU4, pkU5, pkL2, pkL3, pkL4, pkL5, bi_len_l, bi_len_t, bi_len_s, bi_len_x, bi_len_o, bi_abs, bi_max2, bi_min2, bi_max3, bi_sum_l, bi_sum_o, bi_all_l, bi_all_o, bi_any_l, bi_any_o, bi_repr, bi_divmod, bi_int_i, bi_int_b, dtru, bn_name, bn_tup, bns_nil, bns_cons, if_true, if_false, Bool.false_eq_true, List.getElem?_cons_zero, List.getElem?_cons_succ, List.length_cons, List.length_nil, cm_eqI, cm_neI, cm_eqS, cm_neS, cm_ltI, cm_leI, cm_gtI, cm_geI, co_eqI, co_neI, co_ltI, co_leI, co_gtI, co_geI, cm_eqB, cm_neB, cm_eqQ, cm_neQ, mkL_t, mkL_f, viewL_l, viewS_l, viewS_t, someE, ik_l, ik_t, ik_r1, ik_r2, ik_rev, ik_enum, ik_zip, bagP_c, true_and, and_true, Bool.not_true, Bool.not_false, if_nil, if_cons, OC.wipeV, List.map_cons, List.map_nil, List.length_map, ex_isb, isb_b, ex_rvs, ex_srtK, ex_mxP, ex_mnK, ex_brw, ex_inT, cm_isn, cm_non, cm_isi, cm_noi, cm_ist, cm_not, cm_isl, cm_nol, cm_iss, cm_nos, cm_iso, cm_noo, cm_isq, cm_noq, bn_E, bn_q2, ik_es, ik_ss, bn_case, bn_S, bi_len_es, bi_len_ss, hcO, hcT, hcE, oddC, take_c, end_c, tk 9 rfl]
  refine ⟨by rw [sizeLine_eq]; decide, ?_⟩
  have mx : Md 1 5 (encQ x) := (md_Q hx).le (Nat.le_refl _) (by decide)
  have my : Md 1 5 (encQ y) := (md_Q hy).le (Nat.le_refl _) (by decide)
  have hW : ∀ d ∈ ([D.tup [d1, encQ y], D.tup [encQ x, d2], D.tup [encQ y, encQ x], D.lst [encQ x, encQ y]] ++ [D.tup [encQ x, encQ y, encQ y], D.tup [encQ x]]), Md 2 16 d := fun d hd => by
    simp only [List.cons_append, List.nil_append, List.mem_cons, List.not_mem_nil, or_false] at hd
    rcases hd with rfl | rfl | rfl | rfl | rfl | rfl
    · exact Md.tup (k := 5) (fun z hz => by
        simp only [List.mem_cons, List.not_mem_nil, or_false] at hz
        rcases hz with rfl | rfl <;> assumption) (show 1 + 5 * 2 ≤ 16 by decide)
    · exact Md.tup (k := 5) (fun z hz => by
        simp only [List.mem_cons, List.not_mem_nil, or_false] at hz
        rcases hz with rfl | rfl <;> assumption) (show 1 + 5 * 2 ≤ 16 by decide)
    · exact Md.tup (k := 5) (fun z hz => by
        simp only [List.mem_cons, List.not_mem_nil, or_false] at hz
        rcases hz with rfl | rfl <;> assumption) (show 1 + 5 * 2 ≤ 16 by decide)
    · exact Md.lst (k := 5) (fun z hz => by
        simp only [List.mem_cons, List.not_mem_nil, or_false] at hz
        rcases hz with rfl | rfl <;> assumption) (show 1 + 5 * 2 ≤ 16 by decide)
    · exact Md.tup (k := 5) (fun z hz => by
        simp only [List.mem_cons, List.not_mem_nil, or_false] at hz
        rcases hz with rfl | rfl | rfl <;> assumption) (show 1 + 5 * 3 ≤ 16 by decide)
    · exact Md.tup (k := 5) (fun z hz => by
        simp only [List.mem_cons, List.not_mem_nil, or_false] at hz
        rcases hz with rfl
        assumption) (show 1 + 5 * 1 ≤ 16 by decide)
  have hWl : ([D.tup [d1, encQ y], D.tup [encQ x, d2], D.tup [encQ y, encQ x], D.lst [encQ x, encQ y]] ++ [D.tup [encQ x, encQ y, encQ y], D.tup [encQ x]]).length = 6 := by simp
  generalize ([D.tup [d1, encQ y], D.tup [encQ x, d2], D.tup [encQ y, encQ x], D.lst [encQ x, encQ y]] ++ [D.tup [encQ x, encQ y, encQ y], D.tup [encQ x]]) = W at hW hWl ⊢
  have hlm : ∀ d ∈ l.map encP, Md 2 16 d := fun d hd => by
    obtain ⟨p, hp, rfl⟩ := List.mem_map.mp hd
    exact (md_P (hb p hp)).le (by decide) (by decide)
  try dsimp only
  rw [sq_ite]
  simp only [ex_var, ex_k, ex_bin, ex_cat, ex_neg, ex_cmp, ex_tup, ex_lst, ex_mkbag, ex_ix, ex_ixn, ex_slL, ex_slH, ex_slK, slL_g, ex_call, ex_bi, ex_isD, isi_i, isi_b, isi_s, isi_n, ex_app, ex_ext, ex_pop, ex_rev, ex_pop0, ex_chain, ex_and, ex_or, ex_not, ex_ite, ex_lc, ex_lsOf, ex_tuOf, ex_in, ex_srtI, ex_mnL, ex_mxL, ex_mnD, ex_fld, ex_meth, ex_mk, ex_dic, ex_dget, ex_din, ex_dpop, ex_tab, ex_sit, insD_ob, dicD_i, slT_g, es_nil, es_cons, OC.getV, List.set, bop, augop, ixn_t, ixn_l, ixn_o, ixn_q0, ixn_q1, pkI2, pkI3, pkI4, pkI5, pkI6, pkQ2, pkQ3, pkQ4, pkQ5, pkU2, pkU3, pkU4, pkU5, pkL2, pkL3, pkL4, pkL5, bi_len_l, bi_len_t, bi_len_s, bi_len_x, bi_len_o, bi_abs, bi_max2, bi_min2, bi_max3, bi_sum_l, bi_sum_o, bi_all_l, bi_all_o, bi_any_l, bi_any_o, bi_repr, bi_divmod, bi_int_i, bi_int_b, dtru, bn_name, bn_tup, bns_nil, bns_cons, if_true, if_false, Bool.false_eq_true, List.getElem?_cons_zero, List.getElem?_cons_succ, List.length_cons, List.length_nil, cm_eqI, cm_neI, cm_eqS, cm_neS, cm_ltI, cm_leI, cm_gtI, cm_geI, co_eqI, co_neI, co_ltI, co_leI, co_gtI, co_geI, cm_eqB, cm_neB, cm_eqQ, cm_neQ, mkL_t, mkL_f, viewL_l, viewS_l, viewS_t, someE, ik_l, ik_t, ik_r1, ik_r2, ik_rev, ik_enum, ik_zip, bagP_c, true_and, and_true, Bool.not_true, Bool.not_false, if_nil, if_cons, OC.wipeV, List.map_cons, List.map_nil, List.length_map, ex_isb, isb_b, ex_rvs, ex_srtK, ex_mxP, ex_mnK, ex_brw, ex_inT, cm_isn, cm_non, cm_isi, cm_noi, cm_ist, cm_not, cm_isl, cm_nol, cm_iss, cm_nos, cm_iso, cm_noo, cm_isq, cm_noq, bn_E, bn_q2, ik_es, ik_ss, bn_case, bn_S, bi_len_es, bi_len_ss, hcO, hcT, hcE, oddC, take_c, end_c, tk 9 rfl]
  by_cases c : w < 6
  · rw [if_pos (decide_eq_true c)]
    try dsimp only
    rw [sq_ret]
    simp only [ex_var, ex_k, ex_bin, ex_cat, ex_neg, ex_cmp, ex_tup, ex_lst, ex_mkbag, ex_ix, ex_ixn, ex_slL, ex_slH, ex_slK, slL_g, ex_call, ex_bi, ex_isD, isi_i, isi_b, isi_s, isi_n, ex_app, ex_ext, ex_pop, ex_rev, ex_pop0, ex_chain, ex_and, ex_or, ex_not, ex_ite, ex_lc, ex_lsOf, ex_tuOf, ex_in, ex_srtI, ex_mnL, ex_mxL, ex_mnD, ex_fld, ex_meth, ex_mk, ex_dic, ex_dget, ex_din, ex_dpop, ex_tab, ex_sit, insD_ob, dicD_i, slT_g, es_nil, es_cons, OC.getV, List.set, bop, augop, ixn_t, ixn_l, ixn_o, ixn_q0, ixn_q1, pkI2, pkI3, pkI4, pkI5, pkI6, pkQ2, pkQ3, pkQ4, pkQ5, pkU2, pkU3, pkU4, pkU5, pkL2, pkL3, pkL4, pkL5, bi_len_l, bi_len_t, bi_len_s, bi_len_x, bi_len_o, bi_abs, bi_max2, bi_min2, bi_max3, bi_sum_l, bi_sum_o, bi_all_l, bi_all_o, bi_any_l, bi_any_o, bi_repr, bi_divmod, bi_int_i, bi_int_b, dtru, bn_name, bn_tup, bns_nil, bns_cons, if_true, if_false, Bool.false_eq_true, List.getElem?_cons_zero, List.getElem?_cons_succ, List.length_cons, List.length_nil, cm_eqI, cm_neI, cm_eqS, cm_neS, cm_ltI, cm_leI, cm_gtI, cm_geI, co_eqI, co_neI, co_ltI, co_leI, co_gtI, co_geI, cm_eqB, cm_neB, cm_eqQ, cm_neQ, mkL_t, mkL_f, viewL_l, viewS_l, viewS_t, someE, ik_l, ik_t, ik_r1, ik_r2, ik_rev, ik_enum, ik_zip, bagP_c, true_and, and_true, Bool.not_true, Bool.not_false, if_nil, if_cons, OC.wipeV, List.map_cons, List.map_nil, List.length_map, ex_isb, isb_b, ex_rvs, ex_srtK, ex_mxP, ex_mnK, ex_brw, ex_inT, cm_isn, cm_non, cm_isi, cm_noi, cm_ist, cm_not, cm_isl, cm_nol, cm_iss, cm_nos, cm_iso, cm_noo, cm_isq, cm_noq, bn_E, bn_q2, ik_es, ik_ss, bn_case, bn_S, bi_len_es, bi_len_ss, hcO, hcT, hcE, oddC, take_c, end_c, tk 9 rfl]
    refine pickD (P := Md 2 16) w0 (by omega) hW fun d hd => ?_
    rw [cutD_hi r0, cutD_lo (by omega)]
    refine ⟨by rw [List.length_take, List.length_map, sizeLine_eq]; omega, by rw [List.length_append, List.length_take, List.length_drop, List.length_map, sizeLine_eq]; simp; omega, ret_here (hq _ ((Md.lst (n := 2) (k := 16) (j := 1000) (fun z hz => ?_) ?_).le (by decide) (Nat.le_refl _)))⟩
    · rcases List.mem_append.mp hz with hz | hz
      · rcases List.mem_append.mp hz with hz | hz
        · exact hlm z (List.mem_of_mem_take hz)
        · cases List.mem_singleton.mp hz
          exact hd
      · exact hlm z (List.mem_of_mem_drop hz)
    · rw [List.length_append, List.length_append, List.length_take, List.length_drop, List.length_map, List.length_singleton]
      omega
  · rw [if_neg (by rw [decide_eq_true_eq]; exact c)]
    try dsimp only
    rw [sq_nil]
    simp only [ex_var, ex_k, ex_bin, ex_cat, ex_neg, ex_cmp, ex_tup, ex_lst, ex_mkbag, ex_ix, ex_ixn, ex_slL, ex_slH, ex_slK, slL_g, ex_call, ex_bi, ex_isD, isi_i, isi_b, isi_s, isi_n, ex_app, ex_ext, ex_pop, ex_rev, ex_pop0, ex_chain, ex_and, ex_or, ex_not, ex_ite, ex_lc, ex_lsOf, ex_tuOf, ex_in, ex_srtI, ex_mnL, ex_mxL, ex_mnD, ex_fld, ex_meth, ex_mk, ex_dic, ex_dget, ex_din, ex_dpop, ex_tab, ex_sit, insD_ob, dicD_i, slT_g, es_nil, es_cons, OC.getV, List.set, bop, augop, ixn_t, ixn_l, ixn_o, ixn_q0, ixn_q1, pkI2, pkI3, pkI4, pkI5, pkI6, pkQ2, pkQ3, pkQ4, pkQ5, pkU2, pkU3, pkU4, pkU5, pkL2, pkL3, pkL4, pkL5, bi_len_l, bi_len_t, bi_len_s, bi_len_x, bi_len_o, bi_abs, bi_max2, bi_min2, bi_max3, bi_sum_l, bi_sum_o, bi_all_l, bi_all_o, bi_any_l, bi_any_o, bi_repr, bi_divmod, bi_int_i, bi_int_b, dtru, bn_name, bn_tup, bns_nil, bns_cons, if_true, if_false, Bool.false_eq_true, List.getElem?_cons_zero, List.getElem?_cons_succ, List.length_cons, List.length_nil, cm_eqI, cm_neI, cm_eqS, cm_neS, cm_ltI, cm_leI, cm_gtI, cm_geI, co_eqI, co_neI, co_ltI, co_leI, co_gtI, co_geI, cm_eqB, cm_neB, cm_eqQ, cm_neQ, mkL_t, mkL_f, viewL_l, viewS_l, viewS_t, someE, ik_l, ik_t, ik_r1, ik_r2, ik_rev, ik_enum, ik_zip, bagP_c, true_and, and_true, Bool.not_true, Bool.not_false, if_nil, if_cons, OC.wipeV, List.map_cons, List.map_nil, List.length_map, ex_isb, isb_b, ex_rvs, ex_srtK, ex_mxP, ex_mnK, ex_brw, ex_inT, cm_isn, cm_non, cm_isi, cm_noi, cm_ist, cm_not, cm_isl, cm_nol, cm_iss, cm_nos, cm_iso, cm_noo, cm_isq, cm_noq, bn_E, bn_q2, ik_es, ik_ss, bn_case, bn_S, bi_len_es, bi_len_ss, hcO, hcT, hcE, oddC, take_c, end_c, tk 9 rfl]
    try dsimp only
    rw [sq_ret]
    simp only [ex_var, ex_k, ex_bin, ex_cat, ex_neg, ex_cmp, ex_tup, ex_lst, ex_mkbag, ex_ix, ex_ixn, ex_slL, ex_slH, ex_slK, slL_g, ex_call, ex_bi, ex_isD, isi_i, isi_b, isi_s, isi_n, ex_app, ex_ext, ex_pop, ex_rev, ex_pop0, ex_chain, ex_and, ex_or, ex_not, ex_ite, ex_lc, ex_lsOf, ex_tuOf, ex_in, ex_srtI, ex_mnL, ex_mxL, ex_mnD, ex_fld, ex_meth, ex_mk, ex_dic, ex_dget, ex_din, ex_dpop, ex_tab, ex_sit, insD_ob, dicD_i, slT_g, es_nil, es_cons, OC.getV, List.set, bop, augop, ixn_t, ixn_l, ixn_o, ixn_q0, ixn_q1, pkI2, pkI3, pkI4, pkI5, pkI6, pkQ2, pkQ3, pkQ4, pkQ5, pkU2, pkU3, pkU4, pkU5, pkL2, pkL3, pkL4, pkL5, bi_len_l, bi_len_t, bi_len_s, bi_len_x, bi_len_o, bi_abs, bi_max2, bi_min2, bi_max3, bi_sum_l, bi_sum_o, bi_all_l, bi_all_o, bi_any_l, bi_any_o, bi_repr, bi_divmod, bi_int_i, bi_int_b, dtru, bn_name, bn_tup, bns_nil, bns_cons, if_true, if_false, Bool.false_eq_true, List.getElem?_cons_zero, List.getElem?_cons_succ, List.length_cons, List.length_nil, cm_eqI, cm_neI, cm_eqS, cm_neS, cm_ltI, cm_leI, cm_gtI, cm_geI, co_eqI, co_neI, co_ltI, co_leI, co_gtI, co_geI, cm_eqB, cm_neB, cm_eqQ, cm_neQ, mkL_t, mkL_f, viewL_l, viewS_l, viewS_t, someE, ik_l, ik_t, ik_r1, ik_r2, ik_rev, ik_enum, ik_zip, bagP_c, true_and, and_true, Bool.not_true, Bool.not_false, if_nil, if_cons, OC.wipeV, List.map_cons, List.map_nil, List.length_map, ex_isb, isb_b, ex_rvs, ex_srtK, ex_mxP, ex_mnK, ex_brw, ex_inT, cm_isn, cm_non, cm_isi, cm_noi, cm_ist, cm_not, cm_isl, cm_nol, cm_iss, cm_nos, cm_iso, cm_noo, cm_isq, cm_noq, bn_E, bn_q2, ik_es, ik_ss, bn_case, bn_S, bi_len_es, bi_len_ss, hcO, hcT, hcE, oddC, take_c, end_c, tk 9 rfl]
    refine pickD (P := Md 2 16) r0 (by rw [List.length_map]; exact r1) hlm fun d hd => ?_
    refine ⟨by rw [sizeLine_eq]; omega, pickD (P := Md 5 1000) (by omega) (by simp; omega) (fun z hz => ?_) fun z hz => ret_here (hq z hz)⟩
    simp only [List.mem_cons, List.not_mem_nil, or_false] at hz
    rcases hz with rfl | rfl | rfl
    · exact (Md.tup (n := 2) (k := 16) (j := 1000) hlm (by rw [List.length_map]; omega)).le (by decide) (Nat.le_refl _)
    · exact (Md.lst (n := 2) (k := 16) (j := 1000) (fun z hz => by
        rcases List.mem_append.mp hz with hz | hz
        · exact hlm z hz
        · cases List.mem_singleton.mp hz
          exact hd) (by rw [List.length_append, List.length_map, List.length_singleton]; omega)).le (by decide) (Nat.le_refl _)
    · exact (Md.lst (n := 2) (k := 16) (j := 1000) (fun z hz => hlm z (List.mem_reverse.mp hz)) (by rw [List.length_reverse, List.length_map]; omega)).le (by decide) (Nat.le_refl _)
theorem md_c0 : Md 10 4000 (.lst []) := ⟨by simp [ShowI], by decide +kernel⟩
theorem md_c1 : Md 10 4000 (.lst [.tup [.tup [.int 0, .int 1], .tup [.int 1, .int 1]]]) := ⟨by simp [ShowI], by decide +kernel⟩
theorem md_c2 : Md 10 4000 (.lst [.tup [.tup [.int 0, .int 1], .tup [.int 1, .int 2]], .tup [.tup [.int 1, .int 2], .tup [.int 1, .int 1]]]) := ⟨by simp [ShowI], by decide +kernel⟩
theorem cuts_0 : CutsD (.lst []) := ⟨[], rfl, (fun p hp => nomatch hp), List.Pairwise.nil⟩
theorem cuts_1 : CutsD (.lst [.tup [.tup [.int 0, .int 1], .tup [.int 1, .int 1]]]) := ⟨[(0, 1)], rfl, (fun p hp => by cases List.mem_singleton.mp hp; decide +kernel), List.pairwise_singleton _ _⟩
theorem cuts_2 : ¬ CutsD (.lst [.tup [.tup [.int 0, .int 1], .tup [.int 1, .int 2]], .tup [.tup [.int 1, .int 2], .tup [.int 1, .int 1]]]) := by
  rintro ⟨l, e, hc⟩
  have e2 : encS [(0, mkRat 1 2), (mkRat 1 2, 1)] = encS l := e
  cases encS_inj e2
  have := (List.pairwise_cons.mp hc.2).1 _ List.mem_cons_self
  exact absurd this (by decide +kernel)
def b_law07 (ν : Nat → Str) (b g f u i c o s : Nat) : List S := [.forS (.name 1) rng1I [.op (biS .max) [.op (kS (.int 2)) [], .op (biS .min) [.op (kS (.int 8)) [], .op (biS .len) [.var 0]]]] [.st (asgS 2) [.op (callS b) [.var 0, .var 1]], .forS (.name 3) rng1I [.op (kS (.int 8)) []] [.st (asgS 4) [.op (callS g) [.var 2]], .st (asgS 5) [.op (callS f) [.op (callS u) [.var 2, .var 4], .var 4]], .ite (.op (isbS false) [.op (callS i) [.var 5], .op (kS (.bl true)) []]) [.st retS [.op (kS (.bl false)) []]] [], .forS (.name 6) lstI [.op (lstS false) [.op (callS c) [.var 2, .var 5], .op (callS c) [.var 2, .var 5], .op (callS o) [.var 2], .op (lstS false) [.op (callS o) [.var 2]]]] [.st (asgS 7) [.op (biS .repr) [.var 6]], .ite (.op (cmpS .ne) [.op (biS .repr) [.lc false (.op (callS i) [.var 6]) (.name 8) rng1I [.op (kS (.int 2)) []] [] [(ν 8, 8)]], .op (biS .repr) [.op (binS .mul) [.op (lstS false) [.op (callS s) [.var 6]], .op (kS (.int 2)) []]]]) [.st retS [.op (kS (.bl false)) []]] [], .ite (.op (cmpS .ne) [.op (biS .repr) [.var 6], .var 7]) [.st retS [.op (kS (.bl false)) []]] []]]], .st retS [.andv (.op (callS i) [.op (lstS false) []]) (.andv (.op (callS i) [.op (lstS false) [.op tupS [.op tupS [.op (kS (.int 0)) [], .op (kS (.int 1)) []], .op tupS [.op (kS (.int 1)) [], .op (kS (.int 1)) []]]]]) (.notv (.op (callS i) [.op (lstS false) [.op tupS [.op tupS [.op (kS (.int 0)) [], .op (kS (.int 1)) []], .op tupS [.op (kS (.int 1)) [], .op (kS (.int 2)) []]], .op tupS [.op tupS [.op (kS (.int 1)) [], .op (kS (.int 2)) []], .op tupS [.op (kS (.int 1)) [], .op (kS (.int 1)) []]]]])))]]
theorem law07_ok {F : List Ct} {ν : Nat → Str} {b g f u i c o s : Nat} (hb : F[b]? = some bagC) (hg : F[g]? = some grainC) (hf : F[f]? = some formC) (hu : F[u]? = some unitsC) (hi : F[i]? = some iscutsC) (hc : F[c]? = some changedC) (ho : F[o]? = some oddC) (hs : F[s]? = some cutsLC) : ∀ ds T Q X, (lawC).c ds T Q X → wpBody F 9 (b_law07 ν b g f u i c o s) ds T Q X := by
  rintro _ T Q X ⟨ns, rfl, hns, hq⟩
  unfold b_law07
  simp only [wpBody, start0, List.map_cons, List.map_nil, List.length, List.replicate, List.cons_append, List.nil_append, Nat.reduceAdd, Nat.reduceSub]
  try dsimp only
  refine outer 6 hb (by decide) (by decide) (by decide) (by decide) rfl (fun k G nx hG hnx => ?_) fun G p q hG => ?_
  · refine inner (fun G1 => ∃ k G2, G1 = some (.scr ns) :: k :: some .bag :: G2 ∧ G2.length = 6) (by decide) (by decide) ⟨_, _, rfl, hG⟩ (fun G1 j nx2 hG1 _ _ hnx2 => ?_) fun G1 hG1 => ?_
    · obtain ⟨k1, G2, rfl, hlen⟩ := hG1
      obtain ⟨g1, g2, g3, g4, g5, g6, rfl⟩ : ∃ a b c d e f, G2 = [a, b, c, d, e, f] := by
        match G2, hlen with
        | [a, b, c, d, e, f], _ => exact ⟨a, b, c, d, e, f, rfl⟩
      try dsimp only
      rw [sq_asg]
      simp only [ex_var, ex_k, ex_bin, ex_cat, ex_neg, ex_cmp, ex_tup, ex_lst, ex_mkbag, ex_ix, ex_ixn, ex_slL, ex_slH, ex_slK, slL_g, ex_call, ex_bi, ex_isD, isi_i, isi_b, isi_s, isi_n, ex_app, ex_ext, ex_pop, ex_rev, ex_pop0, ex_chain, ex_and, ex_or, ex_not, ex_ite, ex_lc, ex_lsOf, ex_tuOf, ex_in, ex_srtI, ex_mnL, ex_mxL, ex_mnD, ex_fld, ex_meth, ex_mk, ex_dic, ex_dget, ex_din, ex_dpop, ex_tab, ex_sit, insD_ob, dicD_i, slT_g, es_nil, es_cons, OC.getV, List.set, bop, augop, ixn_t, ixn_l, ixn_o, ixn_q0, ixn_q1, pkI2, pkI3, pkI4, pkI5, pkI6, pkQ2, pkQ3, pkQ4, pkQ5, pkU2, pkU3, pkU4, pkU5, pkL2, pkL3, pkL4, pkL5, bi_len_l, bi_len_t, bi_len_s, bi_len_x, bi_len_o, bi_abs, bi_max2, bi_min2, bi_max3, bi_sum_l, bi_sum_o, bi_all_l, bi_all_o, bi_any_l, bi_any_o, bi_repr, bi_divmod, bi_int_i, bi_int_b, dtru, bn_name, bn_tup, bns_nil, bns_cons, if_true, if_false, Bool.false_eq_true, List.getElem?_cons_zero, List.getElem?_cons_succ, List.length_cons, List.length_nil, cm_eqI, cm_neI, cm_eqS, cm_neS, cm_ltI, cm_leI, cm_gtI, cm_geI, co_eqI, co_neI, co_ltI, co_leI, co_gtI, co_geI, cm_eqB, cm_neB, cm_eqQ, cm_neQ, mkL_t, mkL_f, viewL_l, viewS_l, viewS_t, someE, ik_l, ik_t, ik_r1, ik_r2, ik_rev, ik_enum, ik_zip, bagP_c, true_and, and_true, Bool.not_true, Bool.not_false, if_nil, if_cons, OC.wipeV, List.map_cons, List.map_nil, List.length_map, ex_isb, isb_b, ex_rvs, ex_srtK, ex_mxP, ex_mnK, ex_brw, ex_inT, cm_isn, cm_non, cm_isi, cm_noi, cm_ist, cm_not, cm_isl, cm_nol, cm_iss, cm_nos, cm_iso, cm_noo, cm_isq, cm_noq, bn_E, bn_q2, ik_es, ik_ss, bn_case, bn_S, bi_len_es, bi_len_ss, hb, hg, hf, hu, hi, hc, ho, hs, bag_c, grainC, form_c, units_c, iscuts_c, changed_c, oddC, cutsL_c]
      rintro gr ⟨gr0, gr1⟩
      obtain ⟨gn, rfl⟩ : ∃ n : Nat, gr = n := ⟨gr.toNat, by omega⟩
      have hg0 : 0 < gn := by omega
      try dsimp only
      rw [sq_asg]
      simp only [ex_var, ex_k, ex_bin, ex_cat, ex_neg, ex_cmp, ex_tup, ex_lst, ex_mkbag, ex_ix, ex_ixn, ex_slL, ex_slH, ex_slK, slL_g, ex_call, ex_bi, ex_isD, isi_i, isi_b, isi_s, isi_n, ex_app, ex_ext, ex_pop, ex_rev, ex_pop0, ex_chain, ex_and, ex_or, ex_not, ex_ite, ex_lc, ex_lsOf, ex_tuOf, ex_in, ex_srtI, ex_mnL, ex_mxL, ex_mnD, ex_fld, ex_meth, ex_mk, ex_dic, ex_dget, ex_din, ex_dpop, ex_tab, ex_sit, insD_ob, dicD_i, slT_g, es_nil, es_cons, OC.getV, List.set, bop, augop, ixn_t, ixn_l, ixn_o, ixn_q0, ixn_q1, pkI2, pkI3, pkI4, pkI5, pkI6, pkQ2, pkQ3, pkQ4, pkQ5, pkU2, pkU3, pkU4, pkU5, pkL2, pkL3, pkL4, pkL5, bi_len_l, bi_len_t, bi_len_s, bi_len_x, bi_len_o, bi_abs, bi_max2, bi_min2, bi_max3, bi_sum_l, bi_sum_o, bi_all_l, bi_all_o, bi_any_l, bi_any_o, bi_repr, bi_divmod, bi_int_i, bi_int_b, dtru, bn_name, bn_tup, bns_nil, bns_cons, if_true, if_false, Bool.false_eq_true, List.getElem?_cons_zero, List.getElem?_cons_succ, List.length_cons, List.length_nil, cm_eqI, cm_neI, cm_eqS, cm_neS, cm_ltI, cm_leI, cm_gtI, cm_geI, co_eqI, co_neI, co_ltI, co_leI, co_gtI, co_geI, cm_eqB, cm_neB, cm_eqQ, cm_neQ, mkL_t, mkL_f, viewL_l, viewS_l, viewS_t, someE, ik_l, ik_t, ik_r1, ik_r2, ik_rev, ik_enum, ik_zip, bagP_c, true_and, and_true, Bool.not_true, Bool.not_false, if_nil, if_cons, OC.wipeV, List.map_cons, List.map_nil, List.length_map, ex_isb, isb_b, ex_rvs, ex_srtK, ex_mxP, ex_mnK, ex_brw, ex_inT, cm_isn, cm_non, cm_isi, cm_noi, cm_ist, cm_not, cm_isl, cm_nol, cm_iss, cm_nos, cm_iso, cm_noo, cm_isq, cm_noq, bn_E, bn_q2, ik_es, ik_ss, bn_case, bn_S, bi_len_es, bi_len_ss, hb, hg, hf, hu, hi, hc, ho, hs, bag_c, grainC, form_c, units_c, iscuts_c, changed_c, oddC, cutsL_c]
      refine ⟨⟨gr0, by omega⟩, fun us hus => ?_⟩
      rw [show ((gn : Nat) : Int).toNat = gn from rfl] at hus
      have hul : us.length ≤ gn := by have := hus.length_le; rwa [List.length_range] at this
      have cF := form_can hg0 us
      have dF := form_dn hg0 us
      have gb : gn < 2 ^ 5 := by omega
      have bF : Bs 1000 (formQ us gn) := fun p hp => by
        have h1 := cF.1 p hp
        have h2 := dF p hp
        exact ⟨(bq_unit hg0 gb h2.1 h1.1 (by grind)).mono (by decide), (bq_unit hg0 gb h2.2 (by grind) h1.2.2).mono (by decide)⟩
      have nF : (formQ us gn).length ≤ 40 := by
        unfold formQ
        rw [List.length_map]
        have := runs_len (us := us) gn
        omega
      refine ⟨⟨hg0, by omega, by omega⟩, ?_⟩
      have hmF : Md 10 4000 (encS (formQ us gn)) := (Md.lst (n := 2) (k := 7) (j := 4000) (xs := (formQ us gn).map encP) (fun x hx => by
        obtain ⟨p, hp, rfl⟩ := List.mem_map.mp hx
        exact md_P (bF p hp)) (by rw [List.length_map]; omega)).le (by decide) (Nat.le_refl _)
      try dsimp only
      rw [sq_ite]
      simp only [ex_var, ex_k, ex_bin, ex_cat, ex_neg, ex_cmp, ex_tup, ex_lst, ex_mkbag, ex_ix, ex_ixn, ex_slL, ex_slH, ex_slK, slL_g, ex_call, ex_bi, ex_isD, isi_i, isi_b, isi_s, isi_n, ex_app, ex_ext, ex_pop, ex_rev, ex_pop0, ex_chain, ex_and, ex_or, ex_not, ex_ite, ex_lc, ex_lsOf, ex_tuOf, ex_in, ex_srtI, ex_mnL, ex_mxL, ex_mnD, ex_fld, ex_meth, ex_mk, ex_dic, ex_dget, ex_din, ex_dpop, ex_tab, ex_sit, insD_ob, dicD_i, slT_g, es_nil, es_cons, OC.getV, List.set, bop, augop, ixn_t, ixn_l, ixn_o, ixn_q0, ixn_q1, pkI2, pkI3, pkI4, pkI5, pkI6, pkQ2, pkQ3, pkQ4, pkQ5, pkU2, pkU3, pkU4, pkU5, pkL2, pkL3, pkL4, pkL5, bi_len_l, bi_len_t, bi_len_s, bi_len_x, bi_len_o, bi_abs, bi_max2, bi_min2, bi_max3, bi_sum_l, bi_sum_o, bi_all_l, bi_all_o, bi_any_l, bi_any_o, bi_repr, bi_divmod, bi_int_i, bi_int_b, dtru, bn_name, bn_tup, bns_nil, bns_cons, if_true, if_false, Bool.false_eq_true, List.getElem?_cons_zero, List.getElem?_cons_succ, List.length_cons, List.length_nil, cm_eqI, cm_neI, cm_eqS, cm_neS, cm_ltI, cm_leI, cm_gtI, cm_geI, co_eqI, co_neI, co_ltI, co_leI, co_gtI, co_geI, cm_eqB, cm_neB, cm_eqQ, cm_neQ, mkL_t, mkL_f, viewL_l, viewS_l, viewS_t, someE, ik_l, ik_t, ik_r1, ik_r2, ik_rev, ik_enum, ik_zip, bagP_c, true_and, and_true, Bool.not_true, Bool.not_false, if_nil, if_cons, OC.wipeV, List.map_cons, List.map_nil, List.length_map, ex_isb, isb_b, ex_rvs, ex_srtK, ex_mxP, ex_mnK, ex_brw, ex_inT, cm_isn, cm_non, cm_isi, cm_noi, cm_ist, cm_not, cm_isl, cm_nol, cm_iss, cm_nos, cm_iso, cm_noo, cm_isq, cm_noq, bn_E, bn_q2, ik_es, ik_ss, bn_case, bn_S, bi_len_es, bi_len_ss, hb, hg, hf, hu, hi, hc, ho, hs, bag_c, grainC, form_c, units_c, iscuts_c, changed_c, oddC, cutsL_c]
      refine ⟨hmF.cuts, fun b0 hb0 => ?_⟩
      rw [hb0.mpr ⟨_, rfl, cF⟩]
      simp only [decide_true, Bool.true_beq, Bool.false_eq_true, if_false]
      try dsimp only
      rw [sq_nil]
      simp only [ex_var, ex_k, ex_bin, ex_cat, ex_neg, ex_cmp, ex_tup, ex_lst, ex_mkbag, ex_ix, ex_ixn, ex_slL, ex_slH, ex_slK, slL_g, ex_call, ex_bi, ex_isD, isi_i, isi_b, isi_s, isi_n, ex_app, ex_ext, ex_pop, ex_rev, ex_pop0, ex_chain, ex_and, ex_or, ex_not, ex_ite, ex_lc, ex_lsOf, ex_tuOf, ex_in, ex_srtI, ex_mnL, ex_mxL, ex_mnD, ex_fld, ex_meth, ex_mk, ex_dic, ex_dget, ex_din, ex_dpop, ex_tab, ex_sit, insD_ob, dicD_i, slT_g, es_nil, es_cons, OC.getV, List.set, bop, augop, ixn_t, ixn_l, ixn_o, ixn_q0, ixn_q1, pkI2, pkI3, pkI4, pkI5, pkI6, pkQ2, pkQ3, pkQ4, pkQ5, pkU2, pkU3, pkU4, pkU5, pkL2, pkL3, pkL4, pkL5, bi_len_l, bi_len_t, bi_len_s, bi_len_x, bi_len_o, bi_abs, bi_max2, bi_min2, bi_max3, bi_sum_l, bi_sum_o, bi_all_l, bi_all_o, bi_any_l, bi_any_o, bi_repr, bi_divmod, bi_int_i, bi_int_b, dtru, bn_name, bn_tup, bns_nil, bns_cons, if_true, if_false, Bool.false_eq_true, List.getElem?_cons_zero, List.getElem?_cons_succ, List.length_cons, List.length_nil, cm_eqI, cm_neI, cm_eqS, cm_neS, cm_ltI, cm_leI, cm_gtI, cm_geI, co_eqI, co_neI, co_ltI, co_leI, co_gtI, co_geI, cm_eqB, cm_neB, cm_eqQ, cm_neQ, mkL_t, mkL_f, viewL_l, viewS_l, viewS_t, someE, ik_l, ik_t, ik_r1, ik_r2, ik_rev, ik_enum, ik_zip, bagP_c, true_and, and_true, Bool.not_true, Bool.not_false, if_nil, if_cons, OC.wipeV, List.map_cons, List.map_nil, List.length_map, ex_isb, isb_b, ex_rvs, ex_srtK, ex_mxP, ex_mnK, ex_brw, ex_inT, cm_isn, cm_non, cm_isi, cm_noi, cm_ist, cm_not, cm_isl, cm_nol, cm_iss, cm_nos, cm_iso, cm_noo, cm_isq, cm_noq, bn_E, bn_q2, ik_es, ik_ss, bn_case, bn_S, bi_len_es, bi_len_ss, hb, hg, hf, hu, hi, hc, ho, hs, bag_c, grainC, form_c, units_c, iscuts_c, changed_c, oddC, cutsL_c]
      try dsimp only
      rw [sq_for]
      simp only [ex_var, ex_k, ex_bin, ex_cat, ex_neg, ex_cmp, ex_tup, ex_lst, ex_mkbag, ex_ix, ex_ixn, ex_slL, ex_slH, ex_slK, slL_g, ex_call, ex_bi, ex_isD, isi_i, isi_b, isi_s, isi_n, ex_app, ex_ext, ex_pop, ex_rev, ex_pop0, ex_chain, ex_and, ex_or, ex_not, ex_ite, ex_lc, ex_lsOf, ex_tuOf, ex_in, ex_srtI, ex_mnL, ex_mxL, ex_mnD, ex_fld, ex_meth, ex_mk, ex_dic, ex_dget, ex_din, ex_dpop, ex_tab, ex_sit, insD_ob, dicD_i, slT_g, es_nil, es_cons, OC.getV, List.set, bop, augop, ixn_t, ixn_l, ixn_o, ixn_q0, ixn_q1, pkI2, pkI3, pkI4, pkI5, pkI6, pkQ2, pkQ3, pkQ4, pkQ5, pkU2, pkU3, pkU4, pkU5, pkL2, pkL3, pkL4, pkL5, bi_len_l, bi_len_t, bi_len_s, bi_len_x, bi_len_o, bi_abs, bi_max2, bi_min2, bi_max3, bi_sum_l, bi_sum_o, bi_all_l, bi_all_o, bi_any_l, bi_any_o, bi_repr, bi_divmod, bi_int_i, bi_int_b, dtru, bn_name, bn_tup, bns_nil, bns_cons, if_true, if_false, Bool.false_eq_true, List.getElem?_cons_zero, List.getElem?_cons_succ, List.length_cons, List.length_nil, cm_eqI, cm_neI, cm_eqS, cm_neS, cm_ltI, cm_leI, cm_gtI, cm_geI, co_eqI, co_neI, co_ltI, co_leI, co_gtI, co_geI, cm_eqB, cm_neB, cm_eqQ, cm_neQ, mkL_t, mkL_f, viewL_l, viewS_l, viewS_t, someE, ik_l, ik_t, ik_r1, ik_r2, ik_rev, ik_enum, ik_zip, bagP_c, true_and, and_true, Bool.not_true, Bool.not_false, if_nil, if_cons, OC.wipeV, List.map_cons, List.map_nil, List.length_map, ex_isb, isb_b, ex_rvs, ex_srtK, ex_mxP, ex_mnK, ex_brw, ex_inT, cm_isn, cm_non, cm_isi, cm_noi, cm_ist, cm_not, cm_isl, cm_nol, cm_iss, cm_nos, cm_iso, cm_noo, cm_isq, cm_noq, bn_E, bn_q2, ik_es, ik_ss, bn_case, bn_S, bi_len_es, bi_len_ss, hb, hg, hf, hu, hi, hc, ho, hs, bag_c, grainC, form_c, units_c, iscuts_c, changed_c, oddC, cutsL_c]
      refine ⟨⟨bF, nF⟩, fun d1 h1 => ⟨⟨bF, nF⟩, fun d2 h2 d3 h3 d4 h4 => ?_⟩⟩
      have hall : ∀ d ∈ [d1, d2, d3, D.lst [d4]], Md 10 4000 d := fun d hd => by
        simp only [List.mem_cons, List.not_mem_nil, or_false] at hd
        rcases hd with rfl | rfl | rfl | rfl
        · exact h1.le (by decide) (by decide)
        · exact h2.le (by decide) (by decide)
        · exact h3.le (by decide) (by decide)
        · exact (Md.lst (n := 2) (k := 10) (j := 4000) (fun z hz => by cases List.mem_singleton.mp hz; exact h4) (by simp)).le (by decide) (Nat.le_refl _)
      refine for_enc (fun d : D => d) (fun ps rs G T1 => [d1, d2, d3, D.lst [d4]] = ps ++ rs ∧ T1 = T ∧ ∃ g6 g7 g8, G = [some (.scr ns), k1, some .bag, some (.int j), some (.int gn), some (encS (formQ us gn)), g6, g7, g8]) ?_ ?_ [d1, d2, d3, D.lst [d4]] [] _ _ ⟨rfl, rfl, _, _, _, rfl⟩
      · rintro ps d rs G T1 ⟨hab, rfl, g6, g7, g8, rfl⟩ nx3 hnx3
        have hd := hall d (by rw [hab]; simp)
        try simp only [ex_var, ex_k, ex_bin, ex_cat, ex_neg, ex_cmp, ex_tup, ex_lst, ex_mkbag, ex_ix, ex_ixn, ex_slL, ex_slH, ex_slK, slL_g, ex_call, ex_bi, ex_isD, isi_i, isi_b, isi_s, isi_n, ex_app, ex_ext, ex_pop, ex_rev, ex_pop0, ex_chain, ex_and, ex_or, ex_not, ex_ite, ex_lc, ex_lsOf, ex_tuOf, ex_in, ex_srtI, ex_mnL, ex_mxL, ex_mnD, ex_fld, ex_meth, ex_mk, ex_dic, ex_dget, ex_din, ex_dpop, ex_tab, ex_sit, insD_ob, dicD_i, slT_g, es_nil, es_cons, OC.getV, List.set, bop, augop, ixn_t, ixn_l, ixn_o, ixn_q0, ixn_q1, pkI2, pkI3, pkI4, pkI5, pkI6, pkQ2, pkQ3, pkQ4, pkQ5, pkU2, pkU3, pkU4, pkU5, pkL2, pkL3, pkL4, pkL5, bi_len_l, bi_len_t, bi_len_s, bi_len_x, bi_len_o, bi_abs, bi_max2, bi_min2, bi_max3, bi_sum_l, bi_sum_o, bi_all_l, bi_all_o, bi_any_l, bi_any_o, bi_repr, bi_divmod, bi_int_i, bi_int_b, dtru, bn_name, bn_tup, bns_nil, bns_cons, if_true, if_false, Bool.false_eq_true, List.getElem?_cons_zero, List.getElem?_cons_succ, List.length_cons, List.length_nil, cm_eqI, cm_neI, cm_eqS, cm_neS, cm_ltI, cm_leI, cm_gtI, cm_geI, co_eqI, co_neI, co_ltI, co_leI, co_gtI, co_geI, cm_eqB, cm_neB, cm_eqQ, cm_neQ, mkL_t, mkL_f, viewL_l, viewS_l, viewS_t, someE, ik_l, ik_t, ik_r1, ik_r2, ik_rev, ik_enum, ik_zip, bagP_c, true_and, and_true, Bool.not_true, Bool.not_false, if_nil, if_cons, OC.wipeV, List.map_cons, List.map_nil, List.length_map, ex_isb, isb_b, ex_rvs, ex_srtK, ex_mxP, ex_mnK, ex_brw, ex_inT, cm_isn, cm_non, cm_isi, cm_noi, cm_ist, cm_not, cm_isl, cm_nol, cm_iss, cm_nos, cm_iso, cm_noo, cm_isq, cm_noq, bn_E, bn_q2, ik_es, ik_ss, bn_case, bn_S, bi_len_es, bi_len_ss, hb, hg, hf, hu, hi, hc, ho, hs, bag_c, grainC, form_c, units_c, iscuts_c, changed_c, oddC, cutsL_c]
        try dsimp only
        rw [sq_asg]
        simp only [ex_var, ex_k, ex_bin, ex_cat, ex_neg, ex_cmp, ex_tup, ex_lst, ex_mkbag, ex_ix, ex_ixn, ex_slL, ex_slH, ex_slK, slL_g, ex_call, ex_bi, ex_isD, isi_i, isi_b, isi_s, isi_n, ex_app, ex_ext, ex_pop, ex_rev, ex_pop0, ex_chain, ex_and, ex_or, ex_not, ex_ite, ex_lc, ex_lsOf, ex_tuOf, ex_in, ex_srtI, ex_mnL, ex_mxL, ex_mnD, ex_fld, ex_meth, ex_mk, ex_dic, ex_dget, ex_din, ex_dpop, ex_tab, ex_sit, insD_ob, dicD_i, slT_g, es_nil, es_cons, OC.getV, List.set, bop, augop, ixn_t, ixn_l, ixn_o, ixn_q0, ixn_q1, pkI2, pkI3, pkI4, pkI5, pkI6, pkQ2, pkQ3, pkQ4, pkQ5, pkU2, pkU3, pkU4, pkU5, pkL2, pkL3, pkL4, pkL5, bi_len_l, bi_len_t, bi_len_s, bi_len_x, bi_len_o, bi_abs, bi_max2, bi_min2, bi_max3, bi_sum_l, bi_sum_o, bi_all_l, bi_all_o, bi_any_l, bi_any_o, bi_repr, bi_divmod, bi_int_i, bi_int_b, dtru, bn_name, bn_tup, bns_nil, bns_cons, if_true, if_false, Bool.false_eq_true, List.getElem?_cons_zero, List.getElem?_cons_succ, List.length_cons, List.length_nil, cm_eqI, cm_neI, cm_eqS, cm_neS, cm_ltI, cm_leI, cm_gtI, cm_geI, co_eqI, co_neI, co_ltI, co_leI, co_gtI, co_geI, cm_eqB, cm_neB, cm_eqQ, cm_neQ, mkL_t, mkL_f, viewL_l, viewS_l, viewS_t, someE, ik_l, ik_t, ik_r1, ik_r2, ik_rev, ik_enum, ik_zip, bagP_c, true_and, and_true, Bool.not_true, Bool.not_false, if_nil, if_cons, OC.wipeV, List.map_cons, List.map_nil, List.length_map, ex_isb, isb_b, ex_rvs, ex_srtK, ex_mxP, ex_mnK, ex_brw, ex_inT, cm_isn, cm_non, cm_isi, cm_noi, cm_ist, cm_not, cm_isl, cm_nol, cm_iss, cm_nos, cm_iso, cm_noo, cm_isq, cm_noq, bn_E, bn_q2, ik_es, ik_ss, bn_case, bn_S, bi_len_es, bi_len_ss, hb, hg, hf, hu, hi, hc, ho, hs, bag_c, grainC, form_c, units_c, iscuts_c, changed_c, oddC, cutsL_c]
        refine ⟨d, Rsv.pure d hd.ok.1, hd.ok, ?_⟩
        try dsimp only
        rw [sq_ite]
        simp only [ex_var, ex_k, ex_bin, ex_cat, ex_neg, ex_cmp, ex_tup, ex_lst, ex_mkbag, ex_ix, ex_ixn, ex_slL, ex_slH, ex_slK, slL_g, ex_call, ex_bi, ex_isD, isi_i, isi_b, isi_s, isi_n, ex_app, ex_ext, ex_pop, ex_rev, ex_pop0, ex_chain, ex_and, ex_or, ex_not, ex_ite, ex_lc, ex_lsOf, ex_tuOf, ex_in, ex_srtI, ex_mnL, ex_mxL, ex_mnD, ex_fld, ex_meth, ex_mk, ex_dic, ex_dget, ex_din, ex_dpop, ex_tab, ex_sit, insD_ob, dicD_i, slT_g, es_nil, es_cons, OC.getV, List.set, bop, augop, ixn_t, ixn_l, ixn_o, ixn_q0, ixn_q1, pkI2, pkI3, pkI4, pkI5, pkI6, pkQ2, pkQ3, pkQ4, pkQ5, pkU2, pkU3, pkU4, pkU5, pkL2, pkL3, pkL4, pkL5, bi_len_l, bi_len_t, bi_len_s, bi_len_x, bi_len_o, bi_abs, bi_max2, bi_min2, bi_max3, bi_sum_l, bi_sum_o, bi_all_l, bi_all_o, bi_any_l, bi_any_o, bi_repr, bi_divmod, bi_int_i, bi_int_b, dtru, bn_name, bn_tup, bns_nil, bns_cons, if_true, if_false, Bool.false_eq_true, List.getElem?_cons_zero, List.getElem?_cons_succ, List.length_cons, List.length_nil, cm_eqI, cm_neI, cm_eqS, cm_neS, cm_ltI, cm_leI, cm_gtI, cm_geI, co_eqI, co_neI, co_ltI, co_leI, co_gtI, co_geI, cm_eqB, cm_neB, cm_eqQ, cm_neQ, mkL_t, mkL_f, viewL_l, viewS_l, viewS_t, someE, ik_l, ik_t, ik_r1, ik_r2, ik_rev, ik_enum, ik_zip, bagP_c, true_and, and_true, Bool.not_true, Bool.not_false, if_nil, if_cons, OC.wipeV, List.map_cons, List.map_nil, List.length_map, ex_isb, isb_b, ex_rvs, ex_srtK, ex_mxP, ex_mnK, ex_brw, ex_inT, cm_isn, cm_non, cm_isi, cm_noi, cm_ist, cm_not, cm_isl, cm_nol, cm_iss, cm_nos, cm_iso, cm_noo, cm_isq, cm_noq, bn_E, bn_q2, ik_es, ik_ss, bn_case, bn_S, bi_len_es, bi_len_ss, hb, hg, hf, hu, hi, hc, ho, hs, bag_c, grainC, form_c, units_c, iscuts_c, changed_c, oddC, cutsL_c]
        rw [show rngD 0 2 = (List.range 2).map (fun i : Nat => D.int i) by rw [rng0]; rfl]
        obtain ⟨v, hv0⟩ : ∃ v : Bool, (v = true ↔ CutsD d) := by
          by_cases z : CutsD d
          · exact ⟨true, fun _ => z, fun _ => rfl⟩
          · exact ⟨false, (fun e => nomatch e), fun e => absurd e z⟩
        have hv1 : ∀ w : Bool, (w = true ↔ CutsD d) → w = v := fun w h => Bool.eq_iff_iff.mpr (h.trans hv0.symm)
        have hsh : showOk (.lst [.bl v, .bl v]) := Md.ok ((Md.lst (n := 0) (k := 1) (j := 4000) (xs := [.bl v, .bl v]) (fun z hz => by
          simp only [List.mem_cons, List.not_mem_nil, or_false] at hz
          rcases hz with rfl | rfl <;> exact md_bl) (by simp)).le (by decide) (Nat.le_refl _))
        refine ⟨by decide, by decide, map_enc (fun i : Nat => D.int i) (fun _ => .bl v) (List.range 2) [] (fun i hi kk hk => ⟨hd.cuts, fun w hw => by rw [hv1 w hw]; exact hk⟩) ?_⟩
        rw [show ([] ++ (List.range 2).map fun _ => D.bl v) = [.bl v, .bl v] from rfl]
        refine ⟨_, Rsv.pure _ hsh.1, hsh, hd.cuts, fun w hw => ?_⟩
        rw [hv1 w hw, show (List.replicate (Int.toNat 2) [D.bl v]).flatten = [.bl v, .bl v] from rfl]
        refine ⟨by decide, _, Rsv.pure _ hsh.1, hsh, ?_⟩
        simp only [decide_true, Bool.not_true, Bool.false_eq_true, if_false]
        try dsimp only
        rw [sq_nil]
        simp only [ex_var, ex_k, ex_bin, ex_cat, ex_neg, ex_cmp, ex_tup, ex_lst, ex_mkbag, ex_ix, ex_ixn, ex_slL, ex_slH, ex_slK, slL_g, ex_call, ex_bi, ex_isD, isi_i, isi_b, isi_s, isi_n, ex_app, ex_ext, ex_pop, ex_rev, ex_pop0, ex_chain, ex_and, ex_or, ex_not, ex_ite, ex_lc, ex_lsOf, ex_tuOf, ex_in, ex_srtI, ex_mnL, ex_mxL, ex_mnD, ex_fld, ex_meth, ex_mk, ex_dic, ex_dget, ex_din, ex_dpop, ex_tab, ex_sit, insD_ob, dicD_i, slT_g, es_nil, es_cons, OC.getV, List.set, bop, augop, ixn_t, ixn_l, ixn_o, ixn_q0, ixn_q1, pkI2, pkI3, pkI4, pkI5, pkI6, pkQ2, pkQ3, pkQ4, pkQ5, pkU2, pkU3, pkU4, pkU5, pkL2, pkL3, pkL4, pkL5, bi_len_l, bi_len_t, bi_len_s, bi_len_x, bi_len_o, bi_abs, bi_max2, bi_min2, bi_max3, bi_sum_l, bi_sum_o, bi_all_l, bi_all_o, bi_any_l, bi_any_o, bi_repr, bi_divmod, bi_int_i, bi_int_b, dtru, bn_name, bn_tup, bns_nil, bns_cons, if_true, if_false, Bool.false_eq_true, List.getElem?_cons_zero, List.getElem?_cons_succ, List.length_cons, List.length_nil, cm_eqI, cm_neI, cm_eqS, cm_neS, cm_ltI, cm_leI, cm_gtI, cm_geI, co_eqI, co_neI, co_ltI, co_leI, co_gtI, co_geI, cm_eqB, cm_neB, cm_eqQ, cm_neQ, mkL_t, mkL_f, viewL_l, viewS_l, viewS_t, someE, ik_l, ik_t, ik_r1, ik_r2, ik_rev, ik_enum, ik_zip, bagP_c, true_and, and_true, Bool.not_true, Bool.not_false, if_nil, if_cons, OC.wipeV, List.map_cons, List.map_nil, List.length_map, ex_isb, isb_b, ex_rvs, ex_srtK, ex_mxP, ex_mnK, ex_brw, ex_inT, cm_isn, cm_non, cm_isi, cm_noi, cm_ist, cm_not, cm_isl, cm_nol, cm_iss, cm_nos, cm_iso, cm_noo, cm_isq, cm_noq, bn_E, bn_q2, ik_es, ik_ss, bn_case, bn_S, bi_len_es, bi_len_ss, hb, hg, hf, hu, hi, hc, ho, hs, bag_c, grainC, form_c, units_c, iscuts_c, changed_c, oddC, cutsL_c]
        try dsimp only
        rw [sq_ite]
        simp only [ex_var, ex_k, ex_bin, ex_cat, ex_neg, ex_cmp, ex_tup, ex_lst, ex_mkbag, ex_ix, ex_ixn, ex_slL, ex_slH, ex_slK, slL_g, ex_call, ex_bi, ex_isD, isi_i, isi_b, isi_s, isi_n, ex_app, ex_ext, ex_pop, ex_rev, ex_pop0, ex_chain, ex_and, ex_or, ex_not, ex_ite, ex_lc, ex_lsOf, ex_tuOf, ex_in, ex_srtI, ex_mnL, ex_mxL, ex_mnD, ex_fld, ex_meth, ex_mk, ex_dic, ex_dget, ex_din, ex_dpop, ex_tab, ex_sit, insD_ob, dicD_i, slT_g, es_nil, es_cons, OC.getV, List.set, bop, augop, ixn_t, ixn_l, ixn_o, ixn_q0, ixn_q1, pkI2, pkI3, pkI4, pkI5, pkI6, pkQ2, pkQ3, pkQ4, pkQ5, pkU2, pkU3, pkU4, pkU5, pkL2, pkL3, pkL4, pkL5, bi_len_l, bi_len_t, bi_len_s, bi_len_x, bi_len_o, bi_abs, bi_max2, bi_min2, bi_max3, bi_sum_l, bi_sum_o, bi_all_l, bi_all_o, bi_any_l, bi_any_o, bi_repr, bi_divmod, bi_int_i, bi_int_b, dtru, bn_name, bn_tup, bns_nil, bns_cons, if_true, if_false, Bool.false_eq_true, List.getElem?_cons_zero, List.getElem?_cons_succ, List.length_cons, List.length_nil, cm_eqI, cm_neI, cm_eqS, cm_neS, cm_ltI, cm_leI, cm_gtI, cm_geI, co_eqI, co_neI, co_ltI, co_leI, co_gtI, co_geI, cm_eqB, cm_neB, cm_eqQ, cm_neQ, mkL_t, mkL_f, viewL_l, viewS_l, viewS_t, someE, ik_l, ik_t, ik_r1, ik_r2, ik_rev, ik_enum, ik_zip, bagP_c, true_and, and_true, Bool.not_true, Bool.not_false, if_nil, if_cons, OC.wipeV, List.map_cons, List.map_nil, List.length_map, ex_isb, isb_b, ex_rvs, ex_srtK, ex_mxP, ex_mnK, ex_brw, ex_inT, cm_isn, cm_non, cm_isi, cm_noi, cm_ist, cm_not, cm_isl, cm_nol, cm_iss, cm_nos, cm_iso, cm_noo, cm_isq, cm_noq, bn_E, bn_q2, ik_es, ik_ss, bn_case, bn_S, bi_len_es, bi_len_ss, hb, hg, hf, hu, hi, hc, ho, hs, bag_c, grainC, form_c, units_c, iscuts_c, changed_c, oddC, cutsL_c]
        refine ⟨d, Rsv.pure d hd.ok.1, hd.ok, ?_⟩
        simp only [decide_true, Bool.not_true, Bool.false_eq_true, if_false]
        try dsimp only
        rw [sq_nil]
        simp only [ex_var, ex_k, ex_bin, ex_cat, ex_neg, ex_cmp, ex_tup, ex_lst, ex_mkbag, ex_ix, ex_ixn, ex_slL, ex_slH, ex_slK, slL_g, ex_call, ex_bi, ex_isD, isi_i, isi_b, isi_s, isi_n, ex_app, ex_ext, ex_pop, ex_rev, ex_pop0, ex_chain, ex_and, ex_or, ex_not, ex_ite, ex_lc, ex_lsOf, ex_tuOf, ex_in, ex_srtI, ex_mnL, ex_mxL, ex_mnD, ex_fld, ex_meth, ex_mk, ex_dic, ex_dget, ex_din, ex_dpop, ex_tab, ex_sit, insD_ob, dicD_i, slT_g, es_nil, es_cons, OC.getV, List.set, bop, augop, ixn_t, ixn_l, ixn_o, ixn_q0, ixn_q1, pkI2, pkI3, pkI4, pkI5, pkI6, pkQ2, pkQ3, pkQ4, pkQ5, pkU2, pkU3, pkU4, pkU5, pkL2, pkL3, pkL4, pkL5, bi_len_l, bi_len_t, bi_len_s, bi_len_x, bi_len_o, bi_abs, bi_max2, bi_min2, bi_max3, bi_sum_l, bi_sum_o, bi_all_l, bi_all_o, bi_any_l, bi_any_o, bi_repr, bi_divmod, bi_int_i, bi_int_b, dtru, bn_name, bn_tup, bns_nil, bns_cons, if_true, if_false, Bool.false_eq_true, List.getElem?_cons_zero, List.getElem?_cons_succ, List.length_cons, List.length_nil, cm_eqI, cm_neI, cm_eqS, cm_neS, cm_ltI, cm_leI, cm_gtI, cm_geI, co_eqI, co_neI, co_ltI, co_leI, co_gtI, co_geI, cm_eqB, cm_neB, cm_eqQ, cm_neQ, mkL_t, mkL_f, viewL_l, viewS_l, viewS_t, someE, ik_l, ik_t, ik_r1, ik_r2, ik_rev, ik_enum, ik_zip, bagP_c, true_and, and_true, Bool.not_true, Bool.not_false, if_nil, if_cons, OC.wipeV, List.map_cons, List.map_nil, List.length_map, ex_isb, isb_b, ex_rvs, ex_srtK, ex_mxP, ex_mnK, ex_brw, ex_inT, cm_isn, cm_non, cm_isi, cm_noi, cm_ist, cm_not, cm_isl, cm_nol, cm_iss, cm_nos, cm_iso, cm_noo, cm_isq, cm_noq, bn_E, bn_q2, ik_es, ik_ss, bn_case, bn_S, bi_len_es, bi_len_ss, hb, hg, hf, hu, hi, hc, ho, hs, bag_c, grainC, form_c, units_c, iscuts_c, changed_c, oddC, cutsL_c]
        exact hnx3 _ _ ⟨by rw [hab]; simp, rfl, _, _, _, rfl⟩
      · rintro ps G T1 ⟨hab, rfl, g6, g7, g8, rfl⟩
        try dsimp only
        rw [sq_nil]
        simp only [ex_var, ex_k, ex_bin, ex_cat, ex_neg, ex_cmp, ex_tup, ex_lst, ex_mkbag, ex_ix, ex_ixn, ex_slL, ex_slH, ex_slK, slL_g, ex_call, ex_bi, ex_isD, isi_i, isi_b, isi_s, isi_n, ex_app, ex_ext, ex_pop, ex_rev, ex_pop0, ex_chain, ex_and, ex_or, ex_not, ex_ite, ex_lc, ex_lsOf, ex_tuOf, ex_in, ex_srtI, ex_mnL, ex_mxL, ex_mnD, ex_fld, ex_meth, ex_mk, ex_dic, ex_dget, ex_din, ex_dpop, ex_tab, ex_sit, insD_ob, dicD_i, slT_g, es_nil, es_cons, OC.getV, List.set, bop, augop, ixn_t, ixn_l, ixn_o, ixn_q0, ixn_q1, pkI2, pkI3, pkI4, pkI5, pkI6, pkQ2, pkQ3, pkQ4, pkQ5, pkU2, pkU3, pkU4, pkU5, pkL2, pkL3, pkL4, pkL5, bi_len_l, bi_len_t, bi_len_s, bi_len_x, bi_len_o, bi_abs, bi_max2, bi_min2, bi_max3, bi_sum_l, bi_sum_o, bi_all_l, bi_all_o, bi_any_l, bi_any_o, bi_repr, bi_divmod, bi_int_i, bi_int_b, dtru, bn_name, bn_tup, bns_nil, bns_cons, if_true, if_false, Bool.false_eq_true, List.getElem?_cons_zero, List.getElem?_cons_succ, List.length_cons, List.length_nil, cm_eqI, cm_neI, cm_eqS, cm_neS, cm_ltI, cm_leI, cm_gtI, cm_geI, co_eqI, co_neI, co_ltI, co_leI, co_gtI, co_geI, cm_eqB, cm_neB, cm_eqQ, cm_neQ, mkL_t, mkL_f, viewL_l, viewS_l, viewS_t, someE, ik_l, ik_t, ik_r1, ik_r2, ik_rev, ik_enum, ik_zip, bagP_c, true_and, and_true, Bool.not_true, Bool.not_false, if_nil, if_cons, OC.wipeV, List.map_cons, List.map_nil, List.length_map, ex_isb, isb_b, ex_rvs, ex_srtK, ex_mxP, ex_mnK, ex_brw, ex_inT, cm_isn, cm_non, cm_isi, cm_noi, cm_ist, cm_not, cm_isl, cm_nol, cm_iss, cm_nos, cm_iso, cm_noo, cm_isq, cm_noq, bn_E, bn_q2, ik_es, ik_ss, bn_case, bn_S, bi_len_es, bi_len_ss, hb, hg, hf, hu, hi, hc, ho, hs, bag_c, grainC, form_c, units_c, iscuts_c, changed_c, oddC, cutsL_c]
        exact hnx2 _ ⟨_, _, rfl, rfl⟩
    · obtain ⟨k1, G2, rfl, hlen⟩ := hG1
      try dsimp only
      rw [sq_nil]
      simp only [ex_var, ex_k, ex_bin, ex_cat, ex_neg, ex_cmp, ex_tup, ex_lst, ex_mkbag, ex_ix, ex_ixn, ex_slL, ex_slH, ex_slK, slL_g, ex_call, ex_bi, ex_isD, isi_i, isi_b, isi_s, isi_n, ex_app, ex_ext, ex_pop, ex_rev, ex_pop0, ex_chain, ex_and, ex_or, ex_not, ex_ite, ex_lc, ex_lsOf, ex_tuOf, ex_in, ex_srtI, ex_mnL, ex_mxL, ex_mnD, ex_fld, ex_meth, ex_mk, ex_dic, ex_dget, ex_din, ex_dpop, ex_tab, ex_sit, insD_ob, dicD_i, slT_g, es_nil, es_cons, OC.getV, List.set, bop, augop, ixn_t, ixn_l, ixn_o, ixn_q0, ixn_q1, pkI2, pkI3, pkI4, pkI5, pkI6, pkQ2, pkQ3, pkQ4, pkQ5, pkU2, pkU3, pkU4, pkU5, pkL2, pkL3, pkL4, pkL5, bi_len_l, bi_len_t, bi_len_s, bi_len_x, bi_len_o, bi_abs, bi_max2, bi_min2, bi_max3, bi_sum_l, bi_sum_o, bi_all_l, bi_all_o, bi_any_l, bi_any_o, bi_repr, bi_divmod, bi_int_i, bi_int_b, dtru, bn_name, bn_tup, bns_nil, bns_cons, if_true, if_false, Bool.false_eq_true, List.getElem?_cons_zero, List.getElem?_cons_succ, List.length_cons, List.length_nil, cm_eqI, cm_neI, cm_eqS, cm_neS, cm_ltI, cm_leI, cm_gtI, cm_geI, co_eqI, co_neI, co_ltI, co_leI, co_gtI, co_geI, cm_eqB, cm_neB, cm_eqQ, cm_neQ, mkL_t, mkL_f, viewL_l, viewS_l, viewS_t, someE, ik_l, ik_t, ik_r1, ik_r2, ik_rev, ik_enum, ik_zip, bagP_c, true_and, and_true, Bool.not_true, Bool.not_false, if_nil, if_cons, OC.wipeV, List.map_cons, List.map_nil, List.length_map, ex_isb, isb_b, ex_rvs, ex_srtK, ex_mxP, ex_mnK, ex_brw, ex_inT, cm_isn, cm_non, cm_isi, cm_noi, cm_ist, cm_not, cm_isl, cm_nol, cm_iss, cm_nos, cm_iso, cm_noo, cm_isq, cm_noq, bn_E, bn_q2, ik_es, ik_ss, bn_case, bn_S, bi_len_es, bi_len_ss, hb, hg, hf, hu, hi, hc, ho, hs, bag_c, grainC, form_c, units_c, iscuts_c, changed_c, oddC, cutsL_c]
      exact hnx _ hlen _ _
  · skip
    try dsimp only
    rw [sq_ret]
    simp only [ex_var, ex_k, ex_bin, ex_cat, ex_neg, ex_cmp, ex_tup, ex_lst, ex_mkbag, ex_ix, ex_ixn, ex_slL, ex_slH, ex_slK, slL_g, ex_call, ex_bi, ex_isD, isi_i, isi_b, isi_s, isi_n, ex_app, ex_ext, ex_pop, ex_rev, ex_pop0, ex_chain, ex_and, ex_or, ex_not, ex_ite, ex_lc, ex_lsOf, ex_tuOf, ex_in, ex_srtI, ex_mnL, ex_mxL, ex_mnD, ex_fld, ex_meth, ex_mk, ex_dic, ex_dget, ex_din, ex_dpop, ex_tab, ex_sit, insD_ob, dicD_i, slT_g, es_nil, es_cons, OC.getV, List.set, bop, augop, ixn_t, ixn_l, ixn_o, ixn_q0, ixn_q1, pkI2, pkI3, pkI4, pkI5, pkI6, pkQ2, pkQ3, pkQ4, pkQ5, pkU2, pkU3, pkU4, pkU5, pkL2, pkL3, pkL4, pkL5, bi_len_l, bi_len_t, bi_len_s, bi_len_x, bi_len_o, bi_abs, bi_max2, bi_min2, bi_max3, bi_sum_l, bi_sum_o, bi_all_l, bi_all_o, bi_any_l, bi_any_o, bi_repr, bi_divmod, bi_int_i, bi_int_b, dtru, bn_name, bn_tup, bns_nil, bns_cons, if_true, if_false, Bool.false_eq_true, List.getElem?_cons_zero, List.getElem?_cons_succ, List.length_cons, List.length_nil, cm_eqI, cm_neI, cm_eqS, cm_neS, cm_ltI, cm_leI, cm_gtI, cm_geI, co_eqI, co_neI, co_ltI, co_leI, co_gtI, co_geI, cm_eqB, cm_neB, cm_eqQ, cm_neQ, mkL_t, mkL_f, viewL_l, viewS_l, viewS_t, someE, ik_l, ik_t, ik_r1, ik_r2, ik_rev, ik_enum, ik_zip, bagP_c, true_and, and_true, Bool.not_true, Bool.not_false, if_nil, if_cons, OC.wipeV, List.map_cons, List.map_nil, List.length_map, ex_isb, isb_b, ex_rvs, ex_srtK, ex_mxP, ex_mnK, ex_brw, ex_inT, cm_isn, cm_non, cm_isi, cm_noi, cm_ist, cm_not, cm_isl, cm_nol, cm_iss, cm_nos, cm_iso, cm_noo, cm_isq, cm_noq, bn_E, bn_q2, ik_es, ik_ss, bn_case, bn_S, bi_len_es, bi_len_ss, hb, hg, hf, hu, hi, hc, ho, hs, bag_c, grainC, form_c, units_c, iscuts_c, changed_c, oddC, cutsL_c]
    refine ⟨md_c0.cuts, fun b1 hb1 => ?_⟩
    rw [hb1.mpr cuts_0, if_pos rfl]
    refine ⟨md_c1.cuts, fun b2 hb2 => ?_⟩
    rw [hb2.mpr cuts_1, if_pos rfl]
    refine ⟨md_c2.cuts, fun b3 hb3 => ?_⟩
    have e3 : b3 = false := by
      cases b3 with
      | false => rfl
      | true => exact absurd (hb3.mp rfl) cuts_2
    rw [e3]
    exact ret_here hq
end NX
set_option Elab.async false
set_option linter.all false
set_option maxRecDepth 100000
set_option maxHeartbeats 600000
set_option exponentiation.threshold 20000
namespace NX.K07
open PySem PySem.Spec PyProof.Rows L2 OC
def fsAll : List Fk := [.fn "is_integer", .fn "common", .fn "is_ratio", .fn "is_less", .fn "is_span", .fn "is_cuts", .fn "_law_bag", .fn "_law_take", .fn "_law_part", .fn "_law_lowest", .fn "_law_odd", .fn "_law_units", .fn "_law_form", .fn "_law_drawn_grain", .fn "_law_is_ratio", .fn "_law_is_span", .fn "_law_is_set", .fn "_law_end", .fn "_law_changed", .fn "law"]
def bsAll : List Str := ["abs", "all", "bool", "int", "isinstance", "len", "list", "max", "min", "range", "repr", "tuple", "zip"]
def gsAll : List (Str × D) := [("END", (.tup [(.int 1), (.int 1)]))]
def ksAll : List (Str × List (Str × Int)) := []
def csAll : List Str := []
def naAll : List (Str × Str) := []
noncomputable def F : List Ct := [isintC, partC, isratC, islessC, isspanC, iscutsC, bagC, takeC, partC, lowestC, oddC, unitsC, formC, grainC, ratLC, spanLC, cutsLC, endC, changedC, lawC]
def foAll : List Str := ["is_integer", "common", "is_ratio", "is_less", "_law_bag", "_law_take", "_law_part", "_law_lowest"]
def Fo : List OC.DC := [c_isint, c_part, c_isratio, c_isless, c_bag, c_take, c_part, c_lowest]
theorem monoF : OC.MonoF Fo := by
  intro c hc
  simp only [Fo, List.mem_cons, List.not_mem_nil, or_false] at hc
  rcases hc with rfl | rfl | rfl | rfl | rfl | rfl | rfl | rfl
  · exact mono_isint
  · exact mono_part
  · exact mono_isratio
  · exact mono_isless
  · exact mono_bag
  · exact mono_take
  · exact mono_part
  · exact mono_lowest
theorem monoT (i : Nat) : OC.MonoF (Fo.take i) := fun c hc => monoF c (List.mem_of_mem_take hc)
def no_is_integer : List Str := ["thing"]
def bo_is_integer : List OC.S := [.ret (.andv (.isi (.var 0) .int) (.notv (.isi (.var 0) .bool)))]
def no_common : List Str := ["one", "other"]
def bo_common : List OC.S := [.whileS (.cmp .ne (.var 1) (.k (.int 0))) [.par 0 1 (.var 1) (.bin .mod (.var 0) (.var 1))], .ret (.bi .abs [.var 0])]
def no_is_ratio : List Str := ["thing", "top", "under"]
def bo_is_ratio : List OC.S := [.ite (.orv (.notv (.isi (.var 0) .tuple)) (.cmp .ne (.bi .len [.var 0]) (.k (.int 2)))) [.ret (.k (.bl false))] [], .unp [1, 2] (.var 0), .ret (.andv (.call 0 [.var 1]) (.andv (.call 0 [.var 2]) (.andv (.cmp .gt (.var 2) (.k (.int 0))) (.cmp .eq (.call 1 [.var 1, .var 2]) (.k (.int 1))))))]
def no_is_less : List Str := ["one", "other"]
def bo_is_less : List OC.S := [.ret (.cmp .lt (.bin .mul (.ixn (.var 0) 0) (.ixn (.var 1) 1)) (.bin .mul (.ixn (.var 1) 0) (.ixn (.var 0) 1)))]
def no_law_bag : List Str := ["_law_script", "_law_at", "_law_primes", "_law_cell", "_law_large", "_law_mixed"]
def bo_law_bag : List OC.S := [.asg 2 (.tup [.k (.int 2147483647), .k (.int 2147483629), .k (.int 2147483587), .k (.int 2147483579), .k (.int 2147483563), .k (.int 2147483549), .k (.int 2147483543)]), .asg 3 (.ite (.cmp .lt (.var 1) (.bi .len [.var 0])) (.ix (.var 0) (.var 1)) (.k (.int 0))), .asg 4 (.ite (.cmp .ge (.bi .abs [.var 3]) (.bin .pow (.k (.int 10)) (.k (.int 18)))) (.bi .abs [.var 3]) (.k (.int 0))), .asg 5 (.bin .mod (.bin .pow (.bin .add (.bin .add (.bin .mod (.var 3) (.k (.int 2305843009213693951))) (.bin .mul (.k (.int 40961)) (.var 1))) (.k (.int 19))) (.k (.int 3))) (.ix (.var 2) (.bin .mod (.var 1) (.k (.int 7))))), .ret (.mkbag (.var 4) (.bin .add (.bin .mod (.bin .mul (.var 5) (.bin .add (.bin .add (.bin .fdiv (.var 5) (.k (.int 5))) (.bin .mul (.k (.int 3)) (.var 1))) (.k (.int 11)))) (.ix (.var 2) (.bin .mod (.bin .add (.var 1) (.k (.int 2))) (.k (.int 7))))) (.k (.int 1))))]
def no_law_take : List Str := ["_law_bag_here", "_law_size", "_law_digit"]
def bo_law_take : List OC.S := [.ite (.cmp .gt (.ixn (.var 0) 0) (.k (.int 0))) [.asg 2 (.bin .mod (.ixn (.var 0) 0) (.var 1)), .setB (.var 0) 0 (.bin .fdiv (.ixn (.var 0) 0) (.var 1)), .ret (.var 2)] [], .setB (.var 0) 1 (.bin .mod (.bin .mul (.ixn (.var 0) 1) (.k (.int 48271))) (.k (.int 2147483647))), .ret (.bin .mod (.bin .fdiv (.bin .mod (.bin .mul (.ixn (.var 0) 1) (.k (.int 69621))) (.k (.int 2147483629))) (.bin .pow (.k (.int 16)) (.k (.int 2)))) (.var 1))]
def no_law_part : List Str := ["_law_one", "_law_other"]
def bo_law_part : List OC.S := [.whileS (.cmp .ne (.var 1) (.k (.int 0))) [.par 0 1 (.var 1) (.bin .mod (.var 0) (.var 1))], .ret (.bi .abs [.var 0])]
def no_law_lowest : List Str := ["_law_top", "_law_under", "_law_part_here"]
def bo_law_lowest : List OC.S := [.asg 2 (.call 6 [.var 0, .var 1]), .ite (.cmp .lt (.var 1) (.k (.int 0))) [.asg 2 (.neg (.var 2))] [], .ret (.tup [.bin .fdiv (.var 0) (.var 2), .bin .fdiv (.var 1) (.var 2)])]
section
variable {P : Program} {w : World} {K : PySem.W.Frag} {mg : Str → Option Value} {h base : Heap}
abbrev Sy (w : World) (K : PySem.W.Frag) : Prop := SaysN fa fn ts ex w K
theorem bsOk (X : K.In h) (G : h.Ns mainGlobals mg) (c : Sy w K) : ∀ x, x ∈ bsAll → mg x = none := free_all X G c.t.d (by decide +kernel)
theorem gsOk (X : K.In h) (G : h.Ns mainGlobals mg) (c : Sy w K) : ∀ x d, gsAll.lookup x = some d → ∃ u v, mg x = some u ∧ RelV v u ∧ ∀ Bg M H, Rep K Bg M H v d := by
  intro x d hd
  have hm := lookup_in hd
  simp only [gsAll, List.mem_cons, List.not_mem_nil, or_false, Prod.mk.injEq] at hm
  rcases hm with ⟨rfl, rfl⟩
  · exact ⟨_, .ref _, He.glo_ok X G (c.t.d.fact 33 (f := .glo "END") rfl), rfl, fun _ _ _ => tup_const c.more (.cons (.int _) (.cons (.int _) .nil))⟩
theorem csOk (X : K.In h) (G : h.Ns mainGlobals mg) (c : Sy w K) : ∀ x, x ∈ csAll → ∃ A, mg x = some (.ref A) ∧ Cls K A := fun x hx => nomatch hx
theorem naOk (X : K.In h) (G : h.Ns mainGlobals mg) (c : Sy w K) : ∀ p, p ∈ naAll → ∃ A, mg p.1 = some (.ref A) ∧ Cls K A ∧ NoAttr K A p.2 := fun x hx => nomatch hx
theorem ksOk (X : K.In h) (G : h.Ns mainGlobals mg) (c : Sy w K) : ∀ x kvs, ksAll.lookup x = some kvs → KTab ⟨P, w, K, mg, base⟩ x kvs := fun x kvs hd => nomatch hd
theorem gf (X : K.In h) (G : h.Ns mainGlobals mg) (c : Sy w K) : Gf ⟨P, w, K, mg, base⟩ bsAll gsAll csAll naAll ksAll := ⟨bsOk X G c, gsOk X G c, csOk X G c, naOk X G c, ksOk X G c⟩
theorem looko0 : OC.chkFn ⟨no_is_integer, foAll.take 0, bsAll⟩ 1 bo_is_integer st_is_integer = true := by decide +kernel
theorem oko0 (X : K.In h) (G : h.Ns mainGlobals mg) (c : Sy w K) (A : OC.AllOk P w K mg base foAll Fo 0) : OC.AllOk P w K mg base foAll Fo 1 := by
  obtain ⟨fd, Fu⟩ := c.t.d.def_ 0 (d := d0) rfl
  have Fu := fun_of (st := st_is_integer) Fu
  exact OC.all_step A rfl rfl (OC.fn_ok (C := ⟨no_is_integer, foAll.take 0, bsAll⟩) (np := 1) (body := bo_is_integer) ⟨A, bsOk X G c⟩ Fu looko0 (He.glo_ok X G (c.t.d.fact 0 (f := .glo "is_integer") rfl)) (Fu.binds (ps := List.take 1 no_is_integer) fun _ _ _ _ _ _ us hl => match us, hl with | [_], _ => rfl) c_isint_len (OC.isint_ok))
theorem looko1 : OC.chkFn ⟨no_common, foAll.take 1, bsAll⟩ 2 bo_common st_common = true := by decide +kernel
theorem oko1 (X : K.In h) (G : h.Ns mainGlobals mg) (c : Sy w K) (A : OC.AllOk P w K mg base foAll Fo 1) : OC.AllOk P w K mg base foAll Fo 2 := by
  obtain ⟨fd, Fu⟩ := c.t.d.def_ 1 (d := d1) rfl
  have Fu := fun_of (st := st_common) Fu
  exact OC.all_step A rfl rfl (OC.fn_ok (C := ⟨no_common, foAll.take 1, bsAll⟩) (np := 2) (body := bo_common) ⟨A, bsOk X G c⟩ Fu looko1 (He.glo_ok X G (c.t.d.fact 1 (f := .glo "common") rfl)) (Fu.binds (ps := List.take 2 no_common) fun _ _ _ _ _ _ us hl => match us, hl with | [_, _], _ => rfl) c_part_len (OC.part_ok))
theorem looko2 : OC.chkFn ⟨no_is_ratio, foAll.take 2, bsAll⟩ 1 bo_is_ratio st_is_ratio = true := by decide +kernel
theorem oko2 (X : K.In h) (G : h.Ns mainGlobals mg) (c : Sy w K) (A : OC.AllOk P w K mg base foAll Fo 2) : OC.AllOk P w K mg base foAll Fo 3 := by
  obtain ⟨fd, Fu⟩ := c.t.d.def_ 2 (d := d2) rfl
  have Fu := fun_of (st := st_is_ratio) Fu
  exact OC.all_step A rfl rfl (OC.fn_ok (C := ⟨no_is_ratio, foAll.take 2, bsAll⟩) (np := 1) (body := bo_is_ratio) ⟨A, bsOk X G c⟩ Fu looko2 (He.glo_ok X G (c.t.d.fact 2 (f := .glo "is_ratio") rfl)) (Fu.binds (ps := List.take 1 no_is_ratio) fun _ _ _ _ _ _ us hl => match us, hl with | [_], _ => rfl) c_isratio_len (OC.isratio_ok (i := 0) (c := 1) rfl rfl))
theorem looko3 : OC.chkFn ⟨no_is_less, foAll.take 3, bsAll⟩ 2 bo_is_less st_is_less = true := by decide +kernel
theorem oko3 (X : K.In h) (G : h.Ns mainGlobals mg) (c : Sy w K) (A : OC.AllOk P w K mg base foAll Fo 3) : OC.AllOk P w K mg base foAll Fo 4 := by
  obtain ⟨fd, Fu⟩ := c.t.d.def_ 3 (d := d3) rfl
  have Fu := fun_of (st := st_is_less) Fu
  exact OC.all_step A rfl rfl (OC.fn_ok (C := ⟨no_is_less, foAll.take 3, bsAll⟩) (np := 2) (body := bo_is_less) ⟨A, bsOk X G c⟩ Fu looko3 (He.glo_ok X G (c.t.d.fact 3 (f := .glo "is_less") rfl)) (Fu.binds (ps := List.take 2 no_is_less) fun _ _ _ _ _ _ us hl => match us, hl with | [_, _], _ => rfl) c_isless_len (OC.isless_ok))
theorem looko4 : OC.chkFn ⟨no_law_bag, foAll.take 4, bsAll⟩ 2 bo_law_bag st_law_bag = true := by decide +kernel
theorem oko4 (X : K.In h) (G : h.Ns mainGlobals mg) (c : Sy w K) (A : OC.AllOk P w K mg base foAll Fo 4) : OC.AllOk P w K mg base foAll Fo 5 := by
  obtain ⟨fd, Fu⟩ := c.t.d.def_ 6 (d := d6) rfl
  have Fu := fun_of (st := st_law_bag) Fu
  exact OC.all_step A rfl rfl (OC.fn_ok (C := ⟨no_law_bag, foAll.take 4, bsAll⟩) (np := 2) (body := bo_law_bag) ⟨A, bsOk X G c⟩ Fu looko4 (He.glo_ok X G (c.t.d.fact 6 (f := .glo "_law_bag") rfl)) (Fu.binds (ps := List.take 2 no_law_bag) fun _ _ _ _ _ _ us hl => match us, hl with | [_, _], _ => rfl) c_bag_len (OC.bag_ok (monoT _)))
theorem looko5 : OC.chkFn ⟨no_law_take, foAll.take 5, bsAll⟩ 2 bo_law_take st_law_take = true := by decide +kernel
theorem oko5 (X : K.In h) (G : h.Ns mainGlobals mg) (c : Sy w K) (A : OC.AllOk P w K mg base foAll Fo 5) : OC.AllOk P w K mg base foAll Fo 6 := by
  obtain ⟨fd, Fu⟩ := c.t.d.def_ 7 (d := d7) rfl
  have Fu := fun_of (st := st_law_take) Fu
  exact OC.all_step A rfl rfl (OC.fn_ok (C := ⟨no_law_take, foAll.take 5, bsAll⟩) (np := 2) (body := bo_law_take) ⟨A, bsOk X G c⟩ Fu looko5 (He.glo_ok X G (c.t.d.fact 7 (f := .glo "_law_take") rfl)) (Fu.binds (ps := List.take 2 no_law_take) fun _ _ _ _ _ _ us hl => match us, hl with | [_, _], _ => rfl) c_take_len (OC.take_ok))
theorem looko6 : OC.chkFn ⟨no_law_part, foAll.take 6, bsAll⟩ 2 bo_law_part st_law_part = true := by decide +kernel
theorem oko6 (X : K.In h) (G : h.Ns mainGlobals mg) (c : Sy w K) (A : OC.AllOk P w K mg base foAll Fo 6) : OC.AllOk P w K mg base foAll Fo 7 := by
  obtain ⟨fd, Fu⟩ := c.t.d.def_ 8 (d := d8) rfl
  have Fu := fun_of (st := st_law_part) Fu
  exact OC.all_step A rfl rfl (OC.fn_ok (C := ⟨no_law_part, foAll.take 6, bsAll⟩) (np := 2) (body := bo_law_part) ⟨A, bsOk X G c⟩ Fu looko6 (He.glo_ok X G (c.t.d.fact 8 (f := .glo "_law_part") rfl)) (Fu.binds (ps := List.take 2 no_law_part) fun _ _ _ _ _ _ us hl => match us, hl with | [_, _], _ => rfl) c_part_len (OC.part_ok))
theorem looko7 : OC.chkFn ⟨no_law_lowest, foAll.take 7, bsAll⟩ 2 bo_law_lowest st_law_lowest = true := by decide +kernel
theorem oko7 (X : K.In h) (G : h.Ns mainGlobals mg) (c : Sy w K) (A : OC.AllOk P w K mg base foAll Fo 7) : OC.AllOk P w K mg base foAll Fo 8 := by
  obtain ⟨fd, Fu⟩ := c.t.d.def_ 9 (d := d9) rfl
  have Fu := fun_of (st := st_law_lowest) Fu
  exact OC.all_step A rfl rfl (OC.fn_ok (C := ⟨no_law_lowest, foAll.take 7, bsAll⟩) (np := 2) (body := bo_law_lowest) ⟨A, bsOk X G c⟩ Fu looko7 (He.glo_ok X G (c.t.d.fact 9 (f := .glo "_law_lowest") rfl)) (Fu.binds (ps := List.take 2 no_law_lowest) fun _ _ _ _ _ _ us hl => match us, hl with | [_, _], _ => rfl) c_lowest_len (OC.lowest_ok (p := 6) rfl))
theorem ok0 (X : K.In h) (G : h.Ns mainGlobals mg) (c : Sy w K) (A : AllOk ⟨P, w, K, mg, base⟩ fsAll F 0) : AllOk ⟨P, w, K, mg, base⟩ fsAll F 1 := step_oldI (m := 1) A rfl rfl (OC.all_last (j := 0) (oko0 X G c (OC.all_zero)) (by decide) rfl rfl) (by decide) c_isint_len isint_i isint_h
theorem ok1 (X : K.In h) (G : h.Ns mainGlobals mg) (c : Sy w K) (A : AllOk ⟨P, w, K, mg, base⟩ fsAll F 1) : AllOk ⟨P, w, K, mg, base⟩ fsAll F 2 := step_oldI (m := 2) A rfl rfl (OC.all_last (j := 1) (oko1 X G c (oko0 X G c (OC.all_zero))) (by decide) rfl rfl) (by decide) c_part_len part_i part_h
theorem ok2 (X : K.In h) (G : h.Ns mainGlobals mg) (c : Sy w K) (A : AllOk ⟨P, w, K, mg, base⟩ fsAll F 2) : AllOk ⟨P, w, K, mg, base⟩ fsAll F 3 := step_oldI (m := 3) A rfl rfl (OC.all_last (j := 2) (oko2 X G c (oko1 X G c (oko0 X G c (OC.all_zero)))) (by decide) rfl rfl) (by decide) c_isratio_len israt_i israt_h
theorem ok3 (X : K.In h) (G : h.Ns mainGlobals mg) (c : Sy w K) (A : AllOk ⟨P, w, K, mg, base⟩ fsAll F 3) : AllOk ⟨P, w, K, mg, base⟩ fsAll F 4 := step_oldI (m := 4) A rfl rfl (OC.all_last (j := 3) (oko3 X G c (oko2 X G c (oko1 X G c (oko0 X G c (OC.all_zero))))) (by decide) rfl rfl) (by decide) c_isless_len isless_i isless_h
def n_is_span : List Str := ["thing", "low", "high", "end"]
def b_is_span : List S := NX.b_isspan (fun i => n_is_span.getD i "") 2 3
theorem look4 : chkFn ⟨n_is_span, fsAll.take 4, bsAll, gsAll, csAll, naAll, ksAll⟩ 1 b_is_span (defBody st_is_span) (defScope st_is_span) = true := by decide +kernel
theorem ok4 (X : K.In h) (G : h.Ns mainGlobals mg) (c : Sy w K) (A : AllOk ⟨P, w, K, mg, base⟩ fsAll F 4) : AllOk ⟨P, w, K, mg, base⟩ fsAll F 5 := by
  obtain ⟨fd, Fu⟩ := c.t.d.def_ 4 (d := d4) rfl
  exact step_fn (N := n_is_span) (np := 1) (irs := b_is_span) A (gf X G c) Fu (He.glo_ok X G (c.t.d.fact 4 (f := .glo "is_span") rfl)) rfl rfl look4 (fun _ _ _ _ _ _ us hl => match us, hl with | [_], _ => rfl) rfl (isspan_ok (r := 2) (l := 3) rfl rfl)
def n_is_cuts : List Str := ["thing", "span", "one", "other"]
def b_is_cuts : List S := NX.b_iscuts (fun i => n_is_cuts.getD i "") 4 3
theorem look5 : chkFn ⟨n_is_cuts, fsAll.take 5, bsAll, gsAll, csAll, naAll, ksAll⟩ 1 b_is_cuts (defBody st_is_cuts) (defScope st_is_cuts) = true := by decide +kernel
theorem ok5 (X : K.In h) (G : h.Ns mainGlobals mg) (c : Sy w K) (A : AllOk ⟨P, w, K, mg, base⟩ fsAll F 5) : AllOk ⟨P, w, K, mg, base⟩ fsAll F 6 := by
  obtain ⟨fd, Fu⟩ := c.t.d.def_ 5 (d := d5) rfl
  exact step_fn (N := n_is_cuts) (np := 1) (irs := b_is_cuts) A (gf X G c) Fu (He.glo_ok X G (c.t.d.fact 5 (f := .glo "is_cuts") rfl)) rfl rfl look5 (fun _ _ _ _ _ _ us hl => match us, hl with | [_], _ => rfl) rfl (iscuts_ok (s := 4) (l := 3) rfl rfl)
theorem ok6 (X : K.In h) (G : h.Ns mainGlobals mg) (c : Sy w K) (A : AllOk ⟨P, w, K, mg, base⟩ fsAll F 6) : AllOk ⟨P, w, K, mg, base⟩ fsAll F 7 := step_oldI (m := 5) A rfl rfl (OC.all_last (j := 4) (oko4 X G c (oko3 X G c (oko2 X G c (oko1 X G c (oko0 X G c (OC.all_zero)))))) (by decide) rfl rfl) (by decide) c_bag_len bag_i bag_h
theorem ok7 (X : K.In h) (G : h.Ns mainGlobals mg) (c : Sy w K) (A : AllOk ⟨P, w, K, mg, base⟩ fsAll F 7) : AllOk ⟨P, w, K, mg, base⟩ fsAll F 8 := step_oldI (m := 6) A rfl rfl (OC.all_last (j := 5) (oko5 X G c (oko4 X G c (oko3 X G c (oko2 X G c (oko1 X G c (oko0 X G c (OC.all_zero))))))) (by decide) rfl rfl) (by decide) c_take_len take_i take_h
theorem ok8 (X : K.In h) (G : h.Ns mainGlobals mg) (c : Sy w K) (A : AllOk ⟨P, w, K, mg, base⟩ fsAll F 8) : AllOk ⟨P, w, K, mg, base⟩ fsAll F 9 := step_oldI (m := 7) A rfl rfl (OC.all_last (j := 6) (oko6 X G c (oko5 X G c (oko4 X G c (oko3 X G c (oko2 X G c (oko1 X G c (oko0 X G c (OC.all_zero)))))))) (by decide) rfl rfl) (by decide) c_part_len part_i part_h
theorem ok9 (X : K.In h) (G : h.Ns mainGlobals mg) (c : Sy w K) (A : AllOk ⟨P, w, K, mg, base⟩ fsAll F 9) : AllOk ⟨P, w, K, mg, base⟩ fsAll F 10 := step_oldI (m := 8) A rfl rfl (OC.all_last (j := 7) (oko7 X G c (oko6 X G c (oko5 X G c (oko4 X G c (oko3 X G c (oko2 X G c (oko1 X G c (oko0 X G c (OC.all_zero))))))))) (by decide) rfl rfl) (by decide) c_lowest_len lowest_i lowest_h
def n_law_odd : List Str := ["_law_bag_here", "_law_some"]
def b_law_odd : List S := NX.b_odd7 7
theorem look10 : chkFn ⟨n_law_odd, fsAll.take 10, bsAll, gsAll, csAll, naAll, ksAll⟩ 1 b_law_odd (defBody st_law_odd) (defScope st_law_odd) = true := by decide +kernel
theorem ok10 (X : K.In h) (G : h.Ns mainGlobals mg) (c : Sy w K) (A : AllOk ⟨P, w, K, mg, base⟩ fsAll F 10) : AllOk ⟨P, w, K, mg, base⟩ fsAll F 11 := by
  obtain ⟨fd, Fu⟩ := c.t.d.def_ 10 (d := d10) rfl
  exact step_fn (N := n_law_odd) (np := 1) (irs := b_law_odd) A (gf X G c) Fu (He.glo_ok X G (c.t.d.fact 10 (f := .glo "_law_odd") rfl)) rfl rfl look10 (fun _ _ _ _ _ _ us hl => match us, hl with | [_], _ => rfl) rfl (odd7_ok (t := 7) rfl)
def n_law_units : List Str := ["_law_bag_here", "_law_grain", "_law_found", "_law_inside", "_law_pace", "_law_unit"]
def b_law_units : List S := NX.b_unitsL 7
theorem look11 : chkFn ⟨n_law_units, fsAll.take 11, bsAll, gsAll, csAll, naAll, ksAll⟩ 2 b_law_units (defBody st_law_units) (defScope st_law_units) = true := by decide +kernel
theorem ok11 (X : K.In h) (G : h.Ns mainGlobals mg) (c : Sy w K) (A : AllOk ⟨P, w, K, mg, base⟩ fsAll F 11) : AllOk ⟨P, w, K, mg, base⟩ fsAll F 12 := by
  obtain ⟨fd, Fu⟩ := c.t.d.def_ 11 (d := d11) rfl
  exact step_fn (N := n_law_units) (np := 2) (irs := b_law_units) A (gf X G c) Fu (He.glo_ok X G (c.t.d.fact 11 (f := .glo "_law_units") rfl)) rfl rfl look11 (fun _ _ _ _ _ _ us hl => match us, hl with | [_, _], _ => rfl) rfl (unitsL_ok (t := 7) rfl)
def n_law_form : List Str := ["_law_units_here", "_law_grain", "_law_found", "_law_unit", "_law_low", "_law_high"]
def b_law_form : List S := NX.b_form (fun i => n_law_form.getD i "") 9
theorem look12 : chkFn ⟨n_law_form, fsAll.take 12, bsAll, gsAll, csAll, naAll, ksAll⟩ 2 b_law_form (defBody st_law_form) (defScope st_law_form) = true := by decide +kernel
theorem ok12 (X : K.In h) (G : h.Ns mainGlobals mg) (c : Sy w K) (A : AllOk ⟨P, w, K, mg, base⟩ fsAll F 12) : AllOk ⟨P, w, K, mg, base⟩ fsAll F 13 := by
  obtain ⟨fd, Fu⟩ := c.t.d.def_ 12 (d := d12) rfl
  exact step_fn (N := n_law_form) (np := 2) (irs := b_law_form) A (gf X G c) Fu (He.glo_ok X G (c.t.d.fact 12 (f := .glo "_law_form") rfl)) rfl rfl look12 (fun _ _ _ _ _ _ us hl => match us, hl with | [_, _], _ => rfl) rfl (form_ok (l := 9) rfl)
def n_law_drawn_grain : List Str := ["_law_bag_here"]
def b_law_drawn_grain : List S := NX.b_drawngrain 7
theorem look13 : chkFn ⟨n_law_drawn_grain, fsAll.take 13, bsAll, gsAll, csAll, naAll, ksAll⟩ 1 b_law_drawn_grain (defBody st_law_drawn_grain) (defScope st_law_drawn_grain) = true := by decide +kernel
theorem ok13 (X : K.In h) (G : h.Ns mainGlobals mg) (c : Sy w K) (A : AllOk ⟨P, w, K, mg, base⟩ fsAll F 13) : AllOk ⟨P, w, K, mg, base⟩ fsAll F 14 := by
  obtain ⟨fd, Fu⟩ := c.t.d.def_ 13 (d := d13) rfl
  exact step_fn (N := n_law_drawn_grain) (np := 1) (irs := b_law_drawn_grain) A (gf X G c) Fu (He.glo_ok X G (c.t.d.fact 13 (f := .glo "_law_drawn_grain") rfl)) rfl rfl look13 (fun _ _ _ _ _ _ us hl => match us, hl with | [_], _ => rfl) rfl (drawngrain_ok (t := 7) rfl)
def n_law_is_ratio : List Str := ["_law_thing", "_law_part_here"]
def b_law_is_ratio : List S := NX.b_isratL (fun i => n_law_is_ratio.getD i "") 8
theorem look14 : chkFn ⟨n_law_is_ratio, fsAll.take 14, bsAll, gsAll, csAll, naAll, ksAll⟩ 1 b_law_is_ratio (defBody st_law_is_ratio) (defScope st_law_is_ratio) = true := by decide +kernel
theorem ok14 (X : K.In h) (G : h.Ns mainGlobals mg) (c : Sy w K) (A : AllOk ⟨P, w, K, mg, base⟩ fsAll F 14) : AllOk ⟨P, w, K, mg, base⟩ fsAll F 15 := by
  obtain ⟨fd, Fu⟩ := c.t.d.def_ 14 (d := d14) rfl
  exact step_fn (N := n_law_is_ratio) (np := 1) (irs := b_law_is_ratio) A (gf X G c) Fu (He.glo_ok X G (c.t.d.fact 14 (f := .glo "_law_is_ratio") rfl)) rfl rfl look14 (fun _ _ _ _ _ _ us hl => match us, hl with | [_], _ => rfl) rfl (isratL_ok (cP := 8) rfl)
def n_law_is_span : List Str := ["_law_thing", "_law_low", "_law_high", "_law_end_here"]
def b_law_is_span : List S := NX.b_isspanL (fun i => n_law_is_span.getD i "") 14
theorem look15 : chkFn ⟨n_law_is_span, fsAll.take 15, bsAll, gsAll, csAll, naAll, ksAll⟩ 1 b_law_is_span (defBody st_law_is_span) (defScope st_law_is_span) = true := by decide +kernel
theorem ok15 (X : K.In h) (G : h.Ns mainGlobals mg) (c : Sy w K) (A : AllOk ⟨P, w, K, mg, base⟩ fsAll F 15) : AllOk ⟨P, w, K, mg, base⟩ fsAll F 16 := by
  obtain ⟨fd, Fu⟩ := c.t.d.def_ 15 (d := d15) rfl
  exact step_fn (N := n_law_is_span) (np := 1) (irs := b_law_is_span) A (gf X G c) Fu (He.glo_ok X G (c.t.d.fact 15 (f := .glo "_law_is_span") rfl)) rfl rfl look15 (fun _ _ _ _ _ _ us hl => match us, hl with | [_], _ => rfl) rfl (isspanL_ok (cR := 14) rfl)
def n_law_is_set : List Str := ["_law_thing", "_law_span", "_law_one", "_law_other"]
def b_law_is_set : List S := NX.b_issetL (fun i => n_law_is_set.getD i "") 15
theorem look16 : chkFn ⟨n_law_is_set, fsAll.take 16, bsAll, gsAll, csAll, naAll, ksAll⟩ 1 b_law_is_set (defBody st_law_is_set) (defScope st_law_is_set) = true := by decide +kernel
theorem ok16 (X : K.In h) (G : h.Ns mainGlobals mg) (c : Sy w K) (A : AllOk ⟨P, w, K, mg, base⟩ fsAll F 16) : AllOk ⟨P, w, K, mg, base⟩ fsAll F 17 := by
  obtain ⟨fd, Fu⟩ := c.t.d.def_ 16 (d := d16) rfl
  exact step_fn (N := n_law_is_set) (np := 1) (irs := b_law_is_set) A (gf X G c) Fu (He.glo_ok X G (c.t.d.fact 16 (f := .glo "_law_is_set") rfl)) rfl rfl look16 (fun _ _ _ _ _ _ us hl => match us, hl with | [_], _ => rfl) rfl (issetL_ok (cS := 15) rfl)
def n_law_end : List Str := ["_law_bag_here", "_law_end_here", "_law_some"]
def b_law_end : List S := NX.b_end7 7
theorem look17 : chkFn ⟨n_law_end, fsAll.take 17, bsAll, gsAll, csAll, naAll, ksAll⟩ 2 b_law_end (defBody st_law_end) (defScope st_law_end) = true := by decide +kernel
theorem ok17 (X : K.In h) (G : h.Ns mainGlobals mg) (c : Sy w K) (A : AllOk ⟨P, w, K, mg, base⟩ fsAll F 17) : AllOk ⟨P, w, K, mg, base⟩ fsAll F 18 := by
  obtain ⟨fd, Fu⟩ := c.t.d.def_ 17 (d := d17) rfl
  exact step_fn (N := n_law_end) (np := 2) (irs := b_law_end) A (gf X G c) Fu (He.glo_ok X G (c.t.d.fact 17 (f := .glo "_law_end") rfl)) rfl rfl look17 (fun _ _ _ _ _ _ us hl => match us, hl with | [_, _], _ => rfl) rfl (end7_ok (cT := 7) rfl)
def n_law_changed : List Str := ["_law_bag_here", "_law_some", "_law_at", "_law_way", "_law_low", "_law_high", "_law_others"]
def b_law_changed : List S := NX.b_changed7 10 7 17
theorem look18 : chkFn ⟨n_law_changed, fsAll.take 18, bsAll, gsAll, csAll, naAll, ksAll⟩ 2 b_law_changed (defBody st_law_changed) (defScope st_law_changed) = true := by decide +kernel
theorem ok18 (X : K.In h) (G : h.Ns mainGlobals mg) (c : Sy w K) (A : AllOk ⟨P, w, K, mg, base⟩ fsAll F 18) : AllOk ⟨P, w, K, mg, base⟩ fsAll F 19 := by
  obtain ⟨fd, Fu⟩ := c.t.d.def_ 18 (d := d18) rfl
  exact step_fn (N := n_law_changed) (np := 2) (irs := b_law_changed) A (gf X G c) Fu (He.glo_ok X G (c.t.d.fact 18 (f := .glo "_law_changed") rfl)) rfl rfl look18 (fun _ _ _ _ _ _ us hl => match us, hl with | [_, _], _ => rfl) rfl (changed7_ok (cO := 10) (cT := 7) (cE := 17) rfl rfl rfl)
def n_law : List Str := ["_law_script", "_law_k", "_law_bag_here", "_law_turn", "_law_grain", "_law_some", "_law_thing", "_law_shown", "_law_again"]
def b_law : List S := NX.b_law07 (fun i => n_law.getD i "") 6 13 12 11 5 18 10 16
theorem look19 : chkFn ⟨n_law, fsAll.take 19, bsAll, gsAll, csAll, naAll, ksAll⟩ 1 b_law (defBody st_law) (defScope st_law) = true := by decide +kernel
theorem ok19 (X : K.In h) (G : h.Ns mainGlobals mg) (c : Sy w K) (A : AllOk ⟨P, w, K, mg, base⟩ fsAll F 19) : AllOk ⟨P, w, K, mg, base⟩ fsAll F 20 := by
  obtain ⟨fd, Fu⟩ := c.t.d.def_ 19 (d := d19) rfl
  exact step_fn (N := n_law) (np := 1) (irs := b_law) A (gf X G c) Fu (He.glo_ok X G (c.t.d.fact 19 (f := .glo "law") rfl)) rfl rfl look19 (fun _ _ _ _ _ _ us hl => match us, hl with | [_], _ => rfl) rfl (law07_ok (b := 6) (g := 13) (f := 12) (u := 11) (i := 5) (c := 18) (o := 10) (s := 16) rfl rfl rfl rfl rfl rfl rfl rfl)
theorem fok (X : K.In h) (G : h.Ns mainGlobals mg) (c : Sy w K) : FOK ⟨P, w, K, mg, base⟩ 20 (.fn "law") lawC := all_last (j := 19) (ok19 X G c (ok18 X G c (ok17 X G c (ok16 X G c (ok15 X G c (ok14 X G c (ok13 X G c (ok12 X G c (ok11 X G c (ok10 X G c (ok9 X G c (ok8 X G c (ok7 X G c (ok6 X G c (ok5 X G c (ok4 X G c (ok3 X G c (ok2 X G c (ok1 X G c (ok0 X G c (all_zero))))))))))))))))))))) (by decide) rfl rfl
end
end NX.K07
open PySem PySem.W PySem.Calls PyProof.Rows in
set_option maxRecDepth 100000 in
set_option maxHeartbeats 0 in
theorem PySem.Challenge.cw_onecut_k07_sets_of_cuts_known_holds : PySem.Challenge.rw_onecut_k07_sets_of_cuts_known.Holds := by
  w_on; o_law
  refine HandSHeadRun.head_any (r := OpenLaw.row PySem.Challenge.rw_onecut_k07_sets_of_cuts_known) (q := view (OpenLaw.row PySem.Challenge.rw_onecut_k07_sets_of_cuts_known).prog [23]) (H := NX.K07.hk) (ob := NX.K07.ob) (M := 8000) (loose := NX.K07.names) (d := HandSHeadRun.topDef (OpenLaw.row PySem.Challenge.rw_onecut_k07_sets_of_cuts_known).prog 23) (kwd := []) NX.K07.ob_eq
    (by kernel_rfl) (fun s => by kernel_rfl) NX.K07.run (by kernel_rfl) (by kernel_rfl) (by kernel_rfl) (by rfl) (by first | assumption | decide +kernel) (by decide +kernel) ⟨rfl, rfl, rfl, rfl, rfl, by decide +kernel⟩ ?hw ?hc
  case hw => w_witness2
  case hc =>
    refine NX.walkN (l := PySem.Challenge.rw_onecut_k07_sets_of_cuts_known) (n := 63) (k := 20) (c := NX.lawC) (x := "law") rfl (by decide) (by kernel_rfl) (by kernel_rfl) ⟨rfl, by decide, by decide⟩ ?F (fun ns hn => ⟨ns, rfl, hn, rfl⟩)
    intro w mg h Y G
    obtain ⟨K, KX, c⟩ := Y
    exact ⟨K, KX, fun base _ _ => NX.K07.fok KX G c⟩
