import PyProof.Rows.All
import Wide.All
import OpenK.AllK
import Wide.FinOn
import PyProof.FactsAll.list
import PySem.Challenge.RW_pd_scribe_3_04
open PySem PyProof.Rows
set_option Elab.async false
set_option autoImplicit false
set_option linter.unusedVariables false
set_option linter.unusedSimpArgs false
namespace Mine

/-- plain data -/
inductive V where
  | none
  | bool (b : Bool)
  | int (i : Int)
  | str (l : List Nat)
  | list (xs : List V)
  | tup (xs : List V)

mutual
def V.py : V → PyData
  | .none => .none
  | .bool b => .bool b
  | .int i => .int i
  | .str l => .str ⟨l.toArray⟩
  | .list xs => .list (V.pys xs)
  | .tup xs => .tuple (V.pys xs)
def V.pys : List V → List PyData
  | [] => []
  | x :: r => x.py :: V.pys r
end

mutual
/-- the value v bears the data d in the heap h, its lists at addresses with P -/
def Rep (P : Addr → Prop) (h : Heap) : V → Value → Prop
  | .none, v => v = .none
  | .bool b, v => v = .bool b
  | .int i, v => ∃ t, v = .int i t
  | .str l, v => (∃ t, v = .str ⟨l.toArray⟩ t) ∧ ∀ c ∈ l, c < 1114112
  | .list ds, v => ∃ a vs, v = .ref a ∧ P a ∧ h.PlainList a (List.toArray vs) ∧ Reps P h ds vs
  | .tup ds, v => ∃ a vs, v = .ref a ∧ IsTup h a (List.toArray vs) ∧ Reps P h ds vs
def Reps (P : Addr → Prop) (h : Heap) : List V → List Value → Prop
  | [], vs => vs = []
  | d :: ds, vs => ∃ v r, vs = v :: r ∧ Rep P h d v ∧ Reps P h ds r
end


mutual
theorem Rep.move {P P' : Addr → Prop} {h h' : Heap} (hl : ∀ a l, P a → h.PlainList a l → h'.PlainList a l ∧ P' a) (ht : ∀ a l, IsTup h a l → IsTup h' a l) :
    ∀ {d : V} {v : Value}, Rep P h d v → Rep P' h' d v
  | .none, _, r => by simpa [Rep] using r
  | .bool _, _, r => by simpa [Rep] using r
  | .int _, _, r => by simpa [Rep] using r
  | .str _, _, r => by simpa [Rep] using r
  | .list ds, v, r => by
    simp only [Rep] at r ⊢
    obtain ⟨a, vs, rfl, p, i, rs⟩ := r
    exact ⟨a, vs, rfl, (hl a _ p i).2, (hl a _ p i).1, Reps.move hl ht rs⟩
  | .tup ds, v, r => by
    simp only [Rep] at r ⊢
    obtain ⟨a, vs, rfl, i, rs⟩ := r
    exact ⟨a, vs, rfl, ht _ _ i, Reps.move hl ht rs⟩
theorem Reps.move {P P' : Addr → Prop} {h h' : Heap} (hl : ∀ a l, P a → h.PlainList a l → h'.PlainList a l ∧ P' a) (ht : ∀ a l, IsTup h a l → IsTup h' a l) :
    ∀ {ds : List V} {vs : List Value}, Reps P h ds vs → Reps P' h' ds vs
  | [], _, r => by simpa [Reps] using r
  | d :: ds, vs, r => by
    simp only [Reps] at r ⊢
    obtain ⟨v, vs', rfl, r1, r2⟩ := r
    exact ⟨v, vs', rfl, Rep.move hl ht r1, Reps.move hl ht r2⟩
end

abbrev Ext (h h' : Heap) : Prop := ∀ b o, h.get? b = some o → h'.get? b = some o

theorem isList_ext {h h' : Heap} (k : Ext h h') {a l} (x : h.PlainList a l) : h'.PlainList a l := let ⟨n, ho⟩ := x; ⟨n, k _ _ ho⟩

theorem Rep.keeps {P : Addr → Prop} {h h' : Heap} (k : Ext h h') {d v} (r : Rep P h d v) : Rep P h' d v :=
  Rep.move (fun _ _ p x => ⟨isList_ext k x, p⟩) (fun _ _ x => x.keeps k) r
theorem Reps.keeps {P : Addr → Prop} {h h' : Heap} (k : Ext h h') {d v} (r : Reps P h d v) : Reps P h' d v :=
  Reps.move (fun _ _ p x => ⟨isList_ext k x, p⟩) (fun _ _ x => x.keeps k) r
theorem Rep.weaken {P P' : Addr → Prop} {h : Heap} (k : ∀ a, P a → P' a) {d v} (r : Rep P h d v) : Rep P' h d v :=
  Rep.move (fun _ _ p x => ⟨x, k _ p⟩) (fun _ _ x => x) r
theorem Reps.weaken {P P' : Addr → Prop} {h : Heap} (k : ∀ a, P a → P' a) {d v} (r : Reps P h d v) : Reps P' h d v :=
  Reps.move (fun _ _ p x => ⟨x, k _ p⟩) (fun _ _ x => x) r

theorem Reps.sameBut {P : Addr → Prop} {h h' : Heap} {b : Addr} (hs : Heap.SameBut b h h') (nl : ∀ l, ¬ h.PlainList b l) (nt : ∀ l, ¬ IsTup h b l) {d v} (r : Reps P h d v) : Reps P h' d v :=
  Reps.move (fun a l p x => ⟨let ⟨n, ho⟩ := id x; ⟨n, (hs.2 a (fun e => nl l (e ▸ x))).trans ho⟩, p⟩)
    (fun a l x => let ⟨o, ho, q⟩ := id x; ⟨o, (hs.2 a (fun e => nt l (e ▸ x))).trans ho, q⟩) r
/-- a list outside P may change -/
theorem Rep.sameButL {P : Addr → Prop} {h h' : Heap} {b : Addr} {l₀ : Array Value} (hs : Heap.SameBut b h h') (nl : ¬ P b) (il : h.PlainList b l₀) {d v} (r : Rep P h d v) : Rep P h' d v :=
  Rep.move (fun a l p x => ⟨let ⟨n, ho⟩ := id x; ⟨n, (hs.2 a (fun e => nl (e ▸ p))).trans ho⟩, p⟩)
    (fun a l x => let ⟨o, ho, q⟩ := id x; ⟨o, (hs.2 a (fun e => by
      subst e
      obtain ⟨n', ho'⟩ := il
      rw [ho] at ho'; cases ho'
      exact absurd (show Value.type "list" = Value.type "tuple" from q.1) (by decide))).trans ho, q⟩) r
theorem Reps.sameButL {P : Addr → Prop} {h h' : Heap} {b : Addr} {l₀ : Array Value} (hs : Heap.SameBut b h h') (nl : ¬ P b) (il : h.PlainList b l₀) {d v} (r : Reps P h d v) : Reps P h' d v :=
  Reps.move (fun a l p x => ⟨let ⟨n, ho⟩ := id x; ⟨n, (hs.2 a (fun e => nl (e ▸ p))).trans ho⟩, p⟩)
    (fun a l x => let ⟨o, ho, q⟩ := id x; ⟨o, (hs.2 a (fun e => by
      subst e
      obtain ⟨n', ho'⟩ := il
      rw [ho] at ho'; cases ho'
      exact absurd (show Value.type "list" = Value.type "tuple" from q.1) (by decide))).trans ho, q⟩) r

theorem Reps.length {P h} : ∀ {ds : List V} {vs : List Value}, Reps P h ds vs → vs.length = ds.length
  | [], _, r => by simp only [Reps] at r; subst r; rfl
  | _ :: ds, _, r => by
    simp only [Reps] at r
    obtain ⟨v, vs', rfl, _, r2⟩ := r
    simp [Reps.length r2]
theorem Reps.nil {P h} : Reps P h [] [] := by simp [Reps]
theorem Reps.cons {P h d ds v vs} (a : Rep P h d v) (b : Reps P h ds vs) : Reps P h (d :: ds) (v :: vs) := by simp only [Reps]; exact ⟨v, vs, rfl, a, b⟩
theorem Reps.append {P h} : ∀ {ds ds' : List V} {vs vs' : List Value}, Reps P h ds vs → Reps P h ds' vs' → Reps P h (ds ++ ds') (vs ++ vs')
  | [], _, _, _, r, r' => by simp only [Reps] at r; subst r; exact r'
  | _ :: _, _, _, _, r, r' => by
    simp only [Reps] at r
    obtain ⟨v, vs', rfl, a, b⟩ := r
    exact Reps.cons a (Reps.append b r')
theorem Reps.get {P h} : ∀ {ds : List V} {vs : List Value} {i : Nat} {d : V}, Reps P h ds vs → ds[i]? = some d → ∃ v, vs[i]? = some v ∧ Rep P h d v
  | [], _, _, _, _, e => by simp at e
  | _ :: _, _, 0, _, r, e => by
    simp only [Reps] at r
    obtain ⟨v, vs', rfl, a, b⟩ := r
    simp at e; subst e; exact ⟨v, rfl, a⟩
  | _ :: _, _, i + 1, _, r, e => by
    simp only [Reps] at r
    obtain ⟨v, vs', rfl, a, b⟩ := r
    simpa using Reps.get b (by simpa using e)
theorem Reps.take {P h} (n : Nat) : ∀ {ds : List V} {vs : List Value}, Reps P h ds vs → Reps P h (ds.take n) (vs.take n) := by
  induction n with
  | zero => intro ds vs _; simpa using Reps.nil
  | succ n ih =>
    intro ds vs r
    cases ds with
    | nil => simp only [Reps] at r; subst r; exact Reps.nil
    | cons d ds =>
      simp only [Reps] at r
      obtain ⟨v, vs', rfl, a, b⟩ := r
      exact Reps.cons a (ih b)
theorem Reps.drop {P h} (n : Nat) : ∀ {ds : List V} {vs : List Value}, Reps P h ds vs → Reps P h (ds.drop n) (vs.drop n) := by
  induction n with
  | zero => intro ds vs r; simpa using r
  | succ n ih =>
    intro ds vs r
    cases ds with
    | nil => simp only [Reps] at r; subst r; exact Reps.nil
    | cons d ds =>
      simp only [Reps] at r
      obtain ⟨v, vs', rfl, a, b⟩ := r
      simpa using ih b
mutual
theorem Rep.reads {P : Addr → Prop} {h : Heap} : ∀ {d : V} {v : Value}, Rep P h d v → ∃ as, Reads h v d.py as
  | .none, _, r => by simp only [Rep] at r; subst r; exact ⟨_, .none⟩
  | .bool _, _, r => by simp only [Rep] at r; subst r; exact ⟨_, .bool _⟩
  | .int _, _, r => by simp only [Rep] at r; obtain ⟨t, rfl⟩ := r; exact ⟨_, .int _ _⟩
  | .str _, _, r => by simp only [Rep] at r; obtain ⟨⟨t, rfl⟩, _⟩ := r; exact ⟨_, .str _ _⟩
  | .list ds, v, r => by
    simp only [Rep] at r
    obtain ⟨a, vs, rfl, p, ⟨n, ho⟩, rs⟩ := r
    obtain ⟨as, q⟩ := Reps.reads rs
    exact ⟨_, .list ho rfl rfl (by simpa using q)⟩
  | .tup ds, v, r => by
    simp only [Rep] at r
    obtain ⟨a, vs, rfl, ⟨o, ho, hc, n, hd⟩, rs⟩ := r
    obtain ⟨as, q⟩ := Reps.reads rs
    exact ⟨_, .tuple ho hc hd (by simpa using q)⟩
theorem Reps.reads {P : Addr → Prop} {h : Heap} : ∀ {ds : List V} {vs : List Value}, Reps P h ds vs → ∃ as, ReadsAll h vs (V.pys ds) as
  | [], _, r => by simp only [Reps] at r; subst r; exact ⟨_, .nil⟩
  | _ :: ds, _, r => by
    simp only [Reps] at r
    obtain ⟨v, vs', rfl, a, b⟩ := r
    obtain ⟨_, q⟩ := Rep.reads a
    obtain ⟨_, q'⟩ := Reps.reads b
    exact ⟨_, .cons q q'⟩
end

mutual
theorem Rep.canLay {P : Addr → Prop} {h : Heap} : ∀ {d : V} {v : Value}, Rep P h d v → d.py.canLay0 = true
  | .none, _, _ => by simp [V.py, PyData.canLay0]
  | .bool _, _, _ => by simp [V.py, PyData.canLay0]
  | .int _, _, _ => by simp [V.py, PyData.canLay0]
  | .str _, _, r => by
    simp only [Rep] at r
    simp only [V.py, PyData.canLay0, PyData.strOk, List.all_toArray, List.all_eq_true, decide_eq_true_eq]
    exact r.2
  | .list ds, v, r => by
    simp only [Rep] at r
    obtain ⟨a, vs, rfl, p, _, rs⟩ := r
    simp only [V.py, PyData.canLay0]; exact Reps.canLay rs
  | .tup ds, v, r => by
    simp only [Rep] at r
    obtain ⟨a, vs, rfl, _, rs⟩ := r
    simp only [V.py, PyData.canLay0]; exact Reps.canLay rs
theorem Reps.canLay {P : Addr → Prop} {h : Heap} : ∀ {ds : List V} {vs : List Value}, Reps P h ds vs → PyData.canLayAll0 (V.pys ds) = true
  | [], _, _ => by simp [V.pys, PyData.canLayAll0]
  | _ :: ds, _, r => by
    simp only [Reps] at r
    obtain ⟨v, vs', rfl, a, b⟩ := r
    simp only [V.pys, PyData.canLayAll0, Bool.and_eq_true]
    exact ⟨Rep.canLay a, Reps.canLay b⟩
end


/-- all that stood stands -/
structure Kp (s s' : Shared) : Prop where
  k : Keeps s s'

theorem Kp.refl (s : Shared) : Kp s s := ⟨s.heap, s.toks, rfl, fun _ _ e => e⟩
theorem Kp.tok (s : Shared) (k : Nat) : Kp s { s with toks := k } := ⟨s.heap, k, rfl, fun _ _ e => e⟩
theorem Kp.mk' {s : Shared} {h : Heap} {k : Nat} (e : Ext s.heap h) : Kp s { s with heap := h, toks := k } := ⟨h, k, rfl, e⟩
theorem Kp.trans {a b c : Shared} (x : Kp a b) (y : Kp b c) : Kp a c := by
  obtain ⟨h, t, rfl, k⟩ := x
  obtain ⟨h', t', rfl, k'⟩ := y
  exact ⟨h', t', rfl, fun b o e => k' b o (k b o e)⟩
theorem Kp.ext {a b : Shared} (x : Kp a b) : Ext a.heap b.heap := by
  obtain ⟨h, t, rfl, k⟩ := x; exact k

/-- what a name is bound to: data, or a list of the frame's own that may be changed -/
inductive Bd where
  | dat (d : V)
  | own (ds : List V)

abbrev Sg := List (Str × Bd)

def VarIs (env : Env) (h : Heap) (x : Str) (v : Value) : Prop :=
  (env.kindOf x = some .local ∧ ∃ m, h.Ns env.locals m ∧ m x = some v) ∨
  (env.kindOf x = some .cell ∧ ∃ c, env.cells.lookup x = some c ∧ h.IsCell c (some v))

structure Gl where
  mg : Str → Option Value
  mb : Str → Option Value
  K : List (Addr × Obj)

structure Good (G : Gl) (h : Heap) : Prop where
  g : h.Ns mainGlobals G.mg
  b : h.Ns builtinsNs G.mb
  nolimit : h.NoLimit
  nodig : ∃ mc, h.Ns cStatics mc ∧ mc "sys.int_max_str_digits" = none
  k : ∀ a o, G.K.lookup a = some o → h.get? a = some o

theorem Good.keeps {G h h'} (g : Good G h) (k : Ext h h') : Good G h' :=
  ⟨g.g.keeps k, g.b.keeps k, g.nolimit.keeps k, let ⟨mc, a, b⟩ := g.nodig; ⟨mc, a.keeps k, b⟩, fun a o e => k _ _ (g.k a o e)⟩

structure Room (A : Around) (n : Nat) : Prop where
  handled : A.handled = none
  depth : A.depth + n < recursionLimit
  units : A.units + 4 * n + 80 < cLine

theorem Room.deeper {A n env} (r : Room A (n + 1)) : Room (A.deeper env) n :=
  ⟨r.handled, by have := r.depth; show A.depth + 1 + n < _; omega, by have := r.units; show A.units + 3 + 4 * n + 80 < _; omega⟩
theorem Room.le {A n m} (r : Room A n) (h : m ≤ n) : Room A m := ⟨r.handled, by have := r.depth; omega, by have := r.units; omega⟩

/-- where a frame stands -/
structure Cx where
  prog : Program
  w : World
  G : Gl
  A : Around
  n : Nat
  env : Env
  s₀ : Shared
  P : Addr → Prop
  mt : Bool

abbrev Cx.M (C : Cx) : Model := model C.prog C.w

structure CxOk (C : Cx) : Prop where
  kind : C.env.scope.kind = .function
  gl : C.env.globals = mainGlobals
  bi : C.env.builtins = builtinsNs
  newL : C.mt = true → C.s₀.heap.get? C.env.locals = none
  newC : C.mt = true → ∀ x c, C.env.cells.lookup x = some c → C.s₀.heap.get? c = none
  cellsOk : ∀ x, C.env.kindOf x = some .cell → (C.env.cells.lookup x).isSome = true
  apart : ∀ x y c, C.env.cells.lookup x = some c → C.env.cells.lookup y = some c → x = y
  good : Good C.G C.s₀.heap
  new : ∀ a, C.s₀.heap.get? a = none → C.P a
  room : Room C.A C.n

/-- addresses allowed: those of P, not those of the lists owned when c -/
def Pr (C : Cx) (O : Str → Option Addr) (c : Bool) (a : Addr) : Prop := C.P a ∧ (c = true → ∀ x, O x ≠ some a)

def BdIs (C : Cx) (O : Str → Option Addr) (h : Heap) (x : Str) : Bd → Prop
  | .dat d => ∃ v, VarIs C.env h x v ∧ Rep (Pr C O true) h d v
  | .own ds => ∃ a vs, VarIs C.env h x (.ref a) ∧ O x = some a ∧ C.P a ∧ h.PlainList a (List.toArray vs) ∧ Reps (Pr C O true) h ds vs

structure Rel (C : Cx) (O : Str → Option Addr) (σ : Sg) (s : Shared) : Prop where
  ok : CxOk C
  same : Kp C.s₀ s
  ns : ∃ m, s.heap.Ns C.env.locals m
  cells : ∀ x c, C.env.cells.lookup x = some c → ∃ v, s.heap.IsCell c v
  vars : ∀ x b, σ.lookup x = some b → BdIs C O s.heap x b
  owned : ∀ x a, O x = some a → C.s₀.heap.get? a = none ∧ ∃ l, s.heap.PlainList a l
  inj : ∀ x y a, O x = some a → O y = some a → x = y

def Ev (C : Cx) (σ : Sg) (e : Expr) (c : Bool) (d : V) : Prop :=
  ∀ O s, Rel C O σ s → wpAny C.M C.A (eval e C.env) (fun v s' => Kp s s' ∧ Rep (Pr C O c) s'.heap d v) (fun _ _ => False) s

def Tst (C : Cx) (σ : Sg) (e : Expr) (b : Bool) : Prop :=
  ∀ O s, Rel C O σ s → wpAny C.M C.A (isTrue e C.env (eval e C.env)) (fun r s' => r = b ∧ Kp s s') (fun _ _ => False) s


theorem VarIs.keeps {env h h' x v} (k : Ext h h') (r : VarIs env h x v) : VarIs env h' x v := by
  rcases r with ⟨a, m, n, e⟩ | ⟨a, c, n, e⟩
  · exact .inl ⟨a, m, n.keeps k, e⟩
  · exact .inr ⟨a, c, n, e.keeps k⟩

theorem BdIs.keeps {C O h h' x b} (k : Ext h h') (r : BdIs C O h x b) : BdIs C O h' x b := by
  cases b with
  | dat d => obtain ⟨v, a, b⟩ := r; exact ⟨v, a.keeps k, b.keeps k⟩
  | own d => obtain ⟨a, vs, x, y, p, z, w⟩ := r; exact ⟨a, vs, x.keeps k, y, p, isList_ext k z, w.keeps k⟩

theorem Rel.keeps {C O σ s s'} (r : Rel C O σ s) (k : Kp s s') : Rel C O σ s' :=
  ⟨r.ok, r.same.trans k, let ⟨m, x⟩ := r.ns; ⟨m, x.keeps k.ext⟩, fun x c e => let ⟨v, y⟩ := r.cells x c e; ⟨v, y.keeps k.ext⟩,
    fun x b e => (r.vars x b e).keeps k.ext, fun x a e => ⟨(r.owned x a e).1, let ⟨l, y⟩ := (r.owned x a e).2; ⟨l, isList_ext k.ext y⟩⟩, r.inj⟩

theorem Rel.good {C O σ s} (r : Rel C O σ s) : Good C.G s.heap := r.ok.good.keeps r.same.ext

mutual
def V.flat : V → Bool
  | .list _ => false
  | .tup xs => V.flats xs
  | .none => true
  | .bool _ => true
  | .int _ => true
  | .str _ => true
def V.flats : List V → Bool
  | [] => true
  | x :: r => x.flat && V.flats r
end

mutual
theorem Rep.flat {P P' : Addr → Prop} {h : Heap} : ∀ {d : V} {v : Value}, d.flat = true → Rep P h d v → Rep P' h d v
  | .none, _, _, r => by simpa [Rep] using r
  | .bool _, _, _, r => by simpa [Rep] using r
  | .int _, _, _, r => by simpa [Rep] using r
  | .str _, _, _, r => by simpa [Rep] using r
  | .list ds, v, f, r => by simp [V.flat] at f
  | .tup ds, v, f, r => by
    simp only [V.flat] at f
    simp only [Rep] at r ⊢
    obtain ⟨a, vs, rfl, i, rs⟩ := r
    exact ⟨a, vs, rfl, i, Reps.flat f rs⟩
theorem Reps.flat {P P' : Addr → Prop} {h : Heap} : ∀ {ds : List V} {vs : List Value}, V.flats ds = true → Reps P h ds vs → Reps P' h ds vs
  | [], _, _, r => by simpa [Reps] using r
  | d :: ds, vs, f, r => by
    simp only [V.flats, Bool.and_eq_true] at f
    simp only [Reps] at r ⊢
    obtain ⟨v, vs', rfl, r1, r2⟩ := r
    exact ⟨v, vs', rfl, Rep.flat f.1 r1, Reps.flat f.2 r2⟩
end

theorem Ev.up {C σ e d c c'} (h : Ev C σ e c d) (f : d.flat = true := by rfl) : Ev C σ e c' d := fun O s r =>
  wpAny_mono (h O s r) (fun _ _ ⟨k, q⟩ => ⟨k, q.flat f⟩) fun _ _ e => e

theorem Rel.new {C O σ s} (r : Rel C O σ s) (c : Bool) {x : Addr} (hx : s.heap.get? x = none) : Pr C O c x := by
  refine ⟨r.ok.new x ?_, fun _ y e => ?_⟩
  · cases e : C.s₀.heap.get? x with
    | none => rfl
    | some o => rw [r.same.ext _ _ e] at hx; cases hx
  · obtain ⟨_, l, n, q⟩ := r.owned y x e
    rw [q] at hx; cases hx

section
variable {C : Cx} {σ : Sg} {c : Bool}

theorem Ev.cInt {i : Int} {k pos} : Ev C σ (.Constant (.int i) k pos) c (.int i) := fun O s _ =>
  wpAny_Constant_int ⟨Kp.tok _ _, by simp only [Rep]; exact ⟨_, rfl⟩⟩
theorem Ev.cStr {x : Str} {l : List Nat} {k pos} (hl : x.cps.toList = l := by rfl) (hc : (l.all fun c => decide (c < 1114112)) = true := by rfl) : Ev C σ (.Constant (.str x) k pos) c (.str l) := fun O s _ =>
  wpAny_Constant_str ⟨Kp.tok _ _, by simp only [Rep]; subst hl; exact ⟨⟨_, rfl⟩, fun c h => of_decide_eq_true (List.all_eq_true.mp hc c h)⟩⟩
theorem Ev.cBool {b : Bool} {k pos} : Ev C σ (.Constant (.bool b) k pos) c (.bool b) := fun O s _ =>
  wpAny_Constant_bool ⟨Kp.refl _, by simp only [Rep]⟩
theorem load_var {O s x v} {Q : Value → Shared → Prop} {E} (r : Rel C O σ s) (hv : VarIs C.env s.heap x v) (h : Q v s) : wpAny C.M C.A (loadName C.env x) Q E s := by
  rcases hv with ⟨a, m, n, e⟩ | ⟨a, c, n, e⟩
  · exact wpAny_loadName_local r.ok.kind a n e h
  · exact wpAny_loadName_cell r.ok.kind a n e h

theorem Ev.name {x : Str} {pos} {d : V} (hx : σ.lookup x = some (.dat d) := by rfl) (hd : (x == ("__debug__" : Str)) = false := by rfl) : Ev C σ (.Name x pos) c d := fun O s r => by
  obtain ⟨v, a, b⟩ := r.vars _ _ hx
  exact wpAny_Name (load_var r a ⟨Kp.refl _, b.weaken fun _ p => ⟨p.1, fun _ => p.2 rfl⟩⟩) hd
theorem Ev.nameOwn {x : Str} {pos} {ds : List V} (hx : σ.lookup x = some (.own ds) := by rfl) (hd : (x == ("__debug__" : Str)) = false := by rfl) : Ev C σ (.Name x pos) false (.list ds) := fun O s r => by
  obtain ⟨a, vs, x, y, p, z, w⟩ := r.vars _ _ hx
  refine wpAny_Name (load_var r x ⟨Kp.refl _, ?_⟩) hd
  simp only [Rep]
  exact ⟨a, vs, rfl, ⟨p, fun h => by cases h⟩, z, w.weaken fun _ p => ⟨p.1, fun h => by cases h⟩⟩

end

abbrev S (l : List Nat) : Str := ⟨l.toArray⟩
theorem S_len (l : List Nat) : (S l).length = l.length := by simp [Str.length]
theorem S_append (a b : List Nat) : S a ++ S b = S (a ++ b) := by
  show Str.mk (a.toArray ++ b.toArray) = _; simp
theorem S_nil : S [] = Str.empty := rfl

def rep (n : Nat) (l : List Nat) : List Nat := (List.replicate n l).flatten
def repV (n : Nat) (l : List V) : List V := (List.replicate n l).flatten

theorem mem_rep {c : Nat} {n : Nat} {l : List Nat} (h : c ∈ rep n l) : c ∈ l := by
  obtain ⟨a, ha, hc⟩ := List.mem_flatten.mp h
  exact (List.eq_of_mem_replicate ha) ▸ hc

theorem foldl_arr (n : Nat) (l : List Nat) : ∀ acc : List Nat, (List.replicate n l.toArray).foldl (· ++ ·) acc.toArray = (acc ++ rep n l).toArray := by
  induction n with
  | zero => intro acc; simp [rep]
  | succ n ih => intro acc; rw [List.replicate_succ, List.foldl_cons]; simp only [List.append_toArray]; rw [ih]; simp [rep, List.replicate_succ]

theorem foldl_arrV (n : Nat) (l : List Value) : ∀ acc : List Value, (List.replicate n l.toArray).foldl (· ++ ·) acc.toArray = (acc ++ (List.replicate n l).flatten).toArray := by
  induction n with
  | zero => intro acc; simp
  | succ n ih => intro acc; rw [List.replicate_succ, List.foldl_cons]; simp only [List.append_toArray]; rw [ih]; simp [List.replicate_succ]

theorem txt_mul (l : List Nat) (n : Int) : Txt.mul (S l) n = S (rep n.toNat l) := by
  unfold Txt.mul
  by_cases h1 : n < 1
  · rw [if_pos h1, Int.toNat_of_nonpos (by omega)]; rfl
  · rw [if_neg h1]
    by_cases h2 : (n == 1 || (S l).length == 0) = true
    · rw [if_pos h2]
      rcases Bool.or_eq_true_iff.mp h2 with h | h
      · have : n = 1 := by simpa using h
        subst this; simp [rep]
      · have h0 : l = [] := by simpa [Str.length] using h
        subst h0; simp [rep]
    · rw [if_neg h2]
      have := foldl_arr n.toNat l []
      simp only [List.nil_append] at this
      exact congrArg Str.mk this

inductive BinOk : Operator → V → V → V → Prop
  | addI (a b : Int) : BinOk .Add (.int a) (.int b) (.int (a + b))
  | subI (a b : Int) : BinOk .Sub (.int a) (.int b) (.int (a - b))
  | mulI (a b : Int) (h : a.natAbs < 2 ^ 64 ∨ b.natAbs < 2 ^ 64) : BinOk .Mult (.int a) (.int b) (.int (a * b))
  | modI (a b : Int) (h : b ≠ 0) : BinOk .Mod (.int a) (.int b) (.int (a.fmod b))
  | divI (a b : Int) (h : b ≠ 0) (h' : b.natAbs < 1073741824) : BinOk .FloorDiv (.int a) (.int b) (.int (a.fdiv b))
  | addS (a b : List Nat) (h : a.length + b.length ≤ 16777216) : BinOk .Add (.str a) (.str b) (.str (a ++ b))
  | mulS (a : List Nat) (n : Int) (h : n.natAbs ≤ 16777216) (h' : a.length * n.toNat ≤ 16777216) : BinOk .Mult (.str a) (.int n) (.str (rep n.toNat a))
  | addL (a b : List V) (h : a.length + b.length ≤ 16777216) : BinOk .Add (.list a) (.list b) (.list (a ++ b))
  | mulL (a : List V) (n : Int) (h : n.natAbs ≤ 16777216) (h' : a.length * n.toNat ≤ 16777216) : BinOk .Mult (.list a) (.int n) (.list (repV n.toNat a))

theorem reps_repV {P h} {ds : List V} {vs : List Value} (r : Reps P h ds vs) : ∀ n, Reps P h (repV n ds) (List.replicate n vs).flatten
  | 0 => Reps.nil
  | n + 1 => by
    simp only [repV, List.replicate_succ, List.flatten_cons]
    exact r.append (reps_repV r n)

theorem bits_of {a : Int} (h : a.natAbs < 2 ^ 64) : Builtin.Int.intBits a ≤ 64 := intBits_le_64 (by omega) (by omega)

theorem binOk {M : Program × World} {A : Around} {E : Value → Shared → Prop} {s : Shared} {P : Addr → Prop} {op : Operator} {dl dr d : V} {a b : Value} (ok : BinOk op dl dr d)
    (ra : Rep P s.heap dl a) (rb : Rep P s.heap dr b) (hnew : ∀ x, s.heap.get? x = none → P x) :
    wpAny (model M.1 M.2) A (binaryOp op a b) (fun v s' => Kp s s' ∧ Rep P s'.heap d v) E s := by
  have hsz : s.heap.get? s.heap.objs.size = none := by
    cases e : s.heap.get? s.heap.objs.size with
    | none => rfl
    | some o => exact absurd (Heap.lt_size e) (Nat.lt_irrefl _)
  cases ok with
  | addI x y =>
    simp only [Rep] at ra rb; obtain ⟨t, rfl⟩ := ra; obtain ⟨u, rfl⟩ := rb
    exact PySem.P.add_int ⟨Kp.tok _ _, by simp only [Rep]; exact ⟨_, rfl⟩⟩
  | subI x y =>
    simp only [Rep] at ra rb; obtain ⟨t, rfl⟩ := ra; obtain ⟨u, rfl⟩ := rb
    exact PySem.P.sub_int ⟨Kp.tok _ _, by simp only [Rep]; exact ⟨_, rfl⟩⟩
  | mulI x y h =>
    simp only [Rep] at ra rb; obtain ⟨t, rfl⟩ := ra; obtain ⟨u, rfl⟩ := rb
    exact PySem.P.mul_int ⟨Kp.tok _ _, by simp only [Rep]; exact ⟨_, rfl⟩⟩ (h.elim (fun h => .of_left (bits_of h)) fun h => .of_right (bits_of h))
  | modI x y h =>
    simp only [Rep] at ra rb; obtain ⟨t, rfl⟩ := ra; obtain ⟨u, rfl⟩ := rb
    exact mod_int' h ⟨Kp.tok _ _, by simp only [Rep]; exact ⟨_, rfl⟩⟩
  | divI x y h h' =>
    simp only [Rep] at ra rb; obtain ⟨t, rfl⟩ := ra; obtain ⟨u, rfl⟩ := rb
    exact floordiv_int h ⟨Kp.tok _ _, by simp only [Rep]; exact ⟨_, rfl⟩⟩ (.inl (PyProof.noPylong_small h'))
  | addS x y h =>
    simp only [Rep] at ra rb; obtain ⟨⟨t, rfl⟩, ca⟩ := ra; obtain ⟨⟨u, rfl⟩, cb⟩ := rb
    refine SB.add (fun t' k => ⟨Kp.tok _ _, ?_⟩) (by rw [S_len, S_len, sizeLine_eq]; exact h)
    simp only [Rep]; rw [S_append]; exact ⟨⟨_, rfl⟩, fun c hc => (List.mem_append.mp hc).elim (ca c) (cb c)⟩
  | mulS x n h h' =>
    simp only [Rep] at ra rb; obtain ⟨⟨t, rfl⟩, ca⟩ := ra; obtain ⟨u, rfl⟩ := rb
    refine SB.mul ⟨?_, ?_, ?_⟩ fun t' k => ⟨Kp.tok _ _, ?_⟩
    · rw [decide_eq_false (by omega), decide_eq_false (by omega)]; rfl
    · intro hn h0
      rw [S_len] at h0 ⊢
      have h1 : 1 ≤ n := by omega
      have h2 : (n : Int) = (n.toNat : Int) := by omega
      intro hc
      have h3 : x.length ≤ 16777216 := Nat.le_trans (Nat.le_mul_of_pos_right _ (by omega)) h'
      have h4 : (2 ^ 63 - 1 : Int) / 16777216 ≤ (2 ^ 63 - 1) / n := by
        refine Int.le_ediv_of_mul_le (by omega) ?_
        have : (2 ^ 63 - 1 : Int) / 16777216 * n ≤ (2 ^ 63 - 1 : Int) / 16777216 * 16777216 := Int.mul_le_mul_of_nonneg_left (by omega) (by decide)
        omega
      have h5 : (16777216 : Int) ≤ (2 ^ 63 - 1 : Int) / 16777216 := by decide
      omega
    · intro _ _
      rw [S_len]
      simp only [Builtin.Str.tooLong, sizeLine_eq, decide_eq_false_iff_not]; omega
    · simp only [Rep]; exact ⟨⟨_, by rw [txt_mul]⟩, fun c hc => ca c (mem_rep hc)⟩
  | addL x y h =>
    simp only [Rep] at ra rb
    obtain ⟨a, vs, rfl, pa, ⟨n, ia⟩, rs⟩ := ra
    obtain ⟨b, ws, rfl, pb, ⟨n', ib⟩, rs'⟩ := rb
    have k : Ext s.heap (s.heap.push { cls := .type "list", data := .seq (vs.toArray ++ ws.toArray) }) := fun _ _ e => Heap.get?_push_of_some _ e
    refine PySem.P.add_list ia ib ⟨Kp.mk' k, ?_⟩ (by simp only [List.size_toArray]; rw [rs.length, rs'.length, sizeLine_eq]; exact h)
    simp only [Rep]
    exact ⟨_, vs ++ ws, rfl, hnew _ hsz, ⟨0, by rw [Heap.get?_push_size _ rfl]; simp⟩, (rs.append rs').keeps k⟩
  | mulL x n h h' =>
    simp only [Rep] at ra rb
    obtain ⟨a, vs, rfl, pa, ⟨m, ia⟩, rs⟩ := ra
    obtain ⟨u, rfl⟩ := rb
    have hl : vs.toArray.size * n.toNat ≤ 2 ^ 24 := by simp only [List.size_toArray]; rw [rs.length]; exact h'
    have hx : List.foldl (fun x1 x2 => x1 ++ x2) #[] (List.replicate (if vs.toArray.isEmpty = true then 0 else n.toNat) vs.toArray) = ((List.replicate n.toNat vs).flatten).toArray := by
      have e := foldl_arrV n.toNat vs []
      simp only [List.nil_append] at e
      rw [← e]
      split
      · rename_i h0
        have : vs = [] := by simpa using h0
        subst this
        rw [e]; simp
      · rfl
    refine wpAny_binaryOp_repeat_ref (T := "list") (U := "int") (by decide) ⟨_, ia, rfl⟩ (fun s' => typeIs_int s' n u) noFill_list_mul F.fills_int_mul F.slot_int_rmul repeat_list F.slot_int_index.lookup
      (call_meets F.slot_int_rmul (typeIs_int s n u) F.entry_int_rmul (F.args_int_rmul_2 _ _) (int___rmul___int_list n u a vs.toArray m)
        ⟨ia, rfl, ⟨_, ia, rfl⟩, call_meets F.slot_list_mul ⟨_, ia, rfl⟩ F.entry_list_mul (F.args_list_mul_2 _ _)
          (AutoListH.list___mul___list_int_3 a vs.toArray m n u (by simp [Builtin.List.listFitsIndex]; omega) (by omega) (by simp [Builtin.List.listTooLong, sizeLine]; omega)) ⟨ia, ?_⟩⟩)
    rw [hx]
    refine ⟨Kp.mk' fun _ _ e => Heap.get?_push_of_some _ e, ?_⟩
    simp only [Rep]
    exact ⟨_, _, rfl, hnew _ hsz, ⟨0, Heap.get?_push_size _ rfl⟩, (reps_repV rs _).keeps fun _ _ e => Heap.get?_push_of_some _ e⟩

def V.eqb (a b : V) : Bool := PyData.eqv a.py b.py
def V.dep (a : V) : Nat := a.py.depth

mutual
theorem V.eqb_self : ∀ a : V, a.eqb a = true
  | .none => by simp [V.eqb, V.py, PyData.eqv]
  | .bool _ => by simp [V.eqb, V.py, PyData.eqv]
  | .int _ => by simp [V.eqb, V.py, PyData.eqv]
  | .str _ => by simp [V.eqb, V.py, PyData.eqv]
  | .list xs => by simp only [V.eqb, V.py, PyData.eqv]; exact V.eqbs_self xs
  | .tup xs => by simp only [V.eqb, V.py, PyData.eqv]; exact V.eqbs_self xs
theorem V.eqbs_self : ∀ a : List V, PyData.eqvAll (V.pys a) (V.pys a) = true
  | [] => by simp [V.pys, PyData.eqvAll]
  | x :: r => by
    simp only [V.pys, PyData.eqvAll, Bool.and_eq_true]
    exact ⟨V.eqb_self x, V.eqbs_self r⟩
end
theorem V.eqb_of_eq {a b : V} (h : a = b) : a.eqb b = true := h ▸ V.eqb_self a
theorem dep_list {xs : List V} {k : Nat} (h : ∀ x ∈ xs, x.dep ≤ k) : (V.list xs).dep ≤ k + 1 := by
  simp only [V.dep, V.py, PyData.depth]
  refine Nat.succ_le_succ ?_
  induction xs with
  | nil => simp [V.pys, PyData.depthAll]
  | cons x r ih =>
    simp only [V.pys, PyData.depthAll]
    exact Nat.max_le.mpr ⟨h x (by simp), ih fun y hy => h y (by simp [hy])⟩
theorem dep_str (l : List Nat) : (V.str l).dep ≤ 0 := by simp [V.dep, V.py, PyData.depth]
abbrev vStrs (l : List (List Nat)) : List V := l.map .str
theorem dep_strs (l : List (List Nat)) : (V.list (vStrs l)).dep ≤ 1 := dep_list fun x hx => by
  obtain ⟨y, _, rfl⟩ := List.mem_map.mp hx; exact dep_str y
inductive CmpOk : CmpOp → V → V → Bool → Prop
  | eqS (a b : List Nat) : CmpOk .Eq (.str a) (.str b) (decide (a = b))
  | neS (a b : List Nat) : CmpOk .NotEq (.str a) (.str b) (!decide (a = b))
  | eqI (a b : Int) : CmpOk .Eq (.int a) (.int b) (decide (a = b))
  | neI (a b : Int) : CmpOk .NotEq (.int a) (.int b) (!decide (a = b))
  | ltI (a b : Int) : CmpOk .Lt (.int a) (.int b) (decide (a < b))
  | leI (a b : Int) : CmpOk .LtE (.int a) (.int b) (decide (a ≤ b))
  | gtI (a b : Int) : CmpOk .Gt (.int a) (.int b) (decide (b < a))
  | geI (a b : Int) : CmpOk .GtE (.int a) (.int b) (decide (b ≤ a))
  | isNotNone : CmpOk .IsNot .none .none false
  | isNotI (a : Int) : CmpOk .IsNot (.int a) .none true
  | eqD (a b : V) (h : a.dep ≤ 60 ∨ b.dep ≤ 60) : CmpOk .Eq a b (a.eqb b)
  | neD (a b : V) (h : a.dep ≤ 60 ∨ b.dep ≤ 60) : CmpOk .NotEq a b (!a.eqb b)

theorem cmpOk {M : Program × World} {A : Around} {E : Value → Shared → Prop} {s : Shared} {P : Addr → Prop} {op : CmpOp} {dl dr : V} {r : Bool} {a b : Value} (ok : CmpOk op dl dr r)
    (ra : Rep P s.heap dl a) (rb : Rep P s.heap dr b) (hu : A.units + 60 < cLine) :
    wpAny (model M.1 M.2) A (compareOp op a b) (fun v s' => s' = s ∧ v = .bool r) E s := by
  cases ok with
  | eqS x y =>
    simp only [Rep] at ra rb; obtain ⟨⟨t, rfl⟩, _⟩ := ra; obtain ⟨⟨u, rfl⟩, _⟩ := rb
    exact PySem.P.eq_str ⟨rfl, congrArg Value.bool (by simp [Bool.beq_eq_decide_eq])⟩
  | neS x y =>
    simp only [Rep] at ra rb; obtain ⟨⟨t, rfl⟩, _⟩ := ra; obtain ⟨⟨u, rfl⟩, _⟩ := rb
    exact PySem.P.ne_str ⟨rfl, congrArg Value.bool (by simp [bne, Bool.beq_eq_decide_eq])⟩
  | eqI x y =>
    simp only [Rep] at ra rb; obtain ⟨t, rfl⟩ := ra; obtain ⟨u, rfl⟩ := rb
    exact PySem.P.eq_int ⟨rfl, congrArg Value.bool (by rw [Bool.eq_iff_iff]; simp)⟩
  | neI x y =>
    simp only [Rep] at ra rb; obtain ⟨t, rfl⟩ := ra; obtain ⟨u, rfl⟩ := rb
    exact PySem.P.ne_int ⟨rfl, congrArg Value.bool (by rw [Bool.eq_iff_iff]; simp)⟩
  | ltI x y =>
    simp only [Rep] at ra rb; obtain ⟨t, rfl⟩ := ra; obtain ⟨u, rfl⟩ := rb
    exact PySem.P.lt_int ⟨rfl, rfl⟩
  | leI x y =>
    simp only [Rep] at ra rb; obtain ⟨t, rfl⟩ := ra; obtain ⟨u, rfl⟩ := rb
    exact PySem.P.le_int ⟨rfl, rfl⟩
  | gtI x y =>
    simp only [Rep] at ra rb; obtain ⟨t, rfl⟩ := ra; obtain ⟨u, rfl⟩ := rb
    exact PySem.P.gt_int ⟨rfl, rfl⟩
  | geI x y =>
    simp only [Rep] at ra rb; obtain ⟨t, rfl⟩ := ra; obtain ⟨u, rfl⟩ := rb
    exact PySem.P.ge_int ⟨rfl, rfl⟩
  | isNotNone =>
    simp only [Rep] at ra rb; subst ra rb
    exact isNot_none ⟨rfl, rfl⟩
  | isNotI x =>
    simp only [Rep] at ra rb; obtain ⟨t, rfl⟩ := ra; subst rb
    exact isNot_none ⟨rfl, rfl⟩
  | eqD x y h =>
    obtain ⟨_, qa⟩ := ra.reads
    obtain ⟨_, qb⟩ := rb.reads
    exact SeqAt.compareEq_reads qa qb ra.canLay rb.canLay (by have h1 := Nat.min_le_left dl.py.depth dr.py.depth; have h2 := Nat.min_le_right dl.py.depth dr.py.depth; unfold V.dep at h; omega) ⟨rfl, rfl⟩
  | neD x y h =>
    obtain ⟨_, qa⟩ := ra.reads
    obtain ⟨_, qb⟩ := rb.reads
    exact SeqAt.compareNe_reads qa qb ra.canLay rb.canLay (by have h1 := Nat.min_le_left dl.py.depth dr.py.depth; have h2 := Nat.min_le_right dl.py.depth dr.py.depth; unfold V.dep at h; omega) ⟨rfl, rfl⟩

section
variable {C : Cx} {σ : Sg} {c : Bool}

theorem Ev.bin {l r : Expr} {op : Operator} {pos : Pos} {dl dr d : V} (hl : Ev C σ l c dl) (hr : Ev C σ r c dr) (ok : BinOk op dl dr d) : Ev C σ (.BinOp l op r pos) c d := fun O s q =>
  wpAny_BinOp (wpAny_mono (hl O s q) (fun _ s₁ ⟨k, ra⟩ => wpAny_mono (hr O s₁ (q.keeps k)) (fun _ s₂ ⟨k₂, rb⟩ =>
    wpAny_mono (binOk (M := (C.prog, C.w)) ok (ra.keeps k₂.ext) rb fun _ hx => ((q.keeps k).keeps k₂).new c hx) (fun _ _ ⟨k₃, rc⟩ => ⟨(k.trans k₂).trans k₃, rc⟩) fun _ _ e => e) fun _ _ e => e) fun _ _ e => e)

/-- one comparison -/
theorem cmp_ev {l r : Expr} {op : CmpOp} {dl dr : V} {b : Bool} {O s} (hl : Ev C σ l false dl) (hr : Ev C σ r false dr) (ok : CmpOk op dl dr b) (q : Rel C O σ s) :
    wpAny C.M C.A (eval l C.env) (fun a s₁ => wpAny C.M C.A (eval r C.env) (fun bb s₂ => wpAny C.M C.A (compareOp op a bb) (fun v s' => Kp s s' ∧ v = .bool b) (fun _ _ => False) s₂) (fun _ _ => False) s₁) (fun _ _ => False) s :=
  wpAny_mono (hl O s q) (fun _ s₁ ⟨k, ra⟩ => wpAny_mono (hr O s₁ (q.keeps k)) (fun _ s₂ ⟨k₂, rb⟩ =>
    wpAny_mono (cmpOk (M := (C.prog, C.w)) ok (ra.keeps k₂.ext) rb (by have := q.ok.room.units; omega)) (fun _ _ ⟨e, rc⟩ => ⟨e ▸ k.trans k₂, rc⟩) fun _ _ e => e) fun _ _ e => e) fun _ _ e => e

theorem Tst.cmp {l r : Expr} {op : CmpOp} {pos : Pos} {dl dr : V} {b : Bool} (hl : Ev C σ l false dl) (hr : Ev C σ r false dr) (ok : CmpOk op dl dr b) (hm : behindInMarks op r = false := by with_unfolding_all rfl) :
    Tst C σ (.Compare l [op] [r] pos) b := fun O s q =>
  wpAny_isTrue_Compare1 (wpAny_mono (cmp_ev hl hr ok q) (fun _ _ h => wpAny_mono h (fun _ _ h => wpAny_mono h (fun _ _ ⟨k, e⟩ => by subst e; exact wpAny_truthy_bool ⟨rfl, k⟩) fun _ _ e => e) fun _ _ e => e) fun _ _ e => e) hm

def Tsts (C : Cx) (σ : Sg) (op : BoolOp) (es : List Expr) (b : Bool) : Prop :=
  ∀ O s, Rel C O σ s → wpAny C.M C.A (allTrue op es C.env) (fun r s' => r = b ∧ Kp s s') (fun _ _ => False) s
theorem Ev.neg {x : Expr} {pos : Pos} {i : Int} (h : Ev C σ x false (.int i)) : Ev C σ (.UnaryOp .USub x pos) c (.int (-i)) := fun O s q =>
  wpAny_UnaryOp (wpAny_mono (h O s q) (fun _ _ ⟨k, e⟩ => by
    simp only [Rep] at e; obtain ⟨t, rfl⟩ := e
    exact PySem.P.neg_int ⟨k.trans (Kp.tok _ _), by simp only [Rep]; exact ⟨_, rfl⟩⟩) fun _ _ e => e)

/-- several expressions -/
def Evs (C : Cx) (σ : Sg) (es : List Expr) (c : Bool) (ds : List V) : Prop :=
  ∀ O s pos, Rel C O σ s → wpAny C.M C.A (spliced (backTo pos (starEach es C.env))) (fun vs s' => Kp s s' ∧ Reps (Pr C O c) s'.heap ds vs) (fun _ _ => False) s
theorem Evs.nil : Evs C σ [] c [] := fun _ s _ _ => wpAny_items_nil ⟨Kp.refl s, Reps.nil⟩
end

section
variable {C : Cx} {σ : Sg} {c : Bool}
theorem Evs.cons {e : Expr} {es : List Expr} {d : V} {ds : List V} (h : Ev C σ e c d) (h' : Evs C σ es c ds)
    (he : starEach (e :: es) C.env = (false, eval e C.env) :: starEach es C.env := by rfl) : Evs C σ (e :: es) c (d :: ds) := fun O s pos q =>
  wpAny_items_cons (wpAny_mono (h O s q) (fun v s₁ ⟨k, r⟩ => wpAny_mono (h' O s₁ pos (q.keeps k)) (fun vs s₂ ⟨k₂, r₂⟩ => ⟨k.trans k₂, Reps.cons (r.keeps k₂.ext) r₂⟩) fun _ _ e => e) fun _ _ e => e) he

theorem get_size_none (h : Heap) : h.get? h.objs.size = none := by
  cases e : h.get? h.objs.size with
  | none => rfl
  | some o => exact absurd (Heap.lt_size e) (Nat.lt_irrefl _)

theorem Ev.tuple {es : List Expr} {k : Nat} {pos : Pos} {ds : List V} (h : Evs C σ es c ds) (hsz : ds.length ≤ 16777216 := by decide) : Ev C σ (.Tuple es k pos) c (.tup ds) := fun O s q =>
  wpAny_Tuple (wpAny_mono (h O s pos q) (fun vs s₁ ⟨k, r⟩ => ⟨by rw [r.length, sizeLine_eq]; exact hsz, k.trans (Kp.mk' fun _ _ e => Heap.get?_push_of_some _ e), by
    simp only [Rep]
    exact ⟨_, vs, rfl, ⟨_, Heap.get?_push_size _ rfl, rfl, _, rfl⟩, r.keeps fun _ _ e => Heap.get?_push_of_some _ e⟩⟩) fun _ _ e => e)

theorem reps_push {P : Addr → Prop} {h : Heap} {o : Obj} {ds : List V} {vs : List Value} (r : Reps P h ds vs) : Reps (fun b => P b ∧ b ≠ h.objs.size) (h.push o) ds vs :=
  r.move (fun a l p x => ⟨isList_ext (fun _ _ e => Heap.get?_push_of_some _ e) x, p, by obtain ⟨n, e⟩ := x; exact Nat.ne_of_lt (Heap.lt_size e)⟩) fun _ _ x => x.keeps fun _ _ e => Heap.get?_push_of_some _ e

/-- a new list: its address is new -/
def EvN (C : Cx) (σ : Sg) (e : Expr) (ds : List V) : Prop :=
  ∀ O s, Rel C O σ s → wpAny C.M C.A (eval e C.env) (fun v s' => Kp s s' ∧ ∃ a vs, v = .ref a ∧ s.heap.get? a = none ∧ s'.heap.PlainList a (List.toArray vs) ∧ Reps (fun b => Pr C O true b ∧ b ≠ a) s'.heap ds vs) (fun _ _ => False) s

theorem EvN.ev {e : Expr} {ds : List V} (h : EvN C σ e ds) : Ev C σ e c (.list ds) := fun O s q =>
  wpAny_mono (h O s q) (fun v s' ⟨k, a, vs, e, n, p, r⟩ => ⟨k, by
    simp only [Rep]
    exact ⟨a, vs, e, q.new c n, p, r.weaken fun _ p => ⟨p.1.1, fun _ => p.1.2 rfl⟩⟩⟩) fun _ _ e => e

theorem EvN.list {es : List Expr} {pos : Pos} {ds : List V} (h : Evs C σ es true ds) (hsz : ds.length ≤ 16777216 := by decide) : EvN C σ (.List es pos) ds := fun O s q =>
  wpAny_List (wpAny_mono (h O s pos q) (fun vs s₁ ⟨k, r⟩ => ⟨by rw [r.length, sizeLine_eq]; exact hsz, k.trans (Kp.mk' fun _ _ e => Heap.get?_push_of_some _ e),
    _, vs, rfl, by
      cases e : s.heap.get? s₁.heap.objs.size with
      | none => rfl
      | some o => exact absurd (Heap.lt_size (k.ext _ _ e)) (Nat.lt_irrefl _), ⟨_, Heap.get?_push_size _ rfl⟩, reps_push r⟩) fun _ _ e => e)

theorem Ev.list {es : List Expr} {pos : Pos} {ds : List V} (h : Evs C σ es c ds) (hsz : ds.length ≤ 16777216 := by decide) : Ev C σ (.List es pos) c (.list ds) := fun O s q =>
  wpAny_List (wpAny_mono (h O s pos q) (fun vs s₁ ⟨k, r⟩ => ⟨by rw [r.length, sizeLine_eq]; exact hsz, k.trans (Kp.mk' fun _ _ e => Heap.get?_push_of_some _ e), by
    simp only [Rep]
    exact ⟨_, vs, rfl, (q.keeps k).new c (get_size_none _), ⟨_, Heap.get?_push_size _ rfl⟩, r.keeps fun _ _ e => Heap.get?_push_of_some _ e⟩⟩) fun _ _ e => e)

/-- a global name that holds data -/
theorem Ev.global {x : Str} {pos : Pos} {d : V} (hk : C.env.kindOf x = some .globalImplicit) {v : Value} (hv : C.G.mg x = some v) (hr : ∀ O s, Rel C O σ s → Rep (Pr C O c) s.heap d v)
    (hd : (x == ("__debug__" : Str)) = false := by rfl) : Ev C σ (.Name x pos) c d := fun O s q =>
  Calls.Name_function_global q.ok.kind hk (Calls.loadGlobal_global (by rw [q.ok.gl]; exact q.good.g) hv ⟨Kp.refl _, hr O s q⟩) hd
end

/-- the def f of the text -/
structure FnAt (G : Gl) (f : Str) (a : Addr) (ps : List Str) (body : List Stmt) (scope : Scope) : Prop where
  ex : ∃ o fd, G.mg f = some (.ref a) ∧ G.K.lookup a = some o ∧ o.data = .func fd ∧ fd.body = .stmts body ∧ fd.scope = scope ∧ fd.closure = [] ∧ fd.globals = mainGlobals ∧ fd.builtins = builtinsNs ∧
    (∀ vals : List Value, vals.length = ps.length → bindArgs fd ⟨vals, []⟩ = pure (ps.zip vals)) ∧ ∀ h : Heap, Good G h → h.CodeRec fd.code fd.qualname

/-- what a call of the def f gives: data, and nothing that stood is changed -/
def Spec (G : Gl) (prog : Program) (w : World) (n : Nat) (f : Str) (ds : List V) (r : V) : Prop :=
  ∃ a o fd, G.mg f = some (.ref a) ∧ G.K.lookup a = some o ∧ o.data = .func fd ∧
    ∀ A s vs (P : Addr → Prop), Room A n → Good G s.heap → Reps P s.heap ds vs → (∀ a, s.heap.get? a = none → P a) →
      codeAny (model prog w) A (.call (.ref a) ⟨vs, []⟩) (fun res s' => ∃ v, res = .ok (.ret v) ∧ Kp s s' ∧ Rep P s'.heap r v) s

section
variable {C : Cx} {σ : Sg} {c : Bool}
theorem Ev.call {f : Str} {p pos : Pos} {e : Expr} {es : List Expr} {ds : List V} {r : V} {n : Nat} (hk : C.env.kindOf f = some .globalImplicit) (sp : Spec C.G C.prog C.w n f ds r) (ha : Evs C σ (e :: es) c ds)
    (hn : n ≤ C.n := by first | omega | decide) (hd : (f == ("__debug__" : Str)) = false := by rfl) (hstar : ∃ (x : Sem Value) (rest : Pos → List (Bool × Sem Value)), ∀ pos, backTo pos (starEach (e :: es) C.env) = (false, x) :: rest pos := by exact ⟨_, _, fun _ => rfl⟩) :
    Ev C σ (.Call (.Name f p) (e :: es) [] pos) c r := fun O s q => by
  obtain ⟨a, o, fd, hm, hl, hdt, sp⟩ := sp
  refine wpAny_Call_NameR (Calls.Name_function_global q.ok.kind hk (Calls.loadGlobal_global (by rw [q.ok.gl]; exact q.good.g) hm ?_) hd)
  obtain ⟨x, rest, hst⟩ := hstar
  have hargs := ha O s pos q
  rw [hst] at hargs ⊢
  refine Calls.callWith_function (o := o) (fd := fd) (Calls.evalArgs_plain (wpAny_mono hargs (fun vs s₁ ⟨k, r⟩ => ⟨⟨(q.keeps k).good.k _ _ hl, hdt⟩, wpAny_call ?_⟩) fun _ _ e => e))
  refine codeAny_mono (sp C.A s₁ vs (Pr C O c) (q.ok.room.le hn) (q.keeps k).good r (fun a h => (q.keeps k).new c h)) fun res s' ⟨v, e, k', r'⟩ => ?_
  subst e
  exact ⟨k.trans k', r'⟩
theorem Ev.callA {f : Str} {p pos : Pos} {e : Expr} {es : List Expr} {ds : List V} {r : V} {n : Nat} (ha : Evs C σ (e :: es) c ds) (sp : Spec C.G C.prog C.w n f ds r) (hk : C.env.kindOf f = some .globalImplicit)
    (hn : n ≤ C.n) (hd : (f == ("__debug__" : Str)) = false) (hstar : ∃ (x : Sem Value) (rest : Pos → List (Bool × Sem Value)), ∀ pos, backTo pos (starEach (e :: es) C.env) = (false, x) :: rest pos) :
    Ev C σ (.Call (.Name f p) (e :: es) [] pos) c r := Ev.call hk sp ha hn hd hstar
end

/-! statements -/

inductive Out where
  | next (σ : Sg)
  | ret (d : V)

def Free (C : Cx) (O : Str → Option Addr) (b : Addr) : Prop := b ≠ C.env.locals ∧ (∀ x c, C.env.cells.lookup x = some c → b ≠ c) ∧ ∀ x, O x ≠ some b

structure Step (C : Cx) (O : Str → Option Addr) (s : Shared) (O' : Str → Option Addr) (s' : Shared) : Prop where
  obj : ∀ b o, s.heap.get? b = some o → Free C O b → s'.heap.get? b = some o
  own : ∀ b o, s.heap.get? b = some o → Free C O b → ∀ x, O' x ≠ some b

theorem Step.refl {C O s} : Step C O s O s := ⟨fun _ _ e _ => e, fun _ _ _ f => f.2.2⟩
theorem Step.kp {C O s s'} (k : Kp s s') : Step C O s O s' := ⟨fun _ _ e _ => k.ext _ _ e, fun _ _ _ f => f.2.2⟩
theorem Step.trans {C O s O₁ s₁ O₂ s₂} (a : Step C O s O₁ s₁) (b : Step C O₁ s₁ O₂ s₂) : Step C O s O₂ s₂ :=
  ⟨fun x o e f => b.obj x o (a.obj x o e f) ⟨f.1, f.2.1, a.own x o e f⟩, fun x o e f => b.own x o (a.obj x o e f) ⟨f.1, f.2.1, a.own x o e f⟩⟩

def Out.post (C : Cx) (O : Str → Option Addr) (s : Shared) (o : Out) (f : Flow) (s' : Shared) : Prop :=
  match o with
  | .next σ' => f = .next ∧ ∃ O', Rel C O' σ' s' ∧ Step C O s O' s'
  | .ret d => ∃ v, f = .ret v ∧ Kp C.s₀ s' ∧ Rep C.P s'.heap d v

def Run (C : Cx) (σ : Sg) (b : List Stmt) (o : Out) : Prop :=
  ∀ O s, Rel C O σ s → wpAny C.M C.A (execs b C.env) (o.post C O s) (fun _ _ => False) s
def Ex (C : Cx) (σ : Sg) (b : Stmt) (o : Out) : Prop :=
  ∀ O s, Rel C O σ s → wpAny C.M C.A (exec b C.env) (o.post C O s) (fun _ _ => False) s

section
variable {C : Cx} {σ σ' : Sg} {o : Out}
theorem Run.nil : Run C σ [] (.next σ) := fun O s q => wpAny_execs_nil ⟨rfl, O, q, Step.refl⟩

theorem Out.post_step {C O s O₁ s₁} {o : Out} (a : Step C O s O₁ s₁) {f s'} (h : o.post C O₁ s₁ f s') : o.post C O s f s' := by
  cases o with
  | next σ => obtain ⟨e, O', r, st⟩ := h; exact ⟨e, O', r, a.trans st⟩
  | ret d => exact h

theorem Run.cons {st : Stmt} {rest : List Stmt} (h : Ex C σ st (.next σ')) (h' : Run C σ' rest o) : Run C σ (st :: rest) o := fun O s q =>
  wpAny_execs_cons (wpAny_mono (h O s q) (fun f s₁ ⟨e, O₁, r, st⟩ => by
    subst e
    exact wpAny_mono (h' O₁ s₁ r) (fun _ _ h => Out.post_step st h) fun _ _ e => e) fun _ _ e => e)
theorem Run.ret {st : Stmt} {rest : List Stmt} {d : V} (h : Ex C σ st (.ret d)) : Run C σ (st :: rest) (.ret d) := fun O s q =>
  wpAny_execs_cons (wpAny_mono (h O s q) (fun f s₁ h => by
    obtain ⟨v, e, r⟩ := h
    subst e
    exact ⟨v, rfl, r⟩) fun _ _ e => e)

theorem Ex.ret {e : Expr} {pos : Pos} {d : V} (h : Ev C σ e false d) : Ex C σ (.Return (some e) pos) (.ret d) := fun O s q =>
  wpAny_Return_some (wpAny_mono (h O s q) (fun v s₁ ⟨k, r⟩ => ⟨v, rfl, q.same.trans k, r.weaken fun _ p => p.1⟩) fun _ _ e => e)

theorem Rel.weak {O s} (q : Rel C O σ s) (h : ∀ x b, σ'.lookup x = some b → σ.lookup x = some b) : Rel C O σ' s := { q with vars := fun x b e => q.vars x b (h x b e) }
end

structure Stored (C : Cx) (s : Shared) (x : Str) (v : Value) (b : Addr) (s' : Shared) : Prop where
  mt : C.mt = true
  fr : b = C.env.locals ∨ ∃ y, C.env.cells.lookup y = some b
  same : ∃ h' tk, s' = { s with heap := h', toks := tk } ∧ Heap.SameBut b s.heap h'
  nl : ∀ l, ¬ s.heap.PlainList b l
  nt : ∀ l, ¬ IsTup s.heap b l
  here : VarIs C.env s'.heap x v
  others : ∀ y w, y ≠ x → VarIs C.env s.heap y w → VarIs C.env s'.heap y w
  ns : ∃ m, s'.heap.Ns C.env.locals m
  cells : ∀ x c, C.env.cells.lookup x = some c → ∃ v, s'.heap.IsCell c v

def Storable (C : Cx) (x : Str) : Prop := C.mt = true ∧ (C.env.kindOf x = some .local ∨ C.env.kindOf x = some .cell)

theorem ns_not_list {h : Heap} {b : Addr} {m l} (x : h.Ns b m) : ¬ h.PlainList b l := fun ⟨n, e⟩ => by
  obtain ⟨o, es, ep, e', d, _⟩ := x
  rw [e] at e'; cases e'; cases d
theorem ns_not_tup {h : Heap} {b : Addr} {m l} (x : h.Ns b m) : ¬ IsTup h b l := fun ⟨o', e, _, n, e2⟩ => by
  obtain ⟨o, es, ep, e', d, _⟩ := x
  rw [e] at e'; cases e'; rw [e2] at d; cases d
theorem cell_not_list {h : Heap} {b : Addr} {m l} (x : h.IsCell b m) : ¬ h.PlainList b l := fun ⟨n, e⟩ => by
  obtain ⟨o, e', d⟩ := x
  rw [e] at e'; cases e'; cases d
theorem cell_not_tup {h : Heap} {b : Addr} {m l} (x : h.IsCell b m) : ¬ IsTup h b l := fun ⟨o', e, _, n, e2⟩ => by
  obtain ⟨o, e', d⟩ := x
  rw [e] at e'; cases e'; rw [e2] at d; cases d
theorem ns_ne_cell {h : Heap} {a b : Addr} {m v} (x : h.Ns a m) (y : h.IsCell b v) : a ≠ b := fun e => by
  subst e
  obtain ⟨o, es, ep, e', d, _⟩ := x
  obtain ⟨o', e'', d'⟩ := y
  rw [e'] at e''; cases e''; rw [d] at d'; cases d'

theorem store_var {C O σ s x v} (q : Rel C O σ s) (hx : Storable C x) {E : Value → Shared → Prop} {Q : Unit → Shared → Prop} (h : ∀ b s', Stored C s x v b s' → Q () s') : wpAny C.M C.A (storeName C.env x v) Q E s := by
  obtain ⟨m, hn⟩ := q.ns
  obtain ⟨hmt, hx⟩ := hx
  rcases hx with hl | hl
  · refine wpAny_storeName_local hl hn (fun h' hn' hs => h C.env.locals _ ⟨hmt, .inl rfl, ⟨h', _, rfl, hs⟩, fun l => ns_not_list hn, fun l => ns_not_tup hn, .inl ⟨hl, _, hn', by simp⟩, ?_, ⟨_, hn'⟩, ?_⟩) (by rw [q.ok.kind]; rfl)
    · intro y w hy hv
      rcases hv with ⟨a, m', n', e⟩ | ⟨a, c, n', e⟩
      · refine .inl ⟨a, _, hn', ?_⟩
        have : m' y = m y := by
          obtain ⟨o, es, ep, e1, d1, _, f1⟩ := n'
          obtain ⟨o2, es2, ep2, e2, d2, _, f2⟩ := hn
          rw [e1] at e2; cases e2; rw [d1] at d2; cases d2
          rw [← f1, ← f2]
        simp only [hy, if_false]; rw [← this]; exact e
      · exact .inr ⟨a, c, n', e.sameBut hs fun h => ns_ne_cell hn e h.symm⟩
    · intro y c e
      obtain ⟨v, z⟩ := q.cells y c e
      exact ⟨v, z.sameBut hs fun h => ns_ne_cell hn z h.symm⟩
  · obtain ⟨c, hc⟩ := Option.isSome_iff_exists.mp (q.ok.cellsOk x hl)
    obtain ⟨v₀, z⟩ := q.cells x c hc
    refine wpAny_storeName_cell q.ok.kind hl hc z fun h' hv' hs => h c _ ⟨hmt, .inr ⟨x, hc⟩, ⟨h', s.toks, rfl, hs⟩, fun l => cell_not_list z, fun l => cell_not_tup z, .inr ⟨hl, c, hc, hv'⟩, ?_, ⟨_, hn.sameBut hs (ns_ne_cell hn z)⟩, ?_⟩
    · intro y w hy hv
      rcases hv with ⟨a, m', n', e⟩ | ⟨a, c', n', e⟩
      · exact .inl ⟨a, m', n'.sameBut hs (ns_ne_cell n' z), e⟩
      · exact .inr ⟨a, c', n', e.sameBut hs fun h => hy (q.ok.apart y x c (h ▸ n') hc)⟩
    · intro y c' e
      by_cases h0 : c' = c
      · subst h0; exact ⟨_, hv'⟩
      · obtain ⟨v, z'⟩ := q.cells y c' e
        exact ⟨v, z'.sameBut hs h0⟩

theorem Stored.not_free {C s x v b s'} (t : Stored C s x v b s') {O} : ¬ Free C O b := fun f => by
  rcases t.fr with e | ⟨y, e⟩
  · exact f.1 e
  · exact f.2.1 y b e rfl

theorem Stored.get {C s x v b s'} (t : Stored C s x v b s') {a : Addr} {o : Obj} (h : s.heap.get? a = some o) (hne : a ≠ b) : s'.heap.get? a = some o := by
  obtain ⟨h', tk, rfl, hs⟩ := t.same
  exact (hs.2 a hne).trans h

theorem Stored.plain {C s x v b s'} (t : Stored C s x v b s') {a l} (h : s.heap.PlainList a l) : s'.heap.PlainList a l := by
  have hne : a ≠ b := fun e => t.nl l (e ▸ h)
  obtain ⟨n, e⟩ := h
  exact ⟨n, t.get e hne⟩
theorem Stored.tup {C s x v b s'} (t : Stored C s x v b s') {a l} (h : IsTup s.heap a l) : IsTup s'.heap a l := by
  have hne : a ≠ b := fun e => t.nt l (e ▸ h)
  obtain ⟨n, e, r⟩ := h
  exact ⟨n, t.get e hne, r⟩
theorem Stored.rep {C s x v b s'} (t : Stored C s x v b s') {P d w} (r : Rep P s.heap d w) : Rep P s'.heap d w := r.move (fun _ _ p x => ⟨t.plain x, p⟩) fun _ _ x => t.tup x
theorem Stored.reps {C s x v b s'} (t : Stored C s x v b s') {P d w} (r : Reps P s.heap d w) : Reps P s'.heap d w := r.move (fun _ _ p x => ⟨t.plain x, p⟩) fun _ _ x => t.tup x

theorem Stored.base {C O σ s x v b s'} (t : Stored C s x v b s') (q : Rel C O σ s) : Kp C.s₀ s' := by
  have hb : C.s₀.heap.get? b = none := by
    rcases t.fr with e | ⟨y, e⟩
    · rw [e]; exact q.ok.newL t.mt
    · exact q.ok.newC t.mt y b e
  obtain ⟨h, k, e⟩ := q.same
  obtain ⟨h', tk, rfl, hs⟩ := t.same
  obtain ⟨h₁, t₁, rfl, k₁⟩ := q.same
  exact ⟨h', tk, rfl, fun a o e => (hs.2 a (fun x => by rw [x, hb] at e; cases e)).trans (k₁ a o e)⟩

/-- x becomes data -/
theorem Stored.rel {C O σ s x v b s' d} (t : Stored C s x v b s') (q : Rel C O σ s) (r : Rep (Pr C O true) s.heap d v) : Rel C O ((x, .dat d) :: σ) s' where
  ok := q.ok
  same := t.base q
  ns := t.ns
  cells := t.cells
  vars := fun y bd e => by
    rw [List.lookup_cons] at e
    cases hy : y == x with
    | true =>
      rw [hy] at e; cases e
      rw [beq_iff_eq.mp hy]
      exact ⟨v, t.here, t.rep r⟩
    | false =>
      rw [hy] at e
      have hne : y ≠ x := by simpa using hy
      have := q.vars y bd e
      cases bd with
      | dat d => obtain ⟨w, a, b⟩ := this; exact ⟨w, t.others y w hne a, t.rep b⟩
      | own ds => obtain ⟨a, vs, h1, h2, p, h3, h4⟩ := this; exact ⟨a, vs, t.others y _ hne h1, h2, p, t.plain h3, t.reps h4⟩
  owned := fun y a e => ⟨(q.owned y a e).1, let ⟨l, z⟩ := (q.owned y a e).2; ⟨l, t.plain z⟩⟩
  inj := q.inj
theorem Stored.step {C O σ s x v b s'} (t : Stored C s x v b s') (q : Rel C O σ s) : Step C O s O s' :=
  ⟨fun a o e f => t.get e fun h => t.not_free (h ▸ f), fun _ _ _ f => f.2.2⟩

/-- x becomes a list of the frame's own, made since s₁ -/
theorem Stored.relOwn {C O σ s₁ s x b s' a vs ds} (t : Stored C s x (.ref a) b s') (q₁ : Rel C O σ s₁) (k : Kp s₁ s) (ha : s₁.heap.get? a = none) (hl : s.heap.PlainList a (List.toArray vs))
    (r : Reps (fun b => Pr C O true b ∧ b ≠ a) s.heap ds vs) : Rel C (fun y => if y = x then some a else O y) ((x, .own ds) :: σ) s' where
  ok := q₁.ok
  same := t.base (q₁.keeps k)
  ns := t.ns
  cells := t.cells
  vars := fun y bd e => by
    have mv : ∀ {d w}, Rep (Pr C O true) s₁.heap d w → Rep (Pr C (fun y => if y = x then some a else O y) true) s'.heap d w := fun r =>
      r.move (fun b l p z => ⟨t.plain (isList_ext k.ext z), p.1, fun _ y e => by
        by_cases hy : y = x
        · simp only [hy, if_true] at e; cases e
          obtain ⟨n, z⟩ := z; rw [ha] at z; cases z
        · simp only [hy, if_false] at e; exact p.2 rfl y e⟩) fun _ _ z => t.tup (z.keeps k.ext)
    have mvs : ∀ {d w}, Reps (Pr C O true) s₁.heap d w → Reps (Pr C (fun y => if y = x then some a else O y) true) s'.heap d w := fun r =>
      r.move (fun b l p z => ⟨t.plain (isList_ext k.ext z), p.1, fun _ y e => by
        by_cases hy : y = x
        · simp only [hy, if_true] at e; cases e
          obtain ⟨n, z⟩ := z; rw [ha] at z; cases z
        · simp only [hy, if_false] at e; exact p.2 rfl y e⟩) fun _ _ z => t.tup (z.keeps k.ext)
    rw [List.lookup_cons] at e
    cases hy : y == x with
    | true =>
      rw [hy] at e; cases e
      rw [beq_iff_eq.mp hy]
      refine ⟨a, vs, t.here, by simp, (q₁.new true ha).1, t.plain hl, r.move (fun b l p z => ⟨t.plain z, p.1.1, fun _ y e => ?_⟩) fun _ _ z => t.tup z⟩
      by_cases hy : y = x
      · simp only [hy, if_true] at e; cases e; exact p.2 rfl
      · simp only [hy, if_false] at e; exact p.1.2 rfl y e
    | false =>
      rw [hy] at e
      have hne : y ≠ x := by simpa using hy
      have := q₁.vars y bd e
      cases bd with
      | dat d => obtain ⟨w, a, b⟩ := this; exact ⟨w, t.others y w hne (a.keeps k.ext), mv b⟩
      | own ds => obtain ⟨a', vs', h1, h2, p, h3, h4⟩ := this; exact ⟨a', vs', t.others y _ hne (h1.keeps k.ext), by simp only [hne, if_false]; exact h2, p, t.plain (isList_ext k.ext h3), mvs h4⟩
  owned := fun y a' e => by
    by_cases hy : y = x
    · simp only [hy, if_true] at e; cases e
      refine ⟨?_, _, t.plain hl⟩
      cases e : C.s₀.heap.get? a with
      | none => rfl
      | some o => rw [q₁.same.ext _ _ e] at ha; cases ha
    · simp only [hy, if_false] at e
      exact ⟨(q₁.owned y a' e).1, let ⟨l, z⟩ := (q₁.owned y a' e).2; ⟨l, t.plain (isList_ext k.ext z)⟩⟩
  inj := fun y z a' e e' => by
    by_cases hy : y = x <;> by_cases hz : z = x
    · rw [hy, hz]
    · simp only [hy, if_true] at e; cases e; simp only [hz, if_false] at e'
      obtain ⟨_, l, n, w⟩ := q₁.owned z a e'; rw [ha] at w; cases w
    · simp only [hz, if_true] at e'; cases e'; simp only [hy, if_false] at e
      obtain ⟨_, l, n, w⟩ := q₁.owned y a e; rw [ha] at w; cases w
    · simp only [hy, if_false] at e; simp only [hz, if_false] at e'; exact q₁.inj y z a' e e'
theorem Stored.stepOwn {C O σ s₁ s x b s' a} (t : Stored C s x (.ref a) b s') (q₁ : Rel C O σ s₁) (k : Kp s₁ s) (ha : s₁.heap.get? a = none) : Step C O s₁ (fun y => if y = x then some a else O y) s' :=
  ⟨fun b o e f => t.get (k.ext _ _ e) fun h => t.not_free (h ▸ f), fun b o e f y h => by
    by_cases hy : y = x
    · simp only [hy, if_true] at h; cases h; rw [ha] at e; cases e
    · simp only [hy, if_false] at h; exact f.2.2 y h⟩

section
variable {C : Cx} {σ σ' : Sg} {o : Out}

theorem Ex.assign {x : Str} {p pos : Pos} {e : Expr} {d : V} (h : Ev C σ e true d) (hx : Storable C x) (hs : swapsWith e (some (.Name x p)) pos.line C.env = pure false := by rfl) :
    Ex C σ (.Assign [.Name x p] e pos) (.next ((x, .dat d) :: σ)) := fun O s q =>
  wpAny_Assign_Name (wpAny_mono (h O s q) (fun v s₁ ⟨k, r⟩ => store_var (q.keeps k) hx fun b s' t => ⟨rfl, O, t.rel (q.keeps k) r, (Step.kp k).trans (t.step (q.keeps k))⟩) fun _ _ e => e) hs

theorem Ex.assignOwn {x : Str} {p pos : Pos} {e : Expr} {ds : List V} (h : EvN C σ e ds) (hx : Storable C x) (hs : swapsWith e (some (.Name x p)) pos.line C.env = pure false := by rfl) :
    Ex C σ (.Assign [.Name x p] e pos) (.next ((x, .own ds) :: σ)) := fun O s q =>
  wpAny_Assign_Name (wpAny_mono (h O s q) (fun v s₁ ⟨k, a, vs, e, n, pl, r⟩ => by
    subst e
    exact store_var (q.keeps k) hx fun b s' t => ⟨rfl, _, t.relOwn q k n pl r, t.stepOwn q k n⟩) fun _ _ e => e) hs

theorem Run.post {b : List Stmt} {σ₁ σ₂ : Sg} (h : Run C σ b (.next σ₁)) (hw : ∀ x b, σ₂.lookup x = some b → σ₁.lookup x = some b) : Run C σ b (.next σ₂) := fun O s q =>
  wpAny_mono (h O s q) (fun f s' ⟨e, O', r, st⟩ => ⟨e, O', r.weak hw, st⟩) fun _ _ e => e

end

theorem free_list {C O σ s a l} (q : Rel C O σ s) (h : s.heap.PlainList a l) (ho : ∀ x, O x ≠ some a) : Free C O a := by
  refine ⟨fun e => ?_, fun x c e h' => ?_, ho⟩
  · obtain ⟨m, hn⟩ := q.ns; rw [e] at h; exact ns_not_list hn h
  · obtain ⟨v, hc⟩ := q.cells x c e; rw [h'] at h; exact cell_not_list hc h
theorem free_tup {C O σ s a l} (q : Rel C O σ s) (h : IsTup s.heap a l) : Free C O a := by
  refine ⟨fun e => ?_, fun x c e h' => ?_, fun x e => ?_⟩
  · obtain ⟨m, hn⟩ := q.ns; rw [e] at h; exact ns_not_tup hn h
  · obtain ⟨v, hc⟩ := q.cells x c e; rw [h'] at h; exact cell_not_tup hc h
  · obtain ⟨_, l', n, z⟩ := q.owned x a e
    obtain ⟨o, e', c, _⟩ := h
    rw [z] at e'; cases e'
    exact absurd (show Value.type "list" = Value.type "tuple" from c) (by decide)

/-- objects outside wr stay -/
def Stay (C : Cx) (wr : List Addr) (O : Str → Option Addr) (s : Shared) (O' : Str → Option Addr) (s' : Shared) : Prop :=
  (∀ b o, s.heap.get? b = some o → Free C O b → b ∉ wr → s'.heap.get? b = some o) ∧ ∀ b o, s.heap.get? b = some o → Free C O b → ∀ x, O' x ≠ some b

theorem Stay.rep {C wr O s O' s' σ d v} (t : Stay C wr O s O' s') (q : Rel C O σ s) (hw : ∀ b ∈ wr, (∀ l, ¬ s.heap.PlainList b l) ∧ ∀ l, ¬ IsTup s.heap b l) (r : Rep (Pr C O true) s.heap d v) : Rep (Pr C O' true) s'.heap d v :=
  r.move (fun a l p h => by
    have f := free_list q h (p.2 rfl)
    have hn : a ∉ wr := fun hm => (hw a hm).1 l h
    obtain ⟨n, e⟩ := h
    exact ⟨⟨n, t.1 a _ e f hn⟩, p.1, fun _ => t.2 a _ e f⟩) fun a l h => by
    have f := free_tup q h
    have hn : a ∉ wr := fun hm => (hw a hm).2 l h
    obtain ⟨o, e, r⟩ := h
    exact ⟨o, t.1 a _ e f hn, r⟩

theorem Rel.poke {C O σ s h' tk} {wr : List Addr} (q : Rel C O σ s) (hk : ∀ b o, b ∉ wr → s.heap.get? b = some o → h'.get? b = some o)
    (hw : ∀ b ∈ wr, Free C O b ∧ C.s₀.heap.get? b = none ∧ (∀ l, ¬ s.heap.PlainList b l) ∧ ∀ l, ¬ IsTup s.heap b l) : Rel C O σ { s with heap := h', toks := tk } := by
  have pl : ∀ {a l}, s.heap.PlainList a l → h'.PlainList a l := fun {a l} z => let ⟨n, e⟩ := id z; ⟨n, hk a _ (fun hm => (hw a hm).2.2.1 l z) e⟩
  have tp : ∀ {a l}, IsTup s.heap a l → IsTup h' a l := fun {a l} z => let ⟨n, e, r⟩ := id z; ⟨n, hk a _ (fun hm => (hw a hm).2.2.2 l z) e, r⟩
  have nL : C.env.locals ∉ wr := fun hm => (hw _ hm).1.1 rfl
  have nC : ∀ x c, C.env.cells.lookup x = some c → c ∉ wr := fun x c e hm => (hw _ hm).1.2.1 x c e rfl
  have vr : ∀ {x v}, VarIs C.env s.heap x v → VarIs C.env h' x v := fun {x v} z => by
    rcases z with ⟨a, m, n, e⟩ | ⟨a, c, n, e⟩
    · obtain ⟨o, es, ep, e', r⟩ := n; exact .inl ⟨a, m, ⟨o, es, ep, hk _ _ nL e', r⟩, e⟩
    · obtain ⟨o, e', r⟩ := e; exact .inr ⟨a, c, n, ⟨o, hk _ _ (nC x c n) e', r⟩⟩
  refine ⟨q.ok, ?_, ?_, ?_, ?_, ?_, q.inj⟩
  · obtain ⟨h, t, e, k⟩ := q.same
    subst e
    exact ⟨h', tk, rfl, fun b o e => hk b o (fun hm => by rw [(hw b hm).2.1] at e; cases e) (k b o e)⟩
  · obtain ⟨m, o, es, ep, e', r⟩ := q.ns; exact ⟨m, o, es, ep, hk _ _ nL e', r⟩
  · intro x c e
    obtain ⟨v, o, e', r⟩ := q.cells x c e; exact ⟨v, o, hk _ _ (nC x c e) e', r⟩
  · intro x b e
    have := q.vars x b e
    cases b with
    | dat d => obtain ⟨v, a, b⟩ := this; exact ⟨v, vr a, b.move (fun _ _ p z => ⟨pl z, p⟩) fun _ _ z => tp z⟩
    | own ds => obtain ⟨a, vs, h1, h2, p, h3, h4⟩ := this; exact ⟨a, vs, vr h1, h2, p, pl h3, h4.move (fun _ _ p z => ⟨pl z, p⟩) fun _ _ z => tp z⟩
  · intro x a e
    exact ⟨(q.owned x a e).1, let ⟨l, z⟩ := (q.owned x a e).2; ⟨l, pl z⟩⟩

/-- what iterating over an expression gives -/
structure Ited (C : Cx) (O : Str → Option Addr) (s : Shared) (ds : List V) (it : Value) (s₂ : Shared) : Prop where
  kp : Kp s s₂
  ex : ∃ I fp wr P St, it = .ref I ∧ (∀ A' : Around, A'.handled = none → Walks C.prog C.w A' I fp wr ds.length P St) ∧ St 0 s₂.heap ∧ (∀ b ∈ wr, s.heap.get? b = none) ∧
    (∀ b ∈ fp, (∃ o, s₂.heap.get? b = some o) ∧ Free C O b) ∧ (∀ i v, i < ds.length → P i v → ∃ d, ds[i]? = some d ∧ Rep (Pr C O true) s₂.heap d v) ∧
    (∀ i h b, St i h → b ∈ wr → (∀ l, ¬ h.PlainList b l) ∧ ∀ l, ¬ IsTup h b l) ∧ ∀ i h b, St i h → b ∈ fp → ∃ o, h.get? b = some o

def It (C : Cx) (σ : Sg) (e : Expr) (ds : List V) : Prop :=
  ∀ O s, Rel C O σ s → wpAny C.M C.A (eval e C.env) (fun x s₁ => wpAny C.M C.A (pyIter x) (fun it s₂ => Ited C O s ds it s₂) (fun _ _ => False) s₁) (fun _ _ => False) s

section
variable {C : Cx} {σ σ' : Sg} {o : Out}

theorem forGen {x : Str} {p pos : Pos} {iter : Expr} {body : List Stmt} {ds : List V} (J : Nat → Sg) (m : Nat) (hi : It C σ iter ds) (hx : Storable C x) (h0 : ∀ y b, (J 0).lookup y = some b → σ.lookup y = some b)
    (step : ∀ i d, i < m → ds[i]? = some d → Run C ((x, .dat d) :: J i) body (.next (J (i + 1))))
    (fin : (m = ds.length ∧ o = .next (J m)) ∨ ∃ d r, ds[m]? = some d ∧ o = .ret r ∧ Run C ((x, .dat d) :: J m) body (.ret r))
    (hs : ∀ x, foldedSetIterable iter C.env x = pure x := by intro _; rfl) : Ex C σ (.For (.Name x p) iter body [] pos) o := fun O s q => by
  refine wpAny_For (wpAny_mono (hi O s q) (fun xv s₁ h₁ => wpAny_mono h₁ (fun it s₂ h₂ => ?_) fun _ _ e => e) fun _ _ e => e) hs
  obtain ⟨k, I, fp, wr, P, St, rfl, W', st0, hnew, hfp, hP, hnl, hex⟩ := h₂
  have W := W' C.A q.ok.room.handled
  have hml : m ≤ ds.length := by
    rcases fin with ⟨e, _⟩ | ⟨d, r, e, _⟩
    · omega
    · exact Nat.le_of_lt (List.getElem?_eq_some_iff.mp e).1
  have q₂ := q.keeps k
  have hwr : ∀ b ∈ wr, C.s₀.heap.get? b = none := fun b hb => by
    cases e : C.s₀.heap.get? b with
    | none => rfl
    | some o => have := q.same.ext _ _ e; rw [hnew b hb] at this; cases this
  refine codeAny_forLoop_any (fun n s' => ∃ i O', n = m + 1 - i ∧ i ≤ m ∧ Rel C O' (J i) s' ∧ St i s'.heap ∧ Stay C wr O s₂ O' s') ?_ (m + 1) ⟨0, O, rfl, Nat.zero_le _, q₂.weak h0, st0, fun _ _ e _ _ => e, fun _ _ _ f => f.2.2⟩
  rintro n s' ⟨i, O', rfl, him, q', st', stay⟩
  have ff : ∀ b ∈ fp, Free C O' b := fun b hb => let ⟨⟨o, e⟩, f⟩ := hfp b hb; ⟨f.1, f.2.1, stay.2 b o e f⟩
  have hw' : ∀ b ∈ wr, Free C O' b ∧ C.s₀.heap.get? b = none ∧ (∀ l, ¬ s'.heap.PlainList b l) ∧ ∀ l, ¬ IsTup s'.heap b l := fun b hb =>
    ⟨ff b (W.sub b hb), hwr b hb, hnl i _ b st' hb⟩
  have turn : ∀ d (o' : Out), ds[i]? = some d → Run C ((x, .dat d) :: J i) body o' → ∀ (N : Shared → Prop) (Q : Flow → Shared → Prop) (Ee : Value → Shared → Prop),
      (∀ f s₃ s₄ O₁, St (i + 1) s₃.heap → (∀ b ∈ fp, Free C O₁ b) → Stay C wr O s₂ O₁ s₃ → o'.post C O₁ s₃ f s₄ → Q f s₄) →
      wpAny C.M C.A (pyNext (.ref I)) (fun r s₁ => match r with
        | none => N s₁
        | some v => wpAny C.M C.A (letOwnedTupleGo (.Name x p) (.ref I) v) (fun _ s₁' =>
          wpAny C.M C.A (assign (.Name x p) C.env v) (fun _ s₂ => wpAny C.M C.A (execs body C.env) Q Ee s₂) Ee s₁') Ee s₁) Ee s' := by
    intro d o' hd hb N Q Ee hQ
    have hlt : i < ds.length := (List.getElem?_eq_some_iff.mp hd).1
    refine W.item i s' _ _ hlt st' fun v h' tk hPv st₁ hk₁ => ?_
    have q₁ : Rel C O' (J i) { s' with heap := h', toks := tk } := q'.poke hk₁ hw'
    have stay₁ : Stay C wr O s₂ O' { s' with heap := h', toks := tk } := ⟨fun b o e f hb => hk₁ b o hb (stay.1 b o e f hb), stay.2⟩
    obtain ⟨d', hd', rp⟩ := hP i v hlt hPv
    have : d' = d := by rw [hd] at hd'; exact (Option.some.inj hd').symm
    subst this
    have rp₁ := stay₁.rep q₂ (fun b hb => hnl 0 _ b st0 hb) rp
    refine wpAny_of_eq (show letOwnedTupleGo (.Name x p) (.ref I) v = pure () from rfl) ?_
    refine wpAny_assign_Name (store_var q₁ hx fun b s₃ t => ?_)
    have q₃ := t.rel q₁ rp₁
    have st₃ : St (i + 1) s₃.heap := W.frame _ _ _ st₁ fun b hb o e => t.get e fun h => t.not_free (h ▸ ff b hb)
    have stay₃ : Stay C wr O s₂ O' s₃ := ⟨fun b o e f hb => t.get (stay₁.1 b o e f hb) fun h => t.not_free (O := O') ⟨h ▸ f.1, fun y c hy => h ▸ f.2.1 y c hy, h ▸ stay.2 b o e f⟩, stay.2⟩
    exact wpAny_mono (hb O' s₃ q₃) (fun f s₄ h => hQ f s₃ s₄ O' st₃ ff stay₃ h) fun _ _ e => e.elim
  by_cases hlt : i < m
  · have hds : i < ds.length := by omega
    have hd : ds[i]? = some ds[i] := by simp [hds]
    refine turn _ _ hd (step i _ hlt hd) _ _ _ fun f s₃ s₄ O₁ st₃ ff₃ stay₃ h => ?_
    obtain ⟨e, O₄, q₄, sp⟩ := h
    subst e
    refine ⟨m + 1 - (i + 1), by omega, i + 1, O₄, rfl, hlt, q₄, ?_, ?_, ?_⟩
    · exact W.frame _ _ _ st₃ fun b hb o e => sp.obj b o e (ff₃ b hb)
    · intro b o e f hb
      have e3 := stay₃.1 b o e f hb
      exact sp.obj b o e3 ⟨f.1, f.2.1, stay₃.2 b o e f⟩
    · intro b o e f
      by_cases hb : b ∈ wr
      · obtain ⟨oo, e'⟩ : ∃ oo, s₃.heap.get? b = some oo := hex _ _ b st₃ (W.sub b hb)
        exact sp.own b oo e' (ff₃ b (W.sub b hb))
      · have e3 := stay₃.1 b o e f hb
        exact sp.own b o e3 ⟨f.1, f.2.1, stay₃.2 b o e f⟩
  · have him' : i = m := by omega
    subst him'
    rcases fin with ⟨e, rfl⟩ | ⟨d, r, hd, rfl, hr⟩
    · refine W.done s' _ _ (e ▸ st') fun h' tk hk₁ => wpAny_execs_nil ?_
      refine ⟨rfl, O', q'.poke hk₁ hw', ?_, ?_⟩
      · intro b o e f
        have nw : b ∉ wr := fun hm => by rw [hnew b hm] at e; cases e
        exact hk₁ b o nw (stay.1 b o (k.ext _ _ e) f nw)
      · intro b o e f
        exact stay.2 b o (k.ext _ _ e) f
    · refine turn _ _ hd hr _ _ _ fun f s₃ s₄ O₁ st₃ ff₃ stay₃ h => ?_
      obtain ⟨v, e, r⟩ := h
      subst e
      exact ⟨v, rfl, r⟩

theorem Ex.for {x : Str} {p pos : Pos} {iter : Expr} {body : List Stmt} {ds : List V} (J : Nat → Sg) (hi : It C σ iter ds) (hx : Storable C x)
    (step : ∀ i d, ds[i]? = some d → Run C ((x, .dat d) :: J i) body (.next (J (i + 1)))) (h0 : ∀ y b, (J 0).lookup y = some b → σ.lookup y = some b)
    (hs : ∀ x, foldedSetIterable iter C.env x = pure x := by intro _; rfl) : Ex C σ (.For (.Name x p) iter body [] pos) (.next (J ds.length)) :=
  forGen J ds.length hi hx h0 (fun i d _ h => step i d h) (.inl ⟨rfl, rfl⟩) hs
theorem execs_append (env : Env) (b : List Stmt) : ∀ a : List Stmt, execs (a ++ b) env = (execs a env >>= fun f => match f with | .next => execs b env | f => pure f)
  | [] => rfl
  | st :: rest => by
    rw [List.cons_append, execs_cons, execs_cons, bind_assoc]
    congr 1
    funext f
    cases f with
    | next => exact execs_append env b rest
    | _ => rfl

theorem execs_if (env : Env) (test : Expr) (body orelse rest : List Stmt) (pos : Pos) : execs (.If test body orelse pos :: rest) env =
    (standAt pos >>= fun _ => isTrue test env (eval test env) >>= fun b => if b then execs (body ++ rest) env else execs (orelse ++ rest) env) := by
  rw [execs_cons, exec_If]
  simp only [bind_assoc]
  congr 1; funext _; congr 1; funext b
  cases b
  · simp only [Bool.false_eq_true, if_false]; exact (execs_append env rest orelse).symm
  · simp only [if_true]; exact (execs_append env rest body).symm

def catS : List Stmt → List Stmt → List Stmt
  | [], b => b
  | s :: a, b => s :: catS a b
theorem catS_eq : ∀ a b : List Stmt, catS a b = a ++ b
  | [], _ => rfl
  | s :: a, b => congrArg (s :: ·) (catS_eq a b)

/-- if: each way runs on into the rest -/
theorem Run.if {test : Expr} {body orelse rest : List Stmt} {pos : Pos} {b : Bool} (ht : Tst C σ test b) (h1 : b = true → Run C σ (catS body rest) o) (h2 : b = false → Run C σ (catS orelse rest) o) :
    Run C σ (.If test body orelse pos :: rest) o := fun O s q => by
  rw [execs_if]
  rw [catS_eq] at h1 h2
  refine wpAny_bind (wpAny_standAt (wpAny_bind (wpAny_mono (ht O s q) (fun r s₁ ⟨e, k⟩ => ?_) fun _ _ e => e)))
  subst e
  cases r
  · simp only [Bool.false_eq_true, if_false]
    exact wpAny_mono (h2 rfl O s₁ (q.keeps k)) (fun _ _ h => Out.post_step (Step.kp k) h) fun _ _ e => e
  · simp only [if_true]
    exact wpAny_mono (h1 rfl O s₁ (q.keeps k)) (fun _ _ h => Out.post_step (Step.kp k) h) fun _ _ e => e
theorem Run.ifF {test : Expr} {body orelse rest : List Stmt} {pos : Pos} {b : Bool} (ht : Tst C σ test b) (hb : b = false) (h2 : Run C σ (catS orelse rest) o) : Run C σ (.If test body orelse pos :: rest) o :=
  Run.if ht (fun h => by rw [hb] at h; cases h) fun _ => h2
end

section
variable {C : Cx} {σ : Sg} {c c' : Bool}

/-- a call of a built-in function by its name -/
theorem Ev.builtin {f : Str} {id : String} {p pos : Pos} {e : Expr} {es : List Expr} {ds : List V} {r : V} (hk : C.env.kindOf f = some .globalImplicit) (hg : C.G.mg f = none) (hb : C.G.mb f = some (.builtin id))
    (ha : Evs C σ (e :: es) c' ds)
    (h : ∀ O s vs, Rel C O σ s → Reps (Pr C O c') s.heap ds vs → wpAny C.M C.A (PySem.call (.builtin id) vs) (fun v s' => Kp s s' ∧ Rep (Pr C O c) s'.heap r v) (fun _ _ => False) s)
    (hd : (f == ("__debug__" : Str)) = false := by rfl)
    (hstar : ∃ (x : Sem Value) (rest : Pos → List (Bool × Sem Value)), ∀ pos, backTo pos (starEach (e :: es) C.env) = (false, x) :: rest pos ∧ (rest pos).any (·.1) = false := by exact ⟨_, _, fun _ => ⟨rfl, rfl⟩⟩) :
    Ev C σ (.Call (.Name f p) (e :: es) [] pos) c r := fun O s q => by
  refine wpAny_Call_NameR (Calls.Name_function_global q.ok.kind hk (Calls.loadGlobal_builtin (by rw [q.ok.gl]; exact q.good.g) hg (by rw [q.ok.bi]; exact q.good.b) hb ?_) hd)
  obtain ⟨x, rest, hst⟩ := hstar
  have hargs := ha O s pos q
  rw [(hst pos).1] at hargs ⊢
  refine Calls.callWith_builtin (by rw [List.any_cons, (hst pos).2]; rfl) (Calls.evalArgs_plain (wpAny_mono hargs (fun vs s₁ ⟨k, r⟩ => ?_) fun _ _ e => e))
  exact wpAny_mono (h O s₁ vs (q.keeps k) r) (fun v s' ⟨k', r'⟩ => ⟨k.trans k', r'⟩) fun _ _ e => e

/-- a call of a built-in type by its name -/
theorem evType {f : Str} {T : String} {p pos : Pos} {e : Expr} {es : List Expr} {ds : List V} (hk : C.env.kindOf f = some .globalImplicit) (hg : C.G.mg f = none) (hb : C.G.mb f = some (.type T))
    (ha : Evs C σ (e :: es) c' ds) (Q : (Str → Option Addr) → Shared → Value → Shared → Prop) {O s} (q : Rel C O σ s)
    (h : ∀ s₁ vs, Kp s s₁ → Rel C O σ s₁ → Reps (Pr C O c') s₁.heap ds vs → wpAny C.M C.A (PySem.call (.type T) vs) (fun v s' => Q O s v s') (fun _ _ => False) s₁)
    (hd : (f == ("__debug__" : Str)) = false := by rfl)
    (hstar : ∃ (x : Sem Value) (rest : Pos → List (Bool × Sem Value)), ∀ pos, backTo pos (starEach (e :: es) C.env) = (false, x) :: rest pos ∧ (rest pos).any (·.1) = false := by exact ⟨_, _, fun _ => ⟨rfl, rfl⟩⟩) :
    wpAny C.M C.A (eval (.Call (.Name f p) (e :: es) [] pos) C.env) (fun v s' => Q O s v s') (fun _ _ => False) s := by
  refine wpAny_Call_NameR (Calls.Name_function_global q.ok.kind hk (Calls.loadGlobal_builtin (by rw [q.ok.gl]; exact q.good.g) hg (by rw [q.ok.bi]; exact q.good.b) hb ?_) hd)
  obtain ⟨x, rest, hst⟩ := hstar
  have hargs := ha O s pos q
  rw [(hst pos).1] at hargs ⊢
  refine PyProof.Rows.callWith_type (by rw [List.any_cons, (hst pos).2]; rfl) (Calls.evalArgs_plain (wpAny_mono hargs (fun vs s₁ ⟨k, r⟩ => ?_) fun _ _ e => e))
  exact h s₁ vs k (q.keeps k) r

theorem reps1 {P h d vs} (r : Reps P h [d] vs) : ∃ v, vs = [v] ∧ Rep P h d v := by
  simp only [Reps] at r
  obtain ⟨v, r', rfl, a, rfl⟩ := r
  exact ⟨v, rfl, a⟩
/-- the length -/
inductive LenOk : V → Nat → Prop
  | str (l : List Nat) : LenOk (.str l) l.length
  | list (l : List V) : LenOk (.list l) l.length

variable {p pos : Pos} {e e' : Expr}

theorem Ev.len {d : V} {n : Nat} (hk : C.env.kindOf "len" = some .globalImplicit) (hg : C.G.mg "len" = none) (hb : C.G.mb "len" = some (.builtin "len")) (h : Ev C σ e false d) (ok : LenOk d n) (hn : n < 9223372036854775808)
    (he : starEach [e] C.env = [(false, eval e C.env)] := by rfl) : Ev C σ (.Call (.Name "len" p) [e] [] pos) c (.int n) :=
  Ev.builtin hk hg hb (Evs.cons h Evs.nil he) (fun O s vs q r => by
    obtain ⟨v, rfl, a⟩ := reps1 r
    cases ok with
    | str l =>
      simp only [Rep] at a; obtain ⟨⟨t, rfl⟩, _⟩ := a
      refine PySem.P.len_str (by rw [S_len]; omega) ⟨Kp.tok _ _, ?_⟩
      simp only [Rep]; exact ⟨_, by rw [S_len]⟩
    | list l =>
      simp only [Rep] at a; obtain ⟨x, vs, rfl, pp, pl, rs⟩ := a
      have := rs.length
      refine Calls.call_len_list pl.isList (by simp only [List.size_toArray]; omega) ⟨Kp.tok _ _, ?_⟩
      simp only [Rep]; exact ⟨_, by simp only [List.size_toArray]; rw [this]⟩) rfl ⟨eval e C.env, fun _ => [], fun pos => ⟨by rw [he]; rfl, rfl⟩⟩

abbrev vInts (l : List Int) : List V := l.map .int

theorem reps_ints {P h} : ∀ {l : List Int} {vs : List Value}, Reps P h (vInts l) vs → ∃ xs : List (Int × Tok), xs.map (·.1) = l ∧ vs = xs.map fun x => .int x.1 x.2
  | [], vs, r => by simp only [vInts, List.map_nil, Reps] at r; subst r; exact ⟨[], rfl, rfl⟩
  | i :: l, vs, r => by
    simp only [vInts, List.map_cons, Reps] at r
    obtain ⟨v, vs', rfl, a, b⟩ := r
    simp only [Rep] at a; obtain ⟨t, rfl⟩ := a
    obtain ⟨xs, rfl, rfl⟩ := reps_ints b
    exact ⟨(i, t) :: xs, rfl, rfl⟩

/-- the greatest of a list that is not empty -/
def maxL : List Int → Int
  | [] => 0
  | [x] => x
  | x :: r => max x (maxL r)
theorem maxL_ge {l : List Int} {x : Int} (h : x ∈ l) : x ≤ maxL l := by
  induction l with
  | nil => cases h
  | cons y r ih =>
    cases r with
    | nil => simp at h; subst h; exact Int.le_refl _
    | cons z r' =>
      simp only [maxL]
      rcases List.mem_cons.mp h with rfl | h
      · exact Int.le_max_left _ _
      · exact Int.le_trans (ih h) (Int.le_max_right _ _)
theorem maxL_mem {l : List Int} (h : l ≠ []) : maxL l ∈ l := by
  induction l with
  | nil => exact absurd rfl h
  | cons y r ih =>
    cases r with
    | nil => simp [maxL]
    | cons z r' =>
      simp only [maxL]
      have := ih (by simp)
      rcases Int.le_total y (maxL (z :: r')) with q | q
      · rw [Int.max_eq_right q]; exact List.mem_cons_of_mem _ this
      · rw [Int.max_eq_left q]; exact List.mem_cons_self
theorem maxL_eq {l : List Int} {x : Int} (hm : x ∈ l) (h : ∀ y ∈ l, y ≤ x) : maxL l = x :=
  Int.le_antisymm (h _ (maxL_mem (fun e => by rw [e] at hm; cases hm))) (maxL_ge hm)

end

section
variable {C : Cx} {σ : Sg} {c c' : Bool} {p pos : Pos} {e e' : Expr}

theorem new_free {O s} (q : Rel C O σ s) {a : Addr} (h : s.heap.get? a = none) : Free C O a := by
  refine ⟨fun e => ?_, fun x c e h' => ?_, fun x e => ?_⟩
  · obtain ⟨m, o, _, _, hn, _⟩ := q.ns; rw [e, hn] at h; cases h
  · obtain ⟨v, o, hc, _⟩ := q.cells x c e; rw [h', hc] at h; cases h
  · obtain ⟨_, l, n, z⟩ := q.owned x a e; rw [z] at h; cases h

theorem It.list {ds : List V} (h : Ev C σ e true (.list ds)) : It C σ e ds := fun O s q =>
  wpAny_mono (h O s q) (fun v s₁ ⟨k, r⟩ => by
    simp only [Rep] at r
    obtain ⟨a, vs, rfl, pa, pl, rs⟩ := r
    have q₁ := q.keeps k
    have hne : a ≠ s₁.heap.objs.size := by obtain ⟨n, e⟩ := pl; exact Nat.ne_of_lt (Heap.lt_size e)
    have hvs : vs.toArray.size = ds.length := by rw [← rs.length]; simp
    have kk : Ext s₁.heap (s₁.heap.push { cls := .type "list_iterator", data := .fields #[.ref a, .int 0 0] }) := fun _ _ e => Heap.get?_push_of_some _ e
    refine wpAny_pyIter_list pl.isList ⟨k.trans (Kp.mk' kk), s₁.heap.objs.size, [s₁.heap.objs.size, a], [s₁.heap.objs.size], (fun i v => vs.toArray[i]? = some v), (fun i h => h.IsListIter s₁.heap.objs.size a i ∧ h.IsList a vs.toArray), rfl,
      fun A' hA => by have := Walks.list (prog := C.prog) (w := C.w) hA s₁.heap.objs.size a hne vs.toArray; rwa [hvs] at this,
      ⟨⟨_, Heap.get?_push_size _ rfl, rfl, rfl⟩, (isList_ext kk pl).isList⟩, ?_, ?_, ?_, ?_, ?_⟩
    · intro b hb
      rw [List.mem_singleton.mp hb]
      cases e : s.heap.get? s₁.heap.objs.size with
      | none => rfl
      | some o => exact absurd (Heap.lt_size (k.ext _ _ e)) (Nat.lt_irrefl _)
    · intro b hb
      rcases List.mem_cons.mp hb with rfl | hb
      · exact ⟨⟨_, Heap.get?_push_size _ rfl⟩, new_free q₁ (get_size_none _)⟩
      · rw [List.mem_singleton.mp hb]
        exact ⟨let ⟨n, e⟩ := pl; ⟨_, kk _ _ e⟩, free_list q₁ pl (pa.2 rfl)⟩
    · intro i v _ hv
      have hv' : vs[i]? = some v := by simpa using hv
      have hi : i < ds.length := by rw [← rs.length]; exact (List.getElem?_eq_some_iff.mp hv').1
      obtain ⟨v', e1, e2⟩ := rs.get (i := i) (d := ds[i]) (by simp [hi])
      rw [hv'] at e1; cases e1
      exact ⟨ds[i], by simp [hi], e2.keeps kk⟩
    · intro i h b ⟨⟨o, ho, hc, hd⟩, _⟩ hb
      rw [List.mem_singleton.mp hb]
      refine ⟨fun l ⟨n, e⟩ => ?_, fun l ⟨o', e, hc', _⟩ => ?_⟩
      · rw [ho] at e; cases e; cases hd
      · rw [ho] at e; cases e; rw [hc] at hc'; exact absurd hc' (by decide)
    · intro i h b ⟨⟨o, ho, _⟩, ⟨o', ho', _⟩⟩ hb
      rcases List.mem_cons.mp hb with rfl | hb
      · exact ⟨o, ho⟩
      · rw [List.mem_singleton.mp hb]; exact ⟨o', ho'⟩) fun _ _ e => e

abbrev vChars (l : List Nat) : List V := l.map fun c => .str [c]

abbrev upTo (a : Int) (n : Nat) : List V := (List.range n).map fun i : Nat => .int (a + (i : Int))

theorem range_ited {O s s₁} (q : Rel C O σ s) (k : Kp s s₁) (a b : Int) (ha : -(2 ^ 62) ≤ a) (ha' : a < 2 ^ 62) (hb : -(2 ^ 62) ≤ b) (hb' : b < 2 ^ 62) {r : Addr} {t u v : Tok} {tk : Nat}
    (hr : IsRange s₁.heap r a b 1 t u v) : wpAny C.M C.A (pyIter (.ref r)) (fun it s₂ => Ited C O s (upTo a (b - a).toNat) it s₂) (fun _ _ => False) s₁ := by
  have q₁ := q.keeps k
  have hsz : Builtin.Range.rangeSize a b 1 = ((b - a).toNat : Int) := by rw [rangeSize_one]; split <;> omega
  refine wpAny_pyIter_range hr (small_one ha ha' hb hb') ?_
  rw [hsz]
  refine ⟨k.trans (Kp.mk' fun _ _ e => Heap.get?_push_of_some _ e), s₁.heap.objs.size, [s₁.heap.objs.size], [s₁.heap.objs.size], (fun i v => ∃ t, v = .int (a + i * 1) t), (fun i h => IsRangeIter h s₁.heap.objs.size (a + (i : Nat) * 1) (((b - a).toNat : Int) - (i : Nat)) 1), rfl,
    fun A' hA => by have := Walks.range (prog := C.prog) (w := C.w) hA s₁.heap.objs.size a 1 (b - a).toNat; rw [show (upTo a (b - a).toNat).length = (b - a).toNat from by simp [upTo]]; exact this, ?_, ?_, ?_, ?_, ?_, ?_⟩
  · show IsRangeIter _ _ (a + ((0 : Nat) : Int) * 1) (((b - a).toNat : Int) - ((0 : Nat) : Int)) 1
    have e1 : (a + ((0 : Nat) : Int) * 1) = a := by simp
    have e2 : (((b - a).toNat : Int) - ((0 : Nat) : Int)) = ((b - a).toNat : Int) := by simp
    rw [e1, e2]
    exact Heap.get?_push_size _ rfl
  · intro b hb
    rw [List.mem_singleton.mp hb]
    cases e : s.heap.get? s₁.heap.objs.size with
    | none => rfl
    | some o => exact absurd (Heap.lt_size (k.ext _ _ e)) (Nat.lt_irrefl _)
  · intro b hb
    rw [List.mem_singleton.mp hb]
    exact ⟨⟨_, Heap.get?_push_size _ rfl⟩, new_free q₁ (get_size_none _)⟩
  · rintro i v hi ⟨t, rfl⟩
    have hi' : i < (b - a).toNat := by simpa [upTo] using hi
    refine ⟨.int (a + i), by simp [upTo, hi'], ?_⟩
    simp only [Rep]; exact ⟨t, by simp⟩
  · intro i h b ho hb
    rw [List.mem_singleton.mp hb]
    refine ⟨fun l ⟨n, e⟩ => ?_, fun l ⟨o', e, hc', _⟩ => ?_⟩
    · unfold IsRangeIter at ho; rw [ho] at e; injection e with e; injection e with e; exact absurd e (by decide)
    · unfold IsRangeIter at ho; rw [ho] at e; injection e with e; rw [← e] at hc'; exact absurd (show Value.type "range_iterator" = Value.type "tuple" from hc') (by decide)
  · intro i h b ho hb
    rw [List.mem_singleton.mp hb]; exact ⟨_, ho⟩
end

section
variable {C : Cx} {σ : Sg} {c c' : Bool} {p pos : Pos} {e e' : Expr}

theorem It.range1 {n : Int} (hk : C.env.kindOf "range" = some .globalImplicit) (hg : C.G.mg "range" = none) (hb : C.G.mb "range" = some (.type "range")) (h : Ev C σ e false (.int n)) (hn : n.natAbs < 2 ^ 62)
    (he : starEach [e] C.env = [(false, eval e C.env)] := by rfl) : It C σ (.Call (.Name "range" p) [e] [] pos) (upTo 0 n.toNat) := fun O s q =>
  evType hk hg hb (Evs.cons h Evs.nil he) (fun O s v s₁ => wpAny C.M C.A (pyIter v) (fun it s₂ => Ited C O s (upTo 0 n.toNat) it s₂) (fun _ _ => False) s₁) q (fun s₁ vs k q₁ r => by
    obtain ⟨v, rfl, a⟩ := reps1 r
    simp only [Rep] at a; obtain ⟨t, rfl⟩ := a
    refine call_range_1 ?_
    rw [show n.toNat = (n - 0).toNat by rw [Int.sub_zero]]
    refine range_ited (tk := 0) q (k.trans (Kp.mk' fun _ _ e => Heap.get?_push_of_some _ e)) 0 n (by decide) (by decide) (by omega) (by omega) (IsRange.new ..)) rfl ⟨eval e C.env, fun _ => [], fun pos => ⟨by rw [he]; rfl, rfl⟩⟩

theorem numAt_eq (xs : List (Int × Tok)) (i : Nat) : numAt xs.toArray i = ((xs.map (·.1))[i]?).getD 0 := by
  unfold numAt; simp

theorem Ev.maxList {l : List Int} (hk : C.env.kindOf "max" = some .globalImplicit) (hg : C.G.mg "max" = none) (hb : C.G.mb "max" = some (.builtin "max")) (h : Ev C σ e false (.list (vInts l))) (hne : l ≠ [])
    (he : starEach [e] C.env = [(false, eval e C.env)] := by rfl) : Ev C σ (.Call (.Name "max" p) [e] [] pos) c (.int (maxL l)) :=
  Ev.builtin hk hg hb (Evs.cons h Evs.nil he) (fun O s vs q r => by
    obtain ⟨v, rfl, a⟩ := reps1 r
    simp only [Rep] at a; obtain ⟨x, vs, rfl, pp, pl, rs⟩ := a
    obtain ⟨xs, hl, rfl⟩ := reps_ints rs
    subst hl
    have hpos : 0 < xs.toArray.size := by
      cases xs with
      | nil => exact absurd rfl hne
      | cons _ _ => simp
    have hit : intItems xs.toArray = (xs.map fun x => Value.int x.1 x.2).toArray := by simp [intItems]
    refine max_intList (xs := xs.toArray) q.ok.room.handled (by rw [hit]; exact pl.isList) hpos fun v h' tk hv hk => ⟨Kp.mk' hk, ?_⟩
    obtain ⟨t, rfl⟩ := intItems_at hv
    obtain ⟨h1, h2⟩ := argBest_gt (numAt xs.toArray) (xs.toArray.size - 1)
    generalize argBest (fun i j => decide (numAt xs.toArray i > numAt xs.toArray j)) (xs.toArray.size - 1) = j at hv h1 h2 ⊢
    simp only [Rep]
    refine ⟨t, ?_⟩
    congr 1
    have hj : j < xs.length := by simp at h1 hpos; omega
    refine (maxL_eq ?_ fun y hy => ?_).symm
    · rw [numAt_eq]; simp only [List.getElem?_map]; rw [List.getElem?_eq_getElem hj]; simp only [Option.map_some, Option.getD_some]; exact List.mem_map_of_mem (List.getElem_mem hj)
    · obtain ⟨i, hi, rfl⟩ := List.mem_iff_getElem.mp hy
      have hi' : i < xs.length := by simpa using hi
      have := h2 i (by simp; omega)
      rw [numAt_eq xs i] at this
      simpa [hi'] using this) rfl ⟨eval e C.env, fun _ => [], fun pos => ⟨by rw [he]; rfl, rfl⟩⟩

/-- items -/
inductive SubOk : V → V → V → Prop
  | list (ds : List V) (i : Int) (d : V) (h : 0 ≤ i) (h' : i < 9223372036854775808) (hd : ds[i.toNat]? = some d) : SubOk (.list ds) (.int i) d
  | listNeg (ds : List V) (i : Int) (d : V) (h : i < 0) (h' : -9223372036854775808 ≤ i) (h'' : -(ds.length : Int) ≤ i) (hd : ds[(i + ds.length).toNat]? = some d) : SubOk (.list ds) (.int i) d
  | tup (ds : List V) (i : Int) (d : V) (h : 0 ≤ i) (h' : i < 9223372036854775808) (hd : ds[i.toNat]? = some d) : SubOk (.tup ds) (.int i) d
  | str (l : List Nat) (i : Int) (c : Nat) (h : 0 ≤ i) (h' : i < 9223372036854775808) (hd : l[i.toNat]? = some c) : SubOk (.str l) (.int i) (.str [c])

theorem itemList {s : Shared} {value slice : Expr} {P : Addr → Prop} {a : Addr} {vs : List Value} {ds : List V} {di d : V} {i : Value} (pl : s.heap.PlainList a vs.toArray) (rs : Reps P s.heap ds vs) (ok : SubOk (.list ds) di d)
    {P' : Addr → Prop} (ri : Rep P' s.heap di i) (hs : ∀ o i, subscripted slice false o i = operate [o, i] (getItem o i)) :
    wpAny C.M C.A (subscriptTail value slice (.ref a) i) (fun v s' => Kp s s' ∧ Rep P s'.heap d v) (fun _ _ => False) s := by
  cases ok with
  | list _ k d h h' hd =>
    simp only [Rep] at ri
    obtain ⟨t, rfl⟩ := ri
    obtain ⟨v, e1, e2⟩ := rs.get hd
    exact tail_any pl.isList.typeIs slot_list_getitem.lookup (wpAny_getItem_list pl.isList h (by omega) (by simpa using e1) ⟨Kp.refl _, e2⟩) (hs _ _)
  | listNeg _ k d h h' h'' hd =>
    simp only [Rep] at ri
    obtain ⟨t, rfl⟩ := ri
    obtain ⟨v, e1, e2⟩ := rs.get hd
    have hl : vs.toArray.size = ds.length := by rw [← rs.length]; simp
    refine tail_any pl.isList.typeIs slot_list_getitem.lookup (wpAny_getItem_list_neg pl.isList h (by rw [hl]; omega) (by omega) ?_ ⟨Kp.refl _, e2⟩) (hs _ _)
    rw [hl]; simpa using e1

theorem subOk {O s value slice} (q : Rel C O σ s) {P : Addr → Prop} {dv di d : V} {o i : Value} (ok : SubOk dv di d) (ro : Rep P s.heap dv o) (ri : Rep P s.heap di i)
    (hs : ∀ o i, subscripted slice false o i = operate [o, i] (getItem o i)) :
    wpAny C.M C.A (subscriptTail value slice o i) (fun v s' => Kp s s' ∧ Rep P s'.heap d v) (fun _ _ => False) s := by
  cases ok with
  | list ds k d h h' hd =>
    simp only [Rep] at ro
    obtain ⟨a, vs, rfl, pa, pl, rs⟩ := ro
    exact itemList pl rs (.list ds k d h h' hd) ri hs
  | listNeg ds k d h h' h'' hd =>
    simp only [Rep] at ro
    obtain ⟨a, vs, rfl, pa, pl, rs⟩ := ro
    exact itemList pl rs (.listNeg ds k d h h' h'' hd) ri hs
  | tup ds k d h h' hd =>
    simp only [Rep] at ro ri
    obtain ⟨a, vs, rfl, pl, rs⟩ := ro
    obtain ⟨t, rfl⟩ := ri
    obtain ⟨v, e1, e2⟩ := rs.get hd
    have hlt : k.toNat < vs.length := (List.getElem?_eq_some_iff.mp e1).1
    exact item_tupleT pl (by omega) (by omega) (seqIndex_of h (by omega)) e1 ⟨Kp.refl _, e2⟩ (hs _ _)
  | str l k c h h' hd =>
    simp only [Rep] at ro ri
    obtain ⟨⟨u, rfl⟩, hc⟩ := ro
    obtain ⟨t, rfl⟩ := ri
    have hlt : k.toNat < l.length := (List.getElem?_eq_some_iff.mp hd).1
    refine tail_any (typeIs_str _ _ _) F.slot_str_getitem.lookup (PySem.P.getItem_str (c := c) (by rw [decide_eq_false (by omega), decide_eq_false (by omega)]; rfl) ?_ ⟨Kp.tok _ _, ?_⟩) (hs _ _)
    · rw [S_len, seqIndex_of h (by omega)]; simpa using hd
    · simp only [Rep]; exact ⟨⟨_, rfl⟩, fun x hx => by rw [List.mem_singleton.mp hx]; exact hc c (List.mem_of_getElem? hd)⟩

theorem Ev.sub {dv di d : V} (hv : Ev C σ e c dv) (hi : Ev C σ e' c di) (ok : SubOk dv di d) (hs : ∀ o i, subscripted e' false o i = operate [o, i] (getItem o i) := by intro _ _; with_unfolding_all rfl) :
    Ev C σ (.Subscript e e' pos) c d := fun O s q =>
  Subscript_ (wpAny_mono (hv O s q) (fun o s₁ ⟨k, r⟩ => wpAny_mono (hi O s₁ (q.keeps k)) (fun i s₂ ⟨k₂, r₂⟩ =>
    wpAny_mono (subOk ((q.keeps k).keeps k₂) ok (r.keeps k₂.ext) r₂ hs) (fun v s' ⟨k₃, r₃⟩ => ⟨(k.trans k₂).trans k₃, r₃⟩) fun _ _ e => e) fun _ _ e => e) fun _ _ e => e)

end

/-- x[lo:hi] -/
def sl {α : Type} (lo hi : Option Int) (l : List α) : List α := (l.drop (lo.elim 0 (clipAt l.length))).take (hi.elim l.length (clipAt l.length) - lo.elim 0 (clipAt l.length))

theorem sl_length_le {α : Type} (lo hi : Option Int) (l : List α) : (sl lo hi l).length ≤ l.length := by
  unfold sl; simp; omega
theorem mem_sl {α : Type} {lo hi : Option Int} {l : List α} {x : α} (h : x ∈ sl lo hi l) : x ∈ l := List.mem_of_mem_drop (List.mem_of_mem_take h)

theorem strIdx (lo hi : Option Int) (n : Nat) : Builtin.Str.strSliceIndices lo hi 1 n = sliceRange ((lo.elim 0 (clipAt n) : Nat) : Int) ((hi.elim n (clipAt n) : Nat) : Int) 1 := by
  unfold Builtin.Str.strSliceIndices
  cases lo <;> cases hi <;> simp [clipAt_cast]

theorem txt_slice (lo hi : Option Int) (l : List Nat) : Txt.slice (S l) lo hi = S (sl lo hi l) := by
  have key : (Builtin.Str.strSliceIndices lo hi 1 (S l).length).filterMap ((S l).cps[·]?) = sl lo hi l := by
    rw [strIdx, sliceRange_one, pick_run, S_len]; rfl
  unfold Txt.slice
  split
  · rename_i h
    have hl : (Builtin.Str.strSliceIndices lo hi 1 (S l).length).length = l.length := by simpa [Str.length] using h
    rw [strIdx, S_len, sliceRange_one] at hl
    have h0 : (sl lo hi l) = l := by
      unfold sl
      simp only [List.length_map, List.length_range] at hl
      have hle : (hi.elim l.length (clipAt l.length)) ≤ l.length := by
        cases hi with
        | none => exact Nat.le_refl _
        | some i => simp only [Option.elim]; unfold clipAt; omega
      have a0 : lo.elim 0 (clipAt l.length) = 0 ∨ l.length = 0 := by omega
      rcases a0 with a0 | a0
      · rw [a0] at hl ⊢
        rw [show hi.elim l.length (clipAt l.length) = l.length by omega]; simp
      · have : l = [] := List.length_eq_zero_iff.mp a0
        subst this; simp
    rw [h0]
  · exact congrArg Str.mk (congrArg List.toArray key)

def EvO (C : Cx) (σ : Sg) (e : Option Expr) (i : Option Int) : Prop := match e, i with
  | none, none => True
  | some e, some i => Ev C σ e false (.int i)
  | _, _ => False

section
variable {C : Cx} {σ : Sg} {c c' : Bool} {p pos : Pos} {e e' : Expr}

theorem EvO.none : EvO C σ none none := trivial
theorem EvO.some {i : Int} (h : Ev C σ e false (.int i)) : EvO C σ (some e) (some i) := h

theorem evO {O s} (q : Rel C O σ s) {e : Option Expr} {i : Option Int} (h : EvO C σ e i) :
    wpAny C.M C.A (evalPart e C.env) (fun v s' => Kp s s' ∧ ((v = .none ∧ i = Option.none) ∨ ∃ k t, v = .int k t ∧ i = Option.some k)) (fun _ _ => False) s := by
  cases e with
  | none =>
    cases i with
    | none => exact evalPart_none_step ⟨Kp.refl _, .inl ⟨rfl, rfl⟩⟩
    | some _ => exact h.elim
  | some e =>
    cases i with
    | none => exact h.elim
    | some i =>
      refine evalPart_some_step (wpAny_mono (h O s q) (fun v s' ⟨k, r⟩ => ⟨k, .inr ?_⟩) fun _ _ e => e)
      simp only [Rep] at r; obtain ⟨t, rfl⟩ := r
      exact ⟨i, t, rfl, rfl⟩

theorem evSlice {O s} (q : Rel C O σ s) {lower upper : Option Expr} {lo hi : Option Int} (hl : EvO C σ lower lo) (hu : EvO C σ upper hi) {Q : Value → Shared → Prop}
    (h : ∀ s₂ vl vu, Kp s s₂ → ((vl = .none ∧ lo = Option.none) ∨ ∃ k t, vl = .int k t ∧ lo = Option.some k) → ((vu = .none ∧ hi = Option.none) ∨ ∃ k t, vu = .int k t ∧ hi = Option.some k) →
      Q (.ref s₂.heap.objs.size) { s₂ with heap := s₂.heap.push { cls := .type "slice", data := .fields #[vl, vu, .none] } }) :
    wpAny C.M C.A (eval (.Slice lower upper none p) C.env) Q (fun _ _ => False) s :=
  wpAny_Slice (wpAny_mono (evO q hl) (fun vl s₁ ⟨k, r⟩ => wpAny_mono (evO (q.keeps k) hu) (fun vu s₂ ⟨k₂, r₂⟩ => evalPart_none_step (h s₂ vl vu (k.trans k₂) r r₂)) fun _ _ e => e) fun _ _ e => e)

theorem reps_sl {P h ds vs} (r : Reps P h ds vs) (lo hi : Option Int) : Reps P h (sl lo hi ds) (sl lo hi vs) := by
  unfold sl; rw [r.length]; exact (r.drop _).take _

theorem Ev.sliceL {ds : List V} {lower upper : Option Expr} {lo hi : Option Int} {p' : Pos} (hv : Ev C σ e c (.list ds)) (hl : EvO C σ lower lo) (hu : EvO C σ upper hi) (hsz : ds.length ≤ 16777216) :
    Ev C σ (.Subscript e (.Slice lower upper Option.none p') pos) c (.list (sl lo hi ds)) := fun O s q =>
  Subscript_ (wpAny_mono (hv O s q) (fun o s₁ ⟨k, r⟩ => evSlice (q.keeps k) hl hu fun s₂ vl vu k₂ rl ru => by
    simp only [Rep] at r
    obtain ⟨a, vs, rfl, pa, pl, rs⟩ := r
    have kk : Ext s₂.heap (s₂.heap.push { cls := .type "slice", data := .fields #[vl, vu, .none] }) := fun _ _ e => Heap.get?_push_of_some _ e
    have pl' := isList_ext kk (isList_ext k₂.ext pl)
    have rs' := (rs.keeps k₂.ext).keeps kk
    have kA : Kp s { s₂ with heap := s₂.heap.push { cls := .type "slice", data := .fields #[vl, vu, .none] } } := (k.trans k₂).trans (Kp.mk' kk)
    have part : ∀ {v : Value} {i : Option Int}, ((v = .none ∧ i = Option.none) ∨ ∃ k t, v = .int k t ∧ i = Option.some k) → IsPart v i := fun h => by
      rcases h with ⟨rfl, rfl⟩ | ⟨k, t, rfl, rfl⟩
      · exact .none
      · exact .int k t
    refine tail_any (ops := [.ref s₂.heap.objs.size, .ref a]) pl'.isList.typeIs slot_list_getitem.lookup (wpAny_getItem_list_slice pl'.isList (Heap.IsSliceOf.new _ _ _ _) (part rl) (part ru) .none (by simp) ?_
      (by simp only [List.size_toArray]; rw [rs.length, sizeLine_eq]; exact hsz)) (by with_unfolding_all rfl)
    rw [slicePick_plain]
    refine ⟨kA.trans (Kp.mk' fun _ _ e => Heap.get?_push_of_some _ e), ?_⟩
    simp only [Rep]
    exact ⟨_, sl lo hi vs, rfl, (q.keeps kA).new c (get_size_none _), ⟨0, by rw [Heap.get?_push_size _ rfl]; simp [sl]⟩, (reps_sl rs' lo hi).keeps fun _ _ e => Heap.get?_push_of_some _ e⟩) fun _ _ e => e)

theorem kp_push (s : Shared) : KeptByPush (Kp s) := fun s' ob k h => h.trans (Kp.mk' fun _ _ e => Heap.get?_push_of_some _ e)

theorem Ev.sliceS {l : List Nat} {lower upper : Option Expr} {lo hi : Option Int} {p' : Pos} (hv : Ev C σ e false (.str l)) (hl : EvO C σ lower lo) (hu : EvO C σ upper hi) (hsz : l.length ≤ 16777216) :
    Ev C σ (.Subscript e (.Slice lower upper Option.none p') pos) c (.str (sl lo hi l)) := fun O s q =>
  Subscript_ (wpAny_mono (hv O s q) (fun o s₁ ⟨k, r⟩ => evSlice (q.keeps k) hl hu fun s₂ vl vu k₂ rl ru => by
    simp only [Rep] at r
    obtain ⟨⟨t, rfl⟩, hc⟩ := r
    have fin : ∀ s' t', Kp s s' → Kp s s' ∧ Rep (Pr C O c) s'.heap (.str (sl lo hi l)) (.str (Txt.slice (S l) lo hi) t') := fun s' t' k => ⟨k, by
      simp only [Rep]; rw [txt_slice]; exact ⟨⟨_, rfl⟩, fun x hx => hc x (mem_sl hx)⟩⟩
    have hx : (S l).length ≤ sizeLine := by rw [S_len, sizeLine_eq]; exact hsz
    have tail : ∀ {i : Value}, ItemOn C.M C.A (fun _ _ => False) (.str (S l) t) i (fun v s' => Kp s s' ∧ Rep (Pr C O c) s'.heap (.str (sl lo hi l)) v) { s₂ with heap := s₂.heap.push { cls := .type "slice", data := .fields #[vl, vu, .none] } } →
        wpAny C.M C.A (subscriptTail e (.Slice lower upper Option.none p') (.str (S l) t) i) (fun v s' => Kp s s' ∧ Rep (Pr C O c) s'.heap (.str (sl lo hi l)) v) (fun _ _ => False) { s₂ with heap := s₂.heap.push { cls := .type "slice", data := .fields #[vl, vu, .none] } } := by
      intro i ⟨T, id, h1, h2, h3⟩
      exact tail_any (ops := [i, .str (S l) t]) h2 h1 h3 (by with_unfolding_all rfl)
    rcases rl with ⟨rfl, rfl⟩ | ⟨i, ti, rfl, rfl⟩ <;> rcases ru with ⟨rfl, rfl⟩ | ⟨j, tj, rfl, rfl⟩
    · exact tail (SBG.sliceItem_nn (kp_push s) (k.trans k₂) fin hx)
    · exact tail (SBG.sliceItem_ns (kp_push s) (k.trans k₂) fin hx)
    · exact tail (SBG.sliceItem_sn (kp_push s) (k.trans k₂) fin hx)
    · exact tail (SBG.sliceItem_ss (kp_push s) (k.trans k₂) fin hx)) fun _ _ e => e)

inductive SlOk (lo hi : Option Int) : V → V → Prop
  | list (ds : List V) : ds.length ≤ 16777216 → SlOk lo hi (.list ds) (.list (sl lo hi ds))
  | str (l : List Nat) : l.length ≤ 16777216 → SlOk lo hi (.str l) (.str (sl lo hi l))

theorem Ev.slice {dv d : V} {lower upper : Option Expr} {lo hi : Option Int} {p' : Pos} (hv : Ev C σ e c dv) (hl : EvO C σ lower lo) (hu : EvO C σ upper hi) (ok : SlOk lo hi dv d) :
    Ev C σ (.Subscript e (.Slice lower upper Option.none p') pos) c d := by
  cases ok with
  | list ds h => exact Ev.sliceL hv hl hu h
  | str l h => exact Ev.sliceS (Ev.up hv rfl) hl hu h
end

/-! texts as lists of numbers -/

abbrev sp (c : Nat) : Bool := Unicode.isSpace c

/-- the words of a text; cur: the word at hand -/
def wgo (cur : List Nat) : List Nat → List (List Nat)
  | [] => if cur = [] then [] else [cur]
  | c :: r => if sp c then (if cur = [] then wgo [] r else cur :: wgo [] r) else wgo (cur ++ [c]) r
def words (l : List Nat) : List (List Nat) := wgo [] l

def joinL (sep : List Nat) : List (List Nat) → List Nat
  | [] => []
  | [x] => x
  | x :: r => x ++ sep ++ joinL sep r
def ljustL (l : List Nat) (i : Int) : List Nat := l ++ List.replicate (i.toNat - l.length) 32
def rjustL (l : List Nat) (i : Int) : List Nat := List.replicate (i.toNat - l.length) 32 ++ l
def lstripL (g : Nat → Bool) (l : List Nat) : List Nat := l.dropWhile g
def rstripL (g : Nat → Bool) (l : List Nat) : List Nat := (l.reverse.dropWhile g).reverse
def stripL (g : Nat → Bool) (l : List Nat) : List Nat := rstripL g (lstripL g l)

theorem strSub_S (l : List Nat) (i j : Nat) : Builtin.Str.strSub (S l) i j = S ((l.drop i).take (j - i)) := by
  show Str.mk (l.toArray.extract i j) = _
  simp [List.extract_eq_take_drop, List.take_drop, List.extract]

theorem txt_ljust (l : List Nat) (i : Int) : Txt.ljust (S l) i = S (ljustL l i) := by
  unfold Txt.ljust ljustL
  rw [S_len]
  split
  · rw [show i.toNat - l.length = 0 by omega]; simp
  · show Str.mk (Array.replicate 0 32 ++ l.toArray ++ Array.replicate (i.toNat - l.length) 32) = _
    congr 1
    simp [← List.toArray_replicate]
theorem drop_takeWhile (g : Nat → Bool) (l : List Nat) : l.drop (l.takeWhile g).length = l.dropWhile g := by
  induction l with
  | nil => rfl
  | cons a r ih => by_cases h : g a <;> simp [List.takeWhile_cons, List.dropWhile_cons, h, ih]
theorem take_rev (g : Nat → Bool) (l : List Nat) : l.take (l.length - (l.reverse.takeWhile g).length) = (l.reverse.dropWhile g).reverse := by
  rw [← drop_takeWhile g l.reverse, List.drop_reverse, List.reverse_reverse]
theorem takeWhile_le (g : Nat → Bool) (l : List Nat) : (l.takeWhile g).length ≤ l.length := by
  induction l with
  | nil => exact Nat.le_refl _
  | cons a r ih => by_cases h : g a <;> simp [List.takeWhile_cons, h]; omega

theorem txt_stripBy (g : Nat → Bool) (a b : Bool) (l : List Nat) : Txt.stripBy g a b (S l) = S ((fun l => if b then rstripL g l else l) ((fun l => if a then lstripL g l else l) l)) := by
  have key : stripped g a b (S l) = S ((fun l => if b then rstripL g l else l) ((fun l => if a then lstripL g l else l) l)) := by
    unfold stripped
    rw [strSub_S]
    congr 2
    have hlo : l.drop (stripLo g a (S l)) = (if a then lstripL g l else l) := by
      unfold stripLo lstripL
      cases a <;> simp [drop_takeWhile]
    rw [hlo]
    generalize hm : (if a then lstripL g l else l) = m at hlo
    have hml : m.length = l.length - stripLo g a (S l) := by rw [← hlo]; simp
    have hle : stripLo g a (S l) ≤ l.length := by
      unfold stripLo; cases a <;> simp [takeWhile_le]
    unfold stripHi
    cases b
    · simp only [Bool.false_eq_true, if_false, S_len, ← hml, List.take_length]; exact hm.symm
    · simp only [if_true, S_len, hm]
      show List.take (l.length - (List.takeWhile g (List.drop (stripLo g a (S l)) l).reverse).length - stripLo g a (S l)) m = rstripL g m
      rw [hlo]
      unfold rstripL
      rw [← take_rev, hml]
      congr 1; omega
  unfold Txt.stripBy
  split
  · rename_i h
    rw [← key]
    unfold stripSame at h
    simp only [Bool.and_eq_true, beq_iff_eq] at h
    unfold stripped
    rw [h.2, h.1, strSub_S, S_len]; simp
  · exact key
theorem txt_rstrip (l : List Nat) : Txt.rstrip (S l) = S (rstripL sp l) := txt_stripBy _ false true l
theorem mem_rstripL {g : Nat → Bool} {l : List Nat} {c : Nat} (h : c ∈ rstripL g l) : c ∈ l := by
  have := List.mem_reverse.mp h
  exact List.mem_reverse.mp ((List.dropWhile_sublist g).subset this)
section
variable {C : Cx} {σ : Sg} {c c' : Bool} {p pos apos : Pos} {e e' : Expr}

/-- a method of a text, no argument -/
theorem Ev.meth0 {name : Str} {l : List Nat} {r : V} (h : Ev C σ e false (.str l))
    (hm : ∀ O s t, Rel C O σ s → (∀ x ∈ l, x < 1114112) → MethodOnS C.prog C.w C.A (fun _ _ => False) name (.str (S l) t) pos [] (fun v s' => Kp s s' ∧ Rep (Pr C O c) s'.heap r v) s)
    (hbase : attributeBase e name C.env (eval e C.env) = eval e C.env := by rfl) (hline : (apos.endLine == pos.line) = true := by rfl) :
    Ev C σ (.Call (.Attribute e name apos) [] [] pos) c r := fun O s q =>
  Call_method0 hbase hline (wpAny_mono (h O s q) (fun v s₁ ⟨k, rp⟩ => by
    simp only [Rep] at rp
    obtain ⟨⟨t, rfl⟩, hc⟩ := rp
    obtain ⟨T, id, a1, a2, a3, a4, a5, a6⟩ := hm O s₁ t (q.keeps k) hc
    exact ⟨T, id, a1, a2, a3, a4, a5, wpAny_mono a6 (fun v s' ⟨k', r'⟩ => ⟨k.trans k', r'⟩) fun _ _ e => e⟩) fun _ _ e => e)
/-- a method of a text, one argument -/
theorem Ev.meth1 {name : Str} {l : List Nat} {d r : V} (h : Ev C σ e false (.str l)) (h' : Ev C σ e' false d)
    (hm : ∀ O s t, Rel C O σ s → (∀ x ∈ l, x < 1114112) → MethodOnS C.prog C.w C.A (fun _ _ => False) name (.str (S l) t) pos [(false, eval e' C.env)] (fun v s' => Kp s s' ∧ Rep (Pr C O c) s'.heap r v) s)
    (hbase : attributeBase e name C.env (eval e C.env) = eval e C.env := by rfl) (hs : starEach [e'] C.env = [(false, eval e' C.env)] := by rfl) (hline : (apos.endLine == pos.line) = true := by rfl) :
    Ev C σ (.Call (.Attribute e name apos) [e'] [] pos) c r := fun O s q =>
  Call_method1 hbase hs hline (wpAny_mono (h O s q) (fun v s₁ ⟨k, rp⟩ => by
    simp only [Rep] at rp
    obtain ⟨⟨t, rfl⟩, hc⟩ := rp
    obtain ⟨T, id, a1, a2, a3, a4, a5, a6⟩ := hm O s₁ t (q.keeps k) hc
    exact ⟨T, id, a1, a2, a3, a4, a5, wpAny_mono a6 (fun v s' ⟨k', r'⟩ => ⟨k.trans k', r'⟩) fun _ _ e => e⟩) fun _ _ e => e)

theorem Ev.rstrip0 {l : List Nat} (h : Ev C σ e false (.str l)) (hsz : l.length ≤ 16777216)
    (hbase : attributeBase e "rstrip" C.env (eval e C.env) = eval e C.env := by rfl) (hline : (apos.endLine == pos.line) = true := by rfl) :
    Ev C σ (.Call (.Attribute e "rstrip" apos) [] [] pos) c (.str (rstripL sp l)) :=
  Ev.meth0 h (fun O s t q hc => SB.rstrip (fun t' k => ⟨Kp.tok _ _, by simp only [Rep]; rw [txt_rstrip]; exact ⟨⟨t', rfl⟩, fun x hx => hc x (mem_rstripL hx)⟩⟩) (by rw [S_len, sizeLine_eq]; exact hsz)) hbase hline

theorem pad_ok {i : Int} (h : i.natAbs ≤ 16777216) : PadOk i = true := by
  unfold PadOk fitsSsize
  simp only [Builtin.Str.tooLong, sizeLine_eq, Bool.and_eq_true, Bool.not_eq_true', decide_eq_false_iff_not, Bool.or_eq_false_iff]
  omega
theorem Ev.ljust {l : List Nat} {i : Int} (h : Ev C σ e false (.str l)) (h' : Ev C σ e' false (.int i)) (hi : i.natAbs ≤ 16777216)
    (hbase : attributeBase e "ljust" C.env (eval e C.env) = eval e C.env := by rfl) (hs : starEach [e'] C.env = [(false, eval e' C.env)] := by rfl) (hline : (apos.endLine == pos.line) = true := by rfl) :
    Ev C σ (.Call (.Attribute e "ljust" apos) [e'] [] pos) c (.str (ljustL l i)) :=
  Ev.meth1 h h' (fun O s t q hc => SB.ljust (wpAny_mono (h' O s q) (fun v s₁ ⟨k, r⟩ => by
    simp only [Rep] at r
    obtain ⟨u, rfl⟩ := r
    refine ⟨i, u, rfl, pad_ok hi, fun t' k' => ⟨k.trans (Kp.tok _ _), ?_⟩⟩
    simp only [Rep]
    rw [txt_ljust]
    exact ⟨⟨t', rfl⟩, fun x hx => (List.mem_append.mp hx).elim (hc x) fun hx => by rw [List.eq_of_mem_replicate hx]; decide⟩) fun _ _ e => e)) hbase hs hline
/-- an owned list whose items change: it stays owned -/
theorem Rel.upd {O s x a vs' ds' h'} {ds : List V} (q : Rel C O σ s) (hx : σ.lookup x = some (.own ds)) (ha : O x = some a) (hs : Heap.SameBut a s.heap h') (hl : h'.PlainList a (List.toArray vs')) (hr : Reps (Pr C O true) s.heap ds' vs') :
    Rel C O ((x, .own ds') :: σ) { s with heap := h' } := by
  obtain ⟨a', vs, h1, h2, pa, h3, h4⟩ := q.vars _ _ hx
  rw [ha] at h2; cases h2
  have nP : ¬ Pr C O true a := fun p => p.2 rfl x ha
  have nl : ∀ b m, s.heap.Ns b m → b ≠ a := fun b m hn e => ns_not_list hn (e ▸ h3)
  have ncl : ∀ b m, s.heap.IsCell b m → b ≠ a := fun b m hn e => cell_not_list hn (e ▸ h3)
  have vr : ∀ {y v}, VarIs C.env s.heap y v → VarIs C.env h' y v := fun z => by
    rcases z with ⟨z1, m, n, z2⟩ | ⟨z1, c, n, z2⟩
    · exact .inl ⟨z1, m, n.sameBut hs (nl _ _ n), z2⟩
    · exact .inr ⟨z1, c, n, z2.sameBut hs (ncl _ _ z2)⟩
  have pl : ∀ {b l}, b ≠ a → s.heap.PlainList b l → h'.PlainList b l := fun hb z => let ⟨n, e⟩ := z; ⟨n, (hs.2 _ hb).trans e⟩
  refine ⟨q.ok, ?_, ?_, ?_, ?_, ?_, q.inj⟩
  · obtain ⟨h, t, e, k⟩ := q.same
    subst e
    exact ⟨h', t, rfl, fun b o e => (hs.2 b (fun hb => by rw [hb, (q.owned x a ha).1] at e; cases e)).trans (k b o e)⟩
  · obtain ⟨m, n⟩ := q.ns; exact ⟨m, n.sameBut hs (nl _ _ n)⟩
  · intro y c e; obtain ⟨v, z⟩ := q.cells y c e; exact ⟨v, z.sameBut hs (ncl _ _ z)⟩
  · intro y b e
    rw [List.lookup_cons] at e
    cases hy : y == x with
    | true =>
      rw [hy] at e; cases e
      rw [beq_iff_eq.mp hy]
      exact ⟨a, vs', vr h1, ha, pa, hl, hr.sameButL hs nP h3⟩
    | false =>
      rw [hy] at e
      have hne : y ≠ x := by simpa using hy
      have := q.vars y b e
      cases b with
      | dat d => obtain ⟨v, z1, z2⟩ := this; exact ⟨v, vr z1, z2.sameButL hs nP h3⟩
      | own d => obtain ⟨b, ws, z1, z2, z3, z4, z5⟩ := this; exact ⟨b, ws, vr z1, z2, z3, pl (fun hb => hne (q.inj y x a (hb ▸ z2) ha)) z4, z5.sameButL hs nP h3⟩
  · intro y b e
    obtain ⟨z1, l, z2⟩ := q.owned y b e
    by_cases hb : b = a
    · subst hb; exact ⟨z1, _, hl⟩
    · exact ⟨z1, l, pl hb z2⟩

theorem Step.upd {O s a x h'} (ha : O x = some a) (hs : Heap.SameBut a s.heap h') : Step C O s O { s with heap := h' } :=
  ⟨fun b o e f => (hs.2 b (fun hb => f.2.2 x (hb ▸ ha))).trans e, fun _ _ _ f => f.2.2⟩
end

section
variable {prog : Program} {w : World} {A : Around} {E : Value → Shared → Prop} {s : Shared}

end

section
variable {C : Cx} {σ : Sg} {c c' : Bool} {p pos apos : Pos} {e e' : Expr}

/-- x.append(e), x the frame's own -/
theorem Ex.append {x : Str} {px pos' : Pos} {d : V} {ds : List V} (hx : σ.lookup x = some (.own ds)) (h : Ev C σ e true d) (hsz : ds.length ≤ 16777216)
    (hbase : attributeBase (.Name x px) "append" C.env (eval (.Name x px) C.env) = eval (.Name x px) C.env := by rfl) (hst : starEach [e] C.env = [(false, eval e C.env)] := by rfl) (hline : (apos.endLine == pos.line) = true := by rfl)
    (hi : interactive C.env = false) (hd : (x == ("__debug__" : Str)) = false := by rfl) :
    Ex C σ (.Expr (.Call (.Attribute (.Name x px) "append" apos) [e] [] pos) pos') (.next ((x, .own (ds ++ [d])) :: σ)) := fun O s q => by
  obtain ⟨a, vs, h1, h2, pa, h3, h4⟩ := q.vars _ _ hx
  refine wpAny_Expr ?_ hi
  refine Call_method1 hbase hst hline (wpAny_Name (load_var q h1 ?_) hd)
  refine ⟨"list", "list.append", F.plainAttrs_list, slot_list_append, type_list_append, h3.isList.typeIs, fun b eb => by cases eb; obtain ⟨n, e⟩ := h3; exact ⟨_, e, rfl⟩, ?_⟩
  refine Calls.callWith_builtin rfl (Calls.evalArgs_plain (Calls.spliced_cons (wpAny_mono (h O s q) (fun v s₁ ⟨k, r⟩ => Calls.spliced_nil ?_) fun _ _ e => e)))
  have q₁ := q.keeps k
  have h3' := isList_ext k.ext h3
  have h4' := h4.keeps k.ext
  refine wpAny_list_append_plain (l := a) h3' (fun h' hl' hs' => ⟨rfl, O, ?_, (Step.kp k).trans (Step.upd h2 hs')⟩) (by simp only [List.size_toArray]; rw [h4.length, sizeLine_eq]; exact hsz)
  refine q₁.upd (vs' := vs ++ [v]) hx h2 hs' (by simpa using hl') (h4'.append (Reps.cons r Reps.nil))

inductive SetOk : List V → Int → V → List V → Prop
  | pos (ds : List V) (i : Int) (d : V) (h : 0 ≤ i) (h' : i < 9223372036854775808) (hl : i < ds.length) : SetOk ds i d (ds.set i.toNat d)
  | neg (ds : List V) (i : Int) (d : V) (h : i < 0) (h' : -9223372036854775808 ≤ i) (hl : -(ds.length : Int) ≤ i) : SetOk ds i d (ds.set (i + ds.length).toNat d)

end

@[reducible] def mkC (prog : Program) (w : World) (G : Gl) (n : Nat) (A : Around) (env : Env) (s₀ : Shared) (P : Addr → Prop) : Cx := ⟨prog, w, G, A, n, env, s₀, P, true⟩

def zipσ : List Str → List V → Sg
  | p :: ps, d :: ds => (p, .dat d) :: zipσ ps ds
  | _, _ => []

theorem zipσ_get {P h} : ∀ {ps : List Str} {ds : List V} {vs : List Value}, Reps P h ds vs → ∀ {x b}, (zipσ ps ds).lookup x = some b → ∃ d v, b = .dat d ∧ (x, v) ∈ ps.zip vs ∧ Rep P h d v
  | [], _, _, _, _, _, e => by simp [zipσ] at e
  | _ :: _, [], _, _, _, _, e => by simp [zipσ] at e
  | p :: ps, d :: ds, vs, r, x, b, e => by
    simp only [Reps] at r
    obtain ⟨v, vs', rfl, a, r'⟩ := r
    simp only [zipσ, List.lookup_cons] at e
    cases hx : x == p with
    | true =>
      rw [hx] at e; cases e
      exact ⟨d, v, rfl, by rw [beq_iff_eq.mp hx]; simp, a⟩
    | false =>
      rw [hx] at e
      obtain ⟨d', v', e1, e2, e3⟩ := zipσ_get r' e
      exact ⟨d', v', e1, by simp [e2], e3⟩

theorem bindL_skip (k : Str → Option NameKind) : ∀ (bs : List (Str × Value)) (m : Str → Option Value) (x : Str), x ∉ bs.map (·.1) → bindL k bs m x = m x
  | [], _, _, _ => rfl
  | (n, v) :: r, m, x, h => by
    simp only [List.map_cons, List.mem_cons, not_or] at h
    rw [bindL, bindL_skip k r _ x h.2]
    split
    · simp [h.1]
    · rfl
theorem bindC_skip (k : Str → Option NameKind) : ∀ (bs : List (Str × Value)) (m : Str → Option Value) (x : Str), x ∉ bs.map (·.1) → bindC k bs m x = m x
  | [], _, _, _ => rfl
  | (n, v) :: r, m, x, h => by
    simp only [List.map_cons, List.mem_cons, not_or] at h
    rw [bindC, bindC_skip k r _ x h.2]
    split
    · rfl
    · simp [h.1]
theorem bindL_get (k : Str → Option NameKind) {x : Str} {v : Value} (hk : k x = some .local) : ∀ (bs : List (Str × Value)) (m : Str → Option Value), (bs.map (·.1)).Nodup → (x, v) ∈ bs → bindL k bs m x = some v
  | (n, u) :: r, m, hn, h => by
    simp only [List.map_cons, List.nodup_cons] at hn
    rcases List.mem_cons.mp h with e | h
    · cases e
      rw [bindL, bindL_skip k r _ x hn.1, if_pos hk]; simp
    · rw [bindL]; exact bindL_get k hk r _ hn.2 h
theorem bindC_get (k : Str → Option NameKind) {x : Str} {v : Value} (hk : k x ≠ some .local) : ∀ (bs : List (Str × Value)) (m : Str → Option Value), (bs.map (·.1)).Nodup → (x, v) ∈ bs → bindC k bs m x = some v
  | (n, u) :: r, m, hn, h => by
    simp only [List.map_cons, List.nodup_cons] at hn
    rcases List.mem_cons.mp h with e | h
    · cases e
      rw [bindC, bindC_skip k r _ x hn.1, if_neg hk]; simp
    · rw [bindC]; exact bindC_get k hk r _ hn.2 h

theorem cells_some {x : Str} : ∀ (names : List (Str × NameKind)) (n : Nat) (acc : List (Str × Addr)), names.lookup x = some .cell ∨ (acc.lookup x).isSome = true → ((cellsFrom n names acc).lookup x).isSome = true
  | [], _, _, h => h.elim (fun e => by cases e) id
  | (y, k) :: r, n, acc, h => by
    unfold cellsFrom
    by_cases hk : (k == .cell) = true
    · rw [if_pos hk]
      refine cells_some r (n + 1) ((y, n) :: acc) ?_
      by_cases hy : (x == y) = true
      · exact .inr (by rw [List.lookup_cons, hy]; rfl)
      · refine h.imp (fun e => ?_) fun e => ?_
        · rw [List.lookup_cons] at e; simpa only [hy] using e
        · rw [List.lookup_cons]; simpa only [hy] using e
    · rw [if_neg hk]
      refine cells_some r n acc ?_
      by_cases hy : (x == y) = true
      · refine .inr (h.elim (fun e => ?_) id)
        rw [List.lookup_cons, hy] at e
        exact absurd (by rw [Option.some.inj e]; rfl) hk
      · refine h.imp (fun e => ?_) id
        rw [List.lookup_cons] at e; simpa only [hy] using e

/-- a def's contract from its body's run -/
theorem Spec.of_run {prog : Program} {w : World} {G : Gl} {n : Nat} {f : Str} {a : Addr} {ps : List Str} {body : List Stmt} {scope : Scope} {ds : List V} {r : V} (fn : FnAt G f a ps body scope)
    (h : ∀ A env s₀ P, env.scope = scope → Run (mkC prog w G n A env s₀ P) (zipσ ps ds) body (.ret r)) (hlen : ps.length = ds.length)
    (hps : ∀ p ∈ ps, scope.names.lookup p = some .local ∨ scope.names.lookup p = some .cell) (hnd : ps.Nodup)
    (hco : scope.isCoroutine = false) (hgen : scope.isGenerator = false) (hk : scope.kind = .function) : Spec G prog w (n + 1) f ds r := by
  obtain ⟨o, fd, h1, h2, h3, h4, h5, h6, h7, h8, h9, h10⟩ := fn.ex
  refine ⟨a, o, fd, h1, h2, h3, fun A s vs P hA hG hr hP => ?_⟩
  have hvl := hr.length
  subst h5
  refine codeAny_call_cells (fd := fd) (body := body) (binds := ps.zip vs) (by have := hA.depth; omega) (hG.k _ _ h2) h3 hG.nolimit (h10 _ hG) h4 (h9 vs (by omega)) h6 ?_ ?_ hco hgen hk
  · intro x hx
    have hm : x.1 ∈ ps := (List.of_mem_zip (a := x.1) (b := x.2) hx).1
    rcases hps _ hm with e | e
    · exact .inl e
    · exact .inr ⟨e, cells_some _ _ _ (.inl e)⟩
  · intro s₁ X
    have env_scope : (callEnvC fd s.heap.objs.size a).scope = fd.scope := rfl
    have hnm : ((ps.zip vs).map (·.1)).Nodup := by
      rw [List.map_fst_zip (by omega)]; exact hnd
    have newAt : ∀ b, s.heap.objs.size ≤ b → s.heap.get? b = none := fun b hb => by
      cases e : s.heap.get? b with
      | none => rfl
      | some o => exact absurd (Heap.lt_size e) (Nat.not_lt.mpr hb)
    have q : Rel (mkC prog w G n (A.deeper (callEnvC fd s.heap.objs.size a)) (callEnvC fd s.heap.objs.size a) s P) (fun _ => none) (zipσ ps ds) s₁ := by
      refine ⟨⟨hk, h7, h8, fun _ => newAt _ (Nat.le_refl _), fun _ x c e => newAt _ (Nat.le_of_lt (X.above x c (mem_of_lookup e))), fun x e => cells_some _ _ _ (.inl e), fun x y c e e' => name_of_addr X.apart (mem_of_lookup e) (mem_of_lookup e'), hG, hP, hA.deeper⟩, ?_, ⟨_, X.toInCall.ns⟩, fun x c e => ⟨_, X.cell x c e⟩, ?_, fun x a e => (by cases e), fun x y a e => (by cases e)⟩
      · obtain ⟨h', tk, e, k⟩ := X.done
        exact ⟨h', tk, e, k⟩
      · intro x b e
        obtain ⟨d, v, rfl, hm, rp⟩ := zipσ_get hr e
        refine ⟨v, ?_, (rp.keeps X.toInCall.keep).weaken fun _ p => ⟨p, fun _ x e => by cases e⟩⟩
        have hmx : x ∈ ps := (List.of_mem_zip hm).1
        rcases hps _ hmx with e | e
        · exact .inl ⟨e, _, X.toInCall.ns, bindL_get _ e _ _ hnm hm⟩
        · have hc := cells_some (x := x) fd.scope.names (s.heap.objs.size + 1) [] (.inl e)
          obtain ⟨c, hc⟩ := Option.isSome_iff_exists.mp hc
          refine .inr ⟨e, c, hc, ?_⟩
          have := X.cell x c hc
          rwa [bindC_get _ (by show fd.scope.names.lookup x ≠ _; rw [e]; decide) _ _ hnm hm] at this
    refine wpAny_mono (h _ _ s P env_scope _ s₁ q) (fun fl s' hp => ?_) fun _ _ e => e.elim
    obtain ⟨v, rfl, k, rp⟩ := hp
    exact ⟨v, rfl, k, rp⟩

@[reducible] def mkD (C : Cx) (env : Env) (s₀ : Shared) (P : Addr → Prop) : Cx := ⟨C.prog, C.w, C.G, C.A, C.n, env, s₀, P, false⟩

def TstAll (C : Cx) (σ : Sg) (ifs : List Expr) (b : Bool) : Prop :=
  ∀ O s, Rel C O σ s → wpAny C.M C.A (forIn ifs true fun c r => if r = true then do let ok ← isTrue c C.env (eval c C.env); pure (ForInStep.yield ok) else pure (ForInStep.yield r)) (fun r s' => r = b ∧ Kp s s') (fun _ _ => False) s

theorem TstAll.nil {C : Cx} {σ : Sg} : TstAll C σ [] true := fun O s q => by
  rw [List.forIn_nil]; exact wpAny_pure ⟨rfl, Kp.refl s⟩
theorem closure_ex (scope : Scope) (env : Env) (h : ∀ y ∈ scope.names, y.2 = .free → (env.cells.lookup y.1).isSome = true) :
    ∃ cl, closureFor scope env = pure cl ∧ (∀ y c, cl.lookup y = some c → env.cells.lookup y = some c) ∧ ∀ y c, (y, NameKind.free) ∈ scope.names → env.cells.lookup y = some c → cl.lookup y = some c := by
  have key : ∀ (names : List (Str × NameKind)) (acc : List (Str × Addr)), (∀ y ∈ names, y.2 = .free → (env.cells.lookup y.1).isSome = true) → (∀ y c, acc.lookup y = some c → env.cells.lookup y = some c) →
      ∃ cl, (forIn names acc fun (x : Str × NameKind) (r : List (Str × Addr)) => if (x.2 == NameKind.free) = true then (cellOf env x.1 >>= fun a => pure (ForInStep.yield ((x.1, a) :: r))) else pure (ForInStep.yield r)) = (pure cl : Sem (List (Str × Addr))) ∧
        (∀ y c, cl.lookup y = some c → env.cells.lookup y = some c) ∧ (∀ y c, acc.lookup y = some c → cl.lookup y = some c) ∧ ∀ y c, (y, NameKind.free) ∈ names → env.cells.lookup y = some c → cl.lookup y = some c := by
    intro names
    induction names with
    | nil => intro acc _ ha; exact ⟨acc, by rw [List.forIn_nil], ha, fun _ _ e => e, by simp⟩
    | cons x r ih =>
      intro acc hn ha
      obtain ⟨nm, k⟩ := x
      by_cases hk : k = .free
      · subst hk
        obtain ⟨c₀, hc₀⟩ := Option.isSome_iff_exists.mp (hn _ List.mem_cons_self rfl)
        have ha' : ∀ y c, ((nm, c₀) :: acc).lookup y = some c → env.cells.lookup y = some c := fun y c e => by
          rw [List.lookup_cons] at e
          cases hy : y == nm with
          | true => rw [hy] at e; cases e; rw [beq_iff_eq.mp hy]; exact hc₀
          | false => rw [hy] at e; exact ha y c e
        obtain ⟨cl, h1, h2, h3, h4⟩ := ih ((nm, c₀) :: acc) (fun y hy => hn y (List.mem_cons_of_mem _ hy)) ha'
        refine ⟨cl, ?_, h2, fun y c e => ?_, fun y c hm e => ?_⟩
        · rw [List.forIn_cons]
          simp only [beq_self_eq_true, if_true]
          have : cellOf env nm = pure c₀ := by unfold cellOf; rw [hc₀]
          rw [this]
          simp only [pure_bind]
          exact h1
        · refine h3 y c ?_
          rw [List.lookup_cons]
          cases hy : y == nm with
          | true =>
            have e' := ha y c e
            rw [beq_iff_eq.mp hy, hc₀] at e'
            exact e'
          | false => exact e
        · rcases List.mem_cons.mp hm with e' | hm
          · have e1 : y = nm := congrArg Prod.fst e'
            subst e1
            refine h3 y c ?_
            rw [List.lookup_cons, beq_self_eq_true]; rw [hc₀] at e; exact e
          · exact h4 y c hm e
      · obtain ⟨cl, h1, h2, h3, h4⟩ := ih acc (fun y hy => hn y (List.mem_cons_of_mem _ hy)) ha
        refine ⟨cl, ?_, h2, h3, fun y c hm e => ?_⟩
        · rw [List.forIn_cons]
          have : (k == NameKind.free) = false := by simpa using hk
          simp only [this, Bool.false_eq_true, if_false, pure_bind]
          exact h1
        · rcases List.mem_cons.mp hm with e' | hm
          · cases e'; exact absurd rfl hk
          · exact h4 y c hm e
  obtain ⟨cl, h1, h2, _, h4⟩ := key scope.names [] h (by intro y c e; cases e)
  refine ⟨cl, ?_, h2, h4⟩
  have e : closureFor scope env = ((forIn scope.names ([] : List (Str × Addr)) fun (x : Str × NameKind) (r : List (Str × Addr)) => if (x.2 == NameKind.free) = true then (cellOf env x.1 >>= fun a => pure (ForInStep.yield ((x.1, a) :: r))) else pure (ForInStep.yield r)) >>= fun cs => (pure cs : Sem (List (Str × Addr)))) := rfl
  rw [e, h1]
  rfl

theorem relabel_keep {env : Env} {k : NameKind} (hk : k ≠ .free) : ∀ {names : List (Str × NameKind)} {x : Str}, names.lookup x = some k →
    (names.map fun (n, k) => if (k == NameKind.free && env.scope.kind == .function && env.kindOf n == some .cell) then (n, NameKind.cell) else (n, k)).lookup x = some k
  | [], _, h => by cases h
  | (n, k') :: r, x, h => by
    have ih := @relabel_keep env k hk r x
    show List.lookup x ((if (k' == NameKind.free && env.scope.kind == .function && env.kindOf n == some .cell) = true then (n, NameKind.cell) else (n, k')) :: _) = _
    cases hx : x == n with
    | true =>
      simp only [List.lookup_cons, hx] at h
      cases h
      have : (k == NameKind.free) = false := by simpa using hk
      simp [this, List.lookup_cons, hx]
    | false =>
      simp only [List.lookup_cons, hx] at h
      split <;> (simp only [List.lookup_cons, hx]; exact ih h)
theorem relabel_cell {env : Env} (hf : env.scope.kind = .function) : ∀ {names : List (Str × NameKind)} {x : Str}, names.lookup x = some .free → env.kindOf x = some .cell →
    (names.map fun (n, k) => if (k == NameKind.free && env.scope.kind == .function && env.kindOf n == some .cell) then (n, NameKind.cell) else (n, k)).lookup x = some .cell
  | [], _, h, _ => by cases h
  | (n, k') :: r, x, h, hc => by
    have ih := @relabel_cell env hf r x
    show List.lookup x ((if (k' == NameKind.free && env.scope.kind == .function && env.kindOf n == some .cell) = true then (n, NameKind.cell) else (n, k')) :: _) = _
    cases hx : x == n with
    | true =>
      simp only [List.lookup_cons, hx] at h
      cases h
      rw [← beq_iff_eq.mp hx, hf, hc]
      simp [List.lookup_cons]
    | false =>
      simp only [List.lookup_cons, hx] at h
      split <;> (simp only [List.lookup_cons, hx]; exact ih h hc)
theorem relabel_inv {env : Env} : ∀ {names : List (Str × NameKind)} {x : Str}, (∀ y ∈ names, y.2 ≠ .cell) →
    (names.map fun (n, k) => if (k == NameKind.free && env.scope.kind == .function && env.kindOf n == some .cell) then (n, NameKind.cell) else (n, k)).lookup x = some .cell → (x, NameKind.free) ∈ names ∧ env.kindOf x = some .cell
  | [], _, _, h => by cases h
  | (n, k') :: r, x, hn, h => by
    have ih := @relabel_inv env r x (fun y hy => hn y (List.mem_cons_of_mem _ hy))
    change List.lookup x ((if (k' == NameKind.free && env.scope.kind == .function && env.kindOf n == some .cell) = true then (n, NameKind.cell) else (n, k')) :: _) = _ at h
    by_cases hc : (k' == NameKind.free && env.scope.kind == .function && env.kindOf n == some .cell) = true
    · rw [if_pos hc] at h
      cases hx : x == n with
      | true =>
        simp only [Bool.and_eq_true, beq_iff_eq] at hc
        rw [beq_iff_eq.mp hx, hc.1.1]
        exact ⟨List.mem_cons_self, hc.2⟩
      | false =>
        simp only [List.lookup_cons, hx] at h
        exact ⟨List.mem_cons_of_mem _ (ih h).1, (ih h).2⟩
    · rw [if_neg hc] at h
      cases hx : x == n with
      | true =>
        simp only [List.lookup_cons, hx] at h
        cases h
        exact absurd rfl (hn _ List.mem_cons_self)
      | false =>
        simp only [List.lookup_cons, hx] at h
        exact ⟨List.mem_cons_of_mem _ (ih h).1, (ih h).2⟩

/-- the data of a comprehension: its scope sees the names -/
structure CompOk (C : Cx) (σ : Sg) (scope : Scope) (x : Str) (σc : Sg) : Prop where
  free : ∀ y ∈ scope.names, y.2 = .free → C.env.kindOf y.1 = some .cell
  cell : ∀ y ∈ scope.names, y.2 ≠ .cell
  kind : scope.kind = .function
  names : ∀ y ∈ scope.names, y.2 = .local → scope.names.lookup y.1 = some .local
  x : scope.names.lookup x = some .local
  cap : ∀ y b, σc.lookup y = some b → σ.lookup y = some b ∧ (∃ d, b = .dat d) ∧ scope.names.lookup y = some .free

/-- the names' kinds in the comprehension's own frame -/
def Sees (scope : Scope) (env : Env) : Prop := ∀ y k, scope.names.lookup y = some k → k ≠ .free → env.kindOf y = some k

section
variable {C : Cx} {σ σc : Sg} {scope : Scope} {x : Str}

/-- what the comprehension has made -/
structure Made (C : Cx) (O : Str → Option Addr) (s : Shared) (rs : List V) (D Cc : Addr) (s' : Shared) : Prop where
  keep : ∀ b o, s.heap.get? b = some o → s'.heap.get? b = some o
  same : ∃ h tk, s' = { s with heap := h, toks := tk }
  newD : s.heap.get? D = none
  newC : s.heap.get? Cc = none
  ne : D ≠ Cc
  ns : ∃ m, s'.heap.Ns Cc m
  res : ∃ vs, s'.heap.PlainList D (List.toArray vs) ∧ Reps (fun b => Pr C O true b ∧ b ≠ D) s'.heap rs vs

theorem comp_loop {O s s₂ it} {elt iter : Expr} {px pos : Pos} {ifs : List Expr} {ds : List V} {cl : List (Str × Addr)} (test : V → Bool) (f : V → V) (ok : CompOk C σ scope x σc) (q : Rel C O σ s) (hit : Ited C O s ds it s₂)
    (hcl1 : ∀ y c, cl.lookup y = some c → C.env.cells.lookup y = some c) (hcl2 : ∀ y c, (y, NameKind.free) ∈ scope.names → C.env.cells.lookup y = some c → cl.lookup y = some c)
    (htest : ∀ env s₀ P (i : Nat) d, Sees scope env → ds[i]? = some d → TstAll (mkD C env s₀ P) ((x, .dat d) :: σc) ifs (test d))
    (helt : ∀ env s₀ P (i : Nat) d, Sees scope env → ds[i]? = some d → test d = true → Ev (mkD C env s₀ P) ((x, .dat d) :: σc) elt true (f d))
    (hsz : ds.length ≤ 16777216) {E : Value → Shared → Prop} {RR : Value → Addr → Result → Shared → Prop}
    (hRR : ∀ D Cc s', Made C O s ((ds.filter test).map f) D Cc s' → RR (.ref D) Cc (.ok .next) s') :
    wpAny C.M C.A (newList []) (fun acc s₃ => wpAny C.M C.A (newFunctionEnv scope C.env.globals cl [] C.env.qual none .none (some C.env)) (fun cenv s₄ =>
      codeAny C.M C.A (.compStart (.ListComp elt [⟨.Name x px, iter, ifs, 0⟩] scope pos) 0 it acc { cenv with scope := relabel scope C.env }) (RR acc cenv.locals) s₄) E s₃) E s₂ := by
  obtain ⟨k, I, fp, wr, P, St, rfl, W', st0, hnew, hfp, hP, hnl, hex⟩ := hit
  have W := W' C.A q.ok.room.handled
  have q₂ := q.keeps k
  refine wpAny_newObj_type (wpAny_newFunctionEnv ok.cell (by intro y hy; simp at hy) (fun h₁ hns₁ hsb₁ => ?_) ok.kind)
  dsimp only at hns₁ hsb₁ ⊢
  generalize hH2 : s₂.heap.push { cls := .type "list", dict := none, data := .seq ([] : List Value).toArray } = H2 at hns₁ hsb₁ ⊢
  have hC : H2.objs.size = s₂.heap.objs.size + 1 := by rw [← hH2, Heap.size_push]
  generalize hD : s₂.heap.objs.size = D at hC
  generalize hCc : H2.objs.size = Cc at hns₁ hsb₁ hC ⊢
  have hDC : D ≠ Cc := by omega
  have fresh : ∀ a, D ≤ a → s₂.heap.get? a = none := fun a ha => by
    cases e : s₂.heap.get? a with
    | none => rfl
    | some o' => exact absurd (hD ▸ Heap.lt_size e) (Nat.not_lt.mpr ha)
  have ltD : ∀ {b o}, s₂.heap.get? b = some o → b ≠ D ∧ b ≠ Cc := fun {b o} e => by
    have h : @LT.lt Nat _ b D := hD ▸ Heap.lt_size e
    exact ⟨Nat.ne_of_lt h, by rw [hC]; exact Nat.ne_of_lt (Nat.lt_succ_of_lt h)⟩
  have old : ∀ b o, s₂.heap.get? b = some o → h₁.get? b = some o := fun b o e =>
    hsb₁.extBut b o (ltD e).2 (Heap.get?_push_of_some _ (hH2 ▸ Heap.get?_push_of_some _ e))
  have hacc : h₁.PlainList D #[] := ⟨_, hsb₁.extBut _ _ hDC (Heap.get?_push_of_some _ (hH2 ▸ hD ▸ Heap.get?_push_size _ rfl))⟩
  have fpne : ∀ b ∈ fp, b ≠ D ∧ b ≠ Cc := fun b hb => let ⟨⟨o, e⟩, _⟩ := hfp b hb; ltD e
  have hst₁ : St 0 h₁ := W.frame _ _ _ st0 fun b _ o e => old b o e
  let P' : Addr → Prop := fun b => Pr C O true b ∧ b ≠ D
  have hsees : Sees scope (compEnvC scope cl Cc C.env) := fun y kd e hk => relabel_keep hk e
  -- the frame of one turn
  have frame : ∀ (h' : Heap) (tk : Nat) (m' : Str → Option Value) (v : Value) (d : V), h'.Ns Cc m' → m' x = some v → (∀ b o, b ∉ wr → s₂.heap.get? b = some o → h'.get? b = some o) → h'.PlainList D #[] ∨ (∃ l, h'.PlainList D l) →
      Rep (Pr C O true) s₂.heap d v → Rel (mkD C (compEnvC scope cl Cc C.env) { s₂ with heap := h', toks := tk } P') (fun _ => none) ((x, .dat d) :: σc) { s₂ with heap := h', toks := tk } := by
    intro h' tk m' v d hns hm hk hl rp
    have hDl : ∃ l, h'.PlainList D l := hl.elim (fun h => ⟨_, h⟩) id
    have mv : ∀ {d v}, Rep (Pr C O true) s₂.heap d v → Rep (Pr (mkD C (compEnvC scope cl Cc C.env) { s₂ with heap := h', toks := tk } P') (fun _ => none) true) h' d v := fun r =>
      r.move (fun a l p z => by
        have hn : a ∉ wr := fun hm => (hnl 0 _ a st0 hm).1 l z
        obtain ⟨n, e⟩ := z
        exact ⟨⟨n, hk a _ hn e⟩, ⟨p, (ltD e).1⟩, fun _ x e => by cases e⟩) fun a l z => by
        have hn : a ∉ wr := fun hm => (hnl 0 _ a st0 hm).2 l z
        obtain ⟨o, e, r⟩ := z
        exact ⟨o, hk a _ hn e, r⟩
    have cells : ∀ y c, C.env.cells.lookup y = some c → ∀ v, s₂.heap.IsCell c v → h'.IsCell c v := fun y c e v ⟨o, ho, r⟩ => by
      have hn : c ∉ wr := fun hm => (hfp c (W.sub c hm)).2.2.1 y c e rfl
      exact ⟨o, hk c o hn ho, r⟩
    refine ⟨⟨ok.kind, q.ok.gl, q.ok.bi, (fun e => by cases e), (fun e => by cases e), ?_, ?_, ?_, ?_, q.ok.room⟩, Kp.refl _, ⟨_, hns⟩, ?_, ?_, fun x a e => (by cases e), fun x y a e => (by cases e)⟩
    · intro y hy
      obtain ⟨h1, h2⟩ := relabel_inv ok.cell hy
      obtain ⟨c, hc⟩ := Option.isSome_iff_exists.mp (q.ok.cellsOk y h2)
      rw [show (compEnvC scope cl Cc C.env).cells = cl from rfl, hcl2 y c h1 hc]; rfl
    · intro y z c e e'
      exact q.ok.apart y z c (hcl1 y c e) (hcl1 z c e')
    · refine q.good.keeps fun b o e => ?_
      have hn : b ∉ wr := fun hm => by rw [hnew b hm] at e; cases e
      exact hk b o hn (k.ext _ _ e)
    · intro a ha
      refine ⟨q.new true ?_, fun e => ?_⟩
      · cases e : s.heap.get? a with
        | none => rfl
        | some o =>
          have hn : a ∉ wr := fun hm => by rw [hnew a hm] at e; cases e
          have := hk a o hn (k.ext _ _ e)
          rw [show ({ s₂ with heap := h', toks := tk } : Shared).heap = h' from rfl, this] at ha; cases ha
      · obtain ⟨l, n, z⟩ := hDl
        rw [e, show ({ s₂ with heap := h', toks := tk } : Shared).heap = h' from rfl, z] at ha; cases ha
    · intro y c e
      obtain ⟨v, z⟩ := q₂.cells y c (hcl1 y c e)
      exact ⟨v, cells y c (hcl1 y c e) v z⟩
    · intro y b e
      rw [List.lookup_cons] at e
      cases hy : y == x with
      | true =>
        rw [hy] at e; cases e
        rw [beq_iff_eq.mp hy]
        exact ⟨v, .inl ⟨lookup_relabel_local ok.x, _, hns, hm⟩, mv rp⟩
      | false =>
        rw [hy] at e
        obtain ⟨h1, ⟨d', rfl⟩, h3⟩ := ok.cap y b e
        obtain ⟨v', a, r⟩ := q₂.vars y _ h1
        have hkc := ok.free (y, .free) (mem_of_lookup h3) rfl
        rcases a with ⟨a1, _⟩ | ⟨a1, c, a2, a3⟩
        · rw [hkc] at a1; cases a1
        · exact ⟨v', .inr ⟨relabel_cell q.ok.kind h3 hkc, c, hcl2 y c (mem_of_lookup h3) a2, cells y c a2 _ a3⟩, mv r⟩
  have loop : ∀ s₃ : Shared, s₃ = { s₂ with heap := h₁, toks := s₂.toks + ([] : List (Str × Value)).length } →
      codeAny C.M C.A (.compLoop (.ListComp elt [⟨.Name x px, iter, ifs, 0⟩] scope pos) 0 (.ref I) (.ref D) (compEnvC scope cl Cc C.env)) (RR (.ref D) Cc) s₃ := by
    rintro s₃ rfl
    refine codeAny_compLoop_tests
      (fun kk s' => ∃ h' tk m' i, ∃ ys : List Value, s' = { s₂ with heap := h', toks := tk } ∧ St i h' ∧ h'.PlainList D ys.toArray ∧ h'.Ns Cc m' ∧ Reps P' h' (((ds.take i).filter test).map f) ys ∧ i ≤ ds.length ∧ kk = ds.length + 1 - i ∧
        (∀ b o, b ∉ wr → s₂.heap.get? b = some o → h'.get? b = some o)) ?_ (ds.length + 1)
      ⟨h₁, _, _, 0, [], rfl, hst₁, hacc, hns₁, by simpa using Reps.nil, Nat.zero_le _, rfl, fun b o _ e => old b o e⟩
    rintro kk s' ⟨h', tk, m', i, ys, rfl, hst', hacc', hn', hR, hi, rfl, hk⟩
    have hCw : Cc ∉ wr := fun h => (fpne _ (W.sub _ h)).2 rfl
    have hDw : D ∉ wr := fun h => (fpne _ (W.sub _ h)).1 rfl
    by_cases hlt : i < ds.length
    · refine W.item i _ _ _ hlt hst' fun v h₂ tk₂ hPv hst₂ hk₂ => ?_
      obtain ⟨d, hd, rp⟩ := hP i v hlt hPv
      refine wpAny_assign_Name (wpAny_storeName_local (m := m') (lookup_relabel_local ok.x) (hn'.at' fun o e => hk₂ _ o hCw e) (fun h₃ hn₃ hs₃ => ?_) (by simp [compEnvC, relabel, ok.kind]))
      have hs₃' : Heap.SameBut Cc h₂ h₃ := hs₃
      have hacc₃ : h₃.PlainList D ys.toArray := (hacc'.at fun o e => hk₂ _ o hDw e).extBut hs₃'.extBut hDC
      have hk₃ : ∀ b o, b ∉ wr → s₂.heap.get? b = some o → h₃.get? b = some o := fun b o hb e => hs₃'.extBut b o (ltD e).2 (hk₂ b o hb (hk b o hb e))
      have hst₃ : St (i + 1) h₃ := W.frame _ _ _ hst₂ fun b hb o e => hs₃'.extBut b o (fpne b hb).2 e
      have hn₃' : h₃.Ns Cc (fun y => if y = x then some v else m' y) := hn₃
      -- the results so far stand
      have hR₃ : Reps P' h₃ (((ds.take i).filter test).map f) ys := hR.move (fun a l p z => by
          have hn : a ∉ wr := fun hm => (hnl i _ a hst' hm).1 l z
          have hne : a ≠ Cc := fun e => ns_not_list hn' (e ▸ z)
          obtain ⟨n, e⟩ := z
          exact ⟨⟨n, hs₃'.extBut _ _ hne (hk₂ _ _ hn e)⟩, p⟩) fun a l z => by
          have hn : a ∉ wr := fun hm => (hnl i _ a hst' hm).2 l z
          have hne : a ≠ Cc := fun e => ns_not_tup hn' (e ▸ z)
          obtain ⟨o, e, r⟩ := z
          exact ⟨o, hs₃'.extBut _ _ hne (hk₂ _ _ hn e), r⟩
      have hstep : ds.take (i + 1) = ds.take i ++ [d] := by rw [List.take_add_one, hd]; rfl
      have Q₃ := frame h₃ (tk₂ + 1) _ v d hn₃' (by simp) hk₃ (.inr ⟨_, hacc₃⟩) rp
      refine wpAny_mono (htest _ _ _ i d hsees hd _ _ Q₃) (fun okb s₄ h₄ => ?_) fun _ _ e => e.elim
      obtain ⟨rfl, k₄⟩ := h₄
      have hst₄ : St (i + 1) s₄.heap := W.frame _ _ _ hst₃ fun b _ o e => k₄.ext b o e
      obtain ⟨h₄, tk₄, rfl, kx₄⟩ := k₄
      cases ht : test d with
      | false =>
        simp only [Bool.false_eq_true, if_false]
        refine ⟨ds.length + 1 - (i + 1), by omega, h₄, tk₄, _, i + 1, ys, rfl, hst₄, hacc₃.at fun o e => kx₄ _ o e, hn₃'.keeps kx₄, ?_, hlt, rfl, fun b o hb e => kx₄ b o (hk₃ b o hb e)⟩
        rw [hstep]; simp only [List.filter_append, List.filter_cons, ht, List.filter_nil, List.append_nil, Bool.false_eq_true, if_false]
        exact hR₃.keeps kx₄
      | true =>
        simp only [if_true]
        have Q₄ := frame h₄ tk₄ _ v d (hn₃'.keeps kx₄) (by simp) (fun b o hb e => kx₄ b o (hk₃ b o hb e)) (.inr ⟨_, hacc₃.at fun o e => kx₄ _ o e⟩) rp
        refine wpAny_mono (helt _ _ _ i d hsees hd ht _ _ Q₄) (fun y s₅ h₅ => ?_) fun _ _ e => e.elim
        obtain ⟨k₅, rp₅⟩ := h₅
        have hst₅ : St (i + 1) s₅.heap := W.frame _ _ _ hst₄ fun b _ o e => k₅.ext b o e
        obtain ⟨h₅, tk₅, rfl, kx₅⟩ := k₅
        have kx : ∀ b o, h₃.get? b = some o → h₅.get? b = some o := fun b o e => kx₅ b o (kx₄ b o e)
        have hlen := hR.length
        have hys : ys.length ≤ ds.length := by
          rw [hlen, List.length_map]
          refine Nat.le_trans (List.length_filter_le _ _) ?_
          rw [List.length_take]; exact Nat.min_le_right _ _
        refine wpAny_list_append_plain (l := D) (hacc₃.at fun o e => kx _ o e) (fun h₆ hl₆ hs₆ => ?_) (by simp only [List.size_toArray]; rw [sizeLine_eq]; omega)
        have hs₆' : Heap.SameBut D h₅ h₆ := hs₆
        refine ⟨ds.length + 1 - (i + 1), by omega, h₆, tk₅, _, i + 1, ys ++ [y], rfl, W.frame _ _ _ hst₅ fun b hb o e => hs₆'.extBut b o (fpne b hb).1 e, by simpa using hl₆, (hn₃'.keeps kx).sameBut hs₆' (Ne.symm hDC), ?_, hlt, rfl,
          fun b o hb e => hs₆'.extBut b o (ltD e).1 (kx b o (hk₃ b o hb e))⟩
        rw [hstep]; simp only [List.filter_append, List.filter_cons, ht, List.filter_nil, if_true, List.map_append, List.map_cons, List.map_nil]
        have hpl : h₅.PlainList D ys.toArray := hacc₃.at fun o e => kx _ o e
        refine Reps.append ((hR₃.keeps kx).sameButL hs₆' (fun p => p.2 rfl) hpl) (Reps.cons ?_ Reps.nil)
        exact Rep.sameButL hs₆' (fun p => p.2 rfl) hpl (rp₅.weaken fun a p => p.1)
    · have hin : i = ds.length := by omega
      subst hin
      refine W.done _ _ _ hst' fun h₂ tk₂ hk₂ => ?_
      refine hRR D Cc _ ⟨fun b o e => ?_, ?_, ?_, ?_, hDC, ⟨_, hn'.at' fun o e => hk₂ _ o hCw e⟩, ys, hacc'.at fun o e => hk₂ _ o hDw e, ?_⟩
      · have hn : b ∉ wr := fun hm => by rw [hnew b hm] at e; cases e
        exact hk₂ b o hn (hk b o hn (k.ext _ _ e))
      · obtain ⟨h, t, rfl, _⟩ := k
        exact ⟨h₂, tk₂, rfl⟩
      · cases e : s.heap.get? D with
        | none => rfl
        | some o => have := k.ext _ _ e; rw [fresh D (Nat.le_refl _)] at this; cases this
      · cases e : s.heap.get? Cc with
        | none => rfl
        | some o => have := k.ext _ _ e; rw [fresh Cc (by omega)] at this; cases this
      · rw [List.take_length] at hR
        exact hR.move (fun a l p z => by
          have hn : a ∉ wr := fun hm => (hnl _ _ a hst' hm).1 l z
          obtain ⟨n, e⟩ := z
          exact ⟨⟨n, hk₂ _ _ hn e⟩, p⟩) fun a l z => by
          have hn : a ∉ wr := fun hm => (hnl _ _ a hst' hm).2 l z
          obtain ⟨o, e, r⟩ := z
          exact ⟨o, hk₂ _ _ hn e, r⟩
  exact codeAny_compStart_list (loop _ rfl) (W.self 0 _ _ _ hst₁ (loop _ rfl))
end

section
variable {C : Cx} {σ σc : Sg} {scope : Scope} {x : Str}

theorem Made.kp {O s rs D Cc s'} (m : Made C O s rs D Cc s') : Kp s s' := by
  obtain ⟨h, t, rfl⟩ := m.same
  exact ⟨h, t, rfl, m.keep⟩

theorem Made.post {O s rs D Cc s' h'} (m : Made C O s rs D Cc s') (hs : Heap.SameBut Cc s'.heap h') :
    Kp s { s' with heap := h' } ∧ ∃ a vs, Value.ref D = .ref a ∧ s.heap.get? a = none ∧ h'.PlainList a (List.toArray vs) ∧ Reps (fun b => Pr C O true b ∧ b ≠ a) h' rs vs := by
  obtain ⟨vs, pl, r⟩ := m.res
  obtain ⟨mm, hn⟩ := m.ns
  obtain ⟨h, t, rfl⟩ := m.same
  refine ⟨⟨h', t, rfl, fun b o e => (hs.2 b (fun hb => by rw [hb, m.newC] at e; cases e)).trans (m.keep b o e)⟩, D, vs, rfl, m.newD, pl.extBut hs.extBut m.ne, r.sameBut hs (fun l => ns_not_list hn) fun l => ns_not_tup hn⟩

variable {elt iter : Expr} {px pos : Pos} {ifs : List Expr} {ds : List V}

theorem EvN.comp (test : V → Bool) (f : V → V) (σc : Sg) (hi : It C σ iter ds) (ok : CompOk C σ scope x σc)
    (htest : ∀ env s₀ P (i : Nat) d, Sees scope env → ds[i]? = some d → TstAll (mkD C env s₀ P) ((x, .dat d) :: σc) ifs (test d))
    (helt : ∀ env s₀ P (i : Nat) d, Sees scope env → ds[i]? = some d → test d = true → Ev (mkD C env s₀ P) ((x, .dat d) :: σc) elt true (f d))
    (hsz : ds.length ≤ 16777216) (hs : ∀ x, foldedSetIterable iter C.env x = pure x := by intro _; rfl) :
    EvN C σ (.ListComp elt [⟨.Name x px, iter, ifs, 0⟩] scope pos) ((ds.filter test).map f) := fun O s q => by
  obtain ⟨cl, h1, h2, h3⟩ := closure_ex scope C.env fun y hy e => q.ok.cellsOk _ (ok.free y hy e)
  rw [eval_ListComp]
  refine wpAny_comprehension_free (use := none) rfl hs h1 ok.kind ok.names (wpAny_mono (hi O s q) (fun xv s₁ h₁ => wpAny_mono h₁ (fun it s₂ h₂ => ?_) fun _ _ e => e) fun _ _ e => e)
  refine comp_loop test f ok q h₂ h2 h3 htest helt hsz (RR := fun acc Cc => compPost C.M C.A (fun _ _ => False) none _ acc Cc) fun D Cc s' m => ?_
  obtain ⟨mm, hn⟩ := m.ns
  exact ⟨mm, hn, fun h' hs' => m.post hs'⟩

theorem swaps_true {y : Str} {py spos : Pos} (hk : C.env.scope.kind = .function) (hy : C.env.kindOf y = some .local) (hl : (py.line == pos.line) = true) (hx : (scope.names.any fun (n, k) => n == y && (k == .local || k == .cell)) = false) :
    swapsWith (.ListComp elt [⟨.Name x px, iter, ifs, 0⟩] scope pos) (some (.Name y py)) spos.line C.env = pure true := by
  show pure (C.env.blockKind == .function && C.env.kindOf y == some .local && py.line == (Expr.ListComp elt [⟨.Name x px, iter, ifs, 0⟩] scope pos).pos.line && !(scope.names.any fun (n, k) => n == y && (k == .local || k == .cell))) = _
  rw [hx, hy]
  have : (C.env.blockKind == ScopeKind.function) = true := by unfold Env.blockKind; rw [hk]; rfl
  rw [this, show (py.line == (Expr.ListComp elt [⟨.Name x px, iter, ifs, 0⟩] scope pos).pos.line) = true from hl]
  rfl
/-- y = [..]: the comprehension whose store comes first; own or not -/
theorem assignComp {y : Str} {py spos : Pos} (test : V → Bool) (f : V → V) (σc : Sg) (hi : It C σ iter ds) (ok : CompOk C σ scope x σc)
    (htest : ∀ env s₀ P (i : Nat) d, Sees scope env → ds[i]? = some d → TstAll (mkD C env s₀ P) ((x, .dat d) :: σc) ifs (test d))
    (helt : ∀ env s₀ P (i : Nat) d, Sees scope env → ds[i]? = some d → test d = true → Ev (mkD C env s₀ P) ((x, .dat d) :: σc) elt true (f d))
    (hsz : ds.length ≤ 16777216) (hmt : C.mt = true) (hy : C.env.kindOf y = some .local) (hl : (py.line == pos.line) = true) (hx : (scope.names.any fun (n, k) => n == y && (k == .local || k == .cell)) = false)
    (hs : ∀ x, foldedSetIterable iter C.env x = pure x := by intro _; rfl) {bd : Bd} (hbd : bd = .dat (.list ((ds.filter test).map f)) ∨ bd = .own ((ds.filter test).map f)) :
    Ex C σ (.Assign [.Name y py] (.ListComp elt [⟨.Name x px, iter, ifs, 0⟩] scope pos) spos) (.next ((y, bd) :: σ)) := fun O s q => by
  obtain ⟨cl, h1, h2, h3⟩ := closure_ex scope C.env fun y hy e => q.ok.cellsOk _ (ok.free y hy e)
  rw [exec_Assign_Name_used _ _ _ _ (swaps_true q.ok.kind hy hl hx)]
  refine wpAny_bind (wpAny_standAt (wpAny_bind ?_))
  show wpAny _ C.A (do let _ ← comprehension (.ListComp elt [⟨.Name x px, iter, ifs, 0⟩] scope pos) scope C.env _ (newList []) false (eval iter C.env) (some (assign (.Name y py) C.env))) _ _ s
  refine wpAny_bind (wpAny_mono (wpAny_comprehension_free (use := some (assign (.Name y py) C.env)) (Q := fun _ s' => (Out.next ((y, bd) :: σ)).post C O s .next s') rfl hs h1 ok.kind ok.names
    (wpAny_mono (hi O s q) (fun xv s₁ h₁ => wpAny_mono h₁ (fun it s₂ h₂ => ?_) fun _ _ e => e) fun _ _ e => e)) (fun _ s' hq => wpAny_pure (wpAny_pure hq)) fun _ _ e => e)
  refine comp_loop test f ok q h₂ h2 h3 htest helt hsz (RR := fun acc Cc => compPost C.M C.A (fun _ _ => False) (some (assign (.Name y py) C.env)) (fun _ s' => (Out.next ((y, bd) :: σ)).post C O s .next s') acc Cc) fun D Cc s' m => ?_
  have q' := q.keeps m.kp
  obtain ⟨vs, pl, r⟩ := m.res
  obtain ⟨mm, hn⟩ := m.ns
  show wpAny _ C.A (assign (.Name y py) C.env (.ref D)) _ _ _
  refine wpAny_assign_Name (store_var q' ⟨hmt, .inl hy⟩ fun b s₃ t => ?_)
  -- the comprehension's own frame is no part of ours
  have hCb : Cc ≠ b := by
    rcases t.fr with e | ⟨z, e⟩
    · obtain ⟨m0, o, _, _, e', _⟩ := q.ns
      intro h; rw [← h] at e; rw [← e, m.newC] at e'; cases e'
    · obtain ⟨v0, o, e', _⟩ := q.cells z b e
      intro h; rw [← h, m.newC] at e'; cases e'
  have hn₃ : s₃.heap.Ns Cc mm := by
    obtain ⟨h', tk, rfl, hsb⟩ := t.same
    exact hn.sameBut hsb hCb
  refine ⟨mm, hn₃, fun h' hs' => ⟨rfl, ?_⟩⟩
  have fin : ∀ {O' : Str → Option Addr} {σ'}, Rel C O' σ' s₃ → (∀ z, O' z ≠ some Cc) → Step C O s O' s₃ → ∃ O', Rel C O' σ' { s₃ with heap := h' } ∧ Step C O s O' { s₃ with heap := h' } := by
    intro O' σ' q₃ hO st
    have fr : Free C O' Cc := by
      refine ⟨fun e => ?_, fun z c e h => ?_, hO⟩
      · obtain ⟨m0, o, _, _, e', _⟩ := q.ns; rw [← e, m.newC] at e'; cases e'
      · obtain ⟨v0, o, e', _⟩ := q.cells z c e; rw [← h, m.newC] at e'; cases e'
    have s0 : C.s₀.heap.get? Cc = none := by
      cases e : C.s₀.heap.get? Cc with
      | none => rfl
      | some o => have := q.same.ext _ _ e; rw [m.newC] at this; cases this
    refine ⟨O', q₃.poke (wr := [Cc]) (tk := s₃.toks) (fun b o hb e => (hs'.2 b (by simpa using hb)).trans e) (fun b hb => by rw [List.mem_singleton.mp hb]; exact ⟨fr, s0, fun l => ns_not_list hn₃, fun l => ns_not_tup hn₃⟩), ?_, st.own⟩
    intro b o e f
    refine (hs'.2 b (fun h => ?_)).trans (st.obj b o e f)
    rw [h, m.newC] at e; cases e
  have hOC : ∀ z, O z ≠ some Cc := fun z e => by
    obtain ⟨_, l, n, w⟩ := q.owned z Cc e; rw [m.newC] at w; cases w
  rcases hbd with rfl | rfl
  · refine fin (t.rel q' ?_) hOC ((Step.kp m.kp).trans (t.step q'))
    simp only [Rep]
    exact ⟨D, vs, rfl, q.new true m.newD, pl, r.weaken fun _ p => p.1⟩
  · refine fin (t.relOwn q m.kp m.newD pl r) (fun z e => ?_) (t.stepOwn q m.kp m.newD)
    by_cases hz : z = y
    · simp only [hz, if_true] at e; cases e; exact m.ne rfl
    · simp only [hz, if_false] at e; exact hOC z e
end

theorem FnAt.of {G : Gl} {f : Str} {a c : Addr} {ps : List Str} {body : List Stmt} {scope : Scope} {o oc : Obj} {fd : FuncData} {vs : Array Value} {t : Tok}
    (hm : G.mg f = some (.ref a)) (hl : G.K.lookup a = some o) (hd : o.data = .func fd) (hb : fd.body = .stmts body) (hs : fd.scope = scope) (h1 : fd.closure = []) (h2 : fd.globals = mainGlobals) (h3 : fd.builtins = builtinsNs) (hp : fd.params.args.map (·.arg) = ps)
    (hbind : ∀ vals : List Value, vals.length = ps.length → bindArgs fd ⟨vals, []⟩ = pure (ps.zip vals))
    (hc : fd.code = .ref c) (hlc : G.K.lookup c = some oc) (hdc : oc.data = .fields vs) (hq : vs[1]? = some (.str fd.qualname t)) : FnAt G f a ps body scope :=
  ⟨o, fd, hm, hl, hd, hb, hs, h1, h2, h3, hbind, fun h g => ⟨c, oc, vs, t, hc, g.k _ _ hlc, hdc, hq⟩⟩

/-- the globals by the written part -/
theorem mg_of {h : Heap} {mg : Str → Option Value} {K : List (Addr × Obj)} {o : Obj} {es : Array DictEntry} {ep : Nat} (hn : h.Ns mainGlobals mg) (hk : ∀ a o, K.lookup a = some o → h.get? a = some o)
    (hl : K.lookup mainGlobals = some o) (hd : o.data = .dict es ep) (x : Str) : mg x = nsFind es x := by
  obtain ⟨o', es', ep', e, d, _, f⟩ := hn
  rw [hk _ _ hl] at e; cases e
  rw [hd] at d; cases d
  exact (f x).symm

/-- the script's vInts -/
theorem script_of {P : Params} {h : Heap} {v : Value} {xs : List W.WData} (hw : W.Well P h v (.list xs)) (hi : ∀ x ∈ xs, ∃ i, x = W.WData.int i) : ∃ ns : List Int, xs = ns.map W.WData.int ∧ Rep (fun _ => True) h (.list (vInts ns)) v := by
  cases hw with
  | @list a vs _ hl hv =>
    have key : ∀ (vs : List Value) (xs : List W.WData), W.WellAll P h vs xs → (∀ x ∈ xs, ∃ i, x = W.WData.int i) → ∃ ns : List Int, xs = ns.map W.WData.int ∧ Reps (fun _ => True) h (vInts ns) vs := by
      intro vs
      induction vs with
      | nil => intro xs hv _; cases hv; exact ⟨[], rfl, Reps.nil⟩
      | cons v vs ih =>
        intro xs hv hi
        cases hv with
        | @cons _ _ d ds h1 h2 =>
          obtain ⟨i, rfl⟩ := hi d List.mem_cons_self
          obtain ⟨ns, rfl, r⟩ := ih ds h2 fun x hx => hi x (List.mem_cons_of_mem _ hx)
          cases h1
          exact ⟨i :: ns, rfl, Reps.cons (by simp only [Rep]; exact ⟨_, rfl⟩) r⟩
    obtain ⟨ns, e, r⟩ := key vs xs hv hi
    refine ⟨ns, e, ?_⟩
    simp only [Rep]
    exact ⟨a, vs, rfl, trivial, ⟨_, hl⟩, r⟩

def mgOf (K : List (Addr × Obj)) (x : Str) : Option Value := match K.lookup mainGlobals with
  | some o => (match o.data with | .dict es _ => nsFind es x | _ => none)
  | none => none

/-- what is known of the globals -/
structure Has (K : Params → List (Addr × Obj)) (w : World) (G : Gl) : Prop where
  k : G.K = K w.params
  mg : ∀ x, G.mg x = mgOf (K w.params) x
  mb : ∀ x : Str, x ≠ "__name__" → G.mb x = bootBuiltins x

theorem boot_len : bootBuiltins "len" = some (.builtin "len") := by decide +kernel
theorem boot_range : bootBuiltins "range" = some (.type "range") := by decide +kernel
theorem boot_max : bootBuiltins "max" = some (.builtin "max") := by decide +kernel
section
variable {K : Params → List (Addr × Obj)} {w : World} {G : Gl}
theorem Has.len (h : Has K w G) : G.mb "len" = some (.builtin "len") := (h.mb _ (by decide)).trans boot_len
theorem Has.range (h : Has K w G) : G.mb "range" = some (.type "range") := (h.mb _ (by decide)).trans boot_range
theorem Has.max (h : Has K w G) : G.mb "max" = some (.builtin "max") := (h.mb _ (by decide)).trans boot_max
end

theorem all1 {F : List Value → Prop} {p : Str} (h : ∀ a, F [a]) : ∀ vals : List Value, vals.length = [p].length → F vals
  | [a], _ => h a
  | [], e => by simp at e
  | _ :: _ :: _, e => by simp at e
theorem all2 {F : List Value → Prop} {p q : Str} (h : ∀ a b, F [a, b]) : ∀ vals : List Value, vals.length = [p, q].length → F vals
  | [a, b], _ => h a b
  | [], e => by simp at e
  | [_], e => by simp at e
  | _ :: _ :: _ :: _, e => by simp at e
theorem kind_of {env : Env} {sc : Scope} {x : Str} {k : NameKind} (hs : env.scope = sc) (h : sc.names.lookup x = some k) : env.kindOf x = some k := by
  unfold Env.kindOf; rw [hs]; exact h
theorem inter_of {env : Env} {sc : Scope} (hs : env.scope = sc) (h : (sc.kind == .module) = false) : interactive env = false := by
  unfold interactive; rw [hs, h]; rfl

theorem BinOk.modP (a b : Int) (h : 0 < b) : BinOk .Mod (.int a) (.int b) (.int (a % b)) := by
  rw [← Int.fmod_eq_emod_of_nonneg a (Int.le_of_lt h)]; exact .modI a b (by omega)
theorem SubOk.strs (p : List (List Nat)) (i : Int) (h0 : 0 ≤ i) (hl : i < p.length) (hz : p.length < 1000000) : SubOk (.tup (vStrs p)) (.int i) (.str (p.getD i.toNat [])) := by
  refine .tup _ _ _ h0 (by omega) ?_
  have hi : i.toNat < p.length := by omega
  simp [vStrs, hi]
theorem SubOk.ints (p : List Int) (i : Int) (h0 : 0 ≤ i) (hl : i < p.length) (hz : p.length < 1000000) : SubOk (.list (vInts p)) (.int i) (.int (p.getD i.toNat 0)) := by
  refine .list _ _ _ h0 (by omega) ?_
  have hi : i.toNat < p.length := by omega
  simp [vInts, hi]
theorem SubOk.sign (l : List Nat) (i : Int) (h0 : 0 ≤ i) (hl : i < l.length) (hz : l.length < 100000000) : SubOk (.str l) (.int i) (.str [l.getD i.toNat 0]) := by
  refine .str _ _ _ h0 (by omega) ?_
  have hi : i.toNat < l.length := by omega
  simp [hi]

/-- written values -/
def lit : Value → Option V
  | .str x _ => if x.cps.toList.all (fun c => decide (c < 1114112)) then some (.str x.cps.toList) else none
  | .int i _ => some (.int i)
  | .bool b => some (.bool b)
  | .none => some .none
  | _ => none
def lits : List Value → Option (List V)
  | [] => some []
  | v :: r => match lit v, lits r with
    | some d, some ds => some (d :: ds)
    | _, _ => none
theorem lit_rep {P h} : ∀ {v : Value} {d : V}, lit v = some d → Rep P h d v := by
  intro v d e
  cases v with
  | none => simp only [lit] at e; cases e; simp only [Rep]
  | bool b => simp only [lit] at e; cases e; simp only [Rep]
  | int i t => simp only [lit] at e; cases e; simp only [Rep]; exact ⟨_, rfl⟩
  | str x t =>
    simp only [lit] at e
    split at e
    · rename_i hc
      cases e; simp only [Rep]
      exact ⟨⟨_, rfl⟩, fun c h => of_decide_eq_true (List.all_eq_true.mp hc c h)⟩
    · cases e
  | _ => simp only [lit] at e; cases e
theorem lits_reps {P h} : ∀ {vs : List Value} {ds : List V}, lits vs = some ds → Reps P h ds vs
  | [], ds, e => by simp only [lits] at e; cases e; exact Reps.nil
  | v :: r, ds, e => by
    simp only [lits] at e
    split at e
    · rename_i d ds' h1 h2
      cases e
      exact Reps.cons (lit_rep h1) (lits_reps h2)
    · cases e

section
variable {C : Cx} {σ : Sg} {c : Bool}
/-- a written table -/
theorem Ev.table {x : Str} {pos : Pos} {a : Addr} {o : Obj} {vs : Array Value} {n : Nat} {ds : List V} (hk : C.env.kindOf x = some .globalImplicit) (hm : C.G.mg x = some (.ref a)) (hl : C.G.K.lookup a = some o) (hc : o.cls = .type "tuple")
    (hd : o.data = .seq vs n) (hv : lits vs.toList = some ds) (hdb : (x == ("__debug__" : Str)) = false) : Ev C σ (.Name x pos) c (.tup ds) :=
  Ev.global hk hm (fun O s q => by
    simp only [Rep]
    exact ⟨a, vs.toList, rfl, ⟨o, q.good.k _ _ hl, hc, n, by simpa using hd⟩, lits_reps hv⟩) hdb
theorem weak_of {J σ' : Sg} (h : ∀ p ∈ J, σ'.lookup p.1 = some p.2) : ∀ x b, J.lookup x = some b → σ'.lookup x = some b := fun x b e => h (x, b) (mem_of_lookup e)

theorem forFold {α S : Type} {x : Str} {p pos : Pos} {iter : Expr} {body : List Stmt} (enc : α → V) (l : List α) (st : S → Sg) (f : S → α → S) (s0 : S) (Inv : Nat → S → Prop) (hi : It C σ iter (l.map enc)) (hx : Storable C x) (h0 : Inv 0 s0)
    (step : ∀ i s a, l[i]? = some a → Inv i s → Inv (i + 1) (f s a) ∧ Run C ((x, .dat (enc a)) :: st s) body (.next (st (f s a)))) (hσ : ∀ p ∈ st s0, σ.lookup p.1 = some p.2)
    (hs : ∀ x, foldedSetIterable iter C.env x = pure x) : Ex C σ (.For (.Name x p) iter body [] pos) (.next (st (l.foldl f s0))) ∧ Inv l.length (l.foldl f s0) := by
  have inv : ∀ i, i ≤ l.length → Inv i ((l.take i).foldl f s0) := by
    intro i
    induction i with
    | zero => intro _; simpa using h0
    | succ i ih =>
      intro hle
      have hlt : i < l.length := by omega
      rw [List.take_add_one, List.getElem?_eq_getElem hlt]
      simp only [Option.toList_some, List.foldl_append, List.foldl_cons, List.foldl_nil]
      exact (step i _ _ (List.getElem?_eq_getElem hlt) (ih (by omega))).1
  have e : ∀ i a, l[i]? = some a → (l.take (i + 1)).foldl f s0 = f ((l.take i).foldl f s0) a := by
    intro i a ha
    rw [List.take_add_one, ha]; simp
  refine ⟨?_, by have := inv l.length (Nat.le_refl _); rwa [List.take_length] at this⟩
  have := Ex.for (p := p) (pos := pos) (body := body) (fun i => st ((l.take i).foldl f s0)) hi hx (fun i d hd => ?_) (by simpa using weak_of hσ) hs
  · simpa using this
  · simp only [List.getElem?_map, Option.map_eq_some_iff] at hd
    obtain ⟨a, ha, rfl⟩ := hd
    show Run C _ body (.next (st ((l.take (i + 1)).foldl f s0)))
    rw [e i a ha]
    exact (step i _ a ha (inv i (Nat.le_of_lt (List.getElem?_eq_some_iff.mp ha).1))).2

/-- a loop over a range: the names after i turns -/
theorem forRange {x : Str} {p pos : Pos} {iter : Expr} {body : List Stmt} {a : Int} {n : Nat} (J : Nat → Sg) (hi : It C σ iter (upTo a n)) (hx : Storable C x)
    (step : ∀ i, i < n → Run C ((x, .dat (.int (a + i))) :: J i) body (.next (J (i + 1)))) (hσ : ∀ p ∈ J 0, σ.lookup p.1 = some p.2)
    (hs : ∀ x, foldedSetIterable iter C.env x = pure x) : Ex C σ (.For (.Name x p) iter body [] pos) (.next (J n)) := by
  have := Ex.for (p := p) (pos := pos) (body := body) J hi hx (fun i d hd => ?_) (weak_of hσ) hs
  · simpa using this
  · simp only [upTo, List.getElem?_map, Option.map_eq_some_iff] at hd
    obtain ⟨j, hj, rfl⟩ := hd
    obtain ⟨hlt, rfl⟩ := List.getElem?_eq_some_iff.mp hj
    have hi' : i < n := by simpa using hlt
    simpa using step i hi'

theorem Run.forFold {α S : Type} {x : Str} {p pos : Pos} {iter : Expr} {body rest : List Stmt} {o : Out} (enc : α → V) (l : List α) (st : S → Sg) (f : S → α → S) (s0 : S) (Inv : Nat → S → Prop) (hi : It C σ iter (l.map enc)) (hx : Storable C x) (h0 : Inv 0 s0)
    (hσ : ∀ p ∈ st s0, σ.lookup p.1 = some p.2)
    (step : ∀ i s a, l[i]? = some a → Inv i s → Inv (i + 1) (f s a) ∧ Run C ((x, .dat (enc a)) :: st s) body (.next (st (f s a))))
    (cont : Inv l.length (l.foldl f s0) → Run C (st (l.foldl f s0)) rest o)
    (hs : ∀ x, foldedSetIterable iter C.env x = pure x := by intro _; rfl) : Run C σ (.For (.Name x p) iter body [] pos :: rest) o :=
  have F := Mine.forFold (p := p) (pos := pos) enc l st f s0 Inv hi hx h0 step hσ hs
  Run.cons F.1 (cont F.2)
theorem Run.forRange {x : Str} {p pos : Pos} {iter : Expr} {body rest : List Stmt} {o : Out} {a : Int} {n : Nat} (J : Nat → Sg) (hi : It C σ iter (upTo a n)) (hx : Storable C x) (hσ : ∀ p ∈ J 0, σ.lookup p.1 = some p.2)
    (step : ∀ i, i < n → Run C ((x, .dat (.int (a + i))) :: J i) body (.next (J (i + 1)))) (cont : Run C (J n) rest o)
    (hs : ∀ x, foldedSetIterable iter C.env x = pure x := by intro _; rfl) : Run C σ (.For (.Name x p) iter body [] pos :: rest) o :=
  Run.cons (Mine.forRange (p := p) (pos := pos) J hi hx step hσ hs) cont

theorem Run.postL {b : List Stmt} {σ₁ σ₂ : Sg} (h : Run C σ b (.next σ₁)) (hw : ∀ p ∈ σ₂, σ₁.lookup p.1 = some p.2) : Run C σ b (.next σ₂) := h.post (weak_of hw)
theorem Run.nilW {σ₂ : Sg} (hw : ∀ p ∈ σ₂, σ.lookup p.1 = some p.2) : Run C σ [] (.next σ₂) := Run.postL Run.nil hw
end

theorem rep_len' (n : Nat) (l : List Nat) : (rep n l).length = n * l.length := by simp [rep]
theorem getD_len {p : List (List Nat)} {B : Nat} (h : ∀ x ∈ p, x.length ≤ B) (i : Nat) : (p.getD i []).length ≤ B := by
  rw [List.getD_eq_getElem?_getD]
  cases e : p[i]? with
  | none => simp
  | some x => exact h x (List.mem_of_getElem? e)

theorem vStrs_snoc (a : List (List Nat)) (b : List Nat) : vStrs (a ++ [b]) = vStrs a ++ [.str b] := by simp [vStrs]
theorem vInts_snoc (a : List Int) (b : Int) : vInts (a ++ [b]) = vInts a ++ [.int b] := by simp [vInts]
theorem sl_strs (lo hi : Option Int) (l : List (List Nat)) : sl lo hi (vStrs l) = vStrs (sl lo hi l) := by simp [sl, vStrs]
theorem SlOk.strs {lo hi : Option Int} (l : List (List Nat)) (h : l.length ≤ 16777216) : SlOk lo hi (.list (vStrs l)) (.list (vStrs (sl lo hi l))) := by
  rw [← sl_strs]; exact .list _ (by simpa using h)
theorem LenOk.strs (p : List (List Nat)) : LenOk (.list (vStrs p)) p.length := by
  have := LenOk.list (vStrs p); simpa using this
theorem LenOk.ints (p : List Int) : LenOk (.list (vInts p)) p.length := by
  have := LenOk.list (vInts p); simpa using this

theorem ne_refl {a b : V} (h : a = b) : (!a.eqb b) = false := by rw [V.eqb_of_eq h]; rfl

theorem script_rep {P : Params} {h : Heap} {v : Value} {ns : List Int} (hw : W.Well P h v (W.ofPy (.list (ns.map .int)))) : Rep (fun _ => True) h (.list (vInts ns)) v := by
  have e : W.ofPy (.list (ns.map .int)) = .list (ns.map W.WData.int) := by
    rw [W.ofPy, W.ofPys_eq, List.map_map]; rfl
  rw [e] at hw
  obtain ⟨ns', e', r⟩ := script_of hw (fun x hx => by obtain ⟨i, _, rfl⟩ := List.mem_map.mp hx; exact ⟨i, rfl⟩)
  have : ns = ns' := by
    have := congrArg (List.map fun d => match d with | W.WData.int i => i | _ => 0) e'
    simpa [Function.comp_def] using this
  rw [this]; exact r

/-- a law that gives True -/
theorem enter {c : W.ClaimW} {cl : Str → Option Addr} {mean : ExcName → Option Value} {args : List W.WData} {s₁ : Shared} {fa : Addr} {mg mb : Str → Option Value} {K : List (Addr × Obj)} {w : World} {prog : Program} {n : Nat} {ns : List Int} {v : Value} {f : Str}
    (hG : Good ⟨mg, mb, K⟩ s₁.heap) (hm : mg f = some (.ref fa)) (sp : Spec ⟨mg, mb, K⟩ prog w n f [.list (vInts ns)] (.bool true)) (hn : n ≤ 100) (hw : W.Well w.params s₁.heap v (W.ofPy (.list (ns.map .int)))) (hg : s₁.gens = #[])
    (hr : ∀ cls, c.raises args cls = false) (hp : c.post args (.bool true) args = true) {E : Value → Shared → Prop} :
    wpAny (model prog w) callerA (PySem.call (.ref fa) [v]) (fun v s' => W.GoodWG c cl mean args s₁ (.ok (.ret v)) s') E s₁ := by
  obtain ⟨a, o, fd, h1, h2, h3, run⟩ := sp
  have ha : a = fa := by
    have : (some (Value.ref a) : Option Value) = some (.ref fa) := h1.symm.trans hm
    cases this; rfl
  subst ha
  have room : Room callerA n := ⟨rfl, by show 1 + claimMargin + n < recursionLimit; unfold claimMargin recursionLimit; omega, by show 4 + 4 * n + 80 < cLine; unfold cLine; omega⟩
  refine wpAny_call (codeAny_mono (run callerA s₁ [v] (fun _ => True) room hG (Reps.cons (script_rep hw) Reps.nil) fun _ _ => trivial) fun res s' h => ?_)
  obtain ⟨v', rfl, k, r⟩ := h
  simp only [Rep] at r
  subst r
  obtain ⟨h', tk, rfl, kx⟩ := k
  exact W.GoodW.toG ⟨.inl ⟨_, _, [], rfl, hr, .bool true, hp, fun _ => ⟨.nil, fun a ha => by cases ha⟩⟩, kx, rfl, hg⟩

theorem has_of {h : Heap} {mg mb : Str → Option Value} {K : Params → List (Addr × Obj)} {w : World} {o : Obj} {es : Array DictEntry} {ep : Nat} (hn : h.Ns mainGlobals mg) (hk : ∀ a o, (K w.params).lookup a = some o → h.get? a = some o)
    (hl : (K w.params).lookup mainGlobals = some o) (hd : o.data = .dict es ep) (hb : ∀ x : Str, x ≠ "__name__" → mb x = bootBuiltins x) : Has K w ⟨mg, mb, K w.params⟩ :=
  ⟨rfl, fun x => by
    show mg x = mgOf (K w.params) x
    rw [mg_of hn hk hl hd x]
    unfold mgOf; rw [hl]; dsimp only; rw [hd], hb⟩
theorem ljustL_len' (l : List Nat) (i : Int) : (ljustL l i).length = l.length + (i.toNat - l.length) := by simp [ljustL]
theorem rjustL_len' (l : List Nat) (i : Int) : (rjustL l i).length = (i.toNat - l.length) + l.length := by simp [rjustL]
/-- what a comprehension takes from around it -/
def capOf (scope : Scope) (σ : Sg) : Sg := scope.names.filterMap fun p => if scope.names.lookup p.1 == some .free then (match σ.lookup p.1 with | some (.dat d) => some (p.1, .dat d) | _ => none) else none

def Bnd (B : Nat) (l : List (List Nat)) : Prop := ∀ x ∈ l, x.length ≤ B
theorem Bnd.at {B : Nat} {l : List (List Nat)} {i : Nat} {a : List Nat} (h : Bnd B l) (e : l[i]? = some a) : a.length ≤ B := h a (List.mem_of_getElem? e)
theorem str_inj (a b : List Nat) (h : V.str a = V.str b) : a = b := by cases h; rfl
section
variable {C : Cx} {σ : Sg} {scope : Scope} {x : Str}

theorem CompOk.of (h1 : ∀ y ∈ scope.names, y.2 = .free → C.env.kindOf y.1 = some .cell) (h2 : (scope.names.all fun y => y.2 != .cell) = true) (h3 : scope.kind = .function)
    (h4 : (scope.names.all fun y => !(y.2 == .local) || scope.names.lookup y.1 == some .local) = true) (h5 : scope.names.lookup x = some .local) : CompOk C σ scope x (capOf scope σ) := by
  refine ⟨h1, fun y hy => ?_, h3, fun y hy e => ?_, h5, fun y b e => ?_⟩
  · have := List.all_eq_true.mp h2 y hy
    intro e; rw [e] at this; exact absurd this (by decide)
  · have := List.all_eq_true.mp h4 y hy
    rw [e] at this
    have h : (scope.names.lookup y.1 == some NameKind.local) = true := by simpa using this
    exact beq_iff_eq.mp h
  · have hm := mem_of_lookup e
    simp only [capOf, List.mem_filterMap] at hm
    obtain ⟨p, hp, hq⟩ := hm
    split at hq
    · rename_i hf
      split at hq
      · rename_i d hd
        cases hq
        exact ⟨hd, ⟨d, rfl⟩, beq_iff_eq.mp hf⟩
      · cases hq
    · cases hq

variable {elt iter : Expr} {px pos : Pos} {ifs : List Expr}

theorem EvN.compF {α : Type} (enc : α → V) (inj : ∀ a b, enc a = enc b → a = b) (l : List α) (t : α → Bool) (g : α → V) (hi : It C σ iter (l.map enc)) (ok : CompOk C σ scope x (capOf scope σ))
    (htest : ∀ env s₀ P (i : Nat) a, Sees scope env → l[i]? = some a → TstAll (mkD C env s₀ P) ((x, .dat (enc a)) :: capOf scope σ) ifs (t a))
    (helt : ∀ env s₀ P (i : Nat) a, Sees scope env → l[i]? = some a → t a = true → Ev (mkD C env s₀ P) ((x, .dat (enc a)) :: capOf scope σ) elt true (g a))
    (hsz : l.length ≤ 16777216) (hs : ∀ x, foldedSetIterable iter C.env x = pure x := by intro _; rfl) :
    EvN C σ (.ListComp elt [⟨.Name x px, iter, ifs, 0⟩] scope pos) ((l.filter t).map g) := by
  classical
  let f : V → V := fun d => if h : ∃ a, enc a = d then g h.choose else d
  let t' : V → Bool := fun d => if h : ∃ a, enc a = d then t h.choose else true
  have hf : ∀ a, f (enc a) = g a := fun a => by
    have h : ∃ b, enc b = enc a := ⟨a, rfl⟩
    show (if h : ∃ b, enc b = enc a then g h.choose else enc a) = g a
    rw [dif_pos h, inj _ _ h.choose_spec]
  have ht : ∀ a, t' (enc a) = t a := fun a => by
    have h : ∃ b, enc b = enc a := ⟨a, rfl⟩
    show (if h : ∃ b, enc b = enc a then t h.choose else true) = t a
    rw [dif_pos h, inj _ _ h.choose_spec]
  have key := EvN.comp (px := px) (pos := pos) (elt := elt) (ifs := ifs) t' f (capOf scope σ) hi ok (fun env s₀ P i d hS hd => by
      rw [List.getElem?_map] at hd
      obtain ⟨a, ha, rfl⟩ := Option.map_eq_some_iff.mp hd
      rw [ht]; exact htest env s₀ P i a hS ha) (fun env s₀ P i d hS hd h => by
      rw [List.getElem?_map] at hd
      obtain ⟨a, ha, rfl⟩ := Option.map_eq_some_iff.mp hd
      rw [hf]; rw [ht] at h; exact helt env s₀ P i a hS ha h) (by simpa using hsz) hs
  have e : ((l.map enc).filter t').map f = (l.filter t).map g := by
    rw [List.filter_map, List.map_map]
    have h1 : (t' ∘ enc) = t := funext ht
    have h2 : (f ∘ enc) = g := funext hf
    rw [h1, h2]
  rw [← e]; exact key

theorem EvN.compM {α : Type} (enc : α → V) (inj : ∀ a b, enc a = enc b → a = b) (l : List α) (g : α → V) (hi : It C σ iter (l.map enc)) (ok : CompOk C σ scope x (capOf scope σ))
    (helt : ∀ env s₀ P (i : Nat) a, Sees scope env → l[i]? = some a → Ev (mkD C env s₀ P) ((x, .dat (enc a)) :: capOf scope σ) elt true (g a))
    (hsz : l.length ≤ 16777216) (hs : ∀ x, foldedSetIterable iter C.env x = pure x := by intro _; rfl) :
    EvN C σ (.ListComp elt [⟨.Name x px, iter, [], 0⟩] scope pos) (l.map g) := by
  have := EvN.compF (px := px) (pos := pos) (elt := elt) (ifs := []) enc inj l (fun _ => true) g hi ok (fun env s₀ P i a hS ha => TstAll.nil) (fun env s₀ P i a hS ha _ => helt env s₀ P i a hS ha) hsz hs
  rw [List.filter_eq_self.mpr (fun _ _ => rfl)] at this
  exact this

theorem Ex.compM {α : Type} {y : Str} {py spos : Pos} (enc : α → V) (inj : ∀ a b, enc a = enc b → a = b) (l : List α) (g : α → V) (hi : It C σ iter (l.map enc)) (ok : CompOk C σ scope x (capOf scope σ))
    (helt : ∀ env s₀ P (i : Nat) a, Sees scope env → l[i]? = some a → Ev (mkD C env s₀ P) ((x, .dat (enc a)) :: capOf scope σ) elt true (g a))
    (hsz : l.length ≤ 16777216) (hmt : C.mt = true) (hy : C.env.kindOf y = some .local) (hl : (py.line == pos.line) = true) (hx : (scope.names.any fun (n, k) => n == y && (k == .local || k == .cell)) = false)
    (hs : ∀ x, foldedSetIterable iter C.env x = pure x := by intro _; rfl) :
    Ex C σ (.Assign [.Name y py] (.ListComp elt [⟨.Name x px, iter, [], 0⟩] scope pos) spos) (.next ((y, .dat (.list (l.map g))) :: σ)) := by
  classical
  let f : V → V := fun d => if h : ∃ a, enc a = d then g h.choose else d
  have hf : ∀ a, f (enc a) = g a := fun a => by
    have h : ∃ b, enc b = enc a := ⟨a, rfl⟩
    show (if h : ∃ b, enc b = enc a then g h.choose else enc a) = g a
    rw [dif_pos h, inj _ _ h.choose_spec]
  have e : ((l.map enc).filter fun _ => true).map f = l.map g := by
    rw [List.filter_eq_self.mpr (fun _ _ => rfl), List.map_map]
    exact congrArg (List.map · l) (funext hf)
  refine assignComp (fun _ => true) f (capOf scope σ) hi ok (fun env s₀ P i d hS hd => TstAll.nil) (fun env s₀ P i d hS hd _ => ?_) (by simpa using hsz) hmt hy hl hx hs (.inl (by rw [e]))
  rw [List.getElem?_map] at hd
  obtain ⟨a, ha, rfl⟩ := Option.map_eq_some_iff.mp hd
  rw [hf]; exact helt env s₀ P i a hS ha
end
end Mine

set_option maxRecDepth 100000
set_option maxHeartbeats 4000000
namespace Mine
/-! plain: words, wrapping -/
def splF (s : List (List Nat) × List Nat) (c : Nat) : List (List Nat) × List Nat := if c = 32 then (if s.2 = [] then s else (s.1 ++ [s.2], [])) else (s.1, s.2 ++ [c])
def splE (s : List (List Nat) × List Nat) : List (List Nat) := if s.2 = [] then s.1 else s.1 ++ [s.2]
def spl (l : List Nat) : List (List Nat) := splE (l.foldl splF ([], []))
def wrF (width : Int) (s : List (List Nat) × List Nat) (w : List Nat) : List (List Nat) × List Nat :=
  if s.2 = [] then (s.1, w) else if (s.2.length : Int) + 1 + w.length ≤ width then (s.1, s.2 ++ [32] ++ w) else (s.1 ++ [s.2], w)
def wrap (width : Int) (ws : List (List Nat)) : List (List Nat) := splE (ws.foldl (wrF width) ([], []))

/-- a word: not empty, no blank -/
def Wd (w : List Nat) : Prop := w ≠ [] ∧ ∀ c ∈ w, sp c = false
theorem sp32 : sp 32 = true := by decide +kernel

/-- plain texts: the only blank is the blank -/
def Pln (l : List Nat) : Prop := ∀ c ∈ l, sp c = decide (c = 32)
/-- the greedy groups -/
def grp (width : Int) (g : List (List Nat)) : List (List Nat) → List (List (List Nat))
  | [] => [g]
  | w :: ws => if ((joinL [32] g).length : Int) + 1 + w.length ≤ width then grp width (g ++ [w]) ws else g :: grp width [w] ws
def groups (width : Int) : List (List Nat) → List (List (List Nat))
  | [] => []
  | w :: ws => grp width [w] ws

def fitG (width : Int) : List (List Nat) → List (List Nat) → Prop
  | _, [] => True
  | pre, w :: r => ((joinL [32] pre).length : Int) + 1 + w.length ≤ width ∧ fitG width (pre ++ [w]) r
def Fit (width : Int) : List (List Nat) → Prop
  | [] => False
  | w :: r => fitG width [w] r
def Brk (width : Int) (g g' : List (List Nat)) : Prop := ¬ (((joinL [32] g).length : Int) + 1 + (g'.headD []).length ≤ width)
def Gd (width : Int) : List (List (List Nat)) → Prop
  | [] => True
  | [g] => Fit width g
  | g :: g' :: r => Fit width g ∧ Brk width g g' ∧ Gd width (g' :: r)

theorem Gd.tail {width : Int} {g : List (List Nat)} {gs : List (List (List Nat))} (h : Gd width (g :: gs)) : Gd width gs := by
  cases gs with
  | nil => trivial
  | cons g' r => exact h.2.2
theorem Gd.head {width : Int} {g : List (List Nat)} {gs : List (List (List Nat))} (h : Gd width (g :: gs)) : Fit width g := by
  cases gs with
  | nil => exact h
  | cons g' r => exact h.1
theorem Gd.drop {width : Int} : ∀ (k : Nat) {gs : List (List (List Nat))}, Gd width gs → Gd width (gs.drop k)
  | 0, _, h => h
  | k + 1, [], h => h
  | k + 1, g :: gs, h => Gd.drop k h.tail
theorem Gd.take {width : Int} : ∀ (k : Nat) {gs : List (List (List Nat))}, Gd width gs → Gd width (gs.take k)
  | 0, _, _ => trivial
  | k + 1, [], h => h
  | 1, g :: gs, h => (show Gd width [g] from h.head)
  | k + 2, [g], h => h
  | k + 2, g :: g' :: gs, h => by
    have := Gd.take (k + 1) h.2.2
    exact ⟨h.1, h.2.1, this⟩
theorem sl_upto {α : Type} (b : Nat) (l : List α) : sl none (some (b : Int)) l = l.take b := by
  unfold sl
  simp only [Option.elim, clipAt_nat, List.drop_zero, Nat.sub_zero]
  by_cases hb : b ≤ l.length
  · rw [Nat.min_eq_left hb]
  · rw [Nat.min_eq_right (by omega), List.take_of_length_le (Nat.le_refl _), List.take_of_length_le (by omega)]

/-- the filling by slices -/
def filF (parts : List (List Nat)) (width : Int) (s : List (List Nat) × Int) (i : Nat) : List (List Nat) × Int :=
  if (decide ((1 : Int) + i = parts.length) || (decide (width < ((joinL [32] (sl (some s.2) (some (1 + (i : Int) + 1)) parts)).length : Int)) || false)) = true then (s.1 ++ [joinL [32] (sl (some s.2) (some (1 + (i : Int))) parts)], 1 + i) else s
def fil (parts : List (List Nat)) (width : Int) : List (List Nat) := ((List.range parts.length).foldl (filF parts width) ([], 0)).1

theorem Pln.append {a b : List Nat} (ha : Pln a) (hb : Pln b) : Pln (a ++ b) := fun c h => (List.mem_append.mp h).elim (ha c) (hb c)
theorem Pln.rep (n : Nat) : Pln (rep n [32]) := fun c h => by
  have := mem_rep h; rw [List.mem_singleton.mp this]; exact sp32
theorem Pln.getD {p : List (List Nat)} (h : ∀ t ∈ p, ∀ c ∈ t, sp c = decide (c = 32)) (i : Nat) : Pln (p.getD i []) := by
  rw [List.getD_eq_getElem?_getD]
  cases e : p[i]? with
  | none => intro c hc; cases hc
  | some x => exact h x (List.mem_of_getElem? e)
/-! plain: boxes -/
def wid : List (List Nat) → Nat
  | [] => 0
  | a :: r => max a.length (wid r)
theorem wid_le {ls : List (List Nat)} {B : Nat} (h : Bnd B ls) : wid ls ≤ B := by
  induction ls with
  | nil => exact Nat.zero_le _
  | cons a r ih =>
    have h1 := h a List.mem_cons_self
    have h2 := ih fun x hx => h x (List.mem_cons_of_mem _ hx)
    simp only [wid]; omega
theorem wid_ge {ls : List (List Nat)} : ∀ {a}, a ∈ ls → a.length ≤ wid ls := by
  induction ls with
  | nil => intro a h; cases h
  | cons b r ih =>
    intro a h
    simp only [wid]
    rcases List.mem_cons.mp h with rfl | h
    · omega
    · have := ih h; omega
theorem wid_mem (ls : List (List Nat)) : wid ls = 0 ∨ ∃ a ∈ ls, a.length = wid ls := by
  induction ls with
  | nil => exact .inl rfl
  | cons b r ih =>
    simp only [wid]
    rcases Nat.le_total b.length (wid r) with h | h
    · rw [Nat.max_eq_right h]
      rcases ih with h' | ⟨a, ha, h'⟩
      · exact .inl h'
      · exact .inr ⟨a, List.mem_cons_of_mem _ ha, h'⟩
    · rw [Nat.max_eq_left h]; exact .inr ⟨b, List.mem_cons_self, rfl⟩
theorem wid_max (ls : List (List Nat)) : maxL (0 :: ls.map fun a => (a.length : Int)) = (wid ls : Int) := by
  refine maxL_eq ?_ fun y hy => ?_
  · rcases wid_mem ls with h | ⟨a, ha, h⟩
    · rw [h]; exact List.mem_cons_self
    · exact List.mem_cons_of_mem _ (List.mem_map.mpr ⟨a, ha, by rw [h]⟩)
  · rcases List.mem_cons.mp hy with rfl | hy
    · omega
    · obtain ⟨a, ha, rfl⟩ := List.mem_map.mp hy
      have := wid_ge ha; omega
theorem vInts_lens (ls : List (List Nat)) : vInts (0 :: ls.map fun a => (a.length : Int)) = [V.int 0] ++ ls.map fun a => V.int (a.length : Int) := by simp [vInts]

def rimL (n : Nat) : List Nat := [43] ++ rep n [45] ++ [43]
def boxL (ls : List (List Nat)) : List (List Nat) := [rimL (wid ls)] ++ ls.map (fun a => [124] ++ ljustL a (wid ls : Int) ++ [124]) ++ [rimL (wid ls)]
def unb (ls : List (List Nat)) : List (List Nat) := (sl (some 1) (some (-1)) ls).map fun a => rstripL sp (sl (some 1) (some (-1)) a)

theorem sl_inner {α : Type} (a b : α) (x : List α) : sl (some 1) (some (-1)) ([a] ++ x ++ [b]) = x := by
  have h1 : clipAt (x.length + 2) 1 = 1 := by unfold clipAt; omega
  have h2 : clipAt (x.length + 2) (-1) = x.length + 1 := by unfold clipAt; omega
  unfold sl
  have e : ([a] ++ x ++ [b]).length = x.length + 2 := by simp
  simp only [Option.elim, e, h1, h2]
  simp
theorem unb_cons (a b : List Nat) (x : List (List Nat)) : unb ([a] ++ x ++ [b]) = x.map fun a => rstripL sp (sl (some 1) (some (-1)) a) := by
  unfold unb; rw [sl_inner]
theorem rstripL_snoc (g : Nat → Bool) (l : List Nat) (c : Nat) : rstripL g (l ++ [c]) = if g c then rstripL g l else l ++ [c] := by
  unfold rstripL
  rw [List.reverse_append, List.reverse_singleton, List.singleton_append, List.dropWhile_cons]
  split <;> simp_all
theorem rstripL_blanks (l : List Nat) (n : Nat) : rstripL sp (l ++ List.replicate n 32) = rstripL sp l := by
  induction n with
  | zero => simp
  | succ n ih => rw [List.replicate_succ', ← List.append_assoc, rstripL_snoc, sp32, if_pos rfl, ih]
theorem unb_box (ls : List (List Nat)) : unb (boxL ls) = ls.map (rstripL sp) := by
  unfold boxL
  rw [unb_cons, List.map_map]
  refine List.map_congr_left fun a ha => ?_
  show rstripL sp (sl (some 1) (some (-1)) ([124] ++ ljustL a (wid ls : Int) ++ [124])) = _
  rw [sl_inner, ljustL, rstripL_blanks]
theorem rim_len (n : Nat) : (rimL n).length = n + 2 := by simp [rimL, rep_len']
theorem ljust_len {a : List Nat} {n : Nat} (h : a.length ≤ n) : (ljustL a (n : Int)).length = n := by
  unfold ljustL; simp; omega
theorem box_lens (ls : List (List Nat)) : ∀ a ∈ boxL ls, a.length = wid ls + 2 := by
  intro a ha
  simp only [boxL, List.mem_append, List.mem_singleton, List.mem_map] at ha
  rcases ha with (rfl | ⟨b, hb, rfl⟩) | rfl
  · exact rim_len _
  · have := ljust_len (wid_ge hb); simp only [List.length_append, List.length_singleton, this]; omega
  · exact rim_len _
theorem box_bnd {ls : List (List Nat)} {B : Nat} (h : Bnd B ls) : Bnd (B + 2) (boxL ls) := fun a ha => by
  have := wid_le h; have := box_lens ls a ha; omega
theorem box_length (ls : List (List Nat)) : (boxL ls).length = ls.length + 2 := by simp [boxL]
theorem sp43 : sp 43 = false := by decide +kernel
theorem sp124 : sp 124 = false := by decide +kernel
theorem box_rs (ls : List (List Nat)) : (boxL ls).map (rstripL sp) = boxL ls := by
  have : ∀ a ∈ boxL ls, rstripL sp a = a := by
    intro a ha
    simp only [boxL, List.mem_append, List.mem_singleton, List.mem_map] at ha
    rcases ha with (rfl | ⟨b, hb, rfl⟩) | rfl
    · rw [rimL, rstripL_snoc, sp43]; rfl
    · rw [rstripL_snoc, sp124]; rfl
    · rw [rimL, rstripL_snoc, sp43]; rfl
  rw [List.map_congr_left this, List.map_id']
/-- the end of a row -/
def cutE (row : List Nat) : Nat → Nat
  | 0 => 0
  | i + 1 => if row.getD i 0 ≠ 32 then i + 1 else cutE row i
theorem cutE_eq (row : List Nat) (h : Pln row) : ∀ i, i ≤ row.length → row.take (cutE row i) = rstripL sp (row.take i)
  | 0, _ => by simp [cutE, rstripL]
  | i + 1, hi => by
    have hx : row[i]? = some row[i] := List.getElem?_eq_getElem (by omega)
    have e : row.take (i + 1) = row.take i ++ [row[i]] := by rw [List.take_add_one, hx]; rfl
    have hd : row.getD i 0 = row[i] := by rw [List.getD_eq_getElem?_getD, hx]; rfl
    have hp := h row[i] (List.getElem_mem _)
    rw [e, rstripL_snoc, hp, cutE, hd]
    by_cases h32 : row[i] = 32
    · simp only [h32, ne_eq, not_true_eq_false, if_false, decide_true, if_true]; exact cutE_eq row h i (by omega)
    · simp only [h32, ne_eq, not_false_eq_true, if_true, decide_false, Bool.false_eq_true, if_false]; exact e
-- lines of mine, under names that the library leaves to its users:
-- kwd_rel: a name's kind; ktn_open: a name that may be stored; kwd_less: a built-in by its name; ksw_less: sizes; ktr_rel: a def's contract; tb_rel: one step of an expression; tb_start: an expression; kwd_inv: arguments bound
local macro_rules | `(tactic| kwd_rel) => `(tactic| first | exact kind_of (by assumption) rfl | exact (show Sees _ _ from by assumption) _ _ rfl (by decide))
local macro_rules | `(tactic| ktn_open) => `(tactic| first | exact ⟨rfl, .inl (kind_of (by assumption) rfl)⟩ | exact ⟨rfl, .inr (kind_of (by assumption) rfl)⟩)
local macro_rules | `(tactic| kwd_less) => `(tactic| first | exact (Has.mg (by assumption) _).trans rfl | with_reducible exact Has.len (by assumption) | with_reducible exact Has.range (by assumption) | with_reducible exact Has.max (by assumption) | with_reducible exact Has.min (by assumption) | with_reducible exact Has.sum (by assumption) | with_reducible exact Has.abs (by assumption) | with_reducible exact Has.list (by assumption) | with_reducible exact Has.str (by assumption))
local macro_rules | `(tactic| ksw_less) => `(tactic| first | omega | (simp only [List.length_append, List.length_map, List.length_cons, List.length_nil, List.length_replicate, List.length_range, List.length_take, List.length_drop, rep_len', ljustL_len', rjustL_len', S_nil, List.map_cons, List.map_nil, List.sum_cons, List.sum_nil] at *; omega) | assumption | (refine Nat.le_trans (sl_length_le _ _ _) ?_; omega) | decide)
local macro_rules | `(tactic| kst_p) => `(tactic| first
  | with_reducible exact BinOk.addI _ _ | with_reducible exact BinOk.subI _ _ | with_reducible refine' BinOk.addS _ _ ?_ | with_reducible refine' BinOk.addL _ _ ?_
  | ((with_reducible refine' BinOk.modP _ _ ?a); (case a => decide)) | ((with_reducible refine' BinOk.divP _ _ ?a ?b); (case a => decide); (case b => decide))
  | with_reducible refine' BinOk.mulS _ _ ?_ ?_ | with_reducible refine' BinOk.mulL _ _ ?_ ?_
  | ((with_reducible refine' BinOk.mulI _ _ ?a); (case a => first | exact .inl (by decide) | exact .inr (by decide)))
  | with_reducible refine' BinOk.modP _ _ ?_ | with_reducible refine' BinOk.divP _ _ ?_ ?_ | with_reducible refine' BinOk.mulI _ _ ?_)
-- the depth of data that is compared
local macro_rules | `(tactic| keq_rows) => `(tactic| first | exact .inl (Nat.le_trans (dep_strs _) (by decide)) | exact .inr (Nat.le_trans (dep_strs _) (by decide)) | exact .inl (Nat.le_trans (dep_rows _) (by decide)) | exact .inr (Nat.le_trans (dep_rows _) (by decide)) | exact .inl (Nat.le_trans (dep_ints _) (by decide)) | exact .inl (Nat.le_trans (dep_bool _) (by decide)) | exact .inl (Nat.le_trans (dep_str _) (by decide)) | exact .inr (Nat.le_trans (dep_str _) (by decide)) | exact .inr (Nat.le_trans dep_nil (by decide)) | exact .inr (Nat.le_trans (dep_pair _ _) (by decide)) | exact .inl (Nat.le_trans (dep_pair _ _) (by decide)))
local macro_rules | `(tactic| kd_p) => `(tactic| first
  | with_reducible exact CmpOk.eqS _ _ | with_reducible exact CmpOk.neS _ _ | with_reducible exact CmpOk.eqI _ _ | with_reducible exact CmpOk.neI _ _ | with_reducible exact CmpOk.ltI _ _ | with_reducible exact CmpOk.leI _ _ | with_reducible exact CmpOk.gtI _ _ | with_reducible exact CmpOk.geI _ _ | with_reducible exact CmpOk.isNotNone | with_reducible exact CmpOk.isNotI _
  | ((with_reducible refine' CmpOk.neD _ _ ?d); (case d => keq_rows)) | ((with_reducible refine' CmpOk.eqD _ _ ?d); (case d => keq_rows)))
-- the written texts
local macro_rules | `(tactic| kaf_pre) => `(tactic| first
  | ((with_reducible refine' Ev.cStr (x := Str.ofString " ") (l := [32]) ?a ?b); (case a => exact rfl); (case b => exact rfl))
  | ((with_reducible refine' Ev.cStr (x := Str.ofString "") (l := []) ?a ?b); (case a => exact rfl); (case b => exact rfl))
  | ((with_reducible refine' Ev.cStr (x := Str.ofString "-") (l := [45]) ?a ?b); (case a => exact rfl); (case b => exact rfl))
  | ((with_reducible refine' Ev.cStr (x := Str.ofString "+") (l := [43]) ?a ?b); (case a => exact rfl); (case b => exact rfl))
  | ((with_reducible refine' Ev.cStr (x := Str.ofString "|") (l := [124]) ?a ?b); (case a => exact rfl); (case b => exact rfl))
  | ((with_reducible refine' Ev.cStr (x := Str.ofString ":") (l := [58]) ?a ?b); (case a => exact rfl); (case b => exact rfl))
  | ((with_reducible refine' Ev.cStr (x := Str.ofString ",") (l := [44]) ?a ?b); (case a => exact rfl); (case b => exact rfl))
  | ((with_reducible refine' Ev.cStr (x := Str.ofString ".") (l := [46]) ?a ?b); (case a => exact rfl); (case b => exact rfl))
  | ((with_reducible refine' Ev.cStr (x := Str.ofString " | ") (l := [32, 124, 32]) ?a ?b); (case a => exact rfl); (case b => exact rfl))
  | ((with_reducible refine' Ev.cStr (x := Str.ofString "-+-") (l := [45, 43, 45]) ?a ?b); (case a => exact rfl); (case b => exact rfl))
  | ((with_reducible refine' Ev.cStr (x := Str.ofString "++") (l := [43, 43]) ?a ?b); (case a => exact rfl); (case b => exact rfl))
  | ((with_reducible refine' Ev.cStr (x := Str.ofString "0.00") (l := [48, 46, 48, 48]) ?a ?b); (case a => exact rfl); (case b => exact rfl))
  | ((with_reducible refine' Ev.cStr (x := Str.ofString "refused") (l := [114, 101, 102, 117, 115, 101, 100]) ?a ?b); (case a => exact rfl); (case b => exact rfl))
  | ((with_reducible refine' Ev.cStr (x := Str.ofString "  ") (l := [32, 32]) ?a ?b); (case a => exact rfl); (case b => exact rfl))
  | ((with_reducible refine' Ev.cStr (x := Str.ofString ": ") (l := [58, 32]) ?a ?b); (case a => exact rfl); (case b => exact rfl))
  | ((with_reducible refine' Ev.cStr (x := Str.ofString "key") (l := [107, 101, 121]) ?a ?b); (case a => exact rfl); (case b => exact rfl))
  | ((with_reducible refine' Ev.cStr (x := Str.ofString "value") (l := [118, 97, 108, 117, 101]) ?a ?b); (case a => exact rfl); (case b => exact rfl))
  | ((with_reducible refine' Ev.cStr (x := Str.ofString "0") (l := [48]) ?a ?b); (case a => exact rfl); (case b => exact rfl)))
-- an expression by its make
local macro_rules | `(tactic| ktd_rel) => `(tactic| first
  | with_reducible exact Ev.cInt | with_reducible exact Ev.cBool | with_reducible exact Ev.cNone
  | kaf_pre
  | ((with_reducible refine' Ev.cStr ?a ?b); (case a => exact rfl); (case b => exact rfl))
  | ((with_reducible refine' Ev.name ?a ?b); (case a => exact rfl); (case b => exact rfl))
  | ((with_reducible refine' Ev.nameOwn ?a ?b); (case a => exact rfl); (case b => exact rfl))
  | with_reducible refine' Ev.bin ?_ ?_ ?_
  | ((with_reducible refine' Ev.len ?hk ?hg ?hb ?_ ?_ ?_ ?he); (case hk => kwd_rel); (case hg => kwd_less); (case hb => kwd_less); (case he => exact rfl))
  | with_reducible refine' Ev.neg ?_
  | ((with_reducible refine' Ev.callA ?_ ?_ ?hk ?_ ?hd ?hst); (case hk => kwd_rel); (case hd => exact rfl); (case hst => exact ⟨_, _, fun _ => rfl⟩))
  | with_reducible refine' Ev.tuple ?_ ?_ | with_reducible refine' Ev.list ?_ ?_
  | ((with_reducible refine' EvN.ev (EvN.split0 ?_ ?_ ?hb ?hl)); (case hb => exact rfl); (case hl => exact rfl))
  | ((with_reducible refine' Ev.join ?_ ?_ ?_ ?hb ?hs ?hl); (case hb => exact rfl); (case hs => exact rfl); (case hl => exact rfl))
  | ((with_reducible refine' Ev.strip0 ?_ ?_ ?hb ?hl); (case hb => exact rfl); (case hl => exact rfl))
  | ((with_reducible refine' Ev.rstrip0 ?_ ?_ ?hb ?hl); (case hb => exact rfl); (case hl => exact rfl))
  | ((with_reducible refine' Ev.ljust ?_ ?_ ?_ ?hb ?hs ?hl); (case hb => exact rfl); (case hs => exact rfl); (case hl => exact rfl))
  | ((with_reducible refine' Ev.rjust ?_ ?_ ?_ ?hb ?hs ?hl); (case hb => exact rfl); (case hs => exact rfl); (case hl => exact rfl))
  | with_reducible refine' Ev.slice ?_ ?_ ?_ ?_
  | ((with_reducible refine' Ev.sub ?_ ?_ ?_ ?hs); (case hs => intro _ _; with_unfolding_all rfl))
  | ((with_reducible show Ev _ _ (.ListComp _ _ _ _) _ _); walk_at "cmp")
  | kct_strs)
local macro_rules | `(tactic| tb_rel) => `(tactic| first
  | ((with_reducible show Ev _ _ _ _ _); ktd_rel)
  | ((with_reducible show Evs _ _ _ _ _); first | with_reducible exact Evs.nil | ((with_reducible refine' Evs.cons ?_ ?_ ?he); (case he => exact rfl)))
  | ((with_reducible show BinOk _ _ _ _); kst_p)
  | ((with_reducible show CmpOk _ _ _ _); kd_p)
  | ((with_reducible show LenOk _ _); first | with_reducible exact LenOk.str _ | with_reducible exact LenOk.strs _ | with_reducible exact LenOk.ints _ | with_reducible exact LenOk.list _)
  | ((with_reducible show SubOk _ _ _); first | with_reducible refine' SubOk.strs _ _ ?_ ?_ ?_ | with_reducible refine' SubOk.lstrs _ _ ?_ ?_ ?_ | with_reducible refine' SubOk.ints _ _ ?_ ?_ ?_ | with_reducible refine' SubOk.intsT _ _ ?_ ?_ ?_ | with_reducible refine' SubOk.sign _ _ ?_ ?_ ?_)
  | ((with_reducible show SlOk _ _ _ _); first | with_reducible refine' SlOk.str _ ?_ | with_reducible refine' SlOk.strs _ ?_ | with_reducible refine' SlOk.list _ ?_)
  | ((with_reducible show Tst _ _ _ _); first | ((with_reducible refine' Tst.cmp ?_ ?_ ?_ ?hm); (case hm => with_unfolding_all rfl)) | with_reducible refine' Tst.not ?_ | with_reducible refine' Tst.boolop ?_ | ((with_reducible refine' Tst.val ?_ ?he); (case he => intro _; exact rfl)))
  | ((with_reducible show Tsts _ _ _ _ _); first | with_reducible exact Tsts.andNil | with_reducible exact Tsts.orNil | with_reducible refine' Tsts.andCons ?_ (fun _ => ?_) | with_reducible refine' Tsts.orCons ?_ (fun _ => ?_))
  | ((with_reducible show EvO _ _ _ _); first | with_reducible exact EvO.none | with_reducible refine' EvO.some ?_)
  | ((with_reducible show Spec _ _ _ _ _ _ _); ktr_rel)
  | ((with_reducible show _ ≤ Cx.n _); exact Nat.le_of_ble_eq_true rfl))
local macro_rules | `(tactic| tb_start) => `(tactic| repeat' tb_rel)
local macro_rules | `(tactic| kwd_inv) => `(tactic| first | (refine all1 ?_; intro a; rfl) | (refine all2 ?_; intro a b; rfl) | (refine all3 ?_; intro a b c; rfl) | (refine all4 ?_; intro a b c d; rfl))
-- statements
local macro_rules | `(tactic| walk_at "fn") => `(tactic| refine Spec.of_run (FnAt.of ((Has.mg (by assumption) _).trans rfl) (by rw [Has.k (by assumption)]; rfl) rfl rfl rfl rfl rfl rfl rfl (by kwd_inv) rfl (by rw [Has.k (by assumption)]; rfl) rfl rfl) ?_ rfl (by decide) (by decide) rfl rfl rfl)
local macro_rules | `(tactic| walk_at "sz") => `(tactic| (all_goals (first | (with_reducible show Run _ _ _ _) | ksw_less | skip)))
local macro_rules | `(tactic| walk_at "ret") => `(tactic| ((try dsimp only [catS]); (with_reducible refine' Run.ret (Ex.ret ?_)); tb_start; walk_at "sz"))
local macro_rules | `(tactic| walk_at "asg") => `(tactic| ((try dsimp only [catS]); (with_reducible refine' Run.cons (Ex.assign ?_ ?hx ?hs) ?_); (case hx => ktn_open); (case hs => exact rfl); tb_start; walk_at "sz"))
local macro_rules | `(tactic| walk_at "own") => `(tactic| ((try dsimp only [catS]); (with_reducible refine' Run.cons (Ex.assignOwn (EvN.list ?_ ?_) ?hx ?hs) ?_); (case hx => ktn_open); (case hs => exact rfl); tb_start; walk_at "sz"))
local macro_rules | `(tactic| walk_at "app") => `(tactic| ((try dsimp only [catS]); (with_reducible refine' Run.cons (Ex.append ?ha ?_ ?_ ?hb ?hst ?hl ?hi ?hd) ?_); (case ha => exact rfl); (case hb => exact rfl); (case hst => exact rfl); (case hl => exact rfl); (case hi => exact inter_of (by assumption) rfl); (case hd => exact rfl); tb_start; walk_at "sz"))
local macro_rules | `(tactic| walk_at "if") => `(tactic| ((try dsimp only [catS]); (with_reducible refine' Run.if ?_ ?_ ?_); tb_start; walk_at "sz"))
local macro_rules | `(tactic| walk_at "wk") => `(tactic| ((try dsimp only [catS]); (with_reducible refine' Run.nilW ?_); repeat' (first | exact List.forall_mem_nil _ | (refine List.forall_mem_cons.mpr ⟨?_, ?_⟩)) <;> first | exact rfl | (simp only [vStrs_snoc, vInts_snoc]; exact rfl) | skip))
local macro_rules | `(tactic| walk_at "w0") => `(tactic| (repeat' (first | exact List.forall_mem_nil _ | (refine List.forall_mem_cons.mpr ⟨?_, ?_⟩))) <;> exact rfl)
local macro_rules | `(tactic| walk_at "it") => `(tactic| first
  | ((with_reducible refine' It.range1 ?hk ?hg ?hb ?_ ?_ ?he); (case hk => kwd_rel); (case hg => kwd_less); (case hb => kwd_less); (case he => exact rfl); tb_start; walk_at "sz")
  | ((with_reducible refine' It.range2 ?hk ?hg ?hb ?_ ?_ ?_ ?_ ?he ?he'); (case hk => kwd_rel); (case hg => kwd_less); (case hb => kwd_less); (case he => exact rfl); (case he' => exact rfl); tb_start; walk_at "sz")
  | ((with_reducible refine' It.str ?_); tb_start; walk_at "sz")
  | ((with_reducible refine' It.list ?_); tb_start; walk_at "sz"))
local macro_rules | `(tactic| walk_at "ifF") => `(tactic| ((try dsimp only [catS]); (with_reducible refine' Run.ifF ?_ ?_ ?_); tb_start; walk_at "sz"))
local macro_rules | `(tactic| walk_at "ifT") => `(tactic| ((try dsimp only [catS]); (with_reducible refine' Run.ifT ?_ ?_ ?_); tb_start; walk_at "sz"))

-- comprehensions
local macro_rules | `(tactic| walk_at "cok") => `(tactic| ((with_reducible refine' CompOk.of ?c1 ?c2 ?c3 ?c4 ?c5); (case c2 => exact rfl); (case c3 => exact rfl); (case c4 => exact rfl); (case c5 => exact rfl); (case c1 => ((repeat' (first | exact List.forall_mem_nil _ | (refine List.forall_mem_cons.mpr ⟨?_, ?_⟩))) <;> first | (intro _; exact kind_of (by assumption) rfl) | (intro e; cases e)))))
local macro_rules | `(tactic| walk_at "elt") => `(tactic| (intro env' s' P' i' a' hsees hget; (try have hB := Bnd.at (by assumption) hget); tb_start; walk_at "sz"))
local macro_rules | `(tactic| walk_at "cmp") => `(tactic| first
  | ((with_reducible refine' EvN.ev (EvN.compM V.str str_inj _ _ ?hi ?ok ?helt ?hsz ?hs)); (case hs => intro _; exact rfl); (case' hi => walk_at "it"); (case ok => walk_at "cok"); (case' helt => walk_at "elt"); (case' hsz => walk_at "sz")))
local macro_rules | `(tactic| walk_at "asc") => `(tactic| ((try dsimp only [catS]); (with_reducible refine' Run.cons (Ex.compM V.str str_inj _ _ ?hi ?ok ?helt ?hsz rfl ?hy ?hl ?hx ?hs) ?_); (case hs => intro _; exact rfl); (case hy => exact kind_of (by assumption) rfl); (case hl => exact rfl); (case hx => exact rfl); (case' hi => walk_at "it"); (case ok => walk_at "cok"); (case' helt => walk_at "elt"); (case' hsz => walk_at "sz")))
--USE Plain1.part Plain2.part
def pool304 : List (List Nat) := [[], [120], [124, 121, 124], [43, 45, 45, 43], [97, 32, 98, 32, 32, 99], [45], [101, 110, 100, 46, 124, 32, 32, 43]]
def cell304 (ns : List Int) (i : Int) : Int := if i < ns.length then ns.getD i.toNat 0 else 0
def line304 (ns : List Int) (a : Int) : List Nat := rep (cell304 ns a % 3).toNat [32] ++ pool304.getD (cell304 ns (a + 1) % 7).toNat [] ++ rep (cell304 ns (a + 2) % 4).toNat [32]
def sheet304 (ns : List Int) : Nat → List (List Nat)
  | 0 => []
  | i + 1 => sheet304 ns i ++ [line304 ns (1 + 3 * (0 + (i : Int)))]
theorem line304_len (ns : List Int) (a : Int) : (line304 ns a).length ≤ 13 := by
  have h2 := getD_len (p := pool304) (B := 8) (by decide) (cell304 ns (a + 1) % 7).toNat
  simp only [line304, List.length_append, rep_len', List.length_singleton]
  omega
theorem line304_pln (ns : List Int) (a : Int) : Pln (line304 ns a) := ((Pln.rep _).append (Pln.getD (by decide +kernel) _)).append (Pln.rep _)
theorem sheet304_all (ns : List Int) : ∀ i, (sheet304 ns i).length = i ∧ ∀ l ∈ sheet304 ns i, l.length ≤ 13 ∧ Pln l
  | 0 => ⟨rfl, fun l hl => by cases hl⟩
  | i + 1 => by
    obtain ⟨h1, h2⟩ := sheet304_all ns i
    refine ⟨by simp [sheet304, h1], fun l hl => ?_⟩
    rcases List.mem_append.mp hl with hl | hl
    · exact h2 l hl
    · rw [List.mem_singleton.mp hl]; exact ⟨line304_len _ _, line304_pln _ _⟩
def longF (m : Nat) (row : List Nat) : Nat := if m < row.length then row.length else m
theorem longF_eq (ls : List (List Nat)) : ls.foldl longF 0 = wid ls := by
  have key : ∀ (ls : List (List Nat)) (m : Nat), ls.foldl longF m = max m (wid ls) := by
    intro ls
    induction ls with
    | nil => intro m; simp [wid]
    | cons a r ih => intro m; rw [List.foldl_cons, ih, longF, wid]; split <;> omega
  rw [key]; simp
def frF (n : Nat) (s : List (List Nat)) (row : List Nat) : List (List Nat) := s ++ [[124] ++ row ++ rep (n - row.length) [32] ++ [124]]
theorem rep_blank (n : Nat) : rep n [32] = List.replicate n 32 := by
  induction n with
  | zero => rfl
  | succ n ih => rw [rep, List.replicate_succ, List.flatten_cons, ← rep, ih]; rfl
theorem frF_eq (n : Nat) (ls s : List (List Nat)) : ls.foldl (frF n) s = s ++ ls.map fun a => [124] ++ ljustL a (n : Int) ++ [124] := by
  induction ls generalizing s with
  | nil => simp
  | cons a r ih => rw [List.foldl_cons, ih, frF, List.map_cons, ljustL, rep_blank]; simp

open_top hd for PySem.Challenge.rw_pd_scribe_3_04
section
variable {pr : Program} {w : World} {G : Gl} (h : Has hd.heap_39 w G)
include h
theorem sp_boxed (ls : List (List Nat)) (hl : ls.length ≤ 1000) (hb : Bnd 2000 ls) : Spec G pr w 1 "boxed" [.list (vStrs ls)] (.list (vStrs (boxL ls))) := by
  walk_at "fn"
  intro A env s₀ P hs
  dsimp only [zipσ, List.map_cons, List.map_nil] at hs ⊢
  have hw := wid_le hb
  refine Run.cons (Ex.assign (d := .int (wid ls)) (by
    rw [← wid_max]
    refine Ev.maxList (by kwd_rel) (by kwd_less) (by kwd_less) ?_ (by simp) rfl
    rw [vInts_lens]
    tb_start
    walk_at "sz") (by ktn_open) rfl) ?_
  walk_at "asg"
  rw [show vStrs (boxL ls) = [V.str (rimL (wid ls))] ++ ls.map (fun a => V.str ([124] ++ ljustL a (wid ls : Int) ++ [124])) ++ [V.str (rimL (wid ls))] by simp [boxL, vStrs, Function.comp_def], rimL]
  rw [show rep (wid ls) [45] = rep (wid ls : Int).toNat [45] from rfl]
  walk_at "ret"

theorem sp_unboxed (ls : List (List Nat)) (hl : ls.length ≤ 1000) (hb : Bnd 2000 ls) : Spec G pr w 1 "unboxed" [.list (vStrs ls)] (.list (vStrs (unb ls))) := by
  walk_at "fn"
  intro A env s₀ P hs
  dsimp only [zipσ, List.map_cons, List.map_nil] at hs ⊢
  have h2 : Bnd 2000 (sl (some 1) (some (-1)) ls) := fun a ha => hb a (mem_sl ha)
  have h3 := sl_length_le (some 1) (some (-1)) ls
  rw [show vStrs (unb ls) = (sl (some 1) (some (-1)) ls).map fun a => V.str (rstripL sp (sl (some 1) (some (-1)) a)) by simp [unb, vStrs, Function.comp_def]]
  clear hb
  walk_at "ret"

local macro_rules | `(tactic| ktr_rel) => `(tactic| (with_reducible refine' sp_boxed ?h _ ?_ ?_; (case h => assumption)))
local macro_rules | `(tactic| ktr_rel) => `(tactic| (with_reducible refine' sp_unboxed ?h _ ?_ ?_; (case h => assumption)))

theorem sp_cell (ns : List Int) (i : Int) (hn : ns.length ≤ 63) (hi : 0 ≤ i) : Spec G pr w 1 "_law_cell" [.list (vInts ns), .int i] (.int (cell304 ns i)) := by
  walk_at "fn"
  intro A env s₀ P hs
  dsimp only [zipσ, List.map_cons, List.map_nil] at hs ⊢
  walk_at "if"
  walk_at "sz"
  all_goals intro hb
  all_goals simp only [decide_eq_true_eq, decide_eq_false_iff_not, List.length_map] at hb
  · rw [show cell304 ns i = ns.getD i.toNat 0 from if_pos hb]
    walk_at "ret"
  · rw [show cell304 ns i = 0 from if_neg hb]
    walk_at "ret"

local macro_rules | `(tactic| ktr_rel) => `(tactic| (with_reducible refine' sp_cell ?h _ _ ?_ ?_; (case h => assumption)))
local macro_rules | `(tactic| kct_strs) => `(tactic| ((with_reducible refine' Ev.table (x := "_law_pool") (ds := vStrs pool304) ?hk ?hm ?hl ?hc ?hd ?hv ?hdb); (case hk => kwd_rel); (case hm => kwd_less); (case hl => rw [Has.k (by assumption)]; exact rfl); (case hc => exact rfl); (case hd => exact rfl); (case hv => exact rfl); (case hdb => exact rfl)))

theorem sp_line (ns : List Int) (a : Int) (hn : ns.length ≤ 63) (ha : 0 ≤ a) : Spec G pr w 2 "_law_line" [.list (vInts ns), .int a] (.str (line304 ns a)) := by
  walk_at "fn"
  intro A env s₀ P hs
  dsimp only [zipσ, List.map_cons, List.map_nil] at hs ⊢
  have hp : pool304.length = 7 := rfl
  have h2 := getD_len (p := pool304) (B := 8) (by decide) (cell304 ns (a + 1) % 7).toNat
  have h3 : 0 ≤ cell304 ns a % 3 ∧ cell304 ns a % 3 < 3 := by omega
  have h7 : 0 ≤ cell304 ns (a + 1) % 7 ∧ cell304 ns (a + 1) % 7 < 7 := by omega
  have h4 : 0 ≤ cell304 ns (a + 2) % 4 ∧ cell304 ns (a + 2) % 4 < 4 := by omega
  walk_at "asg"
  walk_at "asg"
  walk_at "asg"
  rw [line304]
  walk_at "ret"
local macro_rules | `(tactic| ktr_rel) => `(tactic| (with_reducible refine' sp_line ?h _ _ ?_ ?_; (case h => assumption)))

theorem sp_sheet (ns : List Int) (hn : ns.length ≤ 63) : Spec G pr w 3 "_law_sheet" [.list (vInts ns)] (.list (vStrs (sheet304 ns (cell304 ns 0 % 5).toNat))) := by
  walk_at "fn"
  intro A env s₀ P hs
  dsimp only [zipσ, List.map_cons, List.map_nil] at hs ⊢
  walk_at "own"
  have h5 : 0 ≤ cell304 ns 0 % 5 ∧ cell304 ns 0 % 5 < 5 := by omega
  refine Run.forRange (a := 0) (n := (cell304 ns 0 % 5).toNat) (fun i => [("sheet", .own (vStrs (sheet304 ns i))), ("script", .dat (.list (vInts ns)))]) ?hi ?hx ?hw ?hst ?_
  case hi => walk_at "it"; walk_at "sz"
  case hx => ktn_open
  case hw => walk_at "w0"
  case hst =>
    intro i hi
    have hl := (sheet304_all ns i).1
    have hll := line304_len ns (1 + 3 * (0 + (i : Int)))
    walk_at "app"
    rw [sheet304]
    walk_at "wk"
  walk_at "ret"

theorem sp_cut (row : List Nat) (hl : row.length ≤ 1000) (hp : Pln row) : Spec G pr w 1 "_law_cut" [.str row] (.str (rstripL sp row)) := by
  walk_at "fn"
  intro A env s₀ P hs
  dsimp only [zipσ, List.map_cons, List.map_nil] at hs ⊢
  walk_at "asg"
  refine Run.forRange (a := 0) (n := row.length) (fun i => [("end", .dat (.int (cutE row i))), ("row", .dat (.str row))]) ?hi ?hx ?hw ?hst ?_
  case hi => rw [show row.length = ((row.length : Nat) : Int).toNat from rfl]; walk_at "it"
  case hx => ktn_open
  case hw => walk_at "w0"
  case hst =>
    intro i hi
    walk_at "if"
    all_goals intro hb
    all_goals simp at hb
    · rw [cutE, if_pos (by simpa using hb)]
      walk_at "asg"
      rw [show (0 : Int) + (i : Int) + 1 = ((i + 1 : Nat) : Int) by omega]
      walk_at "wk"
    · rw [cutE, if_neg (by simpa using hb)]
      walk_at "wk"
  rw [← show sl none (some (cutE row row.length : Int)) row = rstripL sp row by rw [sl_upto, cutE_eq row hp _ (Nat.le_refl _), List.take_length]]
  walk_at "ret"

theorem sp_frame (ls : List (List Nat)) (hl : ls.length ≤ 500) (hb : Bnd 1000 ls) : Spec G pr w 1 "_law_frame" [.list (vStrs ls)] (.list (vStrs (boxL ls))) := by
  walk_at "fn"
  intro A env s₀ P hs
  dsimp only [zipσ, List.map_cons, List.map_nil] at hs ⊢
  have hw := wid_le hb
  walk_at "asg"
  refine Run.forFold V.str ls (fun s => [("longest", .dat (.int (s : Nat))), ("sheet", .dat (.list (vStrs ls)))]) longF 0 (fun i s => True) ?hi ?hx ?h0 ?hw ?hst ?hc
  case hx => ktn_open
  case hw => walk_at "w0"
  case h0 => trivial
  case hi => walk_at "it"
  case hst =>
    intro i m row hj _
    have hr := Bnd.at hb hj
    refine ⟨trivial, ?_⟩
    walk_at "if"
    all_goals intro hb'
    all_goals simp at hb'
    · rw [longF, if_pos hb']
      walk_at "asg"
      walk_at "wk"
    · rw [longF, if_neg (by omega)]
      walk_at "wk"
  case hc =>
    intro _
    rw [longF_eq]
    walk_at "asg"
    refine Run.forRange (a := 0) (n := wid ls) (fun i => [("rim", .dat (.str ([43] ++ rep i [45]))), ("longest", .dat (.int (wid ls))), ("sheet", .dat (.list (vStrs ls)))]) ?hi ?hx ?hw ?hst ?_
    case hi => rw [show wid ls = ((wid ls : Nat) : Int).toNat from rfl]; walk_at "it"
    case hx => ktn_open
    case hw => walk_at "w0"
    case hst =>
      intro i hi
      walk_at "asg"
      rw [show [43] ++ rep (i + 1) [45] = [43] ++ rep i [45] ++ [45] by simp [rep, List.replicate_succ']]
      walk_at "wk"
    walk_at "asg"
    rw [show [43] ++ rep (wid ls) [45] ++ [43] = rimL (wid ls) from rfl]
    have hrl := rim_len (wid ls)
    walk_at "own"
    refine Run.forFold V.str ls (fun s => [("framed", .own (vStrs s)), ("rim", .dat (.str (rimL (wid ls)))), ("longest", .dat (.int (wid ls))), ("sheet", .dat (.list (vStrs ls)))]) (frF (wid ls)) [rimL (wid ls)] (fun i s => s.length = i + 1) ?hi ?hx ?h0 ?hw ?hst ?hc
    case hx => ktn_open
    case hw => walk_at "w0"
    case h0 => rfl
    case hi => walk_at "it"
    case hst =>
      intro i fr row hj hfr
      have hr := Bnd.at hb hj
      have hrw := wid_ge (List.mem_of_getElem? hj)
      have hi : i < ls.length := (List.getElem?_eq_some_iff.mp hj).1
      refine ⟨by simp [frF, hfr], ?_⟩
      walk_at "asg"
      refine Run.forRange (a := 0) (n := wid ls - row.length) (fun k => [("filled", .dat (.str ([124] ++ row ++ rep k [32]))), ("framed", .own (vStrs fr)), ("rim", .dat (.str (rimL (wid ls)))), ("longest", .dat (.int (wid ls))), ("sheet", .dat (.list (vStrs ls)))]) ?hi ?hx ?hw ?hst ?_
      case hi => rw [show wid ls - row.length = ((wid ls : Int) - (row.length : Int)).toNat by omega]; walk_at "it"
      case hx => ktn_open
      case hw => rw [show [124] ++ row ++ rep 0 [32] = [124] ++ row by simp [rep]]; walk_at "w0"
      case hst =>
        intro k hk
        walk_at "asg"
        rw [show [124] ++ row ++ rep (k + 1) [32] = [124] ++ row ++ rep k [32] ++ [32] by simp [rep, List.replicate_succ']]
        walk_at "wk"
      walk_at "app"
      rw [frF]
      walk_at "wk"
    case hc =>
      rw [frF_eq]
      intro hlen
      simp only [List.length_append, List.length_map, List.length_singleton] at hlen
      walk_at "app"
      rw [show vStrs (boxL ls) = vStrs ([rimL (wid ls)] ++ ls.map fun a => [124] ++ ljustL a (wid ls : Int) ++ [124]) ++ [.str (rimL (wid ls))] by rw [boxL, vStrs_snoc]]
      walk_at "ret"
local macro_rules | `(tactic| ktr_rel) => `(tactic| (with_reducible refine' sp_sheet ?h _ ?_; (case h => assumption)))
local macro_rules | `(tactic| ktr_rel) => `(tactic| (with_reducible refine' sp_cut ?h _ ?_ ?_; (case h => assumption)))
local macro_rules | `(tactic| ktr_rel) => `(tactic| (with_reducible refine' sp_frame ?h _ ?_ ?_; (case h => assumption)))

theorem sp_law (ns : List Int) (hn : ns.length ≤ 63) : Spec G pr w 4 "law" [.list (vInts ns)] (.bool true) := by
  walk_at "fn"
  intro A env s₀ P hs
  dsimp only [zipσ, List.map_cons, List.map_nil] at hs ⊢
  have h5 : 0 ≤ cell304 ns 0 % 5 ∧ cell304 ns 0 % 5 < 5 := by omega
  obtain ⟨hl, hall⟩ := sheet304_all ns (cell304 ns 0 % 5).toNat
  walk_at "asg"
  generalize sheet304 ns (cell304 ns 0 % 5).toNat = sheet at hl hall ⊢
  have hlen : sheet.length ≤ 5 := by omega
  have hb : Bnd 13 sheet := fun a ha => (hall a ha).1
  have hp : ∀ a ∈ sheet, Pln a := fun a ha => (hall a ha).2
  clear hl hall h5
  walk_at "asc"
  refine Run.cons (Ex.compM V.str str_inj sheet (fun a => V.str (rstripL sp a)) ?hi ?ok ?helt ?hsz rfl ?hy ?hl ?hx ?hs) ?_
  case hs => intro _; exact rfl
  case hy => exact kind_of (by assumption) rfl
  case hl => exact rfl
  case hx => exact rfl
  case hi => walk_at "it"
  case ok => walk_at "cok"
  case hsz => walk_at "sz"
  case helt =>
    intro env' s' P' i' a hsees hget
    have hB := Bnd.at hb hget
    have hpa := hp a (List.mem_of_getElem? hget)
    tb_start
    walk_at "sz"
  have hb1 : Bnd 1000 sheet := fun a ha => Nat.le_trans (hb a ha) (by decide)
  have hb1' : Bnd 2000 sheet := fun a ha => Nat.le_trans (hb a ha) (by decide)
  have hbb : Bnd 15 (boxL sheet) := box_bnd hb
  have hb2 : Bnd 1000 (boxL sheet) := fun a ha => Nat.le_trans (hbb a ha) (by decide)
  have hb2' : Bnd 2000 (boxL sheet) := fun a ha => Nat.le_trans (hbb a ha) (by decide)
  have hb3' : Bnd 2000 (boxL (boxL sheet)) := fun a ha => Nat.le_trans (box_bnd hbb a ha) (by decide)
  have hl1 := box_length sheet
  have hl2 := box_length (boxL sheet)
  walk_at "asg"
  walk_at "asg"
  walk_at "asg"
  walk_at "ifF"
  · exact ne_refl rfl
  walk_at "ifF"
  · exact ne_refl rfl
  have hu1 : unb (boxL sheet) = sheet.map (rstripL sp) := unb_box sheet
  have hu2 : unb (boxL (boxL sheet)) = boxL sheet := by rw [unb_box, box_rs]
  have hv : sheet.map (fun a => V.str (rstripL sp a)) = vStrs (sheet.map (rstripL sp)) := by simp [vStrs, Function.comp_def]
  rw [hv]
  walk_at "if"
  all_goals intro hk
  · have h0 : sheet = [] := by simpa using hk
    walk_at "ifF"
    · rw [h0]; decide
    rw [← hu1]
    walk_at "ifF"
    · exact ne_refl rfl
    walk_at "ifF"
    · exact ne_refl rfl
    walk_at "asg"
    walk_at "ifF"
    · exact ne_refl rfl
    walk_at "ifF"
    · exact ne_refl rfl
    walk_at "asg"
    rw [hu2]
    walk_at "ifF"
    · exact ne_refl rfl
    walk_at "ifF"
    · exact ne_refl rfl
    walk_at "ifF"
    · exact ne_refl rfl
    walk_at "ifF"
    · exact ne_refl rfl
    walk_at "ifF"
    · exact ne_refl rfl
    walk_at "ret"
  · rw [← hu1]
    walk_at "ifF"
    · exact ne_refl rfl
    walk_at "ifF"
    · exact ne_refl rfl
    walk_at "asg"
    walk_at "ifF"
    · exact ne_refl rfl
    walk_at "ifF"
    · exact ne_refl rfl
    walk_at "asg"
    rw [hu2]
    walk_at "ifF"
    · exact ne_refl rfl
    walk_at "ifF"
    · exact ne_refl rfl
    walk_at "ifF"
    · exact ne_refl rfl
    walk_at "ifF"
    · exact ne_refl rfl
    walk_at "ifF"
    · exact ne_refl rfl
    walk_at "ret"
end
end Mine

open PySem.W in
theorem PySem.Challenge.cw_pd_scribe_3_04_holds : PySem.Challenge.rw_pd_scribe_3_04.Holds := by
  refine Mine.hd ?_
  intro w s₀ s₁ mg mb G Y fa o pm cd doc dV kV ho hd hcd hD hmg hg args vals as hpre hlay hrd hwl hlo
  have KX := kIn_of Y
  clear hD hcd hd
  refine Ground.open G ?_
  intro T B D TE TW
  have h1 := T.g
  have h2 := T.b
  have h3 := T.nolimit
  have h4 := T.nodigits
  have h5 := T.builtins
  clear T B D TE TW G Y
  wrow_args hpre hlay hrd hwl hlo
  rename Well _ _ _ _ => hW
  have hlen := hW
  refine Mine.enter ⟨h1, h2, h3, h4, KX⟩ hmg (n := 4) ?_ (by decide) hW hg (raisesW_false (by intro ct hct; cases hct)) (postW_of (X := true == true) rfl (show (WTm.eq .res (.lit (.bool true))).value _ _ = _ from w_eq_bool (w_res rfl) w_lit) rfl)
  exact Mine.sp_law (Mine.has_of h1 KX rfl rfl h5) _ (by omega)
